import Derived.Test.YtlmfmmclnboglaaGreatS2
set_option linter.all false
section
namespace Go.Proofs.YtlmfmmclnboglaaGreat
open Go Go.Proofs.YtlmfmmclnboglaaGreat.Abs
set_option maxRecDepth 100000
set_option maxHeartbeats 0
def ldF (hp:HP)(k:Nat)(x:AV)(c:AV→KR):KR:=Zd (Ir k x) fun v=>Zd (Qn hp v) c
def Wl (o:HP)(v:AV)(q:HP)(g:Eff):KR:=some (Vm false o v q g)
theorem Zxp (o:HP)(v:AV)(q:HP)(g:Eff):Wl o v q g=some (Vm false o v q g):=rfl
@[congr] theorem Z6q {hp:HP}{k:Nat}{x x':AV}{c:AV→KR}(h:x=x'):ldF hp k x c=ldF hp k x' c:=by rw [h]
theorem Z0T (hp:HP)(k:Nat)(x:AV)(c:AV→KR):ldF hp k x c=Zd (Ir k x) fun v=>Zd (Qn hp v) c:=rfl
def EVQ:=And.intro Zxp <| And.intro Z0T <| And.intro @Z4j <| And.intro @Z4h <| And.intro @Z4i <| And.intro @Z6e <| And.intro @Zyp <| And.intro @Zyo <| And.intro @ZvY <| And.intro @ZvX <| And.intro @Z1x <| And.intro @Z1w <| And.intro @Z6d <| And.intro @Zq4 <| And.intro @Z4t <| And.intro @Zy8 <| And.intro @Zy9 <| And.intro @Z0M <| And.intro @Z3L <| And.intro @Z3N <| And.intro @Z3K <| And.intro @Z3M <| And.intro @Z3J <| And.intro @Z3T <| And.intro @Z1T <| And.intro @Z4u <| And.intro @Z40 <| And.intro @Z4v <| And.intro @Z4x <| And.intro @Z4s <| And.intro @Z41 <| And.intro @Z4y <| And.intro @Z4w <| And.intro @Z4z <| And.intro @Z6I <| And.intro @Zzb <| And.intro @Z1g <| And.intro @Z3W <| And.intro @Z4b <| And.intro @Z3X <| And.intro @Z3Z <| And.intro @Za9 <| And.intro @Z4a <| And.intro @Z3Y <| And.intro @Z6v <| And.intro @Z5M <| And.intro @Z5T <| And.intro @Z5P <| And.intro @Z7F <| And.intro @Z7K <| And.intro @Z7J <| And.intro @Z7I <| And.intro @Z7H <| And.intro @Z7G <| And.intro @Z7N <| And.intro @Z7O <| And.intro @Z6C <| And.intro @Z6E <| And.intro @Z4l <| And.intro @Z6D <| And.intro @Z7M <| And.intro @Z5O <| And.intro @Z5R <| And.intro @Z5N <| And.intro @Z5Q <| And.intro @Option.map_some.{0,0} <| And.intro @Z6W <| And.intro @Z6V <| And.intro @Z6l <| And.intro @Z6k <| And.intro @Z5X <| And.intro @Z6X <| And.intro @Ztf <| And.intro @Zyh <| And.intro @Z0E <| And.intro @Z0H <| And.intro @Z0F <| And.intro @Z0G <| And.intro @Zxq <| And.intro @Zyl <| And.intro @Zyn <| And.intro @ZvV <| And.intro @Zym <| And.intro @Z0A <| And.intro @Z09 <| @Z0V
def BLQ:=And.intro @Bool.not_true <| And.intro @Bool.not_false <| And.intro @Bool.and_true <| And.intro @Bool.true_and <| And.intro @Bool.and_false <| And.intro @Bool.false_and <| And.intro @Bool.or_true <| And.intro @Bool.true_or <| And.intro @Bool.or_false <| And.intro @Bool.false_or <| And.intro @Bool.and_self <| And.intro @Bool.or_self <| And.intro @Bool.false_eq_true <| And.intro @Bool.true_eq_false <| And.intro @decide_true <| And.intro @decide_false <| And.intro @not_true_eq_false <| @not_false_eq_true
theorem lpI {f:IE→IE}{D:Nat→IE}(h0:(fun _ _ _=>none)=D 0)(hs:∀ m,f (D m)=D (m + 1)):∀ m,ZqA f m=D m
  | 0=>h0
  | m + 1=>by
    show f (ZqA f m)=_
    rw [lpI h0 hs m]; exact hs m
theorem lpJ {f:IE→IE} (D:Nat→IE) (h0:(fun _ _ _=>none)=D 0) (hs:∀ m,f (D m)=D (m + 1)) (L:Nat):ZqA f L=D L:=lpI h0 hs L
def RunT (C:Cfg) (f:FuncId) (a:AFn) (l:List AV) (D:KT→HP→KR):Prop:=C.T f=some a→∀ {n:Nat} {hp:HP} {r:AV×HP×Eff},D (Za C n) hp=some r→Za C (n + 1) f l hp=some r
theorem runT {C:Cfg} {f:FuncId} {a:AFn} {l:List AV} {D:KT→HP→KR} {P:List Nat} (hl:Nat.ble l.length a.ntmps=true) (he:∀ K hp,fnK C.G K P C.L a l hp=D K hp):RunT C f a l D:=fun h _ _ _ hr=>Z6a h (Nat.le_of_ble_eq_true hl) ((he ..).trans hr)
variable (G:GT)(K:KT)(L:Nat)(o:HP)
def DD (G:GT)(K:KT)(L:Nat)(x0 x1:AV)(o:HP):KR :=
  Zd (MN 4 (AV.ro x0)) fun v1=>UK (o ++ [.cells v1 Yo]) fun h0=>Zd (MN 4 (AV.ro x1)) fun v3=>UK (h0 ++ [.cells v3 Yo]) fun h2=>Zd (Zt h2 4 (.ptr (o).length 0)) fun v4=>QV (K Zah [v4] h2) fun v5 h6 f7=>Zd (Jy .not (AV.ro v5)) fun v8=>VT v8 false (Zd (Zt h6 4 (.ptr (h0).length 0)) fun v9=>QV (K Zah [v9] h6) fun v10 h11 f12=>Zd (Jy .not (AV.ro v10)) fun v13=>some (v13,h11,(Zf o.length (Zf o.length none f7) f12))) (some (.bool true)) h6 (Zf o.length none f7) fun v14 h15 f16=>ifK (AV.ro v14) (QV (K P5 [] h15) fun v17 h18 f19=>some (Vm false o v17 h18 (Zf o.length f16 f19))) (Zd (Zt h15 4 (.ptr (o).length 0)) fun v20=>Zd (Zt h15 4 (.ptr (h0).length 0)) fun v21=>QV (K Cm [v20,v21] h15) fun v22 h23 f24=>Zd (Zt h23 4 (.ptr (o).length 0)) fun v25=>Zd (Zt h23 4 (.ptr (h0).length 0)) fun v26=>QV (K Zix [v25,v26] h23) fun v27 h28 f29=>Zd (Zc .neq .bool (AV.ro v22) (AV.ro v27)) fun v30=>VT v30 false (Zd (Zt h28 4 (.ptr (h0).length 0)) fun v31=>Zd (Zt h28 4 (.ptr (o).length 0)) fun v32=>QV (K Cm [v31,v32] h28) fun v33 h34 f35=>Zd (Zc .neq .bool (AV.ro v22) (AV.ro v33)) fun v36=>some (v36,h34,(Zf o.length (Zf o.length (Zf o.length f16 f24) f29) f35))) (some (.bool true)) h28 (Zf o.length (Zf o.length f16 f24) f29) fun v37 h38 f39=>VT (AV.ro v37) false (Zd (Zt h38 4 (.ptr (o).length 0)) fun v40=>Zd (Zt h38 4 (.ptr (o).length 0)) fun v41=>QV (K Cm [v40,v41] h38) fun v42 h43 f44=>Zd (Jy .not (AV.ro v42)) fun v45=>some (v45,h43,(Zf o.length f39 f44))) (some (.bool true)) h38 f39 fun v46 h47 f48=>ifK (AV.ro v46) (Wl o (.bool false) h47 f48) (Zd (Jy .not (AV.ro v22)) fun v49=>VT v49 false (Zd (Zt h47 4 (.ptr (o).length 0)) fun v50=>QV (Ub K Zcn [v50] h47) fun v51 h52 f53=>Zd (Zt h52 4 (.ptr (h0).length 0)) fun v54=>QV (Ub K Zcn [v54] h52) fun v55 h56 f57=>Zd (Zc .eql .prim (AV.ro v51) (AV.ro v55)) fun v58=>some (v58,h56,(Zf o.length (Zf o.length f48 f53) f57))) (some (.bool true)) h47 f48 fun v59 h60 f61=>VT (AV.ro v59) true (QV (Ub K P5 [] h60) fun v62 h63 f64=>some ((AV.ro v62),h63,(Zf o.length f61 f64))) (some (.bool false)) h60 f61 fun v65 h66 f67=>some (Vm false o (AV.ro v65) h66 f67)))
theorem ZkC {C:Cfg}{x0 x1:AV}:RunT C ZaU Zey [x0,x1] (fun K=>DD C.G K C.L x0 x1):=runT (P := Znp) rfl fun _ _=>by kernel_rfl
def Rx (G:GT)(K:KT)(L:Nat)(o:HP)(x3:AV)(q:HP)(g:Eff):KR :=
  Zd (Zc .leq .prim x3 (.int .i64 120)) fun v20=>some (Vm false o v20 q g)
theorem Zki :Yh G 68 o.length K Vr L ZfS (Wi Vr Kt o) (Wi Vr Kt o) []=fun e q g=>Rx G K L o (e 3).rd q g:=by kernel_rfl
def Rw (G:GT)(K:KT)(L:Nat)(o:HP)(kn:AV→AV→AV→HP→Eff→KR)(x1:AV)(x3:AV)(x4:AV)(q:HP)(g:Eff):KR :=
  Zd (Zc .add .prim x4 (.int .i64 1)) fun v25=>kn x1 x3 v25 q g
theorem Zkh (kn:AV→AV→AV→HP→Eff→KR)(z0:IE):Yh G 68 o.length K Vr L ZfR (fun e q g=>kn (e 1).rd (e 3).rd (e 4).rd q g) (Wi Vr Kt o) [(0,z0)]=fun e q g=>Rw G K L o kn (e 1).rd (e 3).rd (e 4).rd q g:=by kernel_rfl
def Nk (G:GT)(K:KT)(L:Nat)(o:HP)(kn:AV→AV→AV→HP→Eff→KR)(x1:AV)(x3:AV)(x4:AV)(q:HP)(g:Eff):KR :=
  ldF q 2 x1 fun v34=>Zd (Y4 (.slice 13) v34 x4) fun v35=>ldF q 11 v35 fun v37=>Zd (ZO q .slice v37) fun v38=>ldF q 2 x1 fun v40=>Zd (Y4 (.slice 13) v40 x4) fun v41=>ldF q 12 v41 fun v43=>Zd (ZO q .slice v43) fun v44=>Zd (Zc .add .prim v38 v44) fun v45=>Zd (Zc .add .prim x3 v45) fun v46=>kn x1 v46 x4 q g
theorem Zkg (kn:AV→AV→AV→HP→Eff→KR)(z1 z0:IE):Yh G 68 o.length K Vr L ZfQ (fun e q g=>kn (e 1).rd (e 3).rd (e 4).rd q g) (Wi Vr Kt o) [(1,z1),(0,z0)]=fun e q g=>Nk G K L o kn (e 1).rd (e 3).rd (e 4).rd q g:=by kernel_rfl
def Tt (G:GT)(K:KT)(L:Nat)(o:HP)(k2:AV→AV→AV→HP→Eff→KR):Nat→AV→AV→AV→AV→AV→HP→Eff→KR
  | 0,_,_,_,_,_,_,_=>none
  | m + 1,x1,x3,x4,x5,x6,q,g=>Zd (ZO q .slice x5) fun v47=>Zd (Zc .lss .prim x6 v47) fun v48=>ifK v48 (Zd (Y4 (.slice 1) x5 x6) fun v49=>Zd (Qn q v49) fun v50=>Zd (ZO q .slice v50) fun v51=>Zd (Zc .add .prim x3 v51) fun v52=>Zd (Zc .add .prim x6 (.int .i64 1)) fun v53=>Tt G K L o k2 m x1 v52 x4 x5 v53 q g) (k2 x1 x3 x4 q g)
theorem Zkl (k2:AV→AV→AV→HP→Eff→KR)(z1 z0:IE)(zn:IE):Yh G 68 o.length K Vr L ZfU zn (Wi Vr Kt o) [(2,(fun e q g=>k2 (e 1).rd (e 3).rd (e 4).rd q g)),(1,z1),(0,z0)]=fun e q g=>Tt G K L o k2 L (e 1).rd (e 3).rd (e 4).rd (e 5).rd (e 6).rd q g:=lpJ (fun m e q g=>Tt G K L o k2 m (e 1).rd (e 3).rd (e 4).rd (e 5).rd (e 6).rd q g) rfl (fun _=>by kernel_rfl) L
def Un (G:GT)(K:KT)(L:Nat)(o:HP)(k0:AV→HP→Eff→KR):Nat→AV→AV→AV→HP→Eff→KR
  | 0,_,_,_,_,_=>none
  | m + 1,x1,x3,x4,q,g=>ldF q 2 x1 fun v22=>Zd (ZO q .slice v22) fun v23=>Zd (Zc .lss .prim x4 v23) fun v24=>ifK v24 (ldF q 2 x1 fun v27=>Zd (Y4 (.slice 13) v27 x4) fun v28=>Zd (Zt q 13 v28) fun v29=>QV (K ZjN [v29] q) fun v30 h31 f32=>Tt G K L o (Nk G K L o (Rw G K L o (Un G K L o k0 m))) L x1 x3 x4 (AV.ro v30) (.int .i64 0) h31 (Zf o.length g f32)) (k0 x3 q g)
theorem Zkk (k0:AV→HP→Eff→KR) :∀ m,ZqA (fun n'=>Yh G 68 o.length K Vr L EY n' (Wi Vr Kt o) [(0,(fun e q g=>k0 (e 3).rd q g))]) m=fun e q g=>Un G K L o k0 m (e 1).rd (e 3).rd (e 4).rd q g:=by
 intro m
 induction m with
 | zero=>rfl
 | succ m ih =>
  show Yh G 68 o.length K Vr L EY (ZqA _ m) (Wi Vr Kt o) [(0,(fun e q g=>k0 (e 3).rd q g))]=_
  rw [ih]
  simp only [EY,Yn,ZB,ZC,ZQ]
  rw [Zkh G K L o (Un G K L o k0 m) _,Zkg G K L o (Rw G K L o (Un G K L o k0 m)) _ _,Zkl G K L o (Nk G K L o (Rw G K L o (Un G K L o k0 m))) _ _ _]
  kernel_rfl
theorem Zkj (k0:AV→HP→Eff→KR)(zn:IE):Yh G 68 o.length K Vr L ZfT zn (Wi Vr Kt o) [(0,(fun e q g=>k0 (e 3).rd q g))]=fun e q g=>Un G K L o k0 L (e 1).rd (e 3).rd (e 4).rd q g:=Zkk G K L o k0 L
def Ac (G:GT)(K:KT)(L:Nat)(x0:AV)(o:HP):KR :=
  Zd (MN 4 (AV.ro x0)) fun v1=>UK (o ++ [.cells v1 Yo]) fun h0=>ldF h0 2 (.ptr (o).length 0) fun v3=>Zd (ZO h0 .slice v3) fun v4=>Zd (Zc .gtr .prim v4 (.int .i64 20)) fun v5=>VT v5 false (ldF h0 1 (.ptr (o).length 0) fun v7=>Zd (ZO h0 .slice v7) fun v8=>Zd (Zc .gtr .prim v8 (.int .i64 40)) fun v9=>some (v9,h0,none)) (some (.bool true)) h0 none fun v10 h11 f12=>VT (AV.ro v10) false (ldF h11 3 (.ptr (o).length 0) fun v14=>Zd (ZO h11 .slice v14) fun v15=>Zd (Zc .gtr .prim v15 (.int .i64 40)) fun v16=>some (v16,h11,f12)) (some (.bool true)) h11 f12 fun v17 h18 f19=>ifK (AV.ro v17) (Wl o (.bool false) h18 f19) (Un G K L o (Rx G K L o) L (.ptr (o).length 0) (.int .i64 0) (.int .i64 0) h18 f19)
theorem Zoq (x0:AV) :fnK G K Vr L Kt [x0] o=Ac G K L x0 o:=by
 show Yh G 68 o.length K Vr L Zfs (Wi Vr Kt o) (Wi Vr Kt o) [] (EW [x0]) o none=_
 simp only [Zfs,Yn,ZB,ZC,ZQ]
 rw [Zki G K L o ,Zkj G K L o (Rx G K L o) _]
 kernel_rfl
theorem Za7 {C:Cfg}{x0:AV}:RunT C Zah Kt [x0] (fun K=>Ac C.G K C.L x0):=runT rfl fun _ _=>Zoq ..
def Zav (G:GT)(K:KT)(L:Nat)(x0:AV)(o:HP):KR :=
  Zd (MN 4 (AV.ro x0)) fun v1=>UK (o ++ [.cells v1 Yo]) fun h0=>ldF h0 0 (.ptr (o).length 0) fun v3=>QV (K RF [v3] h0) fun v4 h5 f6=>Zd (Zc .neq .prim (AV.ro v4) (.int .i64 0)) fun v7=>ifK v7 (some (Vm false o v4 h5 (Zf o.length none f6))) (UK (h5 ++ [.map []]) fun h8=>ldF h8 1 (.ptr (o).length 0) fun v10=>QV (K Gp [(.map (h5).length),v10] h8) fun v11 h12 f13=>Zd (Zc .neq .prim (AV.ro v11) (.int .i64 0)) fun v14=>ifK v14 (some (Vm false o v11 h12 (Zf o.length (Zf o.length none f6) f13))) (ldF h12 2 (.ptr (o).length 0) fun v16=>Zd (ZO h12 .slice v16) fun v17=>Zd (Zc .eql .prim v17 (.int .i64 0)) fun v18=>ifK v18 (Wl o (.int .i64 7) h12 (Zf o.length (Zf o.length none f6) f13)) (UK (h12 ++ [.map []]) fun h19=>UK (h19 ++ [.cells [.nilm] V3]) fun h20=>TF (Zph o.length (.ptr (h19).length 0) (.map (h12).length) h20 (Zf o.length (Zf o.length none f6) f13)) fun h21 f22=>ldF h21 2 (.ptr (o).length 0) fun v24=>QV (K KC [v24,(.int .i64 16),(.fn Lh [] [(.ptr (h19).length 0)])] h21) fun v25 h26 f27=>Zd (Zc .neq .prim (AV.ro v25) (.int .i64 0)) fun v28=>ifK v28 (some (Vm false o v25 h26 (Zf o.length f22 f27))) (Zd (Zt h26 4 (.ptr (o).length 0)) fun v29=>QV (K Zfi [v29] h26) fun v30 h31 f32=>some (Vm false o v30 h31 (Zf o.length (Zf o.length f22 f27) f32))))))
theorem ZqE {C:Cfg}{x0:AV}:RunT C Zcn ZkV [x0] (fun K=>Zav C.G K C.L x0):=runT (P := ZuB) rfl fun _ _=>by kernel_rfl
def ZnD (G:GT)(K:KT)(L:Nat)(x0 x1:AV)(o:HP):KR :=
  Zd (MN 4 (AV.ro x0)) fun v1=>UK (o ++ [.cells v1 Yo]) fun h0=>Zd (MN 1 (AV.ro x1)) fun v3=>UK (h0 ++ [.cells v3 Gz]) fun h2=>ldF h2 2 (.ptr (o).length 0) fun v5=>QV (K Jr [v5,(.fn Zbu [] [(.ptr (h0).length 0)])] h2) fun v6 h7 f8=>some (Vm false o v6 h7 (Zf o.length none f8))
theorem Zs6 {C:Cfg}{x0 x1:AV}:RunT C Zb0 Zn4 [x0,x1] (fun K=>ZnD C.G K C.L x0 x1):=runT (P := Zwm) rfl fun _ _=>by kernel_rfl
def Zhx (G:GT)(K:KT)(L:Nat)(x0 x1:AV)(o:HP):KR :=
  Zd (MN 13 (AV.ro x0)) fun v1=>UK (o ++ [.cells v1 Zb]) fun h0=>Zd (MN 1 (AV.ro x1)) fun v3=>UK (h0 ++ [.cells v3 Gz]) fun h2=>ldF h2 10 (.ptr (o).length 0) fun v5=>QV (K JR [v5,(.fn EQ [] [(.ptr (h0).length 0)])] h2) fun v6 h7 f8=>some (Vm false o v6 h7 (Zf o.length none f8))
theorem Znf {C:Cfg}{x0 x1:AV}:RunT C Ec ZgK [x0,x1] (fun K=>Zhx C.G K C.L x0 x1):=runT (P := ZqU) rfl fun _ _=>by kernel_rfl
def Fj (G:GT)(K:KT)(L:Nat)(o:HP)(y3:AV)(q:HP)(g:Eff):KR :=
  some (Vm false o y3 q g)
theorem ZmK :Yh G 131 o.length K Xj L Zjn (Wi Xj JF o) (Wi Xj JF o) []=fun e q g=>Fj G K L o (e 3).val q g:=by kernel_rfl
def BU (G:GT)(K:KT)(L:Nat)(o:HP)(k8:AV→HP→Eff→KR):Nat→AV→AV→AV→AV→HP→Eff→KR
  | 0,_,_,_,_,_,_=>none
  | m + 1,x1,x3,y3,x8,q,g=>ldF q 10 x1 fun v30=>Zd (ZO q .slice v30) fun v31=>Zd (Zc .lss .prim x8 v31) fun v32=>ifK v32 (Zd (Y4 (.slice 1) x3 (.int .i64 9)) fun v33=>QV (Z2N o.length v33 q g) fun v34 h35 f36=>ldF h35 10 x1 fun v38=>Zd (Y4 (.slice 4) v38 x8) fun v39=>ldF h35 0 v39 fun v41=>TF (ZoA Gz 1 [v41] h35) fun v42 h43=>Zd (Z0b 1 16 v34 (AV.ro v42) h43) fun v44=>Zd (Y4 (.slice 1) x3 (.int .i64 9)) fun v45=>TF (Zph o.length v45 v44 h43 f36) fun h46 f47=>Zd (Zc .add .prim x8 (.int .i64 1)) fun v48=>BU G K L o k8 m x1 x3 y3 v48 h46 f47) (k8 y3 q g)
theorem ZmP (k8:AV→HP→Eff→KR)(zn:IE):Yh G 131 o.length K Xj L Zjs zn (Wi Xj JF o) [(8,(fun e q g=>k8 (e 3).val q g))]=fun e q g=>BU G K L o k8 L (e 1).rd (e 3).rd (e 3).val (e 8).rd q g:=lpJ (fun m e q g=>BU G K L o k8 m (e 1).rd (e 3).rd (e 3).val (e 8).rd q g) rfl (fun _=>by kernel_rfl) L
def Fh (G:GT)(K:KT)(L:Nat)(o:HP)(x1:AV)(x3:AV)(y3:AV)(q:HP)(g:Eff):KR :=
  ldF q 5 x1 fun v5=>Zd (Y4 (.slice 1) x3 (.int .i64 4)) fun v6=>TF (Zph o.length v6 v5 q g) fun h7 f8=>ldF h7 6 x1 fun v10=>Zd (Y4 (.slice 1) x3 (.int .i64 5)) fun v11=>TF (Zph o.length v11 v10 h7 f8) fun h12 f13=>ldF h12 7 x1 fun v15=>Zd (Y4 (.slice 1) x3 (.int .i64 6)) fun v16=>TF (Zph o.length v16 v15 h12 f13) fun h17 f18=>ldF h17 8 x1 fun v20=>Zd (Y4 (.slice 1) x3 (.int .i64 7)) fun v21=>TF (Zph o.length v21 v20 h17 f18) fun h22 f23=>ldF h22 9 x1 fun v25=>Zd (Y4 (.slice 1) x3 (.int .i64 8)) fun v26=>TF (Zph o.length v26 v25 h22 f23) fun h27 f28=>BU G K L o (Fj G K L o) L x1 x3 y3 (.int .i64 0) h27 f28
theorem ZmJ :Yh G 131 o.length K Xj L Zeg (Wi Xj JF o) (Wi Xj JF o) []=fun e q g=>Fh G K L o (e 1).rd (e 3).rd (e 3).val q g:=by
 simp only [Zeg,Yn,ZB,ZC,ZQ]
 rw [ZmK G K L o ,ZmP G K L o (Fj G K L o) _]
 kernel_rfl
def BR (G:GT)(K:KT)(L:Nat)(o:HP)(k6:AV→AV→AV→HP→Eff→KR):Nat→AV→AV→AV→AV→HP→Eff→KR
  | 0,_,_,_,_,_,_=>none
  | m + 1,x1,x3,y3,x7,q,g=>ldF q 4 x1 fun v50=>Zd (ZO q .slice v50) fun v51=>Zd (Zc .lss .prim x7 v51) fun v52=>ifK v52 (Zd (Y4 (.slice 1) x3 (.int .i64 3)) fun v53=>QV (Z2N o.length v53 q g) fun v54 h0 f56=>ldF h0 4 x1 fun v58=>Zd (Y4 (.slice 3) v58 x7) fun v59=>ldF h0 0 v59 fun v61=>TF (ZoA Gz 1 [v61] h0) fun v62 h63=>Zd (Z0b 1 16 v54 (AV.ro v62) h63) fun v64=>Zd (Y4 (.slice 1) x3 (.int .i64 3)) fun v65=>TF (Zph o.length v65 v64 h63 f56) fun h4 f67=>Zd (Zc .add .prim x7 (.int .i64 1)) fun v68=>BR G K L o k6 m x1 x3 y3 v68 h4 f67) (k6 x1 x3 y3 q g)
theorem ZmO (k6:AV→AV→AV→HP→Eff→KR)(zn:IE):Yh G 131 o.length K Xj L Zjr zn (Wi Xj JF o) [(6,(fun e q g=>k6 (e 1).rd (e 3).rd (e 3).val q g))]=fun e q g=>BR G K L o k6 L (e 1).rd (e 3).rd (e 3).val (e 7).rd q g:=lpJ (fun m e q g=>BR G K L o k6 m (e 1).rd (e 3).rd (e 3).val (e 7).rd q g) rfl (fun _=>by kernel_rfl) L
def Fg (G:GT)(K:KT)(L:Nat)(o:HP)(x1:AV)(x3:AV)(y3:AV)(q:HP)(g:Eff):KR :=
  BR G K L o (Fh G K L o) L x1 x3 y3 (.int .i64 0) q g
theorem ZmI :Yh G 131 o.length K Xj L Zef (Wi Xj JF o) (Wi Xj JF o) []=fun e q g=>Fg G K L o (e 1).rd (e 3).rd (e 3).val q g:=by
 simp only [Zef,Yn,ZB,ZC,ZQ]
 rw [ZmJ G K L o ,ZmO G K L o (Fh G K L o) _]
 kernel_rfl
def BQ (G:GT)(K:KT)(L:Nat)(o:HP)(k4:AV→AV→AV→HP→Eff→KR):Nat→AV→AV→AV→AV→HP→Eff→KR
  | 0,_,_,_,_,_,_=>none
  | m + 1,x1,x3,y3,x6,q,g=>ldF q 3 x1 fun v70=>Zd (ZO q .slice v70) fun v71=>Zd (Zc .lss .prim x6 v71) fun v72=>ifK v72 (Zd (Y4 (.slice 1) x3 (.int .i64 2)) fun v73=>QV (Z2N o.length v73 q g) fun v74 h0 f76=>ldF h0 3 x1 fun v78=>Zd (Y4 (.slice 3) v78 x6) fun v79=>ldF h0 0 v79 fun v81=>TF (ZoA Gz 1 [v81] h0) fun v82 h5=>Zd (Z0b 1 16 v74 (AV.ro v82) h5) fun v84=>Zd (Y4 (.slice 1) x3 (.int .i64 2)) fun v85=>TF (Zph o.length v85 v84 h5 f76) fun h7 f87=>Zd (Zc .add .prim x6 (.int .i64 1)) fun v8=>BQ G K L o k4 m x1 x3 y3 v8 h7 f87) (k4 x1 x3 y3 q g)
theorem ZmN (k4:AV→AV→AV→HP→Eff→KR)(zn:IE):Yh G 131 o.length K Xj L Zjq zn (Wi Xj JF o) [(4,(fun e q g=>k4 (e 1).rd (e 3).rd (e 3).val q g))]=fun e q g=>BQ G K L o k4 L (e 1).rd (e 3).rd (e 3).val (e 6).rd q g:=lpJ (fun m e q g=>BQ G K L o k4 m (e 1).rd (e 3).rd (e 3).val (e 6).rd q g) rfl (fun _=>by kernel_rfl) L
def Ff (G:GT)(K:KT)(L:Nat)(o:HP)(x1:AV)(x3:AV)(y3:AV)(q:HP)(g:Eff):KR :=
  BQ G K L o (Fg G K L o) L x1 x3 y3 (.int .i64 0) q g
theorem ZmH :Yh G 131 o.length K Xj L Zee (Wi Xj JF o) (Wi Xj JF o) []=fun e q g=>Ff G K L o (e 1).rd (e 3).rd (e 3).val q g:=by
 simp only [Zee,Yn,ZB,ZC,ZQ]
 rw [ZmI G K L o ,ZmN G K L o (Fg G K L o) _]
 kernel_rfl
def BP (G:GT)(K:KT)(L:Nat)(o:HP)(k2:AV→AV→AV→HP→Eff→KR):Nat→AV→AV→AV→AV→HP→Eff→KR
  | 0,_,_,_,_,_,_=>none
  | m + 1,x1,x3,y3,x5,q,g=>ldF q 2 x1 fun v0=>Zd (ZO q .slice v0) fun v91=>Zd (Zc .lss .prim x5 v91) fun v4=>ifK v4 (Zd (Y4 (.slice 1) x3 (.int .i64 1)) fun v93=>QV (Z2N o.length v93 q g) fun v6 h95 f96=>ldF h95 2 x1 fun v7=>Zd (Y4 (.slice 17) v7 x5) fun v8=>ldF h95 0 v8 fun v9=>TF (ZoA Gz 1 [v9] h95) fun v10 h11=>Zd (Z0b 1 16 v6 (AV.ro v10) h11) fun v12=>Zd (Y4 (.slice 1) x3 (.int .i64 1)) fun v105=>TF (Zph o.length v105 v12 h11 f96) fun h13 f107=>Zd (Zc .add .prim x5 (.int .i64 1)) fun v14=>BP G K L o k2 m x1 x3 y3 v14 h13 f107) (k2 x1 x3 y3 q g)
theorem ZmM (k2:AV→AV→AV→HP→Eff→KR)(zn:IE):Yh G 131 o.length K Xj L Zjp zn (Wi Xj JF o) [(2,(fun e q g=>k2 (e 1).rd (e 3).rd (e 3).val q g))]=fun e q g=>BP G K L o k2 L (e 1).rd (e 3).rd (e 3).val (e 5).rd q g:=lpJ (fun m e q g=>BP G K L o k2 m (e 1).rd (e 3).rd (e 3).val (e 5).rd q g) rfl (fun _=>by kernel_rfl) L
def Fe (G:GT)(K:KT)(L:Nat)(o:HP)(x1:AV)(x3:AV)(y3:AV)(q:HP)(g:Eff):KR :=
  BP G K L o (Ff G K L o) L x1 x3 y3 (.int .i64 0) q g
theorem ZmG :Yh G 131 o.length K Xj L Zed (Wi Xj JF o) (Wi Xj JF o) []=fun e q g=>Fe G K L o (e 1).rd (e 3).rd (e 3).val q g:=by
 simp only [Zed,Yn,ZB,ZC,ZQ]
 rw [ZmH G K L o ,ZmM G K L o (Ff G K L o) _]
 kernel_rfl
def BO (G:GT)(K:KT)(L:Nat)(o:HP)(k0:AV→AV→AV→HP→Eff→KR):Nat→AV→AV→AV→AV→HP→Eff→KR
  | 0,_,_,_,_,_,_=>none
  | m + 1,x1,x3,y3,x4,q,g=>ldF q 1 x1 fun v5=>Zd (ZO q .slice v5) fun v6=>Zd (Zc .lss .prim x4 v6) fun v7=>ifK v7 (Zd (Y4 (.slice 1) x3 (.int .i64 0)) fun v8=>QV (Z2N o.length v8 q g) fun v9 h10 f116=>ldF h10 1 x1 fun v11=>Zd (Y4 (.slice 3) v11 x4) fun v12=>ldF h10 0 v12 fun v13=>TF (ZoA Gz 1 [v13] h10) fun v14 h15=>Zd (Z0b 1 16 v9 (AV.ro v14) h15) fun v124=>Zd (Y4 (.slice 1) x3 (.int .i64 0)) fun v16=>TF (Zph o.length v16 v124 h15 f116) fun h17 f127=>Zd (Zc .add .prim x4 (.int .i64 1)) fun v18=>BO G K L o k0 m x1 x3 y3 v18 h17 f127) (k0 x1 x3 y3 q g)
theorem ZmL (k0:AV→AV→AV→HP→Eff→KR)(zn:IE):Yh G 131 o.length K Xj L Zjo zn (Wi Xj JF o) [(0,(fun e q g=>k0 (e 1).rd (e 3).rd (e 3).val q g))]=fun e q g=>BO G K L o k0 L (e 1).rd (e 3).rd (e 3).val (e 4).rd q g:=lpJ (fun m e q g=>BO G K L o k0 m (e 1).rd (e 3).rd (e 3).val (e 4).rd q g) rfl (fun _=>by kernel_rfl) L
def Zkv (G:GT)(K:KT)(L:Nat)(x0:AV)(o:HP):KR :=
  Zd (MN 13 (AV.ro x0)) fun v1=>UK (o ++ [.cells v1 Zb]) fun h0=>TF (Z2S QW [(.own 1 [])] (.int .i64 10) h0) fun v2 h3=>BO G K L o (Fe G K L o) L (.ptr (o).length 0) v2 v2 (.int .i64 0) h3 none
theorem Zsm (x0:AV) :fnK G K Xj L JF [x0] o=Zkv G K L x0 o:=by
 show Yh G 131 o.length K Xj L ZjX (Wi Xj JF o) (Wi Xj JF o) [] (EW [x0]) o none=_
 simp only [ZjX,Yn,ZB,ZC,ZQ]
 rw [ZmG G K L o ,ZmL G K L o (Fe G K L o) _]
 kernel_rfl
theorem ZuH {C:Cfg}{x0:AV}:RunT C ZjN JF [x0] (fun K=>Zkv C.G K C.L x0):=runT rfl fun _ _=>Zsm ..
def ZbA (G:GT)(K:KT)(L:Nat)(x0 x1:AV)(o:HP):KR :=
  Zd (MN 4 (AV.ro x0)) fun v1=>UK (o ++ [.cells v1 Yo]) fun h0=>Zd (MN 4 (AV.ro x1)) fun v3=>UK (h0 ++ [.cells v3 Yo]) fun h2=>ldF h2 0 (.ptr (o).length 0) fun v5=>ldF h2 0 (.ptr (h0).length 0) fun v7=>Zd (Zc .eql .prim v5 v7) fun v8=>VT v8 true (ldF h2 1 (.ptr (o).length 0) fun v10=>ldF h2 1 (.ptr (h0).length 0) fun v12=>QV (K JM [v10,v12] h2) fun v13 h14 f15=>some ((AV.ro v13),h14,(Zf o.length none f15))) (some (.bool false)) h2 none fun v16 h17 f18=>VT (AV.ro v16) true (ldF h17 2 (.ptr (o).length 0) fun v20=>ldF h17 2 (.ptr (h0).length 0) fun v22=>QV (K Qv [v20,v22,(.fn Tq [] [])] h17) fun v23 h24 f25=>some ((AV.ro v23),h24,(Zf o.length f18 f25))) (some (.bool false)) h17 f18 fun v26 h27 f28=>VT (AV.ro v26) true (ldF h27 3 (.ptr (o).length 0) fun v30=>ldF h27 3 (.ptr (h0).length 0) fun v32=>QV (K Hw [v30,v32] h27) fun v33 h34 f35=>some ((AV.ro v33),h34,(Zf o.length f28 f35))) (some (.bool false)) h27 f28 fun v36 h37 f38=>some (Vm false o v36 h37 f38)
theorem Zs5 {C:Cfg}{x0 x1:AV}:RunT C Cm Zn3 [x0,x1] (fun K=>ZbA C.G K C.L x0 x1):=runT (P := Zwl) rfl fun _ _=>by kernel_rfl
def O5 (G:GT)(K:KT)(L:Nat)(o:HP)(q:HP)(g:Eff):KR :=
  Wl o (.bool true) q g
theorem Zoy :Yh G 75 o.length K Tj L Zlm (Wi Tj D5 o) (Wi Tj D5 o) []=fun e q g=>O5 G K L o  q g:=by kernel_rfl
def Bj (G:GT)(K:KT)(L:Nat)(o:HP)(k2:HP→Eff→KR):Nat→AV→AV→AV→HP→Eff→KR
  | 0,_,_,_,_,_=>none
  | m + 1,x2,x3,x6,q,g=>ldF q 3 x2 fun v41=>Zd (ZO q .slice v41) fun v42=>Zd (Zc .lss .prim x6 v42) fun v43=>ifK v43 (ldF q 3 x2 fun v45=>Zd (Y4 (.slice 3) v45 x6) fun v46=>Zd (Zt q 3 v46) fun v47=>ldF q 3 x3 fun v49=>Zd (Y4 (.slice 3) v49 x6) fun v50=>Zd (Zt q 3 v50) fun v51=>Zd (Zc .neq (.struct [.str,.str,.int]) v47 v51) fun v52=>ifK v52 (Wl o (.bool false) q g) (Zd (Zc .add .prim x6 (.int .i64 1)) fun v53=>Bj G K L o k2 m x2 x3 v53 q g)) (k2  q g)
theorem Zo0 (k2:HP→Eff→KR)(zn:IE):Yh G 75 o.length K Tj L Zlo zn (Wi Tj D5 o) [(2,(fun e q g=>k2 q g))]=fun e q g=>Bj G K L o k2 L (e 2).rd (e 3).rd (e 6).rd q g:=lpJ (fun m e q g=>Bj G K L o k2 m (e 2).rd (e 3).rd (e 6).rd q g) rfl (fun _=>by kernel_rfl) L
def KA (G:GT)(K:KT)(L:Nat)(o:HP)(x2:AV)(x3:AV)(q:HP)(g:Eff):KR :=
  Bj G K L o (O5 G K L o) L x2 x3 (.int .i64 0) q g
theorem Zox :Yh G 75 o.length K Tj L Zfx (Wi Tj D5 o) (Wi Tj D5 o) []=fun e q g=>KA G K L o (e 2).rd (e 3).rd q g:=by
 simp only [Zfx,Yn,ZB,ZC,ZQ]
 rw [Zoy G K L o ,Zo0 G K L o (O5 G K L o) _]
 kernel_rfl
def Bi (G:GT)(K:KT)(L:Nat)(o:HP)(k0:AV→AV→HP→Eff→KR):Nat→AV→AV→AV→HP→Eff→KR
  | 0,_,_,_,_,_=>none
  | m + 1,x2,x3,x5,q,g=>ldF q 2 x2 fun v55=>Zd (ZO q .slice v55) fun v56=>Zd (Zc .lss .prim x5 v56) fun v57=>ifK v57 (ldF q 2 x2 fun v59=>Zd (Y4 (.slice 13) v59 x5) fun v60=>Zd (Zt q 13 v60) fun v61=>ldF q 2 x3 fun v63=>Zd (Y4 (.slice 13) v63 x5) fun v64=>Zd (Zt q 13 v64) fun v65=>QV (Ub K ZdW [v61,v65] q) fun v66 h1 f68=>Zd (Jy .not (AV.ro v66)) fun v69=>ifK v69 (Wl o (.bool false) h1 (Zf o.length g f68)) (Zd (Zc .add .prim x5 (.int .i64 1)) fun v70=>Bi G K L o k0 m x2 x3 v70 h1 (Zf o.length g f68))) (k0 x2 x3 q g)
theorem Zoz (k0:AV→AV→HP→Eff→KR)(zn:IE):Yh G 75 o.length K Tj L Zln zn (Wi Tj D5 o) [(0,(fun e q g=>k0 (e 2).rd (e 3).rd q g))]=fun e q g=>Bi G K L o k0 L (e 2).rd (e 3).rd (e 5).rd q g:=lpJ (fun m e q g=>Bi G K L o k0 m (e 2).rd (e 3).rd (e 5).rd q g) rfl (fun _=>by kernel_rfl) L
def Zbk (G:GT)(K:KT)(L:Nat)(x0 x1:AV)(o:HP):KR :=
  Zd (MN 4 (AV.ro x0)) fun v1=>UK (o ++ [.cells v1 Yo]) fun h0=>Zd (MN 4 (AV.ro x1)) fun v3=>UK (h0 ++ [.cells v3 Yo]) fun h2=>ldF h2 0 (.ptr (o).length 0) fun v5=>ldF h2 0 (.ptr (h0).length 0) fun v7=>Zd (Zc .neq .prim v5 v7) fun v8=>VT v8 false (ldF h2 1 (.ptr (o).length 0) fun v10=>ldF h2 1 (.ptr (h0).length 0) fun v12=>QV (K FK [v10,v12] h2) fun v13 h14 f15=>Zd (Jy .not (AV.ro v13)) fun v16=>some (v16,h14,(Zf o.length none f15))) (some (.bool true)) h2 none fun v17 h18 f19=>VT (AV.ro v17) false (ldF h18 2 (.ptr (o).length 0) fun v21=>Zd (ZO h18 .slice v21) fun v22=>ldF h18 2 (.ptr (h0).length 0) fun v24=>Zd (ZO h18 .slice v24) fun v25=>Zd (Zc .neq .prim v22 v25) fun v26=>some (v26,h18,f19)) (some (.bool true)) h18 f19 fun v27 h28 f29=>VT (AV.ro v27) false (ldF h28 3 (.ptr (o).length 0) fun v31=>Zd (ZO h28 .slice v31) fun v32=>ldF h28 3 (.ptr (h0).length 0) fun v34=>Zd (ZO h28 .slice v34) fun v35=>Zd (Zc .neq .prim v32 v35) fun v36=>some (v36,h28,f29)) (some (.bool true)) h28 f29 fun v37 h38 f39=>ifK (AV.ro v37) (Wl o (.bool false) h38 f39) (Bi G K L o (KA G K L o) L (.ptr (o).length 0) (.ptr (h0).length 0) (.int .i64 0) h38 f39)
theorem Zug (x0 x1:AV) :fnK G K Tj L D5 [x0,x1] o=Zbk G K L x0 x1 o:=by
 show Yh G 75 o.length K Tj L Zm9 (Wi Tj D5 o) (Wi Tj D5 o) [] (EW [x0,x1]) o none=_
 simp only [Zm9,Yn,ZB,ZC,ZQ]
 rw [Zox G K L o ,Zoz G K L o (KA G K L o) _]
 kernel_rfl
theorem Zww {C:Cfg}{x0 x1:AV}:RunT C Zix D5 [x0,x1] (fun K=>Zbk C.G K C.L x0 x1):=runT rfl fun _ _=>Zug ..
def Np (G:GT)(K:KT)(L:Nat)(o:HP)(q:HP)(g:Eff):KR :=
  Wl o (.int .i64 0) q g
theorem Zkr :Yh G 46 o.length K Me L ZfZ (Wi Me RN o) (Wi Me RN o) []=fun e q g=>Np G K L o  q g:=by kernel_rfl
def Tv (G:GT)(K:KT)(L:Nat)(o:HP)(k0:HP→Eff→KR):Nat→AV→AV→AV→HP→Eff→KR
  | 0,_,_,_,_,_=>none
  | m + 1,x0,x23,x24,q,g=>Zd (Zc .lss .prim x24 x23) fun v21=>ifK v21 (Zd (ZeQ x0 x24) fun v22=>QV (K Zbv [v22] q) fun v23 h24 f25=>Zd (Jy .not (AV.ro v23)) fun v26=>VT v26 true (Zd (Zc .lss .prim v22 (.int .u8 48)) fun v27=>VT v27 false (Zd (Zc .gtr .prim v22 (.int .u8 57)) fun v28=>some (v28,h24,(Zf o.length g f25))) (some (.bool true)) h24 (Zf o.length g f25) fun v29 h30 f31=>some ((AV.ro v29),h30,f31)) (some (.bool false)) h24 (Zf o.length g f25) fun v32 h33 f34=>VT (AV.ro v32) true (Zd (Zc .neq .prim v22 (.int .u8 95)) fun v35=>some (v35,h33,f34)) (some (.bool false)) h33 f34 fun v36 h37 f38=>ifK (AV.ro v36) (Wl o (.int .i64 3) h37 f38) (Zd (Zc .add .prim x24 (.int .i64 1)) fun v39=>Tv G K L o k0 m x0 x23 v39 h37 f38)) (k0  q g)
theorem Zks (k0:HP→Eff→KR)(zn:IE):Yh G 46 o.length K Me L Zga zn (Wi Me RN o) [(0,(fun e q g=>k0 q g))]=fun e q g=>Tv G K L o k0 L (e 0).rd (e 23).rd (e 24).rd q g:=lpJ (fun m e q g=>Tv G K L o k0 m (e 0).rd (e 23).rd (e 24).rd q g) rfl (fun _=>by kernel_rfl) L
def PH (G:GT)(K:KT)(L:Nat)(x0:AV)(o:HP):KR :=
  Zd (Zc .eql .prim (AV.ro x0) (.str [])) fun v0=>VT v0 false (Zd (ZO o .str (AV.ro x0)) fun v1=>Zd (Zc .gtr .prim v1 (.int .i64 24)) fun v2=>some (v2,o,none)) (some (.bool true)) o none fun v3 h4 f5=>VT (AV.ro v3) false (Zd (ZeQ (AV.ro x0) (.int .i64 0)) fun v6=>QV (K Zbv [v6] h4) fun v7 h8 f9=>Zd (Jy .not (AV.ro v7)) fun v10=>some (v10,h8,(Zf o.length f5 f9))) (some (.bool true)) h4 f5 fun v11 h12 f13=>VT (AV.ro v11) false (QV (K ZcB [(AV.ro x0)] h12) fun v14 h15 f16=>some ((AV.ro v14),h15,(Zf o.length f13 f16))) (some (.bool true)) h12 f13 fun v17 h18 f19=>ifK (AV.ro v17) (Wl o (.int .i64 3) h18 f19) (Zd (ZO h18 .str (AV.ro x0)) fun v20=>Tv G K L o (Np G K L o) L (AV.ro x0) v20 (.int .i64 0) h18 f19)
theorem Zot (x0:AV) :fnK G K Me L RN [x0] o=PH G K L x0 o:=by
 show Yh G 46 o.length K Me L Zfv (Wi Me RN o) (Wi Me RN o) [] (EW [x0]) o none=_
 simp only [Zfv,Yn,ZB,ZC,ZQ]
 rw [Zkr G K L o ,Zks G K L o (Np G K L o) _]
 kernel_rfl
theorem ZqJ {C:Cfg}{x0:AV}:RunT C RF RN [x0] (fun K=>PH C.G K C.L x0):=runT rfl fun _ _=>Zot ..
def ZaP (G:GT)(K:KT)(L:Nat)(x0 x1:AV)(o:HP):KR :=
  QV (K TT [(AV.ro x1),(.int .i64 32),(.fn Ha [(AV.ro x0)] [])] o) fun v0 h1 f2=>some (Vm false o v0 h1 (Zf o.length none f2))
theorem Zex {C:Cfg}{x0 x1:AV}:RunT C Gp ZaM [x0,x1] (fun K=>ZaP C.G K C.L x0 x1):=runT (P := Zg7) rfl fun _ _=>by kernel_rfl
def Zdc (G:GT)(K:KT)(L:Nat)(x0 x1:AV)(o:HP):KR :=
  Zd (MN 13 (AV.ro x0)) fun v1=>UK (o ++ [.cells v1 Zb]) fun h0=>Zd (Qn h0 (AV.ro x1)) fun v2=>ldF h0 0 (.ptr (o).length 0) fun v4=>QV (K Qa [v2,v4] h0) fun v5 h6 f7=>Zd (Zc .neq .prim (AV.ro v5) (.int .i64 0)) fun v8=>ifK v8 (some (Vm false o v5 h6 (Zf o.length none f7))) (Zd (Zt h6 13 (.ptr (o).length 0)) fun v9=>QV (K ZgB [v9] h6) fun v10 h11 f12=>some (Vm false o v10 h11 (Zf o.length (Zf o.length none f7) f12)))
theorem ZeT {C:Cfg}{x0 x1:AV}:RunT C Lh ZgJ [x0,x1] (fun K=>Zdc C.G K C.L x0 x1):=runT (P := ZqT) rfl fun _ _=>by kernel_rfl
def VS (G:GT)(K:KT)(L:Nat)(o:HP)(q:HP)(g:Eff):KR :=
  Wl o (.int .i64 0) q g
theorem ZaG :Yh G 27 o.length K Xz L Nb (Wi Xz Vb o) (Wi Xz Vb o) []=fun e q g=>VS G K L o  q g:=by kernel_rfl
def QU (G:GT)(K:KT)(L:Nat)(o:HP)(k0:HP→Eff→KR):Nat→AV→AV→AV→AV→HP→Eff→KR
  | 0,_,_,_,_,_,_=>none
  | m + 1,x2,x14,x15,x16,q,g=>Zd (Zc .lss .prim x16 x15) fun v3=>ifK v3 (Zd (Y4 (.slice 13) x14 x16) fun v4=>Zd (Zt q 13 v4) fun v5=>UK (q ++ [.cells [(.str []),(.own 3 []),(.own 17 []),(.own 3 []),(.own 3 []),(.own 1 []),(.own 1 []),(.own 1 []),(.own 1 []),(.own 1 []),(.own 4 []),(.own 5 []),(.own 3 [])] Zb]) fun h6=>TF (stV o.length 13 (.ptr (q).length 0) v5 h6 g) fun h7 f8=>Zd (Zt h7 13 (.ptr (q).length 0)) fun v9=>QV (Uo K x2 [v9] h7) fun v10 h11 f12=>Zd (Zc .neq .prim (AV.ro v10) (.int .i64 0)) fun v13=>ifK v13 (some (Vm false o v10 h11 (Zf o.length f8 f12))) (Zd (Zc .add .prim x16 (.int .i64 1)) fun v14=>QU G K L o k0 m x2 x14 x15 v14 h11 (Zf o.length f8 f12))) (k0  q g)
theorem ZaH (k0:HP→Eff→KR)(zn:IE):Yh G 27 o.length K Xz L Nc zn (Wi Xz Vb o) [(0,(fun e q g=>k0 q g))]=fun e q g=>QU G K L o k0 L (e 2).rd (e 14).rd (e 15).rd (e 16).rd q g:=lpJ (fun m e q g=>QU G K L o k0 m (e 2).rd (e 14).rd (e 15).rd (e 16).rd q g) rfl (fun _=>by kernel_rfl) L
def IJ (G:GT)(K:KT)(L:Nat)(x0 x1 x2:AV)(o:HP):KR :=
  Zd (ZO o .slice (AV.ro x0)) fun v0=>Zd (Zc .gtr .prim v0 (AV.ro x1)) fun v1=>ifK v1 (Wl o (.int .i64 6) o none) (Zd (ZO o .slice (AV.ro x0)) fun v2=>QU G K L o (VS G K L o) L (AV.ro x2) (AV.ro x0) v2 (.int .i64 0) o none)
theorem ZbV (x0 x1 x2:AV) :fnK G K Xz L Vb [x0,x1,x2] o=IJ G K L x0 x1 x2 o:=by
 show Yh G 27 o.length K Xz L Rn (Wi Xz Vb o) (Wi Xz Vb o) [] (EW [x0,x1,x2]) o none=_
 simp only [Rn,Yn,ZB,ZC,ZQ]
 rw [ZaG G K L o ,ZaH G K L o (VS G K L o) _]
 kernel_rfl
theorem S9 {C:Cfg}{x0 x1 x2:AV}:RunT C KC Vb [x0,x1,x2] (fun K=>IJ C.G K C.L x0 x1 x2):=runT rfl fun _ _=>ZbV ..
def Zly (G:GT)(K:KT)(L:Nat)(x0:AV)(o:HP):KR :=
  Zd (MN 4 (AV.ro x0)) fun v1=>UK (o ++ [.cells v1 Yo]) fun h0=>UK (h0 ++ [.map []]) fun h2=>UK (h2 ++ [.cells [.nilm] OX]) fun h3=>TF (Zph o.length (.ptr (h2).length 0) (.map (h0).length) h3 none) fun h4 f5=>ldF h4 3 (.ptr (o).length 0) fun v7=>QV (K LX [v7,(.int .i64 32),(.fn Ed [] [(.ptr (o).length 0),(.ptr (h2).length 0)])] h4) fun v8 h9 f10=>some (Vm false o v8 h9 (Zf o.length f5 f10))
theorem ZqH {C:Cfg}{x0:AV}:RunT C Zfi ZkX [x0] (fun K=>Zly C.G K C.L x0):=runT (P := ZuD) rfl fun _ _=>by kernel_rfl
def Zjv (G:GT)(K:KT)(L:Nat)(x0 x1:AV)(o:HP):KR :=
  Zd (MN 13 (AV.ro x0)) fun v1=>UK (o ++ [.cells v1 Zb]) fun h0=>ldF h0 0 (.ptr (o).length 0) fun v3=>Zd (Qn h0 (AV.ro x1)) fun v4=>Zd (Zc .eql .prim v3 v4) fun v5=>some (Vm false o v5 h0 none)
theorem ZoB {C:Cfg}{x0 x1:AV}:RunT C Zbu ZiX [x0,x1] (fun K=>Zjv C.G K C.L x0 x1):=runT (P := ZsC) rfl fun _ _=>by kernel_rfl
def Q3 (G:GT)(K:KT)(L:Nat)(o:HP)(q:HP)(g:Eff):KR :=
  Wl o (.int .i64 (-1)) q g
theorem Lc :Yh G 19 o.length K Y6 L KE (Wi Y6 YN o) (Wi Y6 YN o) []=fun e q g=>Q3 G K L o  q g:=by kernel_rfl
def Y9 (G:GT)(K:KT)(L:Nat)(o:HP)(k0:HP→Eff→KR):Nat→AV→AV→AV→AV→HP→Eff→KR
  | 0,_,_,_,_,_,_=>none
  | m + 1,x0,x1,x7,x8,q,g=>Zd (Zc .lss .prim x8 x7) fun v1=>ifK v1 (Zd (Y4 (.slice 13) x0 x8) fun v2=>Zd (Zt q 13 v2) fun v3=>QV (Uo K x1 [v3] q) fun v4 h5 f6=>ifK (AV.ro v4) (some (Vm false o x8 h5 (Zf o.length g f6))) (Zd (Zc .add .prim x8 (.int .i64 1)) fun v7=>Y9 G K L o k0 m x0 x1 x7 v7 h5 (Zf o.length g f6))) (k0  q g)
theorem Ld (k0:HP→Eff→KR)(zn:IE):Yh G 19 o.length K Y6 L KF zn (Wi Y6 YN o) [(0,(fun e q g=>k0 q g))]=fun e q g=>Y9 G K L o k0 L (e 0).rd (e 1).rd (e 7).rd (e 8).rd q g:=lpJ (fun m e q g=>Y9 G K L o k0 m (e 0).rd (e 1).rd (e 7).rd (e 8).rd q g) rfl (fun _=>by kernel_rfl) L
def Jt (G:GT)(K:KT)(L:Nat)(x0 x1:AV)(o:HP):KR :=
  Zd (ZO o .slice (AV.ro x0)) fun v0=>Y9 G K L o (Q3 G K L o) L (AV.ro x0) (AV.ro x1) v0 (.int .i64 0) o none
theorem Ro (x0 x1:AV) :fnK G K Y6 L YN [x0,x1] o=Jt G K L x0 x1 o:=by
 show Yh G 19 o.length K Y6 L Js (Wi Y6 YN o) (Wi Y6 YN o) [] (EW [x0,x1]) o none=_
 simp only [Js,Yn,ZB,ZC,ZQ]
 rw [Lc G K L o ,Ld G K L o (Q3 G K L o) _]
 kernel_rfl
theorem BI {C:Cfg}{x0 x1:AV}:RunT C Jr YN [x0,x1] (fun K=>Jt C.G K C.L x0 x1):=runT rfl fun _ _=>Ro ..
def ZeG (G:GT)(K:KT)(L:Nat)(x0 x1:AV)(o:HP):KR :=
  Zd (MN 4 (AV.ro x0)) fun v1=>UK (o ++ [.cells v1 Wn]) fun h0=>ldF h0 0 (.ptr (o).length 0) fun v3=>Zd (Qn h0 (AV.ro x1)) fun v4=>Zd (Zc .eql .prim v3 v4) fun v5=>some (Vm false o v5 h0 none)
theorem ZkD {C:Cfg}{x0 x1:AV}:RunT C EQ Zez [x0,x1] (fun K=>ZeG C.G K C.L x0 x1):=runT (P := Znq) rfl fun _ _=>by kernel_rfl
def QP (G:GT)(K:KT)(L:Nat)(o:HP)(q:HP)(g:Eff):KR :=
  Wl o (.int .i64 (-1)) q g
theorem Ri :Yh G 19 o.length K YB L Gv (Wi YB Wh o) (Wi YB Wh o) []=fun e q g=>QP G K L o  q g:=by kernel_rfl
def YJ (G:GT)(K:KT)(L:Nat)(o:HP)(k0:HP→Eff→KR):Nat→AV→AV→AV→AV→HP→Eff→KR
  | 0,_,_,_,_,_,_=>none
  | m + 1,x0,x1,x7,x8,q,g=>Zd (Zc .lss .prim x8 x7) fun v1=>ifK v1 (Zd (Y4 (.slice 4) x0 x8) fun v2=>Zd (Zt q 4 v2) fun v3=>QV (Uo K x1 [v3] q) fun v4 h5 f6=>ifK (AV.ro v4) (some (Vm false o x8 h5 (Zf o.length g f6))) (Zd (Zc .add .prim x8 (.int .i64 1)) fun v7=>YJ G K L o k0 m x0 x1 x7 v7 h5 (Zf o.length g f6))) (k0  q g)
theorem Rj (k0:HP→Eff→KR)(zn:IE):Yh G 19 o.length K YB L Gw zn (Wi YB Wh o) [(0,(fun e q g=>k0 q g))]=fun e q g=>YJ G K L o k0 L (e 0).rd (e 1).rd (e 7).rd (e 8).rd q g:=lpJ (fun m e q g=>YJ G K L o k0 m (e 0).rd (e 1).rd (e 7).rd (e 8).rd q g) rfl (fun _=>by kernel_rfl) L
def JV (G:GT)(K:KT)(L:Nat)(x0 x1:AV)(o:HP):KR :=
  Zd (ZO o .slice (AV.ro x0)) fun v0=>YJ G K L o (QP G K L o) L (AV.ro x0) (AV.ro x1) v0 (.int .i64 0) o none
theorem BX (x0 x1:AV) :fnK G K YB L Wh [x0,x1] o=JV G K L x0 x1 o:=by
 show Yh G 19 o.length K YB L JU (Wi YB Wh o) (Wi YB Wh o) [] (EW [x0,x1]) o none=_
 simp only [JU,Yn,ZB,ZC,ZQ]
 rw [Ri G K L o ,Rj G K L o (QP G K L o) _]
 kernel_rfl
theorem Dl {C:Cfg}{x0 x1:AV}:RunT C JR Wh [x0,x1] (fun K=>JV C.G K C.L x0 x1):=runT rfl fun _ _=>BX ..
def WP (G:GT)(K:KT)(L:Nat)(o:HP)(q:HP)(g:Eff):KR :=
  Wl o (.bool true) q g
theorem Nw :Yh G 26 o.length K WG L OJ (Wi WG Qk o) (Wi WG Qk o) []=fun e q g=>WP G K L o  q g:=by kernel_rfl
def WQ (G:GT)(K:KT)(L:Nat)(o:HP)(k0:HP→Eff→KR):Nat→AV→AV→AV→AV→HP→Eff→KR
  | 0,_,_,_,_,_,_=>none
  | m + 1,x0,x1,x12,x13,q,g=>Zd (Zc .lss .prim x13 x12) fun v4=>ifK v4 (Zd (Y4 (.slice 3) x0 x13) fun v5=>Zd (Zt q 3 v5) fun v6=>Zd (Y4 (.slice 3) x1 x13) fun v7=>Zd (Zt q 3 v7) fun v8=>Zd (Zc .neq (.struct [.str,.int,.int]) v6 v8) fun v9=>ifK v9 (Wl o (.bool false) q g) (Zd (Zc .add .prim x13 (.int .i64 1)) fun v10=>WQ G K L o k0 m x0 x1 x12 v10 q g)) (k0  q g)
theorem Ny (k0:HP→Eff→KR)(zn:IE):Yh G 26 o.length K WG L OL zn (Wi WG Qk o) [(0,(fun e q g=>k0 q g))]=fun e q g=>WQ G K L o k0 L (e 0).rd (e 1).rd (e 12).rd (e 13).rd q g:=lpJ (fun m e q g=>WQ G K L o k0 m (e 0).rd (e 1).rd (e 12).rd (e 13).rd q g) rfl (fun _=>by kernel_rfl) L
def Vy (G:GT)(K:KT)(L:Nat)(x0 x1:AV)(o:HP):KR :=
  Zd (ZO o .slice (AV.ro x0)) fun v0=>Zd (ZO o .slice (AV.ro x1)) fun v1=>Zd (Zc .neq .prim v0 v1) fun v2=>ifK v2 (Wl o (.bool false) o none) (Zd (ZO o .slice (AV.ro x0)) fun v3=>WQ G K L o (WP G K L o) L (AV.ro x0) (AV.ro x1) v3 (.int .i64 0) o none)
theorem E5 (x0 x1:AV) :fnK G K WG L Qk [x0,x1] o=Vy G K L x0 x1 o:=by
 show Yh G 26 o.length K WG L Gu (Wi WG Qk o) (Wi WG Qk o) [] (EW [x0,x1]) o none=_
 simp only [Gu,Yn,ZB,ZC,ZQ]
 rw [Nw G K L o ,Ny G K L o (WP G K L o) _]
 kernel_rfl
theorem Ap {C:Cfg}{x0 x1:AV}:RunT C JM Qk [x0,x1] (fun K=>Vy C.G K C.L x0 x1):=runT rfl fun _ _=>E5 ..
def Z9 (G:GT)(K:KT)(L:Nat)(o:HP)(q:HP)(g:Eff):KR :=
  Wl o (.bool true) q g
theorem U3 :Yh G 32 o.length K Zz L XC (Wi Zz ZE o) (Wi Zz ZE o) []=fun e q g=>Z9 G K L o  q g:=by kernel_rfl
def ZA (G:GT)(K:KT)(L:Nat)(o:HP)(k0:HP→Eff→KR):Nat→AV→AV→AV→AV→AV→HP→Eff→KR
  | 0,_,_,_,_,_,_,_=>none
  | m + 1,x1,x2,x15,x16,x17,q,g=>Zd (Zc .lss .prim x17 x16) fun v4=>ifK v4 (Zd (Y4 (.slice 13) x15 x17) fun v5=>Zd (Zt q 13 v5) fun v6=>UK (q ++ [.cells [(.str []),(.own 3 []),(.own 17 []),(.own 3 []),(.own 3 []),(.own 1 []),(.own 1 []),(.own 1 []),(.own 1 []),(.own 1 []),(.own 4 []),(.own 5 []),(.own 3 [])] Zb]) fun h7=>TF (stV o.length 13 (.ptr (q).length 0) v6 h7 g) fun h8 f9=>Zd (Y4 (.slice 13) x1 x17) fun v10=>Zd (Zt h8 13 v10) fun v11=>UK (h8 ++ [.cells [(.str []),(.own 3 []),(.own 17 []),(.own 3 []),(.own 3 []),(.own 1 []),(.own 1 []),(.own 1 []),(.own 1 []),(.own 1 []),(.own 4 []),(.own 5 []),(.own 3 [])] Zb]) fun h12=>TF (stV o.length 13 (.ptr (h8).length 0) v11 h12 f9) fun h13 f14=>Zd (Zt h13 13 (.ptr (q).length 0)) fun v15=>Zd (Zt h13 13 (.ptr (h8).length 0)) fun v16=>QV (Uo K x2 [v15,v16] h13) fun v17 h18 f19=>Zd (Jy .not (AV.ro v17)) fun v20=>ifK v20 (Wl o (.bool false) h18 (Zf o.length f14 f19)) (Zd (Zc .add .prim x17 (.int .i64 1)) fun v21=>ZA G K L o k0 m x1 x2 x15 x16 v21 h18 (Zf o.length f14 f19))) (k0  q g)
theorem U4 (k0:HP→Eff→KR)(zn:IE):Yh G 32 o.length K Zz L XD zn (Wi Zz ZE o) [(0,(fun e q g=>k0 q g))]=fun e q g=>ZA G K L o k0 L (e 1).rd (e 2).rd (e 15).rd (e 16).rd (e 17).rd q g:=lpJ (fun m e q g=>ZA G K L o k0 m (e 1).rd (e 2).rd (e 15).rd (e 16).rd (e 17).rd q g) rfl (fun _=>by kernel_rfl) L
def Y7 (G:GT)(K:KT)(L:Nat)(x0 x1 x2:AV)(o:HP):KR :=
  Zd (ZO o .slice (AV.ro x0)) fun v0=>Zd (ZO o .slice (AV.ro x1)) fun v1=>Zd (Zc .neq .prim v0 v1) fun v2=>ifK v2 (Wl o (.bool false) o none) (Zd (ZO o .slice (AV.ro x0)) fun v3=>ZA G K L o (Z9 G K L o) L (AV.ro x1) (AV.ro x2) (AV.ro x0) v3 (.int .i64 0) o none)
theorem UJ (x0 x1 x2:AV) :fnK G K Zz L ZE [x0,x1,x2] o=Y7 G K L x0 x1 x2 o:=by
 show Yh G 32 o.length K Zz L Qw (Wi Zz ZE o) (Wi Zz ZE o) [] (EW [x0,x1,x2]) o none=_
 simp only [Qw,Yn,ZB,ZC,ZQ]
 rw [U3 G K L o ,U4 G K L o (Z9 G K L o) _]
 kernel_rfl
theorem UY {C:Cfg}{x0 x1 x2:AV}:RunT C Qv ZE [x0,x1,x2] (fun K=>Y7 C.G K C.L x0 x1 x2):=runT rfl fun _ _=>UJ ..
def V6 (G:GT)(K:KT)(L:Nat)(x0 x1:AV)(o:HP):KR :=
  Zd (MN 13 (AV.ro x0)) fun v1=>UK (o ++ [.cells v1 Zb]) fun h0=>Zd (MN 13 (AV.ro x1)) fun v3=>UK (h0 ++ [.cells v3 Zb]) fun h2=>ldF h2 0 (.ptr (o).length 0) fun v5=>ldF h2 0 (.ptr (h0).length 0) fun v7=>Zd (Zc .eql .prim v5 v7) fun v8=>VT v8 true (ldF h2 1 (.ptr (o).length 0) fun v10=>ldF h2 1 (.ptr (h0).length 0) fun v12=>QV (K JM [v10,v12] h2) fun v13 h14 f15=>some ((AV.ro v13),h14,(Zf o.length none f15))) (some (.bool false)) h2 none fun v16 h17 f18=>VT (AV.ro v16) true (ldF h17 2 (.ptr (o).length 0) fun v20=>ldF h17 2 (.ptr (h0).length 0) fun v22=>QV (K Wu [v20,v22,(.fn KL [] [])] h17) fun v23 h24 f25=>some ((AV.ro v23),h24,(Zf o.length f18 f25))) (some (.bool false)) h17 f18 fun v26 h27 f28=>VT (AV.ro v26) true (ldF h27 3 (.ptr (o).length 0) fun v30=>ldF h27 3 (.ptr (h0).length 0) fun v32=>QV (K JQ [v30,v32] h27) fun v33 h34 f35=>some ((AV.ro v33),h34,(Zf o.length f28 f35))) (some (.bool false)) h27 f28 fun v36 h37 f38=>VT (AV.ro v36) true (ldF h37 4 (.ptr (o).length 0) fun v40=>ldF h37 4 (.ptr (h0).length 0) fun v42=>QV (K Ul [v40,v42] h37) fun v43 h4 f45=>some ((AV.ro v43),h4,(Zf o.length f38 f45))) (some (.bool false)) h37 f38 fun v46 h47 f48=>VT (AV.ro v46) true (ldF h47 5 (.ptr (o).length 0) fun v50=>ldF h47 5 (.ptr (h0).length 0) fun v52=>QV (K XI [v50,v52] h47) fun v53 h6 f55=>some ((AV.ro v53),h6,(Zf o.length f48 f55))) (some (.bool false)) h47 f48 fun v56 h57 f58=>VT (AV.ro v56) true (ldF h57 6 (.ptr (o).length 0) fun v60=>ldF h57 6 (.ptr (h0).length 0) fun v62=>QV (K XI [v60,v62] h57) fun v63 h64 f65=>some ((AV.ro v63),h64,(Zf o.length f58 f65))) (some (.bool false)) h57 f58 fun v66 h9 f68=>VT (AV.ro v66) true (ldF h9 7 (.ptr (o).length 0) fun v70=>ldF h9 7 (.ptr (h0).length 0) fun v72=>QV (K XI [v70,v72] h9) fun v73 h11 f75=>some ((AV.ro v73),h11,(Zf o.length f68 f75))) (some (.bool false)) h9 f68 fun v76 h19 f78=>VT (AV.ro v76) true (ldF h19 8 (.ptr (o).length 0) fun v80=>ldF h19 8 (.ptr (h0).length 0) fun v82=>QV (K XI [v80,v82] h19) fun v83 h84 f85=>some ((AV.ro v83),h84,(Zf o.length f78 f85))) (some (.bool false)) h19 f78 fun v86 h87 f88=>VT (AV.ro v86) true (ldF h87 9 (.ptr (o).length 0) fun v21=>ldF h87 9 (.ptr (h0).length 0) fun v29=>QV (K XI [v21,v29] h87) fun v93 h31 f95=>some ((AV.ro v93),h31,(Zf o.length f88 f95))) (some (.bool false)) h87 f88 fun v39 h97 f41=>VT (AV.ro v39) true (ldF h97 10 (.ptr (o).length 0) fun v44=>ldF h97 10 (.ptr (h0).length 0) fun v49=>QV (K QL [v44,v49,(.fn GR [] [])] h97) fun v51 h54 f105=>some ((AV.ro v51),h54,(Zf o.length f41 f105))) (some (.bool false)) h97 f41 fun v59 h61 f108=>VT (AV.ro v59) true (ldF h61 11 (.ptr (o).length 0) fun v67=>ldF h61 11 (.ptr (h0).length 0) fun v69=>QV (K Xt [v67,v69,(.fn IV [] [])] h61) fun v71 h74 f115=>some ((AV.ro v71),h74,(Zf o.length f108 f115))) (some (.bool false)) h61 f108 fun v77 h79 f118=>VT (AV.ro v77) true (ldF h79 12 (.ptr (o).length 0) fun v81=>ldF h79 12 (.ptr (h0).length 0) fun v89=>QV (K Vo [v81,v89,(.fn Lj [] [])] h79) fun v90 h91 f125=>some ((AV.ro v90),h91,(Zf o.length f118 f125))) (some (.bool false)) h79 f118 fun v92 h127 f128=>some (Vm false o v92 h127 f128)
theorem ZlZ {C:Cfg}{x0 x1:AV}:RunT C Tq ZfJ [x0,x1] (fun K=>V6 C.G K C.L x0 x1):=runT (P := ZoQ) rfl fun _ _=>by kernel_rfl
def Qb (G:GT)(K:KT)(L:Nat)(o:HP)(q:HP)(g:Eff):KR :=
  Wl o (.bool true) q g
theorem SN :Yh G 26 o.length K WX L TG (Wi WX Qy o) (Wi WX Qy o) []=fun e q g=>Qb G K L o  q g:=by kernel_rfl
def Qc (G:GT)(K:KT)(L:Nat)(o:HP)(k0:HP→Eff→KR):Nat→AV→AV→AV→AV→HP→Eff→KR
  | 0,_,_,_,_,_,_=>none
  | m + 1,x0,x1,x12,x13,q,g=>Zd (Zc .lss .prim x13 x12) fun v4=>ifK v4 (Zd (Y4 (.slice 3) x0 x13) fun v5=>Zd (Zt q 3 v5) fun v6=>Zd (Y4 (.slice 3) x1 x13) fun v7=>Zd (Zt q 3 v7) fun v8=>Zd (Zc .neq (.struct [.str,.str,.int]) v6 v8) fun v9=>ifK v9 (Wl o (.bool false) q g) (Zd (Zc .add .prim x13 (.int .i64 1)) fun v10=>Qc G K L o k0 m x0 x1 x12 v10 q g)) (k0  q g)
theorem SQ (k0:HP→Eff→KR)(zn:IE):Yh G 26 o.length K WX L TI zn (Wi WX Qy o) [(0,(fun e q g=>k0 q g))]=fun e q g=>Qc G K L o k0 L (e 0).rd (e 1).rd (e 12).rd (e 13).rd q g:=lpJ (fun m e q g=>Qc G K L o k0 m (e 0).rd (e 1).rd (e 12).rd (e 13).rd q g) rfl (fun _=>by kernel_rfl) L
def VH (G:GT)(K:KT)(L:Nat)(x0 x1:AV)(o:HP):KR :=
  Zd (ZO o .slice (AV.ro x0)) fun v0=>Zd (ZO o .slice (AV.ro x1)) fun v1=>Zd (Zc .neq .prim v0 v1) fun v2=>ifK v2 (Wl o (.bool false) o none) (Zd (ZO o .slice (AV.ro x0)) fun v3=>Qc G K L o (Qb G K L o) L (AV.ro x0) (AV.ro x1) v3 (.int .i64 0) o none)
theorem AC (x0 x1:AV) :fnK G K WX L Qy [x0,x1] o=VH G K L x0 x1 o:=by
 show Yh G 26 o.length K WX L H5 (Wi WX Qy o) (Wi WX Qy o) [] (EW [x0,x1]) o none=_
 simp only [H5,Yn,ZB,ZC,ZQ]
 rw [SN G K L o ,SQ G K L o (Qb G K L o) _]
 kernel_rfl
theorem FC {C:Cfg}{x0 x1:AV}:RunT C Hw Qy [x0,x1] (fun K=>VH C.G K C.L x0 x1):=runT rfl fun _ _=>AC ..
def UT (G:GT)(K:KT)(L:Nat)(o:HP)(q:HP)(g:Eff):KR :=
  Wl o (.bool true) q g
theorem Zg4 :Yh G 26 o.length K G8 L ZcT (Wi G8 Iw o) (Wi G8 Iw o) []=fun e q g=>UT G K L o  q g:=by kernel_rfl
def UU (G:GT)(K:KT)(L:Nat)(o:HP)(k0:HP→Eff→KR):Nat→AV→AV→AV→HP→Eff→KR
  | 0,_,_,_,_,_=>none
  | m + 1,x0,x1,x5,q,g=>Zd (ZO q .slice x0) fun v3=>Zd (Zc .lss .prim x5 v3) fun v4=>ifK v4 (Zd (Y4 (.slice 3) x0 x5) fun v5=>Zd (Zt q 3 v5) fun v6=>Zd (Y4 (.slice 3) x1 x5) fun v7=>Zd (Zt q 3 v7) fun v8=>Zd (Zc .neq (.struct [.str,.int,.int]) v6 v8) fun v9=>ifK v9 (Wl o (.bool false) q g) (Zd (Zc .add .prim x5 (.int .i64 1)) fun v10=>UU G K L o k0 m x0 x1 v10 q g)) (k0  q g)
theorem Zg5 (k0:HP→Eff→KR)(zn:IE):Yh G 26 o.length K G8 L ZcU zn (Wi G8 Iw o) [(0,(fun e q g=>k0 q g))]=fun e q g=>UU G K L o k0 L (e 0).rd (e 1).rd (e 5).rd q g:=lpJ (fun m e q g=>UU G K L o k0 m (e 0).rd (e 1).rd (e 5).rd q g) rfl (fun _=>by kernel_rfl) L
def Ns (G:GT)(K:KT)(L:Nat)(x0 x1:AV)(o:HP):KR :=
  Zd (ZO o .slice (AV.ro x0)) fun v0=>Zd (ZO o .slice (AV.ro x1)) fun v1=>Zd (Zc .neq .prim v0 v1) fun v2=>ifK v2 (Wl o (.bool false) o none) (UU G K L o (UT G K L o) L (AV.ro x0) (AV.ro x1) (.int .i64 0) o none)
theorem Zkx (x0 x1:AV) :fnK G K G8 L Iw [x0,x1] o=Ns G K L x0 x1 o:=by
 show Yh G 26 o.length K G8 L ZbT (Wi G8 Iw o) (Wi G8 Iw o) [] (EW [x0,x1]) o none=_
 simp only [ZbT,Yn,ZB,ZC,ZQ]
 rw [Zg4 G K L o ,Zg5 G K L o (UT G K L o) _]
 kernel_rfl
theorem Zmf {C:Cfg}{x0 x1:AV}:RunT C FK Iw [x0,x1] (fun K=>Ns C.G K C.L x0 x1):=runT rfl fun _ _=>Zkx ..
def Qh (G:GT)(K:KT)(L:Nat)(o:HP)(q:HP)(g:Eff):KR :=
  Wl o (.bool true) q g
theorem Zh8 :Yh G 291 o.length K YP L ZdC (Wi YP QM o) (Wi YP QM o) []=fun e q g=>Qh G K L o  q g:=by kernel_rfl
def Gj (G:GT)(K:KT)(L:Nat)(o:HP)(k10:HP→Eff→KR):Nat→AV→AV→AV→HP→Eff→KR
  | 0,_,_,_,_,_=>none
  | m + 1,x2,x3,x14,q,g=>ldF q 12 x2 fun v0=>Zd (ZO q .slice v0) fun v1=>Zd (Zc .lss .prim x14 v1) fun v4=>ifK v4 (ldF q 12 x2 fun v5=>Zd (Y4 (.slice 3) v5 x14) fun v138=>Zd (Zt q 3 v138) fun v139=>ldF q 12 x3 fun v141=>Zd (Y4 (.slice 3) v141 x14) fun v6=>Zd (Zt q 3 v6) fun v143=>QV (Ub K Zfl [v139,v143] q) fun v7 h8 f146=>Zd (Jy .not (AV.ro v7)) fun v9=>ifK v9 (Wl o (.bool false) h8 (Zf o.length g f146)) (Zd (Zc .add .prim x14 (.int .i64 1)) fun v148=>Gj G K L o k10 m x2 x3 v148 h8 (Zf o.length g f146))) (k10  q g)
theorem Zh9 (k10:HP→Eff→KR)(zn:IE):Yh G 291 o.length K YP L ZdD zn (Wi YP QM o) [(10,(fun e q g=>k10 q g))]=fun e q g=>Gj G K L o k10 L (e 2).rd (e 3).rd (e 14).rd q g:=lpJ (fun m e q g=>Gj G K L o k10 m (e 2).rd (e 3).rd (e 14).rd q g) rfl (fun _=>by kernel_rfl) L
def WR (G:GT)(K:KT)(L:Nat)(o:HP)(x2:AV)(x3:AV)(q:HP)(g:Eff):KR :=
  Gj G K L o (Qh G K L o) L x2 x3 (.int .i64 0) q g
theorem ZiH :Yh G 291 o.length K YP L Zbd (Wi YP QM o) (Wi YP QM o) []=fun e q g=>WR G K L o (e 2).rd (e 3).rd q g:=by
 simp only [Zbd,Yn,ZB,ZC,ZQ]
 rw [Zh8 G K L o ,Zh9 G K L o (Qh G K L o) _]
 kernel_rfl
def Kz (G:GT)(K:KT)(L:Nat)(o:HP)(k8:AV→AV→HP→Eff→KR):Nat→AV→AV→AV→HP→Eff→KR
  | 0,_,_,_,_,_=>none
  | m + 1,x2,x3,x11,q,g=>ldF q 11 x2 fun v0=>Zd (ZO q .slice v0) fun v1=>Zd (Zc .lss .prim x11 v1) fun v152=>ifK v152 (ldF q 11 x2 fun v154=>Zd (Y4 (.slice 5) v154 x11) fun v4=>Zd (Zt q 5 v4) fun v5=>ldF q 11 x3 fun v6=>Zd (Y4 (.slice 5) v6 x11) fun v159=>Zd (Zt q 5 v159) fun v160=>UK (q ++ [.cells [(.str []),(.own 1 []),(.int .i64 0),(.int .i64 0),(.int .i64 0)] XO]) fun h7=>UK (h7 ++ [.cells [(.str []),(.own 1 []),(.int .i64 0),(.int .i64 0),(.int .i64 0)] XO]) fun h9=>TF (stV o.length 5 (.ptr (q).length 0) v5 h9 g) fun h10 f164=>TF (stV o.length 5 (.ptr (h7).length 0) v160 h10 f164) fun h12 f166=>ldF h12 0 (.ptr (q).length 0) fun v168=>ldF h12 0 (.ptr (h7).length 0) fun v13=>Zd (Zc .neq .prim v168 v13) fun v171=>VT v171 false (ldF h12 2 (.ptr (q).length 0) fun v173=>ldF h12 2 (.ptr (h7).length 0) fun v175=>Zd (Zc .neq .prim v173 v175) fun v14=>some (v14,h12,f166)) (some (.bool true)) h12 f166 fun v15 h16 f179=>VT (AV.ro v15) false (ldF h16 3 (.ptr (q).length 0) fun v17=>ldF h16 3 (.ptr (h7).length 0) fun v183=>Zd (Zc .neq .prim v17 v183) fun v18=>some (v18,h16,f179)) (some (.bool true)) h16 f179 fun v19 h20 f187=>VT (AV.ro v19) false (ldF h20 4 (.ptr (q).length 0) fun v21=>ldF h20 4 (.ptr (h7).length 0) fun v22=>Zd (Zc .neq .prim v21 v22) fun v23=>some (v23,h20,f187)) (some (.bool true)) h20 f187 fun v193 h24 f195=>VT (AV.ro v193) false (ldF h24 1 (.ptr (q).length 0) fun v25=>ldF h24 1 (.ptr (h7).length 0) fun v26=>QV (K ZdX [v25,v26] h24) fun v27 h28 f202=>Zd (Jy .not (AV.ro v27)) fun v203=>some (v203,h28,(Zf o.length f195 f202))) (some (.bool true)) h24 f195 fun v29 h30 f206=>ifK (AV.ro v29) (Wl o (.bool false) h30 f206) (Zd (Zc .add .prim x11 (.int .i64 1)) fun v31=>Kz G K L o k8 m x2 x3 v31 h30 f206)) (k8 x2 x3 q g)
theorem ZiM (k8:AV→AV→HP→Eff→KR)(zn:IE):Yh G 291 o.length K YP L ZeC zn (Wi YP QM o) [(8,(fun e q g=>k8 (e 2).rd (e 3).rd q g))]=fun e q g=>Kz G K L o k8 L (e 2).rd (e 3).rd (e 11).rd q g:=lpJ (fun m e q g=>Kz G K L o k8 m (e 2).rd (e 3).rd (e 11).rd q g) rfl (fun _=>by kernel_rfl) L
def YR (G:GT)(K:KT)(L:Nat)(o:HP)(x2:AV)(x3:AV)(q:HP)(g:Eff):KR :=
  Kz G K L o (WR G K L o) L x2 x3 (.int .i64 0) q g
theorem ZiG :Yh G 291 o.length K YP L Zbc (Wi YP QM o) (Wi YP QM o) []=fun e q g=>YR G K L o (e 2).rd (e 3).rd q g:=by
 simp only [Zbc,Yn,ZB,ZC,ZQ]
 rw [ZiH G K L o ,ZiM G K L o (WR G K L o) _]
 kernel_rfl
def Us (G:GT)(K:KT)(L:Nat)(o:HP)(k6:AV→AV→HP→Eff→KR):Nat→AV→AV→AV→HP→Eff→KR
  | 0,_,_,_,_,_=>none
  | m + 1,x2,x3,x8,q,g=>ldF q 10 x2 fun v0=>Zd (ZO q .slice v0) fun v210=>Zd (Zc .lss .prim x8 v210) fun v1=>ifK v1 (ldF q 10 x2 fun v4=>Zd (Y4 (.slice 4) v4 x8) fun v5=>Zd (Zt q 4 v5) fun v7=>ldF q 10 x3 fun v9=>Zd (Y4 (.slice 4) v9 x8) fun v218=>Zd (Zt q 4 v218) fun v10=>UK (q ++ [.cells [(.str []),(.own 2 []),(.own 2 []),(.own 21 [])] Wn]) fun h11=>UK (h11 ++ [.cells [(.str []),(.own 2 []),(.own 2 []),(.own 21 [])] Wn]) fun h12=>TF (stV o.length 4 (.ptr (q).length 0) v7 h12 g) fun h13 f223=>TF (stV o.length 4 (.ptr (h11).length 0) v10 h13 f223) fun h14 f225=>ldF h14 0 (.ptr (q).length 0) fun v227=>ldF h14 0 (.ptr (h11).length 0) fun v229=>Zd (Zc .neq .prim v227 v229) fun v15=>VT v15 false (ldF h14 1 (.ptr (q).length 0) fun v232=>ldF h14 1 (.ptr (h11).length 0) fun v234=>QV (K FI [v232,v234] h14) fun v16 h17 f237=>Zd (Jy .not (AV.ro v16)) fun v18=>some (v18,h17,(Zf o.length f225 f237))) (some (.bool true)) h14 f225 fun v19 h20 f241=>VT (AV.ro v19) false (ldF h20 2 (.ptr (q).length 0) fun v21=>ldF h20 2 (.ptr (h11).length 0) fun v22=>QV (K FI [v21,v22] h20) fun v23 h24 f248=>Zd (Jy .not (AV.ro v23)) fun v25=>some (v25,h24,(Zf o.length f241 f248))) (some (.bool true)) h20 f241 fun v26 h27 f252=>VT (AV.ro v26) false (ldF h27 3 (.ptr (q).length 0) fun v28=>ldF h27 3 (.ptr (h11).length 0) fun v29=>QV (K ES [v28,v29] h27) fun v30 h31 f259=>Zd (Jy .not (AV.ro v30)) fun v32=>some (v32,h31,(Zf o.length f252 f259))) (some (.bool true)) h27 f252 fun v33 h34 f263=>ifK (AV.ro v33) (Wl o (.bool false) h34 f263) (Zd (Zc .add .prim x8 (.int .i64 1)) fun v35=>Us G K L o k6 m x2 x3 v35 h34 f263)) (k6 x2 x3 q g)
theorem ZiL (k6:AV→AV→HP→Eff→KR)(zn:IE):Yh G 291 o.length K YP L ZeB zn (Wi YP QM o) [(6,(fun e q g=>k6 (e 2).rd (e 3).rd q g))]=fun e q g=>Us G K L o k6 L (e 2).rd (e 3).rd (e 8).rd q g:=lpJ (fun m e q g=>Us G K L o k6 m (e 2).rd (e 3).rd (e 8).rd q g) rfl (fun _=>by kernel_rfl) L
def Y2 (G:GT)(K:KT)(L:Nat)(o:HP)(x2:AV)(x3:AV)(q:HP)(g:Eff):KR :=
  Us G K L o (YR G K L o) L x2 x3 (.int .i64 0) q g
theorem ZiF :Yh G 291 o.length K YP L Zbb (Wi YP QM o) (Wi YP QM o) []=fun e q g=>Y2 G K L o (e 2).rd (e 3).rd q g:=by
 simp only [Zbb,Yn,ZB,ZC,ZQ]
 rw [ZiG G K L o ,ZiL G K L o (YR G K L o) _]
 kernel_rfl
def Ho (G:GT)(K:KT)(L:Nat)(o:HP)(k4:AV→AV→HP→Eff→KR):Nat→AV→AV→AV→HP→Eff→KR
  | 0,_,_,_,_,_=>none
  | m + 1,x2,x3,x7,q,g=>ldF q 4 x2 fun v0=>Zd (ZO q .slice v0) fun v1=>Zd (Zc .lss .prim x7 v1) fun v5=>ifK v5 (ldF q 4 x2 fun v6=>Zd (Y4 (.slice 3) v6 x7) fun v8=>Zd (Zt q 3 v8) fun v9=>ldF q 4 x3 fun v10=>Zd (Y4 (.slice 3) v10 x7) fun v11=>Zd (Zt q 3 v11) fun v12=>Zd (Zc .neq (.struct [.str,.int,.int]) v9 v12) fun v13=>ifK v13 (Wl o (.bool false) q g) (Zd (Zc .add .prim x7 (.int .i64 1)) fun v14=>Ho G K L o k4 m x2 x3 v14 q g)) (k4 x2 x3 q g)
theorem ZiK (k4:AV→AV→HP→Eff→KR)(zn:IE):Yh G 291 o.length K YP L ZeA zn (Wi YP QM o) [(4,(fun e q g=>k4 (e 2).rd (e 3).rd q g))]=fun e q g=>Ho G K L o k4 L (e 2).rd (e 3).rd (e 7).rd q g:=lpJ (fun m e q g=>Ho G K L o k4 m (e 2).rd (e 3).rd (e 7).rd q g) rfl (fun _=>by kernel_rfl) L
def Yk (G:GT)(K:KT)(L:Nat)(o:HP)(x2:AV)(x3:AV)(q:HP)(g:Eff):KR :=
  Ho G K L o (Y2 G K L o) L x2 x3 (.int .i64 0) q g
theorem ZiE :Yh G 291 o.length K YP L Zba (Wi YP QM o) (Wi YP QM o) []=fun e q g=>Yk G K L o (e 2).rd (e 3).rd q g:=by
 simp only [Zba,Yn,ZB,ZC,ZQ]
 rw [ZiF G K L o ,ZiK G K L o (Y2 G K L o) _]
 kernel_rfl
def Hm (G:GT)(K:KT)(L:Nat)(o:HP)(k2:AV→AV→HP→Eff→KR):Nat→AV→AV→AV→HP→Eff→KR
  | 0,_,_,_,_,_=>none
  | m + 1,x2,x3,x6,q,g=>ldF q 3 x2 fun v0=>Zd (ZO q .slice v0) fun v1=>Zd (Zc .lss .prim x6 v1) fun v4=>ifK v4 (ldF q 3 x2 fun v5=>Zd (Y4 (.slice 3) v5 x6) fun v7=>Zd (Zt q 3 v7) fun v8=>ldF q 3 x3 fun v9=>Zd (Y4 (.slice 3) v9 x6) fun v10=>Zd (Zt q 3 v10) fun v11=>Zd (Zc .neq (.struct [.str,.int,.int]) v8 v11) fun v12=>ifK v12 (Wl o (.bool false) q g) (Zd (Zc .add .prim x6 (.int .i64 1)) fun v13=>Hm G K L o k2 m x2 x3 v13 q g)) (k2 x2 x3 q g)
theorem ZiJ (k2:AV→AV→HP→Eff→KR)(zn:IE):Yh G 291 o.length K YP L Ze9 zn (Wi YP QM o) [(2,(fun e q g=>k2 (e 2).rd (e 3).rd q g))]=fun e q g=>Hm G K L o k2 L (e 2).rd (e 3).rd (e 6).rd q g:=lpJ (fun m e q g=>Hm G K L o k2 m (e 2).rd (e 3).rd (e 6).rd q g) rfl (fun _=>by kernel_rfl) L
def ZX (G:GT)(K:KT)(L:Nat)(o:HP)(x2:AV)(x3:AV)(q:HP)(g:Eff):KR :=
  Hm G K L o (Yk G K L o) L x2 x3 (.int .i64 0) q g
theorem ZiD :Yh G 291 o.length K YP L ZaZ (Wi YP QM o) (Wi YP QM o) []=fun e q g=>ZX G K L o (e 2).rd (e 3).rd q g:=by
 simp only [ZaZ,Yn,ZB,ZC,ZQ]
 rw [ZiE G K L o ,ZiJ G K L o (Yk G K L o) _]
 kernel_rfl
def Hl (G:GT)(K:KT)(L:Nat)(o:HP)(k0:AV→AV→HP→Eff→KR):Nat→AV→AV→AV→HP→Eff→KR
  | 0,_,_,_,_,_=>none
  | m + 1,x2,x3,x5,q,g=>ldF q 2 x2 fun v1=>Zd (ZO q .slice v1) fun v4=>Zd (Zc .lss .prim x5 v4) fun v6=>ifK v6 (ldF q 2 x2 fun v7=>Zd (Y4 (.slice 17) v7 x5) fun v8=>Zd (Zt q 17 v8) fun v9=>ldF q 2 x3 fun v10=>Zd (Y4 (.slice 17) v10 x5) fun v11=>Zd (Zt q 17 v11) fun v12=>QV (Ub K Zaj [v9,v12] q) fun v13 h14 f307=>Zd (Jy .not (AV.ro v13)) fun v15=>ifK v15 (Wl o (.bool false) h14 (Zf o.length g f307)) (Zd (Zc .add .prim x5 (.int .i64 1)) fun v16=>Hl G K L o k0 m x2 x3 v16 h14 (Zf o.length g f307))) (k0 x2 x3 q g)
theorem ZiI (k0:AV→AV→HP→Eff→KR)(zn:IE):Yh G 291 o.length K YP L Ze8 zn (Wi YP QM o) [(0,(fun e q g=>k0 (e 2).rd (e 3).rd q g))]=fun e q g=>Hl G K L o k0 L (e 2).rd (e 3).rd (e 5).rd q g:=lpJ (fun m e q g=>Hl G K L o k0 m (e 2).rd (e 3).rd (e 5).rd q g) rfl (fun _=>by kernel_rfl) L
def VG (G:GT)(K:KT)(L:Nat)(x0 x1:AV)(o:HP):KR :=
  Zd (MN 13 (AV.ro x0)) fun v1=>UK (o ++ [.cells v1 Zb]) fun h0=>Zd (MN 13 (AV.ro x1)) fun v3=>UK (h0 ++ [.cells v3 Zb]) fun h2=>ldF h2 0 (.ptr (o).length 0) fun v5=>ldF h2 0 (.ptr (h0).length 0) fun v7=>Zd (Zc .neq .prim v5 v7) fun v8=>VT v8 false (ldF h2 1 (.ptr (o).length 0) fun v10=>ldF h2 1 (.ptr (h0).length 0) fun v12=>QV (K FK [v10,v12] h2) fun v13 h14 f15=>Zd (Jy .not (AV.ro v13)) fun v16=>some (v16,h14,(Zf o.length none f15))) (some (.bool true)) h2 none fun v17 h18 f19=>VT (AV.ro v17) false (ldF h18 2 (.ptr (o).length 0) fun v21=>Zd (ZO h18 .slice v21) fun v22=>ldF h18 2 (.ptr (h0).length 0) fun v24=>Zd (ZO h18 .slice v24) fun v25=>Zd (Zc .neq .prim v22 v25) fun v26=>some (v26,h18,f19)) (some (.bool true)) h18 f19 fun v27 h28 f29=>VT (AV.ro v27) false (ldF h28 3 (.ptr (o).length 0) fun v31=>Zd (ZO h28 .slice v31) fun v32=>ldF h28 3 (.ptr (h0).length 0) fun v34=>Zd (ZO h28 .slice v34) fun v35=>Zd (Zc .neq .prim v32 v35) fun v36=>some (v36,h28,f29)) (some (.bool true)) h28 f29 fun v37 h38 f39=>VT (AV.ro v37) false (ldF h38 4 (.ptr (o).length 0) fun v41=>Zd (ZO h38 .slice v41) fun v42=>ldF h38 4 (.ptr (h0).length 0) fun v44=>Zd (ZO h38 .slice v44) fun v45=>Zd (Zc .neq .prim v42 v45) fun v46=>some (v46,h38,f39)) (some (.bool true)) h38 f39 fun v47 h48 f49=>VT (AV.ro v47) false (ldF h48 10 (.ptr (o).length 0) fun v51=>Zd (ZO h48 .slice v51) fun v52=>ldF h48 10 (.ptr (h0).length 0) fun v54=>Zd (ZO h48 .slice v54) fun v55=>Zd (Zc .neq .prim v52 v55) fun v56=>some (v56,h48,f49)) (some (.bool true)) h48 f49 fun v57 h4 f59=>VT (AV.ro v57) false (ldF h4 11 (.ptr (o).length 0) fun v61=>Zd (ZO h4 .slice v61) fun v62=>ldF h4 11 (.ptr (h0).length 0) fun v64=>Zd (ZO h4 .slice v64) fun v65=>Zd (Zc .neq .prim v62 v65) fun v66=>some (v66,h4,f59)) (some (.bool true)) h4 f59 fun v67 h68 f69=>VT (AV.ro v67) false (ldF h68 12 (.ptr (o).length 0) fun v71=>Zd (ZO h68 .slice v71) fun v72=>ldF h68 12 (.ptr (h0).length 0) fun v74=>Zd (ZO h68 .slice v74) fun v75=>Zd (Zc .neq .prim v72 v75) fun v76=>some (v76,h68,f69)) (some (.bool true)) h68 f69 fun v77 h6 f79=>ifK (AV.ro v77) (Wl o (.bool false) h6 f79) (ldF h6 5 (.ptr (o).length 0) fun v81=>ldF h6 5 (.ptr (h0).length 0) fun v83=>QV (K Ll [v81,v83] h6) fun v84 h9 f86=>Zd (Jy .not (AV.ro v84)) fun v87=>VT v87 false (ldF h9 6 (.ptr (o).length 0) fun v89=>ldF h9 6 (.ptr (h0).length 0) fun v91=>QV (K Ll [v89,v91] h9) fun v11 h20 f94=>Zd (Jy .not (AV.ro v11)) fun v23=>some (v23,h20,(Zf o.length (Zf o.length f79 f86) f94))) (some (.bool true)) h9 (Zf o.length f79 f86) fun v30 h97 f33=>VT (AV.ro v30) false (ldF h97 7 (.ptr (o).length 0) fun v40=>ldF h97 7 (.ptr (h0).length 0) fun v43=>QV (K Ll [v40,v43] h97) fun v50 h53 f105=>Zd (Jy .not (AV.ro v50)) fun v58=>some (v58,h53,(Zf o.length f33 f105))) (some (.bool true)) h97 f33 fun v107 h60 f109=>VT (AV.ro v107) false (ldF h60 8 (.ptr (o).length 0) fun v63=>ldF h60 8 (.ptr (h0).length 0) fun v70=>QV (K Ll [v63,v70] h60) fun v73 h78 f116=>Zd (Jy .not (AV.ro v73)) fun v117=>some (v117,h78,(Zf o.length f109 f116))) (some (.bool true)) h60 f109 fun v80 h119 f120=>VT (AV.ro v80) false (ldF h119 9 (.ptr (o).length 0) fun v82=>ldF h119 9 (.ptr (h0).length 0) fun v124=>QV (K Ll [v82,v124] h119) fun v85 h88 f127=>Zd (Jy .not (AV.ro v85)) fun v90=>some (v90,h88,(Zf o.length f120 f127))) (some (.bool true)) h119 f120 fun v92 h93 f131=>ifK (AV.ro v92) (Wl o (.bool false) h93 f131) (Hl G K L o (ZX G K L o) L (.ptr (o).length 0) (.ptr (h0).length 0) (.int .i64 0) h93 f131))
theorem ZmQ (x0 x1:AV) :fnK G K YP L QM [x0,x1] o=VG G K L x0 x1 o:=by
 show Yh G 291 o.length K YP L Zeh (Wi YP QM o) (Wi YP QM o) [] (EW [x0,x1]) o none=_
 simp only [Zeh,Yn,ZB,ZC,ZQ]
 rw [ZiD G K L o ,ZiI G K L o (ZX G K L o) _]
 kernel_rfl
theorem ZoX {C:Cfg}{x0 x1:AV}:RunT C ZdW QM [x0,x1] (fun K=>VG C.G K C.L x0 x1):=runT rfl fun _ _=>ZmQ ..
def Zj7 (G:GT)(K:KT)(L:Nat)(x0:AV)(o:HP):KR :=
  Zd (Zc .geq .prim (AV.ro x0) (.int .u8 97)) fun v0=>VT v0 true (Zd (Zc .leq .prim (AV.ro x0) (.int .u8 122)) fun v1=>some (v1,o,none)) (some (.bool false)) o none fun v2 h3 f4=>some (Vm false o v2 h3 f4)
theorem ZoN {C:Cfg}{x0:AV}:RunT C Zbv Zjk [x0] (fun K=>Zj7 C.G K C.L x0):=runT (P := ZsP) rfl fun _ _=>by kernel_rfl
def Zh5 (G:GT)(K:KT)(L:Nat)(x0:AV)(o:HP):KR :=
  Zd (Zc .eql .prim (AV.ro x0) (.str [97,100,100])) fun v0=>ifK v0 (ifK v0 (Wl o (.bool true) o none) (Wl o (.bool false) o none)) (Zd (Zc .eql .prim (AV.ro x0) (.str [97,102,116,101,114])) fun v1=>ifK v1 (ifK v1 (Wl o (.bool true) o none) (Wl o (.bool false) o none)) (Zd (Zc .eql .prim (AV.ro x0) (.str [97,110,100])) fun v2=>ifK v2 (ifK v2 (Wl o (.bool true) o none) (Wl o (.bool false) o none)) (Zd (Zc .eql .prim (AV.ro x0) (.str [97,116])) fun v3=>ifK v3 (ifK v3 (Wl o (.bool true) o none) (Wl o (.bool false) o none)) (Zd (Zc .eql .prim (AV.ro x0) (.str [98,101,108,116])) fun v4=>ifK v4 (ifK v4 (Wl o (.bool true) o none) (Wl o (.bool false) o none)) (Zd (Zc .eql .prim (AV.ro x0) (.str [98,111,111,108])) fun v5=>ifK v5 (ifK v5 (Wl o (.bool true) o none) (Wl o (.bool false) o none)) (Zd (Zc .eql .prim (AV.ro x0) (.str [99,111,110,115,101,114,118,101])) fun v6=>ifK v6 (ifK v6 (Wl o (.bool true) o none) (Wl o (.bool false) o none)) (Zd (Zc .eql .prim (AV.ro x0) (.str [99,111,110,115,116])) fun v7=>ifK v7 (ifK v7 (Wl o (.bool true) o none) (Wl o (.bool false) o none)) (Zd (Zc .eql .prim (AV.ro x0) (.str [99,111,117,110,116])) fun v8=>ifK v8 (ifK v8 (Wl o (.bool true) o none) (Wl o (.bool false) o none)) (Zd (Zc .eql .prim (AV.ro x0) (.str [99,121,99,108,101])) fun v9=>ifK v9 (ifK v9 (Wl o (.bool true) o none) (Wl o (.bool false) o none)) (Zd (Zc .eql .prim (AV.ro x0) (.str [100,111,119,110])) fun v10=>ifK v10 (ifK v10 (Wl o (.bool true) o none) (Wl o (.bool false) o none)) (Zd (Zc .eql .prim (AV.ro x0) (.str [100,114,97,119])) fun v11=>ifK v11 (ifK v11 (Wl o (.bool true) o none) (Wl o (.bool false) o none)) (Zd (Zc .eql .prim (AV.ro x0) (.str [100,117,114])) fun v12=>ifK v12 (ifK v12 (Wl o (.bool true) o none) (Wl o (.bool false) o none)) (Zd (Zc .eql .prim (AV.ro x0) (.str [101,108,115,101])) fun v13=>ifK v13 (ifK v13 (Wl o (.bool true) o none) (Wl o (.bool false) o none)) (Zd (Zc .eql .prim (AV.ro x0) (.str [101,110,100])) fun v14=>ifK v14 (ifK v14 (Wl o (.bool true) o none) (Wl o (.bool false) o none)) (Zd (Zc .eql .prim (AV.ro x0) (.str [101,118,101,114,121])) fun v15=>ifK v15 (ifK v15 (Wl o (.bool true) o none) (Wl o (.bool false) o none)) (Zd (Zc .eql .prim (AV.ro x0) (.str [102,97,108,115,101])) fun v16=>ifK v16 (ifK v16 (Wl o (.bool true) o none) (Wl o (.bool false) o none)) (Zd (Zc .eql .prim (AV.ro x0) (.str [102,97,117,108,116])) fun v17=>ifK v17 (ifK v17 (Wl o (.bool true) o none) (Wl o (.bool false) o none)) (Zd (Zc .eql .prim (AV.ro x0) (.str [102,105,102,111])) fun v18=>ifK v18 (ifK v18 (Wl o (.bool true) o none) (Wl o (.bool false) o none)) (Zd (Zc .eql .prim (AV.ro x0) (.str [102,114,101,101])) fun v19=>ifK v19 (ifK v19 (Wl o (.bool true) o none) (Wl o (.bool false) o none)) (Zd (Zc .eql .prim (AV.ro x0) (.str [102,114,111,109])) fun v20=>ifK v20 (ifK v20 (Wl o (.bool true) o none) (Wl o (.bool false) o none)) (Zd (Zc .eql .prim (AV.ro x0) (.str [103,101,111,109])) fun v21=>ifK v21 (ifK v21 (Wl o (.bool true) o none) (Wl o (.bool false) o none)) (Zd (Zc .eql .prim (AV.ro x0) (.str [103,101,116])) fun v22=>ifK v22 (ifK v22 (Wl o (.bool true) o none) (Wl o (.bool false) o none)) (Zd (Zc .eql .prim (AV.ro x0) (.str [104,111,108,100])) fun v23=>ifK v23 (ifK v23 (Wl o (.bool true) o none) (Wl o (.bool false) o none)) (Zd (Zc .eql .prim (AV.ro x0) (.str [105,102])) fun v24=>ifK v24 (ifK v24 (Wl o (.bool true) o none) (Wl o (.bool false) o none)) (Zd (Zc .eql .prim (AV.ro x0) (.str [105,110,116])) fun v25=>ifK v25 (ifK v25 (Wl o (.bool true) o none) (Wl o (.bool false) o none)) (Zd (Zc .eql .prim (AV.ro x0) (.str [105,110,116,111])) fun v26=>ifK v26 (ifK v26 (Wl o (.bool true) o none) (Wl o (.bool false) o none)) (Zd (Zc .eql .prim (AV.ro x0) (.str [108,101,97,115,116])) fun v27=>ifK v27 (ifK v27 (Wl o (.bool true) o none) (Wl o (.bool false) o none)) (Zd (Zc .eql .prim (AV.ro x0) (.str [108,101,118,101,108])) fun v28=>ifK v28 (ifK v28 (Wl o (.bool true) o none) (Wl o (.bool false) o none)) (Zd (Zc .eql .prim (AV.ro x0) (.str [108,105,102,111])) fun v29=>ifK v29 (ifK v29 (Wl o (.bool true) o none) (Wl o (.bool false) o none)) (Zd (Zc .eql .prim (AV.ro x0) (.str [108,105,110,107])) fun v30=>ifK v30 (ifK v30 (Wl o (.bool true) o none) (Wl o (.bool false) o none)) (Zd (Zc .eql .prim (AV.ro x0) (.str [108,111,99,97,108])) fun v31=>ifK v31 (ifK v31 (Wl o (.bool true) o none) (Wl o (.bool false) o none)) (Zd (Zc .eql .prim (AV.ro x0) (.str [109,97,120])) fun v32=>ifK v32 (ifK v32 (Wl o (.bool true) o none) (Wl o (.bool false) o none)) (Zd (Zc .eql .prim (AV.ro x0) (.str [109,105,110])) fun v33=>ifK v33 (ifK v33 (Wl o (.bool true) o none) (Wl o (.bool false) o none)) (Zd (Zc .eql .prim (AV.ro x0) (.str [109,111,100,101,108])) fun v34=>ifK v34 (ifK v34 (Wl o (.bool true) o none) (Wl o (.bool false) o none)) (Zd (Zc .eql .prim (AV.ro x0) (.str [110,111,116])) fun v35=>ifK v35 (ifK v35 (Wl o (.bool true) o none) (Wl o (.bool false) o none)) (Zd (Zc .eql .prim (AV.ro x0) (.str [110,111,119])) fun v36=>ifK v36 (ifK v36 (Wl o (.bool true) o none) (Wl o (.bool false) o none)) (Zd (Zc .eql .prim (AV.ro x0) (.str [111,98,115,101,114,118,101])) fun v37=>ifK v37 (ifK v37 (Wl o (.bool true) o none) (Wl o (.bool false) o none)) (Zd (Zc .eql .prim (AV.ro x0) (.str [111,114])) fun v38=>ifK v38 (ifK v38 (Wl o (.bool true) o none) (Wl o (.bool false) o none)) (Zd (Zc .eql .prim (AV.ro x0) (.str [112,97,114,97,109])) fun v39=>ifK v39 (ifK v39 (Wl o (.bool true) o none) (Wl o (.bool false) o none)) (Zd (Zc .eql .prim (AV.ro x0) (.str [112,114,101,101,109,112,116])) fun v40=>ifK v40 (ifK v40 (Wl o (.bool true) o none) (Wl o (.bool false) o none)) (Zd (Zc .eql .prim (AV.ro x0) (.str [112,114,105,111])) fun v41=>ifK v41 (ifK v41 (Wl o (.bool true) o none) (Wl o (.bool false) o none)) (Zd (Zc .eql .prim (AV.ro x0) (.str [112,117,116])) fun v42=>ifK v42 (ifK v42 (Wl o (.bool true) o none) (Wl o (.bool false) o none)) (Zd (Zc .eql .prim (AV.ro x0) (.str [113,117,101,117,101])) fun v43=>ifK v43 (ifK v43 (Wl o (.bool true) o none) (Wl o (.bool false) o none)) (Zd (Zc .eql .prim (AV.ro x0) (.str [114,101,108,101,97,115,101])) fun v44=>ifK v44 (ifK v44 (Wl o (.bool true) o none) (Wl o (.bool false) o none)) (Zd (Zc .eql .prim (AV.ro x0) (.str [114,101,115,111,117,114,99,101])) fun v45=>ifK v45 (ifK v45 (Wl o (.bool true) o none) (Wl o (.bool false) o none)) (Zd (Zc .eql .prim (AV.ro x0) (.str [114,105,100,101])) fun v46=>ifK v46 (ifK v46 (Wl o (.bool true) o none) (Wl o (.bool false) o none)) (Zd (Zc .eql .prim (AV.ro x0) (.str [114,111,117,116,105,110,101])) fun v47=>ifK v47 (ifK v47 (Wl o (.bool true) o none) (Wl o (.bool false) o none)) (Zd (Zc .eql .prim (AV.ro x0) (.str [115,101,105,122,101])) fun v48=>ifK v48 (ifK v48 (Wl o (.bool true) o none) (Wl o (.bool false) o none)) (Zd (Zc .eql .prim (AV.ro x0) (.str [115,101,110,100])) fun v49=>ifK v49 (ifK v49 (Wl o (.bool true) o none) (Wl o (.bool false) o none)) (Zd (Zc .eql .prim (AV.ro x0) (.str [115,101,116])) fun v50=>ifK v50 (ifK v50 (Wl o (.bool true) o none) (Wl o (.bool false) o none)) (Zd (Zc .eql .prim (AV.ro x0) (.str [115,104,105,102,116])) fun v51=>ifK v51 (ifK v51 (Wl o (.bool true) o none) (Wl o (.bool false) o none)) (Zd (Zc .eql .prim (AV.ro x0) (.str [115,105,103,110,97,108])) fun v52=>ifK v52 (ifK v52 (Wl o (.bool true) o none) (Wl o (.bool false) o none)) (Zd (Zc .eql .prim (AV.ro x0) (.str [115,105,116,101])) fun v53=>ifK v53 (ifK v53 (Wl o (.bool true) o none) (Wl o (.bool false) o none)) (Zd (Zc .eql .prim (AV.ro x0) (.str [115,105,122,101])) fun v54=>ifK v54 (ifK v54 (Wl o (.bool true) o none) (Wl o (.bool false) o none)) (Zd (Zc .eql .prim (AV.ro x0) (.str [115,112,97,119,110])) fun v55=>ifK v55 (ifK v55 (Wl o (.bool true) o none) (Wl o (.bool false) o none)) (Zd (Zc .eql .prim (AV.ro x0) (.str [115,116,97,114,116])) fun v56=>ifK v56 (ifK v56 (Wl o (.bool true) o none) (Wl o (.bool false) o none)) (Zd (Zc .eql .prim (AV.ro x0) (.str [115,116,111,112])) fun v57=>ifK v57 (ifK v57 (Wl o (.bool true) o none) (Wl o (.bool false) o none)) (Zd (Zc .eql .prim (AV.ro x0) (.str [115,116,111,114,101])) fun v58=>ifK v58 (ifK v58 (Wl o (.bool true) o none) (Wl o (.bool false) o none)) (Zd (Zc .eql .prim (AV.ro x0) (.str [115,116,114,101,97,109])) fun v59=>ifK v59 (ifK v59 (Wl o (.bool true) o none) (Wl o (.bool false) o none)) (Zd (Zc .eql .prim (AV.ro x0) (.str [115,117,109])) fun v60=>ifK v60 (ifK v60 (Wl o (.bool true) o none) (Wl o (.bool false) o none)) (Zd (Zc .eql .prim (AV.ro x0) (.str [116,97,98,108,101])) fun v61=>ifK v61 (ifK v61 (Wl o (.bool true) o none) (Wl o (.bool false) o none)) (Zd (Zc .eql .prim (AV.ro x0) (.str [116,97,108,108,121])) fun v62=>ifK v62 (ifK v62 (Wl o (.bool true) o none) (Wl o (.bool false) o none)) (Zd (Zc .eql .prim (AV.ro x0) (.str [116,105,99,107,115])) fun v63=>ifK v63 (ifK v63 (Wl o (.bool true) o none) (Wl o (.bool false) o none)) (Zd (Zc .eql .prim (AV.ro x0) (.str [116,105,109,101])) fun v64=>ifK v64 (ifK v64 (Wl o (.bool true) o none) (Wl o (.bool false) o none)) (Zd (Zc .eql .prim (AV.ro x0) (.str [116,114,117,101])) fun v65=>ifK v65 (ifK v65 (Wl o (.bool true) o none) (Wl o (.bool false) o none)) (Zd (Zc .eql .prim (AV.ro x0) (.str [117,110,105,102,111,114,109])) fun v66=>ifK v66 (ifK v66 (Wl o (.bool true) o none) (Wl o (.bool false) o none)) (Zd (Zc .eql .prim (AV.ro x0) (.str [117,110,116,105,108])) fun v67=>ifK v67 (ifK v67 (Wl o (.bool true) o none) (Wl o (.bool false) o none)) (Zd (Zc .eql .prim (AV.ro x0) (.str [117,112])) fun v68=>ifK v68 (ifK v68 (Wl o (.bool true) o none) (Wl o (.bool false) o none)) (Zd (Zc .eql .prim (AV.ro x0) (.str [118,97,114])) fun v69=>ifK v69 (ifK v69 (Wl o (.bool true) o none) (Wl o (.bool false) o none)) (Zd (Zc .eql .prim (AV.ro x0) (.str [119,97,105,116])) fun v70=>ifK v70 (ifK v70 (Wl o (.bool true) o none) (Wl o (.bool false) o none)) (Zd (Zc .eql .prim (AV.ro x0) (.str [119,97,105,116,105,110,103])) fun v71=>ifK v71 (ifK v71 (Wl o (.bool true) o none) (Wl o (.bool false) o none)) (Zd (Zc .eql .prim (AV.ro x0) (.str [119,104,105,108,101])) fun v72=>ifK v72 (Wl o (.bool true) o none) (Wl o (.bool false) o none)))))))))))))))))))))))))))))))))))))))))))))))))))))))))))))))))))))))))
theorem Znn {C:Cfg}{x0:AV}:RunT C ZcB ZgR [x0] (fun K=>Zh5 C.G K C.L x0):=runT (P := Zrb) rfl fun _ _=>by kernel_rfl
def Eo (G:GT)(K:KT)(L:Nat)(x0 x1:AV)(o:HP):KR :=
  Zd (MN 3 (AV.ro x1)) fun v1=>UK (o ++ [.cells v1 ZbL]) fun h0=>ldF h0 0 (.ptr (o).length 0) fun v3=>QV (K Qa [(AV.ro x0),v3] h0) fun v4 h5 f6=>Zd (Zc .neq .prim (AV.ro v4) (.int .i64 0)) fun v7=>ifK v7 (some (Vm false o v4 h5 (Zf o.length none f6))) (ldF h5 1 (.ptr (o).length 0) fun v9=>QV (K Zai [v9] h5) fun v10 h11 f12=>Zd (Jy .not (AV.ro v10)) fun v13=>ifK v13 (Wl o (.int .i64 1) h11 (Zf o.length (Zf o.length none f6) f12)) (ldF h11 1 (.ptr (o).length 0) fun v15=>ldF h11 2 (.ptr (o).length 0) fun v17=>QV (K Zb1 [v15,v17] h11) fun v18 h19 f20=>Zd (Jy .not (AV.ro v18)) fun v21=>ifK v21 (Wl o (.int .i64 2) h19 (Zf o.length (Zf o.length (Zf o.length none f6) f12) f20)) (Wl o (.int .i64 0) h19 (Zf o.length (Zf o.length (Zf o.length none f6) f12) f20))))
theorem Zal {C:Cfg}{x0 x1:AV}:RunT C Ha Zb4 [x0,x1] (fun K=>Eo C.G K C.L x0 x1):=runT (P := Zii) rfl fun _ _=>by kernel_rfl
def Ud (G:GT)(K:KT)(L:Nat)(o:HP)(q:HP)(g:Eff):KR :=
  Wl o (.int .i64 0) q g
theorem ZbY :Yh G 27 o.length K Vt L Az (Wi Vt VX o) (Wi Vt VX o) []=fun e q g=>Ud G K L o  q g:=by kernel_rfl
def Xx (G:GT)(K:KT)(L:Nat)(o:HP)(k0:HP→Eff→KR):Nat→AV→AV→AV→AV→HP→Eff→KR
  | 0,_,_,_,_,_,_=>none
  | m + 1,x2,x14,x15,x16,q,g=>Zd (Zc .lss .prim x16 x15) fun v3=>ifK v3 (Zd (Y4 (.slice 3) x14 x16) fun v4=>Zd (Zt q 3 v4) fun v5=>UK (q ++ [.cells [(.str []),(.int .i64 0),(.int .i64 0)] ZbL]) fun h6=>TF (stV o.length 3 (.ptr (q).length 0) v5 h6 g) fun h7 f8=>Zd (Zt h7 3 (.ptr (q).length 0)) fun v9=>QV (Uo K x2 [v9] h7) fun v10 h11 f12=>Zd (Zc .neq .prim (AV.ro v10) (.int .i64 0)) fun v13=>ifK v13 (some (Vm false o v10 h11 (Zf o.length f8 f12))) (Zd (Zc .add .prim x16 (.int .i64 1)) fun v14=>Xx G K L o k0 m x2 x14 x15 v14 h11 (Zf o.length f8 f12))) (k0  q g)
theorem ZbZ (k0:HP→Eff→KR)(zn:IE):Yh G 27 o.length K Vt L A7 zn (Wi Vt VX o) [(0,(fun e q g=>k0 q g))]=fun e q g=>Xx G K L o k0 L (e 2).rd (e 14).rd (e 15).rd (e 16).rd q g:=lpJ (fun m e q g=>Xx G K L o k0 m (e 2).rd (e 14).rd (e 15).rd (e 16).rd q g) rfl (fun _=>by kernel_rfl) L
def TW (G:GT)(K:KT)(L:Nat)(x0 x1 x2:AV)(o:HP):KR :=
  Zd (ZO o .slice (AV.ro x0)) fun v0=>Zd (Zc .gtr .prim v0 (AV.ro x1)) fun v1=>ifK v1 (Wl o (.int .i64 6) o none) (Zd (ZO o .slice (AV.ro x0)) fun v2=>Xx G K L o (Ud G K L o) L (AV.ro x2) (AV.ro x0) v2 (.int .i64 0) o none)
theorem Zdy (x0 x1 x2:AV) :fnK G K Vt L VX [x0,x1,x2] o=TW G K L x0 x1 x2 o:=by
 show Yh G 27 o.length K Vt L PD (Wi Vt VX o) (Wi Vt VX o) [] (EW [x0,x1,x2]) o none=_
 simp only [PD,Yn,ZB,ZC,ZQ]
 rw [ZbY G K L o ,ZbZ G K L o (Ud G K L o) _]
 kernel_rfl
theorem F7 {C:Cfg}{x0 x1 x2:AV}:RunT C TT VX [x0,x1,x2] (fun K=>TW C.G K C.L x0 x1 x2):=runT rfl fun _ _=>Zdy ..
def Be (G:GT)(K:KT)(L:Nat)(x0 x1:AV)(o:HP):KR :=
  QV (K RF [(AV.ro x1)] o) fun v0 h1 f2=>Zd (Zc .neq .prim (AV.ro v0) (.int .i64 0)) fun v3=>ifK v3 (some (Vm false o v0 h1 (Zf o.length none f2))) (Zd (Zet h1 (.one .str) (.bool false) (AV.ro x0) (AV.ro x1) false) fun v4=>ifK (AV.ro v4) (Wl o (.int .i64 4) h1 (Zf o.length none f2)) (TF (Zwc o.length (.one .str) (AV.ro x0) (AV.ro x1) (.bool true) h1 (Zf o.length none f2)) fun h5 f6=>Wl o (.int .i64 0) h5 f6))
theorem P7 {C:Cfg}{x0 x1:AV}:RunT C Qa Zb3 [x0,x1] (fun K=>Be C.G K C.L x0 x1):=runT (P := Zih) rfl fun _ _=>by kernel_rfl
def ZnG (G:GT)(K:KT)(L:Nat)(x0:AV)(o:HP):KR :=
  Zd (MN 13 (AV.ro x0)) fun v1=>UK (o ++ [.cells v1 Zb]) fun h0=>UK (h0 ++ [.map []]) fun h2=>UK (h2 ++ [.cells [.nilm] V3]) fun h3=>TF (Zph o.length (.ptr (h2).length 0) (.map (h0).length) h3 none) fun h4 f5=>UK (h4 ++ [.cells [.nilf] Ue]) fun h6=>TF (Zph o.length (.ptr (h4).length 0) (.fn XZ [] [(.ptr (h2).length 0)]) h6 f5) fun h7 f8=>TF (ZoA Oh 1 [(.fn NG [] [(.ptr (h2).length 0),(.ptr (o).length 0)]),(.fn NH [] [(.ptr (o).length 0),(.ptr (h2).length 0)]),(.fn NI [] [(.ptr (o).length 0),(.ptr (h2).length 0)]),(.fn NJ [] [(.ptr (o).length 0),(.ptr (h2).length 0)]),(.fn NK [] [(.ptr (h4).length 0),(.ptr (o).length 0)]),(.fn NL [] [(.ptr (h4).length 0),(.ptr (o).length 0)]),(.fn NM [] [(.ptr (h4).length 0),(.ptr (o).length 0)]),(.fn NP [] [(.ptr (h4).length 0),(.ptr (o).length 0)]),(.fn Dw [] [(.ptr (h4).length 0),(.ptr (o).length 0)]),(.fn Dx [] [(.ptr (o).length 0),(.ptr (h2).length 0)]),(.fn Ee [] [(.ptr (o).length 0)]),(.fn Ef [] [(.ptr (o).length 0)])] h7) fun v9 h10=>QV (K Zfh [(AV.ro v9)] h10) fun v11 h12 f13=>some (Vm false o v11 h12 (Zf o.length f8 f13))
theorem Zs9 {C:Cfg}{x0:AV}:RunT C ZgB Zn7 [x0] (fun K=>ZnG C.G K C.L x0):=runT (P := Zwp) rfl fun _ _=>by kernel_rfl
def L6 (G:GT)(K:KT)(L:Nat)(x0 x1 x2:AV)(o:HP):KR :=
  Zd (MN 3 (AV.ro x0)) fun v1=>UK (o ++ [.cells v1 EM]) fun h0=>ldF h0 0 (.ptr (o).length 0) fun v3=>ldF h0 1 (.ptr (o).length 0) fun v5=>Zd (fill [(.str []),(.str [])] [(0,1,AV.nm v3),(1,1,AV.nm v5)]) fun v6=>UK (h0 ++ [.cells [(.str []),(.str [])] ZbK]) fun h7=>TF (stV o.length 2 (.ptr (h0).length 0) (.agg v6) h7 none) fun h8 f9=>Zd (Zt h8 4 (AV.ro x1)) fun v10=>ldF h8 0 (.ptr (o).length 0) fun v12=>QV (K Zb0 [v10,v12] h8) fun v13 h14 f15=>Zd (Zc .lss .prim (AV.ro v13) (.int .i64 0)) fun v16=>VT v16 false (Zd (Zt h14 4 (AV.ro x1)) fun v17=>ldF h14 1 (.ptr (o).length 0) fun v19=>QV (K Zb0 [v17,v19] h14) fun v20 h21 f22=>Zd (Zc .lss .prim (AV.ro v20) (.int .i64 0)) fun v23=>some (v23,h21,(Zf o.length (Zf o.length f9 f15) f22))) (some (.bool true)) h14 (Zf o.length f9 f15) fun v24 h25 f26=>ifK (AV.ro v24) (Wl o (.int .i64 5) h25 f26) (ldF h25 0 (.ptr (o).length 0) fun v28=>ldF h25 1 (.ptr (o).length 0) fun v30=>Zd (Zc .eql .prim v28 v30) fun v31=>ifK v31 (Wl o (.int .i64 1) h25 f26) (ldF h25 2 (.ptr (o).length 0) fun v33=>QV (K Vu [v33,(.int .i64 1),(.int .i64 1000000000)] h25) fun v34 h35 f36=>Zd (Jy .not (AV.ro v34)) fun v37=>ifK v37 (Wl o (.int .i64 2) h35 (Zf o.length f26 f36)) (Zd (Qn h35 (AV.ro x2)) fun v38=>Zd (Zt h35 2 (.ptr (h0).length 0)) fun v39=>Zd (Zet h35 (.pair .str) (.bool false) v38 v39 false) fun v40=>ifK (AV.ro v40) (Wl o (.int .i64 4) h35 (Zf o.length f26 f36)) (Zd (Qn h35 (AV.ro x2)) fun v41=>Zd (Zt h35 2 (.ptr (h0).length 0)) fun v42=>TF (Zwc o.length (.pair .str) v41 v42 (.bool true) h35 (Zf o.length f26 f36)) fun h43 f44=>Wl o (.int .i64 0) h43 f44))))
theorem Zng {C:Cfg}{x0 x1 x2:AV}:RunT C Ed ZgL [x0,x1,x2] (fun K=>L6 C.G K C.L x0 x1 x2):=runT (P := ZqV) rfl fun _ _=>by kernel_rfl
def Ur (G:GT)(K:KT)(L:Nat)(o:HP)(q:HP)(g:Eff):KR :=
  Wl o (.int .i64 0) q g
theorem Zcq :Yh G 27 o.length K VA L AU (Wi VA Jz o) (Wi VA Jz o) []=fun e q g=>Ur G K L o  q g:=by kernel_rfl
def X8 (G:GT)(K:KT)(L:Nat)(o:HP)(k0:HP→Eff→KR):Nat→AV→AV→AV→AV→HP→Eff→KR
  | 0,_,_,_,_,_,_=>none
  | m + 1,x2,x14,x15,x16,q,g=>Zd (Zc .lss .prim x16 x15) fun v3=>ifK v3 (Zd (Y4 (.slice 3) x14 x16) fun v4=>Zd (Zt q 3 v4) fun v5=>UK (q ++ [.cells [(.str []),(.str []),(.int .i64 0)] EM]) fun h6=>TF (stV o.length 3 (.ptr (q).length 0) v5 h6 g) fun h7 f8=>Zd (Zt h7 3 (.ptr (q).length 0)) fun v9=>QV (Uo K x2 [v9] h7) fun v10 h11 f12=>Zd (Zc .neq .prim (AV.ro v10) (.int .i64 0)) fun v13=>ifK v13 (some (Vm false o v10 h11 (Zf o.length f8 f12))) (Zd (Zc .add .prim x16 (.int .i64 1)) fun v14=>X8 G K L o k0 m x2 x14 x15 v14 h11 (Zf o.length f8 f12))) (k0  q g)
theorem Zcr (k0:HP→Eff→KR)(zn:IE):Yh G 27 o.length K VA L AX zn (Wi VA Jz o) [(0,(fun e q g=>k0 q g))]=fun e q g=>X8 G K L o k0 L (e 2).rd (e 14).rd (e 15).rd (e 16).rd q g:=lpJ (fun m e q g=>X8 G K L o k0 m (e 2).rd (e 14).rd (e 15).rd (e 16).rd q g) rfl (fun _=>by kernel_rfl) L
def LY (G:GT)(K:KT)(L:Nat)(x0 x1 x2:AV)(o:HP):KR :=
  Zd (ZO o .slice (AV.ro x0)) fun v0=>Zd (Zc .gtr .prim v0 (AV.ro x1)) fun v1=>ifK v1 (Wl o (.int .i64 6) o none) (Zd (ZO o .slice (AV.ro x0)) fun v2=>X8 G K L o (Ur G K L o) L (AV.ro x2) (AV.ro x0) v2 (.int .i64 0) o none)
theorem Zem (x0 x1 x2:AV) :fnK G K VA L Jz [x0,x1,x2] o=LY G K L x0 x1 x2 o:=by
 show Yh G 27 o.length K VA L NV (Wi VA Jz o) (Wi VA Jz o) [] (EW [x0,x1,x2]) o none=_
 simp only [NV,Yn,ZB,ZC,ZQ]
 rw [Zcq G K L o ,Zcr G K L o (Ur G K L o) _]
 kernel_rfl
theorem CP {C:Cfg}{x0 x1 x2:AV}:RunT C LX Jz [x0,x1,x2] (fun K=>LY C.G K C.L x0 x1 x2):=runT rfl fun _ _=>Zem ..
def Qq (G:GT)(K:KT)(L:Nat)(o:HP)(q:HP)(g:Eff):KR :=
  Wl o (.int .i64 (-1)) q g
theorem TL :Yh G 19 o.length K Y1 L UN (Wi Y1 YD o) (Wi Y1 YD o) []=fun e q g=>Qq G K L o  q g:=by kernel_rfl
def Y5 (G:GT)(K:KT)(L:Nat)(o:HP)(k0:HP→Eff→KR):Nat→AV→AV→AV→AV→HP→Eff→KR
  | 0,_,_,_,_,_,_=>none
  | m + 1,x0,x1,x7,x8,q,g=>Zd (Zc .lss .prim x8 x7) fun v1=>ifK v1 (Zd (Y4 (.slice 3) x0 x8) fun v2=>Zd (Zt q 3 v2) fun v3=>QV (Uo K x1 [v3] q) fun v4 h5 f6=>ifK (AV.ro v4) (some (Vm false o x8 h5 (Zf o.length g f6))) (Zd (Zc .add .prim x8 (.int .i64 1)) fun v7=>Y5 G K L o k0 m x0 x1 x7 v7 h5 (Zf o.length g f6))) (k0  q g)
theorem TM (k0:HP→Eff→KR)(zn:IE):Yh G 19 o.length K Y1 L UO zn (Wi Y1 YD o) [(0,(fun e q g=>k0 q g))]=fun e q g=>Y5 G K L o k0 L (e 0).rd (e 1).rd (e 7).rd (e 8).rd q g:=lpJ (fun m e q g=>Y5 G K L o k0 m (e 0).rd (e 1).rd (e 7).rd (e 8).rd q g) rfl (fun _=>by kernel_rfl) L
def Ja (G:GT)(K:KT)(L:Nat)(x0 x1:AV)(o:HP):KR :=
  Zd (ZO o .slice (AV.ro x0)) fun v0=>Y5 G K L o (Qq G K L o) L (AV.ro x0) (AV.ro x1) v0 (.int .i64 0) o none
theorem L8 (x0 x1:AV) :fnK G K Y1 L YD [x0,x1] o=Ja G K L x0 x1 o:=by
 show Yh G 19 o.length K Y1 L VZ (Wi Y1 YD o) (Wi Y1 YD o) [] (EW [x0,x1]) o none=_
 simp only [VZ,Yn,ZB,ZC,ZQ]
 rw [TL G K L o ,TM G K L o (Qq G K L o) _]
 kernel_rfl
theorem Rk {C:Cfg}{x0 x1:AV}:RunT C VV YD [x0,x1] (fun K=>Ja C.G K C.L x0 x1):=runT rfl fun _ _=>L8 ..
def Jb (G:GT)(K:KT)(L:Nat)(o:HP)(q:HP)(g:Eff):KR :=
  Wl o (.int .i64 (-1)) q g
theorem Fz :Yh G 19 o.length K QE L Bc (Wi QE Xh o) (Wi QE Xh o) []=fun e q g=>Jb G K L o  q g:=by kernel_rfl
def Q9 (G:GT)(K:KT)(L:Nat)(o:HP)(k0:HP→Eff→KR):Nat→AV→AV→AV→AV→HP→Eff→KR
  | 0,_,_,_,_,_,_=>none
  | m + 1,x0,x1,x7,x8,q,g=>Zd (Zc .lss .prim x8 x7) fun v1=>ifK v1 (Zd (Y4 (.slice 1) x0 x8) fun v2=>Zd (Qn q v2) fun v3=>Zd (Zc .eql .prim x1 v3) fun v4=>ifK v4 (some (Vm false o x8 q g)) (Zd (Zc .add .prim x8 (.int .i64 1)) fun v5=>Q9 G K L o k0 m x0 x1 x7 v5 q g)) (k0  q g)
theorem F5 (k0:HP→Eff→KR)(zn:IE):Yh G 19 o.length K QE L Bd zn (Wi QE Xh o) [(0,(fun e q g=>k0 q g))]=fun e q g=>Q9 G K L o k0 L (e 0).rd (e 1).rd (e 7).rd (e 8).rd q g:=lpJ (fun m e q g=>Q9 G K L o k0 m (e 0).rd (e 1).rd (e 7).rd (e 8).rd q g) rfl (fun _=>by kernel_rfl) L
def OQ (G:GT)(K:KT)(L:Nat)(x0 x1:AV)(o:HP):KR :=
  Zd (ZO o .slice (AV.ro x0)) fun v0=>Q9 G K L o (Jb G K L o) L (AV.ro x0) (AV.ro x1) v0 (.int .i64 0) o none
theorem Za3 (x0 x1:AV) :fnK G K QE L Xh [x0,x1] o=OQ G K L x0 x1 o:=by
 show Yh G 19 o.length K QE L OO (Wi QE Xh o) (Wi QE Xh o) [] (EW [x0,x1]) o none=_
 simp only [OO,Yn,ZB,ZC,ZQ]
 rw [Fz G K L o ,F5 G K L o (Jb G K L o) _]
 kernel_rfl
theorem ZaL {C:Cfg}{x0 x1:AV}:RunT C OA Xh [x0,x1] (fun K=>OQ C.G K C.L x0 x1):=runT rfl fun _ _=>Za3 ..
def Zp (G:GT)(K:KT)(L:Nat)(o:HP)(q:HP)(g:Eff):KR :=
  Wl o (.bool true) q g
theorem VN :Yh G 32 o.length K Zm L QF (Wi Zm Zu o) (Wi Zm Zu o) []=fun e q g=>Zp G K L o  q g:=by kernel_rfl
def Zq (G:GT)(K:KT)(L:Nat)(o:HP)(k0:HP→Eff→KR):Nat→AV→AV→AV→AV→AV→HP→Eff→KR
  | 0,_,_,_,_,_,_,_=>none
  | m + 1,x1,x2,x15,x16,x17,q,g=>Zd (Zc .lss .prim x17 x16) fun v4=>ifK v4 (Zd (Y4 (.slice 17) x15 x17) fun v5=>Zd (Zt q 17 v5) fun v6=>UK (q ++ [.cells [(.str []),(.int .i64 0),(.own 2 []),(.int .i64 0),(.str []),(.int .i64 0),(.int .i64 0),(.int .i64 0),(.int .i64 0),(.own 1 []),(.own 1 []),(.int .i64 0),(.int .i64 0),(.int .i64 0),(.int .i64 0),(.own 1 []),(.own 1 [])] Yj]) fun h7=>TF (stV o.length 17 (.ptr (q).length 0) v6 h7 g) fun h8 f9=>Zd (Y4 (.slice 17) x1 x17) fun v10=>Zd (Zt h8 17 v10) fun v11=>UK (h8 ++ [.cells [(.str []),(.int .i64 0),(.own 2 []),(.int .i64 0),(.str []),(.int .i64 0),(.int .i64 0),(.int .i64 0),(.int .i64 0),(.own 1 []),(.own 1 []),(.int .i64 0),(.int .i64 0),(.int .i64 0),(.int .i64 0),(.own 1 []),(.own 1 [])] Yj]) fun h12=>TF (stV o.length 17 (.ptr (h8).length 0) v11 h12 f9) fun h13 f14=>Zd (Zt h13 17 (.ptr (q).length 0)) fun v15=>Zd (Zt h13 17 (.ptr (h8).length 0)) fun v16=>QV (Uo K x2 [v15,v16] h13) fun v17 h18 f19=>Zd (Jy .not (AV.ro v17)) fun v20=>ifK v20 (Wl o (.bool false) h18 (Zf o.length f14 f19)) (Zd (Zc .add .prim x17 (.int .i64 1)) fun v21=>Zq G K L o k0 m x1 x2 x15 x16 v21 h18 (Zf o.length f14 f19))) (k0  q g)
theorem VO (k0:HP→Eff→KR)(zn:IE):Yh G 32 o.length K Zm L QG zn (Wi Zm Zu o) [(0,(fun e q g=>k0 q g))]=fun e q g=>Zq G K L o k0 L (e 1).rd (e 2).rd (e 15).rd (e 16).rd (e 17).rd q g:=lpJ (fun m e q g=>Zq G K L o k0 m (e 1).rd (e 2).rd (e 15).rd (e 16).rd (e 17).rd q g) rfl (fun _=>by kernel_rfl) L
def Yb (G:GT)(K:KT)(L:Nat)(x0 x1 x2:AV)(o:HP):KR :=
  Zd (ZO o .slice (AV.ro x0)) fun v0=>Zd (ZO o .slice (AV.ro x1)) fun v1=>Zd (Zc .neq .prim v0 v1) fun v2=>ifK v2 (Wl o (.bool false) o none) (Zd (ZO o .slice (AV.ro x0)) fun v3=>Zq G K L o (Zp G K L o) L (AV.ro x1) (AV.ro x2) (AV.ro x0) v3 (.int .i64 0) o none)
theorem Jh (x0 x1 x2:AV) :fnK G K Zm L Zu [x0,x1,x2] o=Yb G K L x0 x1 x2 o:=by
 show Yh G 32 o.length K Zm L Wv (Wi Zm Zu o) (Wi Zm Zu o) [] (EW [x0,x1,x2]) o none=_
 simp only [Wv,Yn,ZB,ZC,ZQ]
 rw [VN G K L o ,VO G K L o (Zp G K L o) _]
 kernel_rfl
theorem Jk {C:Cfg}{x0 x1 x2:AV}:RunT C Wu Zu [x0,x1,x2] (fun K=>Yb C.G K C.L x0 x1 x2):=runT rfl fun _ _=>Jh ..
def AB (G:GT)(K:KT)(L:Nat)(x0 x1:AV)(o:HP):KR :=
  Zd (MN 17 (AV.ro x0)) fun v1=>UK (o ++ [.cells v1 Yj]) fun h0=>Zd (MN 17 (AV.ro x1)) fun v3=>UK (h0 ++ [.cells v3 Yj]) fun h2=>ldF h2 0 (.ptr (o).length 0) fun v5=>ldF h2 0 (.ptr (h0).length 0) fun v7=>Zd (Zc .eql .prim v5 v7) fun v8=>VT v8 true (ldF h2 1 (.ptr (o).length 0) fun v10=>ldF h2 1 (.ptr (h0).length 0) fun v12=>Zd (Zc .eql .prim v10 v12) fun v13=>some (v13,h2,none)) (some (.bool false)) h2 none fun v14 h15 f16=>VT (AV.ro v14) true (ldF h15 3 (.ptr (o).length 0) fun v18=>ldF h15 3 (.ptr (h0).length 0) fun v20=>Zd (Zc .eql .prim v18 v20) fun v21=>some (v21,h15,f16)) (some (.bool false)) h15 f16 fun v22 h23 f24=>VT (AV.ro v22) true (ldF h23 2 (.ptr (o).length 0) fun v26=>ldF h23 2 (.ptr (h0).length 0) fun v28=>QV (K Kr [v26,v28] h23) fun v29 h30 f31=>some ((AV.ro v29),h30,(Zf o.length f24 f31))) (some (.bool false)) h23 f24 fun v32 h33 f34=>VT (AV.ro v32) true (Zd (Ir 4 (.ptr (o).length 0)) fun v35=>ldF h33 0 v35 fun v37=>Zd (Ir 4 (.ptr (h0).length 0)) fun v38=>ldF h33 0 v38 fun v40=>Zd (Zc .eql .prim v37 v40) fun v41=>some (v41,h33,f34)) (some (.bool false)) h33 f34 fun v42 h43 f44=>VT (AV.ro v42) true (Zd (Ir 4 (.ptr (o).length 0)) fun v45=>Zd (Ir 1 v45) fun v46=>Zd (Zt h43 6 v46) fun v47=>Zd (Ir 4 (.ptr (h0).length 0)) fun v48=>Zd (Ir 1 v48) fun v49=>Zd (Zt h43 6 v49) fun v50=>QV (K BM [v47,v50] h43) fun v51 h4 f53=>some ((AV.ro v51),h4,(Zf o.length f44 f53))) (some (.bool false)) h43 f44 fun v54 h6 f56=>VT (AV.ro v54) true (Zd (Ir 4 (.ptr (o).length 0)) fun v57=>Zd (Ir 7 v57) fun v58=>Zd (Zt h6 6 v58) fun v59=>Zd (Ir 4 (.ptr (h0).length 0)) fun v60=>Zd (Ir 7 v60) fun v61=>Zd (Zt h6 6 v61) fun v62=>QV (K BM [v59,v62] h6) fun v63 h64 f65=>some ((AV.ro v63),h64,(Zf o.length f56 f65))) (some (.bool false)) h6 f56 fun v66 h9 f68=>some (Vm false o v66 h9 f68)
theorem Zg6 {C:Cfg}{x0 x1:AV}:RunT C KL Zci [x0,x1] (fun K=>AB C.G K C.L x0 x1):=runT (P := ZiR) rfl fun _ _=>by kernel_rfl
def YH (G:GT)(K:KT)(L:Nat)(o:HP)(q:HP)(g:Eff):KR :=
  Wl o (.bool true) q g
theorem Rf :Yh G 26 o.length K YA L Gs (Wi YA We o) (Wi YA We o) []=fun e q g=>YH G K L o  q g:=by kernel_rfl
def YI (G:GT)(K:KT)(L:Nat)(o:HP)(k0:HP→Eff→KR):Nat→AV→AV→AV→AV→HP→Eff→KR
  | 0,_,_,_,_,_,_=>none
  | m + 1,x0,x1,x12,x13,q,g=>Zd (Zc .lss .prim x13 x12) fun v4=>ifK v4 (Zd (Y4 (.slice 3) x0 x13) fun v5=>Zd (Zt q 3 v5) fun v6=>Zd (Y4 (.slice 3) x1 x13) fun v7=>Zd (Zt q 3 v7) fun v8=>Zd (Zc .neq (.struct [.str,.int,.int]) v6 v8) fun v9=>ifK v9 (Wl o (.bool false) q g) (Zd (Zc .add .prim x13 (.int .i64 1)) fun v10=>YI G K L o k0 m x0 x1 x12 v10 q g)) (k0  q g)
theorem Rh (k0:HP→Eff→KR)(zn:IE):Yh G 26 o.length K YA L Gt zn (Wi YA We o) [(0,(fun e q g=>k0 q g))]=fun e q g=>YI G K L o k0 L (e 0).rd (e 1).rd (e 12).rd (e 13).rd q g:=lpJ (fun m e q g=>YI G K L o k0 m (e 0).rd (e 1).rd (e 12).rd (e 13).rd q g) rfl (fun _=>by kernel_rfl) L
def Xd (G:GT)(K:KT)(L:Nat)(x0 x1:AV)(o:HP):KR :=
  Zd (ZO o .slice (AV.ro x0)) fun v0=>Zd (ZO o .slice (AV.ro x1)) fun v1=>Zd (Zc .neq .prim v0 v1) fun v2=>ifK v2 (Wl o (.bool false) o none) (Zd (ZO o .slice (AV.ro x0)) fun v3=>YI G K L o (YH G K L o) L (AV.ro x0) (AV.ro x1) v3 (.int .i64 0) o none)
theorem BV (x0 x1:AV) :fnK G K YA L We [x0,x1] o=Xd G K L x0 x1 o:=by
 show Yh G 26 o.length K YA L JS (Wi YA We o) (Wi YA We o) [] (EW [x0,x1]) o none=_
 simp only [JS,Yn,ZB,ZC,ZQ]
 rw [Rf G K L o ,Rh G K L o (YH G K L o) _]
 kernel_rfl
theorem Dk {C:Cfg}{x0 x1:AV}:RunT C JQ We [x0,x1] (fun K=>Xd C.G K C.L x0 x1):=runT rfl fun _ _=>BV ..
def YS (G:GT)(K:KT)(L:Nat)(o:HP)(q:HP)(g:Eff):KR :=
  Wl o (.bool true) q g
theorem Bq :Yh G 26 o.length K YM L He (Wi YM Wp o) (Wi YM Wp o) []=fun e q g=>YS G K L o  q g:=by kernel_rfl
def YT (G:GT)(K:KT)(L:Nat)(o:HP)(k0:HP→Eff→KR):Nat→AV→AV→AV→AV→HP→Eff→KR
  | 0,_,_,_,_,_,_=>none
  | m + 1,x0,x1,x12,x13,q,g=>Zd (Zc .lss .prim x13 x12) fun v4=>ifK v4 (Zd (Y4 (.slice 3) x0 x13) fun v5=>Zd (Zt q 3 v5) fun v6=>Zd (Y4 (.slice 3) x1 x13) fun v7=>Zd (Zt q 3 v7) fun v8=>Zd (Zc .neq (.struct [.str,.int,.int]) v6 v8) fun v9=>ifK v9 (Wl o (.bool false) q g) (Zd (Zc .add .prim x13 (.int .i64 1)) fun v10=>YT G K L o k0 m x0 x1 x12 v10 q g)) (k0  q g)
theorem Bv (k0:HP→Eff→KR)(zn:IE):Yh G 26 o.length K YM L Hf zn (Wi YM Wp o) [(0,(fun e q g=>k0 q g))]=fun e q g=>YT G K L o k0 L (e 0).rd (e 1).rd (e 12).rd (e 13).rd q g:=lpJ (fun m e q g=>YT G K L o k0 m (e 0).rd (e 1).rd (e 12).rd (e 13).rd q g) rfl (fun _=>by kernel_rfl) L
def Xo (G:GT)(K:KT)(L:Nat)(x0 x1:AV)(o:HP):KR :=
  Zd (ZO o .slice (AV.ro x0)) fun v0=>Zd (ZO o .slice (AV.ro x1)) fun v1=>Zd (Zc .neq .prim v0 v1) fun v2=>ifK v2 (Wl o (.bool false) o none) (Zd (ZO o .slice (AV.ro x0)) fun v3=>YT G K L o (YS G K L o) L (AV.ro x0) (AV.ro x1) v3 (.int .i64 0) o none)
theorem DJ (x0 x1:AV) :fnK G K YM L Wp [x0,x1] o=Xo G K L x0 x1 o:=by
 show Yh G 26 o.length K YM L Um (Wi YM Wp o) (Wi YM Wp o) [] (EW [x0,x1]) o none=_
 simp only [Um,Yn,ZB,ZC,ZQ]
 rw [Bq G K L o ,Bv G K L o (YS G K L o) _]
 kernel_rfl
theorem Pg {C:Cfg}{x0 x1:AV}:RunT C Ul Wp [x0,x1] (fun K=>Xo C.G K C.L x0 x1):=runT rfl fun _ _=>DJ ..
def Q7 (G:GT)(K:KT)(L:Nat)(o:HP)(q:HP)(g:Eff):KR :=
  Wl o (.bool true) q g
theorem Fq :Yh G 26 o.length K QD L RY (Wi QD Xg o) (Wi QD Xg o) []=fun e q g=>Q7 G K L o  q g:=by kernel_rfl
def Q8 (G:GT)(K:KT)(L:Nat)(o:HP)(k0:HP→Eff→KR):Nat→AV→AV→AV→AV→HP→Eff→KR
  | 0,_,_,_,_,_,_=>none
  | m + 1,x0,x1,x12,x13,q,g=>Zd (Zc .lss .prim x13 x12) fun v4=>ifK v4 (Zd (Y4 (.slice 1) x0 x13) fun v5=>Zd (Qn q v5) fun v6=>Zd (Y4 (.slice 1) x1 x13) fun v7=>Zd (Qn q v7) fun v8=>Zd (Zc .neq .prim v6 v8) fun v9=>ifK v9 (Wl o (.bool false) q g) (Zd (Zc .add .prim x13 (.int .i64 1)) fun v10=>Q8 G K L o k0 m x0 x1 x12 v10 q g)) (k0  q g)
theorem Fv (k0:HP→Eff→KR)(zn:IE):Yh G 26 o.length K QD L RZ zn (Wi QD Xg o) [(0,(fun e q g=>k0 q g))]=fun e q g=>Q8 G K L o k0 L (e 0).rd (e 1).rd (e 12).rd (e 13).rd q g:=lpJ (fun m e q g=>Q8 G K L o k0 m (e 0).rd (e 1).rd (e 12).rd (e 13).rd q g) rfl (fun _=>by kernel_rfl) L
def JZ (G:GT)(K:KT)(L:Nat)(x0 x1:AV)(o:HP):KR :=
  Zd (ZO o .slice (AV.ro x0)) fun v0=>Zd (ZO o .slice (AV.ro x1)) fun v1=>Zd (Zc .neq .prim v0 v1) fun v2=>ifK v2 (Wl o (.bool false) o none) (Zd (ZO o .slice (AV.ro x0)) fun v3=>Q8 G K L o (Q7 G K L o) L (AV.ro x0) (AV.ro x1) v3 (.int .i64 0) o none)
theorem Za2 (x0 x1:AV) :fnK G K QD L Xg [x0,x1] o=JZ G K L x0 x1 o:=by
 show Yh G 26 o.length K QD L OM (Wi QD Xg o) (Wi QD Xg o) [] (EW [x0,x1]) o none=_
 simp only [OM,Yn,ZB,ZC,ZQ]
 rw [Fq G K L o ,Fv G K L o (Q7 G K L o) _]
 kernel_rfl
theorem ZaK {C:Cfg}{x0 x1:AV}:RunT C XI Xg [x0,x1] (fun K=>JZ C.G K C.L x0 x1):=runT rfl fun _ _=>Za2 ..
def ZH (G:GT)(K:KT)(L:Nat)(o:HP)(q:HP)(g:Eff):KR :=
  Wl o (.bool true) q g
theorem UW :Yh G 32 o.length K Z8 L Vd (Wi Z8 ZN o) (Wi Z8 ZN o) []=fun e q g=>ZH G K L o  q g:=by kernel_rfl
def ZI (G:GT)(K:KT)(L:Nat)(o:HP)(k0:HP→Eff→KR):Nat→AV→AV→AV→AV→AV→HP→Eff→KR
  | 0,_,_,_,_,_,_,_=>none
  | m + 1,x1,x2,x15,x16,x17,q,g=>Zd (Zc .lss .prim x17 x16) fun v4=>ifK v4 (Zd (Y4 (.slice 4) x15 x17) fun v5=>Zd (Zt q 4 v5) fun v6=>UK (q ++ [.cells [(.str []),(.own 2 []),(.own 2 []),(.own 21 [])] Wn]) fun h7=>TF (stV o.length 4 (.ptr (q).length 0) v6 h7 g) fun h8 f9=>Zd (Y4 (.slice 4) x1 x17) fun v10=>Zd (Zt h8 4 v10) fun v11=>UK (h8 ++ [.cells [(.str []),(.own 2 []),(.own 2 []),(.own 21 [])] Wn]) fun h12=>TF (stV o.length 4 (.ptr (h8).length 0) v11 h12 f9) fun h13 f14=>Zd (Zt h13 4 (.ptr (q).length 0)) fun v15=>Zd (Zt h13 4 (.ptr (h8).length 0)) fun v16=>QV (Uo K x2 [v15,v16] h13) fun v17 h18 f19=>Zd (Jy .not (AV.ro v17)) fun v20=>ifK v20 (Wl o (.bool false) h18 (Zf o.length f14 f19)) (Zd (Zc .add .prim x17 (.int .i64 1)) fun v21=>ZI G K L o k0 m x1 x2 x15 x16 v21 h18 (Zf o.length f14 f19))) (k0  q g)
theorem UX (k0:HP→Eff→KR)(zn:IE):Yh G 32 o.length K Z8 L Ve zn (Wi Z8 ZN o) [(0,(fun e q g=>k0 q g))]=fun e q g=>ZI G K L o k0 L (e 1).rd (e 2).rd (e 15).rd (e 16).rd (e 17).rd q g:=lpJ (fun m e q g=>ZI G K L o k0 m (e 1).rd (e 2).rd (e 15).rd (e 16).rd (e 17).rd q g) rfl (fun _=>by kernel_rfl) L
def YG (G:GT)(K:KT)(L:Nat)(x0 x1 x2:AV)(o:HP):KR :=
  Zd (ZO o .slice (AV.ro x0)) fun v0=>Zd (ZO o .slice (AV.ro x1)) fun v1=>Zd (Zc .neq .prim v0 v1) fun v2=>ifK v2 (Wl o (.bool false) o none) (Zd (ZO o .slice (AV.ro x0)) fun v3=>ZI G K L o (ZH G K L o) L (AV.ro x1) (AV.ro x2) (AV.ro x0) v3 (.int .i64 0) o none)
theorem KH (x0 x1 x2:AV) :fnK G K Z8 L ZN [x0,x1,x2] o=YG G K L x0 x1 x2 o:=by
 show Yh G 32 o.length K Z8 L QN (Wi Z8 ZN o) (Wi Z8 ZN o) [] (EW [x0,x1,x2]) o none=_
 simp only [QN,Yn,ZB,ZC,ZQ]
 rw [UW G K L o ,UX G K L o (ZH G K L o) _]
 kernel_rfl
theorem KU {C:Cfg}{x0 x1 x2:AV}:RunT C QL ZN [x0,x1,x2] (fun K=>YG C.G K C.L x0 x1 x2):=runT rfl fun _ _=>KH ..
def PG (G:GT)(K:KT)(L:Nat)(x0 x1:AV)(o:HP):KR :=
  Zd (MN 4 (AV.ro x0)) fun v1=>UK (o ++ [.cells v1 Wn]) fun h0=>Zd (MN 4 (AV.ro x1)) fun v3=>UK (h0 ++ [.cells v3 Wn]) fun h2=>ldF h2 0 (.ptr (o).length 0) fun v5=>ldF h2 0 (.ptr (h0).length 0) fun v7=>Zd (Zc .eql .prim v5 v7) fun v8=>VT v8 true (ldF h2 1 (.ptr (o).length 0) fun v10=>ldF h2 1 (.ptr (h0).length 0) fun v12=>QV (K JL [v10,v12] h2) fun v13 h14 f15=>some ((AV.ro v13),h14,(Zf o.length none f15))) (some (.bool false)) h2 none fun v16 h17 f18=>VT (AV.ro v16) true (ldF h17 2 (.ptr (o).length 0) fun v20=>ldF h17 2 (.ptr (h0).length 0) fun v22=>QV (K JL [v20,v22] h17) fun v23 h24 f25=>some ((AV.ro v23),h24,(Zf o.length f18 f25))) (some (.bool false)) h17 f18 fun v26 h27 f28=>VT (AV.ro v26) true (ldF h27 3 (.ptr (o).length 0) fun v30=>ldF h27 3 (.ptr (h0).length 0) fun v32=>QV (K Lm [v30,v32] h27) fun v33 h34 f35=>some ((AV.ro v33),h34,(Zf o.length f28 f35))) (some (.bool false)) h27 f28 fun v36 h37 f38=>some (Vm false o v36 h37 f38)
theorem Zid {C:Cfg}{x0 x1:AV}:RunT C GR ZcH [x0,x1] (fun K=>PG C.G K C.L x0 x1):=runT (P := ZkK) rfl fun _ _=>by kernel_rfl
def ZR (G:GT)(K:KT)(L:Nat)(o:HP)(q:HP)(g:Eff):KR :=
  Wl o (.bool true) q g
theorem GY :Yh G 32 o.length K ZP L VP (Wi ZP Ya o) (Wi ZP Ya o) []=fun e q g=>ZR G K L o  q g:=by kernel_rfl
def ZT (G:GT)(K:KT)(L:Nat)(o:HP)(k0:HP→Eff→KR):Nat→AV→AV→AV→AV→AV→HP→Eff→KR
  | 0,_,_,_,_,_,_,_=>none
  | m + 1,x1,x2,x15,x16,x17,q,g=>Zd (Zc .lss .prim x17 x16) fun v4=>ifK v4 (Zd (Y4 (.slice 5) x15 x17) fun v5=>Zd (Zt q 5 v5) fun v6=>UK (q ++ [.cells [(.str []),(.own 1 []),(.int .i64 0),(.int .i64 0),(.int .i64 0)] XO]) fun h7=>TF (stV o.length 5 (.ptr (q).length 0) v6 h7 g) fun h8 f9=>Zd (Y4 (.slice 5) x1 x17) fun v10=>Zd (Zt h8 5 v10) fun v11=>UK (h8 ++ [.cells [(.str []),(.own 1 []),(.int .i64 0),(.int .i64 0),(.int .i64 0)] XO]) fun h12=>TF (stV o.length 5 (.ptr (h8).length 0) v11 h12 f9) fun h13 f14=>Zd (Zt h13 5 (.ptr (q).length 0)) fun v15=>Zd (Zt h13 5 (.ptr (h8).length 0)) fun v16=>QV (Uo K x2 [v15,v16] h13) fun v17 h18 f19=>Zd (Jy .not (AV.ro v17)) fun v20=>ifK v20 (Wl o (.bool false) h18 (Zf o.length f14 f19)) (Zd (Zc .add .prim x17 (.int .i64 1)) fun v21=>ZT G K L o k0 m x1 x2 x15 x16 v21 h18 (Zf o.length f14 f19))) (k0  q g)
theorem GZ (k0:HP→Eff→KR)(zn:IE):Yh G 32 o.length K ZP L VQ zn (Wi ZP Ya o) [(0,(fun e q g=>k0 q g))]=fun e q g=>ZT G K L o k0 L (e 1).rd (e 2).rd (e 15).rd (e 16).rd (e 17).rd q g:=lpJ (fun m e q g=>ZT G K L o k0 m (e 1).rd (e 2).rd (e 15).rd (e 16).rd (e 17).rd q g) rfl (fun _=>by kernel_rfl) L
def Ws (G:GT)(K:KT)(L:Nat)(x0 x1 x2:AV)(o:HP):KR :=
  Zd (ZO o .slice (AV.ro x0)) fun v0=>Zd (ZO o .slice (AV.ro x1)) fun v1=>Zd (Zc .neq .prim v0 v1) fun v2=>ifK v2 (Wl o (.bool false) o none) (Zd (ZO o .slice (AV.ro x0)) fun v3=>ZT G K L o (ZR G K L o) L (AV.ro x1) (AV.ro x2) (AV.ro x0) v3 (.int .i64 0) o none)
theorem H7 (x0 x1 x2:AV) :fnK G K ZP L Ya [x0,x1,x2] o=Ws G K L x0 x1 x2 o:=by
 show Yh G 32 o.length K ZP L Xu (Wi ZP Ya o) (Wi ZP Ya o) [] (EW [x0,x1,x2]) o none=_
 simp only [Xu,Yn,ZB,ZC,ZQ]
 rw [GY G K L o ,GZ G K L o (ZR G K L o) _]
 kernel_rfl
theorem Ip {C:Cfg}{x0 x1 x2:AV}:RunT C Xt Ya [x0,x1,x2] (fun K=>Ws C.G K C.L x0 x1 x2):=runT rfl fun _ _=>H7 ..
def Zbi (G:GT)(K:KT)(L:Nat)(x0 x1:AV)(o:HP):KR :=
  Zd (MN 5 (AV.ro x0)) fun v1=>UK (o ++ [.cells v1 XO]) fun h0=>Zd (MN 5 (AV.ro x1)) fun v3=>UK (h0 ++ [.cells v3 XO]) fun h2=>ldF h2 0 (.ptr (o).length 0) fun v5=>ldF h2 0 (.ptr (h0).length 0) fun v7=>Zd (Zc .eql .prim v5 v7) fun v8=>VT v8 true (ldF h2 1 (.ptr (o).length 0) fun v10=>ldF h2 1 (.ptr (h0).length 0) fun v12=>QV (K VC [v10,v12] h2) fun v13 h14 f15=>some ((AV.ro v13),h14,(Zf o.length none f15))) (some (.bool false)) h2 none fun v16 h17 f18=>VT (AV.ro v16) true (ldF h17 2 (.ptr (o).length 0) fun v20=>ldF h17 2 (.ptr (h0).length 0) fun v22=>Zd (Zc .eql .prim v20 v22) fun v23=>some (v23,h17,f18)) (some (.bool false)) h17 f18 fun v24 h25 f26=>VT (AV.ro v24) true (ldF h25 3 (.ptr (o).length 0) fun v28=>ldF h25 3 (.ptr (h0).length 0) fun v30=>Zd (Zc .eql .prim v28 v30) fun v31=>some (v31,h25,f26)) (some (.bool false)) h25 f26 fun v32 h33 f34=>VT (AV.ro v32) true (ldF h33 4 (.ptr (o).length 0) fun v36=>ldF h33 4 (.ptr (h0).length 0) fun v38=>Zd (Zc .eql .prim v36 v38) fun v39=>some (v39,h33,f34)) (some (.bool false)) h33 f34 fun v40 h4 f42=>some (Vm false o v40 h4 f42)
theorem ZkE {C:Cfg}{x0 x1:AV}:RunT C IV Ze0 [x0,x1] (fun K=>Zbi C.G K C.L x0 x1):=runT (P := Znr) rfl fun _ _=>by kernel_rfl
def Yq (G:GT)(K:KT)(L:Nat)(o:HP)(q:HP)(g:Eff):KR :=
  Wl o (.bool true) q g
theorem IY :Yh G 32 o.length K Yi L Uj (Wi Yi Y0 o) (Wi Yi Y0 o) []=fun e q g=>Yq G K L o  q g:=by kernel_rfl
def Yr (G:GT)(K:KT)(L:Nat)(o:HP)(k0:HP→Eff→KR):Nat→AV→AV→AV→AV→AV→HP→Eff→KR
  | 0,_,_,_,_,_,_,_=>none
  | m + 1,x1,x2,x15,x16,x17,q,g=>Zd (Zc .lss .prim x17 x16) fun v4=>ifK v4 (Zd (Y4 (.slice 3) x15 x17) fun v5=>Zd (Zt q 3 v5) fun v6=>UK (q ++ [.cells [(.str []),(.own 3 []),(.int .i64 0)] V5]) fun h7=>TF (stV o.length 3 (.ptr (q).length 0) v6 h7 g) fun h8 f9=>Zd (Y4 (.slice 3) x1 x17) fun v10=>Zd (Zt h8 3 v10) fun v11=>UK (h8 ++ [.cells [(.str []),(.own 3 []),(.int .i64 0)] V5]) fun h12=>TF (stV o.length 3 (.ptr (h8).length 0) v11 h12 f9) fun h13 f14=>Zd (Zt h13 3 (.ptr (q).length 0)) fun v15=>Zd (Zt h13 3 (.ptr (h8).length 0)) fun v16=>QV (Uo K x2 [v15,v16] h13) fun v17 h18 f19=>Zd (Jy .not (AV.ro v17)) fun v20=>ifK v20 (Wl o (.bool false) h18 (Zf o.length f14 f19)) (Zd (Zc .add .prim x17 (.int .i64 1)) fun v21=>Yr G K L o k0 m x1 x2 x15 x16 v21 h18 (Zf o.length f14 f19))) (k0  q g)
theorem IZ (k0:HP→Eff→KR)(zn:IE):Yh G 32 o.length K Yi L Uk zn (Wi Yi Y0 o) [(0,(fun e q g=>k0 q g))]=fun e q g=>Yr G K L o k0 L (e 1).rd (e 2).rd (e 15).rd (e 16).rd (e 17).rd q g:=lpJ (fun m e q g=>Yr G K L o k0 m (e 1).rd (e 2).rd (e 15).rd (e 16).rd (e 17).rd q g) rfl (fun _=>by kernel_rfl) L
def Qi (G:GT)(K:KT)(L:Nat)(x0 x1 x2:AV)(o:HP):KR :=
  Zd (ZO o .slice (AV.ro x0)) fun v0=>Zd (ZO o .slice (AV.ro x1)) fun v1=>Zd (Zc .neq .prim v0 v1) fun v2=>ifK v2 (Wl o (.bool false) o none) (Zd (ZO o .slice (AV.ro x0)) fun v3=>Yr G K L o (Yq G K L o) L (AV.ro x1) (AV.ro x2) (AV.ro x0) v3 (.int .i64 0) o none)
theorem Td (x0 x1 x2:AV) :fnK G K Yi L Y0 [x0,x1,x2] o=Qi G K L x0 x1 x2 o:=by
 show Yh G 32 o.length K Yi L Vp (Wi Yi Y0 o) (Wi Yi Y0 o) [] (EW [x0,x1,x2]) o none=_
 simp only [Vp,Yn,ZB,ZC,ZQ]
 rw [IY G K L o ,IZ G K L o (Yq G K L o) _]
 kernel_rfl
theorem TC {C:Cfg}{x0 x1 x2:AV}:RunT C Vo Y0 [x0,x1,x2] (fun K=>Qi C.G K C.L x0 x1 x2):=runT rfl fun _ _=>Td ..
def Zdf (G:GT)(K:KT)(L:Nat)(x0 x1:AV)(o:HP):KR :=
  Zd (MN 3 (AV.ro x0)) fun v1=>UK (o ++ [.cells v1 V5]) fun h0=>Zd (MN 3 (AV.ro x1)) fun v3=>UK (h0 ++ [.cells v3 V5]) fun h2=>ldF h2 0 (.ptr (o).length 0) fun v5=>ldF h2 0 (.ptr (h0).length 0) fun v7=>Zd (Zc .eql .prim v5 v7) fun v8=>VT v8 true (ldF h2 2 (.ptr (o).length 0) fun v10=>ldF h2 2 (.ptr (h0).length 0) fun v12=>Zd (Zc .eql .prim v10 v12) fun v13=>some (v13,h2,none)) (some (.bool false)) h2 none fun v14 h15 f16=>VT (AV.ro v14) true (ldF h15 1 (.ptr (o).length 0) fun v18=>ldF h15 1 (.ptr (h0).length 0) fun v20=>QV (K Hy [v18,v20] h15) fun v21 h22 f23=>some ((AV.ro v21),h22,(Zf o.length f16 f23))) (some (.bool false)) h15 f16 fun v24 h25 f26=>some (Vm false o v24 h25 f26)
theorem Zni {C:Cfg}{x0 x1:AV}:RunT C Lj ZgM [x0,x1] (fun K=>Zdf C.G K C.L x0 x1):=runT (P := ZqW) rfl fun _ _=>by kernel_rfl
def Gl (G:GT)(K:KT)(L:Nat)(o:HP)(q:HP)(g:Eff):KR :=
  Wl o (.bool true) q g
theorem ZhB :Yh G 26 o.length K Ik L ZdE (Wi Ik OD o) (Wi Ik OD o) []=fun e q g=>Gl G K L o  q g:=by kernel_rfl
def Gm (G:GT)(K:KT)(L:Nat)(o:HP)(k0:HP→Eff→KR):Nat→AV→AV→AV→HP→Eff→KR
  | 0,_,_,_,_,_=>none
  | m + 1,x0,x1,x5,q,g=>Zd (ZO q .slice x0) fun v3=>Zd (Zc .lss .prim x5 v3) fun v4=>ifK v4 (Zd (Y4 (.slice 1) x0 x5) fun v5=>Zd (Qn q v5) fun v6=>Zd (Y4 (.slice 1) x1 x5) fun v7=>Zd (Qn q v7) fun v8=>Zd (Zc .neq .prim v6 v8) fun v9=>ifK v9 (Wl o (.bool false) q g) (Zd (Zc .add .prim x5 (.int .i64 1)) fun v10=>Gm G K L o k0 m x0 x1 v10 q g)) (k0  q g)
theorem ZhC (k0:HP→Eff→KR)(zn:IE):Yh G 26 o.length K Ik L ZdF zn (Wi Ik OD o) [(0,(fun e q g=>k0 q g))]=fun e q g=>Gm G K L o k0 L (e 0).rd (e 1).rd (e 5).rd q g:=lpJ (fun m e q g=>Gm G K L o k0 m (e 0).rd (e 1).rd (e 5).rd q g) rfl (fun _=>by kernel_rfl) L
def Ey (G:GT)(K:KT)(L:Nat)(x0 x1:AV)(o:HP):KR :=
  Zd (ZO o .slice (AV.ro x0)) fun v0=>Zd (ZO o .slice (AV.ro x1)) fun v1=>Zd (Zc .neq .prim v0 v1) fun v2=>ifK v2 (Wl o (.bool false) o none) (Gm G K L o (Gl G K L o) L (AV.ro x0) (AV.ro x1) (.int .i64 0) o none)
theorem Zl4 (x0 x1:AV) :fnK G K Ik L OD [x0,x1] o=Ey G K L x0 x1 o:=by
 show Yh G 26 o.length K Ik L ZcV (Wi Ik OD o) (Wi Ik OD o) [] (EW [x0,x1]) o none=_
 simp only [ZcV,Yn,ZB,ZC,ZQ]
 rw [ZhB G K L o ,ZhC G K L o (Gl G K L o) _]
 kernel_rfl
theorem Znw {C:Cfg}{x0 x1:AV}:RunT C Ll OD [x0,x1] (fun K=>Ey C.G K C.L x0 x1):=runT rfl fun _ _=>Zl4 ..
def JX (G:GT)(K:KT)(L:Nat)(o:HP)(x2:AV)(x3:AV)(q:HP)(g:Eff):KR :=
  Zd (Ir 4 x2) fun v45=>Zd (Ir 1 v45) fun v46=>Zd (Zt q 6 v46) fun v47=>Zd (Ir 4 x3) fun v48=>Zd (Ir 1 v48) fun v49=>Zd (Zt q 6 v49) fun v50=>QV (K Zc0 [v47,v50] q) fun v51 h0 f53=>VT (AV.ro v51) true (Zd (Ir 4 x2) fun v54=>Zd (Ir 7 v54) fun v55=>Zd (Zt h0 6 v55) fun v56=>Zd (Ir 4 x3) fun v57=>Zd (Ir 7 v57) fun v58=>Zd (Zt h0 6 v58) fun v59=>QV (K Zc0 [v56,v59] h0) fun v60 h1 f62=>some ((AV.ro v60),h1,(Zf o.length (Zf o.length g f53) f62))) (some (.bool false)) h0 (Zf o.length g f53) fun v63 h64 f65=>some (Vm false o v63 h64 f65)
theorem ZeK :Yh G 77 o.length K U9 L Zb7 (Wi U9 KZ o) (Wi U9 KZ o) []=fun e q g=>JX G K L o (e 2).rd (e 3).rd q g:=by kernel_rfl
def JY (G:GT)(K:KT)(L:Nat)(o:HP)(k0:AV→AV→HP→Eff→KR):Nat→AV→AV→AV→HP→Eff→KR
  | 0,_,_,_,_,_=>none
  | m + 1,x2,x3,x5,q,g=>ldF q 2 x2 fun v67=>Zd (ZO q .slice v67) fun v68=>Zd (Zc .lss .prim x5 v68) fun v69=>ifK v69 (ldF q 2 x2 fun v71=>Zd (Y4 (.slice 2) v71 x5) fun v72=>Zd (Zt q 2 v72) fun v73=>ldF q 2 x3 fun v75=>Zd (Y4 (.slice 2) v75 x5) fun v76=>Zd (Zt q 2 v76) fun v77=>Zd (Zc .neq (.struct [.int,.int]) v73 v77) fun v78=>ifK v78 (Wl o (.bool false) q g) (Zd (Zc .add .prim x5 (.int .i64 1)) fun v79=>JY G K L o k0 m x2 x3 v79 q g)) (k0 x2 x3 q g)
theorem ZeL (k0:AV→AV→HP→Eff→KR)(zn:IE):Yh G 77 o.length K U9 L Zb8 zn (Wi U9 KZ o) [(0,(fun e q g=>k0 (e 2).rd (e 3).rd q g))]=fun e q g=>JY G K L o k0 L (e 2).rd (e 3).rd (e 5).rd q g:=lpJ (fun m e q g=>JY G K L o k0 m (e 2).rd (e 3).rd (e 5).rd q g) rfl (fun _=>by kernel_rfl) L
def Bl (G:GT)(K:KT)(L:Nat)(x0 x1:AV)(o:HP):KR :=
  Zd (MN 17 (AV.ro x0)) fun v1=>UK (o ++ [.cells v1 Yj]) fun h0=>Zd (MN 17 (AV.ro x1)) fun v3=>UK (h0 ++ [.cells v3 Yj]) fun h2=>ldF h2 0 (.ptr (o).length 0) fun v5=>ldF h2 0 (.ptr (h0).length 0) fun v7=>Zd (Zc .neq .prim v5 v7) fun v8=>VT v8 false (ldF h2 1 (.ptr (o).length 0) fun v10=>ldF h2 1 (.ptr (h0).length 0) fun v12=>Zd (Zc .neq .prim v10 v12) fun v13=>some (v13,h2,none)) (some (.bool true)) h2 none fun v14 h15 f16=>VT (AV.ro v14) false (ldF h15 2 (.ptr (o).length 0) fun v18=>Zd (ZO h15 .slice v18) fun v19=>ldF h15 2 (.ptr (h0).length 0) fun v21=>Zd (ZO h15 .slice v21) fun v22=>Zd (Zc .neq .prim v19 v22) fun v23=>some (v23,h15,f16)) (some (.bool true)) h15 f16 fun v24 h25 f26=>VT (AV.ro v24) false (ldF h25 3 (.ptr (o).length 0) fun v28=>ldF h25 3 (.ptr (h0).length 0) fun v30=>Zd (Zc .neq .prim v28 v30) fun v31=>some (v31,h25,f26)) (some (.bool true)) h25 f26 fun v32 h33 f34=>VT (AV.ro v32) false (Zd (Ir 4 (.ptr (o).length 0)) fun v35=>ldF h33 0 v35 fun v37=>Zd (Ir 4 (.ptr (h0).length 0)) fun v38=>ldF h33 0 v38 fun v40=>Zd (Zc .neq .prim v37 v40) fun v41=>some (v41,h33,f34)) (some (.bool true)) h33 f34 fun v42 h43 f44=>ifK (AV.ro v42) (Wl o (.bool false) h43 f44) (JY G K L o (JX G K L o) L (.ptr (o).length 0) (.ptr (h0).length 0) (.int .i64 0) h43 f44)
theorem ZhA (x0 x1:AV) :fnK G K U9 L KZ [x0,x1] o=Bl G K L x0 x1 o:=by
 show Yh G 77 o.length K U9 L Zar (Wi U9 KZ o) (Wi U9 KZ o) [] (EW [x0,x1]) o none=_
 simp only [Zar,Yn,ZB,ZC,ZQ]
 rw [ZeK G K L o ,ZeL G K L o (JX G K L o) _]
 kernel_rfl
theorem ZiT {C:Cfg}{x0 x1:AV}:RunT C Zaj KZ [x0,x1] (fun K=>Bl C.G K C.L x0 x1):=runT rfl fun _ _=>ZhA ..
def UQ (G:GT)(K:KT)(L:Nat)(o:HP)(q:HP)(g:Eff):KR :=
  Wl o (.bool true) q g
theorem Zg2 :Yh G 26 o.length K G7 L ZcR (Wi G7 Iu o) (Wi G7 Iu o) []=fun e q g=>UQ G K L o  q g:=by kernel_rfl
def UR (G:GT)(K:KT)(L:Nat)(o:HP)(k0:HP→Eff→KR):Nat→AV→AV→AV→HP→Eff→KR
  | 0,_,_,_,_,_=>none
  | m + 1,x0,x1,x5,q,g=>Zd (ZO q .slice x0) fun v3=>Zd (Zc .lss .prim x5 v3) fun v4=>ifK v4 (Zd (Y4 (.slice 2) x0 x5) fun v5=>Zd (Zt q 2 v5) fun v6=>Zd (Y4 (.slice 2) x1 x5) fun v7=>Zd (Zt q 2 v7) fun v8=>Zd (Zc .neq (.struct [.str,.int]) v6 v8) fun v9=>ifK v9 (Wl o (.bool false) q g) (Zd (Zc .add .prim x5 (.int .i64 1)) fun v10=>UR G K L o k0 m x0 x1 v10 q g)) (k0  q g)
theorem Zg3 (k0:HP→Eff→KR)(zn:IE):Yh G 26 o.length K G7 L ZcS zn (Wi G7 Iu o) [(0,(fun e q g=>k0 q g))]=fun e q g=>UR G K L o k0 L (e 0).rd (e 1).rd (e 5).rd q g:=lpJ (fun m e q g=>UR G K L o k0 m (e 0).rd (e 1).rd (e 5).rd q g) rfl (fun _=>by kernel_rfl) L
def Nr (G:GT)(K:KT)(L:Nat)(x0 x1:AV)(o:HP):KR :=
  Zd (ZO o .slice (AV.ro x0)) fun v0=>Zd (ZO o .slice (AV.ro x1)) fun v1=>Zd (Zc .neq .prim v0 v1) fun v2=>ifK v2 (Wl o (.bool false) o none) (UR G K L o (UQ G K L o) L (AV.ro x0) (AV.ro x1) (.int .i64 0) o none)
theorem Zkw (x0 x1:AV) :fnK G K G7 L Iu [x0,x1] o=Nr G K L x0 x1 o:=by
 show Yh G 26 o.length K G7 L ZbS (Wi G7 Iu o) (Wi G7 Iu o) [] (EW [x0,x1]) o none=_
 simp only [ZbS,Yn,ZB,ZC,ZQ]
 rw [Zg2 G K L o ,Zg3 G K L o (UQ G K L o) _]
 kernel_rfl
theorem Zme {C:Cfg}{x0 x1:AV}:RunT C FI Iu [x0,x1] (fun K=>Nr C.G K C.L x0 x1):=runT rfl fun _ _=>Zkw ..
def Bh (G:GT)(K:KT)(L:Nat)(o:HP)(q:HP)(g:Eff):KR :=
  Wl o (.bool true) q g
theorem Zov :Yh G 99 o.length K Ae L Zlf (Wi Ae C9 o) (Wi Ae C9 o) []=fun e q g=>Bh G K L o  q g:=by kernel_rfl
def Ib (G:GT)(K:KT)(L:Nat)(o:HP)(k0:HP→Eff→KR):Nat→AV→AV→AV→HP→Eff→KR
  | 0,_,_,_,_,_=>none
  | m + 1,x0,x1,x5,q,g=>Zd (ZO q .slice x0) fun v3=>Zd (Zc .lss .prim x5 v3) fun v4=>ifK v4 (Zd (Y4 (.slice 21) x0 x5) fun v5=>Zd (Zt q 21 v5) fun v6=>Zd (Y4 (.slice 21) x1 x5) fun v7=>Zd (Zt q 21 v7) fun v8=>UK (q ++ [.cells [(.int .i64 0),(.str []),(.str []),(.int .i64 0),(.str []),(.int .i64 0),(.own 4 []),(.int .i64 0),(.str []),(.int .i64 0),(.own 4 []),(.own 4 []),(.int .i64 0),(.int .i64 0),(.int .i64 0),(.int .i64 0),(.own 1 []),(.own 1 []),(.bool false),(.own 21 []),(.own 21 [])] Xb]) fun h9=>UK (h9 ++ [.cells [(.int .i64 0),(.str []),(.str []),(.int .i64 0),(.str []),(.int .i64 0),(.own 4 []),(.int .i64 0),(.str []),(.int .i64 0),(.own 4 []),(.own 4 []),(.int .i64 0),(.int .i64 0),(.int .i64 0),(.int .i64 0),(.own 1 []),(.own 1 []),(.bool false),(.own 21 []),(.own 21 [])] Xb]) fun h10=>TF (stV o.length 21 (.ptr (q).length 0) v6 h10 g) fun h11 f12=>TF (stV o.length 21 (.ptr (h9).length 0) v8 h11 f12) fun h13 f14=>ldF h13 0 (.ptr (q).length 0) fun v16=>ldF h13 0 (.ptr (h9).length 0) fun v18=>Zd (Zc .neq .prim v16 v18) fun v19=>VT v19 false (ldF h13 1 (.ptr (q).length 0) fun v21=>ldF h13 1 (.ptr (h9).length 0) fun v23=>Zd (Zc .neq .prim v21 v23) fun v24=>some (v24,h13,f14)) (some (.bool true)) h13 f14 fun v25 h26 f27=>VT (AV.ro v25) false (ldF h26 2 (.ptr (q).length 0) fun v29=>ldF h26 2 (.ptr (h9).length 0) fun v31=>Zd (Zc .neq .prim v29 v31) fun v32=>some (v32,h26,f27)) (some (.bool true)) h26 f27 fun v33 h34 f35=>VT (AV.ro v33) false (ldF h34 18 (.ptr (q).length 0) fun v37=>ldF h34 18 (.ptr (h9).length 0) fun v39=>Zd (Zc .neq .bool v37 v39) fun v40=>some (v40,h34,f35)) (some (.bool true)) h34 f35 fun v41 h42 f43=>VT (AV.ro v41) false (Zd (Ir 3 (.ptr (q).length 0)) fun v44=>Zd (Zt h42 4 v44) fun v45=>Zd (Ir 3 (.ptr (h9).length 0)) fun v46=>Zd (Zt h42 4 v46) fun v47=>QV (K Dy [v45,v47] h42) fun v48 h15 f50=>Zd (Jy .not (AV.ro v48)) fun v51=>some (v51,h15,(Zf o.length f43 f50))) (some (.bool true)) h42 f43 fun v52 h17 f54=>VT (AV.ro v52) false (Zd (Ir 7 (.ptr (q).length 0)) fun v55=>Zd (Zt h17 4 v55) fun v56=>Zd (Ir 7 (.ptr (h9).length 0)) fun v57=>Zd (Zt h17 4 v57) fun v58=>QV (K Dy [v56,v58] h17) fun v59 h60 f61=>Zd (Jy .not (AV.ro v59)) fun v62=>some (v62,h60,(Zf o.length f54 f61))) (some (.bool true)) h17 f54 fun v63 h64 f65=>ifK (AV.ro v63) (Wl o (.bool false) h64 f65) (ldF h64 11 (.ptr (q).length 0) fun v67=>ldF h64 11 (.ptr (h9).length 0) fun v69=>QV (K ZcC [v67,v69] h64) fun v70 h20 f72=>Zd (Jy .not (AV.ro v70)) fun v73=>VT v73 false (Zd (Ir 12 (.ptr (q).length 0)) fun v74=>Zd (Zt h20 6 v74) fun v75=>Zd (Ir 12 (.ptr (h9).length 0)) fun v76=>Zd (Zt h20 6 v76) fun v77=>QV (K Zc0 [v75,v77] h20) fun v78 h22 f80=>Zd (Jy .not (AV.ro v78)) fun v81=>some (v81,h22,(Zf o.length (Zf o.length f65 f72) f80))) (some (.bool true)) h20 (Zf o.length f65 f72) fun v82 h28 f84=>VT (AV.ro v82) false (ldF h28 19 (.ptr (q).length 0) fun v86=>ldF h28 19 (.ptr (h9).length 0) fun v30=>QV (K ES [v86,v30] h28) fun v89 h36 f91=>Zd (Jy .not (AV.ro v89)) fun v38=>some (v38,h36,(Zf o.length f84 f91))) (some (.bool true)) h28 f84 fun v93 h49 f95=>VT (AV.ro v93) false (ldF h49 20 (.ptr (q).length 0) fun v53=>ldF h49 20 (.ptr (h9).length 0) fun v66=>QV (K ES [v53,v66] h49) fun v68 h71 f102=>Zd (Jy .not (AV.ro v68)) fun v79=>some (v79,h71,(Zf o.length f95 f102))) (some (.bool true)) h49 f95 fun v83 h85 f106=>ifK (AV.ro v83) (Wl o (.bool false) h85 f106) (Zd (Zc .add .prim x5 (.int .i64 1)) fun v107=>Ib G K L o k0 m x0 x1 v107 h85 f106))) (k0  q g)
theorem Zow (k0:HP→Eff→KR)(zn:IE):Yh G 99 o.length K Ae L Zlg zn (Wi Ae C9 o) [(0,(fun e q g=>k0 q g))]=fun e q g=>Ib G K L o k0 L (e 0).rd (e 1).rd (e 5).rd q g:=lpJ (fun m e q g=>Ib G K L o k0 m (e 0).rd (e 1).rd (e 5).rd q g) rfl (fun _=>by kernel_rfl) L
def ZeJ (G:GT)(K:KT)(L:Nat)(x0 x1:AV)(o:HP):KR :=
  Zd (ZO o .slice (AV.ro x0)) fun v0=>Zd (ZO o .slice (AV.ro x1)) fun v1=>Zd (Zc .neq .prim v0 v1) fun v2=>ifK v2 (Wl o (.bool false) o none) (Ib G K L o (Bh G K L o) L (AV.ro x0) (AV.ro x1) (.int .i64 0) o none)
theorem Zuf (x0 x1:AV) :fnK G K Ae L C9 [x0,x1] o=ZeJ G K L x0 x1 o:=by
 show Yh G 99 o.length K Ae L Zm8 (Wi Ae C9 o) (Wi Ae C9 o) [] (EW [x0,x1]) o none=_
 simp only [Zm8,Yn,ZB,ZC,ZQ]
 rw [Zov G K L o ,Zow G K L o (Bh G K L o) _]
 kernel_rfl
theorem Zwv {C:Cfg}{x0 x1:AV}:RunT C ES C9 [x0,x1] (fun K=>ZeJ C.G K C.L x0 x1):=runT rfl fun _ _=>Zuf ..
def Hq (G:GT)(K:KT)(L:Nat)(o:HP)(q:HP)(g:Eff):KR :=
  Wl o (.bool true) q g
theorem ZiN :Yh G 26 o.length K O8 L ZeD (Wi O8 MM o) (Wi O8 MM o) []=fun e q g=>Hq G K L o  q g:=by kernel_rfl
def Hr (G:GT)(K:KT)(L:Nat)(o:HP)(k0:HP→Eff→KR):Nat→AV→AV→AV→HP→Eff→KR
  | 0,_,_,_,_,_=>none
  | m + 1,x0,x1,x5,q,g=>Zd (ZO q .slice x0) fun v3=>Zd (Zc .lss .prim x5 v3) fun v4=>ifK v4 (Zd (Y4 (.slice 1) x0 x5) fun v5=>Zd (Qn q v5) fun v6=>Zd (Y4 (.slice 1) x1 x5) fun v7=>Zd (Qn q v7) fun v8=>Zd (Zc .neq .prim v6 v8) fun v9=>ifK v9 (Wl o (.bool false) q g) (Zd (Zc .add .prim x5 (.int .i64 1)) fun v10=>Hr G K L o k0 m x0 x1 v10 q g)) (k0  q g)
theorem ZiO (k0:HP→Eff→KR)(zn:IE):Yh G 26 o.length K O8 L ZeE zn (Wi O8 MM o) [(0,(fun e q g=>k0 q g))]=fun e q g=>Hr G K L o k0 L (e 0).rd (e 1).rd (e 5).rd q g:=lpJ (fun m e q g=>Hr G K L o k0 m (e 0).rd (e 1).rd (e 5).rd q g) rfl (fun _=>by kernel_rfl) L
def Fp (G:GT)(K:KT)(L:Nat)(x0 x1:AV)(o:HP):KR :=
  Zd (ZO o .slice (AV.ro x0)) fun v0=>Zd (ZO o .slice (AV.ro x1)) fun v1=>Zd (Zc .neq .prim v0 v1) fun v2=>ifK v2 (Wl o (.bool false) o none) (Hr G K L o (Hq G K L o) L (AV.ro x0) (AV.ro x1) (.int .i64 0) o none)
theorem ZmR (x0 x1:AV) :fnK G K O8 L MM [x0,x1] o=Fp G K L x0 x1 o:=by
 show Yh G 26 o.length K O8 L Zei (Wi O8 MM o) (Wi O8 MM o) [] (EW [x0,x1]) o none=_
 simp only [Zei,Yn,ZB,ZC,ZQ]
 rw [ZiN G K L o ,ZiO G K L o (Hq G K L o) _]
 kernel_rfl
theorem ZoY {C:Cfg}{x0 x1:AV}:RunT C ZdX MM [x0,x1] (fun K=>Fp C.G K C.L x0 x1):=runT rfl fun _ _=>ZmR ..
def Iy (G:GT)(K:KT)(L:Nat)(o:HP)(q:HP)(g:Eff):KR :=
  Wl o (.bool true) q g
theorem Zky :Yh G 45 o.length K MC L Zgd (Wi MC RQ o) (Wi MC RQ o) []=fun e q g=>Iy G K L o  q g:=by kernel_rfl
def Iz (G:GT)(K:KT)(L:Nat)(o:HP)(k0:HP→Eff→KR):Nat→AV→AV→AV→HP→Eff→KR
  | 0,_,_,_,_,_=>none
  | m + 1,x2,x3,x5,q,g=>ldF q 1 x2 fun v28=>Zd (ZO q .slice v28) fun v29=>Zd (Zc .lss .prim x5 v29) fun v30=>ifK v30 (ldF q 1 x2 fun v32=>Zd (Y4 (.slice 3) v32 x5) fun v33=>Zd (Zt q 3 v33) fun v34=>ldF q 1 x3 fun v36=>Zd (Y4 (.slice 3) v36 x5) fun v37=>Zd (Zt q 3 v37) fun v38=>Zd (Zc .neq (.struct [.int,.str,.str]) v34 v38) fun v39=>ifK v39 (Wl o (.bool false) q g) (Zd (Zc .add .prim x5 (.int .i64 1)) fun v40=>Iz G K L o k0 m x2 x3 v40 q g)) (k0  q g)
theorem Zkz (k0:HP→Eff→KR)(zn:IE):Yh G 45 o.length K MC L Zge zn (Wi MC RQ o) [(0,(fun e q g=>k0 q g))]=fun e q g=>Iz G K L o k0 L (e 2).rd (e 3).rd (e 5).rd q g:=lpJ (fun m e q g=>Iz G K L o k0 m (e 2).rd (e 3).rd (e 5).rd q g) rfl (fun _=>by kernel_rfl) L
def Za1 (G:GT)(K:KT)(L:Nat)(x0 x1:AV)(o:HP):KR :=
  Zd (MN 3 (AV.ro x0)) fun v1=>UK (o ++ [.cells v1 V5]) fun h0=>Zd (MN 3 (AV.ro x1)) fun v3=>UK (h0 ++ [.cells v3 V5]) fun h2=>ldF h2 0 (.ptr (o).length 0) fun v5=>ldF h2 0 (.ptr (h0).length 0) fun v7=>Zd (Zc .neq .prim v5 v7) fun v8=>VT v8 false (ldF h2 2 (.ptr (o).length 0) fun v10=>ldF h2 2 (.ptr (h0).length 0) fun v12=>Zd (Zc .neq .prim v10 v12) fun v13=>some (v13,h2,none)) (some (.bool true)) h2 none fun v14 h15 f16=>VT (AV.ro v14) false (ldF h15 1 (.ptr (o).length 0) fun v18=>Zd (ZO h15 .slice v18) fun v19=>ldF h15 1 (.ptr (h0).length 0) fun v21=>Zd (ZO h15 .slice v21) fun v22=>Zd (Zc .neq .prim v19 v22) fun v23=>some (v23,h15,f16)) (some (.bool true)) h15 f16 fun v24 h25 f26=>ifK (AV.ro v24) (Wl o (.bool false) h25 f26) (Iz G K L o (Iy G K L o) L (.ptr (o).length 0) (.ptr (h0).length 0) (.int .i64 0) h25 f26)
theorem Zo1 (x0 x1:AV) :fnK G K MC L RQ [x0,x1] o=Za1 G K L x0 x1 o:=by
 show Yh G 45 o.length K MC L Zfy (Wi MC RQ o) (Wi MC RQ o) [] (EW [x0,x1]) o none=_
 simp only [Zfy,Yn,ZB,ZC,ZQ]
 rw [Zky G K L o ,Zkz G K L o (Iy G K L o) _]
 kernel_rfl
theorem Zrg {C:Cfg}{x0 x1:AV}:RunT C Zfl RQ [x0,x1] (fun K=>Za1 C.G K C.L x0 x1):=runT rfl fun _ _=>Zo1 ..
def Zlx (G:GT)(K:KT)(L:Nat)(x0:AV)(o:HP):KR :=
  Zd (Zc .geq .prim (AV.ro x0) (.int .i64 1)) fun v0=>VT v0 true (Zd (Zc .leq .prim (AV.ro x0) (.int .i64 3)) fun v1=>some (v1,o,none)) (some (.bool false)) o none fun v2 h3 f4=>some (Vm false o v2 h3 f4)
theorem ZqG {C:Cfg}{x0:AV}:RunT C Zai ZkW [x0] (fun K=>Zlx C.G K C.L x0):=runT (P := ZuC) rfl fun _ _=>by kernel_rfl
def ZnE (G:GT)(K:KT)(L:Nat)(x0 x1:AV)(o:HP):KR :=
  Zd (Zc .eql .prim (AV.ro x0) (.int .i64 1)) fun v0=>ifK v0 (QV (K Ziw [(AV.ro x1)] o) fun v1 h2 f3=>some (Vm false o v1 h2 (Zf o.length none f3))) (Zd (Zc .eql .prim (AV.ro x0) (.int .i64 2)) fun v4=>ifK v4 (Zd (Zc .eql .prim (AV.ro x1) (.int .i64 0)) fun v5=>VT v5 false (Zd (Zc .eql .prim (AV.ro x1) (.int .i64 1)) fun v6=>some (v6,o,none)) (some (.bool true)) o none fun v7 h8 f9=>some (Vm false o v7 h8 f9)) (Zd (Zc .eql .prim (AV.ro x0) (.int .i64 3)) fun v10=>ifK v10 (QV (K Vu [(AV.ro x1),(.int .i64 0),(.int .i64 1000000000)] o) fun v11 h12 f13=>some (Vm false o v11 h12 (Zf o.length none f13))) (Wl o (.bool false) o none)))
theorem Zs7 {C:Cfg}{x0 x1:AV}:RunT C Zb1 Zn5 [x0,x1] (fun K=>ZnE C.G K C.L x0 x1):=runT (P := Zwn) rfl fun _ _=>by kernel_rfl
def Zjw (G:GT)(K:KT)(L:Nat)(x0 x1:AV)(o:HP):KR :=
  Zd (Qn o (AV.ro x1)) fun v0=>QV (K Dn [(AV.ro x0),(.int .i64 32),(.fn Qa [v0] [])] o) fun v1 h2 f3=>some (Vm false o v1 h2 (Zf o.length none f3))
theorem ZoC {C:Cfg}{x0 x1:AV}:RunT C XZ ZiZ [x0,x1] (fun K=>Zjw C.G K C.L x0 x1):=runT (P := ZsE) rfl fun _ _=>by kernel_rfl
def Zjx (G:GT)(K:KT)(L:Nat)(x0 x1:AV)(o:HP):KR :=
  Zd (Qn o (AV.ro x0)) fun v0=>ldF o 1 (AV.ro x1) fun v2=>QV (K Gp [v0,v2] o) fun v3 h4 f5=>some (Vm false o v3 h4 (Zf o.length none f5))
theorem ZoD {C:Cfg}{x0 x1:AV}:RunT C NG Zja [x0,x1] (fun K=>Zjx C.G K C.L x0 x1):=runT (P := ZsF) rfl fun _ _=>by kernel_rfl
def Zjy (G:GT)(K:KT)(L:Nat)(x0 x1:AV)(o:HP):KR :=
  ldF o 2 (AV.ro x0) fun v1=>QV (K KW [v1,(.int .i64 32),(.fn Rq [] [(AV.ro x1),(AV.ro x0)])] o) fun v2 h3 f4=>some (Vm false o v2 h3 (Zf o.length none f4))
theorem ZoE {C:Cfg}{x0 x1:AV}:RunT C NH Zjb [x0,x1] (fun K=>Zjy C.G K C.L x0 x1):=runT (P := ZsG) rfl fun _ _=>by kernel_rfl
def Zjz (G:GT)(K:KT)(L:Nat)(x0 x1:AV)(o:HP):KR :=
  ldF o 3 (AV.ro x0) fun v1=>QV (K H9 [v1,(.int .i64 32),(.fn Rt [] [(AV.ro x1)])] o) fun v2 h3 f4=>some (Vm false o v2 h3 (Zf o.length none f4))
theorem ZoF {C:Cfg}{x0 x1:AV}:RunT C NI Zjc [x0,x1] (fun K=>Zjz C.G K C.L x0 x1):=runT (P := ZsH) rfl fun _ _=>by kernel_rfl
def Zj0 (G:GT)(K:KT)(L:Nat)(x0 x1:AV)(o:HP):KR :=
  ldF o 4 (AV.ro x0) fun v1=>QV (K IG [v1,(.int .i64 32),(.fn Ru [] [(AV.ro x1)])] o) fun v2 h3 f4=>some (Vm false o v2 h3 (Zf o.length none f4))
theorem ZoG {C:Cfg}{x0 x1:AV}:RunT C NJ Zjd [x0,x1] (fun K=>Zj0 C.G K C.L x0 x1):=runT (P := ZsI) rfl fun _ _=>by kernel_rfl
def Zj1 (G:GT)(K:KT)(L:Nat)(x0 x1:AV)(o:HP):KR :=
  Zd (Qn o (AV.ro x0)) fun v0=>ldF o 5 (AV.ro x1) fun v2=>QV (Uo K v0 [v2] o) fun v3 h4 f5=>some (Vm false o v3 h4 (Zf o.length none f5))
theorem ZoH {C:Cfg}{x0 x1:AV}:RunT C NK Zje [x0,x1] (fun K=>Zj1 C.G K C.L x0 x1):=runT (P := ZsJ) rfl fun _ _=>by kernel_rfl
def Zj2 (G:GT)(K:KT)(L:Nat)(x0 x1:AV)(o:HP):KR :=
  Zd (Qn o (AV.ro x0)) fun v0=>ldF o 6 (AV.ro x1) fun v2=>QV (Uo K v0 [v2] o) fun v3 h4 f5=>some (Vm false o v3 h4 (Zf o.length none f5))
theorem ZoI {C:Cfg}{x0 x1:AV}:RunT C NL Zjf [x0,x1] (fun K=>Zj2 C.G K C.L x0 x1):=runT (P := ZsK) rfl fun _ _=>by kernel_rfl
def Zj3 (G:GT)(K:KT)(L:Nat)(x0 x1:AV)(o:HP):KR :=
  Zd (Qn o (AV.ro x0)) fun v0=>ldF o 7 (AV.ro x1) fun v2=>QV (Uo K v0 [v2] o) fun v3 h4 f5=>some (Vm false o v3 h4 (Zf o.length none f5))
theorem ZoJ {C:Cfg}{x0 x1:AV}:RunT C NM Zjg [x0,x1] (fun K=>Zj3 C.G K C.L x0 x1):=runT (P := ZsL) rfl fun _ _=>by kernel_rfl
def Zj4 (G:GT)(K:KT)(L:Nat)(x0 x1:AV)(o:HP):KR :=
  Zd (Qn o (AV.ro x0)) fun v0=>ldF o 8 (AV.ro x1) fun v2=>QV (Uo K v0 [v2] o) fun v3 h4 f5=>some (Vm false o v3 h4 (Zf o.length none f5))
theorem ZoK {C:Cfg}{x0 x1:AV}:RunT C NP Zjh [x0,x1] (fun K=>Zj4 C.G K C.L x0 x1):=runT (P := ZsM) rfl fun _ _=>by kernel_rfl
def Zh0 (G:GT)(K:KT)(L:Nat)(x0 x1:AV)(o:HP):KR :=
  Zd (Qn o (AV.ro x0)) fun v0=>ldF o 9 (AV.ro x1) fun v2=>QV (Uo K v0 [v2] o) fun v3 h4 f5=>some (Vm false o v3 h4 (Zf o.length none f5))
theorem Znj {C:Cfg}{x0 x1:AV}:RunT C Dw ZgN [x0,x1] (fun K=>Zh0 C.G K C.L x0 x1):=runT (P := ZqX) rfl fun _ _=>by kernel_rfl
def Zh1 (G:GT)(K:KT)(L:Nat)(x0 x1:AV)(o:HP):KR :=
  ldF o 10 (AV.ro x0) fun v1=>QV (K O3 [v1,(.int .i64 16),(.fn MZ [] [(AV.ro x1)])] o) fun v2 h3 f4=>some (Vm false o v2 h3 (Zf o.length none f4))
theorem Znk {C:Cfg}{x0 x1:AV}:RunT C Dx ZgO [x0,x1] (fun K=>Zh1 C.G K C.L x0 x1):=runT (P := ZqY) rfl fun _ _=>by kernel_rfl
def Zh2 (G:GT)(K:KT)(L:Nat)(x0:AV)(o:HP):KR :=
  ldF o 11 (AV.ro x0) fun v1=>QV (K P6 [v1,(.int .i64 32),(.fn ER [] [(AV.ro x0)])] o) fun v2 h3 f4=>some (Vm false o v2 h3 (Zf o.length none f4))
theorem Znl {C:Cfg}{x0:AV}:RunT C Ee ZgP [x0] (fun K=>Zh2 C.G K C.L x0):=runT (P := ZqZ) rfl fun _ _=>by kernel_rfl
def Zh3 (G:GT)(K:KT)(L:Nat)(x0:AV)(o:HP):KR :=
  Zd (Zt o 13 (AV.ro x0)) fun v0=>QV (K ZgA [v0] o) fun v1 h2 f3=>some (Vm false o v1 h2 (Zf o.length none f3))
theorem Znm {C:Cfg}{x0:AV}:RunT C Ef ZgQ [x0] (fun K=>Zh3 C.G K C.L x0):=runT (P := Zra) rfl fun _ _=>by kernel_rfl
def Ry (G:GT)(K:KT)(L:Nat)(o:HP)(q:HP)(g:Eff):KR :=
  Wl o (.int .i64 0) q g
theorem Zkm :Yh G 18 o.length K Mc L ZfV (Wi Mc RH o) (Wi Mc RH o) []=fun e q g=>Ry G K L o  q g:=by kernel_rfl
def G6 (G:GT)(K:KT)(L:Nat)(o:HP)(k0:HP→Eff→KR):Nat→AV→AV→AV→HP→Eff→KR
  | 0,_,_,_,_,_=>none
  | m + 1,x6,x7,x8,q,g=>Zd (Zc .lss .prim x8 x7) fun v1=>ifK v1 (Zd (Y4 (.slice 1) x6 x8) fun v2=>Zd (Qn q v2) fun v3=>QV (Uo K v3 [] q) fun v4 h5 f6=>Zd (Zc .neq .prim (AV.ro v4) (.int .i64 0)) fun v7=>ifK v7 (some (Vm false o v4 h5 (Zf o.length g f6))) (Zd (Zc .add .prim x8 (.int .i64 1)) fun v8=>G6 G K L o k0 m x6 x7 v8 h5 (Zf o.length g f6))) (k0  q g)
theorem Zkn (k0:HP→Eff→KR)(zn:IE):Yh G 18 o.length K Mc L ZfW zn (Wi Mc RH o) [(0,(fun e q g=>k0 q g))]=fun e q g=>G6 G K L o k0 L (e 6).rd (e 7).rd (e 8).rd q g:=lpJ (fun m e q g=>G6 G K L o k0 m (e 6).rd (e 7).rd (e 8).rd q g) rfl (fun _=>by kernel_rfl) L
def Zf2 (G:GT)(K:KT)(L:Nat)(x0:AV)(o:HP):KR :=
  Zd (ZO o .slice (AV.ro x0)) fun v0=>G6 G K L o (Ry G K L o) L (AV.ro x0) v0 (.int .i64 0) o none
theorem Zor (x0:AV) :fnK G K Mc L RH [x0] o=Zf2 G K L x0 o:=by
 show Yh G 18 o.length K Mc L Zft (Wi Mc RH o) (Wi Mc RH o) [] (EW [x0]) o none=_
 simp only [Zft,Yn,ZB,ZC,ZQ]
 rw [Zkm G K L o ,Zkn G K L o (Ry G K L o) _]
 kernel_rfl
theorem ZqF {C:Cfg}{x0:AV}:RunT C Zfh RH [x0] (fun K=>Zf2 C.G K C.L x0):=runT rfl fun _ _=>Zor ..
def Zj6 (G:GT)(K:KT)(L:Nat)(x0 x1 x2:AV)(o:HP):KR :=
  Zd (Zc .geq .prim (AV.ro x0) (AV.ro x1)) fun v0=>VT v0 true (Zd (Zc .leq .prim (AV.ro x0) (AV.ro x2)) fun v1=>some (v1,o,none)) (some (.bool false)) o none fun v2 h3 f4=>some (Vm false o v2 h3 f4)
theorem ZoM {C:Cfg}{x0 x1 x2:AV}:RunT C Vu Zjj [x0,x1,x2] (fun K=>Zj6 C.G K C.L x0 x1 x2):=runT (P := ZsO) rfl fun _ _=>by kernel_rfl
def Wx (G:GT)(K:KT)(L:Nat)(o:HP)(q:HP)(g:Eff):KR :=
  Wl o (.bool true) q g
theorem DY :Yh G 26 o.length K Wq L IL (Wi Wq WU o) (Wi Wq WU o) []=fun e q g=>Wx G K L o  q g:=by kernel_rfl
def Wy (G:GT)(K:KT)(L:Nat)(o:HP)(k0:HP→Eff→KR):Nat→AV→AV→AV→AV→HP→Eff→KR
  | 0,_,_,_,_,_,_=>none
  | m + 1,x0,x1,x12,x13,q,g=>Zd (Zc .lss .prim x13 x12) fun v4=>ifK v4 (Zd (Y4 (.slice 2) x0 x13) fun v5=>Zd (Zt q 2 v5) fun v6=>Zd (Y4 (.slice 2) x1 x13) fun v7=>Zd (Zt q 2 v7) fun v8=>Zd (Zc .neq (.struct [.int,.int]) v6 v8) fun v9=>ifK v9 (Wl o (.bool false) q g) (Zd (Zc .add .prim x13 (.int .i64 1)) fun v10=>Wy G K L o k0 m x0 x1 x12 v10 q g)) (k0  q g)
theorem DZ (k0:HP→Eff→KR)(zn:IE):Yh G 26 o.length K Wq L IM zn (Wi Wq WU o) [(0,(fun e q g=>k0 q g))]=fun e q g=>Wy G K L o k0 L (e 0).rd (e 1).rd (e 12).rd (e 13).rd q g:=lpJ (fun m e q g=>Wy G K L o k0 m (e 0).rd (e 1).rd (e 12).rd (e 13).rd q g) rfl (fun _=>by kernel_rfl) L
def XU (G:GT)(K:KT)(L:Nat)(x0 x1:AV)(o:HP):KR :=
  Zd (ZO o .slice (AV.ro x0)) fun v0=>Zd (ZO o .slice (AV.ro x1)) fun v1=>Zd (Zc .neq .prim v0 v1) fun v2=>ifK v2 (Wl o (.bool false) o none) (Zd (ZO o .slice (AV.ro x0)) fun v3=>Wy G K L o (Wx G K L o) L (AV.ro x0) (AV.ro x1) v3 (.int .i64 0) o none)
theorem Sj (x0 x1:AV) :fnK G K Wq L WU [x0,x1] o=XU G K L x0 x1 o:=by
 show Yh G 26 o.length K Wq L Kw (Wi Wq WU o) (Wi Wq WU o) [] (EW [x0,x1]) o none=_
 simp only [Kw,Yn,ZB,ZC,ZQ]
 rw [DY G K L o ,DZ G K L o (Wx G K L o) _]
 kernel_rfl
theorem SX {C:Cfg}{x0 x1:AV}:RunT C Kr WU [x0,x1] (fun K=>XU C.G K C.L x0 x1):=runT rfl fun _ _=>Sj ..
def Zkd (G:GT)(K:KT)(L:Nat)(x0 x1:AV)(o:HP):KR :=
  Zd (MN 6 (AV.ro x0)) fun v1=>UK (o ++ [.cells v1 Zbt]) fun h0=>Zd (MN 6 (AV.ro x1)) fun v3=>UK (h0 ++ [.cells v3 Zbt]) fun h2=>ldF h2 0 (.ptr (o).length 0) fun v5=>ldF h2 0 (.ptr (h0).length 0) fun v7=>Zd (Zc .eql .prim v5 v7) fun v8=>VT v8 true (ldF h2 1 (.ptr (o).length 0) fun v10=>ldF h2 1 (.ptr (h0).length 0) fun v12=>Zd (Zc .eql .prim v10 v12) fun v13=>some (v13,h2,none)) (some (.bool false)) h2 none fun v14 h15 f16=>VT (AV.ro v14) true (ldF h15 2 (.ptr (o).length 0) fun v18=>ldF h15 2 (.ptr (h0).length 0) fun v20=>Zd (Zc .eql .prim v18 v20) fun v21=>some (v21,h15,f16)) (some (.bool false)) h15 f16 fun v22 h23 f24=>VT (AV.ro v22) true (ldF h23 3 (.ptr (o).length 0) fun v26=>ldF h23 3 (.ptr (h0).length 0) fun v28=>Zd (Zc .eql .prim v26 v28) fun v29=>some (v29,h23,f24)) (some (.bool false)) h23 f24 fun v30 h31 f32=>VT (AV.ro v30) true (ldF h31 4 (.ptr (o).length 0) fun v34=>ldF h31 4 (.ptr (h0).length 0) fun v36=>QV (K VC [v34,v36] h31) fun v37 h38 f39=>some ((AV.ro v37),h38,(Zf o.length f32 f39))) (some (.bool false)) h31 f32 fun v40 h4 f42=>VT (AV.ro v40) true (ldF h4 5 (.ptr (o).length 0) fun v44=>ldF h4 5 (.ptr (h0).length 0) fun v46=>QV (K VC [v44,v46] h4) fun v47 h48 f49=>some ((AV.ro v47),h48,(Zf o.length f42 f49))) (some (.bool false)) h4 f42 fun v50 h6 f52=>some (Vm false o v50 h6 f52)
theorem ZlI {C:Cfg}{x0 x1:AV}:RunT C BM Zpr [x0,x1] (fun K=>Zkd C.G K C.L x0 x1):=runT (P := ZxB) rfl fun _ _=>by kernel_rfl
def WN (G:GT)(K:KT)(L:Nat)(o:HP)(q:HP)(g:Eff):KR :=
  Wl o (.bool true) q g
theorem Nu :Yh G 26 o.length K WF L OH (Wi WF Qj o) (Wi WF Qj o) []=fun e q g=>WN G K L o  q g:=by kernel_rfl
def WO (G:GT)(K:KT)(L:Nat)(o:HP)(k0:HP→Eff→KR):Nat→AV→AV→AV→AV→HP→Eff→KR
  | 0,_,_,_,_,_,_=>none
  | m + 1,x0,x1,x12,x13,q,g=>Zd (Zc .lss .prim x13 x12) fun v4=>ifK v4 (Zd (Y4 (.slice 2) x0 x13) fun v5=>Zd (Zt q 2 v5) fun v6=>Zd (Y4 (.slice 2) x1 x13) fun v7=>Zd (Zt q 2 v7) fun v8=>Zd (Zc .neq (.struct [.str,.int]) v6 v8) fun v9=>ifK v9 (Wl o (.bool false) q g) (Zd (Zc .add .prim x13 (.int .i64 1)) fun v10=>WO G K L o k0 m x0 x1 x12 v10 q g)) (k0  q g)
theorem Nv (k0:HP→Eff→KR)(zn:IE):Yh G 26 o.length K WF L OI zn (Wi WF Qj o) [(0,(fun e q g=>k0 q g))]=fun e q g=>WO G K L o k0 L (e 0).rd (e 1).rd (e 12).rd (e 13).rd q g:=lpJ (fun m e q g=>WO G K L o k0 m (e 0).rd (e 1).rd (e 12).rd (e 13).rd q g) rfl (fun _=>by kernel_rfl) L
def Vx (G:GT)(K:KT)(L:Nat)(x0 x1:AV)(o:HP):KR :=
  Zd (ZO o .slice (AV.ro x0)) fun v0=>Zd (ZO o .slice (AV.ro x1)) fun v1=>Zd (Zc .neq .prim v0 v1) fun v2=>ifK v2 (Wl o (.bool false) o none) (Zd (ZO o .slice (AV.ro x0)) fun v3=>WO G K L o (WN G K L o) L (AV.ro x0) (AV.ro x1) v3 (.int .i64 0) o none)
theorem Ez (x0 x1:AV) :fnK G K WF L Qj [x0,x1] o=Vx G K L x0 x1 o:=by
 show Yh G 26 o.length K WF L Gq (Wi WF Qj o) (Wi WF Qj o) [] (EW [x0,x1]) o none=_
 simp only [Gq,Yn,ZB,ZC,ZQ]
 rw [Nu G K L o ,Nv G K L o (WN G K L o) _]
 kernel_rfl
theorem Am {C:Cfg}{x0 x1:AV}:RunT C JL Qj [x0,x1] (fun K=>Vx C.G K C.L x0 x1):=runT rfl fun _ _=>Ez ..
def ZpS (G:GT)(K:KT)(L:Nat)(x0 x1:AV)(o:HP):KR :=
  QV (K XH [(AV.ro x0),(AV.ro x1),(.fn FY [] [])] o) fun v0 h1 f2=>some (Vm false o v0 h1 (Zf o.length none f2))
theorem ZuT {C:Cfg}{x0 x1:AV}:RunT C Lm Zpt [x0,x1] (fun K=>ZpS C.G K C.L x0 x1):=runT (P := ZxD) rfl fun _ _=>by kernel_rfl
def QO (G:GT)(K:KT)(L:Nat)(o:HP)(q:HP)(g:Eff):KR :=
  Wl o (.bool true) q g
theorem ZbC :Yh G 26 o.length K XW L Em (Wi XW VD o) (Wi XW VD o) []=fun e q g=>QO G K L o  q g:=by kernel_rfl
def WW (G:GT)(K:KT)(L:Nat)(o:HP)(k0:HP→Eff→KR):Nat→AV→AV→AV→AV→HP→Eff→KR
  | 0,_,_,_,_,_,_=>none
  | m + 1,x0,x1,x12,x13,q,g=>Zd (Zc .lss .prim x13 x12) fun v4=>ifK v4 (Zd (Y4 (.slice 1) x0 x13) fun v5=>Zd (Qn q v5) fun v6=>Zd (Y4 (.slice 1) x1 x13) fun v7=>Zd (Qn q v7) fun v8=>Zd (Zc .neq .prim v6 v8) fun v9=>ifK v9 (Wl o (.bool false) q g) (Zd (Zc .add .prim x13 (.int .i64 1)) fun v10=>WW G K L o k0 m x0 x1 x12 v10 q g)) (k0  q g)
theorem ZbD (k0:HP→Eff→KR)(zn:IE):Yh G 26 o.length K XW L En zn (Wi XW VD o) [(0,(fun e q g=>k0 q g))]=fun e q g=>WW G K L o k0 L (e 0).rd (e 1).rd (e 12).rd (e 13).rd q g:=lpJ (fun m e q g=>WW G K L o k0 m (e 0).rd (e 1).rd (e 12).rd (e 13).rd q g) rfl (fun _=>by kernel_rfl) L
def JG (G:GT)(K:KT)(L:Nat)(x0 x1:AV)(o:HP):KR :=
  Zd (ZO o .slice (AV.ro x0)) fun v0=>Zd (ZO o .slice (AV.ro x1)) fun v1=>Zd (Zc .neq .prim v0 v1) fun v2=>ifK v2 (Wl o (.bool false) o none) (Zd (ZO o .slice (AV.ro x0)) fun v3=>WW G K L o (QO G K L o) L (AV.ro x0) (AV.ro x1) v3 (.int .i64 0) o none)
theorem Zdg (x0 x1:AV) :fnK G K XW L VD [x0,x1] o=JG G K L x0 x1 o:=by
 show Yh G 26 o.length K XW L D8 (Wi XW VD o) (Wi XW VD o) [] (EW [x0,x1]) o none=_
 simp only [D8,Yn,ZB,ZC,ZQ]
 rw [ZbC G K L o ,ZbD G K L o (QO G K L o) _]
 kernel_rfl
theorem A8 {C:Cfg}{x0 x1:AV}:RunT C VC VD [x0,x1] (fun K=>JG C.G K C.L x0 x1):=runT rfl fun _ _=>Zdg ..
def Qd (G:GT)(K:KT)(L:Nat)(o:HP)(q:HP)(g:Eff):KR :=
  Wl o (.bool true) q g
theorem SS :Yh G 26 o.length K WY L TJ (Wi WY Qz o) (Wi WY Qz o) []=fun e q g=>Qd G K L o  q g:=by kernel_rfl
def Qe (G:GT)(K:KT)(L:Nat)(o:HP)(k0:HP→Eff→KR):Nat→AV→AV→AV→AV→HP→Eff→KR
  | 0,_,_,_,_,_,_=>none
  | m + 1,x0,x1,x12,x13,q,g=>Zd (Zc .lss .prim x13 x12) fun v4=>ifK v4 (Zd (Y4 (.slice 3) x0 x13) fun v5=>Zd (Zt q 3 v5) fun v6=>Zd (Y4 (.slice 3) x1 x13) fun v7=>Zd (Zt q 3 v7) fun v8=>Zd (Zc .neq (.struct [.int,.str,.str]) v6 v8) fun v9=>ifK v9 (Wl o (.bool false) q g) (Zd (Zc .add .prim x13 (.int .i64 1)) fun v10=>Qe G K L o k0 m x0 x1 x12 v10 q g)) (k0  q g)
theorem SV (k0:HP→Eff→KR)(zn:IE):Yh G 26 o.length K WY L TK zn (Wi WY Qz o) [(0,(fun e q g=>k0 q g))]=fun e q g=>Qe G K L o k0 L (e 0).rd (e 1).rd (e 12).rd (e 13).rd q g:=lpJ (fun m e q g=>Qe G K L o k0 m (e 0).rd (e 1).rd (e 12).rd (e 13).rd q g) rfl (fun _=>by kernel_rfl) L
def VI (G:GT)(K:KT)(L:Nat)(x0 x1:AV)(o:HP):KR :=
  Zd (ZO o .slice (AV.ro x0)) fun v0=>Zd (ZO o .slice (AV.ro x1)) fun v1=>Zd (Zc .neq .prim v0 v1) fun v2=>ifK v2 (Wl o (.bool false) o none) (Zd (ZO o .slice (AV.ro x0)) fun v3=>Qe G K L o (Qd G K L o) L (AV.ro x0) (AV.ro x1) v3 (.int .i64 0) o none)
theorem AL (x0 x1:AV) :fnK G K WY L Qz [x0,x1] o=VI G K L x0 x1 o:=by
 show Yh G 26 o.length K WY L H6 (Wi WY Qz o) (Wi WY Qz o) [] (EW [x0,x1]) o none=_
 simp only [H6,Yn,ZB,ZC,ZQ]
 rw [SS G K L o ,SV G K L o (Qd G K L o) _]
 kernel_rfl
theorem FD {C:Cfg}{x0 x1:AV}:RunT C Hy Qz [x0,x1] (fun K=>VI C.G K C.L x0 x1):=runT rfl fun _ _=>AL ..
def Ztq (G:GT)(K:KT)(L:Nat)(x0 x1:AV)(o:HP):KR :=
  Zd (MN 6 (AV.ro x0)) fun v1=>UK (o ++ [.cells v1 Zbt]) fun h0=>Zd (MN 6 (AV.ro x1)) fun v3=>UK (h0 ++ [.cells v3 Zbt]) fun h2=>ldF h2 0 (.ptr (o).length 0) fun v5=>ldF h2 0 (.ptr (h0).length 0) fun v7=>Zd (Zc .eql .prim v5 v7) fun v8=>VT v8 true (ldF h2 1 (.ptr (o).length 0) fun v10=>ldF h2 1 (.ptr (h0).length 0) fun v12=>Zd (Zc .eql .prim v10 v12) fun v13=>some (v13,h2,none)) (some (.bool false)) h2 none fun v14 h15 f16=>VT (AV.ro v14) true (ldF h15 2 (.ptr (o).length 0) fun v18=>ldF h15 2 (.ptr (h0).length 0) fun v20=>Zd (Zc .eql .prim v18 v20) fun v21=>some (v21,h15,f16)) (some (.bool false)) h15 f16 fun v22 h23 f24=>VT (AV.ro v22) true (ldF h23 3 (.ptr (o).length 0) fun v26=>ldF h23 3 (.ptr (h0).length 0) fun v28=>Zd (Zc .eql .prim v26 v28) fun v29=>some (v29,h23,f24)) (some (.bool false)) h23 f24 fun v30 h31 f32=>VT (AV.ro v30) true (ldF h31 4 (.ptr (o).length 0) fun v34=>ldF h31 4 (.ptr (h0).length 0) fun v36=>QV (K Zbw [v34,v36] h31) fun v37 h38 f39=>some ((AV.ro v37),h38,(Zf o.length f32 f39))) (some (.bool false)) h31 f32 fun v40 h4 f42=>VT (AV.ro v40) true (ldF h4 5 (.ptr (o).length 0) fun v44=>ldF h4 5 (.ptr (h0).length 0) fun v46=>QV (K Zbw [v44,v46] h4) fun v47 h48 f49=>some ((AV.ro v47),h48,(Zf o.length f42 f49))) (some (.bool false)) h4 f42 fun v50 h6 f52=>some (Vm false o v50 h6 f52)
theorem Zwt {C:Cfg}{x0 x1:AV}:RunT C Zc0 Ztd [x0,x1] (fun K=>Ztq C.G K C.L x0 x1):=runT (P := ZzH) rfl fun _ _=>by kernel_rfl
def Ztr (G:GT)(K:KT)(L:Nat)(x0 x1:AV)(o:HP):KR :=
  Zd (MN 4 (AV.ro x0)) fun v1=>UK (o ++ [.cells v1 WS]) fun h0=>Zd (MN 4 (AV.ro x1)) fun v3=>UK (h0 ++ [.cells v3 WS]) fun h2=>ldF h2 0 (.ptr (o).length 0) fun v5=>ldF h2 0 (.ptr (h0).length 0) fun v7=>Zd (Zc .neq .prim v5 v7) fun v8=>VT v8 false (ldF h2 1 (.ptr (o).length 0) fun v10=>ldF h2 1 (.ptr (h0).length 0) fun v12=>Zd (Zc .neq .prim v10 v12) fun v13=>some (v13,h2,none)) (some (.bool true)) h2 none fun v14 h15 f16=>VT (AV.ro v14) false (ldF h15 2 (.ptr (o).length 0) fun v18=>ldF h15 2 (.ptr (h0).length 0) fun v20=>Zd (Zc .neq .prim v18 v20) fun v21=>some (v21,h15,f16)) (some (.bool true)) h15 f16 fun v22 h23 f24=>ifK (AV.ro v22) (Wl o (.bool false) h23 f24) (ldF h23 3 (.ptr (o).length 0) fun v26=>ldF h23 3 (.ptr (h0).length 0) fun v28=>QV (K Zfk [v26,v28] h23) fun v29 h30 f31=>some (Vm false o v29 h30 (Zf o.length f24 f31)))
theorem Zwu {C:Cfg}{x0 x1:AV}:RunT C Dy Zte [x0,x1] (fun K=>Ztr C.G K C.L x0 x1):=runT (P := ZzI) rfl fun _ _=>by kernel_rfl
def Gh (G:GT)(K:KT)(L:Nat)(o:HP)(q:HP)(g:Eff):KR :=
  Wl o (.bool true) q g
theorem Zh6 :Yh G 27 o.length K Ij L ZdA (Wi Ij OC o) (Wi Ij OC o) []=fun e q g=>Gh G K L o  q g:=by kernel_rfl
def Gi (G:GT)(K:KT)(L:Nat)(o:HP)(k0:HP→Eff→KR):Nat→AV→AV→AV→HP→Eff→KR
  | 0,_,_,_,_,_=>none
  | m + 1,x0,x1,x5,q,g=>Zd (ZO q .slice x0) fun v3=>Zd (Zc .lss .prim x5 v3) fun v4=>ifK v4 (Zd (Y4 (.slice 4) x0 x5) fun v5=>Zd (Zt q 4 v5) fun v6=>Zd (Y4 (.slice 4) x1 x5) fun v7=>Zd (Zt q 4 v7) fun v8=>QV (Ub K Dy [v6,v8] q) fun v9 h10 f11=>Zd (Jy .not (AV.ro v9)) fun v12=>ifK v12 (Wl o (.bool false) h10 (Zf o.length g f11)) (Zd (Zc .add .prim x5 (.int .i64 1)) fun v13=>Gi G K L o k0 m x0 x1 v13 h10 (Zf o.length g f11))) (k0  q g)
theorem Zh7 (k0:HP→Eff→KR)(zn:IE):Yh G 27 o.length K Ij L ZdB zn (Wi Ij OC o) [(0,(fun e q g=>k0 q g))]=fun e q g=>Gi G K L o k0 L (e 0).rd (e 1).rd (e 5).rd q g:=lpJ (fun m e q g=>Gi G K L o k0 m (e 0).rd (e 1).rd (e 5).rd q g) rfl (fun _=>by kernel_rfl) L
def Ew (G:GT)(K:KT)(L:Nat)(x0 x1:AV)(o:HP):KR :=
  Zd (ZO o .slice (AV.ro x0)) fun v0=>Zd (ZO o .slice (AV.ro x1)) fun v1=>Zd (Zc .neq .prim v0 v1) fun v2=>ifK v2 (Wl o (.bool false) o none) (Gi G K L o (Gh G K L o) L (AV.ro x0) (AV.ro x1) (.int .i64 0) o none)
theorem Zl3 (x0 x1:AV) :fnK G K Ij L OC [x0,x1] o=Ew G K L x0 x1 o:=by
 show Yh G 27 o.length K Ij L ZcQ (Wi Ij OC o) (Wi Ij OC o) [] (EW [x0,x1]) o none=_
 simp only [ZcQ,Yn,ZB,ZC,ZQ]
 rw [Zh6 G K L o ,Zh7 G K L o (Gh G K L o) _]
 kernel_rfl
theorem Znv {C:Cfg}{x0 x1:AV}:RunT C ZcC OC [x0,x1] (fun K=>Ew C.G K C.L x0 x1):=runT rfl fun _ _=>Zl3 ..
def ZxY (G:GT)(K:KT)(L:Nat)(x0:AV)(o:HP):KR :=
  Zd (Zc .geq .prim (AV.ro x0) (.int .i64 (-1000000000000))) fun v0=>VT v0 true (Zd (Zc .leq .prim (AV.ro x0) (.int .i64 1000000000000)) fun v1=>some (v1,o,none)) (some (.bool false)) o none fun v2 h3 f4=>some (Vm false o v2 h3 f4)
theorem ZzC {C:Cfg}{x0:AV}:RunT C Ziw ZxS [x0] (fun K=>ZxY C.G K C.L x0):=runT (P := Z3m) rfl fun _ _=>by kernel_rfl
def Ky (G:GT)(K:KT)(L:Nat)(o:HP)(q:HP)(g:Eff):KR :=
  Wl o (.int .i64 0) q g
theorem Zdz :Yh G 27 o.length K J8 L Zap (Wi J8 Uz o) (Wi J8 Uz o) []=fun e q g=>Ky G K L o  q g:=by kernel_rfl
def Vq (G:GT)(K:KT)(L:Nat)(o:HP)(k0:HP→Eff→KR):Nat→AV→AV→AV→AV→HP→Eff→KR
  | 0,_,_,_,_,_,_=>none
  | m + 1,x2,x14,x15,x16,q,g=>Zd (Zc .lss .prim x16 x15) fun v3=>ifK v3 (Zd (Y4 (.slice 1) x14 x16) fun v4=>Zd (Qn q v4) fun v5=>QV (Uo K x2 [v5] q) fun v6 h7 f8=>Zd (Zc .neq .prim (AV.ro v6) (.int .i64 0)) fun v9=>ifK v9 (some (Vm false o v6 h7 (Zf o.length g f8))) (Zd (Zc .add .prim x16 (.int .i64 1)) fun v10=>Vq G K L o k0 m x2 x14 x15 v10 h7 (Zf o.length g f8))) (k0  q g)
theorem Zd0 (k0:HP→Eff→KR)(zn:IE):Yh G 27 o.length K J8 L Zaq zn (Wi J8 Uz o) [(0,(fun e q g=>k0 q g))]=fun e q g=>Vq G K L o k0 L (e 2).rd (e 14).rd (e 15).rd (e 16).rd q g:=lpJ (fun m e q g=>Vq G K L o k0 m (e 2).rd (e 14).rd (e 15).rd (e 16).rd q g) rfl (fun _=>by kernel_rfl) L
def Dq (G:GT)(K:KT)(L:Nat)(x0 x1 x2:AV)(o:HP):KR :=
  Zd (ZO o .slice (AV.ro x0)) fun v0=>Zd (Zc .gtr .prim v0 (AV.ro x1)) fun v1=>ifK v1 (Wl o (.int .i64 6) o none) (Zd (ZO o .slice (AV.ro x0)) fun v2=>Vq G K L o (Ky G K L o) L (AV.ro x2) (AV.ro x0) v2 (.int .i64 0) o none)
theorem Zf1 (x0 x1 x2:AV) :fnK G K J8 L Uz [x0,x1,x2] o=Dq G K L x0 x1 x2 o:=by
 show Yh G 27 o.length K J8 L AA (Wi J8 Uz o) (Wi J8 Uz o) [] (EW [x0,x1,x2]) o none=_
 simp only [AA,Yn,ZB,ZC,ZQ]
 rw [Zdz G K L o ,Zd0 G K L o (Ky G K L o) _]
 kernel_rfl
theorem ZaS {C:Cfg}{x0 x1 x2:AV}:RunT C Dn Uz [x0,x1,x2] (fun K=>Dq C.G K C.L x0 x1 x2):=runT rfl fun _ _=>Zf1 ..
def Zca (G:GT)(K:KT)(L:Nat)(x0 x1 x2:AV)(o:HP):KR :=
  Zd (MN 17 (AV.ro x0)) fun v1=>UK (o ++ [.cells v1 Yj]) fun h0=>Zd (Qn h0 (AV.ro x1)) fun v2=>ldF h0 0 (.ptr (o).length 0) fun v4=>QV (K Qa [v2,v4] h0) fun v5 h6 f7=>Zd (Zc .neq .prim (AV.ro v5) (.int .i64 0)) fun v8=>ifK v8 (some (Vm false o v5 h6 (Zf o.length none f7))) (ldF h6 1 (.ptr (o).length 0) fun v10=>QV (K Vu [v10,(.int .i64 0),(.int .i64 1000)] h6) fun v11 h12 f13=>Zd (Jy .not (AV.ro v11)) fun v14=>ifK v14 (Wl o (.int .i64 2) h12 (Zf o.length (Zf o.length none f7) f13)) (Zd (Zt h12 17 (.ptr (o).length 0)) fun v15=>QV (K ZbP [v15] h12) fun v16 h17 f18=>Zd (Zc .neq .prim (AV.ro v16) (.int .i64 0)) fun v19=>ifK v19 (some (Vm false o v16 h17 (Zf o.length (Zf o.length (Zf o.length none f7) f13) f18))) (Zd (Zt h17 13 (AV.ro x2)) fun v20=>Zd (Ir 4 (.ptr (o).length 0)) fun v21=>Zd (Zt h17 13 v21) fun v22=>QV (K ZbO [v20,v22] h17) fun v23 h24 f25=>some (Vm false o v23 h24 (Zf o.length (Zf o.length (Zf o.length (Zf o.length none f7) f13) f18) f25)))))
theorem ZdN {C:Cfg}{x0 x1 x2:AV}:RunT C Rq ZfK [x0,x1,x2] (fun K=>Zca C.G K C.L x0 x1 x2):=runT (P := ZoR) rfl fun _ _=>by kernel_rfl
def XT (G:GT)(K:KT)(L:Nat)(o:HP)(q:HP)(g:Eff):KR :=
  Wl o (.int .i64 0) q g
theorem Fa :Yh G 27 o.length K QB L RU (Wi QB Xf o) (Wi QB Xf o) []=fun e q g=>XT G K L o  q g:=by kernel_rfl
def Qg (G:GT)(K:KT)(L:Nat)(o:HP)(k0:HP→Eff→KR):Nat→AV→AV→AV→AV→HP→Eff→KR
  | 0,_,_,_,_,_,_=>none
  | m + 1,x2,x14,x15,x16,q,g=>Zd (Zc .lss .prim x16 x15) fun v3=>ifK v3 (Zd (Y4 (.slice 17) x14 x16) fun v4=>Zd (Zt q 17 v4) fun v5=>UK (q ++ [.cells [(.str []),(.int .i64 0),(.own 2 []),(.int .i64 0),(.str []),(.int .i64 0),(.int .i64 0),(.int .i64 0),(.int .i64 0),(.own 1 []),(.own 1 []),(.int .i64 0),(.int .i64 0),(.int .i64 0),(.int .i64 0),(.own 1 []),(.own 1 [])] Yj]) fun h6=>TF (stV o.length 17 (.ptr (q).length 0) v5 h6 g) fun h7 f8=>Zd (Zt h7 17 (.ptr (q).length 0)) fun v9=>QV (Uo K x2 [v9] h7) fun v10 h11 f12=>Zd (Zc .neq .prim (AV.ro v10) (.int .i64 0)) fun v13=>ifK v13 (some (Vm false o v10 h11 (Zf o.length f8 f12))) (Zd (Zc .add .prim x16 (.int .i64 1)) fun v14=>Qg G K L o k0 m x2 x14 x15 v14 h11 (Zf o.length f8 f12))) (k0  q g)
theorem Fb (k0:HP→Eff→KR)(zn:IE):Yh G 27 o.length K QB L RV zn (Wi QB Xf o) [(0,(fun e q g=>k0 q g))]=fun e q g=>Qg G K L o k0 L (e 2).rd (e 14).rd (e 15).rd (e 16).rd q g:=lpJ (fun m e q g=>Qg G K L o k0 m (e 2).rd (e 14).rd (e 15).rd (e 16).rd q g) rfl (fun _=>by kernel_rfl) L
def Gg (G:GT)(K:KT)(L:Nat)(x0 x1 x2:AV)(o:HP):KR :=
  Zd (ZO o .slice (AV.ro x0)) fun v0=>Zd (Zc .gtr .prim v0 (AV.ro x1)) fun v1=>ifK v1 (Wl o (.int .i64 6) o none) (Zd (ZO o .slice (AV.ro x0)) fun v2=>Qg G K L o (XT G K L o) L (AV.ro x2) (AV.ro x0) v2 (.int .i64 0) o none)
theorem Zaw (x0 x1 x2:AV) :fnK G K QB L Xf [x0,x1,x2] o=Gg G K L x0 x1 x2 o:=by
 show Yh G 27 o.length K QB L OE (Wi QB Xf o) (Wi QB Xf o) [] (EW [x0,x1,x2]) o none=_
 simp only [OE,Yn,ZB,ZC,ZQ]
 rw [Fa G K L o ,Fb G K L o (XT G K L o) _]
 kernel_rfl
theorem Di {C:Cfg}{x0 x1 x2:AV}:RunT C KW Xf [x0,x1,x2] (fun K=>Gg C.G K C.L x0 x1 x2):=runT rfl fun _ _=>Zaw ..
def Zcb (G:GT)(K:KT)(L:Nat)(x0 x1:AV)(o:HP):KR :=
  Zd (MN 3 (AV.ro x0)) fun v1=>UK (o ++ [.cells v1 I4]) fun h0=>Zd (Qn h0 (AV.ro x1)) fun v2=>ldF h0 0 (.ptr (o).length 0) fun v4=>QV (K Qa [v2,v4] h0) fun v5 h6 f7=>Zd (Zc .neq .prim (AV.ro v5) (.int .i64 0)) fun v8=>ifK v8 (some (Vm false o v5 h6 (Zf o.length none f7))) (ldF h6 1 (.ptr (o).length 0) fun v10=>QV (K Vu [v10,(.int .i64 1),(.int .i64 1000)] h6) fun v11 h12 f13=>Zd (Jy .not (AV.ro v11)) fun v14=>ifK v14 (Wl o (.int .i64 2) h12 (Zf o.length (Zf o.length none f7) f13)) (ldF h12 2 (.ptr (o).length 0) fun v16=>Zd (Zc .lss .prim v16 (.int .i64 1)) fun v17=>VT v17 false (ldF h12 2 (.ptr (o).length 0) fun v19=>Zd (Zc .gtr .prim v19 (.int .i64 3)) fun v20=>some (v20,h12,(Zf o.length (Zf o.length none f7) f13))) (some (.bool true)) h12 (Zf o.length (Zf o.length none f7) f13) fun v21 h22 f23=>ifK (AV.ro v21) (Wl o (.int .i64 1) h22 f23) (Wl o (.int .i64 0) h22 f23)))
theorem ZdO {C:Cfg}{x0 x1:AV}:RunT C Rt ZfL [x0,x1] (fun K=>Zcb C.G K C.L x0 x1):=runT (P := ZoS) rfl fun _ _=>by kernel_rfl
def VE (G:GT)(K:KT)(L:Nat)(o:HP)(q:HP)(g:Eff):KR :=
  Wl o (.int .i64 0) q g
theorem Zax :Yh G 27 o.length K Xi L Pq (Wi Xi XK o) (Wi Xi XK o) []=fun e q g=>VE G K L o  q g:=by kernel_rfl
def Q5 (G:GT)(K:KT)(L:Nat)(o:HP)(k0:HP→Eff→KR):Nat→AV→AV→AV→AV→HP→Eff→KR
  | 0,_,_,_,_,_,_=>none
  | m + 1,x2,x14,x15,x16,q,g=>Zd (Zc .lss .prim x16 x15) fun v3=>ifK v3 (Zd (Y4 (.slice 3) x14 x16) fun v4=>Zd (Zt q 3 v4) fun v5=>UK (q ++ [.cells [(.str []),(.int .i64 0),(.int .i64 0)] I4]) fun h6=>TF (stV o.length 3 (.ptr (q).length 0) v5 h6 g) fun h7 f8=>Zd (Zt h7 3 (.ptr (q).length 0)) fun v9=>QV (Uo K x2 [v9] h7) fun v10 h11 f12=>Zd (Zc .neq .prim (AV.ro v10) (.int .i64 0)) fun v13=>ifK v13 (some (Vm false o v10 h11 (Zf o.length f8 f12))) (Zd (Zc .add .prim x16 (.int .i64 1)) fun v14=>Q5 G K L o k0 m x2 x14 x15 v14 h11 (Zf o.length f8 f12))) (k0  q g)
theorem Zay (k0:HP→Eff→KR)(zn:IE):Yh G 27 o.length K Xi L Pv zn (Wi Xi XK o) [(0,(fun e q g=>k0 q g))]=fun e q g=>Q5 G K L o k0 L (e 2).rd (e 14).rd (e 15).rd (e 16).rd q g:=lpJ (fun m e q g=>Q5 G K L o k0 m (e 2).rd (e 14).rd (e 15).rd (e 16).rd q g) rfl (fun _=>by kernel_rfl) L
def HY (G:GT)(K:KT)(L:Nat)(x0 x1 x2:AV)(o:HP):KR :=
  Zd (ZO o .slice (AV.ro x0)) fun v0=>Zd (Zc .gtr .prim v0 (AV.ro x1)) fun v1=>ifK v1 (Wl o (.int .i64 6) o none) (Zd (ZO o .slice (AV.ro x0)) fun v2=>Q5 G K L o (VE G K L o) L (AV.ro x2) (AV.ro x0) v2 (.int .i64 0) o none)
theorem ZbB (x0 x1 x2:AV) :fnK G K Xi L XK [x0,x1,x2] o=HY G K L x0 x1 x2 o:=by
 show Yh G 27 o.length K Xi L Lr (Wi Xi XK o) (Wi Xi XK o) [] (EW [x0,x1,x2]) o none=_
 simp only [Lr,Yn,ZB,ZC,ZQ]
 rw [Zax G K L o ,Zay G K L o (VE G K L o) _]
 kernel_rfl
theorem N7 {C:Cfg}{x0 x1 x2:AV}:RunT C H9 XK [x0,x1,x2] (fun K=>HY C.G K C.L x0 x1 x2):=runT rfl fun _ _=>ZbB ..
def Zcc (G:GT)(K:KT)(L:Nat)(x0 x1:AV)(o:HP):KR :=
  Zd (MN 3 (AV.ro x0)) fun v1=>UK (o ++ [.cells v1 LW]) fun h0=>Zd (Qn h0 (AV.ro x1)) fun v2=>ldF h0 0 (.ptr (o).length 0) fun v4=>QV (K Qa [v2,v4] h0) fun v5 h6 f7=>Zd (Zc .neq .prim (AV.ro v5) (.int .i64 0)) fun v8=>ifK v8 (some (Vm false o v5 h6 (Zf o.length none f7))) (ldF h6 1 (.ptr (o).length 0) fun v10=>QV (K Vu [v10,(.int .i64 1),(.int .i64 1000)] h6) fun v11 h12 f13=>Zd (Jy .not (AV.ro v11)) fun v14=>VT v14 false (ldF h12 2 (.ptr (o).length 0) fun v16=>QV (K Vu [v16,(.int .i64 1),(.int .i64 1000)] h12) fun v17 h18 f19=>Zd (Jy .not (AV.ro v17)) fun v20=>some (v20,h18,(Zf o.length (Zf o.length (Zf o.length none f7) f13) f19))) (some (.bool true)) h12 (Zf o.length (Zf o.length none f7) f13) fun v21 h22 f23=>ifK (AV.ro v21) (Wl o (.int .i64 2) h22 f23) (Wl o (.int .i64 0) h22 f23))
theorem ZdP {C:Cfg}{x0 x1:AV}:RunT C Ru ZfM [x0,x1] (fun K=>Zcc C.G K C.L x0 x1):=runT (P := ZoT) rfl fun _ _=>by kernel_rfl
def VR (G:GT)(K:KT)(L:Nat)(o:HP)(q:HP)(g:Eff):KR :=
  Wl o (.int .i64 0) q g
theorem ZaE :Yh G 27 o.length K Xy L PZ (Wi Xy Va o) (Wi Xy Va o) []=fun e q g=>VR G K L o  q g:=by kernel_rfl
def QT (G:GT)(K:KT)(L:Nat)(o:HP)(k0:HP→Eff→KR):Nat→AV→AV→AV→AV→HP→Eff→KR
  | 0,_,_,_,_,_,_=>none
  | m + 1,x2,x14,x15,x16,q,g=>Zd (Zc .lss .prim x16 x15) fun v3=>ifK v3 (Zd (Y4 (.slice 3) x14 x16) fun v4=>Zd (Zt q 3 v4) fun v5=>UK (q ++ [.cells [(.str []),(.int .i64 0),(.int .i64 0)] LW]) fun h6=>TF (stV o.length 3 (.ptr (q).length 0) v5 h6 g) fun h7 f8=>Zd (Zt h7 3 (.ptr (q).length 0)) fun v9=>QV (Uo K x2 [v9] h7) fun v10 h11 f12=>Zd (Zc .neq .prim (AV.ro v10) (.int .i64 0)) fun v13=>ifK v13 (some (Vm false o v10 h11 (Zf o.length f8 f12))) (Zd (Zc .add .prim x16 (.int .i64 1)) fun v14=>QT G K L o k0 m x2 x14 x15 v14 h11 (Zf o.length f8 f12))) (k0  q g)
theorem ZaF (k0:HP→Eff→KR)(zn:IE):Yh G 27 o.length K Xy L Na zn (Wi Xy Va o) [(0,(fun e q g=>k0 q g))]=fun e q g=>QT G K L o k0 L (e 2).rd (e 14).rd (e 15).rd (e 16).rd q g:=lpJ (fun m e q g=>QT G K L o k0 m (e 2).rd (e 14).rd (e 15).rd (e 16).rd q g) rfl (fun _=>by kernel_rfl) L
def II (G:GT)(K:KT)(L:Nat)(x0 x1 x2:AV)(o:HP):KR :=
  Zd (ZO o .slice (AV.ro x0)) fun v0=>Zd (Zc .gtr .prim v0 (AV.ro x1)) fun v1=>ifK v1 (Wl o (.int .i64 6) o none) (Zd (ZO o .slice (AV.ro x0)) fun v2=>QT G K L o (VR G K L o) L (AV.ro x2) (AV.ro x0) v2 (.int .i64 0) o none)
theorem ZbU (x0 x1 x2:AV) :fnK G K Xy L Va [x0,x1,x2] o=II G K L x0 x1 x2 o:=by
 show Yh G 27 o.length K Xy L Rl (Wi Xy Va o) (Wi Xy Va o) [] (EW [x0,x1,x2]) o none=_
 simp only [Rl,Yn,ZB,ZC,ZQ]
 rw [ZaE G K L o ,ZaF G K L o (VR G K L o) _]
 kernel_rfl
theorem Sz {C:Cfg}{x0 x1 x2:AV}:RunT C IG Va [x0,x1,x2] (fun K=>II C.G K C.L x0 x1 x2):=runT rfl fun _ _=>ZbU ..
def Zbj (G:GT)(K:KT)(L:Nat)(x0 x1:AV)(o:HP):KR :=
  Zd (MN 4 (AV.ro x0)) fun v1=>UK (o ++ [.cells v1 Wn]) fun h0=>Zd (Qn h0 (AV.ro x1)) fun v2=>ldF h0 0 (.ptr (o).length 0) fun v4=>QV (K Qa [v2,v4] h0) fun v5 h6 f7=>Zd (Zc .neq .prim (AV.ro v5) (.int .i64 0)) fun v8=>ifK v8 (some (Vm false o v5 h6 (Zf o.length none f7))) (Zd (Zt h6 4 (.ptr (o).length 0)) fun v9=>QV (K ZcA [v9] h6) fun v10 h11 f12=>some (Vm false o v10 h11 (Zf o.length (Zf o.length none f7) f12)))
theorem Zdo {C:Cfg}{x0 x1:AV}:RunT C MZ Ze1 [x0,x1] (fun K=>Zbj C.G K C.L x0 x1):=runT (P := Zns) rfl fun _ _=>by kernel_rfl
def Jo (G:GT)(K:KT)(L:Nat)(o:HP)(q:HP)(g:Eff):KR :=
  Wl o (.int .i64 0) q g
theorem Zbg :Yh G 27 o.length K XA L Su (Wi XA Vw o) (Wi XA Vw o) []=fun e q g=>Jo G K L o  q g:=by kernel_rfl
def QZ (G:GT)(K:KT)(L:Nat)(o:HP)(k0:HP→Eff→KR):Nat→AV→AV→AV→AV→HP→Eff→KR
  | 0,_,_,_,_,_,_=>none
  | m + 1,x2,x14,x15,x16,q,g=>Zd (Zc .lss .prim x16 x15) fun v3=>ifK v3 (Zd (Y4 (.slice 4) x14 x16) fun v4=>Zd (Zt q 4 v4) fun v5=>UK (q ++ [.cells [(.str []),(.own 2 []),(.own 2 []),(.own 21 [])] Wn]) fun h6=>TF (stV o.length 4 (.ptr (q).length 0) v5 h6 g) fun h7 f8=>Zd (Zt h7 4 (.ptr (q).length 0)) fun v9=>QV (Uo K x2 [v9] h7) fun v10 h11 f12=>Zd (Zc .neq .prim (AV.ro v10) (.int .i64 0)) fun v13=>ifK v13 (some (Vm false o v10 h11 (Zf o.length f8 f12))) (Zd (Zc .add .prim x16 (.int .i64 1)) fun v14=>QZ G K L o k0 m x2 x14 x15 v14 h11 (Zf o.length f8 f12))) (k0  q g)
theorem Zbh (k0:HP→Eff→KR)(zn:IE):Yh G 27 o.length K XA L Sv zn (Wi XA Vw o) [(0,(fun e q g=>k0 q g))]=fun e q g=>QZ G K L o k0 L (e 2).rd (e 14).rd (e 15).rd (e 16).rd q g:=lpJ (fun m e q g=>QZ G K L o k0 m (e 2).rd (e 14).rd (e 15).rd (e 16).rd q g) rfl (fun _=>by kernel_rfl) L
def O4 (G:GT)(K:KT)(L:Nat)(x0 x1 x2:AV)(o:HP):KR :=
  Zd (ZO o .slice (AV.ro x0)) fun v0=>Zd (Zc .gtr .prim v0 (AV.ro x1)) fun v1=>ifK v1 (Wl o (.int .i64 6) o none) (Zd (ZO o .slice (AV.ro x0)) fun v2=>QZ G K L o (Jo G K L o) L (AV.ro x2) (AV.ro x0) v2 (.int .i64 0) o none)
theorem Zcs (x0 x1 x2:AV) :fnK G K XA L Vw [x0,x1,x2] o=O4 G K L x0 x1 x2 o:=by
 show Yh G 27 o.length K XA L BN (Wi XA Vw o) (Wi XA Vw o) [] (EW [x0,x1,x2]) o none=_
 simp only [BN,Yn,ZB,ZC,ZQ]
 rw [Zbg G K L o ,Zbh G K L o (Jo G K L o) _]
 kernel_rfl
theorem EG {C:Cfg}{x0 x1 x2:AV}:RunT C O3 Vw [x0,x1,x2] (fun K=>O4 C.G K C.L x0 x1 x2):=runT rfl fun _ _=>Zcs ..
def ZeI (G:GT)(K:KT)(L:Nat)(x0 x1:AV)(o:HP):KR :=
  Zd (MN 5 (AV.ro x0)) fun v1=>UK (o ++ [.cells v1 XO]) fun h0=>Zd (Zt h0 13 (AV.ro x1)) fun v2=>Zd (Zt h0 5 (.ptr (o).length 0)) fun v3=>QV (K Zfj [v2,v3] h0) fun v4 h5 f6=>some (Vm false o v4 h5 (Zf o.length none f6))
theorem ZkF {C:Cfg}{x0 x1:AV}:RunT C ER Ze2 [x0,x1] (fun K=>ZeI C.G K C.L x0 x1):=runT (P := Znt) rfl fun _ _=>by kernel_rfl
def KG (G:GT)(K:KT)(L:Nat)(o:HP)(q:HP)(g:Eff):KR :=
  Wl o (.int .i64 0) q g
theorem ZbW :Yh G 27 o.length K Vs L Au (Wi Vs VW o) (Wi Vs VW o) []=fun e q g=>KG G K L o  q g:=by kernel_rfl
def VM (G:GT)(K:KT)(L:Nat)(o:HP)(k0:HP→Eff→KR):Nat→AV→AV→AV→AV→HP→Eff→KR
  | 0,_,_,_,_,_,_=>none
  | m + 1,x2,x14,x15,x16,q,g=>Zd (Zc .lss .prim x16 x15) fun v3=>ifK v3 (Zd (Y4 (.slice 5) x14 x16) fun v4=>Zd (Zt q 5 v4) fun v5=>UK (q ++ [.cells [(.str []),(.own 1 []),(.int .i64 0),(.int .i64 0),(.int .i64 0)] XO]) fun h6=>TF (stV o.length 5 (.ptr (q).length 0) v5 h6 g) fun h7 f8=>Zd (Zt h7 5 (.ptr (q).length 0)) fun v9=>QV (Uo K x2 [v9] h7) fun v10 h11 f12=>Zd (Zc .neq .prim (AV.ro v10) (.int .i64 0)) fun v13=>ifK v13 (some (Vm false o v10 h11 (Zf o.length f8 f12))) (Zd (Zc .add .prim x16 (.int .i64 1)) fun v14=>VM G K L o k0 m x2 x14 x15 v14 h11 (Zf o.length f8 f12))) (k0  q g)
theorem ZbX (k0:HP→Eff→KR)(zn:IE):Yh G 27 o.length K Vs L Aw zn (Wi Vs VW o) [(0,(fun e q g=>k0 q g))]=fun e q g=>VM G K L o k0 L (e 2).rd (e 14).rd (e 15).rd (e 16).rd q g:=lpJ (fun m e q g=>VM G K L o k0 m (e 2).rd (e 14).rd (e 15).rd (e 16).rd q g) rfl (fun _=>by kernel_rfl) L
def PE (G:GT)(K:KT)(L:Nat)(x0 x1 x2:AV)(o:HP):KR :=
  Zd (ZO o .slice (AV.ro x0)) fun v0=>Zd (Zc .gtr .prim v0 (AV.ro x1)) fun v1=>ifK v1 (Wl o (.int .i64 6) o none) (Zd (ZO o .slice (AV.ro x0)) fun v2=>VM G K L o (KG G K L o) L (AV.ro x2) (AV.ro x0) v2 (.int .i64 0) o none)
theorem Zdx (x0 x1 x2:AV) :fnK G K Vs L VW [x0,x1,x2] o=PE G K L x0 x1 x2 o:=by
 show Yh G 27 o.length K Vs L P9 (Wi Vs VW o) (Wi Vs VW o) [] (EW [x0,x1,x2]) o none=_
 simp only [P9,Yn,ZB,ZC,ZQ]
 rw [ZbW G K L o ,ZbX G K L o (KG G K L o) _]
 kernel_rfl
theorem Zeu {C:Cfg}{x0 x1 x2:AV}:RunT C P6 VW [x0,x1,x2] (fun K=>PE C.G K C.L x0 x1 x2):=runT rfl fun _ _=>Zdx ..
def ZnF (G:GT)(K:KT)(L:Nat)(x0:AV)(o:HP):KR :=
  Zd (MN 13 (AV.ro x0)) fun v1=>UK (o ++ [.cells v1 Zb]) fun h0=>UK (h0 ++ [.map []]) fun h2=>UK (h2 ++ [.cells [.nilm] V3]) fun h3=>TF (Zph o.length (.ptr (h2).length 0) (.map (h0).length) h3 none) fun h4 f5=>ldF h4 12 (.ptr (o).length 0) fun v7=>QV (K RD [v7,(.int .i64 32),(.fn NF [] [(.ptr (h2).length 0),(.ptr (o).length 0)])] h4) fun v8 h9 f10=>some (Vm false o v8 h9 (Zf o.length f5 f10))
theorem Zs8 {C:Cfg}{x0:AV}:RunT C ZgA Zn6 [x0] (fun K=>ZnF C.G K C.L x0):=runT (P := Zwo) rfl fun _ _=>by kernel_rfl
def Ye (G:GT)(K:KT)(L:Nat)(o:HP)(q:HP)(g:Eff):KR :=
  Wl o (.bool true) q g
theorem Ig :Yh G 32 o.length K ZW L J6 (Wi ZW Ym o) (Wi ZW Ym o) []=fun e q g=>Ye G K L o  q g:=by kernel_rfl
def Yf (G:GT)(K:KT)(L:Nat)(o:HP)(k0:HP→Eff→KR):Nat→AV→AV→AV→AV→AV→HP→Eff→KR
  | 0,_,_,_,_,_,_,_=>none
  | m + 1,x1,x2,x15,x16,x17,q,g=>Zd (Zc .lss .prim x17 x16) fun v4=>ifK v4 (Zd (Y4 (.slice 21) x15 x17) fun v5=>Zd (Zt q 21 v5) fun v6=>UK (q ++ [.cells [(.int .i64 0),(.str []),(.str []),(.int .i64 0),(.str []),(.int .i64 0),(.own 4 []),(.int .i64 0),(.str []),(.int .i64 0),(.own 4 []),(.own 4 []),(.int .i64 0),(.int .i64 0),(.int .i64 0),(.int .i64 0),(.own 1 []),(.own 1 []),(.bool false),(.own 21 []),(.own 21 [])] Xb]) fun h7=>TF (stV o.length 21 (.ptr (q).length 0) v6 h7 g) fun h8 f9=>Zd (Y4 (.slice 21) x1 x17) fun v10=>Zd (Zt h8 21 v10) fun v11=>UK (h8 ++ [.cells [(.int .i64 0),(.str []),(.str []),(.int .i64 0),(.str []),(.int .i64 0),(.own 4 []),(.int .i64 0),(.str []),(.int .i64 0),(.own 4 []),(.own 4 []),(.int .i64 0),(.int .i64 0),(.int .i64 0),(.int .i64 0),(.own 1 []),(.own 1 []),(.bool false),(.own 21 []),(.own 21 [])] Xb]) fun h12=>TF (stV o.length 21 (.ptr (h8).length 0) v11 h12 f9) fun h13 f14=>Zd (Zt h13 21 (.ptr (q).length 0)) fun v15=>Zd (Zt h13 21 (.ptr (h8).length 0)) fun v16=>QV (Uo K x2 [v15,v16] h13) fun v17 h18 f19=>Zd (Jy .not (AV.ro v17)) fun v20=>ifK v20 (Wl o (.bool false) h18 (Zf o.length f14 f19)) (Zd (Zc .add .prim x17 (.int .i64 1)) fun v21=>Yf G K L o k0 m x1 x2 x15 x16 v21 h18 (Zf o.length f14 f19))) (k0  q g)
theorem Ih (k0:HP→Eff→KR)(zn:IE):Yh G 32 o.length K ZW L J7 zn (Wi ZW Ym o) [(0,(fun e q g=>k0 q g))]=fun e q g=>Yf G K L o k0 L (e 1).rd (e 2).rd (e 15).rd (e 16).rd (e 17).rd q g:=lpJ (fun m e q g=>Yf G K L o k0 m (e 1).rd (e 2).rd (e 15).rd (e 16).rd (e 17).rd q g) rfl (fun _=>by kernel_rfl) L
def WM (G:GT)(K:KT)(L:Nat)(x0 x1 x2:AV)(o:HP):KR :=
  Zd (ZO o .slice (AV.ro x0)) fun v0=>Zd (ZO o .slice (AV.ro x1)) fun v1=>Zd (Zc .neq .prim v0 v1) fun v2=>ifK v2 (Wl o (.bool false) o none) (Zd (ZO o .slice (AV.ro x0)) fun v3=>Yf G K L o (Ye G K L o) L (AV.ro x1) (AV.ro x2) (AV.ro x0) v3 (.int .i64 0) o none)
theorem IR (x0 x1 x2:AV) :fnK G K ZW L Ym [x0,x1,x2] o=WM G K L x0 x1 x2 o:=by
 show Yh G 32 o.length K ZW L XM (Wi ZW Ym o) (Wi ZW Ym o) [] (EW [x0,x1,x2]) o none=_
 simp only [XM,Yn,ZB,ZC,ZQ]
 rw [Ig G K L o ,Ih G K L o (Ye G K L o) _]
 kernel_rfl
theorem Oe {C:Cfg}{x0 x1 x2:AV}:RunT C XH Ym [x0,x1,x2] (fun K=>WM C.G K C.L x0 x1 x2):=runT rfl fun _ _=>IR ..
def Zdh (G:GT)(K:KT)(L:Nat)(x0 x1:AV)(o:HP):KR :=
  Zd (MN 21 (AV.ro x0)) fun v1=>UK (o ++ [.cells v1 Xb]) fun h0=>Zd (MN 21 (AV.ro x1)) fun v3=>UK (h0 ++ [.cells v3 Xb]) fun h2=>ldF h2 0 (.ptr (o).length 0) fun v5=>ldF h2 0 (.ptr (h0).length 0) fun v7=>Zd (Zc .eql .prim v5 v7) fun v8=>VT v8 true (ldF h2 1 (.ptr (o).length 0) fun v10=>ldF h2 1 (.ptr (h0).length 0) fun v12=>Zd (Zc .eql .prim v10 v12) fun v13=>some (v13,h2,none)) (some (.bool false)) h2 none fun v14 h15 f16=>VT (AV.ro v14) true (ldF h15 2 (.ptr (o).length 0) fun v18=>ldF h15 2 (.ptr (h0).length 0) fun v20=>Zd (Zc .eql .prim v18 v20) fun v21=>some (v21,h15,f16)) (some (.bool false)) h15 f16 fun v22 h23 f24=>VT (AV.ro v22) true (ldF h23 18 (.ptr (o).length 0) fun v26=>ldF h23 18 (.ptr (h0).length 0) fun v28=>Zd (Zc .eql .bool v26 v28) fun v29=>some (v29,h23,f24)) (some (.bool false)) h23 f24 fun v30 h31 f32=>VT (AV.ro v30) true (Zd (Ir 3 (.ptr (o).length 0)) fun v33=>Zd (Zt h31 4 v33) fun v34=>Zd (Ir 3 (.ptr (h0).length 0)) fun v35=>Zd (Zt h31 4 v35) fun v36=>QV (K KJ [v34,v36] h31) fun v37 h38 f39=>some ((AV.ro v37),h38,(Zf o.length f32 f39))) (some (.bool false)) h31 f32 fun v40 h4 f42=>VT (AV.ro v40) true (Zd (Ir 7 (.ptr (o).length 0)) fun v43=>Zd (Zt h4 4 v43) fun v44=>Zd (Ir 7 (.ptr (h0).length 0)) fun v45=>Zd (Zt h4 4 v45) fun v46=>QV (K KJ [v44,v46] h4) fun v47 h48 f49=>some ((AV.ro v47),h48,(Zf o.length f42 f49))) (some (.bool false)) h4 f42 fun v50 h6 f52=>VT (AV.ro v50) true (Zd (Ir 12 (.ptr (o).length 0)) fun v53=>Zd (Zt h6 6 v53) fun v54=>Zd (Ir 12 (.ptr (h0).length 0)) fun v55=>Zd (Zt h6 6 v55) fun v56=>QV (K BM [v54,v56] h6) fun v57 h9 f59=>some ((AV.ro v57),h9,(Zf o.length f52 f59))) (some (.bool false)) h6 f52 fun v60 h11 f62=>VT (AV.ro v60) true (ldF h11 11 (.ptr (o).length 0) fun v64=>ldF h11 11 (.ptr (h0).length 0) fun v66=>QV (K XG [v64,v66,(.fn KJ [] [])] h11) fun v67 h68 f69=>some ((AV.ro v67),h68,(Zf o.length f62 f69))) (some (.bool false)) h11 f62 fun v70 h17 f72=>VT (AV.ro v70) true (ldF h17 19 (.ptr (o).length 0) fun v74=>ldF h17 19 (.ptr (h0).length 0) fun v76=>QV (K Lm [v74,v76] h17) fun v77 h19 f79=>some ((AV.ro v77),h19,(Zf o.length f72 f79))) (some (.bool false)) h17 f72 fun v80 h25 f82=>VT (AV.ro v80) true (ldF h25 20 (.ptr (o).length 0) fun v84=>ldF h25 20 (.ptr (h0).length 0) fun v86=>QV (K Lm [v84,v86] h25) fun v87 h27 f89=>some ((AV.ro v87),h27,(Zf o.length f82 f89))) (some (.bool false)) h25 f82 fun v41 h51 f92=>some (Vm false o v41 h51 f92)
theorem ZuV {C:Cfg}{x0 x1:AV}:RunT C FY Zpv [x0,x1] (fun K=>Zdh C.G K C.L x0 x1):=runT (P := ZxF) rfl fun _ _=>by kernel_rfl
def DF (G:GT)(K:KT)(L:Nat)(o:HP)(q:HP)(g:Eff):KR :=
  Wl o (.bool true) q g
theorem ZiB :Yh G 26 o.length K O7 L Ze6 (Wi O7 ML o) (Wi O7 ML o) []=fun e q g=>DF G K L o  q g:=by kernel_rfl
def Hg (G:GT)(K:KT)(L:Nat)(o:HP)(k0:HP→Eff→KR):Nat→AV→AV→AV→HP→Eff→KR
  | 0,_,_,_,_,_=>none
  | m + 1,x0,x1,x5,q,g=>Zd (ZO q .slice x0) fun v3=>Zd (Zc .lss .prim x5 v3) fun v4=>ifK v4 (Zd (Y4 (.slice 1) x0 x5) fun v5=>Zd (Qn q v5) fun v6=>Zd (Y4 (.slice 1) x1 x5) fun v7=>Zd (Qn q v7) fun v8=>Zd (Zc .neq .prim v6 v8) fun v9=>ifK v9 (Wl o (.bool false) q g) (Zd (Zc .add .prim x5 (.int .i64 1)) fun v10=>Hg G K L o k0 m x0 x1 v10 q g)) (k0  q g)
theorem ZiC (k0:HP→Eff→KR)(zn:IE):Yh G 26 o.length K O7 L Ze7 zn (Wi O7 ML o) [(0,(fun e q g=>k0 q g))]=fun e q g=>Hg G K L o k0 L (e 0).rd (e 1).rd (e 5).rd q g:=lpJ (fun m e q g=>Hg G K L o k0 m (e 0).rd (e 1).rd (e 5).rd q g) rfl (fun _=>by kernel_rfl) L
def Zbx (G:GT)(K:KT)(L:Nat)(x0 x1:AV)(o:HP):KR :=
  Zd (ZO o .slice (AV.ro x0)) fun v0=>Zd (ZO o .slice (AV.ro x1)) fun v1=>Zd (Zc .neq .prim v0 v1) fun v2=>ifK v2 (Wl o (.bool false) o none) (Hg G K L o (DF G K L o) L (AV.ro x0) (AV.ro x1) (.int .i64 0) o none)
theorem ZmF (x0 x1:AV) :fnK G K O7 L ML [x0,x1] o=Zbx G K L x0 x1 o:=by
 show Yh G 26 o.length K O7 L Zec (Wi O7 ML o) (Wi O7 ML o) [] (EW [x0,x1]) o none=_
 simp only [Zec,Yn,ZB,ZC,ZQ]
 rw [ZiB G K L o ,ZiC G K L o (DF G K L o) _]
 kernel_rfl
theorem ZoW {C:Cfg}{x0 x1:AV}:RunT C Zbw ML [x0,x1] (fun K=>Zbx C.G K C.L x0 x1):=runT rfl fun _ _=>ZmF ..
def Nq (G:GT)(K:KT)(L:Nat)(o:HP)(q:HP)(g:Eff):KR :=
  Wl o (.bool true) q g
theorem Zkt :Yh G 27 o.length K MB L Zgb (Wi MB RP o) (Wi MB RP o) []=fun e q g=>Nq G K L o  q g:=by kernel_rfl
def Tz (G:GT)(K:KT)(L:Nat)(o:HP)(k0:HP→Eff→KR):Nat→AV→AV→AV→HP→Eff→KR
  | 0,_,_,_,_,_=>none
  | m + 1,x0,x1,x5,q,g=>Zd (ZO q .slice x0) fun v3=>Zd (Zc .lss .prim x5 v3) fun v4=>ifK v4 (Zd (Y4 (.slice 4) x0 x5) fun v5=>Zd (Zt q 4 v5) fun v6=>Zd (Y4 (.slice 4) x1 x5) fun v7=>Zd (Zt q 4 v7) fun v8=>QV (Ub K Dy [v6,v8] q) fun v9 h10 f11=>Zd (Jy .not (AV.ro v9)) fun v12=>ifK v12 (Wl o (.bool false) h10 (Zf o.length g f11)) (Zd (Zc .add .prim x5 (.int .i64 1)) fun v13=>Tz G K L o k0 m x0 x1 v13 h10 (Zf o.length g f11))) (k0  q g)
theorem Zku (k0:HP→Eff→KR)(zn:IE):Yh G 27 o.length K MB L Zgc zn (Wi MB RP o) [(0,(fun e q g=>k0 q g))]=fun e q g=>Tz G K L o k0 L (e 0).rd (e 1).rd (e 5).rd q g:=lpJ (fun m e q g=>Tz G K L o k0 m (e 0).rd (e 1).rd (e 5).rd q g) rfl (fun _=>by kernel_rfl) L
def Zcv (G:GT)(K:KT)(L:Nat)(x0 x1:AV)(o:HP):KR :=
  Zd (ZO o .slice (AV.ro x0)) fun v0=>Zd (ZO o .slice (AV.ro x1)) fun v1=>Zd (Zc .neq .prim v0 v1) fun v2=>ifK v2 (Wl o (.bool false) o none) (Tz G K L o (Nq G K L o) L (AV.ro x0) (AV.ro x1) (.int .i64 0) o none)
theorem Zou (x0 x1:AV) :fnK G K MB L RP [x0,x1] o=Zcv G K L x0 x1 o:=by
 show Yh G 27 o.length K MB L Zfw (Wi MB RP o) (Wi MB RP o) [] (EW [x0,x1]) o none=_
 simp only [Zfw,Yn,ZB,ZC,ZQ]
 rw [Zkt G K L o ,Zku G K L o (Nq G K L o) _]
 kernel_rfl
theorem Zrf {C:Cfg}{x0 x1:AV}:RunT C Zfk RP [x0,x1] (fun K=>Zcv C.G K C.L x0 x1):=runT rfl fun _ _=>Zou ..
def GX (G:GT)(K:KT)(L:Nat)(o:HP)(q:HP)(g:Eff):KR :=
  Wl o (.int .i64 0) q g
theorem Zgz :Yh G 58 o.length K Xp L ZcN (Wi Xp JC o) (Wi Xp JC o) []=fun e q g=>GX G K L o  q g:=by kernel_rfl
def GV (G:GT)(K:KT)(L:Nat)(o:HP)(kn:AV→AV→AV→AV→HP→Eff→KR)(x1:AV)(x23:AV)(x24:AV)(x25:AV)(q:HP)(g:Eff):KR :=
  Zd (Zc .add .prim x25 (.int .i64 1)) fun v23=>kn x1 x23 x24 v23 q g
theorem Zgy (kn:AV→AV→AV→AV→HP→Eff→KR)(z1:IE):Yh G 58 o.length K Xp L ZcM (fun e q g=>kn (e 1).rd (e 23).rd (e 24).rd (e 25).rd q g) (Wi Xp JC o) [(1,z1)]=fun e q g=>GV G K L o kn (e 1).rd (e 23).rd (e 24).rd (e 25).rd q g:=by kernel_rfl
def IX (G:GT)(K:KT)(L:Nat)(o:HP)(kn:AV→AV→AV→AV→HP→Eff→KR)(x1:AV)(x3:AV)(x4:AV)(x23:AV)(x24:AV)(x25:AV)(x30:AV)(q:HP)(g:Eff):KR :=
  ifK x30 (Wl o (.int .i64 2) q g) (Zd (Zc .gtr .prim x3 (.int .i64 0)) fun v29=>VT v29 true (ldF q 0 x4 fun v31=>ldF q 2 x1 fun v33=>Zd (Zc .sub .prim x3 (.int .i64 1)) fun v34=>Zd (Y4 (.slice 2) v33 v34) fun v35=>ldF q 0 v35 fun v37=>Zd (Zc .leq .prim v31 v37) fun v38=>some (v38,q,g)) (some (.bool false)) q g fun v39 h0 f41=>ifK (AV.ro v39) (Wl o (.int .i64 12) h0 f41) (kn x1 x23 x24 x25 h0 f41))
theorem Zgx (kn:AV→AV→AV→AV→HP→Eff→KR)(z3 z2 z1:IE):Yh G 58 o.length K Xp L ZcL (fun e q g=>kn (e 1).rd (e 23).rd (e 24).rd (e 25).rd q g) (Wi Xp JC o) [(3,z3),(2,z2),(1,z1)]=fun e q g=>IX G K L o kn (e 1).rd (e 3).rd (e 4).rd (e 23).rd (e 24).rd (e 25).rd (e 30).rd q g:=by kernel_rfl
def V8 (G:GT)(K:KT)(L:Nat)(o:HP)(k1:HP→Eff→KR):Nat→AV→AV→AV→AV→HP→Eff→KR
  | 0,_,_,_,_,_,_=>none
  | m + 1,x1,x23,x24,x25,q,g=>Zd (Zc .lss .prim x25 x24) fun v22=>ifK v22 (Zd (Y4 (.slice 2) x23 x25) fun v24=>Zd (Zt q 2 v24) fun v25=>UK (q ++ [.cells [(.int .i64 0),(.int .i64 0)] Zmo]) fun h26=>TF (stV o.length 2 (.ptr (q).length 0) v25 h26 g) fun h27 f28=>ldF h27 0 (.ptr (q).length 0) fun v43=>ldF h27 3 x1 fun v45=>Zd (Zc .sub .prim v45 (.int .i64 1)) fun v46=>QV (K Vu [v43,(.int .i64 0),v46] h27) fun v47 h48 f49=>Zd (Jy .not (AV.ro v47)) fun v50=>ifK v50 (IX G K L o (GV G K L o (V8 G K L o k1 m)) x1 x25 (.ptr (q).length 0) x23 x24 x25 v50 h48 (Zf o.length f28 f49)) (ldF h48 1 (.ptr (q).length 0) fun v52=>QV (K Vu [v52,(.int .i64 0),(.int .i64 1000)] h48) fun v53 h0 f55=>Zd (Jy .not (AV.ro v53)) fun v56=>IX G K L o (GV G K L o (V8 G K L o k1 m)) x1 x25 (.ptr (q).length 0) x23 x24 x25 v56 h0 (Zf o.length (Zf o.length f28 f49) f55))) (k1  q g)
theorem Zg1 (k1:HP→Eff→KR) :∀ m,ZqA (fun n'=>Yh G 58 o.length K Xp L Dp n' (Wi Xp JC o) [(1,(fun e q g=>k1 q g))]) m=fun e q g=>V8 G K L o k1 m (e 1).rd (e 23).rd (e 24).rd (e 25).rd q g:=by
 intro m
 induction m with
 | zero=>rfl
 | succ m ih =>
  show Yh G 58 o.length K Xp L Dp (ZqA _ m) (Wi Xp JC o) [(1,(fun e q g=>k1 q g))]=_
  rw [ih]
  simp only [Dp,Yn,ZB,ZC,ZQ]
  rw [Zgy G K L o (V8 G K L o k1 m) _,Zgx G K L o (GV G K L o (V8 G K L o k1 m)) _ _ _]
  kernel_rfl
theorem Zg0 (k1:HP→Eff→KR)(zn:IE):Yh G 58 o.length K Xp L ZcO zn (Wi Xp JC o) [(1,(fun e q g=>k1 q g))]=fun e q g=>V8 G K L o k1 L (e 1).rd (e 23).rd (e 24).rd (e 25).rd q g:=Zg1 G K L o k1 L
def FN (G:GT)(K:KT)(L:Nat)(x0:AV)(o:HP):KR :=
  Zd (MN 17 (AV.ro x0)) fun v1=>UK (o ++ [.cells v1 Yj]) fun h0=>ldF h0 2 (.ptr (o).length 0) fun v3=>Zd (ZO h0 .slice v3) fun v4=>Zd (Zc .eql .prim v4 (.int .i64 0)) fun v5=>ifK v5 (ldF h0 3 (.ptr (o).length 0) fun v7=>Zd (Zc .neq .prim v7 (.int .i64 0)) fun v8=>ifK v8 (Wl o (.int .i64 1) h0 none) (Wl o (.int .i64 0) h0 none)) (ldF h0 2 (.ptr (o).length 0) fun v10=>Zd (ZO h0 .slice v10) fun v11=>Zd (Zc .gtr .prim v11 (.int .i64 20)) fun v12=>ifK v12 (Wl o (.int .i64 6) h0 none) (ldF h0 3 (.ptr (o).length 0) fun v14=>QV (K Vu [v14,(.int .i64 1),(.int .i64 1000000000)] h0) fun v15 h16 f17=>Zd (Jy .not (AV.ro v15)) fun v18=>ifK v18 (Wl o (.int .i64 2) h16 (Zf o.length none f17)) (ldF h16 2 (.ptr (o).length 0) fun v20=>Zd (ZO h16 .slice v20) fun v21=>V8 G K L o (GX G K L o) L (.ptr (o).length 0) v20 v21 (.int .i64 0) h16 (Zf o.length none f17))))
theorem Zko (x0:AV) :fnK G K Xp L JC [x0] o=FN G K L x0 o:=by
 show Yh G 58 o.length K Xp L ZbR (Wi Xp JC o) (Wi Xp JC o) [] (EW [x0]) o none=_
 simp only [ZbR,Yn,ZB,ZC,ZQ]
 rw [Zgz G K L o ,Zg0 G K L o (GX G K L o) _]
 kernel_rfl
theorem Zma {C:Cfg}{x0:AV}:RunT C ZbP JC [x0] (fun K=>FN C.G K C.L x0):=runT rfl fun _ _=>Zko ..
def Zgf (G:GT)(K:KT)(L:Nat)(x0 x1:AV)(o:HP):KR :=
  Zd (MN 13 (AV.ro x0)) fun v1=>UK (o ++ [.cells v1 Zb]) fun h0=>Zd (MN 13 (AV.ro x1)) fun v3=>UK (h0 ++ [.cells v3 ZwN]) fun h2=>ldF h2 0 (.ptr (h0).length 0) fun v5=>Zd (Zc .eql .prim v5 (.str [])) fun v6=>VT v6 true (Zd (Ir 1 (.ptr (h0).length 0)) fun v7=>Zd (Zt h2 6 v7) fun v8=>Zd (fill [(.int .i64 0),(.int .i64 0),(.int .i64 0),(.int .i64 0),(.own 1 []),(.own 1 [])] []) fun v9=>QV (K BM [v8,(.agg v9)] h2) fun v10 h11 f12=>Zd (Jy .not (AV.ro v10)) fun v13=>VT v13 false (Zd (Ir 7 (.ptr (h0).length 0)) fun v14=>Zd (Zt h11 6 v14) fun v15=>Zd (fill [(.int .i64 0),(.int .i64 0),(.int .i64 0),(.int .i64 0),(.own 1 []),(.own 1 [])] []) fun v16=>QV (K BM [v15,(.agg v16)] h11) fun v17 h18 f19=>Zd (Jy .not (AV.ro v17)) fun v20=>some (v20,h18,(Zf o.length (Zf o.length none f12) f19))) (some (.bool true)) h11 (Zf o.length none f12) fun v21 h22 f23=>some ((AV.ro v21),h22,f23)) (some (.bool false)) h2 none fun v24 h25 f26=>ifK (AV.ro v24) (Wl o (.int .i64 1) h25 f26) (ldF h25 0 (.ptr (h0).length 0) fun v28=>Zd (Zc .eql .prim v28 (.str [])) fun v29=>ifK v29 (Wl o (.int .i64 0) h25 f26) (ldF h25 6 (.ptr (o).length 0) fun v31=>ldF h25 0 (.ptr (h0).length 0) fun v33=>QV (K U6 [v31,v33] h25) fun v34 h35 f36=>Zd (Jy .not (AV.ro v34)) fun v37=>ifK v37 (Wl o (.int .i64 5) h35 (Zf o.length f26 f36)) (Zd (Ir 1 (.ptr (h0).length 0)) fun v38=>Zd (Zt h35 6 v38) fun v39=>QV (K MG [v39] h35) fun v40 h4 f42=>Zd (Zc .neq .prim (AV.ro v40) (.int .i64 0)) fun v43=>ifK v43 (some (Vm false o v40 h4 (Zf o.length (Zf o.length f26 f36) f42))) (Zd (Ir 7 (.ptr (h0).length 0)) fun v44=>Zd (Zt h4 6 v44) fun v45=>QV (K MG [v45] h4) fun v46 h47 f48=>some (Vm false o v46 h47 (Zf o.length (Zf o.length (Zf o.length f26 f36) f42) f48))))))
theorem ZlX {C:Cfg}{x0 x1:AV}:RunT C ZbO ZfH [x0,x1] (fun K=>Zgf C.G K C.L x0 x1):=runT (P := ZoO) rfl fun _ _=>by kernel_rfl
def Bg (G:GT)(K:KT)(L:Nat)(o:HP)(x1:AV)(q:HP)(g:Eff):KR :=
  ldF q 3 x1 fun v19=>QV (K Zd3 [v19] q) fun v20 h21 f22=>some (Vm false o v20 h21 (Zf o.length g f22))
theorem Zhy :Yh G 48 o.length K Ii L Zd8 (Wi Ii OB o) (Wi Ii OB o) []=fun e q g=>Bg G K L o (e 1).rd q g:=by kernel_rfl
def U7 (G:GT)(K:KT)(L:Nat)(o:HP)(k0:AV→HP→Eff→KR):Nat→AV→AV→AV→AV→AV→HP→Eff→KR
  | 0,_,_,_,_,_,_,_=>none
  | m + 1,x1,x3,x27,x28,x29,q,g=>Zd (Zc .lss .prim x29 x28) fun v33=>ifK v33 (Zd (Y4 (.slice 2) x27 x29) fun v34=>Zd (Zt q 2 v34) fun v35=>UK (q ++ [.cells [(.str []),(.int .i64 0)] Ziu]) fun h36=>TF (stV o.length 2 (.ptr (q).length 0) v35 h36 g) fun h37 f38=>ldF h37 0 (.ptr (q).length 0) fun v40=>QV (K Qa [x3,v40] h37) fun v41 h42 f43=>Zd (Zc .neq .prim (AV.ro v41) (.int .i64 0)) fun v44=>ifK v44 (some (Vm false o v41 h42 (Zf o.length f38 f43))) (ldF h42 1 (.ptr (q).length 0) fun v46=>QV (K Zai [v46] h42) fun v47 h48 f49=>Zd (Jy .not (AV.ro v47)) fun v50=>ifK v50 (Wl o (.int .i64 1) h48 (Zf o.length (Zf o.length f38 f43) f49)) (Zd (Zc .add .prim x29 (.int .i64 1)) fun v51=>U7 G K L o k0 m x1 x3 x27 x28 v51 h48 (Zf o.length (Zf o.length f38 f43) f49)))) (k0 x1 q g)
theorem Zhz (k0:AV→HP→Eff→KR)(zn:IE):Yh G 48 o.length K Ii L Zd9 zn (Wi Ii OB o) [(0,(fun e q g=>k0 (e 1).rd q g))]=fun e q g=>U7 G K L o k0 L (e 1).rd (e 3).rd (e 27).rd (e 28).rd (e 29).rd q g:=lpJ (fun m e q g=>U7 G K L o k0 m (e 1).rd (e 3).rd (e 27).rd (e 28).rd (e 29).rd q g) rfl (fun _=>by kernel_rfl) L
def Zaz (G:GT)(K:KT)(L:Nat)(x0:AV)(o:HP):KR :=
  Zd (MN 4 (AV.ro x0)) fun v1=>UK (o ++ [.cells v1 Wn]) fun h0=>ldF h0 1 (.ptr (o).length 0) fun v3=>Zd (ZO h0 .slice v3) fun v4=>Zd (Zc .gtr .prim v4 (.int .i64 6)) fun v5=>VT v5 false (ldF h0 1 (.ptr (o).length 0) fun v7=>Zd (ZO h0 .slice v7) fun v8=>ldF h0 2 (.ptr (o).length 0) fun v10=>Zd (ZO h0 .slice v10) fun v11=>Zd (Zc .add .prim v8 v11) fun v12=>Zd (Zc .gtr .prim v12 (.int .i64 16)) fun v13=>some (v13,h0,none)) (some (.bool true)) h0 none fun v14 h15 f16=>ifK (AV.ro v14) (Wl o (.int .i64 6) h15 f16) (UK (h15 ++ [.map []]) fun h17=>ldF h17 1 (.ptr (o).length 0) fun v24=>ldF h17 2 (.ptr (o).length 0) fun v26=>TF (ZoA ZuZ 1 [v24,v26] h17) fun v27 h28=>QV (K KN [(AV.ro v27)] h28) fun v29 h30 f31=>Zd (ZO h30 .slice (AV.ro v29)) fun v32=>U7 G K L o (Bg G K L o) L (.ptr (o).length 0) (.map (h15).length) (AV.ro v29) v32 (.int .i64 0) h30 (Zf o.length f16 f31))
theorem Zlz (x0:AV) :fnK G K Ii L OB [x0] o=Zaz G K L x0 o:=by
 show Yh G 48 o.length K Ii L ZcK (Wi Ii OB o) (Wi Ii OB o) [] (EW [x0]) o none=_
 simp only [ZcK,Yn,ZB,ZC,ZQ]
 rw [Zhy G K L o ,Zhz G K L o (Bg G K L o) _]
 kernel_rfl
theorem Znh {C:Cfg}{x0:AV}:RunT C ZcA OB [x0] (fun K=>Zaz C.G K C.L x0):=runT rfl fun _ _=>Zlz ..
def Nl (G:GT)(K:KT)(L:Nat)(o:HP)(x3:AV)(q:HP)(g:Eff):KR :=
  ldF q 2 x3 fun v22=>QV (K Vu [v22,(.int .i64 0),(.int .i64 1000000000)] q) fun v23 h24 f25=>Zd (Jy .not (AV.ro v23)) fun v26=>VT v26 false (ldF h24 3 x3 fun v28=>QV (K Vu [v28,(.int .i64 0),(.int .i64 1000000000)] h24) fun v29 h30 f31=>Zd (Jy .not (AV.ro v29)) fun v32=>some (v32,h30,(Zf o.length (Zf o.length g f25) f31))) (some (.bool true)) h24 (Zf o.length g f25) fun v33 h34 f35=>VT (AV.ro v33) false (ldF h34 4 x3 fun v37=>QV (K Vu [v37,(.int .i64 0),(.int .i64 1000000000)] h34) fun v38 h39 f40=>Zd (Jy .not (AV.ro v38)) fun v41=>some (v41,h39,(Zf o.length f35 f40))) (some (.bool true)) h34 f35 fun v42 h43 f44=>VT (AV.ro v42) false (ldF h43 3 x3 fun v46=>Zd (Zc .eql .prim v46 (.int .i64 0)) fun v47=>VT v47 true (ldF h43 4 x3 fun v49=>Zd (Zc .neq .prim v49 (.int .i64 0)) fun v50=>some (v50,h43,f44)) (some (.bool false)) h43 f44 fun v51 h0 f53=>some ((AV.ro v51),h0,f53)) (some (.bool true)) h43 f44 fun v54 h1 f56=>ifK (AV.ro v54) (Wl o (.int .i64 2) h1 f56) (Wl o (.int .i64 0) h1 f56)
theorem Zkp :Yh G 70 o.length K Md L ZfX (Wi Md RI o) (Wi Md RI o) []=fun e q g=>Nl G K L o (e 3).rd q g:=by kernel_rfl
def Tu (G:GT)(K:KT)(L:Nat)(o:HP)(k0:AV→HP→Eff→KR):Nat→AV→AV→AV→AV→AV→HP→Eff→KR
  | 0,_,_,_,_,_,_,_=>none
  | m + 1,x3,x6,x28,x29,x30,q,g=>Zd (Zc .lss .prim x30 x29) fun v60=>ifK v60 (Zd (Y4 (.slice 1) x28 x30) fun v61=>Zd (Qn q v61) fun v62=>Zd (Y4 (.slice 2) x6 x30) fun v63=>ldF q 1 v63 fun v65=>QV (K Zb1 [v65,v62] q) fun v66 h1 f68=>Zd (Jy .not (AV.ro v66)) fun v69=>ifK v69 (Wl o (.int .i64 2) h1 (Zf o.length g f68)) (Zd (Zc .add .prim x30 (.int .i64 1)) fun v70=>Tu G K L o k0 m x3 x6 x28 x29 v70 h1 (Zf o.length g f68))) (k0 x3 q g)
theorem Zkq (k0:AV→HP→Eff→KR)(zn:IE):Yh G 70 o.length K Md L ZfY zn (Wi Md RI o) [(0,(fun e q g=>k0 (e 3).rd q g))]=fun e q g=>Tu G K L o k0 L (e 3).rd (e 6).rd (e 28).rd (e 29).rd (e 30).rd q g:=lpJ (fun m e q g=>Tu G K L o k0 m (e 3).rd (e 6).rd (e 28).rd (e 29).rd (e 30).rd q g) rfl (fun _=>by kernel_rfl) L
def Za0 (G:GT)(K:KT)(L:Nat)(x0 x1:AV)(o:HP):KR :=
  Zd (MN 13 (AV.ro x0)) fun v1=>UK (o ++ [.cells v1 Zb]) fun h0=>Zd (MN 5 (AV.ro x1)) fun v3=>UK (h0 ++ [.cells v3 XO]) fun h2=>Zd (Zt h2 13 (.ptr (o).length 0)) fun v4=>ldF h2 0 (.ptr (h0).length 0) fun v6=>QV (K Ec [v4,v6] h2) fun v7 h8 f9=>Zd (Zc .lss .prim (AV.ro v7) (.int .i64 0)) fun v10=>ifK v10 (Wl o (.int .i64 5) h8 (Zf o.length none f9)) (ldF h8 10 (.ptr (o).length 0) fun v12=>Zd (Y4 (.slice 4) v12 (AV.ro v7)) fun v13=>ldF h8 1 v13 fun v15=>ldF h8 1 (.ptr (h0).length 0) fun v17=>Zd (ZO h8 .slice v17) fun v18=>Zd (ZO h8 .slice v15) fun v19=>Zd (Zc .neq .prim v18 v19) fun v20=>ifK v20 (Wl o (.int .i64 8) h8 (Zf o.length none f9)) (ldF h8 1 (.ptr (h0).length 0) fun v58=>Zd (ZO h8 .slice v58) fun v59=>Tu G K L o (Nl G K L o) L (.ptr (h0).length 0) v15 v58 v59 (.int .i64 0) h8 (Zf o.length none f9)))
theorem Zos (x0 x1:AV) :fnK G K Md L RI [x0,x1] o=Za0 G K L x0 x1 o:=by
 show Yh G 70 o.length K Md L Zfu (Wi Md RI o) (Wi Md RI o) [] (EW [x0,x1]) o none=_
 simp only [Zfu,Yn,ZB,ZC,ZQ]
 rw [Zkp G K L o ,Zkq G K L o (Nl G K L o) _]
 kernel_rfl
theorem ZqI {C:Cfg}{x0 x1:AV}:RunT C Zfj RI [x0,x1] (fun K=>Za0 C.G K C.L x0 x1):=runT rfl fun _ _=>Zos ..
def Zeo (G:GT)(K:KT)(L:Nat)(x0 x1 x2:AV)(o:HP):KR :=
  Zd (MN 3 (AV.ro x0)) fun v1=>UK (o ++ [.cells v1 V5]) fun h0=>Zd (Qn h0 (AV.ro x1)) fun v2=>ldF h0 0 (.ptr (o).length 0) fun v4=>QV (K Qa [v2,v4] h0) fun v5 h6 f7=>Zd (Zc .neq .prim (AV.ro v5) (.int .i64 0)) fun v8=>ifK v8 (some (Vm false o v5 h6 (Zf o.length none f7))) (ldF h6 1 (.ptr (o).length 0) fun v10=>Zd (ZO h6 .slice v10) fun v11=>Zd (Zc .eql .prim v11 (.int .i64 0)) fun v12=>ifK v12 (Wl o (.int .i64 7) h6 (Zf o.length none f7)) (ldF h6 1 (.ptr (o).length 0) fun v14=>QV (K NU [v14,(.int .i64 8),(.fn FH [] [(AV.ro x2)])] h6) fun v15 h16 f17=>Zd (Zc .neq .prim (AV.ro v15) (.int .i64 0)) fun v18=>ifK v18 (some (Vm false o v15 h16 (Zf o.length (Zf o.length none f7) f17))) (ldF h16 2 (.ptr (o).length 0) fun v20=>QV (K Ziw [v20] h16) fun v21 h22 f23=>Zd (Jy .not (AV.ro v21)) fun v24=>ifK v24 (Wl o (.int .i64 2) h22 (Zf o.length (Zf o.length (Zf o.length none f7) f17) f23)) (Wl o (.int .i64 0) h22 (Zf o.length (Zf o.length (Zf o.length none f7) f17) f23)))))
theorem Zgl {C:Cfg}{x0 x1 x2:AV}:RunT C NF ZiY [x0,x1,x2] (fun K=>Zeo C.G K C.L x0 x1 x2):=runT (P := ZsD) rfl fun _ _=>by kernel_rfl
def UG (G:GT)(K:KT)(L:Nat)(o:HP)(q:HP)(g:Eff):KR :=
  Wl o (.int .i64 0) q g
theorem Zdd :Yh G 27 o.length K Jd L CB (Wi Jd JW o) (Wi Jd JW o) []=fun e q g=>UG G K L o  q g:=by kernel_rfl
def XR (G:GT)(K:KT)(L:Nat)(o:HP)(k0:HP→Eff→KR):Nat→AV→AV→AV→AV→HP→Eff→KR
  | 0,_,_,_,_,_,_=>none
  | m + 1,x2,x14,x15,x16,q,g=>Zd (Zc .lss .prim x16 x15) fun v3=>ifK v3 (Zd (Y4 (.slice 3) x14 x16) fun v4=>Zd (Zt q 3 v4) fun v5=>UK (q ++ [.cells [(.str []),(.own 3 []),(.int .i64 0)] V5]) fun h6=>TF (stV o.length 3 (.ptr (q).length 0) v5 h6 g) fun h7 f8=>Zd (Zt h7 3 (.ptr (q).length 0)) fun v9=>QV (Uo K x2 [v9] h7) fun v10 h11 f12=>Zd (Zc .neq .prim (AV.ro v10) (.int .i64 0)) fun v13=>ifK v13 (some (Vm false o v10 h11 (Zf o.length f8 f12))) (Zd (Zc .add .prim x16 (.int .i64 1)) fun v14=>XR G K L o k0 m x2 x14 x15 v14 h11 (Zf o.length f8 f12))) (k0  q g)
theorem Zde (k0:HP→Eff→KR)(zn:IE):Yh G 27 o.length K Jd L CE zn (Wi Jd JW o) [(0,(fun e q g=>k0 q g))]=fun e q g=>XR G K L o k0 L (e 2).rd (e 14).rd (e 15).rd (e 16).rd q g:=lpJ (fun m e q g=>XR G K L o k0 m (e 2).rd (e 14).rd (e 15).rd (e 16).rd q g) rfl (fun _=>by kernel_rfl) L
def Bf (G:GT)(K:KT)(L:Nat)(x0 x1 x2:AV)(o:HP):KR :=
  Zd (ZO o .slice (AV.ro x0)) fun v0=>Zd (Zc .gtr .prim v0 (AV.ro x1)) fun v1=>ifK v1 (Wl o (.int .i64 6) o none) (Zd (ZO o .slice (AV.ro x0)) fun v2=>XR G K L o (UG G K L o) L (AV.ro x2) (AV.ro x0) v2 (.int .i64 0) o none)
theorem ZeH (x0 x1 x2:AV) :fnK G K Jd L JW [x0,x1,x2] o=Bf G K L x0 x1 x2 o:=by
 show Yh G 27 o.length K Jd L Ej (Wi Jd JW o) (Wi Jd JW o) [] (EW [x0,x1,x2]) o none=_
 simp only [Ej,Yn,ZB,ZC,ZQ]
 rw [Zdd G K L o ,Zde G K L o (UG G K L o) _]
 kernel_rfl
theorem Za8 {C:Cfg}{x0 x1 x2:AV}:RunT C RD JW [x0,x1,x2] (fun K=>Bf C.G K C.L x0 x1 x2):=runT rfl fun _ _=>ZeH ..
def NQ (G:GT)(K:KT)(L:Nat)(o:HP)(q:HP)(g:Eff):KR :=
  Wl o (.bool true) q g
theorem ZmD :Yh G 52 o.length K PO L Zjl (Wi PO Ei o) (Wi PO Ei o) []=fun e q g=>NQ G K L o  q g:=by kernel_rfl
def MO (G:GT)(K:KT)(L:Nat)(o:HP)(k0:HP→Eff→KR):Nat→AV→AV→AV→AV→HP→Eff→KR
  | 0,_,_,_,_,_,_=>none
  | m + 1,x3,x36,x37,x38,q,g=>Zd (Zc .lss .prim x38 x37) fun v38=>ifK v38 (Zd (Y4 (.slice 4) x36 x38) fun v39=>Zd (Zt q 4 v39) fun v40=>UK (q ++ [.cells [(.int .i64 0),(.str []),(.int .i64 0),(.own 4 [])] WS]) fun h1=>TF (stV o.length 4 (.ptr (q).length 0) v40 h1 g) fun h42 f43=>Zd (Zt h42 4 (.ptr (q).length 0)) fun v44=>ldF h42 3 x3 fun v46=>Zd (Y4 (.slice 4) v46 x38) fun v47=>Zd (Zt h42 4 v47) fun v48=>QV (Ub K KJ [v44,v48] h42) fun v49 h50 f51=>Zd (Jy .not (AV.ro v49)) fun v52=>ifK v52 (Wl o (.bool false) h50 (Zf o.length f43 f51)) (Zd (Zc .add .prim x38 (.int .i64 1)) fun v53=>MO G K L o k0 m x3 x36 x37 v53 h50 (Zf o.length f43 f51))) (k0  q g)
theorem ZmE (k0:HP→Eff→KR)(zn:IE):Yh G 52 o.length K PO L Zjm zn (Wi PO Ei o) [(0,(fun e q g=>k0 q g))]=fun e q g=>MO G K L o k0 L (e 3).rd (e 36).rd (e 37).rd (e 38).rd q g:=lpJ (fun m e q g=>MO G K L o k0 m (e 3).rd (e 36).rd (e 37).rd (e 38).rd q g) rfl (fun _=>by kernel_rfl) L
def Zbf (G:GT)(K:KT)(L:Nat)(x0 x1:AV)(o:HP):KR :=
  Zd (MN 4 (AV.ro x0)) fun v1=>UK (o ++ [.cells v1 WS]) fun h0=>Zd (MN 4 (AV.ro x1)) fun v3=>UK (h0 ++ [.cells v3 WS]) fun h2=>ldF h2 0 (.ptr (o).length 0) fun v5=>ldF h2 0 (.ptr (h0).length 0) fun v7=>Zd (Zc .neq .prim v5 v7) fun v8=>VT v8 false (ldF h2 1 (.ptr (o).length 0) fun v10=>ldF h2 1 (.ptr (h0).length 0) fun v12=>Zd (Zc .neq .prim v10 v12) fun v13=>some (v13,h2,none)) (some (.bool true)) h2 none fun v14 h15 f16=>VT (AV.ro v14) false (ldF h15 2 (.ptr (o).length 0) fun v18=>ldF h15 2 (.ptr (h0).length 0) fun v20=>Zd (Zc .neq .prim v18 v20) fun v21=>some (v21,h15,f16)) (some (.bool true)) h15 f16 fun v22 h23 f24=>VT (AV.ro v22) false (ldF h23 3 (.ptr (o).length 0) fun v26=>Zd (ZO h23 .slice v26) fun v27=>ldF h23 3 (.ptr (h0).length 0) fun v29=>Zd (ZO h23 .slice v29) fun v30=>Zd (Zc .neq .prim v27 v30) fun v31=>some (v31,h23,f24)) (some (.bool true)) h23 f24 fun v32 h33 f34=>ifK (AV.ro v32) (Wl o (.bool false) h33 f34) (ldF h33 3 (.ptr (o).length 0) fun v36=>Zd (ZO h33 .slice v36) fun v37=>MO G K L o (NQ G K L o) L (.ptr (h0).length 0) v36 v37 (.int .i64 0) h33 f34)
theorem Zsl (x0 x1:AV) :fnK G K PO L Ei [x0,x1] o=Zbf G K L x0 x1 o:=by
 show Yh G 52 o.length K PO L ZjT (Wi PO Ei o) (Wi PO Ei o) [] (EW [x0,x1]) o none=_
 simp only [ZjT,Yn,ZB,ZC,ZQ]
 rw [ZmD G K L o ,ZmE G K L o (NQ G K L o) _]
 kernel_rfl
theorem ZlQ {C:Cfg}{x0 x1:AV}:RunT C KJ Ei [x0,x1] (fun K=>Zbf C.G K C.L x0 x1):=runT rfl fun _ _=>Zsl ..
def Yc (G:GT)(K:KT)(L:Nat)(o:HP)(q:HP)(g:Eff):KR :=
  Wl o (.bool true) q g
theorem Ic :Yh G 32 o.length K ZV L J4 (Wi ZV Yl o) (Wi ZV Yl o) []=fun e q g=>Yc G K L o  q g:=by kernel_rfl
def Yd (G:GT)(K:KT)(L:Nat)(o:HP)(k0:HP→Eff→KR):Nat→AV→AV→AV→AV→AV→HP→Eff→KR
  | 0,_,_,_,_,_,_,_=>none
  | m + 1,x1,x2,x15,x16,x17,q,g=>Zd (Zc .lss .prim x17 x16) fun v4=>ifK v4 (Zd (Y4 (.slice 4) x15 x17) fun v5=>Zd (Zt q 4 v5) fun v6=>UK (q ++ [.cells [(.int .i64 0),(.str []),(.int .i64 0),(.own 4 [])] WS]) fun h7=>TF (stV o.length 4 (.ptr (q).length 0) v6 h7 g) fun h8 f9=>Zd (Y4 (.slice 4) x1 x17) fun v10=>Zd (Zt h8 4 v10) fun v11=>UK (h8 ++ [.cells [(.int .i64 0),(.str []),(.int .i64 0),(.own 4 [])] WS]) fun h12=>TF (stV o.length 4 (.ptr (h8).length 0) v11 h12 f9) fun h13 f14=>Zd (Zt h13 4 (.ptr (q).length 0)) fun v15=>Zd (Zt h13 4 (.ptr (h8).length 0)) fun v16=>QV (Uo K x2 [v15,v16] h13) fun v17 h18 f19=>Zd (Jy .not (AV.ro v17)) fun v20=>ifK v20 (Wl o (.bool false) h18 (Zf o.length f14 f19)) (Zd (Zc .add .prim x17 (.int .i64 1)) fun v21=>Yd G K L o k0 m x1 x2 x15 x16 v21 h18 (Zf o.length f14 f19))) (k0  q g)
theorem Ie (k0:HP→Eff→KR)(zn:IE):Yh G 32 o.length K ZV L J5 zn (Wi ZV Yl o) [(0,(fun e q g=>k0 q g))]=fun e q g=>Yd G K L o k0 L (e 1).rd (e 2).rd (e 15).rd (e 16).rd (e 17).rd q g:=lpJ (fun m e q g=>Yd G K L o k0 m (e 1).rd (e 2).rd (e 15).rd (e 16).rd (e 17).rd q g) rfl (fun _=>by kernel_rfl) L
def WL (G:GT)(K:KT)(L:Nat)(x0 x1 x2:AV)(o:HP):KR :=
  Zd (ZO o .slice (AV.ro x0)) fun v0=>Zd (ZO o .slice (AV.ro x1)) fun v1=>Zd (Zc .neq .prim v0 v1) fun v2=>ifK v2 (Wl o (.bool false) o none) (Zd (ZO o .slice (AV.ro x0)) fun v3=>Yd G K L o (Yc G K L o) L (AV.ro x1) (AV.ro x2) (AV.ro x0) v3 (.int .i64 0) o none)
theorem IQ (x0 x1 x2:AV) :fnK G K ZV L Yl [x0,x1,x2] o=WL G K L x0 x1 x2 o:=by
 show Yh G 32 o.length K ZV L XL (Wi ZV Yl o) (Wi ZV Yl o) [] (EW [x0,x1,x2]) o none=_
 simp only [XL,Yn,ZB,ZC,ZQ]
 rw [Ic G K L o ,Ie G K L o (Yc G K L o) _]
 kernel_rfl
theorem Oc {C:Cfg}{x0 x1 x2:AV}:RunT C XG Yl [x0,x1,x2] (fun K=>WL C.G K C.L x0 x1 x2):=runT rfl fun _ _=>IQ ..
def Bo (G:GT)(K:KT)(L:Nat)(x0 x1:AV)(o:HP):KR :=
  QV (K OA [(AV.ro x0),(AV.ro x1)] o) fun v0 h1 f2=>Zd (Zc .geq .prim (AV.ro v0) (.int .i64 0)) fun v3=>some (Vm false o v3 h1 (Zf o.length none f2))
theorem Cf {C:Cfg}{x0 x1:AV}:RunT C U6 RS [x0,x1] (fun K=>Bo C.G K C.L x0 x1):=runT (P := ZaA) rfl fun _ _=>by kernel_rfl
def ZnB (G:GT)(K:KT)(L:Nat)(x0:AV)(o:HP):KR :=
  Zd (MN 6 (AV.ro x0)) fun v1=>UK (o ++ [.cells v1 Zbt]) fun h0=>Zd (Zt h0 6 (.ptr (o).length 0)) fun v2=>QV (K Zfg [v2] h0) fun v3 h4 f5=>Zd (Jy .not (AV.ro v3)) fun v6=>ifK v6 (Wl o (.int .i64 1) h4 (Zf o.length none f5)) (ldF h4 0 (.ptr (o).length 0) fun v8=>Zd (Zc .eql .prim v8 (.int .i64 1)) fun v9=>ifK v9 (ldF h4 1 (.ptr (o).length 0) fun v11=>TF (ZoA ZjK 1 [v11] h4) fun v12 h13=>QV (K TS [(.int .i64 0),(.int .i64 1000000000),(AV.ro v12)] h13) fun v14 h15 f16=>Zd (Jy .not (AV.ro v14)) fun v17=>ifK v17 (Wl o (.int .i64 2) h15 (Zf o.length (Zf o.length none f5) f16)) (Wl o (.int .i64 0) h15 (Zf o.length (Zf o.length none f5) f16))) (Zd (Zc .eql .prim v8 (.int .i64 2)) fun v18=>ifK v18 (ldF h4 1 (.ptr (o).length 0) fun v20=>ldF h4 2 (.ptr (o).length 0) fun v22=>TF (ZoA ZjK 1 [v20,v22] h4) fun v23 h24=>QV (K TS [(.int .i64 0),(.int .i64 1000000000),(AV.ro v23)] h24) fun v25 h26 f27=>VT (AV.ro v25) true (ldF h26 1 (.ptr (o).length 0) fun v29=>ldF h26 2 (.ptr (o).length 0) fun v31=>Zd (Zc .leq .prim v29 v31) fun v32=>some (v32,h26,(Zf o.length (Zf o.length none f5) f27))) (some (.bool false)) h26 (Zf o.length (Zf o.length none f5) f27) fun v33 h34 f35=>Zd (Jy .not (AV.ro v33)) fun v36=>ifK v36 (Wl o (.int .i64 2) h34 f35) (Wl o (.int .i64 0) h34 f35)) (Zd (Zc .eql .prim v8 (.int .i64 4)) fun v37=>ifK v37 (ldF h4 3 (.ptr (o).length 0) fun v39=>TF (ZoA ZjK 1 [v39] h4) fun v40 h7=>QV (K TS [(.int .i64 1),(.int .i64 20),(AV.ro v40)] h7) fun v42 h43 f44=>VT (AV.ro v42) true (ldF h43 1 (.ptr (o).length 0) fun v46=>ldF h43 2 (.ptr (o).length 0) fun v48=>TF (ZoA ZjK 1 [v46,v48] h43) fun v49 h50=>QV (K TS [(.int .i64 0),(.int .i64 1000000),(AV.ro v49)] h50) fun v51 h10 f53=>some ((AV.ro v51),h10,(Zf o.length (Zf o.length (Zf o.length none f5) f44) f53))) (some (.bool false)) h43 (Zf o.length (Zf o.length none f5) f44) fun v54 h19 f56=>VT (AV.ro v54) true (ldF h19 1 (.ptr (o).length 0) fun v58=>ldF h19 2 (.ptr (o).length 0) fun v60=>Zd (Zc .leq .prim v58 v60) fun v61=>some (v61,h19,f56)) (some (.bool false)) h19 f56 fun v62 h63 f64=>Zd (Jy .not (AV.ro v62)) fun v65=>ifK v65 (Wl o (.int .i64 2) h63 f64) (Wl o (.int .i64 0) h63 f64)) (Zd (Zc .eql .prim v8 (.int .i64 5)) fun v66=>ifK v66 (ldF h4 1 (.ptr (o).length 0) fun v68=>ldF h4 2 (.ptr (o).length 0) fun v70=>TF (ZoA ZjK 1 [v68,v70] h4) fun v71 h72=>QV (K TS [(.int .i64 1),(.int .i64 1000),(AV.ro v71)] h72) fun v73 h21 f75=>Zd (Jy .not (AV.ro v73)) fun v76=>ifK v76 (Wl o (.int .i64 2) h21 (Zf o.length (Zf o.length none f5) f75)) (Wl o (.int .i64 0) h21 (Zf o.length (Zf o.length none f5) f75))) (Zd (Zc .eql .prim v8 (.int .i64 3)) fun v77=>ifK v77 (ldF h4 4 (.ptr (o).length 0) fun v79=>Zd (ZO h4 .slice v79) fun v80=>ldF h4 5 (.ptr (o).length 0) fun v82=>Zd (ZO h4 .slice v82) fun v83=>Zd (Zc .neq .prim v80 v83) fun v84=>ifK v84 (Wl o (.int .i64 8) h4 (Zf o.length none f5)) (Zd (Zc .eql .prim v80 (.int .i64 0)) fun v85=>ifK v85 (Wl o (.int .i64 7) h4 (Zf o.length none f5)) (Zd (Zc .gtr .prim v80 (.int .i64 20)) fun v86=>ifK v86 (Wl o (.int .i64 6) h4 (Zf o.length none f5)) (ldF h4 4 (.ptr (o).length 0) fun v28=>QV (K TS [(.int .i64 0),(.int .i64 1000000000),v28] h4) fun v89 h30 f91=>VT (AV.ro v89) true (ldF h30 5 (.ptr (o).length 0) fun v93=>QV (K TS [(.int .i64 1),(.int .i64 1000),v93] h30) fun v38 h95 f96=>some ((AV.ro v38),h95,(Zf o.length (Zf o.length (Zf o.length none f5) f91) f96))) (some (.bool false)) h30 (Zf o.length (Zf o.length none f5) f91) fun v41 h45 f99=>Zd (Jy .not (AV.ro v41)) fun v47=>ifK v47 (Wl o (.int .i64 2) h45 f99) (Wl o (.int .i64 0) h45 f99))))) (Zd (Jy .not (.bool false)) fun v52=>ifK v52 (Wl o (.int .i64 2) h4 (Zf o.length none f5)) (Wl o (.int .i64 0) h4 (Zf o.length none f5))))))))
theorem Zso {C:Cfg}{x0:AV}:RunT C MG Zn1 [x0] (fun K=>ZnB C.G K C.L x0):=runT (P := Zwj) rfl fun _ _=>by kernel_rfl
def VK (G:GT)(K:KT)(L:Nat)(o:HP)(y6:AV)(q:HP)(g:Eff):KR :=
  some (Vm false o y6 q g)
theorem PK :Yh G 36 o.length K Yg L Ox (Wi Yg YC o) (Wi Yg YC o) []=fun e q g=>VK G K L o (e 6).val q g:=by kernel_rfl
def X6 (G:GT)(K:KT)(L:Nat)(o:HP)(k2:AV→HP→Eff→KR):Nat→AV→AV→AV→AV→HP→Eff→KR
  | 0,_,_,_,_,_,_=>none
  | m + 1,y6,x25,x26,x27,q,g=>Zd (Zc .lss .prim x27 x26) fun v4=>ifK v4 (Zd (Y4 (.slice 1) x25 x27) fun v5=>Zd (Qn q v5) fun v6=>Zd (Z0b 2 24 y6 v6 q) fun v7=>Zd (Zc .add .prim x27 (.int .i64 1)) fun v8=>X6 G K L o k2 m v7 x25 x26 v8 q g) (k2 y6 q g)
theorem PM (k2:AV→HP→Eff→KR)(zn:IE):Yh G 36 o.length K Yg L Oz zn (Wi Yg YC o) [(2,(fun e q g=>k2 (e 6).val q g))]=fun e q g=>X6 G K L o k2 L (e 6).val (e 25).rd (e 26).rd (e 27).rd q g:=lpJ (fun m e q g=>X6 G K L o k2 m (e 6).val (e 25).rd (e 26).rd (e 27).rd q g) rfl (fun _=>by kernel_rfl) L
def VJ (G:GT)(K:KT)(L:Nat)(o:HP)(x0:AV)(x3:AV)(q:HP)(g:Eff):KR :=
  QV (K Ug [(.own 2 []),x3] q) fun v0 h1 f2=>Zd (ZO h1 .slice x0) fun v3=>X6 G K L o (VK G K L o) L v0 x0 v3 (.int .i64 0) h1 (Zf o.length g f2)
theorem PI :Yh G 36 o.length K Yg L UE (Wi Yg YC o) (Wi Yg YC o) []=fun e q g=>VJ G K L o (e 0).rd (e 3).rd q g:=by
 simp only [UE,Yn,ZB,ZC,ZQ]
 rw [PK G K L o ,PM G K L o (VK G K L o) _]
 kernel_rfl
def X5 (G:GT)(K:KT)(L:Nat)(o:HP)(k0:AV→AV→HP→Eff→KR):Nat→AV→AV→AV→AV→AV→HP→Eff→KR
  | 0,_,_,_,_,_,_,_=>none
  | m + 1,x0,x3,x9,x10,x11,q,g=>Zd (Zc .lss .prim x11 x10) fun v10=>ifK v10 (Zd (Y4 (.slice 1) x9 x11) fun v11=>Zd (Qn q v11) fun v12=>Zd (ZO q .slice v12) fun v13=>Zd (Zc .add .prim x3 v13) fun v14=>Zd (Zc .lss .prim v14 (.int .i64 0)) fun v15=>ifK v15 (none) (Zd (Zc .add .prim x11 (.int .i64 1)) fun v16=>X5 G K L o k0 m x0 v14 x9 x10 v16 q g)) (k0 x0 x3 q g)
theorem PL (k0:AV→AV→HP→Eff→KR)(zn:IE):Yh G 36 o.length K Yg L Oy zn (Wi Yg YC o) [(0,(fun e q g=>k0 (e 0).rd (e 3).rd q g))]=fun e q g=>X5 G K L o k0 L (e 0).rd (e 3).rd (e 9).rd (e 10).rd (e 11).rd q g:=lpJ (fun m e q g=>X5 G K L o k0 m (e 0).rd (e 3).rd (e 9).rd (e 10).rd (e 11).rd q g) rfl (fun _=>by kernel_rfl) L
def KP (G:GT)(K:KT)(L:Nat)(x0:AV)(o:HP):KR :=
  Zd (ZO o .slice (AV.ro x0)) fun v9=>X5 G K L o (VJ G K L o) L (AV.ro x0) (.int .i64 0) (AV.ro x0) v9 (.int .i64 0) o none
theorem SK (x0:AV) :fnK G K Yg L YC [x0] o=KP G K L x0 o:=by
 show Yh G 36 o.length K Yg L KO (Wi Yg YC o) (Wi Yg YC o) [] (EW [x0]) o none=_
 simp only [KO,Yn,ZB,ZC,ZQ]
 rw [PI G K L o ,PL G K L o (VJ G K L o) _]
 kernel_rfl
theorem EK {C:Cfg}{x0:AV}:RunT C KN YC [x0] (fun K=>KP C.G K C.L x0):=runT rfl fun _ _=>SK ..
def ZnH (G:GT)(K:KT)(L:Nat)(x0:AV)(o:HP):KR :=
  QV (K MI [(AV.ro x0)] o) fun v0 h1 f2=>Zd (Zc .gtr .prim (AV.ro v0) (.int .i64 200)) fun v3=>ifK v3 (Wl o (.int .i64 6) h1 (Zf o.length none f2)) (QV (K MJ [(AV.ro x0)] h1) fun v4 h5 f6=>Zd (Zc .gtr .prim (AV.ro v4) (.int .i64 12)) fun v7=>ifK v7 (Wl o (.int .i64 11) h5 (Zf o.length (Zf o.length none f2) f6)) (QV (K MK [(AV.ro x0)] h5) fun v8 h9 f10=>some (Vm false o v8 h9 (Zf o.length (Zf o.length (Zf o.length none f2) f6) f10))))
theorem ZsU {C:Cfg}{x0:AV}:RunT C Zd3 Zn8 [x0] (fun K=>ZnH C.G K C.L x0):=runT (P := Zwq) rfl fun _ _=>by kernel_rfl
def Zgg (G:GT)(K:KT)(L:Nat)(x0 x1:AV)(o:HP):KR :=
  Zd (MN 3 (AV.ro x0)) fun v1=>UK (o ++ [.cells v1 Ci]) fun h0=>Zd (Zt h0 13 (AV.ro x1)) fun v2=>Zd (Zt h0 3 (.ptr (o).length 0)) fun v3=>QV (K ZgC [v2,v3] h0) fun v4 h5 f6=>some (Vm false o v4 h5 (Zf o.length none f6))
theorem ZlY {C:Cfg}{x0 x1:AV}:RunT C FH ZfI [x0,x1] (fun K=>Zgg C.G K C.L x0 x1):=runT (P := ZoP) rfl fun _ _=>by kernel_rfl
def Gy (G:GT)(K:KT)(L:Nat)(o:HP)(q:HP)(g:Eff):KR :=
  Wl o (.int .i64 0) q g
theorem Zct :Yh G 27 o.length K VB L AY (Wi VB J3 o) (Wi VB J3 o) []=fun e q g=>Gy G K L o  q g:=by kernel_rfl
def Ji (G:GT)(K:KT)(L:Nat)(o:HP)(k0:HP→Eff→KR):Nat→AV→AV→AV→AV→HP→Eff→KR
  | 0,_,_,_,_,_,_=>none
  | m + 1,x2,x14,x15,x16,q,g=>Zd (Zc .lss .prim x16 x15) fun v3=>ifK v3 (Zd (Y4 (.slice 3) x14 x16) fun v4=>Zd (Zt q 3 v4) fun v5=>UK (q ++ [.cells [(.int .i64 0),(.str []),(.str [])] Ci]) fun h6=>TF (stV o.length 3 (.ptr (q).length 0) v5 h6 g) fun h7 f8=>Zd (Zt h7 3 (.ptr (q).length 0)) fun v9=>QV (Uo K x2 [v9] h7) fun v10 h11 f12=>Zd (Zc .neq .prim (AV.ro v10) (.int .i64 0)) fun v13=>ifK v13 (some (Vm false o v10 h11 (Zf o.length f8 f12))) (Zd (Zc .add .prim x16 (.int .i64 1)) fun v14=>Ji G K L o k0 m x2 x14 x15 v14 h11 (Zf o.length f8 f12))) (k0  q g)
theorem Zcu (k0:HP→Eff→KR)(zn:IE):Yh G 27 o.length K VB L AZ zn (Wi VB J3 o) [(0,(fun e q g=>k0 q g))]=fun e q g=>Ji G K L o k0 L (e 2).rd (e 14).rd (e 15).rd (e 16).rd q g:=lpJ (fun m e q g=>Ji G K L o k0 m (e 2).rd (e 14).rd (e 15).rd (e 16).rd q g) rfl (fun _=>by kernel_rfl) L
def Si (G:GT)(K:KT)(L:Nat)(x0 x1 x2:AV)(o:HP):KR :=
  Zd (ZO o .slice (AV.ro x0)) fun v0=>Zd (Zc .gtr .prim v0 (AV.ro x1)) fun v1=>ifK v1 (Wl o (.int .i64 6) o none) (Zd (ZO o .slice (AV.ro x0)) fun v2=>Ji G K L o (Gy G K L o) L (AV.ro x2) (AV.ro x0) v2 (.int .i64 0) o none)
theorem Zen (x0 x1 x2:AV) :fnK G K VB L J3 [x0,x1,x2] o=Si G K L x0 x1 x2 o:=by
 show Yh G 27 o.length K VB L NW (Wi VB J3 o) (Wi VB J3 o) [] (EW [x0,x1,x2]) o none=_
 simp only [NW,Yn,ZB,ZC,ZQ]
 rw [Zct G K L o ,Zcu G K L o (Gy G K L o) _]
 kernel_rfl
theorem ZeU {C:Cfg}{x0 x1 x2:AV}:RunT C NU J3 [x0,x1,x2] (fun K=>Si C.G K C.L x0 x1 x2):=runT rfl fun _ _=>Zen ..
def Nj (G:GT)(K:KT)(L:Nat)(o:HP)(q:HP)(g:Eff):KR :=
  Wl o (.bool false) q g
theorem Zkf :Yh G 54 o.length K TZ L ZfP (Wi TZ RG o) (Wi TZ RG o) []=fun e q g=>Nj G K L o  q g:=by kernel_rfl
def FM (G:GT)(K:KT)(L:Nat)(o:HP)(x1:AV)(x3:AV)(y3:AV)(x13:AV)(x27:AV)(q:HP)(g:Eff):KR :=
  ifK x27 (VT x3 true (ldF q 3 x1 fun v26=>Zd (Zc .eql .prim v26 (.int .i64 0)) fun v27=>some (v27,q,g)) (some (.bool false)) q g fun v28 h29 f30=>some (Vm false o v28 h29 f30)) (Zd (Zc .eql .prim x13 (.int .i64 4)) fun v31=>ifK v31 (some (Vm false o y3 q g)) (Zd (Zc .eql .prim x13 (.int .i64 3)) fun v32=>ifK v32 (ldF q 1 x1 fun v34=>Zd (Zc .eql .prim v34 (.int .i64 0)) fun v35=>VT v35 true (ldF q 2 x1 fun v37=>Zd (Zc .eql .prim v37 (.int .i64 0)) fun v38=>some (v38,q,g)) (some (.bool false)) q g fun v39 h0 f41=>VT (AV.ro v39) true (ldF h0 3 x1 fun v43=>Zd (Zc .eql .prim v43 (.int .i64 0)) fun v44=>some (v44,h0,f41)) (some (.bool false)) h0 f41 fun v45 h46 f47=>some (Vm false o v45 h46 f47)) (Nj G K L o   q g)))
theorem Zke :Yh G 54 o.length K TZ L ZfO (fun e q g=>(Nj G K L o) q g) (Wi TZ RG o) [(0,(fun e q g=>(Nj G K L o) q g))]=fun e q g=>FM G K L o (e 1).rd (e 3).rd (e 3).val (e 13).rd (e 27).rd q g:=by kernel_rfl
def Zf0 (G:GT)(K:KT)(L:Nat)(x0:AV)(o:HP):KR :=
  Zd (MN 6 (AV.ro x0)) fun v1=>UK (o ++ [.cells v1 Zbt]) fun h0=>ldF h0 4 (.ptr (o).length 0) fun v3=>Zd (ZO h0 .slice v3) fun v4=>ldF h0 5 (.ptr (o).length 0) fun v6=>Zd (ZO h0 .slice v6) fun v7=>Zd (Zc .add .prim v4 v7) fun v8=>Zd (Zc .eql .prim v8 (.int .i64 0)) fun v9=>ldF h0 0 (.ptr (o).length 0) fun v11=>Zd (Zc .eql .prim v11 (.int .i64 1)) fun v12=>ifK v12 (VT v9 true (ldF h0 2 (.ptr (o).length 0) fun v14=>Zd (Zc .eql .prim v14 (.int .i64 0)) fun v15=>some (v15,h0,none)) (some (.bool false)) h0 none fun v16 h17 f18=>VT (AV.ro v16) true (ldF h17 3 (.ptr (o).length 0) fun v20=>Zd (Zc .eql .prim v20 (.int .i64 0)) fun v21=>some (v21,h17,f18)) (some (.bool false)) h17 f18 fun v22 h23 f24=>some (Vm false o v22 h23 f24)) (Zd (Zc .eql .prim v11 (.int .i64 2)) fun v48=>ifK v48 (FM G K L o  (.ptr (o).length 0) v9 v9 v11 v48 h0 none) (Zd (Zc .eql .prim v11 (.int .i64 5)) fun v49=>FM G K L o  (.ptr (o).length 0) v9 v9 v11 v49 h0 none))
theorem Zop (x0:AV) :fnK G K TZ L RG [x0] o=Zf0 G K L x0 o:=by
 show Yh G 54 o.length K TZ L Zfr (Wi TZ RG o) (Wi TZ RG o) [] (EW [x0]) o none=_
 simp only [Zfr,Yn,ZB,ZC,ZQ]
 rw [Zkf G K L o ,Zke G K L o]
 kernel_rfl
theorem ZpX {C:Cfg}{x0:AV}:RunT C Zfg RG [x0] (fun K=>Zf0 C.G K C.L x0):=runT rfl fun _ _=>Zop ..
def Zlr (G:GT)(K:KT)(L:Nat)(x0 x1 x2:AV)(o:HP):KR :=
  Zd (MN 1 (AV.ro x0)) fun v1=>UK (o ++ [.cells v1 ZjK]) fun h0=>Zd (MN 1 (AV.ro x1)) fun v3=>UK (h0 ++ [.cells v3 ZjK]) fun h2=>QV (K IW [(AV.ro x2),(.fn Zag [] [(.ptr (o).length 0),(.ptr (h0).length 0)])] h2) fun v4 h5 f6=>Zd (Jy .not (AV.ro v4)) fun v7=>some (Vm false o v7 h5 (Zf o.length none f6))
theorem ZpY {C:Cfg}{x0 x1 x2:AV}:RunT C TS ZkS [x0,x1,x2] (fun K=>Zlr C.G K C.L x0 x1 x2):=runT (P := Zu9) rfl fun _ _=>by kernel_rfl
def E8 (G:GT)(K:KT)(L:Nat)(o:HP)(y3:AV)(q:HP)(g:Eff):KR :=
  some (Vm false o y3 q g)
theorem Zl5 :Yh G 25 o.length K BF L Zhg (Wi BF Pm o) (Wi BF Pm o) []=fun e q g=>E8 G K L o (e 3).val q g:=by kernel_rfl
def L9 (G:GT)(K:KT)(L:Nat)(o:HP)(k0:AV→HP→Eff→KR):Nat→AV→AV→AV→AV→AV→HP→Eff→KR
  | 0,_,_,_,_,_,_,_=>none
  | m + 1,x3,y3,x8,x9,x10,q,g=>Zd (Zc .lss .prim x10 x9) fun v2=>ifK v2 (Zd (Y4 (.slice 21) x8 x10) fun v3=>Zd (Zt q 21 v3) fun v4=>UK (q ++ [.cells [(.int .i64 0),(.str []),(.str []),(.int .i64 0),(.str []),(.int .i64 0),(.own 4 []),(.int .i64 0),(.str []),(.int .i64 0),(.own 4 []),(.own 4 []),(.int .i64 0),(.int .i64 0),(.int .i64 0),(.int .i64 0),(.own 1 []),(.own 1 []),(.bool false),(.own 21 []),(.own 21 [])] Xb]) fun h5=>TF (stV o.length 21 (.ptr (q).length 0) v4 h5 g) fun h6 f7=>ldF h6 19 (.ptr (q).length 0) fun v9=>QV (Ub K MI [v9] h6) fun v10 h11 f12=>ldF h11 20 (.ptr (q).length 0) fun v14=>QV (Ub K MI [v14] h11) fun v15 h16 f17=>Zd (Zc .add .prim (AV.ro v10) (AV.ro v15)) fun v18=>Zd (Zc .add .prim x3 v18) fun v19=>Zd (Zc .add .prim x10 (.int .i64 1)) fun v20=>L9 G K L o k0 m v19 v19 x8 x9 v20 h16 (Zf o.length (Zf o.length f7 f12) f17)) (k0 y3 q g)
theorem Zl6 (k0:AV→HP→Eff→KR)(zn:IE):Yh G 25 o.length K BF L Zhh zn (Wi BF Pm o) [(0,(fun e q g=>k0 (e 3).val q g))]=fun e q g=>L9 G K L o k0 L (e 3).rd (e 3).val (e 8).rd (e 9).rd (e 10).rd q g:=lpJ (fun m e q g=>L9 G K L o k0 m (e 3).rd (e 3).val (e 8).rd (e 9).rd (e 10).rd q g) rfl (fun _=>by kernel_rfl) L
def ZhD (G:GT)(K:KT)(L:Nat)(x0:AV)(o:HP):KR :=
  Zd (ZO o .slice (AV.ro x0)) fun v0=>Zd (ZO o .slice (AV.ro x0)) fun v1=>L9 G K L o (E8 G K L o) L v0 v0 (AV.ro x0) v1 (.int .i64 0) o none
theorem ZpQ (x0:AV) :fnK G K BF L Pm [x0] o=ZhD G K L x0 o:=by
 show Yh G 25 o.length K BF L Zhf (Wi BF Pm o) (Wi BF Pm o) [] (EW [x0]) o none=_
 simp only [Zhf,Yn,ZB,ZC,ZQ]
 rw [Zl5 G K L o ,Zl6 G K L o (E8 G K L o) _]
 kernel_rfl
theorem ZsV {C:Cfg}{x0:AV}:RunT C MI Pm [x0] (fun K=>ZhD C.G K C.L x0):=runT rfl fun _ _=>ZpQ ..
def EC (G:GT)(K:KT)(L:Nat)(o:HP)(y3:AV)(q:HP)(g:Eff):KR :=
  some (Vm false o y3 q g)
theorem Zl7 :Yh G 24 o.length K BG L Zhj (Wi BG Pn o) (Wi BG Pn o) []=fun e q g=>EC G K L o (e 3).val q g:=by kernel_rfl
def LC (G:GT)(K:KT)(L:Nat)(o:HP)(k0:AV→HP→Eff→KR):Nat→AV→AV→AV→AV→AV→HP→Eff→KR
  | 0,_,_,_,_,_,_,_=>none
  | m + 1,x3,y3,x6,x7,x8,q,g=>Zd (Zc .lss .prim x8 x7) fun v1=>ifK v1 (Zd (Y4 (.slice 21) x6 x8) fun v2=>Zd (Zt q 21 v2) fun v3=>UK (q ++ [.cells [(.int .i64 0),(.str []),(.str []),(.int .i64 0),(.str []),(.int .i64 0),(.own 4 []),(.int .i64 0),(.str []),(.int .i64 0),(.own 4 []),(.own 4 []),(.int .i64 0),(.int .i64 0),(.int .i64 0),(.int .i64 0),(.own 1 []),(.own 1 []),(.bool false),(.own 21 []),(.own 21 [])] Xb]) fun h4=>TF (stV o.length 21 (.ptr (q).length 0) v3 h4 g) fun h5 f6=>ldF h5 19 (.ptr (q).length 0) fun v8=>QV (Ub K MJ [v8] h5) fun v9 h10 f11=>Zd (Zc .add .prim (.int .i64 1) (AV.ro v9)) fun v12=>ldF h10 20 (.ptr (q).length 0) fun v14=>QV (Ub K MJ [v14] h10) fun v15 h16 f17=>Zd (Zc .add .prim (.int .i64 1) (AV.ro v15)) fun v18=>Zd (Z3V [x3,v12,v18]) fun v19=>Zd (Zc .add .prim x8 (.int .i64 1)) fun v20=>LC G K L o k0 m v19 v19 x6 x7 v20 h16 (Zf o.length (Zf o.length f6 f11) f17)) (k0 y3 q g)
theorem Zl8 (k0:AV→HP→Eff→KR)(zn:IE):Yh G 24 o.length K BG L Zhk zn (Wi BG Pn o) [(0,(fun e q g=>k0 (e 3).val q g))]=fun e q g=>LC G K L o k0 L (e 3).rd (e 3).val (e 6).rd (e 7).rd (e 8).rd q g:=lpJ (fun m e q g=>LC G K L o k0 m (e 3).rd (e 3).val (e 6).rd (e 7).rd (e 8).rd q g) rfl (fun _=>by kernel_rfl) L
def ZhE (G:GT)(K:KT)(L:Nat)(x0:AV)(o:HP):KR :=
  Zd (ZO o .slice (AV.ro x0)) fun v0=>LC G K L o (EC G K L o) L (.int .i64 0) (.int .i64 0) (AV.ro x0) v0 (.int .i64 0) o none
theorem ZpR (x0:AV) :fnK G K BG L Pn [x0] o=ZhE G K L x0 o:=by
 show Yh G 24 o.length K BG L Zhi (Wi BG Pn o) (Wi BG Pn o) [] (EW [x0]) o none=_
 simp only [Zhi,Yn,ZB,ZC,ZQ]
 rw [Zl7 G K L o ,Zl8 G K L o (EC G K L o) _]
 kernel_rfl
theorem ZsW {C:Cfg}{x0:AV}:RunT C MJ Pn [x0] (fun K=>ZhE C.G K C.L x0):=runT rfl fun _ _=>ZpR ..
def ED (G:GT)(K:KT)(L:Nat)(o:HP)(q:HP)(g:Eff):KR :=
  Wl o (.int .i64 0) q g
theorem Zl9 :Yh G 49 o.length K BH L Zhm (Wi BH Po o) (Wi BH Po o) []=fun e q g=>ED G K L o  q g:=by kernel_rfl
def LH (G:GT)(K:KT)(L:Nat)(o:HP)(k0:HP→Eff→KR):Nat→AV→AV→AV→HP→Eff→KR
  | 0,_,_,_,_,_=>none
  | m + 1,x10,x11,x12,q,g=>Zd (Zc .lss .prim x12 x11) fun v1=>ifK v1 (Zd (Y4 (.slice 21) x10 x12) fun v2=>Zd (Zt q 21 v2) fun v3=>UK (q ++ [.cells [(.int .i64 0),(.str []),(.str []),(.int .i64 0),(.str []),(.int .i64 0),(.own 4 []),(.int .i64 0),(.str []),(.int .i64 0),(.own 4 []),(.own 4 []),(.int .i64 0),(.int .i64 0),(.int .i64 0),(.int .i64 0),(.own 1 []),(.own 1 []),(.bool false),(.own 21 []),(.own 21 [])] Xb]) fun h4=>TF (stV o.length 21 (.ptr (q).length 0) v3 h4 g) fun h5 f6=>ldF h5 0 (.ptr (q).length 0) fun v8=>QV (K Zfn [v8] h5) fun v9 h10 f11=>Zd (Dt (AV.ro v9) 0) fun v12=>Zd (Dt (AV.ro v9) 1) fun v13=>UK (h10 ++ [.cells [(.bool false),(.bool false),(.bool false),(.bool false),(.bool false),(.bool false),(.bool false),(.bool false),(.bool false)] Dh]) fun h14=>TF (stV o.length 9 (.ptr (h10).length 0) v12 h14 (Zf o.length f6 f11)) fun h15 f16=>Zd (Jy .not v13) fun v17=>VT v17 false (Zd (Zt h15 21 (.ptr (q).length 0)) fun v18=>Zd (Zt h15 9 (.ptr (h10).length 0)) fun v19=>QV (K Zfm [v18,v19] h15) fun v20 h21 f22=>Zd (Jy .not (AV.ro v20)) fun v23=>some (v23,h21,(Zf o.length f16 f22))) (some (.bool true)) h15 f16 fun v24 h25 f26=>ifK (AV.ro v24) (Wl o (.int .i64 1) h25 f26) (Zd (Zt h25 21 (.ptr (q).length 0)) fun v27=>Zd (Zt h25 9 (.ptr (h10).length 0)) fun v28=>QV (K Zd4 [v27,v28] h25) fun v29 h30 f31=>Zd (Zc .neq .prim (AV.ro v29) (.int .i64 0)) fun v32=>ifK v32 (some (Vm false o v29 h30 (Zf o.length f26 f31))) (ldF h30 19 (.ptr (q).length 0) fun v34=>QV (K MK [v34] h30) fun v35 h36 f37=>Zd (Zc .neq .prim (AV.ro v35) (.int .i64 0)) fun v38=>ifK v38 (some (Vm false o v35 h36 (Zf o.length (Zf o.length f26 f31) f37))) (ldF h36 20 (.ptr (q).length 0) fun v40=>QV (K MK [v40] h36) fun v41 h42 f43=>Zd (Zc .neq .prim (AV.ro v41) (.int .i64 0)) fun v44=>ifK v44 (some (Vm false o v41 h42 (Zf o.length (Zf o.length (Zf o.length f26 f31) f37) f43))) (Zd (Zc .add .prim x12 (.int .i64 1)) fun v45=>LH G K L o k0 m x10 x11 v45 h42 (Zf o.length (Zf o.length (Zf o.length f26 f31) f37) f43)))))) (k0  q g)
theorem ZlA (k0:HP→Eff→KR)(zn:IE):Yh G 49 o.length K BH L Zhn zn (Wi BH Po o) [(0,(fun e q g=>k0 q g))]=fun e q g=>LH G K L o k0 L (e 10).rd (e 11).rd (e 12).rd q g:=lpJ (fun m e q g=>LH G K L o k0 m (e 10).rd (e 11).rd (e 12).rd q g) rfl (fun _=>by kernel_rfl) L
def ZhF (G:GT)(K:KT)(L:Nat)(x0:AV)(o:HP):KR :=
  Zd (ZO o .slice (AV.ro x0)) fun v0=>LH G K L o (ED G K L o) L (AV.ro x0) v0 (.int .i64 0) o none
theorem ZpT (x0:AV) :fnK G K BH L Po [x0] o=ZhF G K L x0 o:=by
 show Yh G 49 o.length K BH L Zhl (Wi BH Po o) (Wi BH Po o) [] (EW [x0]) o none=_
 simp only [Zhl,Yn,ZB,ZC,ZQ]
 rw [Zl9 G K L o ,ZlA G K L o (ED G K L o) _]
 kernel_rfl
theorem ZsX {C:Cfg}{x0:AV}:RunT C MK Po [x0] (fun K=>ZhF C.G K C.L x0):=runT rfl fun _ _=>ZpT ..
def Ia (G:GT)(K:KT)(L:Nat)(o:HP)(x3:AV)(x5:AV)(q:HP)(g:Eff):KR :=
  Zd (Jy .not x5) fun v4=>ifK v4 (Wl o (.int .i64 5) q g) (ldF q 0 x3 fun v6=>QV (K Vu [v6,(.int .i64 (-1000)),(.int .i64 1000)] q) fun v7 h8 f9=>Zd (Jy .not (AV.ro v7)) fun v10=>VT v10 false (ldF h8 0 x3 fun v12=>Zd (Zc .eql .prim v12 (.int .i64 0)) fun v13=>some (v13,h8,(Zf o.length g f9))) (some (.bool true)) h8 (Zf o.length g f9) fun v14 h15 f16=>ifK (AV.ro v14) (Wl o (.int .i64 2) h15 f16) (Wl o (.int .i64 0) h15 f16))
theorem Zl2 :Yh G 45 o.length K OT L Zhe (Wi OT RJ o) (Wi OT RJ o) []=fun e q g=>Ia G K L o (e 3).rd (e 5).rd q g:=by kernel_rfl
def Eu (G:GT)(K:KT)(L:Nat)(o:HP)(x2:AV)(x3:AV)(x7:AV)(x17:AV)(q:HP)(g:Eff):KR :=
  ifK x17 (ldF q 3 x2 fun v27=>QV (K V7 [v27,(.fn AP [] [x3])] q) fun v28 h29 f30=>Ia G K L o  x3 (AV.ro v28) h29 (Zf o.length g f30)) (Zd (Zc .eql .prim x7 (.str [99,111,117,110,116,101,100])) fun v31=>ifK v31 (ldF q 9 x2 fun v33=>ldF q 2 x3 fun v35=>QV (K U6 [v33,v35] q) fun v36 h37 f38=>Ia G K L o  x3 (AV.ro v36) h37 (Zf o.length g f38)) (Wl o (.int .i64 1) q g))
theorem Zl1 :Yh G 45 o.length K OT L Zhd (fun e q g=>(Ia G K L o) (e 3).rd (e 5).rd q g) (Wi OT RJ o) [(0,(fun e q g=>(Ia G K L o) (e 3).rd (e 5).rd q g))]=fun e q g=>Eu G K L o (e 2).rd (e 3).rd (e 7).rd (e 17).rd q g:=by kernel_rfl
def Et (G:GT)(K:KT)(L:Nat)(o:HP)(x2:AV)(x3:AV)(x7:AV)(x8:AV)(q:HP)(g:Eff):KR :=
  ifK x8 (Zd (Zt q 13 x2) fun v19=>ldF q 2 x3 fun v21=>QV (K Ec [v19,v21] q) fun v22 h23 f24=>Zd (Zc .geq .prim (AV.ro v22) (.int .i64 0)) fun v25=>Ia G K L o  x3 v25 h23 (Zf o.length g f24)) (Zd (Zc .eql .prim x7 (.str [115,116,111,114,101,100])) fun v39=>ifK v39 (Eu G K L o  x2 x3 x7 v39 q g) (Zd (Zc .eql .prim x7 (.str [101,110,116,101,114,101,100])) fun v40=>ifK v40 (Eu G K L o  x2 x3 x7 v40 q g) (Zd (Zc .eql .prim x7 (.str [108,101,102,116])) fun v41=>Eu G K L o  x2 x3 x7 v41 q g)))
theorem Zl0 :Yh G 45 o.length K OT L ZcP (fun e q g=>(Ia G K L o) (e 3).rd (e 5).rd q g) (Wi OT RJ o) [(0,(fun e q g=>(Ia G K L o) (e 3).rd (e 5).rd q g))]=fun e q g=>Et G K L o (e 2).rd (e 3).rd (e 7).rd (e 8).rd q g:=by
 simp only [ZcP,Yn,ZB,ZC,ZQ]
 rw [Zl1 G K L o]
 kernel_rfl
def Zh4 (G:GT)(K:KT)(L:Nat)(x0 x1:AV)(o:HP):KR :=
  Zd (MN 13 (AV.ro x0)) fun v1=>UK (o ++ [.cells v1 Zb]) fun h0=>Zd (MN 3 (AV.ro x1)) fun v3=>UK (h0 ++ [.cells v3 Ci]) fun h2=>ldF h2 1 (.ptr (h0).length 0) fun v18=>Zd (Zc .eql .prim v18 (.str [99,114,101,97,116,101,100])) fun v42=>ifK v42 (Et G K L o  (.ptr (o).length 0) (.ptr (h0).length 0) v18 v42 h2 none) (Zd (Zc .eql .prim v18 (.str [101,110,100,101,100])) fun v43=>ifK v43 (Et G K L o  (.ptr (o).length 0) (.ptr (h0).length 0) v18 v43 h2 none) (Zd (Zc .eql .prim v18 (.str [105,110,115,105,100,101])) fun v44=>Et G K L o  (.ptr (o).length 0) (.ptr (h0).length 0) v18 v44 h2 none))
theorem ZpP (x0 x1:AV) :fnK G K OT L RJ [x0,x1] o=Zh4 G K L x0 x1 o:=by
 show Yh G 45 o.length K OT L Zhc (Wi OT RJ o) (Wi OT RJ o) [] (EW [x0,x1]) o none=_
 simp only [Zhc,Yn,ZB,ZC,ZQ]
 rw [Zl2 G K L o ,Zl0 G K L o]
 kernel_rfl
theorem ZsA {C:Cfg}{x0 x1:AV}:RunT C ZgC RJ [x0,x1] (fun K=>Zh4 C.G K C.L x0 x1):=runT rfl fun _ _=>ZpP ..
def Zhu (G:GT)(K:KT)(L:Nat)(x0 x1 x2:AV)(o:HP):KR :=
  Zd (Qn o (AV.ro x1)) fun v0=>Zd (Zc .lss .prim (AV.ro x0) v0) fun v1=>VT v1 false (Zd (Qn o (AV.ro x2)) fun v2=>Zd (Zc .gtr .prim (AV.ro x0) v2) fun v3=>some (v3,o,none)) (some (.bool true)) o none fun v4 h5 f6=>some (Vm false o v4 h5 f6)
theorem ZmV {C:Cfg}{x0 x1 x2:AV}:RunT C Zag ZgI [x0,x1,x2] (fun K=>Zhu C.G K C.L x0 x1 x2):=runT (P := ZqS) rfl fun _ _=>by kernel_rfl
def DI (G:GT)(K:KT)(L:Nat)(x0 x1:AV)(o:HP):KR :=
  QV (K TU [(AV.ro x0),(AV.ro x1)] o) fun v0 h1 f2=>Zd (Zc .geq .prim (AV.ro v0) (.int .i64 0)) fun v3=>some (Vm false o v3 h1 (Zf o.length none f2))
theorem ZaC {C:Cfg}{x0 x1:AV}:RunT C IW D6 [x0,x1] (fun K=>DI C.G K C.L x0 x1):=runT (P := Zbr) rfl fun _ _=>by kernel_rfl
def BZ (G:GT)(K:KT)(L:Nat)(o:HP)(x2:AV)(y2:AV)(q:HP)(g:Eff):KR :=
  Zd (fill [(.bool false),(.bool false),(.bool false),(.bool false),(.bool false),(.bool false),(.bool false),(.bool false),(.bool false)] []) fun v1=>TF (stV o.length 9 x2 (.agg v1) q g) fun h2 f3=>Zd (Zt h2 9 y2) fun v4=>some (Vm false o (.tup [(AV.nm v4),(AV.nm (.bool false))]) h2 f3)
theorem ZmU :Yh G 46 o.length K LU L Zju (Wi LU P8 o) (Wi LU P8 o) []=fun e q g=>BZ G K L o (e 2).rd (e 2).val q g:=by kernel_rfl
def Zby (G:GT)(K:KT)(L:Nat)(o:HP)(x2:AV)(y2:AV)(x4:AV)(x32:AV)(q:HP)(g:Eff):KR :=
  ifK x32 (Zd (fill [(.bool false),(.bool false),(.bool false),(.bool false),(.bool false),(.bool false),(.bool false),(.bool false),(.bool false)] [(0,1,AV.nm (.bool true))]) fun v39=>TF (stV o.length 9 x2 (.agg v39) q g) fun h0 f41=>Zd (Zt h0 9 y2) fun v42=>some (Vm false o (.tup [(AV.nm v42),(AV.nm (.bool true))]) h0 f41)) (Zd (Zc .eql .prim x4 (.int .i64 13)) fun v43=>ifK v43 (Zd (fill [(.bool false),(.bool false),(.bool false),(.bool false),(.bool false),(.bool false),(.bool false),(.bool false),(.bool false)] [(0,1,AV.nm (.bool true)),(1,1,AV.nm (.bool true)),(2,1,AV.nm (.bool true)),(4,1,AV.nm (.bool true))]) fun v44=>TF (stV o.length 9 x2 (.agg v44) q g) fun h45 f46=>Zd (Zt h45 9 y2) fun v47=>some (Vm false o (.tup [(AV.nm v47),(AV.nm (.bool true))]) h45 f46)) (Zd (Zc .eql .prim x4 (.int .i64 14)) fun v48=>ifK v48 (Zd (fill [(.bool false),(.bool false),(.bool false),(.bool false),(.bool false),(.bool false),(.bool false),(.bool false),(.bool false)] [(0,1,AV.nm (.bool true)),(2,1,AV.nm (.bool true)),(4,1,AV.nm (.bool true))]) fun v49=>TF (stV o.length 9 x2 (.agg v49) q g) fun h50 f51=>Zd (Zt h50 9 y2) fun v52=>some (Vm false o (.tup [(AV.nm v52),(AV.nm (.bool true))]) h50 f51)) (Zd (Zc .eql .prim x4 (.int .i64 18)) fun v53=>ifK v53 (Zd (fill [(.bool false),(.bool false),(.bool false),(.bool false),(.bool false),(.bool false),(.bool false),(.bool false),(.bool false)] []) fun v54=>TF (stV o.length 9 x2 (.agg v54) q g) fun h1 f56=>Zd (Zt h1 9 y2) fun v57=>some (Vm false o (.tup [(AV.nm v57),(AV.nm (.bool true))]) h1 f56)) (BZ G K L o  x2 y2 q g))))
theorem ZmT :Yh G 46 o.length K LU L Zjt (fun e q g=>(BZ G K L o) (e 2).rd (e 2).val q g) (Wi LU P8 o) [(0,(fun e q g=>(BZ G K L o) (e 2).rd (e 2).val q g))]=fun e q g=>Zby G K L o (e 2).rd (e 2).val (e 4).rd (e 32).rd q g:=by kernel_rfl
def O6 (G:GT)(K:KT)(L:Nat)(o:HP)(x2:AV)(y2:AV)(x4:AV)(x5:AV)(q:HP)(g:Eff):KR :=
  ifK x5 (Zd (fill [(.bool false),(.bool false),(.bool false),(.bool false),(.bool false),(.bool false),(.bool false),(.bool false),(.bool false)] [(0,1,AV.nm (.bool true)),(2,1,AV.nm (.bool true))]) fun v5=>TF (stV o.length 9 x2 (.agg v5) q g) fun h6 f7=>Zd (Zt h6 9 y2) fun v8=>some (Vm false o (.tup [(AV.nm v8),(AV.nm (.bool true))]) h6 f7)) (Zd (Zc .eql .prim x4 (.int .i64 2)) fun v9=>ifK v9 (Zd (fill [(.bool false),(.bool false),(.bool false),(.bool false),(.bool false),(.bool false),(.bool false),(.bool false),(.bool false)] [(0,1,AV.nm (.bool true)),(1,1,AV.nm (.bool true)),(5,1,AV.nm (.bool true))]) fun v10=>TF (stV o.length 9 x2 (.agg v10) q g) fun h11 f12=>Zd (Zt h11 9 y2) fun v13=>some (Vm false o (.tup [(AV.nm v13),(AV.nm (.bool true))]) h11 f12)) (Zd (Zc .eql .prim x4 (.int .i64 3)) fun v14=>ifK v14 (Zd (fill [(.bool false),(.bool false),(.bool false),(.bool false),(.bool false),(.bool false),(.bool false),(.bool false),(.bool false)] [(2,1,AV.nm (.bool true)),(7,1,AV.nm (.bool true)),(8,1,AV.nm (.bool true))]) fun v15=>TF (stV o.length 9 x2 (.agg v15) q g) fun h16 f17=>Zd (Zt h16 9 y2) fun v18=>some (Vm false o (.tup [(AV.nm v18),(AV.nm (.bool true))]) h16 f17)) (Zd (Zc .eql .prim x4 (.int .i64 4)) fun v19=>ifK v19 (Zd (fill [(.bool false),(.bool false),(.bool false),(.bool false),(.bool false),(.bool false),(.bool false),(.bool false),(.bool false)] [(2,1,AV.nm (.bool true)),(7,1,AV.nm (.bool true))]) fun v20=>TF (stV o.length 9 x2 (.agg v20) q g) fun h21 f22=>Zd (Zt h21 9 y2) fun v23=>some (Vm false o (.tup [(AV.nm v23),(AV.nm (.bool true))]) h21 f22)) (Zd (Zc .eql .prim x4 (.int .i64 5)) fun v24=>ifK v24 (Zd (fill [(.bool false),(.bool false),(.bool false),(.bool false),(.bool false),(.bool false),(.bool false),(.bool false),(.bool false)] [(2,1,AV.nm (.bool true))]) fun v25=>TF (stV o.length 9 x2 (.agg v25) q g) fun h26 f27=>Zd (Zt h26 9 y2) fun v28=>some (Vm false o (.tup [(AV.nm v28),(AV.nm (.bool true))]) h26 f27)) (Zd (Zc .eql .prim x4 (.int .i64 6)) fun v29=>ifK v29 (Zd (fill [(.bool false),(.bool false),(.bool false),(.bool false),(.bool false),(.bool false),(.bool false),(.bool false),(.bool false)] [(0,1,AV.nm (.bool true)),(2,1,AV.nm (.bool true)),(3,1,AV.nm (.bool true)),(6,1,AV.nm (.bool true))]) fun v30=>TF (stV o.length 9 x2 (.agg v30) q g) fun h31 f32=>Zd (Zt h31 9 y2) fun v33=>some (Vm false o (.tup [(AV.nm v33),(AV.nm (.bool true))]) h31 f32)) (Zd (Zc .eql .prim x4 (.int .i64 9)) fun v34=>ifK v34 (Zd (fill [(.bool false),(.bool false),(.bool false),(.bool false),(.bool false),(.bool false),(.bool false),(.bool false),(.bool false)] [(0,1,AV.nm (.bool true)),(1,1,AV.nm (.bool true))]) fun v35=>TF (stV o.length 9 x2 (.agg v35) q g) fun h36 f37=>Zd (Zt h36 9 y2) fun v38=>some (Vm false o (.tup [(AV.nm v38),(AV.nm (.bool true))]) h36 f37)) (Zd (Zc .eql .prim x4 (.int .i64 10)) fun v58=>ifK v58 (Zby G K L o  x2 y2 x4 v58 q g) (Zd (Zc .eql .prim x4 (.int .i64 11)) fun v59=>Zby G K L o  x2 y2 x4 v59 q g))))))))
theorem ZmS :Yh G 46 o.length K LU L Zej (fun e q g=>(BZ G K L o) (e 2).rd (e 2).val q g) (Wi LU P8 o) [(0,(fun e q g=>(BZ G K L o) (e 2).rd (e 2).val q g))]=fun e q g=>O6 G K L o (e 2).rd (e 2).val (e 4).rd (e 5).rd q g:=by
 simp only [Zej,Yn,ZB,ZC,ZQ]
 rw [ZmT G K L o]
 kernel_rfl
def Zk0 (G:GT)(K:KT)(L:Nat)(x0:AV)(o:HP):KR :=
  UK (o ++ [.cells [(.bool false),(.bool false),(.bool false),(.bool false),(.bool false),(.bool false),(.bool false),(.bool false),(.bool false)] Dh]) fun h0=>Zd (Zc .eql .prim (AV.ro x0) (.int .i64 1)) fun v60=>ifK v60 (O6 G K L o  (.ptr (o).length 0) (.ptr (o).length 0) (AV.ro x0) v60 h0 none) (Zd (Zc .eql .prim (AV.ro x0) (.int .i64 7)) fun v61=>ifK v61 (O6 G K L o  (.ptr (o).length 0) (.ptr (o).length 0) (AV.ro x0) v61 h0 none) (Zd (Zc .eql .prim (AV.ro x0) (.int .i64 8)) fun v62=>ifK v62 (O6 G K L o  (.ptr (o).length 0) (.ptr (o).length 0) (AV.ro x0) v62 h0 none) (Zd (Zc .eql .prim (AV.ro x0) (.int .i64 12)) fun v63=>ifK v63 (O6 G K L o  (.ptr (o).length 0) (.ptr (o).length 0) (AV.ro x0) v63 h0 none) (Zd (Zc .eql .prim (AV.ro x0) (.int .i64 15)) fun v64=>ifK v64 (O6 G K L o  (.ptr (o).length 0) (.ptr (o).length 0) (AV.ro x0) v64 h0 none) (Zd (Zc .eql .prim (AV.ro x0) (.int .i64 16)) fun v65=>ifK v65 (O6 G K L o  (.ptr (o).length 0) (.ptr (o).length 0) (AV.ro x0) v65 h0 none) (Zd (Zc .eql .prim (AV.ro x0) (.int .i64 17)) fun v66=>O6 G K L o  (.ptr (o).length 0) (.ptr (o).length 0) (AV.ro x0) v66 h0 none))))))
theorem Zsn (x0:AV) :fnK G K LU L P8 [x0] o=Zk0 G K L x0 o:=by
 show Yh G 46 o.length K LU L Zka (Wi LU P8 o) (Wi LU P8 o) [] (EW [x0]) o none=_
 simp only [Zka,Yn,ZB,ZC,ZQ]
 rw [ZmU G K L o ,ZmS G K L o]
 kernel_rfl
theorem ZuW {C:Cfg}{x0:AV}:RunT C Zfn P8 [x0] (fun K=>Zk0 C.G K C.L x0):=runT rfl fun _ _=>Zsn ..
def ZpU (G:GT)(K:KT)(L:Nat)(x0 x1:AV)(o:HP):KR :=
  Zd (MN 21 (AV.ro x0)) fun v1=>UK (o ++ [.cells v1 Xb]) fun h0=>Zd (MN 9 (AV.ro x1)) fun v3=>UK (h0 ++ [.cells v3 Dh]) fun h2=>ldF h2 0 (.ptr (h0).length 0) fun v5=>VT v5 false (ldF h2 1 (.ptr (o).length 0) fun v7=>Zd (Zc .eql .prim v7 (.str [])) fun v8=>some (v8,h2,none)) (some (.bool true)) h2 none fun v9 h10 f11=>VT (AV.ro v9) true (ldF h10 1 (.ptr (h0).length 0) fun v13=>VT v13 false (ldF h10 2 (.ptr (o).length 0) fun v15=>Zd (Zc .eql .prim v15 (.str [])) fun v16=>some (v16,h10,f11)) (some (.bool true)) h10 f11 fun v17 h18 f19=>some ((AV.ro v17),h18,f19)) (some (.bool false)) h10 f11 fun v20 h21 f22=>VT (AV.ro v20) true (ldF h21 2 (.ptr (h0).length 0) fun v24=>VT v24 false (Zd (Ir 3 (.ptr (o).length 0)) fun v25=>Zd (Zt h21 4 v25) fun v26=>QV (Uo K (AV.ro (.fn ET [] [])) [v26] h21) fun v27 h28 f29=>some ((AV.ro v27),h28,(Zf o.length f22 f29))) (some (.bool true)) h21 f22 fun v30 h31 f32=>some ((AV.ro v30),h31,f32)) (some (.bool false)) h21 f22 fun v33 h34 f35=>VT (AV.ro v33) true (ldF h34 3 (.ptr (h0).length 0) fun v37=>VT v37 false (Zd (Ir 7 (.ptr (o).length 0)) fun v38=>Zd (Zt h34 4 v38) fun v39=>QV (Uo K (AV.ro (.fn ET [] [])) [v39] h34) fun v40 h4 f42=>some ((AV.ro v40),h4,(Zf o.length f35 f42))) (some (.bool true)) h34 f35 fun v43 h6 f45=>some ((AV.ro v43),h6,f45)) (some (.bool false)) h34 f35 fun v46 h47 f48=>VT (AV.ro v46) true (ldF h47 4 (.ptr (h0).length 0) fun v50=>VT v50 false (ldF h47 11 (.ptr (o).length 0) fun v52=>Zd (ZO h47 .slice v52) fun v53=>Zd (Zc .eql .prim v53 (.int .i64 0)) fun v54=>some (v54,h47,f48)) (some (.bool true)) h47 f48 fun v55 h12 f57=>some ((AV.ro v55),h12,f57)) (some (.bool false)) h47 f48 fun v58 h14 f60=>VT (AV.ro v58) true (ldF h14 5 (.ptr (h0).length 0) fun v62=>VT v62 false (Zd (Ir 12 (.ptr (o).length 0)) fun v63=>Zd (Zt h14 6 v63) fun v64=>Zd (fill [(.int .i64 0),(.int .i64 0),(.int .i64 0),(.int .i64 0),(.own 1 []),(.own 1 [])] []) fun v65=>QV (K BM [v64,(.agg v65)] h14) fun v66 h23 f68=>some ((AV.ro v66),h23,(Zf o.length f60 f68))) (some (.bool true)) h14 f60 fun v69 h36 f71=>some ((AV.ro v69),h36,f71)) (some (.bool false)) h14 f60 fun v72 h41 f74=>VT (AV.ro v72) true (ldF h41 6 (.ptr (h0).length 0) fun v76=>VT v76 false (ldF h41 18 (.ptr (o).length 0) fun v78=>Zd (Jy .not v78) fun v79=>some (v79,h41,f74)) (some (.bool true)) h41 f74 fun v80 h44 f82=>some ((AV.ro v80),h44,f82)) (some (.bool false)) h41 f74 fun v83 h84 f85=>VT (AV.ro v83) true (ldF h84 7 (.ptr (h0).length 0) fun v87=>VT v87 false (ldF h84 19 (.ptr (o).length 0) fun v89=>Zd (ZO h84 .slice v89) fun v49=>Zd (Zc .eql .prim v49 (.int .i64 0)) fun v91=>some (v91,h84,f85)) (some (.bool true)) h84 f85 fun v51 h56 f94=>some ((AV.ro v51),h56,f94)) (some (.bool false)) h84 f85 fun v59 h61 f97=>VT (AV.ro v59) true (ldF h61 8 (.ptr (h0).length 0) fun v67=>VT v67 false (ldF h61 20 (.ptr (o).length 0) fun v70=>Zd (ZO h61 .slice v70) fun v73=>Zd (Zc .eql .prim v73 (.int .i64 0)) fun v75=>some (v75,h61,f97)) (some (.bool true)) h61 f97 fun v77 h81 f106=>some ((AV.ro v77),h81,f106)) (some (.bool false)) h61 f97 fun v107 h86 f109=>some (Vm false o v107 h86 f109)
theorem ZuU {C:Cfg}{x0 x1:AV}:RunT C Zfm Zpu [x0,x1] (fun K=>ZpU C.G K C.L x0 x1):=runT (P := ZxE) rfl fun _ _=>by kernel_rfl
def EE (G:GT)(K:KT)(L:Nat)(o:HP)(x2:AV)(x3:AV)(q:HP)(g:Eff):KR :=
  ldF q 5 x3 fun v9=>ifK v9 (Zd (Ir 12 x2) fun v10=>Zd (Zt q 6 v10) fun v11=>QV (K MG [v11] q) fun v12 h13 f14=>some (Vm false o v12 h13 (Zf o.length g f14))) (Wl o (.int .i64 0) q g)
theorem ZlE :Yh G 89 o.length K Je L Zhp (Wi Je Gf o) (Wi Je Gf o) []=fun e q g=>EE G K L o (e 2).rd (e 3).rd q g:=by kernel_rfl
def LK (G:GT)(K:KT)(L:Nat)(o:HP)(k4:AV→AV→HP→Eff→KR):Nat→AV→AV→AV→AV→AV→HP→Eff→KR
  | 0,_,_,_,_,_,_,_=>none
  | m + 1,x2,x3,x0,x1,x5,q,g=>Zd (Zc .lss .prim x5 x1) fun v18=>ifK v18 (Zd (Y4 (.slice 4) x0 x5) fun v19=>Zd (Zt q 4 v19) fun v20=>UK (q ++ [.cells [(.int .i64 0),(.str []),(.int .i64 0),(.own 4 [])] WS]) fun h21=>TF (stV o.length 4 (.ptr (q).length 0) v20 h21 g) fun h22 f23=>Zd (Zt h22 4 (.ptr (q).length 0)) fun v24=>QV (K MH [v24] h22) fun v25 h26 f27=>Zd (Zc .neq .prim (AV.ro v25) (.int .i64 0)) fun v28=>ifK v28 (some (Vm false o v25 h26 (Zf o.length f23 f27))) (Zd (Zc .add .prim x5 (.int .i64 1)) fun v29=>LK G K L o k4 m x2 x3 x0 x1 v29 h26 (Zf o.length f23 f27))) (k4 x2 x3 q g)
theorem ZlH (k4:AV→AV→HP→Eff→KR)(zn:IE):Yh G 89 o.length K Je L Zhs zn (Wi Je Gf o) [(4,(fun e q g=>k4 (e 2).rd (e 3).rd q g))]=fun e q g=>LK G K L o k4 L (e 2).rd (e 3).rd (e 72).rd (e 73).rd (e 74).rd q g:=lpJ (fun m e q g=>LK G K L o k4 m (e 2).rd (e 3).rd (e 72).rd (e 73).rd (e 74).rd q g) rfl (fun _=>by kernel_rfl) L
def DL (G:GT)(K:KT)(L:Nat)(o:HP)(x2:AV)(x3:AV)(q:HP)(g:Eff):KR :=
  ldF q 11 x2 fun v5=>Zd (ZO q .slice v5) fun v6=>Zd (Zc .gtr .prim v6 (.int .i64 6)) fun v7=>ifK v7 (Wl o (.int .i64 6) q g) (ldF q 11 x2 fun v16=>Zd (ZO q .slice v16) fun v17=>LK G K L o (EE G K L o) L x2 x3 v16 v17 (.int .i64 0) q g)
theorem ZlD :Yh G 89 o.length K Je L ZcX (Wi Je Gf o) (Wi Je Gf o) []=fun e q g=>DL G K L o (e 2).rd (e 3).rd q g:=by
 simp only [ZcX,Yn,ZB,ZC,ZQ]
 rw [ZlE G K L o ,ZlH G K L o (EE G K L o) _]
 kernel_rfl
def LJ (G:GT)(K:KT)(L:Nat)(o:HP)(k2:AV→AV→HP→Eff→KR):Nat→AV→AV→AV→AV→AV→HP→Eff→KR
  | 0,_,_,_,_,_,_,_=>none
  | m + 1,x2,x3,x0,x1,x4,q,g=>Zd (Zc .lss .prim x4 x1) fun v43=>ifK v43 (Zd (Y4 (.slice 5) x0 x4) fun v44=>Zd (Zt q 5 v44) fun v45=>UK (q ++ [.cells [(.bool false),(.int .i64 0),(.str []),(.int .i64 0),(.own 4 [])] Xk]) fun h46=>TF (stV o.length 5 (.ptr (q).length 0) v45 h46 g) fun h47 f48=>ldF h47 0 (.ptr (q).length 0) fun v50=>Zd (Jy .not v50) fun v51=>ifK v51 (Zd (Zc .add .prim x4 (.int .i64 1)) fun v52=>LJ G K L o k2 m x2 x3 x0 x1 v52 h47 f48) (Zd (Ir 1 (.ptr (q).length 0)) fun v53=>Zd (Zt h47 4 v53) fun v54=>QV (K MH [v54] h47) fun v55 h5 f57=>Zd (Zc .neq .prim (AV.ro v55) (.int .i64 0)) fun v58=>ifK v58 (some (Vm false o v55 h5 (Zf o.length f48 f57))) (Zd (Zc .add .prim x4 (.int .i64 1)) fun v59=>LJ G K L o k2 m x2 x3 x0 x1 v59 h5 (Zf o.length f48 f57)))) (k2 x2 x3 q g)
theorem ZlG (k2:AV→AV→HP→Eff→KR)(zn:IE):Yh G 89 o.length K Je L Zhr zn (Wi Je Gf o) [(2,(fun e q g=>k2 (e 2).rd (e 3).rd q g))]=fun e q g=>LJ G K L o k2 L (e 2).rd (e 3).rd (e 51).rd (e 52).rd (e 53).rd q g:=lpJ (fun m e q g=>LJ G K L o k2 m (e 2).rd (e 3).rd (e 51).rd (e 52).rd (e 53).rd q g) rfl (fun _=>by kernel_rfl) L
def DK (G:GT)(K:KT)(L:Nat)(o:HP)(x2:AV)(x3:AV)(q:HP)(g:Eff):KR :=
  ldF q 2 x3 fun v31=>Zd (Ir 3 x2) fun v32=>Zd (Zt q 4 v32) fun v33=>Zd (fill [(.bool false),(.int .i64 0),(.str []),(.int .i64 0),(.own 4 [])] [(0,1,AV.nm v31),(1,4,AV.nm v33)]) fun v34=>ldF q 3 x3 fun v36=>Zd (Ir 7 x2) fun v37=>Zd (Zt q 4 v37) fun v38=>Zd (fill [(.bool false),(.int .i64 0),(.str []),(.int .i64 0),(.own 4 [])] [(0,1,AV.nm v36),(1,4,AV.nm v38)]) fun v39=>TF (ZoA Xk 5 [(.agg v34),(.agg v39)] q) fun v40 h0=>Zd (ZO h0 .slice (AV.ro v40)) fun v42=>LJ G K L o (DL G K L o) L x2 x3 (AV.ro v40) v42 (.int .i64 0) h0 g
theorem ZlC :Yh G 89 o.length K Je L ZcW (Wi Je Gf o) (Wi Je Gf o) []=fun e q g=>DK G K L o (e 2).rd (e 3).rd q g:=by
 simp only [ZcW,Yn,ZB,ZC,ZQ]
 rw [ZlD G K L o ,ZlG G K L o (DL G K L o) _]
 kernel_rfl
def DN (G:GT)(K:KT)(L:Nat)(o:HP)(k0:AV→AV→HP→Eff→KR):Nat→AV→AV→AV→AV→AV→HP→Eff→KR
  | 0,_,_,_,_,_,_,_=>none
  | m + 1,x2,x3,x24,x25,x26,q,g=>Zd (Zc .lss .prim x26 x25) fun v73=>ifK v73 (Zd (Y4 (.slice 2) x24 x26) fun v74=>Zd (Zt q 2 v74) fun v75=>UK (q ++ [.cells [(.bool false),(.str [])] Xc]) fun h1=>TF (stV o.length 2 (.ptr (q).length 0) v75 h1 g) fun h4 f78=>ldF h4 1 (.ptr (q).length 0) fun v80=>QV (K RF [v80] h4) fun v81 h5 f83=>ldF h5 0 (.ptr (q).length 0) fun v85=>VT v85 true (Zd (Zc .neq .prim (AV.ro v81) (.int .i64 0)) fun v86=>some (v86,h5,(Zf o.length f78 f83))) (some (.bool false)) h5 (Zf o.length f78 f83) fun v87 h6 f89=>ifK (AV.ro v87) (some (Vm false o v81 h6 f89)) (Zd (Zc .add .prim x26 (.int .i64 1)) fun v7=>DN G K L o k0 m x2 x3 x24 x25 v7 h6 f89)) (k0 x2 x3 q g)
theorem ZlF (k0:AV→AV→HP→Eff→KR)(zn:IE):Yh G 89 o.length K Je L Zhq zn (Wi Je Gf o) [(0,(fun e q g=>k0 (e 2).rd (e 3).rd q g))]=fun e q g=>DN G K L o k0 L (e 2).rd (e 3).rd (e 24).rd (e 25).rd (e 26).rd q g:=lpJ (fun m e q g=>DN G K L o k0 m (e 2).rd (e 3).rd (e 24).rd (e 25).rd (e 26).rd q g) rfl (fun _=>by kernel_rfl) L
def ZhG (G:GT)(K:KT)(L:Nat)(x0 x1:AV)(o:HP):KR :=
  Zd (MN 21 (AV.ro x0)) fun v1=>UK (o ++ [.cells v1 Xb]) fun h0=>Zd (MN 9 (AV.ro x1)) fun v3=>UK (h0 ++ [.cells v3 Dh]) fun h2=>ldF h2 0 (.ptr (h0).length 0) fun v61=>ldF h2 1 (.ptr (o).length 0) fun v63=>Zd (fill [(.bool false),(.str [])] [(0,1,AV.nm v61),(1,1,AV.nm v63)]) fun v64=>ldF h2 1 (.ptr (h0).length 0) fun v66=>ldF h2 2 (.ptr (o).length 0) fun v68=>Zd (fill [(.bool false),(.str [])] [(0,1,AV.nm v66),(1,1,AV.nm v68)]) fun v69=>TF (ZoA Xc 2 [(.agg v64),(.agg v69)] h2) fun v70 h4=>Zd (ZO h4 .slice (AV.ro v70)) fun v72=>DN G K L o (DK G K L o) L (.ptr (o).length 0) (.ptr (h0).length 0) (AV.ro v70) v72 (.int .i64 0) h4 none
theorem ZpV (x0 x1:AV) :fnK G K Je L Gf [x0,x1] o=ZhG G K L x0 x1 o:=by
 show Yh G 89 o.length K Je L Zho (Wi Je Gf o) (Wi Je Gf o) [] (EW [x0,x1]) o none=_
 simp only [Zho,Yn,ZB,ZC,ZQ]
 rw [ZlC G K L o ,ZlF G K L o (DK G K L o) _]
 kernel_rfl
theorem ZsY {C:Cfg}{x0 x1:AV}:RunT C Zd4 Gf [x0,x1] (fun K=>ZhG C.G K C.L x0 x1):=runT rfl fun _ _=>ZpV ..
def Zj5 (G:GT)(K:KT)(L:Nat)(x0 x1:AV)(o:HP):KR :=
  Zd (MN 3 (AV.ro x0)) fun v1=>UK (o ++ [.cells v1 I4]) fun h0=>ldF h0 0 (.ptr (o).length 0) fun v3=>ldF h0 2 (AV.ro x1) fun v5=>Zd (Zc .eql .prim v3 v5) fun v6=>some (Vm false o v6 h0 none)
theorem ZoL {C:Cfg}{x0 x1:AV}:RunT C AP Zji [x0,x1] (fun K=>Zj5 C.G K C.L x0 x1):=runT (P := ZsN) rfl fun _ _=>by kernel_rfl
def UV (G:GT)(K:KT)(L:Nat)(x0 x1:AV)(o:HP):KR :=
  QV (K VV [(AV.ro x0),(AV.ro x1)] o) fun v0 h1 f2=>Zd (Zc .geq .prim (AV.ro v0) (.int .i64 0)) fun v3=>some (Vm false o v3 h1 (Zf o.length none f2))
theorem MF {C:Cfg}{x0 x1:AV}:RunT C V7 UM [x0,x1] (fun K=>UV C.G K C.L x0 x1):=runT (P := LQ) rfl fun _ _=>by kernel_rfl
def JH (G:GT)(K:KT)(L:Nat)(o:HP)(q:HP)(g:Eff):KR :=
  Wl o (.int .i64 (-1)) q g
theorem CZ :Yh G 19 o.length K Xa L D9 (Wi Xa X0 o) (Wi Xa X0 o) []=fun e q g=>JH G K L o  q g:=by kernel_rfl
def X3 (G:GT)(K:KT)(L:Nat)(o:HP)(k0:HP→Eff→KR):Nat→AV→AV→AV→AV→HP→Eff→KR
  | 0,_,_,_,_,_,_=>none
  | m + 1,x0,x1,x7,x8,q,g=>Zd (Zc .lss .prim x8 x7) fun v1=>ifK v1 (Zd (Y4 (.slice 1) x0 x8) fun v2=>Zd (Qn q v2) fun v3=>QV (Uo K x1 [v3] q) fun v4 h5 f6=>ifK (AV.ro v4) (some (Vm false o x8 h5 (Zf o.length g f6))) (Zd (Zc .add .prim x8 (.int .i64 1)) fun v7=>X3 G K L o k0 m x0 x1 x7 v7 h5 (Zf o.length g f6))) (k0  q g)
theorem Zaa (k0:HP→Eff→KR)(zn:IE):Yh G 19 o.length K Xa L DC zn (Wi Xa X0 o) [(0,(fun e q g=>k0 q g))]=fun e q g=>X3 G K L o k0 L (e 0).rd (e 1).rd (e 7).rd (e 8).rd q g:=lpJ (fun m e q g=>X3 G K L o k0 m (e 0).rd (e 1).rd (e 7).rd (e 8).rd q g) rfl (fun _=>by kernel_rfl) L
def TY (G:GT)(K:KT)(L:Nat)(x0 x1:AV)(o:HP):KR :=
  Zd (ZO o .slice (AV.ro x0)) fun v0=>X3 G K L o (JH G K L o) L (AV.ro x0) (AV.ro x1) v0 (.int .i64 0) o none
theorem Zbl (x0 x1:AV) :fnK G K Xa L X0 [x0,x1] o=TY G K L x0 x1 o:=by
 show Yh G 19 o.length K Xa L TV (Wi Xa X0 o) (Wi Xa X0 o) [] (EW [x0,x1]) o none=_
 simp only [TV,Yn,ZB,ZC,ZQ]
 rw [CZ G K L o ,Zaa G K L o (JH G K L o) _]
 kernel_rfl
theorem ZbJ {C:Cfg}{x0 x1:AV}:RunT C TU X0 [x0,x1] (fun K=>TY C.G K C.L x0 x1):=runT rfl fun _ _=>Zbl ..
def ZlB (G:GT)(K:KT)(L:Nat)(x0:AV)(o:HP):KR :=
  Zd (MN 4 (AV.ro x0)) fun v1=>UK (o ++ [.cells v1 WS]) fun h0=>Zd (Zt h0 4 (.ptr (o).length 0)) fun v2=>Zd (fill [(.int .i64 0),(.str []),(.int .i64 0),(.own 4 [])] []) fun v3=>QV (K KJ [v2,(.agg v3)] h0) fun v4 h5 f6=>some (Vm false o v4 h5 (Zf o.length none f6))
theorem ZrE {C:Cfg}{x0:AV}:RunT C ET ZkY [x0] (fun K=>ZlB C.G K C.L x0):=runT (P := ZuE) rfl fun _ _=>by kernel_rfl
def ZnC (G:GT)(K:KT)(L:Nat)(x0:AV)(o:HP):KR :=
  Zd (MN 4 (AV.ro x0)) fun v1=>UK (o ++ [.cells v1 WS]) fun h0=>Zd (fill [(.bool false)] []) fun v2=>Zd (Zt h0 4 (.ptr (o).length 0)) fun v3=>QV (K FW [(.agg v2),v3] h0) fun v4 h5 f6=>some (Vm false o v4 h5 (Zf o.length none f6))
theorem Zs2 {C:Cfg}{x0:AV}:RunT C MH Zn2 [x0] (fun K=>ZnC C.G K C.L x0):=runT (P := Zwk) rfl fun _ _=>by kernel_rfl
def ZcZ (G:GT)(K:KT)(L:Nat)(x0 x1:AV)(o:HP):KR :=
  Zd (MN 1 (AV.ro x0)) fun v1=>UK (o ++ [.cells v1 Py]) fun h0=>Zd (MN 4 (AV.ro x1)) fun v3=>UK (h0 ++ [.cells v3 WS]) fun h2=>Zd (Zt h2 4 (.ptr (h0).length 0)) fun v4=>QV (K Eb [v4] h2) fun v5 h6 f7=>Zd (Zc .gtr .prim (AV.ro v5) (.int .i64 60)) fun v8=>ifK v8 (Wl o (.int .i64 6) h6 (Zf o.length none f7)) (Zd (Zt h6 4 (.ptr (h0).length 0)) fun v9=>QV (K Ea [v9] h6) fun v10 h11 f12=>Zd (Zc .gtr .prim (AV.ro v10) (.int .i64 12)) fun v13=>ifK v13 (Wl o (.int .i64 11) h11 (Zf o.length (Zf o.length none f7) f12)) (Zd (Zt h11 1 (.ptr (o).length 0)) fun v14=>Zd (Zt h11 4 (.ptr (h0).length 0)) fun v15=>QV (K GN [v14,v15] h11) fun v16 h17 f18=>some (Vm false o v16 h17 (Zf o.length (Zf o.length (Zf o.length none f7) f12) f18))))
theorem ZgE {C:Cfg}{x0 x1:AV}:RunT C FW ZcE [x0,x1] (fun K=>ZcZ C.G K C.L x0 x1):=runT (P := ZkH) rfl fun _ _=>by kernel_rfl
def Es (G:GT)(K:KT)(L:Nat)(o:HP)(y3:AV)(q:HP)(g:Eff):KR :=
  some (Vm false o y3 q g)
theorem Zlu :Yh G 19 o.length K BD L Zha (Wi BD Pj o) (Wi BD Pj o) []=fun e q g=>Es G K L o (e 3).val q g:=by kernel_rfl
def Lu (G:GT)(K:KT)(L:Nat)(o:HP)(k0:AV→HP→Eff→KR):Nat→AV→AV→AV→AV→AV→HP→Eff→KR
  | 0,_,_,_,_,_,_,_=>none
  | m + 1,x3,y3,x7,x8,x9,q,g=>Zd (Zc .lss .prim x9 x8) fun v5=>ifK v5 (Zd (Y4 (.slice 4) x7 x9) fun v6=>Zd (Zt q 4 v6) fun v7=>UK (q ++ [.cells [(.int .i64 0),(.str []),(.int .i64 0),(.own 4 [])] WS]) fun h8=>TF (stV o.length 4 (.ptr (q).length 0) v7 h8 g) fun h9 f10=>Zd (Zt h9 4 (.ptr (q).length 0)) fun v11=>QV (K Eb [v11] h9) fun v12 h13 f14=>Zd (Zc .add .prim x3 (AV.ro v12)) fun v15=>Zd (Zc .add .prim x9 (.int .i64 1)) fun v16=>Lu G K L o k0 m v15 v15 x7 x8 v16 h13 (Zf o.length f10 f14)) (k0 y3 q g)
theorem Zlv (k0:AV→HP→Eff→KR)(zn:IE):Yh G 19 o.length K BD L Zhb zn (Wi BD Pj o) [(0,(fun e q g=>k0 (e 3).val q g))]=fun e q g=>Lu G K L o k0 L (e 3).rd (e 3).val (e 7).rd (e 8).rd (e 9).rd q g:=lpJ (fun m e q g=>Lu G K L o k0 m (e 3).rd (e 3).val (e 7).rd (e 8).rd (e 9).rd q g) rfl (fun _=>by kernel_rfl) L
def Zhw (G:GT)(K:KT)(L:Nat)(x0:AV)(o:HP):KR :=
  Zd (MN 4 (AV.ro x0)) fun v1=>UK (o ++ [.cells v1 WS]) fun h0=>ldF h0 3 (.ptr (o).length 0) fun v3=>Zd (ZO h0 .slice v3) fun v4=>Lu G K L o (Es G K L o) L (.int .i64 1) (.int .i64 1) v3 v4 (.int .i64 0) h0 none
theorem ZpN (x0:AV) :fnK G K BD L Pj [x0] o=Zhw G K L x0 o:=by
 show Yh G 19 o.length K BD L ZgZ (Wi BD Pj o) (Wi BD Pj o) [] (EW [x0]) o none=_
 simp only [ZgZ,Yn,ZB,ZC,ZQ]
 rw [Zlu G K L o ,Zlv G K L o (Es G K L o) _]
 kernel_rfl
theorem Zs4 {C:Cfg}{x0:AV}:RunT C Eb Pj [x0] (fun K=>Zhw C.G K C.L x0):=runT rfl fun _ _=>ZpN ..
def Ep (G:GT)(K:KT)(L:Nat)(o:HP)(x3:AV)(q:HP)(g:Eff):KR :=
  Zd (Zc .add .prim x3 (.int .i64 1)) fun v2=>some (Vm false o v2 q g)
theorem Zls :Yh G 20 o.length K BC L ZgX (Wi BC Pi o) (Wi BC Pi o) []=fun e q g=>Ep G K L o (e 3).rd q g:=by kernel_rfl
def Lt (G:GT)(K:KT)(L:Nat)(o:HP)(k0:AV→HP→Eff→KR):Nat→AV→AV→AV→AV→HP→Eff→KR
  | 0,_,_,_,_,_,_=>none
  | m + 1,x3,x7,x8,x9,q,g=>Zd (Zc .lss .prim x9 x8) fun v6=>ifK v6 (Zd (Y4 (.slice 4) x7 x9) fun v7=>Zd (Zt q 4 v7) fun v8=>UK (q ++ [.cells [(.int .i64 0),(.str []),(.int .i64 0),(.own 4 [])] WS]) fun h9=>TF (stV o.length 4 (.ptr (q).length 0) v8 h9 g) fun h10 f11=>Zd (Zt h10 4 (.ptr (q).length 0)) fun v12=>QV (K Ea [v12] h10) fun v13 h14 f15=>Zd (Z3V [x3,(AV.ro v13)]) fun v16=>Zd (Zc .add .prim x9 (.int .i64 1)) fun v17=>Lt G K L o k0 m v16 x7 x8 v17 h14 (Zf o.length f11 f15)) (k0 x3 q g)
theorem Zlt (k0:AV→HP→Eff→KR)(zn:IE):Yh G 20 o.length K BC L ZgY zn (Wi BC Pi o) [(0,(fun e q g=>k0 (e 3).rd q g))]=fun e q g=>Lt G K L o k0 L (e 3).rd (e 7).rd (e 8).rd (e 9).rd q g:=lpJ (fun m e q g=>Lt G K L o k0 m (e 3).rd (e 7).rd (e 8).rd (e 9).rd q g) rfl (fun _=>by kernel_rfl) L
def Zhv (G:GT)(K:KT)(L:Nat)(x0:AV)(o:HP):KR :=
  Zd (MN 4 (AV.ro x0)) fun v1=>UK (o ++ [.cells v1 WS]) fun h0=>ldF h0 3 (.ptr (o).length 0) fun v4=>Zd (ZO h0 .slice v4) fun v5=>Lt G K L o (Ep G K L o) L (.int .i64 0) v4 v5 (.int .i64 0) h0 none
theorem ZpM (x0:AV) :fnK G K BC L Pi [x0] o=Zhv G K L x0 o:=by
 show Yh G 20 o.length K BC L ZgW (Wi BC Pi o) (Wi BC Pi o) [] (EW [x0]) o none=_
 simp only [ZgW,Yn,ZB,ZC,ZQ]
 rw [Zls G K L o ,Zlt G K L o (Ep G K L o) _]
 kernel_rfl
theorem Zs3 {C:Cfg}{x0:AV}:RunT C Ea Pi [x0] (fun K=>Zhv C.G K C.L x0):=runT rfl fun _ _=>ZpM ..
def IP (G:GT)(K:KT)(L:Nat)(o:HP)(q:HP)(g:Eff):KR :=
  Wl o (.int .i64 0) q g
theorem Zek :Yh G 29 o.length K Uh L ZaN (Wi Uh UL o) (Wi Uh UL o) []=fun e q g=>IP G K L o  q g:=by kernel_rfl
def U2 (G:GT)(K:KT)(L:Nat)(o:HP)(k0:HP→Eff→KR):Nat→AV→AV→AV→AV→HP→Eff→KR
  | 0,_,_,_,_,_,_=>none
  | m + 1,x2,x16,x17,x18,q,g=>Zd (Zc .lss .prim x18 x17) fun v13=>ifK v13 (Zd (Y4 (.slice 4) x16 x18) fun v14=>Zd (Zt q 4 v14) fun v15=>UK (q ++ [.cells [(.int .i64 0),(.str []),(.int .i64 0),(.own 4 [])] WS]) fun h16=>TF (stV o.length 4 (.ptr (q).length 0) v15 h16 g) fun h17 f18=>Zd (Zt h17 1 x2) fun v19=>Zd (Zt h17 4 (.ptr (q).length 0)) fun v20=>QV (K GN [v19,v20] h17) fun v21 h22 f23=>Zd (Zc .neq .prim (AV.ro v21) (.int .i64 0)) fun v24=>ifK v24 (some (Vm false o v21 h22 (Zf o.length f18 f23))) (Zd (Zc .add .prim x18 (.int .i64 1)) fun v25=>U2 G K L o k0 m x2 x16 x17 v25 h22 (Zf o.length f18 f23))) (k0  q g)
theorem Zel (k0:HP→Eff→KR)(zn:IE):Yh G 29 o.length K Uh L ZaO zn (Wi Uh UL o) [(0,(fun e q g=>k0 q g))]=fun e q g=>U2 G K L o k0 L (e 2).rd (e 16).rd (e 17).rd (e 18).rd q g:=lpJ (fun m e q g=>U2 G K L o k0 m (e 2).rd (e 16).rd (e 17).rd (e 18).rd q g) rfl (fun _=>by kernel_rfl) L
def Cb (G:GT)(K:KT)(L:Nat)(x0 x1:AV)(o:HP):KR :=
  Zd (MN 1 (AV.ro x0)) fun v1=>UK (o ++ [.cells v1 Py]) fun h0=>Zd (MN 4 (AV.ro x1)) fun v3=>UK (h0 ++ [.cells v3 WS]) fun h2=>Zd (Zt h2 1 (.ptr (o).length 0)) fun v4=>Zd (Zt h2 4 (.ptr (h0).length 0)) fun v5=>QV (K Zaf [v4,v5] h2) fun v6 h7 f8=>Zd (Zc .neq .prim (AV.ro v6) (.int .i64 0)) fun v9=>ifK v9 (some (Vm false o v6 h7 (Zf o.length none f8))) (ldF h7 3 (.ptr (h0).length 0) fun v11=>Zd (ZO h7 .slice v11) fun v12=>U2 G K L o (IP G K L o) L (.ptr (o).length 0) v11 v12 (.int .i64 0) h7 (Zf o.length none f8))
theorem Zgw (x0 x1:AV) :fnK G K Uh L UL [x0,x1] o=Cb G K L x0 x1 o:=by
 show Yh G 29 o.length K Uh L FZ (Wi Uh UL o) (Wi Uh UL o) [] (EW [x0,x1]) o none=_
 simp only [FZ,Yn,ZB,ZC,ZQ]
 rw [Zek G K L o ,Zel G K L o (IP G K L o) _]
 kernel_rfl
theorem ZgH {C:Cfg}{x0 x1:AV}:RunT C GN UL [x0,x1] (fun K=>Cb C.G K C.L x0 x1):=runT rfl fun _ _=>Zgw ..
def ZdH (G:GT)(K:KT)(L:Nat)(x0 x1:AV)(o:HP):KR :=
  Zd (MN 1 (AV.ro x0)) fun v1=>UK (o ++ [.cells v1 Py]) fun h0=>Zd (MN 4 (AV.ro x1)) fun v3=>UK (h0 ++ [.cells v3 WS]) fun h2=>Zd (Zt h2 1 (.ptr (o).length 0)) fun v4=>ldF h2 0 (.ptr (h0).length 0) fun v6=>QV (Ub K FX [v4,v6] h2) fun v7 h8 f9=>Zd (Jy .not (AV.ro v7)) fun v10=>VT v10 false (ldF h8 3 (.ptr (h0).length 0) fun v12=>Zd (ZO h8 .slice v12) fun v13=>ldF h8 0 (.ptr (h0).length 0) fun v15=>QV (Ub K Zc9 [v15] h8) fun v16 h17 f18=>Zd (Zc .neq .prim v13 (AV.ro v16)) fun v19=>some (v19,h17,(Zf o.length (Zf o.length none f9) f18))) (some (.bool true)) h8 (Zf o.length none f9) fun v20 h21 f22=>VT (AV.ro v20) false (ldF h21 1 (.ptr (h0).length 0) fun v24=>Zd (Zc .neq .prim v24 (.str [])) fun v25=>VT v25 true (Zd (Zt h21 1 (.ptr (o).length 0)) fun v26=>ldF h21 0 (.ptr (h0).length 0) fun v28=>QV (Ub K Pz [v26,v28] h21) fun v29 h30 f31=>Zd (Jy .not (AV.ro v29)) fun v32=>some (v32,h30,(Zf o.length f22 f31))) (some (.bool false)) h21 f22 fun v33 h34 f35=>some ((AV.ro v33),h34,f35)) (some (.bool true)) h21 f22 fun v36 h37 f38=>ifK (AV.ro v36) (Wl o (.int .i64 1) h37 f38) (ldF h37 0 (.ptr (h0).length 0) fun v40=>Zd (Zc .eql .prim v40 (.int .i64 1)) fun v41=>ifK v41 (ldF h37 2 (.ptr (h0).length 0) fun v43=>QV (K Ziw [v43] h37) fun v44 h45 f46=>Zd (Jy .not (AV.ro v44)) fun v47=>ifK v47 (Wl o (.int .i64 2) h45 (Zf o.length f38 f46)) (Wl o (.int .i64 0) h45 (Zf o.length f38 f46))) (Zd (Zt h37 1 (.ptr (o).length 0)) fun v48=>ldF h37 0 (.ptr (h0).length 0) fun v50=>QV (K SY [v48,v50] h37) fun v51 h5 f53=>Zd (Dt (AV.ro v51) 0) fun v54=>Zd (Dt (AV.ro v51) 1) fun v55=>Zd (Dt (AV.ro v51) 2) fun v56=>Zd (Jy .not v56) fun v57=>VT v57 true (ldF h5 2 (.ptr (h0).length 0) fun v59=>Zd (Zc .neq .prim v59 (.int .i64 0)) fun v60=>some (v60,h5,(Zf o.length f38 f53))) (some (.bool false)) h5 (Zf o.length f38 f53) fun v61 h11 f63=>ifK (AV.ro v61) (Wl o (.int .i64 1) h11 f63) (VT v56 true (ldF h11 2 (.ptr (h0).length 0) fun v65=>Zd (Zc .lss .prim v65 v54) fun v66=>VT v66 false (ldF h11 2 (.ptr (h0).length 0) fun v68=>Zd (Zc .gtr .prim v68 v55) fun v69=>some (v69,h11,f63)) (some (.bool true)) h11 f63 fun v70 h14 f72=>some ((AV.ro v70),h14,f72)) (some (.bool false)) h11 f63 fun v73 h23 f75=>ifK (AV.ro v73) (Wl o (.int .i64 2) h23 f75) (Zd (Zt h23 1 (.ptr (o).length 0)) fun v76=>ldF h23 0 (.ptr (h0).length 0) fun v78=>QV (K Pz [v76,v78] h23) fun v79 h80 f81=>ifK (AV.ro v79) (ldF h80 1 (.ptr (h0).length 0) fun v83=>QV (K RF [v83] h80) fun v84 h27 f86=>some (Vm false o v84 h27 (Zf o.length (Zf o.length f75 f81) f86))) (Wl o (.int .i64 0) h80 (Zf o.length f75 f81))))))
theorem Zi5 {C:Cfg}{x0 x1:AV}:RunT C Zaf Zd6 [x0,x1] (fun K=>ZdH C.G K C.L x0 x1):=runT (P := Zmc) rfl fun _ _=>by kernel_rfl
def Zda (G:GT)(K:KT)(L:Nat)(x0 x1:AV)(o:HP):KR :=
  Zd (MN 1 (AV.ro x0)) fun v1=>UK (o ++ [.cells v1 Py]) fun h0=>Zd (Zc .eql .prim (AV.ro x1) (.int .i64 3)) fun v2=>ifK v2 (ldF h0 0 (.ptr (o).length 0) fun v4=>Zd (Jy .not v4) fun v5=>some (Vm false o v5 h0 none)) (Zd (Zc .eql .prim (AV.ro x1) (.int .i64 25)) fun v6=>ifK v6 (ifK v6 (ldF h0 0 (.ptr (o).length 0) fun v8=>some (Vm false o v8 h0 none)) (QV (K Zc9 [(AV.ro x1)] h0) fun v9 h10 f11=>Zd (Zc .geq .prim (AV.ro v9) (.int .i64 0)) fun v12=>some (Vm false o v12 h10 (Zf o.length none f11)))) (Zd (Zc .eql .prim (AV.ro x1) (.int .i64 26)) fun v13=>ifK v13 (ldF h0 0 (.ptr (o).length 0) fun v15=>some (Vm false o v15 h0 none)) (QV (K Zc9 [(AV.ro x1)] h0) fun v16 h17 f18=>Zd (Zc .geq .prim (AV.ro v16) (.int .i64 0)) fun v19=>some (Vm false o v19 h17 (Zf o.length none f18)))))
theorem ZgF {C:Cfg}{x0 x1:AV}:RunT C FX ZcF [x0,x1] (fun K=>Zda C.G K C.L x0 x1):=runT (P := ZkI) rfl fun _ _=>by kernel_rfl
def ZpO (G:GT)(K:KT)(L:Nat)(x0:AV)(o:HP):KR :=
  Zd (Zc .eql .prim (AV.ro x0) (.int .i64 1)) fun v0=>VT v0 false (Zd (Zc .eql .prim (AV.ro x0) (.int .i64 2)) fun v1=>some (v1,o,none)) (some (.bool true)) o none fun v2 h3 f4=>VT (AV.ro v2) false (Zd (Zc .eql .prim (AV.ro x0) (.int .i64 3)) fun v5=>some (v5,h3,f4)) (some (.bool true)) h3 f4 fun v6 h7 f8=>VT (AV.ro v6) false (Zd (Zc .eql .prim (AV.ro x0) (.int .i64 4)) fun v9=>some (v9,h7,f8)) (some (.bool true)) h7 f8 fun v10 h11 f12=>ifK (AV.ro v10) (Wl o (.int .i64 0) h11 f12) (Zd (Zc .geq .prim (AV.ro x0) (.int .i64 5)) fun v13=>VT v13 true (Zd (Zc .leq .prim (AV.ro x0) (.int .i64 8)) fun v14=>some (v14,h11,f12)) (some (.bool false)) h11 f12 fun v15 h16 f17=>ifK (AV.ro v15) (Wl o (.int .i64 1) h16 f17) (Zd (Zc .geq .prim (AV.ro x0) (.int .i64 9)) fun v18=>VT v18 true (Zd (Zc .leq .prim (AV.ro x0) (.int .i64 21)) fun v19=>some (v19,h16,f17)) (some (.bool false)) h16 f17 fun v20 h21 f22=>ifK (AV.ro v20) (Wl o (.int .i64 2) h21 f22) (Zd (Zc .geq .prim (AV.ro x0) (.int .i64 22)) fun v23=>VT v23 true (Zd (Zc .leq .prim (AV.ro x0) (.int .i64 26)) fun v24=>some (v24,h21,f22)) (some (.bool false)) h21 f22 fun v25 h26 f27=>ifK (AV.ro v25) (Wl o (.int .i64 0) h26 f27) (Wl o (.int .i64 (-1)) h26 f27))))
theorem Zus {C:Cfg}{x0:AV}:RunT C Zc9 Zps [x0] (fun K=>ZpO C.G K C.L x0):=runT (P := ZxC) rfl fun _ _=>by kernel_rfl
def Zdb (G:GT)(K:KT)(L:Nat)(x0 x1:AV)(o:HP):KR :=
  Zd (MN 1 (AV.ro x0)) fun v1=>UK (o ++ [.cells v1 Py]) fun h0=>Zd (Zc .eql .prim (AV.ro x1) (.int .i64 3)) fun v2=>VT v2 false (QV (K Zcm [(AV.ro x1)] h0) fun v3 h4 f5=>VT (AV.ro v3) true (ldF h4 0 (.ptr (o).length 0) fun v7=>Zd (Jy .not v7) fun v8=>some (v8,h4,(Zf o.length none f5))) (some (.bool false)) h4 (Zf o.length none f5) fun v9 h10 f11=>some ((AV.ro v9),h10,f11)) (some (.bool true)) h0 none fun v12 h13 f14=>some (Vm false o v12 h13 f14)
theorem ZgG {C:Cfg}{x0 x1:AV}:RunT C Pz ZcG [x0,x1] (fun K=>Zdb C.G K C.L x0 x1):=runT (P := ZkJ) rfl fun _ _=>by kernel_rfl
def Zb9 (G:GT)(K:KT)(L:Nat)(x0 x1:AV)(o:HP):KR :=
  Zd (MN 1 (AV.ro x0)) fun v1=>UK (o ++ [.cells v1 Py]) fun h0=>Zd (Zc .eql .prim (AV.ro x1) (.int .i64 2)) fun v2=>ifK v2 (some (Vm false o (.tup [(AV.nm (.int .i64 0)),(AV.nm (.int .i64 1)),(AV.nm (.bool true))]) h0 none)) (Zd (Zc .eql .prim (AV.ro x1) (.int .i64 25)) fun v3=>ifK v3 (some (Vm false o (.tup [(AV.nm (.int .i64 0)),(AV.nm (.int .i64 15)),(AV.nm (.bool true))]) h0 none)) (Zd (Zc .eql .prim (AV.ro x1) (.int .i64 26)) fun v4=>ifK v4 (some (Vm false o (.tup [(AV.nm (.int .i64 0)),(AV.nm (.int .i64 31)),(AV.nm (.bool true))]) h0 none)) (QV (K Zcm [(AV.ro x1)] h0) fun v5 h6 f7=>VT (AV.ro v5) true (ldF h6 0 (.ptr (o).length 0) fun v9=>some (v9,h6,(Zf o.length none f7))) (some (.bool false)) h6 (Zf o.length none f7) fun v10 h11 f12=>ifK (AV.ro v10) (some (Vm false o (.tup [(AV.nm (.int .i64 0)),(AV.nm (.int .i64 63)),(AV.nm (.bool true))]) h11 f12)) (some (Vm false o (.tup [(AV.nm (.int .i64 0)),(AV.nm (.int .i64 0)),(AV.nm (.bool false))]) h11 f12)))))
theorem Zfo {C:Cfg}{x0 x1:AV}:RunT C SY Zb2 [x0,x1] (fun K=>Zb9 C.G K C.L x0 x1):=runT (P := Zig) rfl fun _ _=>by kernel_rfl
def Zlw (G:GT)(K:KT)(L:Nat)(x0:AV)(o:HP):KR :=
  Zd (Zc .geq .prim (AV.ro x0) (.int .i64 22)) fun v0=>VT v0 true (Zd (Zc .leq .prim (AV.ro x0) (.int .i64 24)) fun v1=>some (v1,o,none)) (some (.bool false)) o none fun v2 h3 f4=>some (Vm false o v2 h3 f4)
theorem Zqw {C:Cfg}{x0:AV}:RunT C Zcm ZkT [x0] (fun K=>Zlw C.G K C.L x0):=runT (P := ZuA) rfl fun _ _=>by kernel_rfl
end Go.Proofs.YtlmfmmclnboglaaGreat
end
section
namespace Go.Proofs.YtlmfmmclnboglaaGreat
open Go Go.RowKit Go.Proofs.YtlmfmmclnboglaaGreat.Abs
open Nat (reduceAdd reduceLeDiff)
set_option maxRecDepth 100000
def cT (f:FuncId):Option AFn:=(tab.find? (·.1 == f)).map (·.2)
structure I8 (C:Cfg):Prop where
 T:C.T=cT
 L:9223372036854775808≤C.L
 G:∀ (n:Int) (hp:List Z5),0≤n→n≤1000→C.T Ug=none∧C.O Ug [.own 2 [],.int .i64 n] hp=some (.own 2 [],hp,none)
def nameOf:List AV→List UInt8
 | .str s :: _=>s
 | _=>[]
def isN (name:List UInt8)(r:List AV):Bool:=decide (nameOf r=name)
def Sm (p:List AV→Bool):List (List AV)→Nat→Int
 | [],_=>-1
 | r :: rs,i=>if p r=true then (i:Int) else Sm p rs (i + 1)
def Zmu (W:Nat)(rows:List (List AV)):Prop:=rows.length≤8796093022208∧∀ r ∈ rows,r.length=W∧r.map AV.ro=r∧r=.str (nameOf r) :: r.tail
theorem Zpj (K:FuncId→List AV→List Z5→KR)(f:FuncId)(c:List AV)(args:List AV)(hp:List Z5):Uo K (.fn f [] c) args hp=K f (args ++ c.map AV.nm) hp:=rfl
section
variable {C:Cfg}(hC:I8 C)
include hC
theorem Tf (n:Nat)(hp0:List Z5)(fv:AV)(p:List AV→Bool)(rows:List (List AV))(hl:rows.length≤4611686018427387)(hrow:∀ r ∈ rows,r.length=13∧r.map AV.ro=r)(hf:∀ r ∈ rows,Uo (Za C n) fv [.agg r] hp0=some (.bool (p r),hp0,none)):∀ (r q:List (List AV)) (m:Nat),rows=q ++ r→r.length < m →
  Y9 C.G (Za C n) C.L hp0 (Q3 C.G (Za C n) C.L hp0) m (.lst 13 rows) fv (.int .i64 rows.length) (.int .i64 q.length) hp0 none=some (.int .i64 (Sm p r q.length),hp0,none)
 | _,_,0,_,h=>by omega
 | [],q,m + 1,hs,_=>by
  have hlen:(rows.length:Int)=q.length:=by rw [hs]; simp
  simp only [Y9,Q3,EVQ,hlen,Int.lt_irrefl,decide_false,Bool.false_eq_true,if_false,Sm]
 | x :: r,q,m + 1,hs,hm=>by
  have hlen:(rows.length:Int)=q.length + (r.length + 1):=by rw [hs]; simp
  have hlt:(q.length:Int) < q.length + (r.length + 1):=by omega
  have hql:q.length + (r.length + 1)≤4611686018427387:=by rw [hs] at hl; simpa using hl
  have hg:rows[q.length]? = some x:=by rw [hs]; simp
  have hmem:x ∈ rows:=by rw [hs]; simp
  obtain ⟨w1,w2⟩:=hrow x hmem
  have hro:(x.take 13).map AV.ro=x:=by rw [List.take_of_length_le (by omega),w2]
  have hc:=hf x hmem
  have ih:=Tf n hp0 fv p rows hl hrow hf r (q ++ [x]) m (by rw [hs]; simp) (by simpa using hm)
  simp only [List.length_append,List.length_cons,List.length_nil,Nat.zero_add] at ih
  rw [hlen] at ih ⊢
  have hwr:=SE q.length (by omega)
  have hld:=Zq8 hp0 13 x (by omega)
  cases hpx:p x with
  | true =>
   rw [hpx] at hc
   simp only [Y9,EVQ,hlt,decide_true,if_true,Qu,hg,hld,hro,hc,Sm,hpx]
  | false =>
   rw [hpx] at hc
   simp only [Y9,EVQ,hlt,decide_true,if_true,Qu,hg,hld,hro,hc,Sm,hpx,Bool.false_eq_true,if_false,hwr]
   exact ih
theorem Za5 (n:Nat)(hp:List Z5)(f:FuncId)(c:List AV)(p:List AV→Bool)(rows:List (List AV))(hl:rows.length≤4611686018427387)(hrow:∀ r ∈ rows,r.length=13∧r.map AV.ro=r)(hf:∀ r ∈ rows,Za C n f ([.agg r] ++ c.map AV.nm) hp=some (.bool (p r),hp,none)) :
  Za C (n + 1) Jr [.lst 13 rows,.fn f [] c] hp=some (.int .i64 (Sm p rows 0),hp,none):=by
 refine BI (by rw [hC.T]; rfl) ?_
 have h:=Tf hC n hp (.fn f [] c) p rows hl hrow (fun r hr=>by rw [Zpj]; exact hf r hr) rows [] C.L rfl (by have:=hC.L; omega)
 simp only [Jt,EVQ]
 exact h
theorem MP (n:Nat)(hp0:List Z5)(fv:AV)(p:List AV→Bool)(rows:List (List AV))(hl:rows.length≤4611686018427387)(hrow:∀ r ∈ rows,r.length=4∧r.map AV.ro=r)(hf:∀ r ∈ rows,Uo (Za C n) fv [.agg r] hp0=some (.bool (p r),hp0,none)):∀ (r q:List (List AV)) (m:Nat),rows=q ++ r→r.length < m →
  YJ C.G (Za C n) C.L hp0 (QP C.G (Za C n) C.L hp0) m (.lst 4 rows) fv (.int .i64 rows.length) (.int .i64 q.length) hp0 none=some (.int .i64 (Sm p r q.length),hp0,none)
 | _,_,0,_,h=>by omega
 | [],q,m + 1,hs,_=>by
  have hlen:(rows.length:Int)=q.length:=by rw [hs]; simp
  simp only [YJ,QP,EVQ,hlen,Int.lt_irrefl,decide_false,Bool.false_eq_true,if_false,Sm]
 | x :: r,q,m + 1,hs,hm=>by
  have hlen:(rows.length:Int)=q.length + (r.length + 1):=by rw [hs]; simp
  have hlt:(q.length:Int) < q.length + (r.length + 1):=by omega
  have hql:q.length + (r.length + 1)≤4611686018427387:=by rw [hs] at hl; simpa using hl
  have hg:rows[q.length]? = some x:=by rw [hs]; simp
  have hmem:x ∈ rows:=by rw [hs]; simp
  obtain ⟨w1,w2⟩:=hrow x hmem
  have hro:(x.take 4).map AV.ro=x:=by rw [List.take_of_length_le (by omega),w2]
  have hc:=hf x hmem
  have ih:=MP n hp0 fv p rows hl hrow hf r (q ++ [x]) m (by rw [hs]; simp) (by simpa using hm)
  simp only [List.length_append,List.length_cons,List.length_nil,Nat.zero_add] at ih
  rw [hlen] at ih ⊢
  have hwr:=SE q.length (by omega)
  have hld:=Zq8 hp0 4 x (by omega)
  cases hpx:p x with
  | true =>
   rw [hpx] at hc
   simp only [YJ,EVQ,hlt,decide_true,if_true,Qu,hg,hld,hro,hc,Sm,hpx]
  | false =>
   rw [hpx] at hc
   simp only [YJ,EVQ,hlt,decide_true,if_true,Qu,hg,hld,hro,hc,Sm,hpx,Bool.false_eq_true,if_false,hwr]
   exact ih
theorem Zbm (n:Nat)(hp:List Z5)(f:FuncId)(c:List AV)(p:List AV→Bool)(rows:List (List AV))(hl:rows.length≤4611686018427387)(hrow:∀ r ∈ rows,r.length=4∧r.map AV.ro=r)(hf:∀ r ∈ rows,Za C n f ([.agg r] ++ c.map AV.nm) hp=some (.bool (p r),hp,none)) :
  Za C (n + 1) JR [.lst 4 rows,.fn f [] c] hp=some (.int .i64 (Sm p rows 0),hp,none):=by
 refine Dl (by rw [hC.T]; rfl) ?_
 have h:=MP hC n hp (.fn f [] c) p rows hl hrow (fun r hr=>by rw [Zpj]; exact hf r hr) rows [] C.L rfl (by have:=hC.L; omega)
 simp only [JV,EVQ]
 exact h
theorem O0 (n:Nat)(hp0:List Z5)(fv:AV)(p:List AV→Bool)(rows:List (List AV))(hl:rows.length≤4611686018427387)(hrow:∀ r ∈ rows,r.length=3∧r.map AV.ro=r)(hf:∀ r ∈ rows,Uo (Za C n) fv [.agg r] hp0=some (.bool (p r),hp0,none)):∀ (r q:List (List AV)) (m:Nat),rows=q ++ r→r.length < m →
  Y5 C.G (Za C n) C.L hp0 (Qq C.G (Za C n) C.L hp0) m (.lst 3 rows) fv (.int .i64 rows.length) (.int .i64 q.length) hp0 none=some (.int .i64 (Sm p r q.length),hp0,none)
 | _,_,0,_,h=>by omega
 | [],q,m + 1,hs,_=>by
  have hlen:(rows.length:Int)=q.length:=by rw [hs]; simp
  simp only [Y5,Qq,EVQ,hlen,Int.lt_irrefl,decide_false,Bool.false_eq_true,if_false,Sm]
 | x :: r,q,m + 1,hs,hm=>by
  have hlen:(rows.length:Int)=q.length + (r.length + 1):=by rw [hs]; simp
  have hlt:(q.length:Int) < q.length + (r.length + 1):=by omega
  have hql:q.length + (r.length + 1)≤4611686018427387:=by rw [hs] at hl; simpa using hl
  have hg:rows[q.length]? = some x:=by rw [hs]; simp
  have hmem:x ∈ rows:=by rw [hs]; simp
  obtain ⟨w1,w2⟩:=hrow x hmem
  have hro:(x.take 3).map AV.ro=x:=by rw [List.take_of_length_le (by omega),w2]
  have hc:=hf x hmem
  have ih:=O0 n hp0 fv p rows hl hrow hf r (q ++ [x]) m (by rw [hs]; simp) (by simpa using hm)
  simp only [List.length_append,List.length_cons,List.length_nil,Nat.zero_add] at ih
  rw [hlen] at ih ⊢
  have hwr:=SE q.length (by omega)
  have hld:=Zq8 hp0 3 x (by omega)
  cases hpx:p x with
  | true =>
   rw [hpx] at hc
   simp only [Y5,EVQ,hlt,decide_true,if_true,Qu,hg,hld,hro,hc,Sm,hpx]
  | false =>
   rw [hpx] at hc
   simp only [Y5,EVQ,hlt,decide_true,if_true,Qu,hg,hld,hro,hc,Sm,hpx,Bool.false_eq_true,if_false,hwr]
   exact ih
theorem Cc (n:Nat)(hp:List Z5)(f:FuncId)(c:List AV)(p:List AV→Bool)(rows:List (List AV))(hl:rows.length≤4611686018427387)(hrow:∀ r ∈ rows,r.length=3∧r.map AV.ro=r)(hf:∀ r ∈ rows,Za C n f ([.agg r] ++ c.map AV.nm) hp=some (.bool (p r),hp,none)) :
  Za C (n + 1) VV [.lst 3 rows,.fn f [] c] hp=some (.int .i64 (Sm p rows 0),hp,none):=by
 refine Rk (by rw [hC.T]; rfl) ?_
 have h:=O0 hC n hp (.fn f [] c) p rows hl hrow (fun r hr=>by rw [Zpj]; exact hf r hr) rows [] C.L rfl (by have:=hC.L; omega)
 simp only [Ja,EVQ]
 exact h
theorem ZmW (n:Nat)(hp:List Z5)(s name:List UInt8)(r:List AV)(hr:r.length + 1=13)(g:Nat)(hg:hp[g]? = some (.cells [.str name] Gz)) :
  Za C (n + 1) Zbu [.agg (.str s :: r),.ptr g 0] hp=some (.bool (decide (s=name)),hp,none):=by
 refine ZoB (by rw [hC.T]; rfl) ?_
 have hlt:g < hp.length:=(List.getElem?_eq_some_iff.1 hg).1
 have hg':(hp ++ [Z5.cells (.str s :: r) Zb])[g]? = some (.cells [.str name] Gz):=by rw [List.getElem?_append_left hlt]; exact hg
 have l0:Qn (hp ++ [Z5.cells (.str s :: r) Zb]) (.ptr hp.length (0 + 0))=some (.str s):=Zuz hp _ _ 0
 have l1:Qn (hp ++ [Z5.cells (.str s :: r) Zb]) (.ptr g 0)=some (.str name):=IB hg' 0
 simp only [Zjv,EVQ,Zea 13 (.str s :: r) (by simpa using hr),l0,l1]
theorem ZiP (n:Nat)(hp:List Z5)(s name:List UInt8)(r:List AV)(hr:r.length + 1=4)(g:Nat)(hg:hp[g]? = some (.cells [.str name] Gz)) :
  Za C (n + 1) EQ [.agg (.str s :: r),.ptr g 0] hp=some (.bool (decide (s=name)),hp,none):=by
 refine ZkD (by rw [hC.T]; rfl) ?_
 have hlt:g < hp.length:=(List.getElem?_eq_some_iff.1 hg).1
 have hg':(hp ++ [Z5.cells (.str s :: r) Wn])[g]? = some (.cells [.str name] Gz):=by rw [List.getElem?_append_left hlt]; exact hg
 have l0:Qn (hp ++ [Z5.cells (.str s :: r) Wn]) (.ptr hp.length (0 + 0))=some (.str s):=Zuz hp _ _ 0
 have l1:Qn (hp ++ [Z5.cells (.str s :: r) Wn]) (.ptr g 0)=some (.str name):=IB hg' 0
 simp only [ZeG,EVQ,Zea 4 (.str s :: r) (by simpa using hr),l0,l1]
theorem ZnJ (n:Nat)(hp0:List Z5)(name:List UInt8)(rows:List (List AV))(hl:rows.length≤4611686018427387)(hrow:∀ r ∈ rows,r=[.str (nameOf r)]):∀ (r q:List (List AV)) (m:Nat),rows=q ++ r→r.length < m →
  Q9 C.G (Za C n) C.L hp0 (Jb C.G (Za C n) C.L hp0) m (.lst 1 rows) (.str name) (.int .i64 rows.length) (.int .i64 q.length) hp0 none=some (.int .i64 (Sm (isN name) r q.length),hp0,none)
 | _,_,0,_,h=>by omega
 | [],q,m + 1,hs,_=>by
  have hlen:(rows.length:Int)=q.length:=by rw [hs]; simp
  simp only [Q9,Jb,EVQ,hlen,Int.lt_irrefl,decide_false,Bool.false_eq_true,if_false,Sm]
 | x :: r,q,m + 1,hs,hm=>by
  have hlen:(rows.length:Int)=q.length + (r.length + 1):=by rw [hs]; simp
  have hlt:(q.length:Int) < q.length + (r.length + 1):=by omega
  have hql:q.length + (r.length + 1)≤4611686018427387:=by rw [hs] at hl; simpa using hl
  have hx:=hrow x (by rw [hs]; simp)
  have hg:rows[q.length]? = some [.str (nameOf x)]:=by rw [← hx,hs]; simp
  have ih:=ZnJ n hp0 name rows hl hrow r (q ++ [x]) m (by rw [hs]; simp) (by simpa using hm)
  simp only [List.length_append,List.length_cons,List.length_nil,Nat.zero_add] at ih
  rw [hlen] at ih ⊢
  have hwr:=SE q.length (by omega)
  by_cases hn:nameOf x=name
  ·have hp1:isN name x=true:=by simp [isN,hn]
   simp only [Q9,EVQ,hlt,decide_true,if_true,Qu,hg,hn,Sm,hp1]
  ·have hp1:isN name x=false:=by simp [isN,hn]
   have hn':¬ name=nameOf x:=fun e=>hn e.symm
   simp only [Q9,EVQ,hlt,decide_true,if_true,Qu,hg,hn',decide_false,Sm,hp1,Bool.false_eq_true,if_false,hwr]
   exact ih
theorem Z4I (n:Nat)(hp:List Z5)(name:List UInt8)(rows:List (List AV))(hl:rows.length≤4611686018427387)(hrow:∀ r ∈ rows,r=[.str (nameOf r)]) :
  Za C (n + 1) OA [.lst 1 rows,.str name] hp=some (.int .i64 (Sm (isN name) rows 0),hp,none):=by
 refine ZaL (by rw [hC.T]; rfl) ?_
 have h:=ZnJ hC n hp name rows hl hrow rows [] C.L rfl (by have:=hC.L; omega)
 simp only [OQ,EVQ]
 exact h
end
end Go.Proofs.YtlmfmmclnboglaaGreat
end
section
namespace Go.Proofs.YtlmfmmclnboglaaGreat
open Go Go.RowKit Go.Proofs.YtlmfmmclnboglaaGreat.Abs
open Nat (reduceAdd reduceLeDiff)
set_option maxRecDepth 100000
structure Zi4 where
 name:List UInt8
 vars:List (List AV)
 res:List (List AV)
 stores:List (List AV)
 belts:List (List AV)
 queues:List (List AV)
 streams:List (List AV)
 tallies:List (List AV)
 levels:List (List AV)
 counts:List (List AV)
 routines:List (List AV)
 starts:List (List AV)
 laws:List (List AV)
def Rz (s:Zi4):List AV:=[.str s.name,.lst 3 s.vars,.lst 17 s.res,.lst 3 s.stores,.lst 3 s.belts,.lst 1 s.queues,.lst 1 s.streams,.lst 1 s.tallies,.lst 1 s.levels,.lst 1 s.counts,.lst 4 s.routines,.lst 5 s.starts,.lst 3 s.laws]
structure ZkR (s:Zi4):Prop where
 vars:Zmu 3 s.vars
 res:Zmu 17 s.res
 stores:Zmu 3 s.stores
 belts:Zmu 3 s.belts
 queues:Zmu 1 s.queues
 streams:Zmu 1 s.streams
 tallies:Zmu 1 s.tallies
 levels:Zmu 1 s.levels
 counts:Zmu 1 s.counts
 routines:Zmu 4 s.routines
 starts:s.starts.length≤8796093022208
 laws:s.laws.length≤8796093022208
def nm1 (r:List AV):List AV:=[.str (nameOf r)]
theorem Zmk {rows:List (List AV)}(h:Zmu 1 rows):rows.map nm1=rows∧∀ r ∈ rows,r=[.str (nameOf r)]:=by
 have key:∀ r ∈ rows,r=[.str (nameOf r)]:=fun r hr=>by
  obtain ⟨h1,h2,h3⟩:=h.2 r hr
  have:r.tail=[]:=by
   rw [h3] at h1
   exact List.eq_nil_of_length_eq_zero (by simpa using h1)
  rw [this] at h3; exact h3
 refine ⟨?_,key⟩
 have:rows.map nm1=rows.map id:=List.map_congr_left fun r hr=>(key r hr).symm
 simpa using this
def kinds (s:Zi4):List (List UInt8×List (List AV)):=[([118,97,114],s.vars),([114,101,115,111,117,114,99,101],s.res),([115,116,111,114,101],s.stores),([98,101,108,116],s.belts),([113,117,101,117,101],s.queues),([115,116,114,101,97,109],s.streams),([116,97,108,108,121],s.tallies),([108,101,118,101,108],s.levels),([99,111,117,110,116],s.counts),([114,111,117,116,105,110,101],s.routines)]
def Zt7 (s:Zi4):List (List (List AV)):=(kinds s).map fun p=>p.2.map nm1
theorem Z0i (s:List UInt8):MN 1 (.str s)=some [.str s]:=rfl
theorem Zq5 (k g n:Nat)(i:Nat)(h:i < n):Y4 (.slice k) (.arr g 0 n k) (.int .i64 i)=some (.ptr g (i * k)):=by simp [Y4,h]
theorem ZlV (bs:Nat)(h:List Z5)(cs:List AV)(t:TypeId)(o:Nat)(v:AV)(ef:Eff)(hv:cs[o]? = some v)(hb:bs≤h.length)(hu:v.up=v:=by rfl):Z2N bs (.ptr h.length o) (h ++ [.cells cs t]) ef=some (v,h ++ [.cells (cs.set o v.ro) t],ef):=by
 have e:=Wj h (.cells cs t)
 simp only [Z2N,e,hv,Zpl,hu]
 have:Zd1 bs ef h.length 0=ef:=by simp [Zd1]; omega
 rw [this]
theorem Zi3 (bs:Nat)(h:List Z5)(cs:List AV)(t:TypeId)(o:Nat)(v:AV)(ef:Eff)(h1:v.one=true)(h2:o < cs.length)(hb:bs≤h.length):Zph bs (.ptr h.length o) v (h ++ [.cells cs t]) ef=some (h ++ [.cells (cs.set o v) t],ef):=by
 have e:=Wj h (.cells cs t)
 simp only [Zph,e,Zpl]
 have:Zd1 bs ef h.length 0=ef:=by simp [Zd1]; omega
 simp [h1,h2,this]
theorem Zq9 (e:TypeId)(s:List UInt8)(hp:List Z5):ZoA e 1 [.str s] hp=some (.own 1 [[.str s]],hp):=rfl
theorem Zpx (r:List (List AV))(s:List UInt8)(hp:List Z5)(h:r.length + 1≤8796093022208):Z0b 1 16 (.own 1 r) (.lst 1 [[.str s]]) hp=some (.own 1 (r ++ [[.str s]])):=by
 have:(r.length + 1) * 16≤140737488355328:=by omega
 simp [Z0b,rowsOf,AV.noId1,this]
section
variable {C:Cfg}(hC:I8 C)
include hC
theorem Ztv (K:FuncId→List AV→List Z5→KR)(hp0:List Z5)(k0:AV→AV→AV→List Z5→Eff→KR)(y3:AV)(s:Zi4)(hs:ZkR s):∀ (r q:List (List AV)) (m:Nat) (O:List AV),s.vars=q ++ r→r.length < m→O.length=10→O[0]? = some (.own 1 (q.map nm1)) →
  BO C.G K C.L hp0 k0 m (.ptr hp0.length 0) (.arr (hp0.length + 1) 0 10 1) y3 (.int .i64 q.length) ((hp0 ++ [Z5.cells (Rz s) Zb]) ++ [.cells O QW]) none =
   k0 (.ptr hp0.length 0) (.arr (hp0.length + 1) 0 10 1) y3 ((hp0 ++ [Z5.cells (Rz s) Zb]) ++ [.cells (O.set 0 (.own 1 (s.vars.map nm1))) QW]) none
 | _,_,0,_,_,h,_,_=>by omega
 | [],q,m + 1,O,hr,_,hO,hq=>by
  have hlen:(s.vars.length:Int)=q.length:=by rw [hr]; simp
  have lf:∀ X:List AV,Qn ((hp0 ++ [Z5.cells (Rz s) Zb]) ++ [.cells X QW]) (.ptr hp0.length (0 + 1))=some (.lst 3 s.vars):=fun X=>IB (g := hp0.length) (cs := Rz s) (t := Zb) (by rw [List.getElem?_append_left (by simp)]; exact Wj _ _) 1
  have he:O.set 0 (.own 1 (s.vars.map nm1))=O:=by
   rw [hr,List.append_nil]
   refine List.ext_getElem? fun i=>?_
   rw [List.getElem?_set]
   split
   ·rename_i e; subst e; rw [if_pos (by omega),hq]
   ·rfl
  rw [he]
  simp only [BO,EVQ,lf,hlen,Int.lt_irrefl,decide_false,Bool.false_eq_true,if_false]
 | x :: r,q,m + 1,O,hr,hm,hO,hq=>by
  have hlen:(s.vars.length:Int)=q.length + (r.length + 1):=by rw [hr]; simp
  have hlt:(q.length:Int) < q.length + (r.length + 1):=by omega
  have hql:q.length + (r.length + 1)≤8796093022208:=by have:=hs.vars.1; rw [hr] at this; simpa using this
  have hg:s.vars[q.length]? = some x:=by rw [hr]; simp
  have hx:=(hs.vars.2 x (by rw [hr]; simp)).2.2
  have lf:∀ X:List AV,Qn ((hp0 ++ [Z5.cells (Rz s) Zb]) ++ [.cells X QW]) (.ptr hp0.length (0 + 1))=some (.lst 3 s.vars):=fun X=>IB (g := hp0.length) (cs := Rz s) (t := Zb) (by rw [List.getElem?_append_left (by simp)]; exact Wj _ _) 1
  have hh:(hp0 ++ [Z5.cells (Rz s) Zb]).length=hp0.length + 1:=by simp
  have hia:Y4 (.slice 1) (.arr (hp0.length + 1) 0 10 1) (.int .i64 0)=some (.ptr (hp0 ++ [Z5.cells (Rz s) Zb]).length 0):=by rw [hh]; exact Zq5 1 (hp0.length + 1) 10 0 (by omega)
  have hld:=ZlV hp0.length (hp0 ++ [Z5.cells (Rz s) Zb]) O QW 0 _ none hq (by simp)
  have hst:=fun (X:List AV) (hX:X.length=10)=>Zi3 hp0.length (hp0 ++ [Z5.cells (Rz s) Zb]) X QW 0 (.own 1 (q.map nm1 ++ [[.str (nameOf x)]])) none rfl (by omega) (by simp)
  have hap:=fun hp=>Zpx (q.map nm1) (nameOf x) hp (by simp; omega)
  have lx:∀ hp,Qn hp (.ref (x.drop 0))=some (.str (nameOf x)):=fun hp=>by rw [hx]; rfl
  have ih:=Ztv K hp0 k0 y3 s hs r (q ++ [x]) m (O.set 0 (.own 1 (q.map nm1 ++ [[.str (nameOf x)]]))) (by rw [hr]; simp) (by simpa using hm) (by simpa using hO) (by rw [List.getElem?_set_self (by omega)]; simp [nm1])
  simp only [List.length_append,List.length_cons,List.length_nil,Nat.zero_add,List.set_set] at ih
  have hwr:=SE q.length (by omega)
  simp only [BO,EVQ,lf,hlen,hlt,decide_true,if_true,hia,hld,Qu,hg,lx,Zq9,hap,hst (O.set 0 (.lst 1 (q.map nm1))) (by simpa using hO),List.set_set,hwr,ih]
theorem Ztw (K:FuncId→List AV→List Z5→KR)(hp0:List Z5)(k0:AV→AV→AV→List Z5→Eff→KR)(y3:AV)(s:Zi4)(hs:ZkR s):∀ (r q:List (List AV)) (m:Nat) (O:List AV),s.res=q ++ r→r.length < m→O.length=10→O[1]? = some (.own 1 (q.map nm1)) →
  BP C.G K C.L hp0 k0 m (.ptr hp0.length 0) (.arr (hp0.length + 1) 0 10 1) y3 (.int .i64 q.length) ((hp0 ++ [Z5.cells (Rz s) Zb]) ++ [.cells O QW]) none =
   k0 (.ptr hp0.length 0) (.arr (hp0.length + 1) 0 10 1) y3 ((hp0 ++ [Z5.cells (Rz s) Zb]) ++ [.cells (O.set 1 (.own 1 (s.res.map nm1))) QW]) none
 | _,_,0,_,_,h,_,_=>by omega
 | [],q,m + 1,O,hr,_,hO,hq=>by
  have hlen:(s.res.length:Int)=q.length:=by rw [hr]; simp
  have lf:∀ X:List AV,Qn ((hp0 ++ [Z5.cells (Rz s) Zb]) ++ [.cells X QW]) (.ptr hp0.length (0 + 2))=some (.lst 17 s.res):=fun X=>IB (g := hp0.length) (cs := Rz s) (t := Zb) (by rw [List.getElem?_append_left (by simp)]; exact Wj _ _) 2
  have he:O.set 1 (.own 1 (s.res.map nm1))=O:=by
   rw [hr,List.append_nil]
   refine List.ext_getElem? fun i=>?_
   rw [List.getElem?_set]
   split
   ·rename_i e; subst e; rw [if_pos (by omega),hq]
   ·rfl
  rw [he]
  simp only [BP,EVQ,lf,hlen,Int.lt_irrefl,decide_false,Bool.false_eq_true,if_false]
 | x :: r,q,m + 1,O,hr,hm,hO,hq=>by
  have hlen:(s.res.length:Int)=q.length + (r.length + 1):=by rw [hr]; simp
  have hlt:(q.length:Int) < q.length + (r.length + 1):=by omega
  have hql:q.length + (r.length + 1)≤8796093022208:=by have:=hs.res.1; rw [hr] at this; simpa using this
  have hg:s.res[q.length]? = some x:=by rw [hr]; simp
  have hx:=(hs.res.2 x (by rw [hr]; simp)).2.2
  have lf:∀ X:List AV,Qn ((hp0 ++ [Z5.cells (Rz s) Zb]) ++ [.cells X QW]) (.ptr hp0.length (0 + 2))=some (.lst 17 s.res):=fun X=>IB (g := hp0.length) (cs := Rz s) (t := Zb) (by rw [List.getElem?_append_left (by simp)]; exact Wj _ _) 2
  have hh:(hp0 ++ [Z5.cells (Rz s) Zb]).length=hp0.length + 1:=by simp
  have hia:Y4 (.slice 1) (.arr (hp0.length + 1) 0 10 1) (.int .i64 1)=some (.ptr (hp0 ++ [Z5.cells (Rz s) Zb]).length 1):=by rw [hh]; exact Zq5 1 (hp0.length + 1) 10 1 (by omega)
  have hld:=ZlV hp0.length (hp0 ++ [Z5.cells (Rz s) Zb]) O QW 1 _ none hq (by simp)
  have hst:=fun (X:List AV) (hX:X.length=10)=>Zi3 hp0.length (hp0 ++ [Z5.cells (Rz s) Zb]) X QW 1 (.own 1 (q.map nm1 ++ [[.str (nameOf x)]])) none rfl (by omega) (by simp)
  have hap:=fun hp=>Zpx (q.map nm1) (nameOf x) hp (by simp; omega)
  have lx:∀ hp,Qn hp (.ref (x.drop 0))=some (.str (nameOf x)):=fun hp=>by rw [hx]; rfl
  have ih:=Ztw K hp0 k0 y3 s hs r (q ++ [x]) m (O.set 1 (.own 1 (q.map nm1 ++ [[.str (nameOf x)]]))) (by rw [hr]; simp) (by simpa using hm) (by simpa using hO) (by rw [List.getElem?_set_self (by omega)]; simp [nm1])
  simp only [List.length_append,List.length_cons,List.length_nil,Nat.zero_add,List.set_set] at ih
  have hwr:=SE q.length (by omega)
  simp only [BP,EVQ,lf,hlen,hlt,decide_true,if_true,hia,hld,Qu,hg,lx,Zq9,hap,hst (O.set 1 (.lst 1 (q.map nm1))) (by simpa using hO),List.set_set,hwr,ih]
theorem Ztx (K:FuncId→List AV→List Z5→KR)(hp0:List Z5)(k0:AV→AV→AV→List Z5→Eff→KR)(y3:AV)(s:Zi4)(hs:ZkR s):∀ (r q:List (List AV)) (m:Nat) (O:List AV),s.stores=q ++ r→r.length < m→O.length=10→O[2]? = some (.own 1 (q.map nm1)) →
  BQ C.G K C.L hp0 k0 m (.ptr hp0.length 0) (.arr (hp0.length + 1) 0 10 1) y3 (.int .i64 q.length) ((hp0 ++ [Z5.cells (Rz s) Zb]) ++ [.cells O QW]) none =
   k0 (.ptr hp0.length 0) (.arr (hp0.length + 1) 0 10 1) y3 ((hp0 ++ [Z5.cells (Rz s) Zb]) ++ [.cells (O.set 2 (.own 1 (s.stores.map nm1))) QW]) none
 | _,_,0,_,_,h,_,_=>by omega
 | [],q,m + 1,O,hr,_,hO,hq=>by
  have hlen:(s.stores.length:Int)=q.length:=by rw [hr]; simp
  have lf:∀ X:List AV,Qn ((hp0 ++ [Z5.cells (Rz s) Zb]) ++ [.cells X QW]) (.ptr hp0.length (0 + 3))=some (.lst 3 s.stores):=fun X=>IB (g := hp0.length) (cs := Rz s) (t := Zb) (by rw [List.getElem?_append_left (by simp)]; exact Wj _ _) 3
  have he:O.set 2 (.own 1 (s.stores.map nm1))=O:=by
   rw [hr,List.append_nil]
   refine List.ext_getElem? fun i=>?_
   rw [List.getElem?_set]
   split
   ·rename_i e; subst e; rw [if_pos (by omega),hq]
   ·rfl
  rw [he]
  simp only [BQ,EVQ,lf,hlen,Int.lt_irrefl,decide_false,Bool.false_eq_true,if_false]
 | x :: r,q,m + 1,O,hr,hm,hO,hq=>by
  have hlen:(s.stores.length:Int)=q.length + (r.length + 1):=by rw [hr]; simp
  have hlt:(q.length:Int) < q.length + (r.length + 1):=by omega
  have hql:q.length + (r.length + 1)≤8796093022208:=by have:=hs.stores.1; rw [hr] at this; simpa using this
  have hg:s.stores[q.length]? = some x:=by rw [hr]; simp
  have hx:=(hs.stores.2 x (by rw [hr]; simp)).2.2
  have lf:∀ X:List AV,Qn ((hp0 ++ [Z5.cells (Rz s) Zb]) ++ [.cells X QW]) (.ptr hp0.length (0 + 3))=some (.lst 3 s.stores):=fun X=>IB (g := hp0.length) (cs := Rz s) (t := Zb) (by rw [List.getElem?_append_left (by simp)]; exact Wj _ _) 3
  have hh:(hp0 ++ [Z5.cells (Rz s) Zb]).length=hp0.length + 1:=by simp
  have hia:Y4 (.slice 1) (.arr (hp0.length + 1) 0 10 1) (.int .i64 2)=some (.ptr (hp0 ++ [Z5.cells (Rz s) Zb]).length 2):=by rw [hh]; exact Zq5 1 (hp0.length + 1) 10 2 (by omega)
  have hld:=ZlV hp0.length (hp0 ++ [Z5.cells (Rz s) Zb]) O QW 2 _ none hq (by simp)
  have hst:=fun (X:List AV) (hX:X.length=10)=>Zi3 hp0.length (hp0 ++ [Z5.cells (Rz s) Zb]) X QW 2 (.own 1 (q.map nm1 ++ [[.str (nameOf x)]])) none rfl (by omega) (by simp)
  have hap:=fun hp=>Zpx (q.map nm1) (nameOf x) hp (by simp; omega)
  have lx:∀ hp,Qn hp (.ref (x.drop 0))=some (.str (nameOf x)):=fun hp=>by rw [hx]; rfl
  have ih:=Ztx K hp0 k0 y3 s hs r (q ++ [x]) m (O.set 2 (.own 1 (q.map nm1 ++ [[.str (nameOf x)]]))) (by rw [hr]; simp) (by simpa using hm) (by simpa using hO) (by rw [List.getElem?_set_self (by omega)]; simp [nm1])
  simp only [List.length_append,List.length_cons,List.length_nil,Nat.zero_add,List.set_set] at ih
  have hwr:=SE q.length (by omega)
  simp only [BQ,EVQ,lf,hlen,hlt,decide_true,if_true,hia,hld,Qu,hg,lx,Zq9,hap,hst (O.set 2 (.lst 1 (q.map nm1))) (by simpa using hO),List.set_set,hwr,ih]
theorem Zty (K:FuncId→List AV→List Z5→KR)(hp0:List Z5)(k0:AV→AV→AV→List Z5→Eff→KR)(y3:AV)(s:Zi4)(hs:ZkR s):∀ (r q:List (List AV)) (m:Nat) (O:List AV),s.belts=q ++ r→r.length < m→O.length=10→O[3]? = some (.own 1 (q.map nm1)) →
  BR C.G K C.L hp0 k0 m (.ptr hp0.length 0) (.arr (hp0.length + 1) 0 10 1) y3 (.int .i64 q.length) ((hp0 ++ [Z5.cells (Rz s) Zb]) ++ [.cells O QW]) none =
   k0 (.ptr hp0.length 0) (.arr (hp0.length + 1) 0 10 1) y3 ((hp0 ++ [Z5.cells (Rz s) Zb]) ++ [.cells (O.set 3 (.own 1 (s.belts.map nm1))) QW]) none
 | _,_,0,_,_,h,_,_=>by omega
 | [],q,m + 1,O,hr,_,hO,hq=>by
  have hlen:(s.belts.length:Int)=q.length:=by rw [hr]; simp
  have lf:∀ X:List AV,Qn ((hp0 ++ [Z5.cells (Rz s) Zb]) ++ [.cells X QW]) (.ptr hp0.length (0 + 4))=some (.lst 3 s.belts):=fun X=>IB (g := hp0.length) (cs := Rz s) (t := Zb) (by rw [List.getElem?_append_left (by simp)]; exact Wj _ _) 4
  have he:O.set 3 (.own 1 (s.belts.map nm1))=O:=by
   rw [hr,List.append_nil]
   refine List.ext_getElem? fun i=>?_
   rw [List.getElem?_set]
   split
   ·rename_i e; subst e; rw [if_pos (by omega),hq]
   ·rfl
  rw [he]
  simp only [BR,EVQ,lf,hlen,Int.lt_irrefl,decide_false,Bool.false_eq_true,if_false]
 | x :: r,q,m + 1,O,hr,hm,hO,hq=>by
  have hlen:(s.belts.length:Int)=q.length + (r.length + 1):=by rw [hr]; simp
  have hlt:(q.length:Int) < q.length + (r.length + 1):=by omega
  have hql:q.length + (r.length + 1)≤8796093022208:=by have:=hs.belts.1; rw [hr] at this; simpa using this
  have hg:s.belts[q.length]? = some x:=by rw [hr]; simp
  have hx:=(hs.belts.2 x (by rw [hr]; simp)).2.2
  have lf:∀ X:List AV,Qn ((hp0 ++ [Z5.cells (Rz s) Zb]) ++ [.cells X QW]) (.ptr hp0.length (0 + 4))=some (.lst 3 s.belts):=fun X=>IB (g := hp0.length) (cs := Rz s) (t := Zb) (by rw [List.getElem?_append_left (by simp)]; exact Wj _ _) 4
  have hh:(hp0 ++ [Z5.cells (Rz s) Zb]).length=hp0.length + 1:=by simp
  have hia:Y4 (.slice 1) (.arr (hp0.length + 1) 0 10 1) (.int .i64 3)=some (.ptr (hp0 ++ [Z5.cells (Rz s) Zb]).length 3):=by rw [hh]; exact Zq5 1 (hp0.length + 1) 10 3 (by omega)
  have hld:=ZlV hp0.length (hp0 ++ [Z5.cells (Rz s) Zb]) O QW 3 _ none hq (by simp)
  have hst:=fun (X:List AV) (hX:X.length=10)=>Zi3 hp0.length (hp0 ++ [Z5.cells (Rz s) Zb]) X QW 3 (.own 1 (q.map nm1 ++ [[.str (nameOf x)]])) none rfl (by omega) (by simp)
  have hap:=fun hp=>Zpx (q.map nm1) (nameOf x) hp (by simp; omega)
  have lx:∀ hp,Qn hp (.ref (x.drop 0))=some (.str (nameOf x)):=fun hp=>by rw [hx]; rfl
  have ih:=Zty K hp0 k0 y3 s hs r (q ++ [x]) m (O.set 3 (.own 1 (q.map nm1 ++ [[.str (nameOf x)]]))) (by rw [hr]; simp) (by simpa using hm) (by simpa using hO) (by rw [List.getElem?_set_self (by omega)]; simp [nm1])
  simp only [List.length_append,List.length_cons,List.length_nil,Nat.zero_add,List.set_set] at ih
  have hwr:=SE q.length (by omega)
  simp only [BR,EVQ,lf,hlen,hlt,decide_true,if_true,hia,hld,Qu,hg,lx,Zq9,hap,hst (O.set 3 (.lst 1 (q.map nm1))) (by simpa using hO),List.set_set,hwr,ih]
theorem Ztz (K:FuncId→List AV→List Z5→KR)(hp0:List Z5)(k0:AV→List Z5→Eff→KR)(y3:AV)(s:Zi4)(hs:ZkR s):∀ (r q:List (List AV)) (m:Nat) (O:List AV),s.routines=q ++ r→r.length < m→O.length=10→O[9]? = some (.own 1 (q.map nm1)) →
  BU C.G K C.L hp0 k0 m (.ptr hp0.length 0) (.arr (hp0.length + 1) 0 10 1) y3 (.int .i64 q.length) ((hp0 ++ [Z5.cells (Rz s) Zb]) ++ [.cells O QW]) none =
   k0 y3 ((hp0 ++ [Z5.cells (Rz s) Zb]) ++ [.cells (O.set 9 (.own 1 (s.routines.map nm1))) QW]) none
 | _,_,0,_,_,h,_,_=>by omega
 | [],q,m + 1,O,hr,_,hO,hq=>by
  have hlen:(s.routines.length:Int)=q.length:=by rw [hr]; simp
  have lf:∀ X:List AV,Qn ((hp0 ++ [Z5.cells (Rz s) Zb]) ++ [.cells X QW]) (.ptr hp0.length (0 + 10))=some (.lst 4 s.routines):=fun X=>IB (g := hp0.length) (cs := Rz s) (t := Zb) (by rw [List.getElem?_append_left (by simp)]; exact Wj _ _) 10
  have he:O.set 9 (.own 1 (s.routines.map nm1))=O:=by
   rw [hr,List.append_nil]
   refine List.ext_getElem? fun i=>?_
   rw [List.getElem?_set]
   split
   ·rename_i e; subst e; rw [if_pos (by omega),hq]
   ·rfl
  rw [he]
  simp only [BU,EVQ,lf,hlen,Int.lt_irrefl,decide_false,Bool.false_eq_true,if_false]
 | x :: r,q,m + 1,O,hr,hm,hO,hq=>by
  have hlen:(s.routines.length:Int)=q.length + (r.length + 1):=by rw [hr]; simp
  have hlt:(q.length:Int) < q.length + (r.length + 1):=by omega
  have hql:q.length + (r.length + 1)≤8796093022208:=by have:=hs.routines.1; rw [hr] at this; simpa using this
  have hg:s.routines[q.length]? = some x:=by rw [hr]; simp
  have hx:=(hs.routines.2 x (by rw [hr]; simp)).2.2
  have lf:∀ X:List AV,Qn ((hp0 ++ [Z5.cells (Rz s) Zb]) ++ [.cells X QW]) (.ptr hp0.length (0 + 10))=some (.lst 4 s.routines):=fun X=>IB (g := hp0.length) (cs := Rz s) (t := Zb) (by rw [List.getElem?_append_left (by simp)]; exact Wj _ _) 10
  have hh:(hp0 ++ [Z5.cells (Rz s) Zb]).length=hp0.length + 1:=by simp
  have hia:Y4 (.slice 1) (.arr (hp0.length + 1) 0 10 1) (.int .i64 9)=some (.ptr (hp0 ++ [Z5.cells (Rz s) Zb]).length 9):=by rw [hh]; exact Zq5 1 (hp0.length + 1) 10 9 (by omega)
  have hld:=ZlV hp0.length (hp0 ++ [Z5.cells (Rz s) Zb]) O QW 9 _ none hq (by simp)
  have hst:=fun (X:List AV) (hX:X.length=10)=>Zi3 hp0.length (hp0 ++ [Z5.cells (Rz s) Zb]) X QW 9 (.own 1 (q.map nm1 ++ [[.str (nameOf x)]])) none rfl (by omega) (by simp)
  have hap:=fun hp=>Zpx (q.map nm1) (nameOf x) hp (by simp; omega)
  have lx:∀ hp,Qn hp (.ref (x.drop 0))=some (.str (nameOf x)):=fun hp=>by rw [hx]; rfl
  have ih:=Ztz K hp0 k0 y3 s hs r (q ++ [x]) m (O.set 9 (.own 1 (q.map nm1 ++ [[.str (nameOf x)]]))) (by rw [hr]; simp) (by simpa using hm) (by simpa using hO) (by rw [List.getElem?_set_self (by omega)]; simp [nm1])
  simp only [List.length_append,List.length_cons,List.length_nil,Nat.zero_add,List.set_set] at ih
  have hwr:=SE q.length (by omega)
  simp only [BU,EVQ,lf,hlen,hlt,decide_true,if_true,hia,hld,Qu,hg,lx,Zq9,hap,hst (O.set 9 (.lst 1 (q.map nm1))) (by simpa using hO),List.set_set,hwr,ih]
end
end Go.Proofs.YtlmfmmclnboglaaGreat
end
section
namespace Go.Proofs.YtlmfmmclnboglaaGreat
open Go Go.RowKit Go.Proofs.YtlmfmmclnboglaaGreat.Abs
open Nat (reduceAdd reduceLeDiff)
set_option maxRecDepth 100000
theorem Z0I (bs:Nat)(h:List Z5)(ty:TypeId)(hh:h.length=bs + 1)(a b c d e f g i j k:List (List AV)) :
  frz bs (h ++ [.cells [.own 1 a,.own 1 b,.own 1 c,.own 1 d,.lst 1 e,.lst 1 f,.lst 1 g,.lst 1 i,.lst 1 j,.own 1 k] ty]) (.arr (bs + 1) 0 10 1)=some (.lst 1 [[.lst 1 a],[.lst 1 b],[.lst 1 c],[.lst 1 d],[.lst 1 e],[.lst 1 f],[.lst 1 g],[.lst 1 i],[.lst 1 j],[.lst 1 k]]):=by
 rw [← hh]
 simp only [frz,ZhZ,Zyk]
 rw [if_neg (by omega),Wj]
 simp [Zyk,chunk,AV.ro,AV.noId1]
theorem Zz9 (h:List Z5):Z2S QW [(.own 1 [])] (.int .i64 10) h=some (.arr h.length 0 10 1,h ++ [.cells [.own 1 [],.own 1 [],.own 1 [],.own 1 [],.own 1 [],.own 1 [],.own 1 [],.own 1 [],.own 1 [],.own 1 []] QW]):=rfl
section
variable {C:Cfg}(hC:I8 C)
include hC
theorem Z4L (n:Nat)(hp:List Z5)(s:Zi4)(hs:ZkR s):Za C (n + 1) ZjN [.agg (Rz s)] hp=some (.lst 1 ((Zt7 s).map fun l=>[.lst 1 l]),hp,none):=by
 refine ZuH (by rw [hC.T]; rfl) ?_
 have hL:=hC.L
 generalize Za C n=K
 have t0:=Ztv hC K hp (Fe C.G K C.L hp) (.arr (hp.length + 1) 0 10 1) s hs s.vars [] C.L [.own 1 [],.own 1 [],.own 1 [],.own 1 [],.own 1 [],.own 1 [],.own 1 [],.own 1 [],.own 1 [],.own 1 []] rfl (by have:=hs.vars.1; omega) rfl rfl
 have t2:=Ztw hC K hp (Ff C.G K C.L hp) (.arr (hp.length + 1) 0 10 1) s hs s.res [] C.L [.own 1 (s.vars.map nm1),.own 1 [],.own 1 [],.own 1 [],.own 1 [],.own 1 [],.own 1 [],.own 1 [],.own 1 [],.own 1 []] rfl (by have:=hs.res.1; omega) rfl rfl
 have t4:=Ztx hC K hp (Fg C.G K C.L hp) (.arr (hp.length + 1) 0 10 1) s hs s.stores [] C.L [.own 1 (s.vars.map nm1),.own 1 (s.res.map nm1),.own 1 [],.own 1 [],.own 1 [],.own 1 [],.own 1 [],.own 1 [],.own 1 [],.own 1 []] rfl (by have:=hs.stores.1; omega) rfl rfl
 have t6:=Zty hC K hp (Fh C.G K C.L hp) (.arr (hp.length + 1) 0 10 1) s hs s.belts [] C.L [.own 1 (s.vars.map nm1),.own 1 (s.res.map nm1),.own 1 (s.stores.map nm1),.own 1 [],.own 1 [],.own 1 [],.own 1 [],.own 1 [],.own 1 [],.own 1 []] rfl (by have:=hs.belts.1; omega) rfl rfl
 have t8:=Ztz hC K hp (Fj C.G K C.L hp) (.arr (hp.length + 1) 0 10 1) s hs s.routines [] C.L [.own 1 (s.vars.map nm1),.own 1 (s.res.map nm1),.own 1 (s.stores.map nm1),.own 1 (s.belts.map nm1),.lst 1 s.queues,.lst 1 s.streams,.lst 1 s.tallies,.lst 1 s.levels,.lst 1 s.counts,.own 1 []] rfl (by have:=hs.routines.1; omega) rfl rfl
 have hh:(hp ++ [Z5.cells (Rz s) Zb]).length=hp.length + 1:=by simp
 have lf:∀ (X:List AV) (i:Nat) (v:AV),(Rz s)[i]? = some v→Qn ((hp ++ [Z5.cells (Rz s) Zb]) ++ [.cells X QW]) (.ptr hp.length (0 + i))=some v.ro:=fun X i v hv=>by
  rw [Nat.zero_add,IB (g := hp.length) (cs := Rz s) (t := Zb) (by rw [List.getElem?_append_left (by simp)]; exact Wj _ _) i,hv]; rfl
 have hia:∀ k:Nat,k < 10→Y4 (.slice 1) (.arr (hp.length + 1) 0 10 1) (.int .i64 k)=some (.ptr (hp ++ [Z5.cells (Rz s) Zb]).length (k * 1)):=fun k hk=>by rw [hh]; exact Zq5 1 (hp.length + 1) 10 k hk
 have hia4:Y4 (.slice 1) (.arr (hp.length + 1) 0 10 1) (.int .i64 4)=some (.ptr (hp ++ [Z5.cells (Rz s) Zb]).length 4):=hia 4 (by omega)
 have hia5:Y4 (.slice 1) (.arr (hp.length + 1) 0 10 1) (.int .i64 5)=some (.ptr (hp ++ [Z5.cells (Rz s) Zb]).length 5):=hia 5 (by omega)
 have hia6:Y4 (.slice 1) (.arr (hp.length + 1) 0 10 1) (.int .i64 6)=some (.ptr (hp ++ [Z5.cells (Rz s) Zb]).length 6):=hia 6 (by omega)
 have hia7:Y4 (.slice 1) (.arr (hp.length + 1) 0 10 1) (.int .i64 7)=some (.ptr (hp ++ [Z5.cells (Rz s) Zb]).length 7):=hia 7 (by omega)
 have hia8:Y4 (.slice 1) (.arr (hp.length + 1) 0 10 1) (.int .i64 8)=some (.ptr (hp ++ [Z5.cells (Rz s) Zb]).length 8):=hia 8 (by omega)
 have hst:=fun (X:List AV) (k:Nat) (r:List (List AV)) (hk:k < X.length)=>Zi3 hp.length (hp ++ [Z5.cells (Rz s) Zb]) X QW k (.lst 1 r) none rfl hk (by simp)
 have f5:=fun X=>lf X 5 (.lst 1 s.queues) rfl
 have f6:=fun X=>lf X 6 (.lst 1 s.streams) rfl
 have f7:=fun X=>lf X 7 (.lst 1 s.tallies) rfl
 have f8:=fun X=>lf X 8 (.lst 1 s.levels) rfl
 have f9:=fun X=>lf X 9 (.lst 1 s.counts) rfl
 simp only [List.length_nil,List.set,List.map_nil] at t0 t2 t4 t6 t8
 have hz:(((0:Nat):Int))=0:=rfl
 simp only [Zkv,EVQ,Zea 13 (Rz s) rfl,Zz9,hh]
 refine Eq.trans t0 ?_
 simp only [Fe]
 refine Eq.trans t2 ?_
 simp only [Ff]
 refine Eq.trans t4 ?_
 simp only [Fg]
 refine Eq.trans t6 ?_
 simp only [Fh,EVQ,f5,f6,f7,f8,f9,hia4,hia5,hia6,hia7,hia8]
 rw [hst _ 4 _ (by simp)]
 simp only [EVQ,List.set,f6]
 rw [hst _ 5 _ (by simp)]
 simp only [EVQ,List.set,f7]
 rw [hst _ 6 _ (by simp)]
 simp only [EVQ,List.set,f8]
 rw [hst _ 7 _ (by simp)]
 simp only [EVQ,List.set,f9]
 rw [hst _ 8 _ (by simp)]
 simp only [EVQ,List.set]
 refine Eq.trans t8 ?_
 simp only [Fj,Z0D (Z0I hp.length _ QW hh _ _ _ _ _ _ _ _ _ _)]
 simp only [Zt7,kinds,List.map_cons,List.map_nil,(Zmk hs.queues).1,(Zmk hs.streams).1,(Zmk hs.tallies).1,(Zmk hs.levels).1,(Zmk hs.counts).1]
end
end Go.Proofs.YtlmfmmclnboglaaGreat
end
section
namespace Go.Proofs.YtlmfmmclnboglaaGreat
open Go Go.RowKit Go.Proofs.YtlmfmmclnboglaaGreat.Abs
open Nat (reduceAdd reduceLeDiff)
set_option maxRecDepth 100000
structure Mdl where
 name:List UInt8
 params:List (List AV)
 sites:List Zi4
 links:List (List AV)
def mrow (m:Mdl):List AV:=[.str m.name,.lst 3 m.params,.lst 13 (m.sites.map Rz),.lst 3 m.links]
structure Z5I (r:List AV):Prop where
 ex:∃ a b d,r=[.str a,.str b,.int .i64 d]
structure Z2p (m:Mdl):Prop where
 params:m.params.length≤8796093022208
 sites:m.sites.length≤8796093022208
 site:∀ s ∈ m.sites,ZkR s
 links:m.links.length≤8796093022208
 link:∀ r ∈ m.links,Z5I r
def Z52 (name:List UInt8)(m:Mdl):Int:=Sm (isN name) (m.sites.map Rz) 0
theorem Z6c {hp:List Z5}{a b:Z5}:((hp ++ [a]) ++ [b])[hp.length]? = some a:=by
 rw [List.getElem?_append_left (by simp)]; exact Wj _ _
theorem ZwH (l:List Zi4):∀ r ∈ l.map Rz,r.length=13∧r.map AV.ro=r∧r=.str (nameOf r) :: r.tail:=by
 intro r hr
 obtain ⟨s,_,rfl⟩:=List.mem_map.1 hr
 exact ⟨rfl,rfl,rfl⟩
section
variable {C:Cfg}(hC:I8 C)
include hC
theorem Z4K (n:Nat)(hp:List Z5)(m:Mdl)(name:List UInt8)(hm:Z2p m):Za C (n + 3) Zb0 [.agg (mrow m),.str name] hp=some (.int .i64 (Z52 name m),hp,none):=by
 refine Zs6 (by rw [hC.T]; rfl) ?_
 have lf:Qn ((hp ++ [Z5.cells (mrow m) Yo]) ++ [Z5.cells [.str name] Gz]) (.ptr hp.length (0 + 2))=some (.lst 13 (m.sites.map Rz)):=IB Z6c 2
 have hg:((hp ++ [Z5.cells (mrow m) Yo]) ++ [Z5.cells [.str name] Gz])[(hp ++ [Z5.cells (mrow m) Yo]).length]? = some (.cells [.str name] Gz):=Wj _ _
 have hc:=Za5 hC (n + 1) ((hp ++ [Z5.cells (mrow m) Yo]) ++ [Z5.cells [.str name] Gz]) Zbu [.ptr (hp ++ [Z5.cells (mrow m) Yo]).length 0] (isN name) (m.sites.map Rz) (by have:=hm.sites; simp; omega) (fun r hr=>let ⟨a,b,_⟩:=ZwH m.sites r hr; ⟨a,b⟩) fun r hr=>by
  obtain ⟨h1,_,h3⟩:=ZwH m.sites r hr
  have:=ZmW hC n ((hp ++ [Z5.cells (mrow m) Yo]) ++ [Z5.cells [.str name] Gz]) (nameOf r) name r.tail (by rw [h3] at h1; simpa using h1) _ hg
  rw [← h3] at this
  exact this
 simp only [ZnD,EVQ,Zea 4 (mrow m) rfl,Z0i,lf,hc]
 rfl
theorem Zzv (n:Nat)(hp:List Z5)(s:Zi4)(name:List UInt8)(hs:ZkR s):Za C (n + 3) Ec [.agg (Rz s),.str name] hp=some (.int .i64 (Sm (isN name) s.routines 0),hp,none):=by
 refine Znf (by rw [hC.T]; rfl) ?_
 have lf:Qn ((hp ++ [Z5.cells (Rz s) Zb]) ++ [Z5.cells [.str name] Gz]) (.ptr hp.length (0 + 10))=some (.lst 4 s.routines):=IB Z6c 10
 have hg:((hp ++ [Z5.cells (Rz s) Zb]) ++ [Z5.cells [.str name] Gz])[(hp ++ [Z5.cells (Rz s) Zb]).length]? = some (.cells [.str name] Gz):=Wj _ _
 have hc:=Zbm hC (n + 1) ((hp ++ [Z5.cells (Rz s) Zb]) ++ [Z5.cells [.str name] Gz]) EQ [.ptr (hp ++ [Z5.cells (Rz s) Zb]).length 0] (isN name) s.routines (by have:=hs.routines.1; omega) (fun r hr=>let ⟨a,b,_⟩:=hs.routines.2 r hr; ⟨a,b⟩) fun r hr=>by
  obtain ⟨h1,_,h3⟩:=hs.routines.2 r hr
  have:=ZiP hC n ((hp ++ [Z5.cells (Rz s) Zb]) ++ [Z5.cells [.str name] Gz]) (nameOf r) name r.tail (by rw [h3] at h1; simpa using h1) _ hg
  rw [← h3] at this
  exact this
 simp only [Zhx,EVQ,Zea 13 (Rz s) rfl,Z0i,lf,hc]
end
end Go.Proofs.YtlmfmmclnboglaaGreat
end
section
namespace Go.Proofs.YtlmfmmclnboglaaGreat
open Go Go.RowKit Go.Proofs.YtlmfmmclnboglaaGreat.Abs
open Nat (reduceAdd reduceLeDiff)
set_option maxRecDepth 100000
def Z4S (n:Int):Bool:=decide (97≤n) && decide (n≤122)
def Z4D (n:Int):Bool:=Z4S n || decide (n=95) || (decide (48≤n) && decide (n≤57))
def kws:List (List UInt8):=[[97,100,100],[97,102,116,101,114],[97,110,100],[97,116],[98,101,108,116],[98,111,111,108],[99,111,110,115,101,114,118,101],[99,111,110,115,116],[99,111,117,110,116],[99,121,99,108,101],[100,111,119,110],[100,114,97,119],[100,117,114],[101,108,115,101],[101,110,100],[101,118,101,114,121],[102,97,108,115,101],[102,97,117,108,116],[102,105,102,111],[102,114,101,101],[102,114,111,109],[103,101,111,109],[103,101,116],[104,111,108,100],[105,102],[105,110,116],[105,110,116,111],[108,101,97,115,116],[108,101,118,101,108],[108,105,102,111],[108,105,110,107],[108,111,99,97,108],[109,97,120],[109,105,110],[109,111,100,101,108],[110,111,116],[110,111,119],[111,98,115,101,114,118,101],[111,114],[112,97,114,97,109],[112,114,101,101,109,112,116],[112,114,105,111],[112,117,116],[113,117,101,117,101],[114,101,108,101,97,115,101],[114,101,115,111,117,114,99,101],[114,105,100,101],[114,111,117,116,105,110,101],[115,101,105,122,101],[115,101,110,100],[115,101,116],[115,104,105,102,116],[115,105,103,110,97,108],[115,105,116,101],[115,105,122,101],[115,112,97,119,110],[115,116,97,114,116],[115,116,111,112],[115,116,111,114,101],[115,116,114,101,97,109],[115,117,109],[116,97,98,108,101],[116,97,108,108,121],[116,105,99,107,115],[116,105,109,101],[116,114,117,101],[117,110,105,102,111,114,109],[117,110,116,105,108],[117,112],[118,97,114],[119,97,105,116],[119,97,105,116,105,110,103],[119,104,105,108,101]]
def kwB (s:List UInt8):Bool:=kws.any fun k=>decide (s=k)
def Zev (s:List UInt8):Int :=
 match s with
 | []=>3
 | c :: r=>if 24 < (c :: r).length∨Z4S c.toNat=false∨kwB (c :: r)=true then 3 else if (c :: r).all (fun x=>Z4D x.toNat) then 0 else 3
def inB (n:Int):Bool:=decide (-1000000000000≤n) && decide (n≤1000000000000)
theorem Zxt (s q r:List UInt8)(c:UInt8)(h:s=q ++ c :: r):ZeQ (.str s) (.int .i64 q.length)=some (.int .u8 c.toNat):=by
 subst h; simp [ZeQ]
theorem Z7s (b x:Bool)(hp:List Z5):(if b=true then some ((AV.bool true),hp,(none:Eff)) else some ((AV.bool x),hp,none))=some (.bool (b || x),hp,none):=by cases b <;> rfl
theorem Z6j (b x:Bool)(hp:List Z5):(if b=true then some ((AV.bool (b || false)),hp,(none:Eff)) else some ((AV.bool x),hp,none))=some (.bool (b || x),hp,none):=by cases b <;> rfl
theorem Z4R {α:Type}(b:Bool)(x y z:α):(if b=true then (if b=true then x else y) else z)=if b=true then x else z:=by cases b <;> rfl
section
variable {C:Cfg}(hC:I8 C)
include hC
theorem Z4M (n:Nat)(x:Int)(hp:List Z5):Za C (n + 1) Ziw [.int .i64 x] hp=some (.bool (inB x),hp,none):=by
 refine ZzC (by rw [hC.T]; rfl) ?_
 by_cases h1:-1000000000000≤x <;> by_cases h2:x≤1000000000000 <;> simp [ZxY,EVQ,inB,h1,h2]
theorem Zyb (n:Nat)(x:Int)(hp:List Z5):Za C (n + 1) Zbv [.int .u8 x] hp=some (.bool (Z4S x),hp,none):=by
 refine ZoN (by rw [hC.T]; rfl) ?_
 by_cases h1:97≤x <;> by_cases h2:x≤122 <;> simp [Zj7,EVQ,Z4S,h1,h2]
set_option maxHeartbeats 2000000 in
theorem Z03 (n:Nat)(s:List UInt8)(hp:List Z5):Za C (n + 1) ZcB [.str s] hp=some (.bool (kwB s),hp,none):=by
 refine Znn (by rw [hC.T]; rfl) ?_
 simp only [Zh5,EVQ,Z4R,Z7s,Z6j,kwB,kws,List.any_cons,List.any_nil]
theorem ZhP (n:Nat)(hp0:List Z5)(s:List UInt8)(hl:s.length≤140737488355328):∀ (r q:List UInt8) (m:Nat),s=q ++ r→r.length < m →
  Tv C.G (Za C (n + 1)) C.L hp0 (Np C.G (Za C (n + 1)) C.L hp0) m (.str s) (.int .i64 s.length) (.int .i64 q.length) hp0 none=some (.int .i64 (if r.all (fun x=>Z4D x.toNat) then 0 else 3),hp0,none)
 | _,_,0,_,h=>by omega
 | [],q,m + 1,hq,_=>by
  have hlen:(s.length:Int)=q.length:=by rw [hq]; simp
  simp only [Tv,Np,EVQ,hlen,Int.lt_irrefl,decide_false,Bool.false_eq_true,if_false,List.all_nil,if_true]
 | c :: r,q,m + 1,hq,hm=>by
  have hlen:(s.length:Int)=q.length + (r.length + 1):=by rw [hq]; simp
  have hlt:(q.length:Int) < q.length + (r.length + 1):=by omega
  have hql:q.length + (r.length + 1)≤140737488355328:=by rw [hq] at hl; simpa using hl
  have hx:=Zxt s q r c hq
  have h1:=Zyb hC n (c.toNat:Int) hp0
  have ih:=ZhP n hp0 s hl r (q ++ [c]) m (by rw [hq]; simp) (by simpa using hm)
  simp only [List.length_append,List.length_cons,List.length_nil,Nat.zero_add] at ih
  have hwr:=SE q.length (by omega)
  rw [hlen] at ih ⊢
  have hch:Z4D (c.toNat:Int)=(Z4S (c.toNat:Int) || decide ((c.toNat:Int)=95) || (decide (48≤(c.toNat:Int)) && decide ((c.toNat:Int)≤57))):=rfl
  rw [List.all_cons,hch]
  have q4:decide (48≤(c.toNat:Int))=!decide ((c.toNat:Int) < 48):=by by_cases h:(c.toNat:Int) < 48 <;> simp [h] <;> omega
  have q5:decide ((c.toNat:Int)≤57)=!decide ((c.toNat:Int) > 57):=by by_cases h:(c.toNat:Int) > 57 <;> simp [h] <;> omega
  have q6:decide ((c.toNat:Int)≠95)=!decide ((c.toNat:Int)=95):=by by_cases h:(c.toNat:Int)=95 <;> simp [h]
  rw [q4,q5]
  obtain ⟨lb,hb⟩:∃ b,Z4S (c.toNat:Int)=b:=⟨_,rfl⟩
  obtain ⟨b1,hb1⟩:∃ b,decide ((c.toNat:Int) < 48)=b:=⟨_,rfl⟩
  obtain ⟨b2,hb2⟩:∃ b,decide ((c.toNat:Int) > 57)=b:=⟨_,rfl⟩
  obtain ⟨b3,hb3⟩:∃ b,decide ((c.toNat:Int)=95)=b:=⟨_,rfl⟩
  cases lb <;> cases b1 <;> cases b2 <;> cases b3 <;> simp only [Tv,EVQ,hlt,decide_true,hx,h1,hb,hb1,hb2,hb3,q6,BLQ,if_true,if_false,ne_eq,reduceCtorEq,hwr,ih]
theorem Zun (n:Nat)(s:List UInt8)(hl:s.length≤140737488355328)(hp:List Z5):Za C (n + 2) RF [.str s] hp=some (.int .i64 (Zev s),hp,none):=by
 refine ZqJ (by rw [hC.T]; rfl) ?_
 cases s with
 | nil=>simp [PH,EVQ,Zev]
 | cons c r =>
  have h0:decide (c :: r=([]:List UInt8))=false:=rfl
  have h1:=Zyb hC n (c.toNat:Int) hp
  have h2:=Z03 hC n (c :: r) hp
  have hx:ZeQ (.str (c :: r)) (.int .i64 0)=some (.int .u8 c.toNat):=Zxt (c :: r) [] r c rfl
  have h3:=ZhP hC n hp (c :: r) hl (c :: r) [] C.L rfl (by have:=hC.L; omega)
  by_cases q1:24 < (c :: r).length
  ·have q1':(((c :: r).length:Nat):Int) > 24:=by omega
   simp only [PH,EVQ,h0,q1',Zev,q1,true_or,BLQ,if_true,if_false,ne_eq,reduceCtorEq]
  ·have q1':¬ (((c :: r).length:Nat):Int) > 24:=by omega
   cases q2:Z4S (c.toNat:Int) with
   | false=>simp only [PH,EVQ,h0,q1',Zev,q1,hx,h1,q2,true_or,or_true,BLQ,if_true,if_false,ne_eq,reduceCtorEq]
   | true =>
    cases q3:kwB (c :: r) with
    | true=>simp only [PH,EVQ,h0,q1',Zev,q1,hx,h1,q2,h2,q3,true_or,or_true,BLQ,if_true,if_false,ne_eq,reduceCtorEq]
    | false=>simp only [PH,EVQ,h0,q1',Zev,q1,hx,h1,q2,h2,q3,or_false,false_or,BLQ,if_true,if_false,ne_eq,reduceCtorEq]; exact h3
end
end Go.Proofs.YtlmfmmclnboglaaGreat
end
