import Derived.Test.YtlmfmmclnboglaaGreatP3
set_option linter.all false
section
namespace Go.Proofs.YtlmfmmclnboglaaGreat
open Go Go.RowKit Go.Proofs.YtlmfmmclnboglaaGreat.Abs
set_option linter.all false
set_option maxRecDepth 100000
def cT (f:FuncId):Option AFn:=(tab.find? (·.1 == f)).map (·.2)
structure Xz (C:Cfg):Prop where
 T:C.T=cT
 L:9223372036854775808≤C.L
 G:∀ (n:Int) (hp:List Zt),0≤n→n≤1000→C.T Xu=none∧C.O Xu [.own 2 [],.int .i64 n] hp=some (.own 2 [],hp,none)
def nameOf:List AV→List UInt8
 | .str s :: _=>s
 | _=>[]
def isN (name:List UInt8)(r:List AV):Bool:=decide (nameOf r=name)
def V8 (p:List AV→Bool):List (List AV)→Nat→Int
 | [],_=>-1
 | r :: rs,i=>if p r=true then (i:Int) else V8 p rs (i + 1)
def Zhh (W:Nat)(rows:List (List AV)):Prop:=rows.length≤8796093022208∧∀ r ∈ rows,r.length=W∧r.map AV.ro=r∧r=.str (nameOf r) :: r.tail
theorem Zlc (K:FuncId→List AV→List Zt→KR)(f:FuncId)(c:List AV)(args:List AV)(hp:List Zt):Vz K (.fn f [] c) args hp=K f (args ++ c.map AV.nm) hp:=rfl
section
variable {C:Cfg}(hC:Xz C)
include hC
theorem JN (n:Nat)(hp0:List Zt)(fv:AV)(p:List AV→Bool)(rows:List (List AV))(hl:rows.length≤4611686018427387)(hrow:∀ r ∈ rows,r.length=13∧r.map AV.ro=r)(hf:∀ r ∈ rows,Vz (Zc C n) fv [.agg r] hp0=some (.bool (p r),hp0,none)):∀ (r q:List (List AV)) (m:Nat),rows=q ++ r→r.length < m →
  ZR C.G (Zc C n) C.L hp0 (Y2 C.G (Zc C n) C.L hp0) m (.lst 13 rows) fv (.int .i64 rows.length) (.int .i64 q.length) hp0 none=some (.int .i64 (V8 p r q.length),hp0,none)
 | _,_,0,_,h=>by omega
 | [],q,m + 1,hs,_=>by
  have hlen:(rows.length:Int)=q.length:=by rw [hs]; simp
  simp only [ZR,Y2,Wh,Wd,We,Xb,ZN,ZM,Z5,Z4,Yj,Yi,Xa,Zk,Wl,ZO,ZP,Yf,YQ,YS,YP,YR,YO,YT,Yk,Wm,Wt,Wn,Wp,Wj,Wu,Wq,Wo,Ws,Xi,ZQ,Yh,YU,YZ,YV,YX,Yx,YY,YW,Xe,QS,QY,QV,GY,Hf,He,Hd,Ha,GZ,Hl,Hm,Xf,Xh,Wi,Xg,Hg,QU,QX,QT,QW,Option.map_some,Xk,Xj,Xd,Xc,QZ,Xl,Zr,ZI,Yb,Ye,Yc,Yd,Ya,ZJ,ZL,Z0,ZK,YJ,YI,Yg,hlen,Int.lt_irrefl,decide_false,Bool.false_eq_true,if_false,V8]
 | x :: r,q,m + 1,hs,hm=>by
  have hlen:(rows.length:Int)=q.length + (r.length + 1):=by rw [hs]; simp
  have hlt:(q.length:Int) < q.length + (r.length + 1):=by omega
  have hql:q.length + (r.length + 1)≤4611686018427387:=by rw [hs] at hl; simpa using hl
  have hg:rows[q.length]? = some x:=by rw [hs]; simp
  have hmem:x ∈ rows:=by rw [hs]; simp
  obtain ⟨w1,w2⟩:=hrow x hmem
  have hro:(x.take 13).map AV.ro=x:=by rw [List.take_of_length_le (by omega),w2]
  have hc:=hf x hmem
  have ih:=JN n hp0 fv p rows hl hrow hf r (q ++ [x]) m (by rw [hs]; simp) (by simpa using hm)
  simp only [List.length_append,List.length_cons,List.length_nil,Nat.zero_add] at ih
  rw [hlen] at ih ⊢
  have hwr:=Uo q.length (by omega)
  have hld:=Zm6 hp0 13 x (by omega)
  cases hpx:p x with
  | true =>
   rw [hpx] at hc
   simp only [ZR,Wh,Wd,We,Xb,ZN,ZM,Z5,Z4,Yj,Yi,Xa,Zk,Wl,ZO,ZP,Yf,YQ,YS,YP,YR,YO,YT,Yk,Wm,Wt,Wn,Wp,Wj,Wu,Wq,Wo,Ws,Xi,ZQ,Yh,YU,YZ,YV,YX,Yx,YY,YW,Xe,QS,QY,QV,GY,Hf,He,Hd,Ha,GZ,Hl,Hm,Xf,Xh,Wi,Xg,Hg,QU,QX,QT,QW,Option.map_some,Xk,Xj,Xd,Xc,QZ,Xl,Zr,ZI,Yb,Ye,Yc,Yd,Ya,ZJ,ZL,Z0,ZK,YJ,YI,Yg,hlt,decide_true,if_true,Yp,hg,hld,hro,hc,V8,hpx]
  | false =>
   rw [hpx] at hc
   simp only [ZR,Wh,Wd,We,Xb,ZN,ZM,Z5,Z4,Yj,Yi,Xa,Zk,Wl,ZO,ZP,Yf,YQ,YS,YP,YR,YO,YT,Yk,Wm,Wt,Wn,Wp,Wj,Wu,Wq,Wo,Ws,Xi,ZQ,Yh,YU,YZ,YV,YX,Yx,YY,YW,Xe,QS,QY,QV,GY,Hf,He,Hd,Ha,GZ,Hl,Hm,Xf,Xh,Wi,Xg,Hg,QU,QX,QT,QW,Option.map_some,Xk,Xj,Xd,Xc,QZ,Xl,Zr,ZI,Yb,Ye,Yc,Yd,Ya,ZJ,ZL,Z0,ZK,YJ,YI,Yg,hlt,decide_true,if_true,Yp,hg,hld,hro,hc,V8,hpx,Bool.false_eq_true,if_false,hwr]
   exact ih
theorem R5 (n:Nat)(hp:List Zt)(f:FuncId)(c:List AV)(p:List AV→Bool)(rows:List (List AV))(hl:rows.length≤4611686018427387)(hrow:∀ r ∈ rows,r.length=13∧r.map AV.ro=r)(hf:∀ r ∈ rows,Zc C n f ([.agg r] ++ c.map AV.nm) hp=some (.bool (p r),hp,none)) :
  Zc C (n + 1) QK [.lst 13 rows,.fn f [] c] hp=some (.int .i64 (V8 p rows 0),hp,none):=by
 refine KO (by rw [hC.T]; rfl) ?_
 have h:=JN hC n hp (.fn f [] c) p rows hl hrow (fun r hr=>by rw [Zlc]; exact hf r hr) rows [] C.L rfl (by have:=hC.L; omega)
 simp only [QM,Wh,Wd,We,Xb,ZN,ZM,Z5,Z4,Yj,Yi,Xa,Zk,Wl,ZO,ZP,Yf,YQ,YS,YP,YR,YO,YT,Yk,Wm,Wt,Wn,Wp,Wj,Wu,Wq,Wo,Ws,Xi,ZQ,Yh,YU,YZ,YV,YX,Yx,YY,YW,Xe,QS,QY,QV,GY,Hf,He,Hd,Ha,GZ,Hl,Hm,Xf,Xh,Wi,Xg,Hg,QU,QX,QT,QW,Option.map_some,Xk,Xj,Xd,Xc,QZ,Xl,Zr,ZI,Yb,Ye,Yc,Yd,Ya,ZJ,ZL,Z0,ZK,YJ,YI,Yg]
 exact h
theorem Ux (n:Nat)(hp0:List Zt)(fv:AV)(p:List AV→Bool)(rows:List (List AV))(hl:rows.length≤4611686018427387)(hrow:∀ r ∈ rows,r.length=4∧r.map AV.ro=r)(hf:∀ r ∈ rows,Vz (Zc C n) fv [.agg r] hp0=some (.bool (p r),hp0,none)):∀ (r q:List (List AV)) (m:Nat),rows=q ++ r→r.length < m →
  ZU C.G (Zc C n) C.L hp0 (YA C.G (Zc C n) C.L hp0) m (.lst 4 rows) fv (.int .i64 rows.length) (.int .i64 q.length) hp0 none=some (.int .i64 (V8 p r q.length),hp0,none)
 | _,_,0,_,h=>by omega
 | [],q,m + 1,hs,_=>by
  have hlen:(rows.length:Int)=q.length:=by rw [hs]; simp
  simp only [ZU,YA,Wh,Wd,We,Xb,ZN,ZM,Z5,Z4,Yj,Yi,Xa,Zk,Wl,ZO,ZP,Yf,YQ,YS,YP,YR,YO,YT,Yk,Wm,Wt,Wn,Wp,Wj,Wu,Wq,Wo,Ws,Xi,ZQ,Yh,YU,YZ,YV,YX,Yx,YY,YW,Xe,QS,QY,QV,GY,Hf,He,Hd,Ha,GZ,Hl,Hm,Xf,Xh,Wi,Xg,Hg,QU,QX,QT,QW,Option.map_some,Xk,Xj,Xd,Xc,QZ,Xl,Zr,ZI,Yb,Ye,Yc,Yd,Ya,ZJ,ZL,Z0,ZK,YJ,YI,Yg,hlen,Int.lt_irrefl,decide_false,Bool.false_eq_true,if_false,V8]
 | x :: r,q,m + 1,hs,hm=>by
  have hlen:(rows.length:Int)=q.length + (r.length + 1):=by rw [hs]; simp
  have hlt:(q.length:Int) < q.length + (r.length + 1):=by omega
  have hql:q.length + (r.length + 1)≤4611686018427387:=by rw [hs] at hl; simpa using hl
  have hg:rows[q.length]? = some x:=by rw [hs]; simp
  have hmem:x ∈ rows:=by rw [hs]; simp
  obtain ⟨w1,w2⟩:=hrow x hmem
  have hro:(x.take 4).map AV.ro=x:=by rw [List.take_of_length_le (by omega),w2]
  have hc:=hf x hmem
  have ih:=Ux n hp0 fv p rows hl hrow hf r (q ++ [x]) m (by rw [hs]; simp) (by simpa using hm)
  simp only [List.length_append,List.length_cons,List.length_nil,Nat.zero_add] at ih
  rw [hlen] at ih ⊢
  have hwr:=Uo q.length (by omega)
  have hld:=Zm6 hp0 4 x (by omega)
  cases hpx:p x with
  | true =>
   rw [hpx] at hc
   simp only [ZU,Wh,Wd,We,Xb,ZN,ZM,Z5,Z4,Yj,Yi,Xa,Zk,Wl,ZO,ZP,Yf,YQ,YS,YP,YR,YO,YT,Yk,Wm,Wt,Wn,Wp,Wj,Wu,Wq,Wo,Ws,Xi,ZQ,Yh,YU,YZ,YV,YX,Yx,YY,YW,Xe,QS,QY,QV,GY,Hf,He,Hd,Ha,GZ,Hl,Hm,Xf,Xh,Wi,Xg,Hg,QU,QX,QT,QW,Option.map_some,Xk,Xj,Xd,Xc,QZ,Xl,Zr,ZI,Yb,Ye,Yc,Yd,Ya,ZJ,ZL,Z0,ZK,YJ,YI,Yg,hlt,decide_true,if_true,Yp,hg,hld,hro,hc,V8,hpx]
  | false =>
   rw [hpx] at hc
   simp only [ZU,Wh,Wd,We,Xb,ZN,ZM,Z5,Z4,Yj,Yi,Xa,Zk,Wl,ZO,ZP,Yf,YQ,YS,YP,YR,YO,YT,Yk,Wm,Wt,Wn,Wp,Wj,Wu,Wq,Wo,Ws,Xi,ZQ,Yh,YU,YZ,YV,YX,Yx,YY,YW,Xe,QS,QY,QV,GY,Hf,He,Hd,Ha,GZ,Hl,Hm,Xf,Xh,Wi,Xg,Hg,QU,QX,QT,QW,Option.map_some,Xk,Xj,Xd,Xc,QZ,Xl,Zr,ZI,Yb,Ye,Yc,Yd,Ya,ZJ,ZL,Z0,ZK,YJ,YI,Yg,hlt,decide_true,if_true,Yp,hg,hld,hro,hc,V8,hpx,Bool.false_eq_true,if_false,hwr]
   exact ih
theorem Bt (n:Nat)(hp:List Zt)(f:FuncId)(c:List AV)(p:List AV→Bool)(rows:List (List AV))(hl:rows.length≤4611686018427387)(hrow:∀ r ∈ rows,r.length=4∧r.map AV.ro=r)(hf:∀ r ∈ rows,Zc C n f ([.agg r] ++ c.map AV.nm) hp=some (.bool (p r),hp,none)) :
  Zc C (n + 1) Xn [.lst 4 rows,.fn f [] c] hp=some (.int .i64 (V8 p rows 0),hp,none):=by
 refine Gw (by rw [hC.T]; rfl) ?_
 have h:=Ux hC n hp (.fn f [] c) p rows hl hrow (fun r hr=>by rw [Zlc]; exact hf r hr) rows [] C.L rfl (by have:=hC.L; omega)
 simp only [Xp,Wh,Wd,We,Xb,ZN,ZM,Z5,Z4,Yj,Yi,Xa,Zk,Wl,ZO,ZP,Yf,YQ,YS,YP,YR,YO,YT,Yk,Wm,Wt,Wn,Wp,Wj,Wu,Wq,Wo,Ws,Xi,ZQ,Yh,YU,YZ,YV,YX,Yx,YY,YW,Xe,QS,QY,QV,GY,Hf,He,Hd,Ha,GZ,Hl,Hm,Xf,Xh,Wi,Xg,Hg,QU,QX,QT,QW,Option.map_some,Xk,Xj,Xd,Xc,QZ,Xl,Zr,ZI,Yb,Ye,Yc,Yd,Ya,ZJ,ZL,Z0,ZK,YJ,YI,Yg]
 exact h
theorem Jr (n:Nat)(hp0:List Zt)(fv:AV)(p:List AV→Bool)(rows:List (List AV))(hl:rows.length≤4611686018427387)(hrow:∀ r ∈ rows,r.length=3∧r.map AV.ro=r)(hf:∀ r ∈ rows,Vz (Zc C n) fv [.agg r] hp0=some (.bool (p r),hp0,none)):∀ (r q:List (List AV)) (m:Nat),rows=q ++ r→r.length < m →
  ZE C.G (Zc C n) C.L hp0 (Y0 C.G (Zc C n) C.L hp0) m (.lst 3 rows) fv (.int .i64 rows.length) (.int .i64 q.length) hp0 none=some (.int .i64 (V8 p r q.length),hp0,none)
 | _,_,0,_,h=>by omega
 | [],q,m + 1,hs,_=>by
  have hlen:(rows.length:Int)=q.length:=by rw [hs]; simp
  simp only [ZE,Y0,Wh,Wd,We,Xb,ZN,ZM,Z5,Z4,Yj,Yi,Xa,Zk,Wl,ZO,ZP,Yf,YQ,YS,YP,YR,YO,YT,Yk,Wm,Wt,Wn,Wp,Wj,Wu,Wq,Wo,Ws,Xi,ZQ,Yh,YU,YZ,YV,YX,Yx,YY,YW,Xe,QS,QY,QV,GY,Hf,He,Hd,Ha,GZ,Hl,Hm,Xf,Xh,Wi,Xg,Hg,QU,QX,QT,QW,Option.map_some,Xk,Xj,Xd,Xc,QZ,Xl,Zr,ZI,Yb,Ye,Yc,Yd,Ya,ZJ,ZL,Z0,ZK,YJ,YI,Yg,hlen,Int.lt_irrefl,decide_false,Bool.false_eq_true,if_false,V8]
 | x :: r,q,m + 1,hs,hm=>by
  have hlen:(rows.length:Int)=q.length + (r.length + 1):=by rw [hs]; simp
  have hlt:(q.length:Int) < q.length + (r.length + 1):=by omega
  have hql:q.length + (r.length + 1)≤4611686018427387:=by rw [hs] at hl; simpa using hl
  have hg:rows[q.length]? = some x:=by rw [hs]; simp
  have hmem:x ∈ rows:=by rw [hs]; simp
  obtain ⟨w1,w2⟩:=hrow x hmem
  have hro:(x.take 3).map AV.ro=x:=by rw [List.take_of_length_le (by omega),w2]
  have hc:=hf x hmem
  have ih:=Jr n hp0 fv p rows hl hrow hf r (q ++ [x]) m (by rw [hs]; simp) (by simpa using hm)
  simp only [List.length_append,List.length_cons,List.length_nil,Nat.zero_add] at ih
  rw [hlen] at ih ⊢
  have hwr:=Uo q.length (by omega)
  have hld:=Zm6 hp0 3 x (by omega)
  cases hpx:p x with
  | true =>
   rw [hpx] at hc
   simp only [ZE,Wh,Wd,We,Xb,ZN,ZM,Z5,Z4,Yj,Yi,Xa,Zk,Wl,ZO,ZP,Yf,YQ,YS,YP,YR,YO,YT,Yk,Wm,Wt,Wn,Wp,Wj,Wu,Wq,Wo,Ws,Xi,ZQ,Yh,YU,YZ,YV,YX,Yx,YY,YW,Xe,QS,QY,QV,GY,Hf,He,Hd,Ha,GZ,Hl,Hm,Xf,Xh,Wi,Xg,Hg,QU,QX,QT,QW,Option.map_some,Xk,Xj,Xd,Xc,QZ,Xl,Zr,ZI,Yb,Ye,Yc,Yd,Ya,ZJ,ZL,Z0,ZK,YJ,YI,Yg,hlt,decide_true,if_true,Yp,hg,hld,hro,hc,V8,hpx]
  | false =>
   rw [hpx] at hc
   simp only [ZE,Wh,Wd,We,Xb,ZN,ZM,Z5,Z4,Yj,Yi,Xa,Zk,Wl,ZO,ZP,Yf,YQ,YS,YP,YR,YO,YT,Yk,Wm,Wt,Wn,Wp,Wj,Wu,Wq,Wo,Ws,Xi,ZQ,Yh,YU,YZ,YV,YX,Yx,YY,YW,Xe,QS,QY,QV,GY,Hf,He,Hd,Ha,GZ,Hl,Hm,Xf,Xh,Wi,Xg,Hg,QU,QX,QT,QW,Option.map_some,Xk,Xj,Xd,Xc,QZ,Xl,Zr,ZI,Yb,Ye,Yc,Yd,Ya,ZJ,ZL,Z0,ZK,YJ,YI,Yg,hlt,decide_true,if_true,Yp,hg,hld,hro,hc,V8,hpx,Bool.false_eq_true,if_false,hwr]
   exact ih
theorem Lm (n:Nat)(hp:List Zt)(f:FuncId)(c:List AV)(p:List AV→Bool)(rows:List (List AV))(hl:rows.length≤4611686018427387)(hrow:∀ r ∈ rows,r.length=3∧r.map AV.ro=r)(hf:∀ r ∈ rows,Zc C n f ([.agg r] ++ c.map AV.nm) hp=some (.bool (p r),hp,none)) :
  Zc C (n + 1) Q9 [.lst 3 rows,.fn f [] c] hp=some (.int .i64 (V8 p rows 0),hp,none):=by
 refine Kb (by rw [hC.T]; rfl) ?_
 have h:=Jr hC n hp (.fn f [] c) p rows hl hrow (fun r hr=>by rw [Zlc]; exact hf r hr) rows [] C.L rfl (by have:=hC.L; omega)
 simp only [QD,Wh,Wd,We,Xb,ZN,ZM,Z5,Z4,Yj,Yi,Xa,Zk,Wl,ZO,ZP,Yf,YQ,YS,YP,YR,YO,YT,Yk,Wm,Wt,Wn,Wp,Wj,Wu,Wq,Wo,Ws,Xi,ZQ,Yh,YU,YZ,YV,YX,Yx,YY,YW,Xe,QS,QY,QV,GY,Hf,He,Hd,Ha,GZ,Hl,Hm,Xf,Xh,Wi,Xg,Hg,QU,QX,QT,QW,Option.map_some,Xk,Xj,Xd,Xc,QZ,Xl,Zr,ZI,Yb,Ye,Yc,Yd,Ya,ZJ,ZL,Z0,ZK,YJ,YI,Yg]
 exact h
theorem ZiV (n:Nat)(hp:List Zt)(s name:List UInt8)(r:List AV)(hr:r.length + 1=13)(g:Nat)(hg:hp[g]? = some (.cells [.str name] QG)) :
  Zc C (n + 1) BD [.agg (.str s :: r),.ptr g 0] hp=some (.bool (decide (s=name)),hp,none):=by
 refine ZkC (by rw [hC.T]; rfl) ?_
 have hlt:g < hp.length:=(List.getElem?_eq_some_iff.1 hg).1
 have hg':(hp ++ [Zt.cells (.str s :: r) Zf])[g]? = some (.cells [.str name] QG):=by rw [List.getElem?_append_left hlt]; exact hg
 have l0:Ze (hp ++ [Zt.cells (.str s :: r) Zf]) (.ptr hp.length (0 + 0))=some (.str s):=ZqR hp _ _ 0
 have l1:Ze (hp ++ [Zt.cells (.str s :: r) Zf]) (.ptr g 0)=some (.str name):=V7 hg' 0
 simp only [Ei,Wh,Wd,We,Xb,ZN,ZM,Z5,Z4,Yj,Yi,Xa,Zk,Wl,ZO,ZP,Yf,YQ,YS,YP,YR,YO,YT,Yk,Wm,Wt,Wn,Wp,Wj,Wu,Wq,Wo,Ws,Xi,ZQ,Yh,YU,YZ,YV,YX,Yx,YY,YW,Xe,QS,QY,QV,GY,Hf,He,Hd,Ha,GZ,Hl,Hm,Xf,Xh,Wi,Xg,Hg,QU,QX,QT,QW,Option.map_some,Xk,Xj,Xd,Xc,QZ,Xl,Zr,ZI,Yb,Ye,Yc,Yd,Ya,ZJ,ZL,Z0,ZK,YJ,YI,Yg,Bg 13 (.str s :: r) (by simpa using hr),l0,l1]
theorem Zcx (n:Nat)(hp:List Zt)(s name:List UInt8)(r:List AV)(hr:r.length + 1=4)(g:Nat)(hg:hp[g]? = some (.cells [.str name] QG)) :
  Zc C (n + 1) Tu [.agg (.str s :: r),.ptr g 0] hp=some (.bool (decide (s=name)),hp,none):=by
 refine Zfn (by rw [hC.T]; rfl) ?_
 have hlt:g < hp.length:=(List.getElem?_eq_some_iff.1 hg).1
 have hg':(hp ++ [Zt.cells (.str s :: r) WH])[g]? = some (.cells [.str name] QG):=by rw [List.getElem?_append_left hlt]; exact hg
 have l0:Ze (hp ++ [Zt.cells (.str s :: r) WH]) (.ptr hp.length (0 + 0))=some (.str s):=ZqR hp _ _ 0
 have l1:Ze (hp ++ [Zt.cells (.str s :: r) WH]) (.ptr g 0)=some (.str name):=V7 hg' 0
 simp only [Bl,Wh,Wd,We,Xb,ZN,ZM,Z5,Z4,Yj,Yi,Xa,Zk,Wl,ZO,ZP,Yf,YQ,YS,YP,YR,YO,YT,Yk,Wm,Wt,Wn,Wp,Wj,Wu,Wq,Wo,Ws,Xi,ZQ,Yh,YU,YZ,YV,YX,Yx,YY,YW,Xe,QS,QY,QV,GY,Hf,He,Hd,Ha,GZ,Hl,Hm,Xf,Xh,Wi,Xg,Hg,QU,QX,QT,QW,Option.map_some,Xk,Xj,Xd,Xc,QZ,Xl,Zr,ZI,Yb,Ye,Yc,Yd,Ya,ZJ,ZL,Z0,ZK,YJ,YI,Yg,Bg 4 (.str s :: r) (by simpa using hr),l0,l1]
theorem Zjy (n:Nat)(hp0:List Zt)(name:List UInt8)(rows:List (List AV))(hl:rows.length≤4611686018427387)(hrow:∀ r ∈ rows,r=[.str (nameOf r)]):∀ (r q:List (List AV)) (m:Nat),rows=q ++ r→r.length < m →
  Y8 C.G (Zc C n) C.L hp0 (QE C.G (Zc C n) C.L hp0) m (.lst 1 rows) (.str name) (.int .i64 rows.length) (.int .i64 q.length) hp0 none=some (.int .i64 (V8 (isN name) r q.length),hp0,none)
 | _,_,0,_,h=>by omega
 | [],q,m + 1,hs,_=>by
  have hlen:(rows.length:Int)=q.length:=by rw [hs]; simp
  simp only [Y8,QE,Wh,Wd,We,Xb,ZN,ZM,Z5,Z4,Yj,Yi,Xa,Zk,Wl,ZO,ZP,Yf,YQ,YS,YP,YR,YO,YT,Yk,Wm,Wt,Wn,Wp,Wj,Wu,Wq,Wo,Ws,Xi,ZQ,Yh,YU,YZ,YV,YX,Yx,YY,YW,Xe,QS,QY,QV,GY,Hf,He,Hd,Ha,GZ,Hl,Hm,Xf,Xh,Wi,Xg,Hg,QU,QX,QT,QW,Option.map_some,Xk,Xj,Xd,Xc,QZ,Xl,Zr,ZI,Yb,Ye,Yc,Yd,Ya,ZJ,ZL,Z0,ZK,YJ,YI,Yg,hlen,Int.lt_irrefl,decide_false,Bool.false_eq_true,if_false,V8]
 | x :: r,q,m + 1,hs,hm=>by
  have hlen:(rows.length:Int)=q.length + (r.length + 1):=by rw [hs]; simp
  have hlt:(q.length:Int) < q.length + (r.length + 1):=by omega
  have hql:q.length + (r.length + 1)≤4611686018427387:=by rw [hs] at hl; simpa using hl
  have hx:=hrow x (by rw [hs]; simp)
  have hg:rows[q.length]? = some [.str (nameOf x)]:=by rw [← hx,hs]; simp
  have ih:=Zjy n hp0 name rows hl hrow r (q ++ [x]) m (by rw [hs]; simp) (by simpa using hm)
  simp only [List.length_append,List.length_cons,List.length_nil,Nat.zero_add] at ih
  rw [hlen] at ih ⊢
  have hwr:=Uo q.length (by omega)
  by_cases hn:nameOf x=name
  ·have hp1:isN name x=true:=by simp [isN,hn]
   simp only [Y8,Wh,Wd,We,Xb,ZN,ZM,Z5,Z4,Yj,Yi,Xa,Zk,Wl,ZO,ZP,Yf,YQ,YS,YP,YR,YO,YT,Yk,Wm,Wt,Wn,Wp,Wj,Wu,Wq,Wo,Ws,Xi,ZQ,Yh,YU,YZ,YV,YX,Yx,YY,YW,Xe,QS,QY,QV,GY,Hf,He,Hd,Ha,GZ,Hl,Hm,Xf,Xh,Wi,Xg,Hg,QU,QX,QT,QW,Option.map_some,Xk,Xj,Xd,Xc,QZ,Xl,Zr,ZI,Yb,Ye,Yc,Yd,Ya,ZJ,ZL,Z0,ZK,YJ,YI,Yg,hlt,decide_true,if_true,Yp,hg,hn,V8,hp1]
  ·have hp1:isN name x=false:=by simp [isN,hn]
   have hn':¬ name=nameOf x:=fun e=>hn e.symm
   simp only [Y8,Wh,Wd,We,Xb,ZN,ZM,Z5,Z4,Yj,Yi,Xa,Zk,Wl,ZO,ZP,Yf,YQ,YS,YP,YR,YO,YT,Yk,Wm,Wt,Wn,Wp,Wj,Wu,Wq,Wo,Ws,Xi,ZQ,Yh,YU,YZ,YV,YX,Yx,YY,YW,Xe,QS,QY,QV,GY,Hf,He,Hd,Ha,GZ,Hl,Hm,Xf,Xh,Wi,Xg,Hg,QU,QX,QT,QW,Option.map_some,Xk,Xj,Xd,Xc,QZ,Xl,Zr,ZI,Yb,Ye,Yc,Yd,Ya,ZJ,ZL,Z0,ZK,YJ,YI,Yg,hlt,decide_true,if_true,Yp,hg,hn',decide_false,V8,hp1,Bool.false_eq_true,if_false,hwr]
   exact ih
theorem Z1b (n:Nat)(hp:List Zt)(name:List UInt8)(rows:List (List AV))(hl:rows.length≤4611686018427387)(hrow:∀ r ∈ rows,r=[.str (nameOf r)]) :
  Zc C (n + 1) J5 [.lst 1 rows,.str name] hp=some (.int .i64 (V8 (isN name) rows 0),hp,none):=by
 refine RS (by rw [hC.T]; rfl) ?_
 have h:=Zjy hC n hp name rows hl hrow rows [] C.L rfl (by have:=hC.L; omega)
 simp only [JA,Wh,Wd,We,Xb,ZN,ZM,Z5,Z4,Yj,Yi,Xa,Zk,Wl,ZO,ZP,Yf,YQ,YS,YP,YR,YO,YT,Yk,Wm,Wt,Wn,Wp,Wj,Wu,Wq,Wo,Ws,Xi,ZQ,Yh,YU,YZ,YV,YX,Yx,YY,YW,Xe,QS,QY,QV,GY,Hf,He,Hd,Ha,GZ,Hl,Hm,Xf,Xh,Wi,Xg,Hg,QU,QX,QT,QW,Option.map_some,Xk,Xj,Xd,Xc,QZ,Xl,Zr,ZI,Yb,Ye,Yc,Yd,Ya,ZJ,ZL,Z0,ZK,YJ,YI,Yg]
 exact h
theorem Zj3 (n:Nat)(hp0:List Zt)(name:List UInt8)(rows:List (List AV))(hl:rows.length≤4611686018427387)(hrow:∀ r ∈ rows,r=[.str (nameOf r)]):∀ (r q:List (List AV)) (m:Nat),rows=q ++ r→r.length < m →
  KF C.G (Zc C n) C.L hp0 (Rq C.G (Zc C n) C.L hp0) m (.lst 1 rows) (.str name) (.int .i64 q.length) (.int .i64 q.length) hp0 none=some (.int .i64 (V8 (isN name) r q.length),hp0,none)
 | _,_,0,_,h=>by omega
 | [],q,m + 1,hs,_=>by
  have hlen:(rows.length:Int)=q.length:=by rw [hs]; simp
  simp only [KF,Rq,Wh,Wd,We,Xb,ZN,ZM,Z5,Z4,Yj,Yi,Xa,Zk,Wl,ZO,ZP,Yf,YQ,YS,YP,YR,YO,YT,Yk,Wm,Wt,Wn,Wp,Wj,Wu,Wq,Wo,Ws,Xi,ZQ,Yh,YU,YZ,YV,YX,Yx,YY,YW,Xe,QS,QY,QV,GY,Hf,He,Hd,Ha,GZ,Hl,Hm,Xf,Xh,Wi,Xg,Hg,QU,QX,QT,QW,Option.map_some,Xk,Xj,Xd,Xc,QZ,Xl,Zr,ZI,Yb,Ye,Yc,Yd,Ya,ZJ,ZL,Z0,ZK,YJ,YI,Yg,hlen,Int.lt_irrefl,decide_false,Bool.false_eq_true,if_false,V8]
 | x :: r,q,m + 1,hs,hm=>by
  have hlen:(rows.length:Int)=q.length + (r.length + 1):=by rw [hs]; simp
  have hlt:(q.length:Int) < q.length + (r.length + 1):=by omega
  have hql:q.length + (r.length + 1)≤4611686018427387:=by rw [hs] at hl; simpa using hl
  have hx:=hrow x (by rw [hs]; simp)
  have hg:rows[q.length]? = some [.str (nameOf x)]:=by rw [← hx,hs]; simp
  have ih:=Zj3 n hp0 name rows hl hrow r (q ++ [x]) m (by rw [hs]; simp) (by simpa using hm)
  simp only [List.length_append,List.length_cons,List.length_nil,Nat.zero_add] at ih
  have hwr:=Uo q.length (by omega)
  by_cases hn:nameOf x=name
  ·have hp1:isN name x=true:=by simp [isN,hn]
   simp only [KF,Wh,Wd,We,Xb,ZN,ZM,Z5,Z4,Yj,Yi,Xa,Zk,Wl,ZO,ZP,Yf,YQ,YS,YP,YR,YO,YT,Yk,Wm,Wt,Wn,Wp,Wj,Wu,Wq,Wo,Ws,Xi,ZQ,Yh,YU,YZ,YV,YX,Yx,YY,YW,Xe,QS,QY,QV,GY,Hf,He,Hd,Ha,GZ,Hl,Hm,Xf,Xh,Wi,Xg,Hg,QU,QX,QT,QW,Option.map_some,Xk,Xj,Xd,Xc,QZ,Xl,Zr,ZI,Yb,Ye,Yc,Yd,Ya,ZJ,ZL,Z0,ZK,YJ,YI,Yg,hlen,hlt,decide_true,if_true,Yp,hg,hn,V8,hp1]
  ·have hp1:isN name x=false:=by simp [isN,hn]
   simp only [KF,Wh,Wd,We,Xb,ZN,ZM,Z5,Z4,Yj,Yi,Xa,Zk,Wl,ZO,ZP,Yf,YQ,YS,YP,YR,YO,YT,Yk,Wm,Wt,Wn,Wp,Wj,Wu,Wq,Wo,Ws,Xi,ZQ,Yh,YU,YZ,YV,YX,Yx,YY,YW,Xe,QS,QY,QV,GY,Hf,He,Hd,Ha,GZ,Hl,Hm,Xf,Xh,Wi,Xg,Hg,QU,QX,QT,QW,Option.map_some,Xk,Xj,Xd,Xc,QZ,Xl,Zr,ZI,Yb,Ye,Yc,Yd,Ya,ZJ,ZL,Z0,ZK,YJ,YI,Yg,hlen,hlt,decide_true,if_true,Yp,hg,hn,decide_false,V8,hp1,Bool.false_eq_true,if_false,hwr]
   exact ih
theorem ZqI (n:Nat)(hp:List Zt)(name:List UInt8)(rows:List (List AV))(hl:rows.length≤4611686018427387)(hrow:∀ r ∈ rows,r=[.str (nameOf r)]) :
  Zc C (n + 1) Tw [.lst 1 rows,.str name] hp=some (.int .i64 (V8 (isN name) rows 0),hp,none):=by
 refine Ztl (by rw [hC.T]; rfl) ?_
 have h:=Zj3 hC n hp name rows hl hrow rows [] C.L rfl (by have:=hC.L; omega)
 simp only [ZhR,Wh,Wd,We,Xb,ZN,ZM,Z5,Z4,Yj,Yi,Xa,Zk,Wl,ZO,ZP,Yf,YQ,YS,YP,YR,YO,YT,Yk,Wm,Wt,Wn,Wp,Wj,Wu,Wq,Wo,Ws,Xi,ZQ,Yh,YU,YZ,YV,YX,Yx,YY,YW,Xe,QS,QY,QV,GY,Hf,He,Hd,Ha,GZ,Hl,Hm,Xf,Xh,Wi,Xg,Hg,QU,QX,QT,QW,Option.map_some,Xk,Xj,Xd,Xc,QZ,Xl,Zr,ZI,Yb,Ye,Yc,Yd,Ya,ZJ,ZL,Z0,ZK,YJ,YI,Yg]
 exact h
end
end Go.Proofs.YtlmfmmclnboglaaGreat
end
section
namespace Go.Proofs.YtlmfmmclnboglaaGreat
open Go Go.RowKit Go.Proofs.YtlmfmmclnboglaaGreat.Abs
set_option linter.all false
set_option maxRecDepth 100000
structure N8 where
 name:List UInt8
 vars:List (List AV)
 res:List (List AV)
 stores:List (List AV)
 belts:List (List AV)
 queues:List (List AV)
 streams:List (List AV)
 tallies:List (List AV)
 levels:List (List AV)
 counts:List (List AV)
 routines:List (List AV)
 starts:List (List AV)
 laws:List (List AV)
def VS (s:N8):List AV:=[.str s.name,.lst 3 s.vars,.lst 17 s.res,.lst 3 s.stores,.lst 3 s.belts,.lst 1 s.queues,.lst 1 s.streams,.lst 1 s.tallies,.lst 1 s.levels,.lst 1 s.counts,.lst 4 s.routines,.lst 5 s.starts,.lst 3 s.laws]
structure NK (s:N8):Prop where
 vars:Zhh 3 s.vars
 res:Zhh 17 s.res
 stores:Zhh 3 s.stores
 belts:Zhh 3 s.belts
 queues:Zhh 1 s.queues
 streams:Zhh 1 s.streams
 tallies:Zhh 1 s.tallies
 levels:Zhh 1 s.levels
 counts:Zhh 1 s.counts
 routines:Zhh 4 s.routines
 starts:s.starts.length≤8796093022208
 laws:s.laws.length≤8796093022208
def nm1 (r:List AV):List AV:=[.str (nameOf r)]
theorem Zhc {rows:List (List AV)}(h:Zhh 1 rows):rows.map nm1=rows∧∀ r ∈ rows,r=[.str (nameOf r)]:=by
 have key:∀ r ∈ rows,r=[.str (nameOf r)]:=fun r hr=>by
  obtain ⟨h1,h2,h3⟩:=h.2 r hr
  have:r.tail=[]:=by
   rw [h3] at h1
   exact List.eq_nil_of_length_eq_zero (by simpa using h1)
  rw [this] at h3; exact h3
 refine ⟨?_,key⟩
 have:rows.map nm1=rows.map id:=List.map_congr_left fun r hr=>(key r hr).symm
 simpa using this
theorem ZqP (name:List UInt8):∀ (rows:List (List AV)) (i:Nat),V8 (isN name) (rows.map nm1) i=V8 (isN name) rows i
 | [],_=>rfl
 | r :: rs,i=>by
  have:isN name (nm1 r)=isN name r:=rfl
  simp only [List.map_cons,V8,this,ZqP name rs]
def kinds (s:N8):List (List UInt8×List (List AV)):=[([118,97,114],s.vars),([114,101,115,111,117,114,99,101],s.res),([115,116,111,114,101],s.stores),([98,101,108,116],s.belts),([113,117,101,117,101],s.queues),([115,116,114,101,97,109],s.streams),([116,97,108,108,121],s.tallies),([108,101,118,101,108],s.levels),([99,111,117,110,116],s.counts),([114,111,117,116,105,110,101],s.routines)]
def Oq (name:List UInt8):List (List UInt8×List (List AV))→List UInt8×Int
 | []=>([],-1)
 | (w,rows) :: l=>if 0≤V8 (isN name) rows 0 then (w,V8 (isN name) rows 0) else Oq name l
def Di (s:N8):List (List (List AV)):=(kinds s).map fun p=>p.2.map nm1
theorem Zxi (s:List UInt8):JL 1 (.str s)=some [.str s]:=rfl
theorem Zm0 (k g n:Nat)(i:Nat)(h:i < n):Yy (.slice k) (.arr g 0 n k) (.int .i64 i)=some (.ptr g (i * k)):=by simp [Yy,h]
theorem ZgP (bs:Nat)(h:List Zt)(cs:List AV)(t:TypeId)(o:Nat)(v:AV)(ef:Eff)(hv:cs[o]? = some v)(hb:bs≤h.length):Zzs bs (.ptr h.length o) (h ++ [.cells cs t]) ef=some (v,h ++ [.cells (cs.set o v.ro) t],ef):=by
 have e:=ZC h (.cells cs t)
 simp only [Zzs,e,hv,Zld]
 have:Ak bs ef h.length 0=ef:=by simp [Ak]; omega
 rw [this]
theorem Zck (bs:Nat)(h:List Zt)(cs:List AV)(t:TypeId)(o:Nat)(v:AV)(ef:Eff)(h1:v.one=true)(h2:o < cs.length)(hb:bs≤h.length):Zla bs (.ptr h.length o) v (h ++ [.cells cs t]) ef=some (h ++ [.cells (cs.set o v) t],ef):=by
 have e:=ZC h (.cells cs t)
 simp only [Zla,e,Zld]
 have:Ak bs ef h.length 0=ef:=by simp [Ak]; omega
 simp [h1,h2,this]
theorem Zm7 (e:TypeId)(s:List UInt8)(hp:List Zt):ZbM e 1 [.str s] hp=some (.own 1 [[.str s]],hp):=rfl
theorem Zhm (r:List (List AV))(s:List UInt8)(hp:List Zt)(h:r.length + 1≤8796093022208):Zpk 1 16 (.own 1 r) (.lst 1 [[.str s]]) hp=some (.own 1 (r ++ [[.str s]])):=by
 have:(r.length + 1) * 16≤140737488355328:=by omega
 simp [Zpk,rowsOf,AV.noId1,this]
section
variable {C:Cfg}(hC:Xz C)
include hC
theorem Zpy (K:FuncId→List AV→List Zt→KR)(hp0:List Zt)(k0:AV→AV→AV→List Zt→Eff→KR)(y3:AV)(s:N8)(hs:NK s):∀ (r q:List (List AV)) (m:Nat) (O:List AV),s.vars=q ++ r→r.length < m→O.length=10→O[0]? = some (.own 1 (q.map nm1)) →
  Gf C.G K C.L hp0 k0 m (.ptr hp0.length 0) (.arr (hp0.length + 1) 0 10 1) y3 (.int .i64 q.length) ((hp0 ++ [Zt.cells (VS s) Zf]) ++ [.cells O YG]) none =
   k0 (.ptr hp0.length 0) (.arr (hp0.length + 1) 0 10 1) y3 ((hp0 ++ [Zt.cells (VS s) Zf]) ++ [.cells (O.set 0 (.own 1 (s.vars.map nm1))) YG]) none
 | _,_,0,_,_,h,_,_=>by omega
 | [],q,m + 1,O,hr,_,hO,hq=>by
  have hlen:(s.vars.length:Int)=q.length:=by rw [hr]; simp
  have lf:∀ X:List AV,Ze ((hp0 ++ [Zt.cells (VS s) Zf]) ++ [.cells X YG]) (.ptr hp0.length (0 + 1))=some (.lst 3 s.vars):=fun X=>V7 (g := hp0.length) (cs := VS s) (t := Zf) (by rw [List.getElem?_append_left (by simp)]; exact ZC _ _) 1
  have he:O.set 0 (.own 1 (s.vars.map nm1))=O:=by
   rw [hr,List.append_nil]
   refine List.ext_getElem? fun i=>?_
   rw [List.getElem?_set]
   split
   ·rename_i e; subst e; rw [if_pos (by omega),hq]
   ·rfl
  rw [he]
  simp only [Gf,Wh,Wd,We,Xb,ZN,ZM,Z5,Z4,Yj,Yi,Xa,Zk,Wl,ZO,ZP,Yf,YQ,YS,YP,YR,YO,YT,Yk,Wm,Wt,Wn,Wp,Wj,Wu,Wq,Wo,Ws,Xi,ZQ,Yh,YU,YZ,YV,YX,Yx,YY,YW,Xe,QS,QY,QV,GY,Hf,He,Hd,Ha,GZ,Hl,Hm,Xf,Xh,Wi,Xg,Hg,QU,QX,QT,QW,Option.map_some,Xk,Xj,Xd,Xc,QZ,Xl,Zr,ZI,Yb,Ye,Yc,Yd,Ya,ZJ,ZL,Z0,ZK,YJ,YI,Yg,lf,hlen,Int.lt_irrefl,decide_false,Bool.false_eq_true,if_false]
 | x :: r,q,m + 1,O,hr,hm,hO,hq=>by
  have hlen:(s.vars.length:Int)=q.length + (r.length + 1):=by rw [hr]; simp
  have hlt:(q.length:Int) < q.length + (r.length + 1):=by omega
  have hql:q.length + (r.length + 1)≤8796093022208:=by have:=hs.vars.1; rw [hr] at this; simpa using this
  have hg:s.vars[q.length]? = some x:=by rw [hr]; simp
  have hx:=(hs.vars.2 x (by rw [hr]; simp)).2.2
  have lf:∀ X:List AV,Ze ((hp0 ++ [Zt.cells (VS s) Zf]) ++ [.cells X YG]) (.ptr hp0.length (0 + 1))=some (.lst 3 s.vars):=fun X=>V7 (g := hp0.length) (cs := VS s) (t := Zf) (by rw [List.getElem?_append_left (by simp)]; exact ZC _ _) 1
  have hh:(hp0 ++ [Zt.cells (VS s) Zf]).length=hp0.length + 1:=by simp
  have hia:Yy (.slice 1) (.arr (hp0.length + 1) 0 10 1) (.int .i64 0)=some (.ptr (hp0 ++ [Zt.cells (VS s) Zf]).length 0):=by rw [hh]; exact Zm0 1 (hp0.length + 1) 10 0 (by omega)
  have hld:=ZgP hp0.length (hp0 ++ [Zt.cells (VS s) Zf]) O YG 0 _ none hq (by simp)
  have hst:=fun (X:List AV) (hX:X.length=10)=>Zck hp0.length (hp0 ++ [Zt.cells (VS s) Zf]) X YG 0 (.own 1 (q.map nm1 ++ [[.str (nameOf x)]])) none rfl (by omega) (by simp)
  have hap:=fun hp=>Zhm (q.map nm1) (nameOf x) hp (by simp; omega)
  have lx:∀ hp,Ze hp (.ref (x.drop 0))=some (.str (nameOf x)):=fun hp=>by rw [hx]; rfl
  have ih:=Zpy K hp0 k0 y3 s hs r (q ++ [x]) m (O.set 0 (.own 1 (q.map nm1 ++ [[.str (nameOf x)]]))) (by rw [hr]; simp) (by simpa using hm) (by simpa using hO) (by rw [List.getElem?_set_self (by omega)]; simp [nm1])
  simp only [List.length_append,List.length_cons,List.length_nil,Nat.zero_add,List.set_set] at ih
  have hwr:=Uo q.length (by omega)
  simp only [Gf,Wh,Wd,We,Xb,ZN,ZM,Z5,Z4,Yj,Yi,Xa,Zk,Wl,ZO,ZP,Yf,YQ,YS,YP,YR,YO,YT,Yk,Wm,Wt,Wn,Wp,Wj,Wu,Wq,Wo,Ws,Xi,ZQ,Yh,YU,YZ,YV,YX,Yx,YY,YW,Xe,QS,QY,QV,GY,Hf,He,Hd,Ha,GZ,Hl,Hm,Xf,Xh,Wi,Xg,Hg,QU,QX,QT,QW,Option.map_some,Xk,Xj,Xd,Xc,QZ,Xl,Zr,ZI,Yb,Ye,Yc,Yd,Ya,ZJ,ZL,Z0,ZK,YJ,YI,Yg,lf,hlen,hlt,decide_true,if_true,hia,hld,Yp,hg,lx,Zm7,hap,hst (O.set 0 (.lst 1 (q.map nm1))) (by simpa using hO),List.set_set,hwr,ih]
theorem Zpz (K:FuncId→List AV→List Zt→KR)(hp0:List Zt)(k0:AV→AV→AV→List Zt→Eff→KR)(y3:AV)(s:N8)(hs:NK s):∀ (r q:List (List AV)) (m:Nat) (O:List AV),s.res=q ++ r→r.length < m→O.length=10→O[1]? = some (.own 1 (q.map nm1)) →
  Gg C.G K C.L hp0 k0 m (.ptr hp0.length 0) (.arr (hp0.length + 1) 0 10 1) y3 (.int .i64 q.length) ((hp0 ++ [Zt.cells (VS s) Zf]) ++ [.cells O YG]) none =
   k0 (.ptr hp0.length 0) (.arr (hp0.length + 1) 0 10 1) y3 ((hp0 ++ [Zt.cells (VS s) Zf]) ++ [.cells (O.set 1 (.own 1 (s.res.map nm1))) YG]) none
 | _,_,0,_,_,h,_,_=>by omega
 | [],q,m + 1,O,hr,_,hO,hq=>by
  have hlen:(s.res.length:Int)=q.length:=by rw [hr]; simp
  have lf:∀ X:List AV,Ze ((hp0 ++ [Zt.cells (VS s) Zf]) ++ [.cells X YG]) (.ptr hp0.length (0 + 2))=some (.lst 17 s.res):=fun X=>V7 (g := hp0.length) (cs := VS s) (t := Zf) (by rw [List.getElem?_append_left (by simp)]; exact ZC _ _) 2
  have he:O.set 1 (.own 1 (s.res.map nm1))=O:=by
   rw [hr,List.append_nil]
   refine List.ext_getElem? fun i=>?_
   rw [List.getElem?_set]
   split
   ·rename_i e; subst e; rw [if_pos (by omega),hq]
   ·rfl
  rw [he]
  simp only [Gg,Wh,Wd,We,Xb,ZN,ZM,Z5,Z4,Yj,Yi,Xa,Zk,Wl,ZO,ZP,Yf,YQ,YS,YP,YR,YO,YT,Yk,Wm,Wt,Wn,Wp,Wj,Wu,Wq,Wo,Ws,Xi,ZQ,Yh,YU,YZ,YV,YX,Yx,YY,YW,Xe,QS,QY,QV,GY,Hf,He,Hd,Ha,GZ,Hl,Hm,Xf,Xh,Wi,Xg,Hg,QU,QX,QT,QW,Option.map_some,Xk,Xj,Xd,Xc,QZ,Xl,Zr,ZI,Yb,Ye,Yc,Yd,Ya,ZJ,ZL,Z0,ZK,YJ,YI,Yg,lf,hlen,Int.lt_irrefl,decide_false,Bool.false_eq_true,if_false]
 | x :: r,q,m + 1,O,hr,hm,hO,hq=>by
  have hlen:(s.res.length:Int)=q.length + (r.length + 1):=by rw [hr]; simp
  have hlt:(q.length:Int) < q.length + (r.length + 1):=by omega
  have hql:q.length + (r.length + 1)≤8796093022208:=by have:=hs.res.1; rw [hr] at this; simpa using this
  have hg:s.res[q.length]? = some x:=by rw [hr]; simp
  have hx:=(hs.res.2 x (by rw [hr]; simp)).2.2
  have lf:∀ X:List AV,Ze ((hp0 ++ [Zt.cells (VS s) Zf]) ++ [.cells X YG]) (.ptr hp0.length (0 + 2))=some (.lst 17 s.res):=fun X=>V7 (g := hp0.length) (cs := VS s) (t := Zf) (by rw [List.getElem?_append_left (by simp)]; exact ZC _ _) 2
  have hh:(hp0 ++ [Zt.cells (VS s) Zf]).length=hp0.length + 1:=by simp
  have hia:Yy (.slice 1) (.arr (hp0.length + 1) 0 10 1) (.int .i64 1)=some (.ptr (hp0 ++ [Zt.cells (VS s) Zf]).length 1):=by rw [hh]; exact Zm0 1 (hp0.length + 1) 10 1 (by omega)
  have hld:=ZgP hp0.length (hp0 ++ [Zt.cells (VS s) Zf]) O YG 1 _ none hq (by simp)
  have hst:=fun (X:List AV) (hX:X.length=10)=>Zck hp0.length (hp0 ++ [Zt.cells (VS s) Zf]) X YG 1 (.own 1 (q.map nm1 ++ [[.str (nameOf x)]])) none rfl (by omega) (by simp)
  have hap:=fun hp=>Zhm (q.map nm1) (nameOf x) hp (by simp; omega)
  have lx:∀ hp,Ze hp (.ref (x.drop 0))=some (.str (nameOf x)):=fun hp=>by rw [hx]; rfl
  have ih:=Zpz K hp0 k0 y3 s hs r (q ++ [x]) m (O.set 1 (.own 1 (q.map nm1 ++ [[.str (nameOf x)]]))) (by rw [hr]; simp) (by simpa using hm) (by simpa using hO) (by rw [List.getElem?_set_self (by omega)]; simp [nm1])
  simp only [List.length_append,List.length_cons,List.length_nil,Nat.zero_add,List.set_set] at ih
  have hwr:=Uo q.length (by omega)
  simp only [Gg,Wh,Wd,We,Xb,ZN,ZM,Z5,Z4,Yj,Yi,Xa,Zk,Wl,ZO,ZP,Yf,YQ,YS,YP,YR,YO,YT,Yk,Wm,Wt,Wn,Wp,Wj,Wu,Wq,Wo,Ws,Xi,ZQ,Yh,YU,YZ,YV,YX,Yx,YY,YW,Xe,QS,QY,QV,GY,Hf,He,Hd,Ha,GZ,Hl,Hm,Xf,Xh,Wi,Xg,Hg,QU,QX,QT,QW,Option.map_some,Xk,Xj,Xd,Xc,QZ,Xl,Zr,ZI,Yb,Ye,Yc,Yd,Ya,ZJ,ZL,Z0,ZK,YJ,YI,Yg,lf,hlen,hlt,decide_true,if_true,hia,hld,Yp,hg,lx,Zm7,hap,hst (O.set 1 (.lst 1 (q.map nm1))) (by simpa using hO),List.set_set,hwr,ih]
theorem Zp0 (K:FuncId→List AV→List Zt→KR)(hp0:List Zt)(k0:AV→AV→AV→List Zt→Eff→KR)(y3:AV)(s:N8)(hs:NK s):∀ (r q:List (List AV)) (m:Nat) (O:List AV),s.stores=q ++ r→r.length < m→O.length=10→O[2]? = some (.own 1 (q.map nm1)) →
  Gh C.G K C.L hp0 k0 m (.ptr hp0.length 0) (.arr (hp0.length + 1) 0 10 1) y3 (.int .i64 q.length) ((hp0 ++ [Zt.cells (VS s) Zf]) ++ [.cells O YG]) none =
   k0 (.ptr hp0.length 0) (.arr (hp0.length + 1) 0 10 1) y3 ((hp0 ++ [Zt.cells (VS s) Zf]) ++ [.cells (O.set 2 (.own 1 (s.stores.map nm1))) YG]) none
 | _,_,0,_,_,h,_,_=>by omega
 | [],q,m + 1,O,hr,_,hO,hq=>by
  have hlen:(s.stores.length:Int)=q.length:=by rw [hr]; simp
  have lf:∀ X:List AV,Ze ((hp0 ++ [Zt.cells (VS s) Zf]) ++ [.cells X YG]) (.ptr hp0.length (0 + 3))=some (.lst 3 s.stores):=fun X=>V7 (g := hp0.length) (cs := VS s) (t := Zf) (by rw [List.getElem?_append_left (by simp)]; exact ZC _ _) 3
  have he:O.set 2 (.own 1 (s.stores.map nm1))=O:=by
   rw [hr,List.append_nil]
   refine List.ext_getElem? fun i=>?_
   rw [List.getElem?_set]
   split
   ·rename_i e; subst e; rw [if_pos (by omega),hq]
   ·rfl
  rw [he]
  simp only [Gh,Wh,Wd,We,Xb,ZN,ZM,Z5,Z4,Yj,Yi,Xa,Zk,Wl,ZO,ZP,Yf,YQ,YS,YP,YR,YO,YT,Yk,Wm,Wt,Wn,Wp,Wj,Wu,Wq,Wo,Ws,Xi,ZQ,Yh,YU,YZ,YV,YX,Yx,YY,YW,Xe,QS,QY,QV,GY,Hf,He,Hd,Ha,GZ,Hl,Hm,Xf,Xh,Wi,Xg,Hg,QU,QX,QT,QW,Option.map_some,Xk,Xj,Xd,Xc,QZ,Xl,Zr,ZI,Yb,Ye,Yc,Yd,Ya,ZJ,ZL,Z0,ZK,YJ,YI,Yg,lf,hlen,Int.lt_irrefl,decide_false,Bool.false_eq_true,if_false]
 | x :: r,q,m + 1,O,hr,hm,hO,hq=>by
  have hlen:(s.stores.length:Int)=q.length + (r.length + 1):=by rw [hr]; simp
  have hlt:(q.length:Int) < q.length + (r.length + 1):=by omega
  have hql:q.length + (r.length + 1)≤8796093022208:=by have:=hs.stores.1; rw [hr] at this; simpa using this
  have hg:s.stores[q.length]? = some x:=by rw [hr]; simp
  have hx:=(hs.stores.2 x (by rw [hr]; simp)).2.2
  have lf:∀ X:List AV,Ze ((hp0 ++ [Zt.cells (VS s) Zf]) ++ [.cells X YG]) (.ptr hp0.length (0 + 3))=some (.lst 3 s.stores):=fun X=>V7 (g := hp0.length) (cs := VS s) (t := Zf) (by rw [List.getElem?_append_left (by simp)]; exact ZC _ _) 3
  have hh:(hp0 ++ [Zt.cells (VS s) Zf]).length=hp0.length + 1:=by simp
  have hia:Yy (.slice 1) (.arr (hp0.length + 1) 0 10 1) (.int .i64 2)=some (.ptr (hp0 ++ [Zt.cells (VS s) Zf]).length 2):=by rw [hh]; exact Zm0 1 (hp0.length + 1) 10 2 (by omega)
  have hld:=ZgP hp0.length (hp0 ++ [Zt.cells (VS s) Zf]) O YG 2 _ none hq (by simp)
  have hst:=fun (X:List AV) (hX:X.length=10)=>Zck hp0.length (hp0 ++ [Zt.cells (VS s) Zf]) X YG 2 (.own 1 (q.map nm1 ++ [[.str (nameOf x)]])) none rfl (by omega) (by simp)
  have hap:=fun hp=>Zhm (q.map nm1) (nameOf x) hp (by simp; omega)
  have lx:∀ hp,Ze hp (.ref (x.drop 0))=some (.str (nameOf x)):=fun hp=>by rw [hx]; rfl
  have ih:=Zp0 K hp0 k0 y3 s hs r (q ++ [x]) m (O.set 2 (.own 1 (q.map nm1 ++ [[.str (nameOf x)]]))) (by rw [hr]; simp) (by simpa using hm) (by simpa using hO) (by rw [List.getElem?_set_self (by omega)]; simp [nm1])
  simp only [List.length_append,List.length_cons,List.length_nil,Nat.zero_add,List.set_set] at ih
  have hwr:=Uo q.length (by omega)
  simp only [Gh,Wh,Wd,We,Xb,ZN,ZM,Z5,Z4,Yj,Yi,Xa,Zk,Wl,ZO,ZP,Yf,YQ,YS,YP,YR,YO,YT,Yk,Wm,Wt,Wn,Wp,Wj,Wu,Wq,Wo,Ws,Xi,ZQ,Yh,YU,YZ,YV,YX,Yx,YY,YW,Xe,QS,QY,QV,GY,Hf,He,Hd,Ha,GZ,Hl,Hm,Xf,Xh,Wi,Xg,Hg,QU,QX,QT,QW,Option.map_some,Xk,Xj,Xd,Xc,QZ,Xl,Zr,ZI,Yb,Ye,Yc,Yd,Ya,ZJ,ZL,Z0,ZK,YJ,YI,Yg,lf,hlen,hlt,decide_true,if_true,hia,hld,Yp,hg,lx,Zm7,hap,hst (O.set 2 (.lst 1 (q.map nm1))) (by simpa using hO),List.set_set,hwr,ih]
theorem Zp1 (K:FuncId→List AV→List Zt→KR)(hp0:List Zt)(k0:AV→AV→AV→List Zt→Eff→KR)(y3:AV)(s:N8)(hs:NK s):∀ (r q:List (List AV)) (m:Nat) (O:List AV),s.belts=q ++ r→r.length < m→O.length=10→O[3]? = some (.own 1 (q.map nm1)) →
  Gi C.G K C.L hp0 k0 m (.ptr hp0.length 0) (.arr (hp0.length + 1) 0 10 1) y3 (.int .i64 q.length) ((hp0 ++ [Zt.cells (VS s) Zf]) ++ [.cells O YG]) none =
   k0 (.ptr hp0.length 0) (.arr (hp0.length + 1) 0 10 1) y3 ((hp0 ++ [Zt.cells (VS s) Zf]) ++ [.cells (O.set 3 (.own 1 (s.belts.map nm1))) YG]) none
 | _,_,0,_,_,h,_,_=>by omega
 | [],q,m + 1,O,hr,_,hO,hq=>by
  have hlen:(s.belts.length:Int)=q.length:=by rw [hr]; simp
  have lf:∀ X:List AV,Ze ((hp0 ++ [Zt.cells (VS s) Zf]) ++ [.cells X YG]) (.ptr hp0.length (0 + 4))=some (.lst 3 s.belts):=fun X=>V7 (g := hp0.length) (cs := VS s) (t := Zf) (by rw [List.getElem?_append_left (by simp)]; exact ZC _ _) 4
  have he:O.set 3 (.own 1 (s.belts.map nm1))=O:=by
   rw [hr,List.append_nil]
   refine List.ext_getElem? fun i=>?_
   rw [List.getElem?_set]
   split
   ·rename_i e; subst e; rw [if_pos (by omega),hq]
   ·rfl
  rw [he]
  simp only [Gi,Wh,Wd,We,Xb,ZN,ZM,Z5,Z4,Yj,Yi,Xa,Zk,Wl,ZO,ZP,Yf,YQ,YS,YP,YR,YO,YT,Yk,Wm,Wt,Wn,Wp,Wj,Wu,Wq,Wo,Ws,Xi,ZQ,Yh,YU,YZ,YV,YX,Yx,YY,YW,Xe,QS,QY,QV,GY,Hf,He,Hd,Ha,GZ,Hl,Hm,Xf,Xh,Wi,Xg,Hg,QU,QX,QT,QW,Option.map_some,Xk,Xj,Xd,Xc,QZ,Xl,Zr,ZI,Yb,Ye,Yc,Yd,Ya,ZJ,ZL,Z0,ZK,YJ,YI,Yg,lf,hlen,Int.lt_irrefl,decide_false,Bool.false_eq_true,if_false]
 | x :: r,q,m + 1,O,hr,hm,hO,hq=>by
  have hlen:(s.belts.length:Int)=q.length + (r.length + 1):=by rw [hr]; simp
  have hlt:(q.length:Int) < q.length + (r.length + 1):=by omega
  have hql:q.length + (r.length + 1)≤8796093022208:=by have:=hs.belts.1; rw [hr] at this; simpa using this
  have hg:s.belts[q.length]? = some x:=by rw [hr]; simp
  have hx:=(hs.belts.2 x (by rw [hr]; simp)).2.2
  have lf:∀ X:List AV,Ze ((hp0 ++ [Zt.cells (VS s) Zf]) ++ [.cells X YG]) (.ptr hp0.length (0 + 4))=some (.lst 3 s.belts):=fun X=>V7 (g := hp0.length) (cs := VS s) (t := Zf) (by rw [List.getElem?_append_left (by simp)]; exact ZC _ _) 4
  have hh:(hp0 ++ [Zt.cells (VS s) Zf]).length=hp0.length + 1:=by simp
  have hia:Yy (.slice 1) (.arr (hp0.length + 1) 0 10 1) (.int .i64 3)=some (.ptr (hp0 ++ [Zt.cells (VS s) Zf]).length 3):=by rw [hh]; exact Zm0 1 (hp0.length + 1) 10 3 (by omega)
  have hld:=ZgP hp0.length (hp0 ++ [Zt.cells (VS s) Zf]) O YG 3 _ none hq (by simp)
  have hst:=fun (X:List AV) (hX:X.length=10)=>Zck hp0.length (hp0 ++ [Zt.cells (VS s) Zf]) X YG 3 (.own 1 (q.map nm1 ++ [[.str (nameOf x)]])) none rfl (by omega) (by simp)
  have hap:=fun hp=>Zhm (q.map nm1) (nameOf x) hp (by simp; omega)
  have lx:∀ hp,Ze hp (.ref (x.drop 0))=some (.str (nameOf x)):=fun hp=>by rw [hx]; rfl
  have ih:=Zp1 K hp0 k0 y3 s hs r (q ++ [x]) m (O.set 3 (.own 1 (q.map nm1 ++ [[.str (nameOf x)]]))) (by rw [hr]; simp) (by simpa using hm) (by simpa using hO) (by rw [List.getElem?_set_self (by omega)]; simp [nm1])
  simp only [List.length_append,List.length_cons,List.length_nil,Nat.zero_add,List.set_set] at ih
  have hwr:=Uo q.length (by omega)
  simp only [Gi,Wh,Wd,We,Xb,ZN,ZM,Z5,Z4,Yj,Yi,Xa,Zk,Wl,ZO,ZP,Yf,YQ,YS,YP,YR,YO,YT,Yk,Wm,Wt,Wn,Wp,Wj,Wu,Wq,Wo,Ws,Xi,ZQ,Yh,YU,YZ,YV,YX,Yx,YY,YW,Xe,QS,QY,QV,GY,Hf,He,Hd,Ha,GZ,Hl,Hm,Xf,Xh,Wi,Xg,Hg,QU,QX,QT,QW,Option.map_some,Xk,Xj,Xd,Xc,QZ,Xl,Zr,ZI,Yb,Ye,Yc,Yd,Ya,ZJ,ZL,Z0,ZK,YJ,YI,Yg,lf,hlen,hlt,decide_true,if_true,hia,hld,Yp,hg,lx,Zm7,hap,hst (O.set 3 (.lst 1 (q.map nm1))) (by simpa using hO),List.set_set,hwr,ih]
theorem Zp2 (K:FuncId→List AV→List Zt→KR)(hp0:List Zt)(k0:AV→List Zt→Eff→KR)(y3:AV)(s:N8)(hs:NK s):∀ (r q:List (List AV)) (m:Nat) (O:List AV),s.routines=q ++ r→r.length < m→O.length=10→O[9]? = some (.own 1 (q.map nm1)) →
  Gj C.G K C.L hp0 k0 m (.ptr hp0.length 0) (.arr (hp0.length + 1) 0 10 1) y3 (.int .i64 q.length) ((hp0 ++ [Zt.cells (VS s) Zf]) ++ [.cells O YG]) none =
   k0 y3 ((hp0 ++ [Zt.cells (VS s) Zf]) ++ [.cells (O.set 9 (.own 1 (s.routines.map nm1))) YG]) none
 | _,_,0,_,_,h,_,_=>by omega
 | [],q,m + 1,O,hr,_,hO,hq=>by
  have hlen:(s.routines.length:Int)=q.length:=by rw [hr]; simp
  have lf:∀ X:List AV,Ze ((hp0 ++ [Zt.cells (VS s) Zf]) ++ [.cells X YG]) (.ptr hp0.length (0 + 10))=some (.lst 4 s.routines):=fun X=>V7 (g := hp0.length) (cs := VS s) (t := Zf) (by rw [List.getElem?_append_left (by simp)]; exact ZC _ _) 10
  have he:O.set 9 (.own 1 (s.routines.map nm1))=O:=by
   rw [hr,List.append_nil]
   refine List.ext_getElem? fun i=>?_
   rw [List.getElem?_set]
   split
   ·rename_i e; subst e; rw [if_pos (by omega),hq]
   ·rfl
  rw [he]
  simp only [Gj,Wh,Wd,We,Xb,ZN,ZM,Z5,Z4,Yj,Yi,Xa,Zk,Wl,ZO,ZP,Yf,YQ,YS,YP,YR,YO,YT,Yk,Wm,Wt,Wn,Wp,Wj,Wu,Wq,Wo,Ws,Xi,ZQ,Yh,YU,YZ,YV,YX,Yx,YY,YW,Xe,QS,QY,QV,GY,Hf,He,Hd,Ha,GZ,Hl,Hm,Xf,Xh,Wi,Xg,Hg,QU,QX,QT,QW,Option.map_some,Xk,Xj,Xd,Xc,QZ,Xl,Zr,ZI,Yb,Ye,Yc,Yd,Ya,ZJ,ZL,Z0,ZK,YJ,YI,Yg,lf,hlen,Int.lt_irrefl,decide_false,Bool.false_eq_true,if_false]
 | x :: r,q,m + 1,O,hr,hm,hO,hq=>by
  have hlen:(s.routines.length:Int)=q.length + (r.length + 1):=by rw [hr]; simp
  have hlt:(q.length:Int) < q.length + (r.length + 1):=by omega
  have hql:q.length + (r.length + 1)≤8796093022208:=by have:=hs.routines.1; rw [hr] at this; simpa using this
  have hg:s.routines[q.length]? = some x:=by rw [hr]; simp
  have hx:=(hs.routines.2 x (by rw [hr]; simp)).2.2
  have lf:∀ X:List AV,Ze ((hp0 ++ [Zt.cells (VS s) Zf]) ++ [.cells X YG]) (.ptr hp0.length (0 + 10))=some (.lst 4 s.routines):=fun X=>V7 (g := hp0.length) (cs := VS s) (t := Zf) (by rw [List.getElem?_append_left (by simp)]; exact ZC _ _) 10
  have hh:(hp0 ++ [Zt.cells (VS s) Zf]).length=hp0.length + 1:=by simp
  have hia:Yy (.slice 1) (.arr (hp0.length + 1) 0 10 1) (.int .i64 9)=some (.ptr (hp0 ++ [Zt.cells (VS s) Zf]).length 9):=by rw [hh]; exact Zm0 1 (hp0.length + 1) 10 9 (by omega)
  have hld:=ZgP hp0.length (hp0 ++ [Zt.cells (VS s) Zf]) O YG 9 _ none hq (by simp)
  have hst:=fun (X:List AV) (hX:X.length=10)=>Zck hp0.length (hp0 ++ [Zt.cells (VS s) Zf]) X YG 9 (.own 1 (q.map nm1 ++ [[.str (nameOf x)]])) none rfl (by omega) (by simp)
  have hap:=fun hp=>Zhm (q.map nm1) (nameOf x) hp (by simp; omega)
  have lx:∀ hp,Ze hp (.ref (x.drop 0))=some (.str (nameOf x)):=fun hp=>by rw [hx]; rfl
  have ih:=Zp2 K hp0 k0 y3 s hs r (q ++ [x]) m (O.set 9 (.own 1 (q.map nm1 ++ [[.str (nameOf x)]]))) (by rw [hr]; simp) (by simpa using hm) (by simpa using hO) (by rw [List.getElem?_set_self (by omega)]; simp [nm1])
  simp only [List.length_append,List.length_cons,List.length_nil,Nat.zero_add,List.set_set] at ih
  have hwr:=Uo q.length (by omega)
  simp only [Gj,Wh,Wd,We,Xb,ZN,ZM,Z5,Z4,Yj,Yi,Xa,Zk,Wl,ZO,ZP,Yf,YQ,YS,YP,YR,YO,YT,Yk,Wm,Wt,Wn,Wp,Wj,Wu,Wq,Wo,Ws,Xi,ZQ,Yh,YU,YZ,YV,YX,Yx,YY,YW,Xe,QS,QY,QV,GY,Hf,He,Hd,Ha,GZ,Hl,Hm,Xf,Xh,Wi,Xg,Hg,QU,QX,QT,QW,Option.map_some,Xk,Xj,Xd,Xc,QZ,Xl,Zr,ZI,Yb,Ye,Yc,Yd,Ya,ZJ,ZL,Z0,ZK,YJ,YI,Yg,lf,hlen,hlt,decide_true,if_true,hia,hld,Yp,hg,lx,Zm7,hap,hst (O.set 9 (.lst 1 (q.map nm1))) (by simpa using hO),List.set_set,hwr,ih]
end
end Go.Proofs.YtlmfmmclnboglaaGreat
end
section
namespace Go.Proofs.YtlmfmmclnboglaaGreat
open Go Go.RowKit Go.Proofs.YtlmfmmclnboglaaGreat.Abs
set_option linter.all false
set_option maxRecDepth 100000
theorem ZxG (bs:Nat)(h:List Zt)(ty:TypeId)(hh:h.length=bs + 1)(a b c d e f g i j k:List (List AV)) :
  frz bs (h ++ [.cells [.own 1 a,.own 1 b,.own 1 c,.own 1 d,.lst 1 e,.lst 1 f,.lst 1 g,.lst 1 i,.lst 1 j,.own 1 k] ty]) (.arr (bs + 1) 0 10 1)=some (.lst 1 [[.lst 1 a],[.lst 1 b],[.lst 1 c],[.lst 1 d],[.lst 1 e],[.lst 1 f],[.lst 1 g],[.lst 1 i],[.lst 1 j],[.lst 1 k]]):=by
 rw [← hh]
 simp only [frz,Zja,Z06]
 rw [if_neg (by omega),ZC]
 simp [Z06,chunk,AV.ro,AV.noId1]
theorem Zw7 (h:List Zt):Zzx YG [(.own 1 [])] (.int .i64 10) h=some (.arr h.length 0 10 1,h ++ [.cells [.own 1 [],.own 1 [],.own 1 [],.own 1 [],.own 1 [],.own 1 [],.own 1 [],.own 1 [],.own 1 [],.own 1 []] YG]):=rfl
section
variable {C:Cfg}(hC:Xz C)
include hC
theorem ZqB (n:Nat)(hp:List Zt)(s:N8)(hs:NK s):Zc C (n + 1) MX [.agg (VS s)] hp=some (.lst 1 ((Di s).map fun l=>[.lst 1 l]),hp,none):=by
 refine Zrz (by rw [hC.T]; rfl) ?_
 have hL:=hC.L
 generalize Zc C n=K
 have t0:=Zpy hC K hp (M0 C.G K C.L hp) (.arr (hp.length + 1) 0 10 1) s hs s.vars [] C.L [.own 1 [],.own 1 [],.own 1 [],.own 1 [],.own 1 [],.own 1 [],.own 1 [],.own 1 [],.own 1 [],.own 1 []] rfl (by have:=hs.vars.1; omega) rfl rfl
 have t2:=Zpz hC K hp (M3 C.G K C.L hp) (.arr (hp.length + 1) 0 10 1) s hs s.res [] C.L [.own 1 (s.vars.map nm1),.own 1 [],.own 1 [],.own 1 [],.own 1 [],.own 1 [],.own 1 [],.own 1 [],.own 1 [],.own 1 []] rfl (by have:=hs.res.1; omega) rfl rfl
 have t4:=Zp0 hC K hp (M4 C.G K C.L hp) (.arr (hp.length + 1) 0 10 1) s hs s.stores [] C.L [.own 1 (s.vars.map nm1),.own 1 (s.res.map nm1),.own 1 [],.own 1 [],.own 1 [],.own 1 [],.own 1 [],.own 1 [],.own 1 [],.own 1 []] rfl (by have:=hs.stores.1; omega) rfl rfl
 have t6:=Zp1 hC K hp (M5 C.G K C.L hp) (.arr (hp.length + 1) 0 10 1) s hs s.belts [] C.L [.own 1 (s.vars.map nm1),.own 1 (s.res.map nm1),.own 1 (s.stores.map nm1),.own 1 [],.own 1 [],.own 1 [],.own 1 [],.own 1 [],.own 1 [],.own 1 []] rfl (by have:=hs.belts.1; omega) rfl rfl
 have t8:=Zp2 hC K hp (M6 C.G K C.L hp) (.arr (hp.length + 1) 0 10 1) s hs s.routines [] C.L [.own 1 (s.vars.map nm1),.own 1 (s.res.map nm1),.own 1 (s.stores.map nm1),.own 1 (s.belts.map nm1),.lst 1 s.queues,.lst 1 s.streams,.lst 1 s.tallies,.lst 1 s.levels,.lst 1 s.counts,.own 1 []] rfl (by have:=hs.routines.1; omega) rfl rfl
 have hh:(hp ++ [Zt.cells (VS s) Zf]).length=hp.length + 1:=by simp
 have lf:∀ (X:List AV) (i:Nat) (v:AV),(VS s)[i]? = some v→Ze ((hp ++ [Zt.cells (VS s) Zf]) ++ [.cells X YG]) (.ptr hp.length (0 + i))=some v.ro:=fun X i v hv=>by
  rw [Nat.zero_add,V7 (g := hp.length) (cs := VS s) (t := Zf) (by rw [List.getElem?_append_left (by simp)]; exact ZC _ _) i,hv]; rfl
 have hia:∀ k:Nat,k < 10→Yy (.slice 1) (.arr (hp.length + 1) 0 10 1) (.int .i64 k)=some (.ptr (hp ++ [Zt.cells (VS s) Zf]).length (k * 1)):=fun k hk=>by rw [hh]; exact Zm0 1 (hp.length + 1) 10 k hk
 have hia4:Yy (.slice 1) (.arr (hp.length + 1) 0 10 1) (.int .i64 4)=some (.ptr (hp ++ [Zt.cells (VS s) Zf]).length 4):=hia 4 (by omega)
 have hia5:Yy (.slice 1) (.arr (hp.length + 1) 0 10 1) (.int .i64 5)=some (.ptr (hp ++ [Zt.cells (VS s) Zf]).length 5):=hia 5 (by omega)
 have hia6:Yy (.slice 1) (.arr (hp.length + 1) 0 10 1) (.int .i64 6)=some (.ptr (hp ++ [Zt.cells (VS s) Zf]).length 6):=hia 6 (by omega)
 have hia7:Yy (.slice 1) (.arr (hp.length + 1) 0 10 1) (.int .i64 7)=some (.ptr (hp ++ [Zt.cells (VS s) Zf]).length 7):=hia 7 (by omega)
 have hia8:Yy (.slice 1) (.arr (hp.length + 1) 0 10 1) (.int .i64 8)=some (.ptr (hp ++ [Zt.cells (VS s) Zf]).length 8):=hia 8 (by omega)
 have hst:=fun (X:List AV) (k:Nat) (r:List (List AV)) (hk:k < X.length)=>Zck hp.length (hp ++ [Zt.cells (VS s) Zf]) X YG k (.lst 1 r) none rfl hk (by simp)
 have f5:=fun X=>lf X 5 (.lst 1 s.queues) rfl
 have f6:=fun X=>lf X 6 (.lst 1 s.streams) rfl
 have f7:=fun X=>lf X 7 (.lst 1 s.tallies) rfl
 have f8:=fun X=>lf X 8 (.lst 1 s.levels) rfl
 have f9:=fun X=>lf X 9 (.lst 1 s.counts) rfl
 simp only [List.length_nil,List.set,List.map_nil] at t0 t2 t4 t6 t8
 have hz:(((0:Nat):Int))=0:=rfl
 simp only [ZeS,Wh,Wd,We,Xb,ZN,ZM,Z5,Z4,Yj,Yi,Xa,Zk,Wl,ZO,ZP,Yf,YQ,YS,YP,YR,YO,YT,Yk,Wm,Wt,Wn,Wp,Wj,Wu,Wq,Wo,Ws,Xi,ZQ,Yh,YU,YZ,YV,YX,Yx,YY,YW,Xe,QS,QY,QV,GY,Hf,He,Hd,Ha,GZ,Hl,Hm,Xf,Xh,Wi,Xg,Hg,QU,QX,QT,QW,Option.map_some,Xk,Xj,Xd,Xc,QZ,Xl,Zr,ZI,Yb,Ye,Yc,Yd,Ya,ZJ,ZL,Z0,ZK,YJ,YI,Yg,Bg 13 (VS s) rfl,Zw7,hh]
 refine Eq.trans t0 ?_
 simp only [M0]
 refine Eq.trans t2 ?_
 simp only [M3]
 refine Eq.trans t4 ?_
 simp only [M4]
 refine Eq.trans t6 ?_
 simp only [M5,Wh,Wd,We,Xb,ZN,ZM,Z5,Z4,Yj,Yi,Xa,Zk,Wl,ZO,ZP,Yf,YQ,YS,YP,YR,YO,YT,Yk,Wm,Wt,Wn,Wp,Wj,Wu,Wq,Wo,Ws,Xi,ZQ,Yh,YU,YZ,YV,YX,Yx,YY,YW,Xe,QS,QY,QV,GY,Hf,He,Hd,Ha,GZ,Hl,Hm,Xf,Xh,Wi,Xg,Hg,QU,QX,QT,QW,Option.map_some,Xk,Xj,Xd,Xc,QZ,Xl,Zr,ZI,Yb,Ye,Yc,Yd,Ya,ZJ,ZL,Z0,ZK,YJ,YI,Yg,f5,f6,f7,f8,f9,hia4,hia5,hia6,hia7,hia8]
 rw [hst _ 4 _ (by simp)]
 simp only [Wh,Wd,We,Xb,ZN,ZM,Z5,Z4,Yj,Yi,Xa,Zk,Wl,ZO,ZP,Yf,YQ,YS,YP,YR,YO,YT,Yk,Wm,Wt,Wn,Wp,Wj,Wu,Wq,Wo,Ws,Xi,ZQ,Yh,YU,YZ,YV,YX,Yx,YY,YW,Xe,QS,QY,QV,GY,Hf,He,Hd,Ha,GZ,Hl,Hm,Xf,Xh,Wi,Xg,Hg,QU,QX,QT,QW,Option.map_some,Xk,Xj,Xd,Xc,QZ,Xl,Zr,ZI,Yb,Ye,Yc,Yd,Ya,ZJ,ZL,Z0,ZK,YJ,YI,Yg,List.set,f6]
 rw [hst _ 5 _ (by simp)]
 simp only [Wh,Wd,We,Xb,ZN,ZM,Z5,Z4,Yj,Yi,Xa,Zk,Wl,ZO,ZP,Yf,YQ,YS,YP,YR,YO,YT,Yk,Wm,Wt,Wn,Wp,Wj,Wu,Wq,Wo,Ws,Xi,ZQ,Yh,YU,YZ,YV,YX,Yx,YY,YW,Xe,QS,QY,QV,GY,Hf,He,Hd,Ha,GZ,Hl,Hm,Xf,Xh,Wi,Xg,Hg,QU,QX,QT,QW,Option.map_some,Xk,Xj,Xd,Xc,QZ,Xl,Zr,ZI,Yb,Ye,Yc,Yd,Ya,ZJ,ZL,Z0,ZK,YJ,YI,Yg,List.set,f7]
 rw [hst _ 6 _ (by simp)]
 simp only [Wh,Wd,We,Xb,ZN,ZM,Z5,Z4,Yj,Yi,Xa,Zk,Wl,ZO,ZP,Yf,YQ,YS,YP,YR,YO,YT,Yk,Wm,Wt,Wn,Wp,Wj,Wu,Wq,Wo,Ws,Xi,ZQ,Yh,YU,YZ,YV,YX,Yx,YY,YW,Xe,QS,QY,QV,GY,Hf,He,Hd,Ha,GZ,Hl,Hm,Xf,Xh,Wi,Xg,Hg,QU,QX,QT,QW,Option.map_some,Xk,Xj,Xd,Xc,QZ,Xl,Zr,ZI,Yb,Ye,Yc,Yd,Ya,ZJ,ZL,Z0,ZK,YJ,YI,Yg,List.set,f8]
 rw [hst _ 7 _ (by simp)]
 simp only [Wh,Wd,We,Xb,ZN,ZM,Z5,Z4,Yj,Yi,Xa,Zk,Wl,ZO,ZP,Yf,YQ,YS,YP,YR,YO,YT,Yk,Wm,Wt,Wn,Wp,Wj,Wu,Wq,Wo,Ws,Xi,ZQ,Yh,YU,YZ,YV,YX,Yx,YY,YW,Xe,QS,QY,QV,GY,Hf,He,Hd,Ha,GZ,Hl,Hm,Xf,Xh,Wi,Xg,Hg,QU,QX,QT,QW,Option.map_some,Xk,Xj,Xd,Xc,QZ,Xl,Zr,ZI,Yb,Ye,Yc,Yd,Ya,ZJ,ZL,Z0,ZK,YJ,YI,Yg,List.set,f9]
 rw [hst _ 8 _ (by simp)]
 simp only [Wh,Wd,We,Xb,ZN,ZM,Z5,Z4,Yj,Yi,Xa,Zk,Wl,ZO,ZP,Yf,YQ,YS,YP,YR,YO,YT,Yk,Wm,Wt,Wn,Wp,Wj,Wu,Wq,Wo,Ws,Xi,ZQ,Yh,YU,YZ,YV,YX,Yx,YY,YW,Xe,QS,QY,QV,GY,Hf,He,Hd,Ha,GZ,Hl,Hm,Xf,Xh,Wi,Xg,Hg,QU,QX,QT,QW,Option.map_some,Xk,Xj,Xd,Xc,QZ,Xl,Zr,ZI,Yb,Ye,Yc,Yd,Ya,ZJ,ZL,Z0,ZK,YJ,YI,Yg,List.set]
 refine Eq.trans t8 ?_
 simp only [M6,Z1k (ZxG hp.length _ YG hh _ _ _ _ _ _ _ _ _ _)]
 simp only [Di,kinds,List.map_cons,List.map_nil,(Zhc hs.queues).1,(Zhc hs.streams).1,(Zhc hs.tallies).1,(Zhc hs.levels).1,(Zhc hs.counts).1]
end
end Go.Proofs.YtlmfmmclnboglaaGreat
end
section
namespace Go.Proofs.YtlmfmmclnboglaaGreat
open Go Go.RowKit Go.Proofs.YtlmfmmclnboglaaGreat.Abs
set_option linter.all false
set_option maxRecDepth 100000
structure Mdl where
 name:List UInt8
 params:List (List AV)
 sites:List N8
 links:List (List AV)
def ZgT (m:Mdl):List AV:=[.str m.name,.lst 3 m.params,.lst 13 (m.sites.map VS),.lst 3 m.links]
structure Z2x (r:List AV):Prop where
 ex:∃ a b d,r=[.str a,.str b,.int .i64 d]
structure Zwd (m:Mdl):Prop where
 params:m.params.length≤8796093022208
 sites:m.sites.length≤8796093022208
 site:∀ s ∈ m.sites,NK s
 links:m.links.length≤8796093022208
 link:∀ r ∈ m.links,Z2x r
def Z0p (name:List UInt8)(m:Mdl):Int:=V8 (isN name) (m.sites.map VS) 0
theorem Z27 {hp:List Zt}{a b:Zt}:((hp ++ [a]) ++ [b])[hp.length]? = some a:=by
 rw [List.getElem?_append_left (by simp)]; exact ZC _ _
theorem ZtF (l:List N8):∀ r ∈ l.map VS,r.length=13∧r.map AV.ro=r∧r=.str (nameOf r) :: r.tail:=by
 intro r hr
 obtain ⟨s,_,rfl⟩:=List.mem_map.1 hr
 exact ⟨rfl,rfl,rfl⟩
section
variable {C:Cfg}(hC:Xz C)
include hC
theorem Z1d (n:Nat)(hp:List Zt)(m:Mdl)(name:List UInt8)(hm:Zwd m):Zc C (n + 3) BU [.agg (ZgT m),.str name] hp=some (.int .i64 (Z0p name m),hp,none):=by
 refine Zo3 (by rw [hC.T]; rfl) ?_
 have lf:Ze ((hp ++ [Zt.cells (ZgT m) ZV]) ++ [Zt.cells [.str name] QG]) (.ptr hp.length (0 + 2))=some (.lst 13 (m.sites.map VS)):=V7 Z27 2
 have hg:((hp ++ [Zt.cells (ZgT m) ZV]) ++ [Zt.cells [.str name] QG])[(hp ++ [Zt.cells (ZgT m) ZV]).length]? = some (.cells [.str name] QG):=ZC _ _
 have hc:=R5 hC (n + 1) ((hp ++ [Zt.cells (ZgT m) ZV]) ++ [Zt.cells [.str name] QG]) BD [.ptr (hp ++ [Zt.cells (ZgT m) ZV]).length 0] (isN name) (m.sites.map VS) (by have:=hm.sites; simp; omega) (fun r hr=>let ⟨a,b,_⟩:=ZtF m.sites r hr; ⟨a,b⟩) fun r hr=>by
  obtain ⟨h1,_,h3⟩:=ZtF m.sites r hr
  have:=ZiV hC n ((hp ++ [Zt.cells (ZgT m) ZV]) ++ [Zt.cells [.str name] QG]) (nameOf r) name r.tail (by rw [h3] at h1; simpa using h1) _ hg
  rw [← h3] at this
  exact this
 simp only [Zbm,Wh,Wd,We,Xb,ZN,ZM,Z5,Z4,Yj,Yi,Xa,Zk,Wl,ZO,ZP,Yf,YQ,YS,YP,YR,YO,YT,Yk,Wm,Wt,Wn,Wp,Wj,Wu,Wq,Wo,Ws,Xi,ZQ,Yh,YU,YZ,YV,YX,Yx,YY,YW,Xe,QS,QY,QV,GY,Hf,He,Hd,Ha,GZ,Hl,Hm,Xf,Xh,Wi,Xg,Hg,QU,QX,QT,QW,Option.map_some,Xk,Xj,Xd,Xc,QZ,Xl,Zr,ZI,Yb,Ye,Yc,Yd,Ya,ZJ,ZL,Z0,ZK,YJ,YI,Yg,Bg 4 (ZgT m) rfl,Zxi,lf,hc]
 rfl
theorem Zwp (n:Nat)(hp:List Zt)(s:N8)(name:List UInt8)(hs:NK s):Zc C (n + 3) OC [.agg (VS s),.str name] hp=some (.int .i64 (V8 (isN name) s.routines 0),hp,none):=by
 refine Zje (by rw [hC.T]; rfl) ?_
 have lf:Ze ((hp ++ [Zt.cells (VS s) Zf]) ++ [Zt.cells [.str name] QG]) (.ptr hp.length (0 + 10))=some (.lst 4 s.routines):=V7 Z27 10
 have hg:((hp ++ [Zt.cells (VS s) Zf]) ++ [Zt.cells [.str name] QG])[(hp ++ [Zt.cells (VS s) Zf]).length]? = some (.cells [.str name] QG):=ZC _ _
 have hc:=Bt hC (n + 1) ((hp ++ [Zt.cells (VS s) Zf]) ++ [Zt.cells [.str name] QG]) Tu [.ptr (hp ++ [Zt.cells (VS s) Zf]).length 0] (isN name) s.routines (by have:=hs.routines.1; omega) (fun r hr=>let ⟨a,b,_⟩:=hs.routines.2 r hr; ⟨a,b⟩) fun r hr=>by
  obtain ⟨h1,_,h3⟩:=hs.routines.2 r hr
  have:=Zcx hC n ((hp ++ [Zt.cells (VS s) Zf]) ++ [Zt.cells [.str name] QG]) (nameOf r) name r.tail (by rw [h3] at h1; simpa using h1) _ hg
  rw [← h3] at this
  exact this
 simp only [PW,Wh,Wd,We,Xb,ZN,ZM,Z5,Z4,Yj,Yi,Xa,Zk,Wl,ZO,ZP,Yf,YQ,YS,YP,YR,YO,YT,Yk,Wm,Wt,Wn,Wp,Wj,Wu,Wq,Wo,Ws,Xi,ZQ,Yh,YU,YZ,YV,YX,Yx,YY,YW,Xe,QS,QY,QV,GY,Hf,He,Hd,Ha,GZ,Hl,Hm,Xf,Xh,Wi,Xg,Hg,QU,QX,QT,QW,Option.map_some,Xk,Xj,Xd,Xc,QZ,Xl,Zr,ZI,Yb,Ye,Yc,Yd,Ya,ZJ,ZL,Z0,ZK,YJ,YI,Yg,Bg 13 (VS s) rfl,Zxi,lf,hc]
theorem Zwz (n:Nat)(hp:List Zt)(s:N8)(name:List UInt8)(hs:NK s):Zc C (n + 2) DU [.agg (VS s),.str name] hp=some (.int .i64 (V8 (isN name) s.routines 0),hp,none):=by
 refine ZmY (by rw [hC.T]; rfl) ?_
 have la:Zp (hp ++ [Zt.cells (VS s) Zf]) 13 (.ptr hp.length 0)=some (.agg (VS s)):=ZvC 13 hp _ _ 0 (by simp [VS])
 have hn:=ZqB hC n (hp ++ [Zt.cells (VS s) Zf]) s hs
 have hf:=ZqI hC n (hp ++ [Zt.cells (VS s) Zf]) name (s.routines.map nm1) (by have:=hs.routines.1; simp; omega) (fun r hr=>by obtain ⟨x,_,rfl⟩:=List.mem_map.1 hr; rfl)
 rw [ZqP] at hf
 have hi:Yy (.slice 1) (.lst 1 ((Di s).map fun l=>[.lst 1 l])) (.int .i64 9)=some (.ref [.lst 1 (s.routines.map nm1)]):=rfl
 simp only [F7,Wh,Wd,We,Xb,ZN,ZM,Z5,Z4,Yj,Yi,Xa,Zk,Wl,ZO,ZP,Yf,YQ,YS,YP,YR,YO,YT,Yk,Wm,Wt,Wn,Wp,Wj,Wu,Wq,Wo,Ws,Xi,ZQ,Yh,YU,YZ,YV,YX,Yx,YY,YW,Xe,QS,QY,QV,GY,Hf,He,Hd,Ha,GZ,Hl,Hm,Xf,Xh,Wi,Xg,Hg,QU,QX,QT,QW,Option.map_some,Xk,Xj,Xd,Xc,QZ,Xl,Zr,ZI,Yb,Ye,Yc,Yd,Ya,ZJ,ZL,Z0,ZK,YJ,YI,Yg,Bg 13 (VS s) rfl,la,hn,hi,hf]
end
end Go.Proofs.YtlmfmmclnboglaaGreat
end
section
namespace Go.Proofs.YtlmfmmclnboglaaGreat
open Go Go.RowKit Go.Proofs.YtlmfmmclnboglaaGreat.Abs
set_option linter.all false
set_option maxRecDepth 100000
def Zxg (n:Int):Bool:=decide (97≤n) && decide (n≤122)
def Zx0 (n:Int):Bool:=Zxg n || decide (n=95) || (decide (48≤n) && decide (n≤57))
def kws:List (List UInt8):=[[97,100,100],[97,102,116,101,114],[97,110,100],[97,116],[98,101,108,116],[98,111,111,108],[99,111,110,115,101,114,118,101],[99,111,110,115,116],[99,111,117,110,116],[99,121,99,108,101],[100,111,119,110],[100,114,97,119],[100,117,114],[101,108,115,101],[101,110,100],[101,118,101,114,121],[102,97,108,115,101],[102,97,117,108,116],[102,105,102,111],[102,114,101,101],[102,114,111,109],[103,101,111,109],[103,101,116],[104,111,108,100],[105,102],[105,110,116],[105,110,116,111],[108,101,97,115,116],[108,101,118,101,108],[108,105,102,111],[108,105,110,107],[108,111,99,97,108],[109,97,120],[109,105,110],[109,111,100,101,108],[110,111,116],[110,111,119],[111,98,115,101,114,118,101],[111,114],[112,97,114,97,109],[112,114,101,101,109,112,116],[112,114,105,111],[112,117,116],[113,117,101,117,101],[114,101,108,101,97,115,101],[114,101,115,111,117,114,99,101],[114,105,100,101],[114,111,117,116,105,110,101],[115,101,105,122,101],[115,101,110,100],[115,101,116],[115,104,105,102,116],[115,105,103,110,97,108],[115,105,116,101],[115,105,122,101],[115,112,97,119,110],[115,116,97,114,116],[115,116,111,112],[115,116,111,114,101],[115,116,114,101,97,109],[115,117,109],[116,97,98,108,101],[116,97,108,108,121],[116,105,99,107,115],[116,105,109,101],[116,114,117,101],[117,110,105,102,111,114,109],[117,110,116,105,108],[117,112],[118,97,114],[119,97,105,116],[119,97,105,116,105,110,103],[119,104,105,108,101]]
def kwB (s:List UInt8):Bool:=kws.any fun k=>decide (s=k)
def Gv (s:List UInt8):Int :=
 match s with
 | []=>3
 | c :: r=>if 24 < (c :: r).length∨Zxg c.toNat=false∨kwB (c :: r)=true then 3 else if (c :: r).all (fun x=>Zx0 x.toNat) then 0 else 3
def inB (n:Int):Bool:=decide (-1000000000000≤n) && decide (n≤1000000000000)
theorem ZsP (s:List UInt8):Gv s=0∨Gv s=3:=by
 unfold Gv
 split
 ·exact .inr rfl
 ·split
  ·exact .inr rfl
  ·split
   ·exact .inl rfl
   ·exact .inr rfl
theorem Zm1 (s q r:List UInt8)(c:UInt8)(h:s=q ++ c :: r):R6 (.str s) (.int .i64 q.length)=some (.int .u8 c.toNat):=by
 subst h; simp [R6]
theorem Z35 (b x:Bool)(hp:List Zt):(if b=true then some ((AV.bool true),hp,(none:Eff)) else some ((AV.bool x),hp,none))=some (.bool (b || x),hp,none):=by cases b <;> rfl
theorem Z2A (b x:Bool)(hp:List Zt):(if b=true then some ((AV.bool (b || false)),hp,(none:Eff)) else some ((AV.bool x),hp,none))=some (.bool (b || x),hp,none):=by cases b <;> rfl
theorem Z1m {α:Type}(b:Bool)(x y z:α):(if b=true then (if b=true then x else y) else z)=if b=true then x else z:=by cases b <;> rfl
section
variable {C:Cfg}(hC:Xz C)
include hC
theorem Z1e (n:Nat)(x:Int)(hp:List Zt):Zc C (n + 1) ZbX [.int .i64 x] hp=some (.bool (inB x),hp,none):=by
 refine Zw9 (by rw [hC.T]; rfl) ?_
 by_cases h1:-1000000000000≤x <;> by_cases h2:x≤1000000000000 <;> simp [Zqp,Wh,Wd,We,Xb,ZN,ZM,Z5,Z4,Yj,Yi,Xa,Zk,Wl,ZO,ZP,Yf,YQ,YS,YP,YR,YO,YT,Yk,Wm,Wt,Wn,Wp,Wj,Wu,Wq,Wo,Ws,Xi,ZQ,Yh,YU,YZ,YV,YX,Yx,YY,YW,Xe,QS,QY,QV,GY,Hf,He,Hd,Ha,GZ,Hl,Hm,Xf,Xh,Wi,Xg,Hg,QU,QX,QT,QW,Option.map_some,Xk,Xj,Xd,Xc,QZ,Xl,Zr,ZI,Yb,Ye,Yc,Yd,Ya,ZJ,ZL,Z0,ZK,YJ,YI,Yg,inB,h1,h2]
theorem Z33 (n:Nat)(x:Int)(hp:List Zt):Zc C (n + 1) Aw [.int .i64 x] hp=some (.bool (inB x),hp,none):=by
 refine ZwN (by rw [hC.T]; rfl) ?_
 by_cases h1:-1000000000000≤x <;> by_cases h2:x≤1000000000000 <;> simp [Zqq,Wh,Wd,We,Xb,ZN,ZM,Z5,Z4,Yj,Yi,Xa,Zk,Wl,ZO,ZP,Yf,YQ,YS,YP,YR,YO,YT,Yk,Wm,Wt,Wn,Wp,Wj,Wu,Wq,Wo,Ws,Xi,ZQ,Yh,YU,YZ,YV,YX,Yx,YY,YW,Xe,QS,QY,QV,GY,Hf,He,Hd,Ha,GZ,Hl,Hm,Xf,Xh,Wi,Xg,Hg,QU,QX,QT,QW,Option.map_some,Xk,Xj,Xd,Xc,QZ,Xl,Zr,ZI,Yb,Ye,Yc,Yd,Ya,ZJ,ZL,Z0,ZK,YJ,YI,Yg,inB,h1,h2]
theorem Zv5 (n:Nat)(x:Int)(hp:List Zt):Zc C (n + 1) BF [.int .u8 x] hp=some (.bool (Zxg x),hp,none):=by
 refine ZkO (by rw [hC.T]; rfl) ?_
 by_cases h1:97≤x <;> by_cases h2:x≤122 <;> simp [Ey,Wh,Wd,We,Xb,ZN,ZM,Z5,Z4,Yj,Yi,Xa,Zk,Wl,ZO,ZP,Yf,YQ,YS,YP,YR,YO,YT,Yk,Wm,Wt,Wn,Wp,Wj,Wu,Wq,Wo,Ws,Xi,ZQ,Yh,YU,YZ,YV,YX,Yx,YY,YW,Xe,QS,QY,QV,GY,Hf,He,Hd,Ha,GZ,Hl,Hm,Xf,Xh,Wi,Xg,Hg,QU,QX,QT,QW,Option.map_some,Xk,Xj,Xd,Xc,QZ,Xl,Zr,ZI,Yb,Ye,Yc,Yd,Ya,ZJ,ZL,Z0,ZK,YJ,YI,Yg,Zxg,h1,h2]
theorem Zs4 (n:Nat)(x:Int)(hp:List Zt):Zc C (n + 1) NG [.int .u8 x] hp=some (.bool (Zxg x),hp,none):=by
 refine ZoS (by rw [hC.T]; rfl) ?_
 by_cases h1:97≤x <;> by_cases h2:x≤122 <;> simp [Zbv,Wh,Wd,We,Xb,ZN,ZM,Z5,Z4,Yj,Yi,Xa,Zk,Wl,ZO,ZP,Yf,YQ,YS,YP,YR,YO,YT,Yk,Wm,Wt,Wn,Wp,Wj,Wu,Wq,Wo,Ws,Xi,ZQ,Yh,YU,YZ,YV,YX,Yx,YY,YW,Xe,QS,QY,QV,GY,Hf,He,Hd,Ha,GZ,Hl,Hm,Xf,Xh,Wi,Xg,Hg,QU,QX,QT,QW,Option.map_some,Xk,Xj,Xd,Xc,QZ,Xl,Zr,ZI,Yb,Ye,Yc,Yd,Ya,ZJ,ZL,Z0,ZK,YJ,YI,Yg,Zxg,h1,h2]
set_option maxHeartbeats 2000000 in
theorem Zx8 (n:Nat)(s:List UInt8)(hp:List Zt):Zc C (n + 1) Py [.str s] hp=some (.bool (kwB s),hp,none):=by
 refine Zjl (by rw [hC.T]; rfl) ?_
 simp only [Ng,Wh,Wd,We,Xb,ZN,ZM,Z5,Z4,Yj,Yi,Xa,Zk,Wl,ZO,ZP,Yf,YQ,YS,YP,YR,YO,YT,Yk,Wm,Wt,Wn,Wp,Wj,Wu,Wq,Wo,Ws,Xi,ZQ,Yh,YU,YZ,YV,YX,Yx,YY,YW,Xe,QS,QY,QV,GY,Hf,He,Hd,Ha,GZ,Hl,Hm,Xf,Xh,Wi,Xg,Hg,QU,QX,QT,QW,Option.map_some,Xk,Xj,Xd,Xc,QZ,Xl,Zr,ZI,Yb,Ye,Yc,Yd,Ya,ZJ,ZL,Z0,ZK,YJ,YI,Yg,Z1m,Z35,Z2A,kwB,kws,List.any_cons,List.any_nil]
theorem Zu1 (n:Nat)(hp:List Zt):Zc C (n + 1) BG [] hp=some (.own 1 (kws.map fun x=>[.str x]),hp,none):=by
 refine ZkV (by rw [hC.T]; rfl) ?_
 rfl
omit hC in
theorem ZvA (s:List UInt8):∀ (l:List (List UInt8)) (i:Nat),decide (V8 (isN s) (l.map fun x=>[.str x]) i ≥ 0)=l.any fun k=>decide (s=k)
 | [],_=>rfl
 | x :: r,i=>by
  have hx:isN s [.str x]=decide (x=s):=rfl
  simp only [List.map_cons,V8,List.any_cons,hx]
  by_cases h:x=s
  ·subst h; simp
  ·have h':¬ s=x:=fun e=>h e.symm
   simp [h,h',← ZvA s r (i + 1)]
theorem Zwy (n:Nat)(s:List UInt8)(hp:List Zt):Zc C (n + 2) Ay [.str s] hp=some (.bool (kwB s),hp,none):=by
 refine ZmX (by rw [hC.T]; rfl) ?_
 have h1:=Zu1 hC n hp
 have h2:=ZqI hC n hp s (kws.map fun x=>[.str x]) (by simp [kws]) (fun r hr=>by obtain ⟨x,_,rfl⟩:=List.mem_map.1 hr; rfl)
 have h3:=ZvA s kws 0
 simp only [F5,Wh,Wd,We,Xb,ZN,ZM,Z5,Z4,Yj,Yi,Xa,Zk,Wl,ZO,ZP,Yf,YQ,YS,YP,YR,YO,YT,Yk,Wm,Wt,Wn,Wp,Wj,Wu,Wq,Wo,Ws,Xi,ZQ,Yh,YU,YZ,YV,YX,Yx,YY,YW,Xe,QS,QY,QV,GY,Hf,He,Hd,Ha,GZ,Hl,Hm,Xf,Xh,Wi,Xg,Hg,QU,QX,QT,QW,Option.map_some,Xk,Xj,Xd,Xc,QZ,Xl,Zr,ZI,Yb,Ye,Yc,Yd,Ya,ZJ,ZL,Z0,ZK,YJ,YI,Yg,h1,h2,kwB,← h3]
theorem ZbD (n:Nat)(hp0:List Zt)(s:List UInt8)(hl:s.length≤140737488355328):∀ (r q:List UInt8) (m:Nat),s=q ++ r→r.length < m →
  JR C.G (Zc C (n + 1)) C.L hp0 (IJ C.G (Zc C (n + 1)) C.L hp0) m (.str s) (.int .i64 s.length) (.int .i64 q.length) hp0 none=some (.int .i64 (if r.all (fun x=>Zx0 x.toNat) then 0 else 3),hp0,none)
 | _,_,0,_,h=>by omega
 | [],q,m + 1,hq,_=>by
  have hlen:(s.length:Int)=q.length:=by rw [hq]; simp
  simp only [JR,IJ,Wh,Wd,We,Xb,ZN,ZM,Z5,Z4,Yj,Yi,Xa,Zk,Wl,ZO,ZP,Yf,YQ,YS,YP,YR,YO,YT,Yk,Wm,Wt,Wn,Wp,Wj,Wu,Wq,Wo,Ws,Xi,ZQ,Yh,YU,YZ,YV,YX,Yx,YY,YW,Xe,QS,QY,QV,GY,Hf,He,Hd,Ha,GZ,Hl,Hm,Xf,Xh,Wi,Xg,Hg,QU,QX,QT,QW,Option.map_some,Xk,Xj,Xd,Xc,QZ,Xl,Zr,ZI,Yb,Ye,Yc,Yd,Ya,ZJ,ZL,Z0,ZK,YJ,YI,Yg,hlen,Int.lt_irrefl,decide_false,Bool.false_eq_true,if_false,List.all_nil,if_true]
 | c :: r,q,m + 1,hq,hm=>by
  have hlen:(s.length:Int)=q.length + (r.length + 1):=by rw [hq]; simp
  have hlt:(q.length:Int) < q.length + (r.length + 1):=by omega
  have hql:q.length + (r.length + 1)≤140737488355328:=by rw [hq] at hl; simpa using hl
  have hx:=Zm1 s q r c hq
  have h1:=Zv5 hC n (c.toNat:Int) hp0
  have ih:=ZbD n hp0 s hl r (q ++ [c]) m (by rw [hq]; simp) (by simpa using hm)
  simp only [List.length_append,List.length_cons,List.length_nil,Nat.zero_add] at ih
  have hwr:=Uo q.length (by omega)
  rw [hlen] at ih ⊢
  have hch:Zx0 (c.toNat:Int)=(Zxg (c.toNat:Int) || decide ((c.toNat:Int)=95) || (decide (48≤(c.toNat:Int)) && decide ((c.toNat:Int)≤57))):=rfl
  rw [List.all_cons,hch]
  have q4:decide (48≤(c.toNat:Int))=!decide ((c.toNat:Int) < 48):=by by_cases h:(c.toNat:Int) < 48 <;> simp [h] <;> omega
  have q5:decide ((c.toNat:Int)≤57)=!decide ((c.toNat:Int) > 57):=by by_cases h:(c.toNat:Int) > 57 <;> simp [h] <;> omega
  have q6:decide ((c.toNat:Int)≠95)=!decide ((c.toNat:Int)=95):=by by_cases h:(c.toNat:Int)=95 <;> simp [h]
  rw [q4,q5]
  obtain ⟨lb,hb⟩:∃ b,Zxg (c.toNat:Int)=b:=⟨_,rfl⟩
  obtain ⟨b1,hb1⟩:∃ b,decide ((c.toNat:Int) < 48)=b:=⟨_,rfl⟩
  obtain ⟨b2,hb2⟩:∃ b,decide ((c.toNat:Int) > 57)=b:=⟨_,rfl⟩
  obtain ⟨b3,hb3⟩:∃ b,decide ((c.toNat:Int)=95)=b:=⟨_,rfl⟩
  cases lb <;> cases b1 <;> cases b2 <;> cases b3 <;> simp only [JR,Wh,Wd,We,Xb,ZN,ZM,Z5,Z4,Yj,Yi,Xa,Zk,Wl,ZO,ZP,Yf,YQ,YS,YP,YR,YO,YT,Yk,Wm,Wt,Wn,Wp,Wj,Wu,Wq,Wo,Ws,Xi,ZQ,Yh,YU,YZ,YV,YX,Yx,YY,YW,Xe,QS,QY,QV,GY,Hf,He,Hd,Ha,GZ,Hl,Hm,Xf,Xh,Wi,Xg,Hg,QU,QX,QT,QW,Option.map_some,Xk,Xj,Xd,Xc,QZ,Xl,Zr,ZI,Yb,Ye,Yc,Yd,Ya,ZJ,ZL,Z0,ZK,YJ,YI,Yg,hlt,decide_true,hx,h1,hb,hb1,hb2,hb3,q6,Bool.not_true,Bool.not_false,Bool.and_true,Bool.true_and,Bool.and_false,Bool.false_and,Bool.or_true,Bool.true_or,Bool.or_false,Bool.false_or,Bool.and_self,Bool.or_self,Bool.false_eq_true,Bool.true_eq_false,if_true,if_false,decide_true,decide_false,ne_eq,not_true_eq_false,not_false_eq_true,reduceCtorEq,hwr,ih]
theorem ZqC (n:Nat)(s:List UInt8)(hl:s.length≤140737488355328)(hp:List Zt):Zc C (n + 2) Kv [.str s] hp=some (.int .i64 (Gv s),hp,none):=by
 refine ZmD (by rw [hC.T]; rfl) ?_
 cases s with
 | nil=>simp [Il,Wh,Wd,We,Xb,ZN,ZM,Z5,Z4,Yj,Yi,Xa,Zk,Wl,ZO,ZP,Yf,YQ,YS,YP,YR,YO,YT,Yk,Wm,Wt,Wn,Wp,Wj,Wu,Wq,Wo,Ws,Xi,ZQ,Yh,YU,YZ,YV,YX,Yx,YY,YW,Xe,QS,QY,QV,GY,Hf,He,Hd,Ha,GZ,Hl,Hm,Xf,Xh,Wi,Xg,Hg,QU,QX,QT,QW,Option.map_some,Xk,Xj,Xd,Xc,QZ,Xl,Zr,ZI,Yb,Ye,Yc,Yd,Ya,ZJ,ZL,Z0,ZK,YJ,YI,Yg,Gv]
 | cons c r =>
  have h0:decide (c :: r=([]:List UInt8))=false:=rfl
  have h1:=Zv5 hC n (c.toNat:Int) hp
  have h2:=Zx8 hC n (c :: r) hp
  have hx:R6 (.str (c :: r)) (.int .i64 0)=some (.int .u8 c.toNat):=Zm1 (c :: r) [] r c rfl
  have h3:=ZbD hC n hp (c :: r) hl (c :: r) [] C.L rfl (by have:=hC.L; omega)
  by_cases q1:24 < (c :: r).length
  ·have q1':(((c :: r).length:Nat):Int) > 24:=by omega
   simp only [Il,Wh,Wd,We,Xb,ZN,ZM,Z5,Z4,Yj,Yi,Xa,Zk,Wl,ZO,ZP,Yf,YQ,YS,YP,YR,YO,YT,Yk,Wm,Wt,Wn,Wp,Wj,Wu,Wq,Wo,Ws,Xi,ZQ,Yh,YU,YZ,YV,YX,Yx,YY,YW,Xe,QS,QY,QV,GY,Hf,He,Hd,Ha,GZ,Hl,Hm,Xf,Xh,Wi,Xg,Hg,QU,QX,QT,QW,Option.map_some,Xk,Xj,Xd,Xc,QZ,Xl,Zr,ZI,Yb,Ye,Yc,Yd,Ya,ZJ,ZL,Z0,ZK,YJ,YI,Yg,h0,q1',Gv,q1,true_or,Bool.not_true,Bool.not_false,Bool.and_true,Bool.true_and,Bool.and_false,Bool.false_and,Bool.or_true,Bool.true_or,Bool.or_false,Bool.false_or,Bool.and_self,Bool.or_self,Bool.false_eq_true,Bool.true_eq_false,if_true,if_false,decide_true,decide_false,ne_eq,not_true_eq_false,not_false_eq_true,reduceCtorEq]
  ·have q1':¬ (((c :: r).length:Nat):Int) > 24:=by omega
   cases q2:Zxg (c.toNat:Int) with
   | false=>simp only [Il,Wh,Wd,We,Xb,ZN,ZM,Z5,Z4,Yj,Yi,Xa,Zk,Wl,ZO,ZP,Yf,YQ,YS,YP,YR,YO,YT,Yk,Wm,Wt,Wn,Wp,Wj,Wu,Wq,Wo,Ws,Xi,ZQ,Yh,YU,YZ,YV,YX,Yx,YY,YW,Xe,QS,QY,QV,GY,Hf,He,Hd,Ha,GZ,Hl,Hm,Xf,Xh,Wi,Xg,Hg,QU,QX,QT,QW,Option.map_some,Xk,Xj,Xd,Xc,QZ,Xl,Zr,ZI,Yb,Ye,Yc,Yd,Ya,ZJ,ZL,Z0,ZK,YJ,YI,Yg,h0,q1',Gv,q1,hx,h1,q2,true_or,or_true,Bool.not_true,Bool.not_false,Bool.and_true,Bool.true_and,Bool.and_false,Bool.false_and,Bool.or_true,Bool.true_or,Bool.or_false,Bool.false_or,Bool.and_self,Bool.or_self,Bool.false_eq_true,Bool.true_eq_false,if_true,if_false,decide_true,decide_false,ne_eq,not_true_eq_false,not_false_eq_true,reduceCtorEq]
   | true =>
    cases q3:kwB (c :: r) with
    | true=>simp only [Il,Wh,Wd,We,Xb,ZN,ZM,Z5,Z4,Yj,Yi,Xa,Zk,Wl,ZO,ZP,Yf,YQ,YS,YP,YR,YO,YT,Yk,Wm,Wt,Wn,Wp,Wj,Wu,Wq,Wo,Ws,Xi,ZQ,Yh,YU,YZ,YV,YX,Yx,YY,YW,Xe,QS,QY,QV,GY,Hf,He,Hd,Ha,GZ,Hl,Hm,Xf,Xh,Wi,Xg,Hg,QU,QX,QT,QW,Option.map_some,Xk,Xj,Xd,Xc,QZ,Xl,Zr,ZI,Yb,Ye,Yc,Yd,Ya,ZJ,ZL,Z0,ZK,YJ,YI,Yg,h0,q1',Gv,q1,hx,h1,q2,h2,q3,true_or,or_true,Bool.not_true,Bool.not_false,Bool.and_true,Bool.true_and,Bool.and_false,Bool.false_and,Bool.or_true,Bool.true_or,Bool.or_false,Bool.false_or,Bool.and_self,Bool.or_self,Bool.false_eq_true,Bool.true_eq_false,if_true,if_false,decide_true,decide_false,ne_eq,not_true_eq_false,not_false_eq_true,reduceCtorEq]
    | false=>simp only [Il,Wh,Wd,We,Xb,ZN,ZM,Z5,Z4,Yj,Yi,Xa,Zk,Wl,ZO,ZP,Yf,YQ,YS,YP,YR,YO,YT,Yk,Wm,Wt,Wn,Wp,Wj,Wu,Wq,Wo,Ws,Xi,ZQ,Yh,YU,YZ,YV,YX,Yx,YY,YW,Xe,QS,QY,QV,GY,Hf,He,Hd,Ha,GZ,Hl,Hm,Xf,Xh,Wi,Xg,Hg,QU,QX,QT,QW,Option.map_some,Xk,Xj,Xd,Xc,QZ,Xl,Zr,ZI,Yb,Ye,Yc,Yd,Ya,ZJ,ZL,Z0,ZK,YJ,YI,Yg,h0,q1',Gv,q1,hx,h1,q2,h2,q3,or_false,false_or,Bool.not_true,Bool.not_false,Bool.and_true,Bool.true_and,Bool.and_false,Bool.false_and,Bool.or_true,Bool.true_or,Bool.or_false,Bool.false_or,Bool.and_self,Bool.or_self,Bool.false_eq_true,Bool.true_eq_false,if_true,if_false,decide_true,decide_false,ne_eq,not_true_eq_false,not_false_eq_true,reduceCtorEq]; exact h3
theorem Cv (n:Nat)(hp0:List Zt)(s:List UInt8)(hl:s.length≤140737488355328):∀ (r q:List UInt8) (m:Nat),s=q ++ r→r.length < m →
  KX C.G (Zc C (n + 1)) C.L hp0 (Mq C.G (Zc C (n + 1)) C.L hp0) m (.str s) (.int .i64 q.length) hp0 none=some (.int .i64 (if r.all (fun x=>Zx0 x.toNat) then 0 else 3),hp0,none)
 | _,_,0,_,h=>by omega
 | [],q,m + 1,hq,_=>by
  have hlen:(s.length:Int)=q.length:=by rw [hq]; simp
  simp only [KX,Mq,Wh,Wd,We,Xb,ZN,ZM,Z5,Z4,Yj,Yi,Xa,Zk,Wl,ZO,ZP,Yf,YQ,YS,YP,YR,YO,YT,Yk,Wm,Wt,Wn,Wp,Wj,Wu,Wq,Wo,Ws,Xi,ZQ,Yh,YU,YZ,YV,YX,Yx,YY,YW,Xe,QS,QY,QV,GY,Hf,He,Hd,Ha,GZ,Hl,Hm,Xf,Xh,Wi,Xg,Hg,QU,QX,QT,QW,Option.map_some,Xk,Xj,Xd,Xc,QZ,Xl,Zr,ZI,Yb,Ye,Yc,Yd,Ya,ZJ,ZL,Z0,ZK,YJ,YI,Yg,hlen,Int.lt_irrefl,decide_false,Bool.false_eq_true,if_false,List.all_nil,if_true]
 | c :: r,q,m + 1,hq,hm=>by
  have hlen:(s.length:Int)=q.length + (r.length + 1):=by rw [hq]; simp
  have hlt:(q.length:Int) < q.length + (r.length + 1):=by omega
  have hql:q.length + (r.length + 1)≤140737488355328:=by rw [hq] at hl; simpa using hl
  have hx:=Zm1 s q r c hq
  have h1:=Zs4 hC n (c.toNat:Int) hp0
  have ih:=Cv n hp0 s hl r (q ++ [c]) m (by rw [hq]; simp) (by simpa using hm)
  simp only [List.length_append,List.length_cons,List.length_nil,Nat.zero_add] at ih
  have hwr:=Uo q.length (by omega)
  have hch:Zx0 (c.toNat:Int)=(Zxg (c.toNat:Int) || decide ((c.toNat:Int)=95) || (decide (48≤(c.toNat:Int)) && decide ((c.toNat:Int)≤57))):=rfl
  rw [List.all_cons,hch]
  have q4:decide (48≤(c.toNat:Int))=!decide ((c.toNat:Int) < 48):=by by_cases h:(c.toNat:Int) < 48 <;> simp [h] <;> omega
  have q5:decide ((c.toNat:Int)≤57)=!decide ((c.toNat:Int) > 57):=by by_cases h:(c.toNat:Int) > 57 <;> simp [h] <;> omega
  have q6:decide ((c.toNat:Int)≠95)=!decide ((c.toNat:Int)=95):=by by_cases h:(c.toNat:Int)=95 <;> simp [h]
  rw [q4,q5]
  obtain ⟨lb,hb⟩:∃ b,Zxg (c.toNat:Int)=b:=⟨_,rfl⟩
  obtain ⟨b1,hb1⟩:∃ b,decide ((c.toNat:Int) < 48)=b:=⟨_,rfl⟩
  obtain ⟨b2,hb2⟩:∃ b,decide ((c.toNat:Int) > 57)=b:=⟨_,rfl⟩
  obtain ⟨b3,hb3⟩:∃ b,decide ((c.toNat:Int)=95)=b:=⟨_,rfl⟩
  cases lb <;> cases b1 <;> cases b2 <;> cases b3 <;> simp only [KX,Wh,Wd,We,Xb,ZN,ZM,Z5,Z4,Yj,Yi,Xa,Zk,Wl,ZO,ZP,Yf,YQ,YS,YP,YR,YO,YT,Yk,Wm,Wt,Wn,Wp,Wj,Wu,Wq,Wo,Ws,Xi,ZQ,Yh,YU,YZ,YV,YX,Yx,YY,YW,Xe,QS,QY,QV,GY,Hf,He,Hd,Ha,GZ,Hl,Hm,Xf,Xh,Wi,Xg,Hg,QU,QX,QT,QW,Option.map_some,Xk,Xj,Xd,Xc,QZ,Xl,Zr,ZI,Yb,Ye,Yc,Yd,Ya,ZJ,ZL,Z0,ZK,YJ,YI,Yg,hlen,hlt,decide_true,hx,h1,hb,hb1,hb2,hb3,q6,Bool.not_true,Bool.not_false,Bool.and_true,Bool.true_and,Bool.and_false,Bool.false_and,Bool.or_true,Bool.true_or,Bool.or_false,Bool.false_or,Bool.and_self,Bool.or_self,Bool.false_eq_true,Bool.true_eq_false,if_true,if_false,decide_true,decide_false,ne_eq,not_true_eq_false,not_false_eq_true,reduceCtorEq,hwr,ih]
theorem Zoz (n:Nat)(s:List UInt8)(hl:s.length≤140737488355328)(hp:List Zt):Zc C (n + 3) H7 [.str s] hp=some (.int .i64 (Gv s),hp,none):=by
 refine Zro (by rw [hC.T]; rfl) ?_
 cases s with
 | nil=>simp [Lj,Wh,Wd,We,Xb,ZN,ZM,Z5,Z4,Yj,Yi,Xa,Zk,Wl,ZO,ZP,Yf,YQ,YS,YP,YR,YO,YT,Yk,Wm,Wt,Wn,Wp,Wj,Wu,Wq,Wo,Ws,Xi,ZQ,Yh,YU,YZ,YV,YX,Yx,YY,YW,Xe,QS,QY,QV,GY,Hf,He,Hd,Ha,GZ,Hl,Hm,Xf,Xh,Wi,Xg,Hg,QU,QX,QT,QW,Option.map_some,Xk,Xj,Xd,Xc,QZ,Xl,Zr,ZI,Yb,Ye,Yc,Yd,Ya,ZJ,ZL,Z0,ZK,YJ,YI,Yg,Gv]
 | cons c r =>
  have h0:¬ ((((c :: r).length:Nat):Int) < 1):=by simp; omega
  have h1:=Zs4 hC (n + 1) (c.toNat:Int) hp
  have h2:=Zwy hC n (c :: r) hp
  have hx:R6 (.str (c :: r)) (.int .i64 0)=some (.int .u8 c.toNat):=Zm1 (c :: r) [] r c rfl
  have h3:=Cv hC (n + 1) hp (c :: r) hl (c :: r) [] C.L rfl (by have:=hC.L; omega)
  by_cases q1:24 < (c :: r).length
  ·have q1':(((c :: r).length:Nat):Int) > 24:=by omega
   simp only [Lj,Wh,Wd,We,Xb,ZN,ZM,Z5,Z4,Yj,Yi,Xa,Zk,Wl,ZO,ZP,Yf,YQ,YS,YP,YR,YO,YT,Yk,Wm,Wt,Wn,Wp,Wj,Wu,Wq,Wo,Ws,Xi,ZQ,Yh,YU,YZ,YV,YX,Yx,YY,YW,Xe,QS,QY,QV,GY,Hf,He,Hd,Ha,GZ,Hl,Hm,Xf,Xh,Wi,Xg,Hg,QU,QX,QT,QW,Option.map_some,Xk,Xj,Xd,Xc,QZ,Xl,Zr,ZI,Yb,Ye,Yc,Yd,Ya,ZJ,ZL,Z0,ZK,YJ,YI,Yg,h0,q1',Gv,q1,true_or,Bool.not_true,Bool.not_false,Bool.and_true,Bool.true_and,Bool.and_false,Bool.false_and,Bool.or_true,Bool.true_or,Bool.or_false,Bool.false_or,Bool.and_self,Bool.or_self,Bool.false_eq_true,Bool.true_eq_false,if_true,if_false,decide_true,decide_false,ne_eq,not_true_eq_false,not_false_eq_true,reduceCtorEq]
  ·have q1':¬ (((c :: r).length:Nat):Int) > 24:=by omega
   cases q2:Zxg (c.toNat:Int) with
   | false=>simp only [Lj,Wh,Wd,We,Xb,ZN,ZM,Z5,Z4,Yj,Yi,Xa,Zk,Wl,ZO,ZP,Yf,YQ,YS,YP,YR,YO,YT,Yk,Wm,Wt,Wn,Wp,Wj,Wu,Wq,Wo,Ws,Xi,ZQ,Yh,YU,YZ,YV,YX,Yx,YY,YW,Xe,QS,QY,QV,GY,Hf,He,Hd,Ha,GZ,Hl,Hm,Xf,Xh,Wi,Xg,Hg,QU,QX,QT,QW,Option.map_some,Xk,Xj,Xd,Xc,QZ,Xl,Zr,ZI,Yb,Ye,Yc,Yd,Ya,ZJ,ZL,Z0,ZK,YJ,YI,Yg,h0,q1',Gv,q1,hx,h1,q2,true_or,or_true,Bool.not_true,Bool.not_false,Bool.and_true,Bool.true_and,Bool.and_false,Bool.false_and,Bool.or_true,Bool.true_or,Bool.or_false,Bool.false_or,Bool.and_self,Bool.or_self,Bool.false_eq_true,Bool.true_eq_false,if_true,if_false,decide_true,decide_false,ne_eq,not_true_eq_false,not_false_eq_true,reduceCtorEq]
   | true =>
    cases q3:kwB (c :: r) with
    | true=>simp only [Lj,Wh,Wd,We,Xb,ZN,ZM,Z5,Z4,Yj,Yi,Xa,Zk,Wl,ZO,ZP,Yf,YQ,YS,YP,YR,YO,YT,Yk,Wm,Wt,Wn,Wp,Wj,Wu,Wq,Wo,Ws,Xi,ZQ,Yh,YU,YZ,YV,YX,Yx,YY,YW,Xe,QS,QY,QV,GY,Hf,He,Hd,Ha,GZ,Hl,Hm,Xf,Xh,Wi,Xg,Hg,QU,QX,QT,QW,Option.map_some,Xk,Xj,Xd,Xc,QZ,Xl,Zr,ZI,Yb,Ye,Yc,Yd,Ya,ZJ,ZL,Z0,ZK,YJ,YI,Yg,h0,q1',Gv,q1,hx,h1,q2,h2,q3,true_or,or_true,Bool.not_true,Bool.not_false,Bool.and_true,Bool.true_and,Bool.and_false,Bool.false_and,Bool.or_true,Bool.true_or,Bool.or_false,Bool.false_or,Bool.and_self,Bool.or_self,Bool.false_eq_true,Bool.true_eq_false,if_true,if_false,decide_true,decide_false,ne_eq,not_true_eq_false,not_false_eq_true,reduceCtorEq]
    | false=>simp only [Lj,Wh,Wd,We,Xb,ZN,ZM,Z5,Z4,Yj,Yi,Xa,Zk,Wl,ZO,ZP,Yf,YQ,YS,YP,YR,YO,YT,Yk,Wm,Wt,Wn,Wp,Wj,Wu,Wq,Wo,Ws,Xi,ZQ,Yh,YU,YZ,YV,YX,Yx,YY,YW,Xe,QS,QY,QV,GY,Hf,He,Hd,Ha,GZ,Hl,Hm,Xf,Xh,Wi,Xg,Hg,QU,QX,QT,QW,Option.map_some,Xk,Xj,Xd,Xc,QZ,Xl,Zr,ZI,Yb,Ye,Yc,Yd,Ya,ZJ,ZL,Z0,ZK,YJ,YI,Yg,h0,q1',Gv,q1,hx,h1,q2,h2,q3,or_false,false_or,Bool.not_true,Bool.not_false,Bool.and_true,Bool.true_and,Bool.and_false,Bool.false_and,Bool.or_true,Bool.true_or,Bool.or_false,Bool.false_or,Bool.and_self,Bool.or_self,Bool.false_eq_true,Bool.true_eq_false,if_true,if_false,decide_true,decide_false,ne_eq,not_true_eq_false,not_false_eq_true,reduceCtorEq]; exact h3
end
end Go.Proofs.YtlmfmmclnboglaaGreat
end
section
namespace Go.Proofs.YtlmfmmclnboglaaGreat.Abs
open Go
set_option linter.all false
theorem EV :
  (∀ {α β:Type} (x:α) (f:α→β),Option.map f (some x)=some (f x)) ∧
  (∀ {α:Type} (v:α) (k:α→KR),Za (some v) k=k v) ∧
  (∀ {α β:Type} (a:α) (b:β) (k:α→β→KR),JJ (some (a,b)) k=k a b) ∧
  (∀ {α β γ:Type} (a:α) (b:β) (c:γ) (k:α→β→γ→KR),ZZ (some (a,b,c)) k=k a b c) ∧
  (∀ (b:Bool) (x y:KR),ifK (.bool b) x y=if b=true then x else y) ∧
  (∀ (x:KR) (hp:List Zt) (ef:Eff) (k:AV→List Zt→Eff→KR),Zd4 (some true) x hp ef k=ZZ x k) ∧
  (∀ (x:KR) (hp:List Zt) (ef:Eff) (k:AV→List Zt→Eff→KR),Zd4 (some false) x hp ef k=k .undef hp ef) ∧
  (∀ (b:Bool),Zd3 true (.bool b)=some b) ∧
  (∀ (b:Bool),Zd3 false (.bool b)=some (!b)) ∧
  (∀ (a b:AV),ZoQ (.bool true) a b=some a) ∧
  (∀ (a b:AV),ZoQ (.bool false) a b=some b) ∧
  (∀ (v:AV),gif true v=v) ∧
  (∀ (b:Bool) (v:AV) (hp:List Zt) (ef:Eff) (k:AV→List Zt→Eff→KR),Zd4 (some b) (some (v,hp,ef)) hp ef k=k (gif b v) hp ef) ∧
  (∀ (b:Bool) (v:AV),AV.ro (gif b v)=gif b (AV.ro v)) ∧
  (∀ (b c:Bool),ZoQ (.bool b) (gif b (.bool c)) (.bool false)=some (.bool (b && c))) ∧
  (∀ (b c:Bool),ZoQ (.bool b) (.bool true) (gif (!b) (.bool c))=some (.bool (b || c))) ∧
  (∀ (b c:Bool) (hp:List Zt) (ef:Eff) (k:AV→List Zt→Eff→KR),Qn (.bool b) true (some (.bool c,hp,ef)) (some (.bool false)) hp ef k=k (.bool (b && c)) hp ef) ∧
  (∀ (b c:Bool) (hp:List Zt) (ef:Eff) (k:AV→List Zt→Eff→KR),Qn (.bool b) false (some (.bool c,hp,ef)) (some (.bool true)) hp ef k=k (.bool (b || c)) hp ef) ∧
  (∀ (x:KR) (o:Option AV) (hp:List Zt) (ef:Eff) (k:AV→List Zt→Eff→KR),Qn (.bool true) true x o hp ef k=ZZ x k) ∧
  (∀ (x:KR) (v:AV) (hp:List Zt) (ef:Eff) (k:AV→List Zt→Eff→KR),Qn (.bool false) true x (some v) hp ef k=k v hp ef) ∧
  (∀ (x:KR) (v:AV) (hp:List Zt) (ef:Eff) (k:AV→List Zt→Eff→KR),Qn (.bool true) false x (some v) hp ef k=k v hp ef) ∧
  (∀ (x:KR) (o:Option AV) (hp:List Zt) (ef:Eff) (k:AV→List Zt→Eff→KR),Qn (.bool false) false x o hp ef k=ZZ x k) ∧
  (∀ {α:Type} (x:α) (k:α→KR),Vb x k=k x) ∧
  (∀ (b:Bool),AV.ro (.bool b)=.bool b) ∧
  (∀ (k:IntKind) (n:Int),AV.ro (.int k n)=.int k n) ∧
  (∀ (s:List UInt8),AV.ro (.str s)=.str s) ∧
  (∀ (k:Nat) (r:List (List AV)),AV.ro (.lst k r)=.lst k r) ∧
  (∀ (k:Nat) (r:List (List AV)),AV.ro (.own k r)=.lst k r) ∧
  (∀ (c:List AV),AV.ro (.agg c)=.agg c) ∧
  (∀ (c:List AV),AV.ro (.tup c)=.tup c) ∧
  (∀ (g o:Nat),AV.ro (.ptr g o)=.ptr g o) ∧
  (∀ (g:Nat),AV.ro (.map g)=.map g) ∧
  (∀ (c:List AV),AV.ro (.ref c)=.ref c) ∧
  (∀ (f:FuncId) (a c:List AV),AV.ro (.fn f a c)=.fn f a c) ∧
  (AV.ro .undef=.undef) ∧
  (∀ (b:Bool),AV.nm (.bool b)=.bool b) ∧
  (∀ (k:IntKind) (n:Int),AV.nm (.int k n)=.int k n) ∧
  (∀ (s:List UInt8),AV.nm (.str s)=.str s) ∧
  (∀ (k:Nat) (r:List (List AV)),AV.nm (.lst k r)=.lst k r) ∧
  (∀ (k:Nat) (r:List (List AV)),AV.nm (.own k r)=.lst k r) ∧
  (∀ (c:List AV),AV.nm (.agg c)=.agg (c.map AV.ro)) ∧
  (∀ (g o:Nat),AV.nm (.ptr g o)=.ptr g o) ∧
  (∀ (g:Nat),AV.nm (.map g)=.map g) ∧
  (∀ (f:FuncId) (a c:List AV),AV.nm (.fn f a c)=.fn f a c) ∧
  (∀ (k:IntKind) (a b:Int),Zb .add .prim (.int k a) (.int k b)=some (.int k (k.wrap (a + b)))) ∧
  (∀ (k:IntKind) (a b:Int),Zb .sub .prim (.int k a) (.int k b)=some (.int k (k.wrap (a - b)))) ∧
  (∀ (k:IntKind) (a b:Int),Zb .mul .prim (.int k a) (.int k b)=some (.int k (k.wrap (a * b)))) ∧
  (∀ (k:IntKind) (a b:Int),Zb .eql .prim (.int k a) (.int k b)=some (.bool (decide (a=b)))) ∧
  (∀ (k:IntKind) (a b:Int),Zb .neq .prim (.int k a) (.int k b)=some (.bool (decide (a≠b)))) ∧
  (∀ (k:IntKind) (a b:Int),Zb .lss .prim (.int k a) (.int k b)=some (.bool (decide (a < b)))) ∧
  (∀ (k:IntKind) (a b:Int),Zb .leq .prim (.int k a) (.int k b)=some (.bool (decide (a≤b)))) ∧
  (∀ (k:IntKind) (a b:Int),Zb .gtr .prim (.int k a) (.int k b)=some (.bool (decide (b < a)))) ∧
  (∀ (k:IntKind) (a b:Int),Zb .geq .prim (.int k a) (.int k b)=some (.bool (decide (b≤a)))) ∧
  (∀ (a b:List UInt8),Zb .eql .prim (.str a) (.str b)=some (.bool (decide (a=b)))) ∧
  (∀ (a b:List UInt8),Zb .neq .prim (.str a) (.str b)=some (.bool (decide (a≠b)))) ∧
  (∀ (ks:List CK) (k:IntKind) (x y:Int) (l m:List AV),V6 (.int :: ks) (.int k x :: l) (.int k y :: m)=if x=y then V6 ks l m else some false) ∧
  (∀ (ks:List CK) (x y:List UInt8) (l m:List AV),V6 (.str :: ks) (.str x :: l) (.str y :: m)=if x=y then V6 ks l m else some false) ∧
  (∀ (ks:List CK) (x y:Bool) (l m:List AV),V6 (.bool :: ks) (.bool x :: l) (.bool y :: m)=if x=y then V6 ks l m else some false) ∧
  (V6 [] [] []=some true) ∧
  (∀ (p:Prop) [Decidable p] (b:Bool),(if p then some b else some false)=some (decide p && b)) ∧
  (∀ (ks:List CK) (a b:List AV),Zb .eql (.struct ks) (.agg a) (.agg b)=(V6 ks a b).map .bool) ∧
  (∀ (ks:List CK) (a b:List AV),Zb .neq (.struct ks) (.agg a) (.agg b)=(V6 ks a b).map fun b=>.bool (!b)) ∧
  (∀ (a b:Bool),Zb .eql .bool (.bool a) (.bool b)=some (.bool (a == b))) ∧
  (∀ (a b:Bool),Zb .neq .bool (.bool a) (.bool b)=some (.bool (!(a == b)))) ∧
  (∀ (b:Bool),X8 .not (.bool b)=some (.bool (!b))) ∧
  (∀ (k:IntKind) (n:Int),X8 .neg (.int k n)=some (.int k (k.wrap (0 - n)))) ∧
  (∀ (hp:List Zt) (s:List UInt8),Z9 hp .str (.str s)=some (.int .i64 s.length)) ∧
  (∀ (hp:List Zt) (k:Nat) (r:List (List AV)),Z9 hp .slice (.lst k r)=some (.int .i64 r.length)) ∧
  (∀ (hp:List Zt) (k k':IntKind) (n:Int),PU hp (.int k) (.int k' n)=some (.int k (k.wrap n))) ∧
  (∀ (l:List AV) (i:Nat),JO (.tup l) i=(l[i]?).map AV.ro) ∧
  (∀ (bs:Nat) (ef:Eff),Zd bs ef none=ef) ∧
  (∀ (hp0:List Zt) (b:Bool) (hp:List Zt),Zq false hp0 (.bool b) hp none=(.bool b,hp0,none)) ∧
  (∀ (hp0:List Zt) (k:IntKind) (n:Int) (hp:List Zt),Zq false hp0 (.int k n) hp none=(.int k n,hp0,none)) ∧
  (∀ (hp0:List Zt) (s:List UInt8) (hp:List Zt),Zq false hp0 (.str s) hp none=(.str s,hp0,none)) ∧
  (∀ (hp0:List Zt) (k:Nat) (r:List (List AV)) (hp:List Zt),Zq false hp0 (.lst k r) hp none=(.lst k r,hp0,none)) ∧
  (∀ (hp0:List Zt) (k:Nat) (r:List (List AV)) (hp:List Zt),Zq false hp0 (.own k r) hp none=(.own k r,hp0,none)) ∧
  (∀ (bs:Nat) (hp:List Zt) (k:IntKind) (n:Int),Zja bs hp (.int k n)=some (.int k n)) ∧
  (∀ (bs:Nat) (hp:List Zt) (s:List UInt8),Zja bs hp (.str s)=some (.str s)) ∧
  (∀ (bs:Nat) (hp:List Zt) (b:Bool),Zja bs hp (.bool b)=some (.bool b)) ∧
  (∀ (bs:Nat) (hp:List Zt) (k:Nat) (r:List (List AV)),Zja bs hp (.lst k r)=some (.lst k r)) ∧
  (∀ (o:Nat) (c:List AV),Zg o (.ref c)=some (.ref (c.drop o))) ∧
  (∀ (o g p:Nat),Zg o (.ptr g p)=some (.ptr g (p + o))) ∧
  (∀ (hp:List Zt) (c:AV) (l:List AV),Ze hp (.ref (c :: l))=some c.ro) :=
 ⟨fun x f=>rfl,@Wh,@Wd,@We,@Xb,@ZN,@ZM,@Z5,@Z4,@Yj,@Yi,@Xa,@Zk,@Wl,@ZO,@ZP,@Yf,@YQ,@YS,@YP,@YR,@YO,@YT,@Yk,@Wm,@Wt,@Wn,@Wp,@Wj,@Wu,@Wq,@Wo,@Ws,@Xi,ZQ,@Yh,@YU,@YZ,@YV,@YX,@Yx,@YY,@YW,@Xe,@QS,@QY,@QV,@GY,@Hf,@He,@Hd,@Ha,@GZ,@Hl,@Hm,@Xf,@Xh,@Wi,Xg,@Hg,@QU,@QX,@QT,@QW,@Xk,@Xj,@Xd,@Xc,@QZ,@Xl,@Zr,@ZI,@Yb,@Ye,@Yc,@Yd,@ZJ,@ZL,@Z0,@ZK,@YJ,@YI,@Yg⟩
theorem BL:(!true)=false∧(!false)=true∧(∀ b:Bool,(b && true)=b)∧(∀ b:Bool,(true && b)=b)∧(∀ b:Bool,(b && false)=false)∧(∀ b:Bool,(false && b)=false)∧(∀ b:Bool,(b || true)=true)∧(∀ b:Bool,(true || b)=true)∧(∀ b:Bool,(b || false)=b)∧(∀ b:Bool,(false || b)=b)∧(∀ b:Bool,(!!b)=b):=by
 refine ⟨rfl,rfl,?_,?_,?_,?_,?_,?_,?_,?_,?_⟩ <;> intro b <;> cases b <;> rfl
theorem ifI (c:Prop)[Decidable c](k:IntKind)(a b:Int)(hp:List Zt)(e:Eff):(if c then some (AV.int k a,hp,e) else some (AV.int k b,hp,e))=some (AV.int k (if c then a else b),hp,e):=by split <;> rfl
theorem ifB (c:Prop)[Decidable c](a b:Bool)(hp:List Zt)(e:Eff):(if c then some (AV.bool a,hp,e) else some (AV.bool b,hp,e))=some (AV.bool (if c then a else b),hp,e):=by split <;> rfl
theorem ifS (c:Prop)[Decidable c](a b:List UInt8)(hp:List Zt)(e:Eff):(if c then some (AV.str a,hp,e) else some (AV.str b,hp,e))=some (AV.str (if c then a else b),hp,e):=by split <;> rfl
theorem IFJ:(∀ (c:Prop) [Decidable c] (k:IntKind) (a b:Int) (hp:List Zt) (e:Eff),(if c then some (AV.int k a,hp,e) else some (AV.int k b,hp,e))=some (AV.int k (if c then a else b),hp,e)) ∧
  (∀ (c:Prop) [Decidable c] (a b:Bool) (hp:List Zt) (e:Eff),(if c then some (AV.bool a,hp,e) else some (AV.bool b,hp,e))=some (AV.bool (if c then a else b),hp,e)) ∧
  (∀ (c:Prop) [Decidable c] (a b:List UInt8) (hp:List Zt) (e:Eff),(if c then some (AV.str a,hp,e) else some (AV.str b,hp,e))=some (AV.str (if c then a else b),hp,e)) ∧
  (∀ {α:Type} (c:Prop) [Decidable c] (a b d:α),(if c then (if c then a else b) else d)=if c then a else d)∧(∀ {α:Type} (c:Prop) [Decidable c] (a b d:α),(if c then a else (if c then b else d))=if c then a else d)∧(∀ {α:Type} (a b:α),(if true=true then a else b)=a)∧(∀ {α:Type} (a b:α),(if false=true then a else b)=b)∧(∀ {α:Type} (a b:α),(if True then a else b)=a)∧(∀ {α:Type} (a b:α),(if False then a else b)=b)∧(∀ (i:Decidable True),@decide True i=true)∧(∀ (i:Decidable False),@decide False i=false):=⟨ifI,ifB,ifS,fun c _ a b d=>by split <;> rfl,fun c _ a b d=>by split <;> rfl,fun _ _=>rfl,fun _ _=>rfl,fun _ _=>rfl,fun _ _=>rfl,fun i=>by cases i <;> simp,fun i=>by cases i <;> simp⟩
section
variable {hp:List Zt}{g:Nat}{cs:List AV}{t:TypeId}
theorem Gt (h:hp[g]? = some (.cells cs t))(x:Zt):(hp ++ [x])[g]? = some (.cells cs t):=by rw [List.getElem?_append_left (List.getElem?_eq_some_iff.1 h).1]; exact h
theorem ZpA {es:List (AV×AV)}(h:hp[g]? = some (.map es))(x:Zt):(hp ++ [x])[g]? = some (.map es):=by rw [List.getElem?_append_left (List.getElem?_eq_some_iff.1 h).1]; exact h
theorem FI (h:hp[g]? = some (.cells cs t))(n:Nat)(h1:cs.length=n)(h2:cs.map AV.ro=cs):Zp hp n (.ptr g 0)=some (.agg cs):=by
 rw [Zfm h n 0 (by omega),List.drop_zero,List.take_of_length_le (by omega),h2]
theorem LG (h:hp[g]? = some (.cells cs t)) :
  (∀ o,Ze hp (.ptr g o)=(cs[o]?).map AV.ro)∧(∀ x o,Ze (hp ++ [x]) (.ptr g o)=(cs[o]?).map AV.ro) ∧
  (∀ x y o,Ze (hp ++ [x] ++ [y]) (.ptr g o)=(cs[o]?).map AV.ro)∧(∀ x y z o,Ze (hp ++ [x] ++ [y] ++ [z]) (.ptr g o)=(cs[o]?).map AV.ro) ∧
  (∀ n,cs.length=n→cs.map AV.ro=cs→Zp hp n (.ptr g 0)=some (.agg cs))∧(∀ x n,cs.length=n→cs.map AV.ro=cs→Zp (hp ++ [x]) n (.ptr g 0)=some (.agg cs)) ∧
  (∀ x y n,cs.length=n→cs.map AV.ro=cs→Zp (hp ++ [x] ++ [y]) n (.ptr g 0)=some (.agg cs))∧(∀ x y z n,cs.length=n→cs.map AV.ro=cs→Zp (hp ++ [x] ++ [y] ++ [z]) n (.ptr g 0)=some (.agg cs)) :=
 ⟨fun o=>V7 h o,fun x o=>V7 (Gt h x) o,fun x y o=>V7 (Gt (Gt h x) y) o,fun x y z o=>V7 (Gt (Gt (Gt h x) y) z) o,
  fun n=>FI h n,fun x n=>FI (Gt h x) n,fun x y n=>FI (Gt (Gt h x) y) n,fun x y z n=>FI (Gt (Gt (Gt h x) y) z) n⟩
end
theorem N7 (bs n:Nat)(h:List Zt)(cs c:List AV)(t:TypeId)(ef:Eff)(h1:c.length=n)(h2:cs.length=n)(h4:bs≤h.length):stV bs n (.ptr h.length 0) (.agg c) (h ++ [.cells cs t]) ef=some (h ++ [.cells c t],ef):=by
 rw [Z0s bs n h cs t 0 (.agg c) ef h1 (by omega) rfl h4]
 have:splice cs 0 c=c:=by simp [splice,h1,← h2]
 rw [Zxy,this]
theorem Znq (bs:Nat)(h:List Zt)(c v:AV)(t:TypeId)(ef:Eff)(h1:v.one=true)(h4:bs≤h.length):Zla bs (.ptr h.length 0) v (h ++ [.cells [c] t]) ef=some (h ++ [.cells [v] t],ef):=by
 have e:=ZC h (.cells [c] t)
 simp only [Zla,e,Zld]
 have:Ak bs ef h.length 0=ef:=by simp [Ak]; omega
 simp [h1,this]
theorem Z0V (n:Nat)(c:List AV)(h:c.length=n):JL n (.agg c)=some c:=Bg n c h
theorem Z31:(∀ s,JL 1 (.str s)=some [.str s])∧(∀ k x,JL 1 (.int k x)=some [.int k x])∧(∀ b,JL 1 (.bool b)=some [.bool b])∧(∀ k r,JL 1 (.lst k r)=some [.lst k r])∧(∀ m,JL 1 (.map m)=some [.map m])∧(∀ g o,JL 1 (.ptr g o)=some [.ptr g o])∧(∀ f a c,JL 1 (.fn f a c)=some [.fn f a c]):=⟨fun _=>rfl,fun _ _=>rfl,fun _=>rfl,fun _ _=>rfl,fun _=>rfl,fun _ _=>rfl,fun _ _ _=>rfl⟩
theorem LD :
  (∀ (h:List Zt) (cs:List AV) (t:TypeId) (o:Nat),Ze (h ++ [.cells cs t]) (.ptr h.length o)=(cs[o]?).map AV.ro) ∧
  (∀ (h:List Zt) (cs:List AV) (t:TypeId) (o:Nat) (x:Zt),Ze (h ++ [.cells cs t] ++ [x]) (.ptr h.length o)=(cs[o]?).map AV.ro) ∧
  (∀ (h:List Zt) (cs:List AV) (t:TypeId) (o:Nat) (x y:Zt),Ze (h ++ [.cells cs t] ++ [x] ++ [y]) (.ptr h.length o)=(cs[o]?).map AV.ro) ∧
  (∀ (h:List Zt) (cs:List AV) (t:TypeId) (o:Nat) (x y z:Zt),Ze (h ++ [.cells cs t] ++ [x] ++ [y] ++ [z]) (.ptr h.length o)=(cs[o]?).map AV.ro) ∧
  (∀ (h:List Zt) (cs:List AV) (t:TypeId) (n:Nat),cs.length=n→cs.map AV.ro=cs→Zp (h ++ [.cells cs t]) n (.ptr h.length 0)=some (.agg cs)) ∧
  (∀ (h:List Zt) (cs:List AV) (t:TypeId) (n:Nat) (x:Zt),cs.length=n→cs.map AV.ro=cs→Zp (h ++ [.cells cs t] ++ [x]) n (.ptr h.length 0)=some (.agg cs)) ∧
  (∀ (h:List Zt) (cs:List AV) (t:TypeId) (n:Nat) (x y:Zt),cs.length=n→cs.map AV.ro=cs→Zp (h ++ [.cells cs t] ++ [x] ++ [y]) n (.ptr h.length 0)=some (.agg cs)) ∧
  (∀ (h:List Zt) (cs:List AV) (t:TypeId) (n:Nat) (x y z:Zt),cs.length=n→cs.map AV.ro=cs→Zp (h ++ [.cells cs t] ++ [x] ++ [y] ++ [z]) n (.ptr h.length 0)=some (.agg cs)) ∧
  (∀ (g o:Nat),Zg o (.ptr g 0)=some (.ptr g o))∧(∀ (n:Nat) (c:List AV),c.length=n→JL n (.agg c)=some c)∧(∀ (α β:Type) (f:α→β) (l:List α),(l.map f).length=l.length) ∧
  (∀ (hp:List Zt) (n:Nat) (c:List AV),c.length=n→c.map AV.ro=c→Zp hp n (.ref c)=some (.agg c))∧(∀ c:List AV,Zg 0 (.ref c)=some (.ref c))∧(∀ n:Nat,0 + n=n)∧(∀ (hp:List Zt) (c:List AV),Ze hp (.ref c)=(c[0]?).map AV.ro)∧(∀ (α:Type) (l:List α) (i j:Nat),(l.drop i)[j]? = l[i + j]?)∧(∀ n:Nat,n + 0=n) :=
 ⟨fun h cs t o=>ZqR h cs t o,fun h cs t o x=>V7 (Gt (ZC h _) x) o,fun h cs t o x y=>V7 (Gt (Gt (ZC h _) x) y) o,fun h cs t o x y z=>V7 (Gt (Gt (Gt (ZC h _) x) y) z) o,
  fun h cs t n=>FI (ZC h _) n,fun h cs t n x=>FI (Gt (ZC h _) x) n,fun h cs t n x y=>FI (Gt (Gt (ZC h _) x) y) n,fun h cs t n x y z=>FI (Gt (Gt (Gt (ZC h _) x) y) z) n,
  fun g o=>by rw [YI,Nat.zero_add],Z0V,fun _ _ f l=>List.length_map f,fun hp n c h1 h2=>by rw [Zm6 hp n c (by omega),List.take_of_length_le (by omega),h2],fun c=>by rw [YJ,List.drop_zero],Nat.zero_add,fun hp c=>by cases c <;> rfl,fun _ l i j=>List.getElem?_drop,Nat.add_zero⟩
def Z3r (x:KR)(hp:List Zt):KR :=
 match x with
 | some (v,_,none)=>if v.flat then some (v,hp,none) else none
 | _=>none
theorem QC :
  (∀ (K:FuncId→List AV→List Zt→KR) (f:FuncId) (a:List AV) (hp:List Zt),ZG K f a hp=Z3r (K f a hp) hp) ∧
  (∀ (b:Bool) (h hp:List Zt),Z3r (some (.bool b,h,none)) hp=some (.bool b,hp,none)) ∧
  (∀ (k:IntKind) (x:Int) (h hp:List Zt),Z3r (some (.int k x,h,none)) hp=some (.int k x,hp,none)) ∧
  (∀ (s:List UInt8) (h hp:List Zt),Z3r (some (.str s,h,none)) hp=some (.str s,hp,none)) :=
 ⟨fun _ _ _ _=>rfl,fun _ _ _=>rfl,fun _ _ _ _=>rfl,fun _ _ _=>rfl⟩
theorem lp {α:Type}(row:α→List AV){l q r:List α}{x:α}(h:l=q ++ x :: r)(hb:l.length≤4611686018427387) :
  decide ((q.length:Int) < (l.length:Int))=true∧(l.map row)[q.length]? = some (row x)∧IntKind.i64.wrap ((q.length:Int) + 1)=((q ++ [x]).length:Int)∧l=(q ++ [x]) ++ r∧x ∈ l:=by
 subst h
 refine ⟨?_,?_,?_,by simp,by simp⟩
 ·simp only [List.length_append,List.length_cons,decide_eq_true_eq]; omega
 ·simp
 ·have:q.length < 4611686018427387904:=by simp at hb; omega
  rw [Uo _ this]; simp
theorem lp0 {α:Type}{l q:List α}(h:l=q ++ []):decide ((q.length:Int) < (l.length:Int))=false:=by
 subst h; simp
def IL {α:Type}(f:α→Int):List α→Int
 | []=>0
 | x :: r=>if decide (f x≠0)=true then f x else IL f r
def Zzw {α:Type}(f:α→Int):List α→Int→Int
 | [],n=>n
 | x :: r,n=>Zzw f r (if f x > n then f x else n)
theorem fuel {C:Cfg}{N d:Nat}(h:d + 1≤N):∃ m,N=m + 1∧d≤m:=⟨N - 1,by omega,by omega⟩
theorem LIT :
  (∀ (e:TypeId) (k:IntKind) (x:Int) (hp:List Zt),ZbM e 1 [.int k x] hp=some (.own 1 [[.int k x]],hp))∧(∀ (e:TypeId) (k l:IntKind) (x y:Int) (hp:List Zt),ZbM e 1 [.int k x,.int l y] hp=some (.own 1 [[.int k x],[.int l y]],hp)) ∧
  (∀ (e:TypeId) (s:List UInt8) (hp:List Zt),ZbM e 1 [.str s] hp=some (.own 1 [[.str s]],hp)) :=
 ⟨fun _ _ _ _=>rfl,fun _ _ _ _ _ _=>rfl,fun _ _ _=>rfl⟩
theorem EX:(∀ (a:AV) (l:List AV),JO (.tup (a :: l)) 0=some a.ro)∧(∀ (a b:AV) (l:List AV),JO (.tup (a :: b :: l)) 1=some b.ro)∧(∀ (a b c:AV) (l:List AV),JO (.tup (a :: b :: c :: l)) 2=some c.ro)∧(∀ (a b c d:AV) (l:List AV),JO (.tup (a :: b :: c :: d :: l)) 3=some d.ro)∧(∀ (a b c d e:AV) (l:List AV),JO (.tup (a :: b :: c :: d :: e :: l)) 4=some e.ro) :=
 ⟨fun _ _=>rfl,fun _ _ _=>rfl,fun _ _ _ _=>rfl,fun _ _ _ _ _=>rfl,fun _ _ _ _ _ _=>rfl⟩
def Z0t {α:Type}(f:α→Int):List α→Int→Int
 | [],n=>n
 | x :: r,n=>Z0t f r (IntKind.i64.wrap (n + f x))
theorem max2 (a b:Int):ZyK [.int .i64 a,.int .i64 b]=some (.int .i64 (if b > a then b else a)):=rfl
theorem min2 (a b:Int):Z2F [.int .i64 a,.int .i64 b]=some (.int .i64 (if b < a then b else a)):=rfl
theorem Z34 (cs:List AV):fill cs []=some cs:=rfl
theorem GI:(∀ (α:Type) (a:α) (l:List α),(a :: l)[0]? = some a)∧(∀ (α:Type) (a b:α) (l:List α),(a :: b :: l)[1]? = some b)∧(∀ (α:Type) (a b c:α) (l:List α),(a :: b :: c :: l)[2]? = some c)∧(∀ (α:Type) (a b c d:α) (l:List α),(a :: b :: c :: d :: l)[3]? = some d):=⟨fun _ _ _=>rfl,fun _ _ _ _=>rfl,fun _ _ _ _ _=>rfl,fun _ _ _ _ _ _=>rfl⟩
def Z1i (hp0:List Zt)(x y:Option AV)(d:AV×List Zt×Eff):AV×List Zt×Eff :=
 match x,y with
 | some a,some b=>(.tup [a,b],hp0,none)
 | _,_=>d
def Z1j (hp0:List Zt)(x y z:Option AV)(d:AV×List Zt×Eff):AV×List Zt×Eff :=
 match x,y,z with
 | some a,some b,some c=>(.tup [a,b,c],hp0,none)
 | _,_,_=>d
theorem TUP:(∀ (hp0:List Zt) (a b:AV) (hp:List Zt),Zq false hp0 (.tup [a,b]) hp none=Z1i hp0 (Zja hp0.length hp a) (Zja hp0.length hp b) (.tup [a,b],hp,none)) ∧
  (∀ (hp0:List Zt) (a b c:AV) (hp:List Zt),Zq false hp0 (.tup [a,b,c]) hp none=Z1j hp0 (Zja hp0.length hp a) (Zja hp0.length hp b) (Zja hp0.length hp c) (.tup [a,b,c],hp,none)) ∧
  (∀ (hp0:List Zt) (a b:AV) (d:AV×List Zt×Eff),Z1i hp0 (some a) (some b) d=(.tup [a,b],hp0,none)) ∧
  (∀ (hp0:List Zt) (a b c:AV) (d:AV×List Zt×Eff),Z1j hp0 (some a) (some b) (some c) d=(.tup [a,b,c],hp0,none)):=by
 refine ⟨fun hp0 a b hp=>?_,fun hp0 a b c hp=>?_,fun _ _ _ _=>rfl,fun _ _ _ _ _=>rfl⟩
 ·rw [Ya]
  cases h1:Zja hp0.length hp a <;> cases h2:Zja hp0.length hp b <;> simp [Z1i,h1,h2]
 ·rw [Ya]
  cases h1:Zja hp0.length hp a <;> cases h2:Zja hp0.length hp b <;> cases h3:Zja hp0.length hp c <;> simp [Z1j,h1,h2,h3]
theorem STA {bs:Nat}{h:List Zt}(hh:bs≤h.length):∀ (n:Nat) (cs c:List AV) (t:TypeId) (ef:Eff),c.length=n→cs.length=n→stV bs n (.ptr h.length 0) (.agg c) (h ++ [.cells cs t]) ef=some (h ++ [.cells c t],ef) :=
 fun n cs c t ef h1 h2=>N7 bs n h cs c t ef h1 h2 hh
theorem LDP :
  (∀ (h:List Zt) (cs:List AV) (t:TypeId) (n o:Nat),(o == 0)=false→o + n≤cs.length→Zp (h ++ [.cells cs t]) n (.ptr h.length o)=some (.agg (((cs.drop o).take n).map AV.ro))) ∧
  (∀ (h:List Zt) (cs:List AV) (t:TypeId) (n o:Nat) (x:Zt),(o == 0)=false→o + n≤cs.length→Zp (h ++ [.cells cs t] ++ [x]) n (.ptr h.length o)=some (.agg (((cs.drop o).take n).map AV.ro))) ∧
  (∀ (h:List Zt) (cs:List AV) (t:TypeId) (n o:Nat) (x y:Zt),(o == 0)=false→o + n≤cs.length→Zp (h ++ [.cells cs t] ++ [x] ++ [y]) n (.ptr h.length o)=some (.agg (((cs.drop o).take n).map AV.ro))) :=
 ⟨fun h cs t n o _=>Zfm (ZC h _) n _,fun h cs t n o x _=>Zfm (Gt (ZC h _) x) n _,fun h cs t n o x y _=>Zfm (Gt (Gt (ZC h _) x) y) n _⟩
theorem LGP {hp:List Zt}{g:Nat}{cs:List AV}{t:TypeId}(hg:hp[g]? = some (.cells cs t)) :
  (∀ n o,(o == 0)=false→o + n≤cs.length→Zp hp n (.ptr g o)=some (.agg (((cs.drop o).take n).map AV.ro)))∧(∀ x n o,(o == 0)=false→o + n≤cs.length→Zp (hp ++ [x]) n (.ptr g o)=some (.agg (((cs.drop o).take n).map AV.ro)))∧(∀ x y n o,(o == 0)=false→o + n≤cs.length→Zp (hp ++ [x] ++ [y]) n (.ptr g o)=some (.agg (((cs.drop o).take n).map AV.ro))) :=
 ⟨fun n o _=>Zfm hg n o,fun x n o _=>Zfm (Gt hg x) n o,fun x y n o _=>Zfm (Gt (Gt hg x) y) n o⟩
theorem CO:type_of% (And.intro @EV (And.intro @LD (And.intro @BL (And.intro @IFJ (And.intro @GI @QC))))):=And.intro @EV (And.intro @LD (And.intro @BL (And.intro @IFJ (And.intro @GI @QC))))
end Go.Proofs.YtlmfmmclnboglaaGreat.Abs
end
section
namespace Go.Proofs.YtlmfmmclnboglaaGreat
open Go Go.RowKit Go.Proofs.YtlmfmmclnboglaaGreat.Abs
set_option linter.all false
set_option maxRecDepth 100000
set_option maxHeartbeats 0
def ints (l:List Int):List (List AV):=l.map fun x=>[.int .i64 x]
def strs (l:List (List UInt8)):List (List AV):=l.map fun x=>[.str x]
structure Jn where
 Name:List UInt8
 Ty:Int
 N:Int
 deriving DecidableEq
def X9 (x:Jn):List AV:=[.str x.Name,.int .i64 x.Ty,.int .i64 x.N]
theorem ZpR (x:Jn):(X9 x).length=3:=by rfl
theorem Znf (x:Jn):(X9 x).map AV.ro=X9 x:=by rfl
theorem Zyx (x:Jn):AV.nm (.agg (X9 x))=.agg (X9 x):=by rw [Yx,Znf]
theorem Z0i (x:Jn):(X9 x)[0]? = some (.str x.Name):=by rfl
theorem Z0j (x:Jn):(X9 x)[1]? = some (.int .i64 x.Ty):=by rfl
theorem Z0k (x:Jn):(X9 x)[2]? = some (.int .i64 x.N):=by rfl
structure ZdK (x:Jn):Prop where
 Name:x.Name.length≤140737488351232
 Ty:-9223372036854775808≤x.Ty∧x.Ty≤9223372036854775807
 N:-9223372036854775808≤x.N∧x.N≤9223372036854775807
structure O8 where
 At_:Int
 Units:Int
 deriving DecidableEq
def JH (x:O8):List AV:=[.int .i64 x.At_,.int .i64 x.Units]
theorem Zvg (x:O8):(JH x).length=2:=by rfl
theorem ZpN (x:O8):(JH x).map AV.ro=JH x:=by rfl
theorem ZwP (x:O8):AV.nm (.agg (JH x))=.agg (JH x):=by rw [Yx,ZpN]
theorem Zym (x:O8):(JH x)[0]? = some (.int .i64 x.At_):=by rfl
theorem Zyn (x:O8):(JH x)[1]? = some (.int .i64 x.Units):=by rfl
structure Zvw (x:O8):Prop where
 At_:-9223372036854775808≤x.At_∧x.At_≤9223372036854775807
 Units:-9223372036854775808≤x.Units∧x.Units≤9223372036854775807
structure TY where
 Op:Int
 A:Int
 B:Int
 N:Int
 Values:List Int
 Weights:List Int
 deriving DecidableEq
def Kk (x:TY):List AV:=[.int .i64 x.Op,.int .i64 x.A,.int .i64 x.B,.int .i64 x.N,.lst 1 (ints x.Values),.lst 1 (ints x.Weights)]
theorem Zyo (x:TY):(Kk x).length=6:=by rfl
theorem ZzL (x:TY):(Kk x).map AV.ro=Kk x:=by rfl
theorem Z1G (x:TY):(Kk x)[0]? = some (.int .i64 x.Op):=by rfl
theorem Z1H (x:TY):(Kk x)[1]? = some (.int .i64 x.A):=by rfl
theorem Z1I (x:TY):(Kk x)[2]? = some (.int .i64 x.B):=by rfl
theorem Z1J (x:TY):(Kk x)[3]? = some (.int .i64 x.N):=by rfl
theorem Z1K (x:TY):(Kk x)[4]? = some (.lst 1 (ints x.Values)):=by rfl
theorem Z1L (x:TY):(Kk x)[5]? = some (.lst 1 (ints x.Weights)):=by rfl
structure RU (x:TY):Prop where
 Op:-9223372036854775808≤x.Op∧x.Op≤9223372036854775807
 A:-9223372036854775808≤x.A∧x.A≤9223372036854775807
 B:-9223372036854775808≤x.B∧x.B≤9223372036854775807
 N:-9223372036854775808≤x.N∧x.N≤9223372036854775807
 Values:x.Values.length * 8≤140737488351232∧∀ y ∈ x.Values,-9223372036854775808≤y∧y≤9223372036854775807
 Weights:x.Weights.length * 8≤140737488351232∧∀ y ∈ x.Weights,-9223372036854775808≤y∧y≤9223372036854775807
structure Zag where
 Stream:List UInt8
 Up:TY
 Down:TY
 deriving DecidableEq
def TR (x:Zag):List AV:=[.str x.Stream] ++ Kk x.Up ++ Kk x.Down
theorem ZwQ (x:Zag):(TR x).length=13:=by rfl
theorem Zty (x:Zag):(TR x).map AV.ro=TR x:=by rfl
theorem Zyp (x:Zag):AV.nm (.agg (TR x))=.agg (TR x):=by rw [Yx,Zty]
theorem ZzN (x:Zag):(TR x)[0]? = some (.str x.Stream):=by rfl
theorem Ztx (x:Zag):((TR x).drop 1).take 6=Kk x.Up:=by rfl
theorem ZoX (x:Zag):((TR x).drop 7).take 6=Kk x.Down:=by rfl
structure ZtP (x:Zag):Prop where
 Stream:x.Stream.length≤140737488351232
 Up:RU x.Up
 Down:RU x.Down
structure ZY where
 Name:List UInt8
 Units:Int
 Shift:List O8
 Cycle:Int
 Fault:Zag
 deriving DecidableEq
def Zu (x:ZY):List AV:=[.str x.Name,.int .i64 x.Units,.lst 2 (x.Shift.map JH),.int .i64 x.Cycle] ++ TR x.Fault
theorem Al (x:ZY):(Zu x).length=17:=by rfl
theorem DK (x:ZY):(Zu x).map AV.ro=Zu x:=by rfl
theorem ZkZ (x:ZY):AV.nm (.agg (Zu x))=.agg (Zu x):=by rw [Yx,DK]
theorem Zna (x:ZY):(Zu x)[0]? = some (.str x.Name):=by rfl
theorem Znb (x:ZY):(Zu x)[1]? = some (.int .i64 x.Units):=by rfl
theorem Znc (x:ZY):(Zu x)[2]? = some (.lst 2 (x.Shift.map JH)):=by rfl
theorem Znd (x:ZY):(Zu x)[3]? = some (.int .i64 x.Cycle):=by rfl
theorem Zne (x:ZY):(Zu x)[4]? = some (.str x.Fault.Stream):=by rfl
theorem CU (x:ZY):((Zu x).drop 4).take 13=TR x.Fault:=by rfl
structure V9 (x:ZY):Prop where
 Name:x.Name.length≤140737488351232
 Units:-9223372036854775808≤x.Units∧x.Units≤9223372036854775807
 Shift:x.Shift.length * 16≤140737488351232∧∀ y ∈ x.Shift,Zvw y
 Cycle:-9223372036854775808≤x.Cycle∧x.Cycle≤9223372036854775807
 Fault:ZtP x.Fault
structure Q6 where
 Name:List UInt8
 Room:Int
 Policy:Int
 deriving DecidableEq
def Yo (x:Q6):List AV:=[.str x.Name,.int .i64 x.Room,.int .i64 x.Policy]
theorem ED (x:Q6):(Yo x).length=3:=by rfl
theorem Pj (x:Q6):(Yo x).map AV.ro=Yo x:=by rfl
theorem ZrA (x:Q6):AV.nm (.agg (Yo x))=.agg (Yo x):=by rw [Yx,Pj]
theorem Zt7 (x:Q6):(Yo x)[0]? = some (.str x.Name):=by rfl
theorem Zt8 (x:Q6):(Yo x)[1]? = some (.int .i64 x.Room):=by rfl
theorem Zt9 (x:Q6):(Yo x)[2]? = some (.int .i64 x.Policy):=by rfl
structure ZdJ (x:Q6):Prop where
 Name:x.Name.length≤140737488351232
 Room:-9223372036854775808≤x.Room∧x.Room≤9223372036854775807
 Policy:-9223372036854775808≤x.Policy∧x.Policy≤9223372036854775807
structure XK where
 Name:List UInt8
 Length:Int
 Step:Int
 deriving DecidableEq
def YL (x:XK):List AV:=[.str x.Name,.int .i64 x.Length,.int .i64 x.Step]
theorem ZgW (x:XK):(YL x).length=3:=by rfl
theorem ZbS (x:XK):(YL x).map AV.ro=YL x:=by rfl
theorem Ztv (x:XK):AV.nm (.agg (YL x))=.agg (YL x):=by rw [Yx,ZbS]
theorem Zvd (x:XK):(YL x)[0]? = some (.str x.Name):=by rfl
theorem Zve (x:XK):(YL x)[1]? = some (.int .i64 x.Length):=by rfl
theorem Zvf (x:XK):(YL x)[2]? = some (.int .i64 x.Step):=by rfl
structure Zhg (x:XK):Prop where
 Name:x.Name.length≤140737488351232
 Length:-9223372036854775808≤x.Length∧x.Length≤9223372036854775807
 Step:-9223372036854775808≤x.Step∧x.Step≤9223372036854775807
structure Ov where
 Name:List UInt8
 Ty:Int
 deriving DecidableEq
def Vg (x:Ov):List AV:=[.str x.Name,.int .i64 x.Ty]
theorem ZwR (x:Ov):(Vg x).length=2:=by rfl
theorem Ztz (x:Ov):(Vg x).map AV.ro=Vg x:=by rfl
theorem Zyq (x:Ov):AV.nm (.agg (Vg x))=.agg (Vg x):=by rw [Yx,Ztz]
theorem ZzO (x:Ov):(Vg x)[0]? = some (.str x.Name):=by rfl
theorem ZzP (x:Ov):(Vg x)[1]? = some (.int .i64 x.Ty):=by rfl
structure Zli (x:Ov):Prop where
 Name:x.Name.length≤140737488351232
 Ty:-9223372036854775808≤x.Ty∧x.Ty≤9223372036854775807
structure Q3 where
 Op:Int
 Name:List UInt8
 N:Int
 Kids:List Q3
mutual
def WG:Q3→List AV
 | ⟨a0,a1,a2,a3⟩=>[.int .i64 a0,.str a1,.int .i64 a2,.lst 4 (Ztw a3)]
def Ztw:List Q3→List (List AV)
 | []=>[]
 | x :: l=>WG x :: Ztw l
end
theorem ZpO:∀ l:List Q3,Ztw l=l.map WG
 | []=>by rw [Ztw]; rfl
 | x :: l=>by rw [Ztw,ZpO l]; rfl
theorem VN (x:Q3):WG x=[.int .i64 x.Op,.str x.Name,.int .i64 x.N,.lst 4 (x.Kids.map WG)]:=by
 cases x; rw [WG]; simp only [ZpO]
theorem Nz (x:Q3):(WG x).length=4:=by rw [VN]; rfl
theorem Zr6 (x:Q3):(WG x).map AV.ro=WG x:=by rw [VN]; rfl
theorem ZzM (x:Q3):AV.nm (.agg (WG x))=.agg (WG x):=by rw [Yx,Zr6]
theorem Z1M (x:Q3):(WG x)[0]? = some (.int .i64 x.Op):=by rw [VN]; rfl
theorem Z1N (x:Q3):(WG x)[1]? = some (.str x.Name):=by rw [VN]; rfl
theorem Z1O (x:Q3):(WG x)[2]? = some (.int .i64 x.N):=by rw [VN]; rfl
theorem Z1P (x:Q3):(WG x)[3]? = some (.lst 4 (x.Kids.map WG)):=by rw [VN]; rfl
inductive XQ:Q3→Prop
 | mk (x:Q3) (hOp:-9223372036854775808≤x.Op∧x.Op≤9223372036854775807) (hName:x.Name.length≤140737488351232) (hN:-9223372036854775808≤x.N∧x.N≤9223372036854775807) (hKids1:x.Kids.length * 56≤140737488351232) (hKids2:∀ y ∈ x.Kids,XQ y):XQ x
theorem XQ.Op {x:Q3}(h:XQ x):-9223372036854775808≤x.Op∧x.Op≤9223372036854775807:=by cases h; assumption
theorem XQ.Name {x:Q3}(h:XQ x):x.Name.length≤140737488351232:=by cases h; assumption
theorem XQ.N {x:Q3}(h:XQ x):-9223372036854775808≤x.N∧x.N≤9223372036854775807:=by cases h; assumption
theorem XQ.Kids {x:Q3}(h:XQ x):x.Kids.length * 56≤140737488351232∧∀ y ∈ x.Kids,XQ y:=by cases h; constructor <;> assumption
structure WT where
 Op:Int
 Name:List UInt8
 Of:List UInt8
 E:Q3
 F:Q3
 Args:List Q3
 Dist:TY
 Flag:Bool
 Body:List WT
 Else:List WT
mutual
def Y9:WT→List AV
 | ⟨a0,a1,a2,a3,a4,a5,a6,a7,a8,a9⟩=>[.int .i64 a0,.str a1,.str a2] ++ WG a3 ++ WG a4 ++ [.lst 4 (a5.map WG)] ++ Kk a6 ++ [.bool a7,.lst 21 (ZpP a8),.lst 21 (ZpP a9)]
def ZpP:List WT→List (List AV)
 | []=>[]
 | x :: l=>Y9 x :: ZpP l
end
theorem ZpQ:∀ l:List WT,ZpP l=l.map Y9
 | []=>by rw [ZpP]; rfl
 | x :: l=>by rw [ZpP,ZpQ l]; rfl
theorem O5 (x:WT):Y9 x=[.int .i64 x.Op,.str x.Name,.str x.Of] ++ WG x.E ++ WG x.F ++ [.lst 4 (x.Args.map WG)] ++ Kk x.Dist ++ [.bool x.Flag,.lst 21 (x.Body.map Y9),.lst 21 (x.Else.map Y9)]:=by
 cases x; rw [Y9]; simp only [ZpQ]
theorem Zyv (x:WT):(Y9 x).length=21:=by rw [O5]; simp only [VN]; rfl
theorem Z0g (x:WT):(Y9 x).map AV.ro=Y9 x:=by rw [O5]; simp only [VN]; rfl
theorem Z1U (x:WT):(Y9 x)[0]? = some (.int .i64 x.Op):=by rw [O5]; simp only [VN]; rfl
theorem Z1V (x:WT):(Y9 x)[1]? = some (.str x.Name):=by rw [O5]; simp only [VN]; rfl
theorem Z1W (x:WT):(Y9 x)[2]? = some (.str x.Of):=by rw [O5]; simp only [VN]; rfl
theorem Z0c (x:WT):(Y9 x)[11]? = some (.lst 4 (x.Args.map WG)):=by rw [O5]; simp only [VN]; rfl
theorem Z0d (x:WT):(Y9 x)[18]? = some (.bool x.Flag):=by rw [O5]; simp only [VN]; rfl
theorem Z0e (x:WT):(Y9 x)[19]? = some (.lst 21 (x.Body.map Y9)):=by rw [O5]; simp only [VN]; rfl
theorem Z0f (x:WT):(Y9 x)[20]? = some (.lst 21 (x.Else.map Y9)):=by rw [O5]; simp only [VN]; rfl
theorem ZwY (x:WT):((Y9 x).drop 3).take 4=WG x.E:=by rw [O5]; simp only [VN]; rfl
theorem ZwZ (x:WT):((Y9 x).drop 7).take 4=WG x.F:=by rw [O5]; simp only [VN]; rfl
theorem Zr9 (x:WT):((Y9 x).drop 12).take 6=Kk x.Dist:=by rw [O5]; simp only [VN]; rfl
inductive Vq:WT→Prop
 | mk (x:WT) (hOp:-9223372036854775808≤x.Op∧x.Op≤9223372036854775807) (hName:x.Name.length≤140737488351232) (hOf:x.Of.length≤140737488351232) (hE:XQ x.E) (hF:XQ x.F) (hArgs1:x.Args.length * 56≤140737488351232) (hArgs2:∀ y ∈ x.Args,XQ y) (hDist:RU x.Dist) (hFlag:True) (hBody1:x.Body.length * 312≤140737488351232) (hBody2:∀ y ∈ x.Body,Vq y) (hElse1:x.Else.length * 312≤140737488351232) (hElse2:∀ y ∈ x.Else,Vq y):Vq x
theorem Vq.Op {x:WT}(h:Vq x):-9223372036854775808≤x.Op∧x.Op≤9223372036854775807:=by cases h; assumption
theorem Vq.Name {x:WT}(h:Vq x):x.Name.length≤140737488351232:=by cases h; assumption
theorem Vq.Of {x:WT}(h:Vq x):x.Of.length≤140737488351232:=by cases h; assumption
theorem Vq.E {x:WT}(h:Vq x):XQ x.E:=by cases h; assumption
theorem Vq.F {x:WT}(h:Vq x):XQ x.F:=by cases h; assumption
theorem Vq.Args {x:WT}(h:Vq x):x.Args.length * 56≤140737488351232∧∀ y ∈ x.Args,XQ y:=by cases h; constructor <;> assumption
theorem Vq.Dist {x:WT}(h:Vq x):RU x.Dist:=by cases h; assumption
theorem Vq.Flag {x:WT}(h:Vq x):True:=by cases h; assumption
theorem Vq.Body {x:WT}(h:Vq x):x.Body.length * 312≤140737488351232∧∀ y ∈ x.Body,Vq y:=by cases h; constructor <;> assumption
theorem Vq.Else {x:WT}(h:Vq x):x.Else.length * 312≤140737488351232∧∀ y ∈ x.Else,Vq y:=by cases h; constructor <;> assumption
structure QI where
 Name:List UInt8
 Params:List Ov
 Locals:List Ov
 Body:List WT
def Yr (x:QI):List AV:=[.str x.Name,.lst 2 (x.Params.map Vg),.lst 2 (x.Locals.map Vg),.lst 21 (x.Body.map Y9)]
theorem Zj6 (x:QI):(Yr x).length=4:=by rfl
theorem Zfu (x:QI):(Yr x).map AV.ro=Yr x:=by rfl
theorem Zvh (x:QI):AV.nm (.agg (Yr x))=.agg (Yr x):=by rw [Yx,Zfu]
theorem ZwT (x:QI):(Yr x)[0]? = some (.str x.Name):=by rfl
theorem ZwU (x:QI):(Yr x)[1]? = some (.lst 2 (x.Params.map Vg)):=by rfl
theorem ZwV (x:QI):(Yr x)[2]? = some (.lst 2 (x.Locals.map Vg)):=by rfl
theorem ZwW (x:QI):(Yr x)[3]? = some (.lst 21 (x.Body.map Y9)):=by rfl
structure P6 (x:QI):Prop where
 Name:x.Name.length≤140737488351232
 Params:x.Params.length * 24≤140737488351232∧∀ y ∈ x.Params,Zli y
 Locals:x.Locals.length * 24≤140737488351232∧∀ y ∈ x.Locals,Zli y
 Body:x.Body.length * 312≤140737488351232∧∀ y ∈ x.Body,Vq y
structure G8 where
 Routine:List UInt8
 Args:List Int
 At_:Int
 Every:Int
 Until:Int
 deriving DecidableEq
def Vr (x:G8):List AV:=[.str x.Routine,.lst 1 (ints x.Args),.int .i64 x.At_,.int .i64 x.Every,.int .i64 x.Until]
theorem ZwX (x:G8):(Vr x).length=5:=by rfl
theorem Zt6 (x:G8):(Vr x).map AV.ro=Vr x:=by rfl
theorem Zyu (x:G8):AV.nm (.agg (Vr x))=.agg (Vr x):=by rw [Yx,Zt6]
theorem ZzX (x:G8):(Vr x)[0]? = some (.str x.Routine):=by rfl
theorem ZzY (x:G8):(Vr x)[1]? = some (.lst 1 (ints x.Args)):=by rfl
theorem ZzZ (x:G8):(Vr x)[2]? = some (.int .i64 x.At_):=by rfl
theorem Z0a (x:G8):(Vr x)[3]? = some (.int .i64 x.Every):=by rfl
theorem Z0b (x:G8):(Vr x)[4]? = some (.int .i64 x.Until):=by rfl
structure Sj (x:G8):Prop where
 Routine:x.Routine.length≤140737488351232
 Args:x.Args.length * 8≤140737488351232∧∀ y ∈ x.Args,-9223372036854775808≤y∧y≤9223372036854775807
 At_:-9223372036854775808≤x.At_∧x.At_≤9223372036854775807
 Every:-9223372036854775808≤x.Every∧x.Every≤9223372036854775807
 Until:-9223372036854775808≤x.Until∧x.Until≤9223372036854775807
structure MZ where
 Coef:Int
 What:List UInt8
 Name:List UInt8
 deriving DecidableEq
def Ot (x:MZ):List AV:=[.int .i64 x.Coef,.str x.What,.str x.Name]
theorem Zyw (x:MZ):(Ot x).length=3:=by rfl
theorem ZvS (x:MZ):(Ot x).map AV.ro=Ot x:=by rfl
theorem Z0h (x:MZ):AV.nm (.agg (Ot x))=.agg (Ot x):=by rw [Yx,ZvS]
theorem Z1X (x:MZ):(Ot x)[0]? = some (.int .i64 x.Coef):=by rfl
theorem Z1Y (x:MZ):(Ot x)[1]? = some (.str x.What):=by rfl
theorem Z1Z (x:MZ):(Ot x)[2]? = some (.str x.Name):=by rfl
structure Z0z (x:MZ):Prop where
 Coef:-9223372036854775808≤x.Coef∧x.Coef≤9223372036854775807
 What:x.What.length≤140737488351232
 Name:x.Name.length≤140737488351232
structure Zfy where
 Name:List UInt8
 Terms:List MZ
 Total:Int
 deriving DecidableEq
def EF (x:Zfy):List AV:=[.str x.Name,.lst 3 (x.Terms.map Ot),.int .i64 x.Total]
theorem ZzQ (x:Zfy):(EF x).length=3:=by rfl
theorem Zyr (x:Zfy):(EF x).map AV.ro=EF x:=by rfl
theorem Z1Q (x:Zfy):AV.nm (.agg (EF x))=.agg (EF x):=by rw [Yx,Zyr]
theorem Z2V (x:Zfy):(EF x)[0]? = some (.str x.Name):=by rfl
theorem Z2W (x:Zfy):(EF x)[1]? = some (.lst 3 (x.Terms.map Ot)):=by rfl
theorem Z2X (x:Zfy):(EF x)[2]? = some (.int .i64 x.Total):=by rfl
structure ZrQ (x:Zfy):Prop where
 Name:x.Name.length≤140737488351232
 Terms:x.Terms.length * 40≤140737488351232∧∀ y ∈ x.Terms,Z0z y
 Total:-9223372036854775808≤x.Total∧x.Total≤9223372036854775807
structure Zi where
 Name:List UInt8
 Vars:List Jn
 Resources:List ZY
 Stores:List Q6
 Belts:List XK
 Queues:List (List UInt8)
 Streams:List (List UInt8)
 Tallies:List (List UInt8)
 Levels:List (List UInt8)
 Counts:List (List UInt8)
 Routines:List QI
 Starts:List G8
 Laws:List Zfy
def Zj (x:Zi):List AV:=[.str x.Name,.lst 3 (x.Vars.map X9),.lst 17 (x.Resources.map Zu),.lst 3 (x.Stores.map Yo),.lst 3 (x.Belts.map YL),.lst 1 (strs x.Queues),.lst 1 (strs x.Streams),.lst 1 (strs x.Tallies),.lst 1 (strs x.Levels),.lst 1 (strs x.Counts),.lst 4 (x.Routines.map Yr),.lst 5 (x.Starts.map Vr),.lst 3 (x.Laws.map EF)]
theorem Zr8 (x:Zi):(Zj x).length=13:=by rfl
theorem Zj7 (x:Zi):(Zj x).map AV.ro=Zj x:=by rfl
theorem Zt5 (x:Zi):AV.nm (.agg (Zj x))=.agg (Zj x):=by rw [Yx,Zj7]
theorem Zvi (x:Zi):(Zj x)[0]? = some (.str x.Name):=by rfl
theorem Zvj (x:Zi):(Zj x)[1]? = some (.lst 3 (x.Vars.map X9)):=by rfl
theorem Zvk (x:Zi):(Zj x)[2]? = some (.lst 17 (x.Resources.map Zu)):=by rfl
theorem Zvl (x:Zi):(Zj x)[3]? = some (.lst 3 (x.Stores.map Yo)):=by rfl
theorem Zvm (x:Zi):(Zj x)[4]? = some (.lst 3 (x.Belts.map YL)):=by rfl
theorem Zvn (x:Zi):(Zj x)[5]? = some (.lst 1 (strs x.Queues)):=by rfl
theorem Zvo (x:Zi):(Zj x)[6]? = some (.lst 1 (strs x.Streams)):=by rfl
theorem Zvp (x:Zi):(Zj x)[7]? = some (.lst 1 (strs x.Tallies)):=by rfl
theorem Zvq (x:Zi):(Zj x)[8]? = some (.lst 1 (strs x.Levels)):=by rfl
theorem Zvr (x:Zi):(Zj x)[9]? = some (.lst 1 (strs x.Counts)):=by rfl
theorem Zt2 (x:Zi):(Zj x)[10]? = some (.lst 4 (x.Routines.map Yr)):=by rfl
theorem Zt3 (x:Zi):(Zj x)[11]? = some (.lst 5 (x.Starts.map Vr)):=by rfl
theorem Zt4 (x:Zi):(Zj x)[12]? = some (.lst 3 (x.Laws.map EF)):=by rfl
structure Yl (x:Zi):Prop where
 Name:x.Name.length≤140737488351232
 Vars:x.Vars.length * 32≤140737488351232∧∀ y ∈ x.Vars,ZdK y
 Resources:x.Resources.length * 232≤140737488351232∧∀ y ∈ x.Resources,V9 y
 Stores:x.Stores.length * 32≤140737488351232∧∀ y ∈ x.Stores,ZdJ y
 Belts:x.Belts.length * 32≤140737488351232∧∀ y ∈ x.Belts,Zhg y
 Queues:x.Queues.length * 16≤140737488351232∧∀ y ∈ x.Queues,y.length≤140737488351232
 Streams:x.Streams.length * 16≤140737488351232∧∀ y ∈ x.Streams,y.length≤140737488351232
 Tallies:x.Tallies.length * 16≤140737488351232∧∀ y ∈ x.Tallies,y.length≤140737488351232
 Levels:x.Levels.length * 16≤140737488351232∧∀ y ∈ x.Levels,y.length≤140737488351232
 Counts:x.Counts.length * 16≤140737488351232∧∀ y ∈ x.Counts,y.length≤140737488351232
 Routines:x.Routines.length * 88≤140737488351232∧∀ y ∈ x.Routines,P6 y
 Starts:x.Starts.length * 64≤140737488351232∧∀ y ∈ x.Starts,Sj y
 Laws:x.Laws.length * 48≤140737488351232∧∀ y ∈ x.Laws,ZrQ y
structure DV where
 From:List UInt8
 To:List UInt8
 Delay:Int
 deriving DecidableEq
def KM (x:DV):List AV:=[.str x.From,.str x.To,.int .i64 x.Delay]
theorem Zys (x:DV):(KM x).length=3:=by rfl
theorem ZvR (x:DV):(KM x).map AV.ro=KM x:=by rfl
theorem ZzR (x:DV):AV.nm (.agg (KM x))=.agg (KM x):=by rw [Yx,ZvR]
theorem Z1R (x:DV):(KM x)[0]? = some (.str x.From):=by rfl
theorem Z1S (x:DV):(KM x)[1]? = some (.str x.To):=by rfl
theorem Z1T (x:DV):(KM x)[2]? = some (.int .i64 x.Delay):=by rfl
structure Z0y (x:DV):Prop where
 From:x.From.length≤140737488351232
 To:x.To.length≤140737488351232
 Delay:-9223372036854775808≤x.Delay∧x.Delay≤9223372036854775807
structure VX where
 Name:List UInt8
 Params:List Jn
 Sites:List Zi
 Links:List DV
def Vh (x:VX):List AV:=[.str x.Name,.lst 3 (x.Params.map X9),.lst 13 (x.Sites.map Zj),.lst 3 (x.Links.map KM)]
theorem ZwS (x:VX):(Vh x).length=4:=by rfl
theorem Zt0 (x:VX):(Vh x).map AV.ro=Vh x:=by rfl
theorem Zyt (x:VX):AV.nm (.agg (Vh x))=.agg (Vh x):=by rw [Yx,Zt0]
theorem ZzS (x:VX):(Vh x)[0]? = some (.str x.Name):=by rfl
theorem ZzT (x:VX):(Vh x)[1]? = some (.lst 3 (x.Params.map X9)):=by rfl
theorem ZzU (x:VX):(Vh x)[2]? = some (.lst 13 (x.Sites.map Zj)):=by rfl
theorem ZzV (x:VX):(Vh x)[3]? = some (.lst 3 (x.Links.map KM)):=by rfl
structure TS (x:VX):Prop where
 Name:x.Name.length≤140737488351232
 Params:x.Params.length * 32≤140737488351232∧∀ y ∈ x.Params,ZdK y
 Sites:x.Sites.length * 304≤140737488351232∧∀ y ∈ x.Sites,Yl y
 Links:x.Links.length * 40≤140737488351232∧∀ y ∈ x.Links,Z0y y
end Go.Proofs.YtlmfmmclnboglaaGreat
end
section
namespace Go.Proofs.YtlmfmmclnboglaaGreat
open Go Go.RowKit Go.Proofs.YtlmfmmclnboglaaGreat.Abs
set_option linter.all false
set_option maxRecDepth 100000
theorem VI (l:List Int):(ints l).length=l.length:=by simp [ints]
theorem ZvZ (l:List (List UInt8)):(strs l).length=l.length:=by simp [strs]
theorem ZtM {n:Int}(h1:-9223372036854775808≤n)(h2:n≤9223372036854775807):IntKind.i64.wrap n=n:=i64_in h1 h2
theorem ZqD {C:Cfg}(hC:Xz C)(N:Nat)(hN:1≤N)(hp:HP)(x:Int):Zc C N ZbX [.int .i64 x] hp=some (.bool (inB x),hp,none):=by
 obtain ⟨m,rfl⟩:∃ m,N=m + 1:=⟨N - 1,by omega⟩
 exact Z1e hC m x hp
theorem ZqE {C:Cfg}(hC:Xz C)(N:Nat)(hN:1≤N)(hp:HP)(x:Int):Zc C N Aw [.int .i64 x] hp=some (.bool (inB x),hp,none):=by
 obtain ⟨m,rfl⟩:∃ m,N=m + 1:=⟨N - 1,by omega⟩
 exact Z33 hC m x hp
theorem Pi {C:Cfg}(hC:Xz C)(N:Nat)(hN:2≤N)(hp:HP)(s:List UInt8)(hl:s.length≤140737488351232):Zc C N Kv [.str s] hp=some (.int .i64 (Gv s),hp,none):=by
 obtain ⟨m,rfl⟩:∃ m,N=m + 2:=⟨N - 2,by omega⟩
 exact ZqC hC m s (by omega) hp
theorem FC {C:Cfg}(hC:Xz C)(N:Nat)(hN:3≤N)(hp:HP)(s:List UInt8)(hl:s.length≤140737488351232):Zc C N H7 [.str s] hp=some (.int .i64 (Gv s),hp,none):=by
 obtain ⟨m,rfl⟩:∃ m,N=m + 3:=⟨N - 3,by omega⟩
 exact Zoz hC m s (by omega) hp
theorem Tj {C:Cfg}(K:KT)(hp0:HP)(a b:List Int)(ha:a.length≤4611686018427387)(hb:b.length≤4611686018427387):∀ (r1 r2 q1 q2:List Int) (m:Nat),a=q1 ++ r1→b=q2 ++ r2→q1.length=q2.length→r1.length=r2.length→r1.length < m →
  WU C.G K C.L hp0 (XN C.G K C.L hp0) m (.lst 1 (ints a)) (.lst 1 (ints b)) (.int .i64 (a.length:Int)) (.int .i64 (q1.length:Int)) hp0 none=some (.bool (decide (r1=r2)),hp0,none)
 | _,_,_,_,0,_,_,_,_,h=>by omega
 | [],[],q1,q2,m + 1,h1,h2,_,_,_=>by
  have l0:=lp0 h1
  simp only [WU,XN,EV,l0,VI,Bool.false_eq_true,if_false,decide_true]
 | [],y :: r2,q1,q2,m + 1,_,_,_,h,_=>by simp at h
 | x :: r1,[],q1,q2,m + 1,_,_,_,h,_=>by simp at h
 | x :: r1,y :: r2,q1,q2,m + 1,h1,h2,hq,hr,hm=>by
  obtain ⟨a1,a2,a3,a4,_⟩:=lp (fun x=>[.int .i64 x]) h1 ha
  obtain ⟨_,b2,_,b4,_⟩:=lp (fun x=>[.int .i64 x]) h2 hb
  rw [← hq] at b2
  have ih:=Tj (C := C) K hp0 a b ha hb r1 r2 (q1 ++ [x]) (q2 ++ [y]) m a4 b4 (by simp [hq]) (by simpa using hr) (by simpa using hm)
  have g1:(ints a)[q1.length]? = some [.int .i64 x]:=a2
  have g2:(ints b)[q1.length]? = some [.int .i64 y]:=b2
  by_cases hxy:x=y
  ·subst hxy
   have hd:decide (x :: r1=x :: r2)=decide (r1=r2):=by by_cases h:r1=r2 <;> simp [h]
   simp only [WU,EV,VI,a1,a3,Yp,g1,g2,ih,hd,ne_eq,not_true_eq_false,decide_false,Bool.false_eq_true,if_false,if_true]
  ·have hd:decide (x :: r1=y :: r2)=false:=by simp [hxy]
   simp only [WU,EV,VI,a1,Yp,g1,g2,hd,hxy,ne_eq,not_false_eq_true,decide_true,if_true]
theorem L8 {C:Cfg}(hC:Xz C)(N:Nat)(hN:1≤N)(hp:HP)(a b:List Int)(ha:a.length≤4611686018427387)(hb:b.length≤4611686018427387):Zc C N XH [.lst 1 (ints a),.lst 1 (ints b)] hp=some (.bool (decide (a=b)),hp,none):=by
 obtain ⟨m,rfl⟩:∃ m,N=m + 1:=⟨N - 1,by omega⟩
 refine NE (by rw [hC.T]; rfl) ?_
 by_cases hab:a.length=b.length
 ·have h:=Tj (C := C) (Zc C m) hp a b ha hb a b [] [] C.L rfl rfl rfl hab (by have:=hC.L; omega)
  have h1:((a.length:Int)=b.length):=by omega
  simp only [List.length_nil,Int.natCast_zero,h1] at h
  simp only [JM,EV,VI,h1,ne_eq,not_true_eq_false,decide_false,Bool.false_eq_true,if_false,h]
 ·have h1:¬ ((a.length:Int)=b.length):=by omega
  have h2:¬ a=b:=fun e=>hab (by rw [e])
  simp only [JM,EV,VI,h1,h2,ne_eq,not_false_eq_true,decide_true,decide_false,if_true]
theorem Ab {C:Cfg}(K:KT)(hp0:HP)(a b:List Int)(ha:a.length≤4611686018427387)(hb:b.length≤4611686018427387):∀ (r1 r2 q1 q2:List Int) (m:Nat),a=q1 ++ r1→b=q2 ++ r2→q1.length=q2.length→r1.length=r2.length→r1.length < m →
  V3 C.G K C.L hp0 (GJ C.G K C.L hp0) m (.lst 1 (ints a)) (.lst 1 (ints b)) (.int .i64 (q1.length:Int)) hp0 none=some (.bool (decide (r1=r2)),hp0,none)
 | _,_,_,_,0,_,_,_,_,h=>by omega
 | [],[],q1,q2,m + 1,h1,h2,_,_,_=>by
  have l0:=lp0 h1
  simp only [V3,GJ,EV,l0,VI,Bool.false_eq_true,if_false,decide_true]
 | [],y :: r2,q1,q2,m + 1,_,_,_,h,_=>by simp at h
 | x :: r1,[],q1,q2,m + 1,_,_,_,h,_=>by simp at h
 | x :: r1,y :: r2,q1,q2,m + 1,h1,h2,hq,hr,hm=>by
  obtain ⟨a1,a2,a3,a4,_⟩:=lp (fun x=>[.int .i64 x]) h1 ha
  obtain ⟨_,b2,_,b4,_⟩:=lp (fun x=>[.int .i64 x]) h2 hb
  rw [← hq] at b2
  have ih:=Ab (C := C) K hp0 a b ha hb r1 r2 (q1 ++ [x]) (q2 ++ [y]) m a4 b4 (by simp [hq]) (by simpa using hr) (by simpa using hm)
  have g1:(ints a)[q1.length]? = some [.int .i64 x]:=a2
  have g2:(ints b)[q1.length]? = some [.int .i64 y]:=b2
  by_cases hxy:x=y
  ·subst hxy
   have hd:decide (x :: r1=x :: r2)=decide (r1=r2):=by by_cases h:r1=r2 <;> simp [h]
   simp only [V3,EV,VI,a1,a3,Yp,g1,g2,ih,hd,ne_eq,not_true_eq_false,decide_false,Bool.false_eq_true,if_false,if_true]
  ·have hd:decide (x :: r1=y :: r2)=false:=by simp [hxy]
   simp only [V3,EV,VI,a1,Yp,g1,g2,hd,hxy,ne_eq,not_false_eq_true,decide_true,if_true]
theorem Zdp {C:Cfg}(hC:Xz C)(N:Nat)(hN:1≤N)(hp:HP)(a b:List Int)(ha:a.length≤4611686018427387)(hb:b.length≤4611686018427387):Zc C N Oa [.lst 1 (ints a),.lst 1 (ints b)] hp=some (.bool (decide (a=b)),hp,none):=by
 obtain ⟨m,rfl⟩:∃ m,N=m + 1:=⟨N - 1,by omega⟩
 refine ZkU (by rw [hC.T]; rfl) ?_
 by_cases hab:a.length=b.length
 ·have h:=Ab (C := C) (Zc C m) hp a b ha hb a b [] [] C.L rfl rfl rfl hab (by have:=hC.L; omega)
  have h1:((a.length:Int)=b.length):=by omega
  simp only [List.length_nil,Int.natCast_zero,h1] at h
  simp only [BO,EV,VI,h1,ne_eq,not_true_eq_false,decide_false,Bool.false_eq_true,if_false,h]
 ·have h1:¬ ((a.length:Int)=b.length):=by omega
  have h2:¬ a=b:=fun e=>hab (by rw [e])
  simp only [BO,EV,VI,h1,h2,ne_eq,not_false_eq_true,decide_true,decide_false,if_true]
def btw (x lo hi:Int):Bool:=decide (lo≤x) && decide (x≤hi)
def Zfw (d:TY):Bool :=
 if decide (d.Op=1)=true then decide ((d.Values.length:Int) + d.Weights.length=0) && decide (d.B=0) && decide (d.N=0)
 else if decide (d.Op=2)=true then decide ((d.Values.length:Int) + d.Weights.length=0) && decide (d.N=0)
 else if decide (d.Op=5)=true then decide ((d.Values.length:Int) + d.Weights.length=0) && decide (d.N=0)
 else if decide (d.Op=4)=true then decide ((d.Values.length:Int) + d.Weights.length=0)
 else if decide (d.Op=3)=true then decide (d.A=0) && decide (d.B=0) && decide (d.N=0)
 else false
theorem RU.v {d:TY}(h:RU d):d.Values.length≤4611686018427387:=by have:=h.Values.1; omega
theorem RU.w {d:TY}(h:RU d):d.Weights.length≤4611686018427387:=by have:=h.Weights.1; omega
theorem RU.wr {d:TY}(h:RU d):IntKind.i64.wrap ((d.Values.length:Int) + (d.Weights.length:Int))=(d.Values.length:Int) + (d.Weights.length:Int):=by
 have:=h.v; have:=h.w; exact ZtM (by omega) (by omega)
theorem TV:(∀ d,(Kk d).length=6)∧(∀ d,(Kk d).map AV.ro=Kk d)∧(∀ x,(Kk x)[0]? = some (.int .i64 x.Op))∧(∀ x,(Kk x)[1]? = some (.int .i64 x.A))∧(∀ x,(Kk x)[2]? = some (.int .i64 x.B))∧(∀ x,(Kk x)[3]? = some (.int .i64 x.N))∧(∀ x,(Kk x)[4]? = some (.lst 1 (ints x.Values)))∧(∀ x,(Kk x)[5]? = some (.lst 1 (ints x.Weights))):=⟨Zyo,ZzL,Z1G,Z1H,Z1I,Z1J,Z1K,Z1L⟩
theorem Zq5 {C:Cfg}(hC:Xz C)(N:Nat)(hN:1≤N)(hp:HP)(d:TY)(hd:RU d):Zc C N Ao [.agg (Kk d)] hp=some (.bool (Zfw d),hp,none):=by
 obtain ⟨m,rfl⟩:∃ m,N=m + 1:=⟨N - 1,by omega⟩
 refine ZlU (by rw [hC.T]; rfl) ?_
 generalize Zc C m=K at *
 simp only [Fq,MM,IE,EV,LD,BL,IFJ,Nat.reduceAdd,Nat.reduceLeDiff,Nat.reduceBEq,GI,hd.wr,TV,VI,Zfw]
def Znt (d:TY):Bool :=
 if decide (d.Op=1)=true then decide (d.B=0) && decide (d.N=0) && (decide ((d.Values.length:Int)=0) && decide ((d.Weights.length:Int)=0))
 else if decide (d.Op=2)=true then decide (d.N=0) && (decide ((d.Values.length:Int)=0) && decide ((d.Weights.length:Int)=0))
 else if decide (d.Op=5)=true then decide (d.N=0) && (decide ((d.Values.length:Int)=0) && decide ((d.Weights.length:Int)=0))
 else if decide (d.Op=3)=true then decide (d.A=0) && decide (d.B=0) && decide (d.N=0)
 else if decide (d.Op=4)=true then (decide ((d.Values.length:Int)=0) && decide ((d.Weights.length:Int)=0))
 else false
def Z1E (lo hi:Int)(x:Int):Bool:=decide (x < lo) || decide (hi < x)
def Z09 {α:Type}(f:α→Bool):List α→Int→Int
 | [],_=>-1
 | x :: r,i=>if f x=true then i else Z09 f r (i + 1)
theorem ZxJ {α:Type}(f:α→Bool):∀ (l:List α) (i:Int),0≤i→decide (0≤Z09 f l i)=l.any f
 | [],i,h=>by simp [Z09]
 | x :: r,i,h=>by
  have ih:=ZxJ f r (i + 1) (by omega)
  cases hx:f x <;> simp [Z09,hx,h]
  simpa using ih
def Gr (lo hi:Int)(l:List Int):Bool:=!(l.any (Z1E lo hi))
def Zb5 (d:TY):Int :=
 if (!(Zfw d))=true then 1
 else if decide (d.Op=1)=true then (if (!(Gr 0 1000000000 [d.A]))=true then 2 else 0)
 else if decide (d.Op=2)=true then (if (!(Gr 0 1000000000 [d.A,d.B] && decide (d.A≤d.B)))=true then 2 else 0)
 else if decide (d.Op=4)=true then (if (!(Gr 1 20 [d.N] && Gr 0 1000000 [d.A,d.B] && decide (d.A≤d.B)))=true then 2 else 0)
 else if decide (d.Op=5)=true then (if (!(Gr 1 1000 [d.A,d.B]))=true then 2 else 0)
 else if decide (d.Op=3)=true then
  (if decide ((d.Values.length:Int)≠(d.Weights.length:Int))=true then 8 else if decide ((d.Values.length:Int)=0)=true then 7 else if decide (20 < (d.Values.length:Int))=true then 6
   else if (!(Gr 0 1000000000 d.Values && Gr 1 1000 d.Weights))=true then 2 else 0)
 else 2
def Z0P:List Int→List Int→Int
 | x :: r,y :: s=>if (!(btw x 0 1000000000) || !(btw y 1 1000))=true then 2 else Z0P r s
 | _,_=>0
def ZtI (d:TY):Int :=
 if decide ((d.Values.length:Int)≠(d.Weights.length:Int))=true then 8 else if decide ((d.Values.length:Int)=0)=true then 7 else if decide (20 < (d.Values.length:Int))=true then 6 else Z0P d.Values d.Weights
def Zx7 (d:TY):Int :=
 if (!(Znt d))=true then 1
 else if decide (d.Op=1)=true then (if (!(btw d.A 0 1000000000))=true then 2 else 0)
 else if decide (d.Op=2)=true then (if (!(btw d.A 0 d.B && decide (d.B≤1000000000)))=true then 2 else 0)
 else if decide (d.Op=3)=true then ZtI d
 else if decide (d.Op=4)=true then (if (!(btw d.N 1 20 && btw d.A 0 d.B && decide (d.B≤1000000)))=true then 2 else 0)
 else if decide (d.Op=5)=true then (if (!(btw d.A 1 1000 && btw d.B 1 1000))=true then 2 else 0)
 else 0
theorem Zs0 {C:Cfg}(hC:Xz C)(N:Nat)(hN:1≤N)(hp:HP)(d:TY):Zc C N Zad [.agg (Kk d)] hp=some (.bool (Znt d),hp,none):=by
 obtain ⟨m,rfl⟩:∃ m,N=m + 1:=⟨N - 1,by omega⟩
 refine ZoR (by rw [hC.T]; rfl) ?_
 generalize Zc C m=K at *
 simp only [Zbu,Rp,OZ,EV,LD,BL,IFJ,Nat.reduceAdd,Nat.reduceLeDiff,Nat.reduceBEq,GI,TV,VI,Znt]
theorem ZgC {C:Cfg}(hC:Xz C)(N:Nat)(hN:1≤N)(hp:HP)(x lo hi:Int):Zc C N VB [.int .i64 x,.int .i64 lo,.int .i64 hi] hp=some (.bool (btw x lo hi),hp,none):=by
 obtain ⟨m,rfl⟩:∃ m,N=m + 1:=⟨N - 1,by omega⟩
 refine ZmW (by rw [hC.T]; rfl) ?_
 generalize Zc C m=K at *
 simp only [F3,EV,LD,BL,IFJ,Nat.reduceAdd,Nat.reduceLeDiff,Nat.reduceBEq,GI,btw]
theorem ZlX {C:Cfg}(hC:Xz C)(N:Nat)(hN:1≤N)(hp:HP)(x lo hi:Int)(g g2:Nat)(tg tg2:TypeId)(hg:hp[g]? = some (.cells [.int .i64 lo] tg))(hg2:hp[g2]? = some (.cells [.int .i64 hi] tg2)):Zc C N LU [.int .i64 x,.ptr g 0,.ptr g2 0] hp=some (.bool (Z1E lo hi x),hp,none):=by
 obtain ⟨m,rfl⟩:∃ m,N=m + 1:=⟨N - 1,by omega⟩
 refine ZiU (by rw [hC.T]; rfl) ?_
 generalize Zc C m=K at *
 simp only [PV,EV,LD,BL,IFJ,Nat.reduceAdd,Nat.reduceLeDiff,Nat.reduceBEq,GI,LG hg,LG hg2,Z1E,List.getElem?_cons_zero]
theorem Zjz {C:Cfg}(K:KT)(hp0:HP)(fv:AV)(f:Int→Bool)(l:List Int)(hl:l.length≤4611686018427387)(hf:∀ x ∈ l,Vz K fv [.int .i64 x] hp0=some (.bool (f x),hp0,none)):∀ (r q:List Int) (m:Nat),l=q ++ r→r.length < m →
  WN C.G K C.L hp0 (QQ C.G K C.L hp0) m (.lst 1 (ints l)) fv (.int .i64 (l.length:Int)) (.int .i64 (q.length:Int)) hp0 none=some (.int .i64 (Z09 f r q.length),hp0,none)
 | _,_,0,_,h=>by omega
 | [],q,m + 1,h,_=>by
  have l0:=lp0 h
  simp only [WN,QQ,EV,l0,Z09,IFJ]
 | x :: r,q,m + 1,h,hm=>by
  obtain ⟨a1,a2,a3,a4,a5⟩:=lp (fun x=>[.int .i64 x]) h hl
  have g1:(ints l)[q.length]? = some [.int .i64 x]:=a2
  have ih:=Zjz (C := C) K hp0 fv f l hl hf r (q ++ [x]) m a4 (by simpa using hm)
  have a6:((q ++ [x]).length:Int)=(q.length:Int) + 1:=by simp
  have hc:=hf x a5
  simp only [WN,EV,a1,a3,Yp,g1,hc,ih,IFJ,Z09]
  rw [a6]
theorem Bu {C:Cfg}(hC:Xz C)(N:Nat)(hN:2≤N)(hp:HP)(l:List Int)(hl:l.length≤4611686018427387)(g:FuncId)(c:List AV)(f:Int→Bool)(hf:∀ x ∈ l,Zc C (N - 2) g ([.int .i64 x] ++ c.map AV.nm) hp=some (.bool (f x),hp,none)) :
  Zc C N Jc [.lst 1 (ints l),.fn g [] c] hp=some (.bool (l.any f),hp,none):=by
 obtain ⟨m,rfl⟩:∃ m,N=m + 2:=⟨N - 2,by omega⟩
 refine RF (by rw [hC.T]; rfl) ?_
 have h1:Zc C (m + 1) Ue [.lst 1 (ints l),.fn g [] c] hp=some (.int .i64 (Z09 f l 0),hp,none):=by
  refine Dk (by rw [hC.T]; rfl) ?_
  have h:=Zjz (C := C) (Zc C m) hp (.fn g [] c) f l hl (fun x hx=>by rw [Zlc]; exact hf x hx) l [] C.L rfl (by have:=hC.L; omega)
  simp only [Ul,EV,VI]
  exact h
 simp only [Jj,EV,h1,ZxJ f l 0 (by omega)]
theorem Zq6 {C:Cfg}(hC:Xz C)(N:Nat)(hN:4≤N)(hp:HP)(lo hi:Int)(l:List Int)(hl:l.length≤4611686018427387):Zc C N Uc [.int .i64 lo,.int .i64 hi,.lst 1 (ints l)] hp=some (.bool (Gr lo hi l),hp,none):=by
 obtain ⟨m,rfl⟩:∃ m,N=m + 1:=⟨N - 1,by omega⟩
 refine ZlV (by rw [hC.T]; rfl) ?_
 have q:=Bu hC m (by omega) (hp ++ [.cells [.int .i64 lo] ZdA] ++ [.cells [.int .i64 hi] ZdA]) l hl LU [.ptr hp.length 0,.ptr (hp ++ [Zt.cells [.int .i64 lo] ZdA]).length 0] (Z1E lo hi) fun x _=>ZlX hC (m - 2) (by omega) _ x lo hi _ _ _ _ (Gt (ZC _ _) _) (ZC _ _)
 simp only [Fs,EV,LD,Z31,q,Gr]
theorem Zdq {C:Cfg}(K:KT)(hp0 hp:HP)(d:TY)(hd:RU d)(hK:∀ (hp:HP) (x lo hi:Int),K VB [.int .i64 x,.int .i64 lo,.int .i64 hi] hp=some (.bool (btw x lo hi),hp,none))(g:Nat)(tg:TypeId)(hg:hp[g]? = some (.cells (Kk d) tg)) :
  ∀ (r1 r2 q1 q2:List Int) (m:Nat),d.Values=q1 ++ r1→d.Weights=q2 ++ r2→q1.length=q2.length→r1.length=r2.length→r1.length < m →
  KW C.G K C.L hp0 (Mo C.G K C.L hp0) m (.ptr g 0) (.int .i64 (q1.length:Int)) hp none=some (.int .i64 (Z0P r1 r2),hp0,none)
 | _,_,_,_,0,_,_,_,_,h=>by omega
 | [],[],q1,q2,m + 1,h1,h2,_,_,_=>by
  have l0:=lp0 h1
  simp only [KW,Mo,EV,LD,LG hg,TV,l0,VI,IFJ,Z0P]
 | [],y :: r2,q1,q2,m + 1,_,_,_,h,_=>by simp at h
 | x :: r1,[],q1,q2,m + 1,_,_,_,h,_=>by simp at h
 | x :: r1,y :: r2,q1,q2,m + 1,h1,h2,hq,hr,hm=>by
  obtain ⟨a1,a2,a3,a4,_⟩:=lp (fun x=>[.int .i64 x]) h1 hd.v
  obtain ⟨_,b2,_,b4,_⟩:=lp (fun x=>[.int .i64 x]) h2 hd.w
  rw [← hq] at b2
  have ih:=Zdq (C := C) K hp0 hp d hd hK g tg hg r1 r2 (q1 ++ [x]) (q2 ++ [y]) m a4 b4 (by simp [hq]) (by simpa using hr) (by simpa using hm)
  have g1:(ints d.Values)[q1.length]? = some [.int .i64 x]:=a2
  have g2:(ints d.Weights)[q1.length]? = some [.int .i64 y]:=b2
  simp only [KW,EV,LD,LG hg,GI,TV,a1,a3,VI,Yp,g1,g2,hK,ih,IFJ,Z0P]
theorem Zun {C:Cfg}(hC:Xz C)(N:Nat)(hN:2≤N)(hp:HP)(d:TY)(hd:RU d):Zc C N ZdC [.agg (Kk d)] hp=some (.int .i64 (ZtI d),hp,none):=by
 obtain ⟨m,rfl⟩:∃ m,N=m + 1:=⟨N - 1,by omega⟩
 have q0:=ZgC hC m (by omega)
 refine Zrn (by rw [hC.T]; rfl) ?_
 by_cases hlen:d.Values.length=d.Weights.length
 ·have h:=Zdq (C := C) (Zc C m) hp (hp ++ [.cells (Kk d) UU]) d hd q0 hp.length UU (ZC _ _) d.Values d.Weights [] [] C.L rfl rfl rfl hlen (by have:=hC.L; have:=hd.v; omega)
  simp only [List.length_nil,Int.natCast_zero] at h
  simp only [F4,EV,LD,BL,IFJ,TV,VI,ZtI,h]
 have hl2:decide ((d.Values.length:Int)≠(d.Weights.length:Int))=true:=by simp only [decide_eq_true_eq]; omega
 simp only [F4,EV,LD,BL,IFJ,Nat.reduceAdd,Nat.reduceLeDiff,Nat.reduceBEq,GI,q0,hd.v,TV,VI,ZtI,hl2]
theorem l1 (x:Int):([[AV.int .i64 x]]:List (List AV))=ints [x]:=rfl
theorem l2 (x y:Int):([[AV.int .i64 x],[AV.int .i64 y]]:List (List AV))=ints [x,y]:=rfl
theorem lw1 (x:Int):([x].length≤4611686018427387)=True:=by simp
theorem lw2 (x y:Int):([x,y].length≤4611686018427387)=True:=by simp
theorem Zjx {C:Cfg}(hC:Xz C)(N:Nat)(hN:5≤N)(hp:HP)(d:TY)(hd:RU d):Zc C N Uq [.agg (Kk d)] hp=some (.int .i64 (Zb5 d),hp,none):=by
 obtain ⟨m,rfl⟩:∃ m,N=m + 1:=⟨N - 1,by omega⟩
 have q0:=Zq5 hC m (by omega)
 have q1:=Zq6 hC m (by omega)
 refine Zoj (by rw [hC.T]; rfl) ?_
 generalize Zc C m=K at *
 simp only [Zbi,EV,LD,BL,IFJ,Nat.reduceAdd,Nat.reduceLeDiff,Nat.reduceBEq,GI,q0,q1,hd,hd.v,hd.w,TV,VI,Zb5,LIT,l1 d.A,l1 d.N,l2 d.A d.B,lw1,lw2]
theorem Zmi {C:Cfg}(hC:Xz C)(N:Nat)(hN:3≤N)(hp:HP)(d:TY)(hd:RU d):Zc C N Pz [.agg (Kk d)] hp=some (.int .i64 (Zx7 d),hp,none):=by
 obtain ⟨m,rfl⟩:∃ m,N=m + 1:=⟨N - 1,by omega⟩
 have q0:=Zs0 hC m (by omega)
 have q1:=ZgC hC m (by omega)
 have q2:=Zun hC m (by omega)
 refine Zrm (by rw [hC.T]; rfl) ?_
 generalize Zc C m=K at *
 simp only [ZeI,EV,LD,BL,IFJ,Nat.reduceAdd,Nat.reduceLeDiff,Nat.reduceBEq,GI,q0,q1,q2,hd,TV,VI,Zx7]
end Go.Proofs.YtlmfmmclnboglaaGreat
end
section
namespace Go.Proofs.YtlmfmmclnboglaaGreat
open Go Go.RowKit Go.Proofs.YtlmfmmclnboglaaGreat.Abs
set_option linter.all false
set_option maxRecDepth 100000
def ZxX (op:Int):Bool:=decide (22≤op) && decide (op≤24)
def Zu9 (op:Int):Int :=
 if (decide (op=1) || decide (op=2) || decide (op=3) || decide (op=4))=true then 0
 else if (decide (5≤op) && decide (op≤8))=true then 1
 else if (decide (9≤op) && decide (op≤21))=true then 2
 else if (decide (22≤op) && decide (op≤26))=true then 0 else -1
def ZpD (code:Bool)(op:Int):Bool :=
 if decide (op=3)=true then !code else if decide (op=25)=true then code else if decide (op=26)=true then code else decide (0≤Zu9 op)
def ZsQ (code:Bool)(op:Int):Bool:=decide (op=3) || (ZxX op && !code)
def Zz1 (code:Bool)(op:Int):Int×Int×Bool :=
 if decide (op=2)=true then (0,1,true) else if decide (op=25)=true then (0,15,true) else if decide (op=26)=true then (0,31,true) else if (ZxX op && code)=true then (0,63,true) else (0,0,false)
def ZqW (code:Bool)(e:Q3):Int :=
 if (!(ZpD code e.Op) || decide ((e.Kids.length:Int)≠Zu9 e.Op) || (decide (e.Name≠[]) && !(ZsQ code e.Op)))=true then 1
 else if decide (e.Op=1)=true then (if (!(inB e.N))=true then 2 else 0)
 else if (!(Zz1 code e.Op).2.2 && decide (e.N≠0))=true then 1
 else if ((Zz1 code e.Op).2.2 && (decide (e.N < (Zz1 code e.Op).1) || decide ((Zz1 code e.Op).2.1 < e.N)))=true then 2
 else if ZsQ code e.Op=true then Gv e.Name else 0
theorem Vx:(∀ d,(WG d).length=4)∧(∀ d,(WG d).map AV.ro=WG d)∧(∀ x,(WG x)[0]? = some (.int .i64 x.Op))∧(∀ x,(WG x)[1]? = some (.str x.Name))∧(∀ x,(WG x)[2]? = some (.int .i64 x.N))∧(∀ x,(WG x)[3]? = some (.lst 4 (x.Kids.map WG))):=⟨Nz,Zr6,Z1M,Z1N,Z1O,Z1P⟩
theorem ZpC {x e:Q3}(h:x ∈ e.Kids):SizeOf.sizeOf x < SizeOf.sizeOf e:=by
 cases e
 have:=List.sizeOf_lt_of_mem h
 simp at *
 omega
theorem ZpU (e:Q3):0 < SizeOf.sizeOf e:=by cases e; simp; omega
theorem XQ.k {e:Q3}(h:XQ e):e.Kids.length≤4611686018427387:=by have:=h.Kids.1; omega
theorem XQ.n {e:Q3}(h:XQ e):e.Name.length≤140737488351232:=h.Name
theorem ONE:(∀ a:AV,[a].length=1)∧(∀ b:Bool,[AV.bool b].map AV.ro=[.bool b]):=⟨fun _=>rfl,fun _=>rfl⟩
theorem ZgA {C:Cfg}(hC:Xz C)(N:Nat)(hN:1≤N)(hp:HP)(op:Int):Zc C N DR [.int .i64 op] hp=some (.bool (ZxX op),hp,none):=by
 obtain ⟨m,rfl⟩:∃ m,N=m + 1:=⟨N - 1,by omega⟩
 refine Zmq (by rw [hC.T]; rfl) ?_
 generalize Zc C m=K at *
 simp only [Fv,EV,LD,BL,IFJ,Nat.reduceAdd,Nat.reduceLeDiff,Nat.reduceBEq,GI,ZxX]
theorem Zma {C:Cfg}(hC:Xz C)(N:Nat)(hN:1≤N)(hp:HP)(op:Int):Zc C N Pw [.int .i64 op] hp=some (.int .i64 (Zu9 op),hp,none):=by
 obtain ⟨m,rfl⟩:∃ m,N=m + 1:=⟨N - 1,by omega⟩
 refine ZqM (by rw [hC.T]; rfl) ?_
 generalize Zc C m=K at *
 simp only [Zev,EV,LD,BL,IFJ,Nat.reduceAdd,Nat.reduceLeDiff,Nat.reduceBEq,GI,Zu9]
theorem Zfd {C:Cfg}(hC:Xz C)(N:Nat)(hN:2≤N)(hp:HP)(code:Bool)(op:Int):Zc C N MS [.agg [.bool code],.int .i64 op] hp=some (.bool (ZpD code op),hp,none):=by
 obtain ⟨m,rfl⟩:∃ m,N=m + 1:=⟨N - 1,by omega⟩
 have q0:=Zma hC m (by omega)
 refine Zai (by rw [hC.T]; rfl) ?_
 generalize Zc C m=K at *
 simp only [Lg,EV,LD,BL,IFJ,Nat.reduceAdd,Nat.reduceLeDiff,Nat.reduceBEq,GI,q0,ZpD,GI,ONE]
theorem Zfe {C:Cfg}(hC:Xz C)(N:Nat)(hN:2≤N)(hp:HP)(code:Bool)(op:Int):Zc C N Hz [.agg [.bool code],.int .i64 op] hp=some (.bool (ZsQ code op),hp,none):=by
 obtain ⟨m,rfl⟩:∃ m,N=m + 1:=⟨N - 1,by omega⟩
 have q0:=ZgA hC m (by omega)
 refine Zaj (by rw [hC.T]; rfl) ?_
 generalize Zc C m=K at *
 simp only [Lh,EV,LD,BL,IFJ,Nat.reduceAdd,Nat.reduceLeDiff,Nat.reduceBEq,GI,q0,ZsQ,GI,ONE]
theorem Zb6 {C:Cfg}(hC:Xz C)(N:Nat)(hN:2≤N)(hp:HP)(code:Bool)(op:Int):Zc C N O9 [.agg [.bool code],.int .i64 op] hp=some (.tup [.int .i64 (Zz1 code op).1,.int .i64 (Zz1 code op).2.1,.bool (Zz1 code op).2.2],hp,none):=by
 obtain ⟨m,rfl⟩:∃ m,N=m + 1:=⟨N - 1,by omega⟩
 have q0:=ZgA hC m (by omega)
 refine AB (by rw [hC.T]; rfl) ?_
 generalize Zc C m=K at *
 simp only [OU,EV,LD,BL,IFJ,Nat.reduceAdd,Nat.reduceLeDiff,Nat.reduceBEq,GI,q0,Zz1,GI,ONE,TUP]
 (repeat' split) <;> rfl
theorem Zg8 {C:Cfg}(hC:Xz C)(N:Nat)(hN:3≤N)(hp:HP)(code:Bool)(e:Q3)(he:XQ e):Zc C N LQ [.agg [.bool code],.agg (WG e)] hp=some (.int .i64 (ZqW code e),hp,none):=by
 obtain ⟨m,rfl⟩:∃ m,N=m + 1:=⟨N - 1,by omega⟩
 have q0:=Zfd hC m (by omega)
 have q1:=Zma hC m (by omega)
 have q2:=Zfe hC m (by omega)
 have q3:=ZqD hC m (by omega)
 have q4:=Zb6 hC m (by omega)
 have q5:=Pi hC m (by omega)
 refine Zcl (by rw [hC.T]; rfl) ?_
 generalize Zc C m=K at *
 simp only [Rh,EV,LD,BL,IFJ,Nat.reduceAdd,Nat.reduceLeDiff,Nat.reduceBEq,GI,q0,q1,q2,q3,q4,q5,he.n,Vx,ZqW,GI,ONE,QC,EX]
mutual
def R9 (code:Bool):Q3→Int
 | ⟨o,a,n,ks⟩=>if decide (ZqW code ⟨o,a,n,ks⟩≠0)=true then ZqW code ⟨o,a,n,ks⟩ else ZmE code ks
def ZmE (code:Bool):List Q3→Int
 | []=>0
 | x :: r=>if decide (R9 code x≠0)=true then R9 code x else ZmE code r
end
theorem ZpF (code:Bool):∀ l:List Q3,ZmE code l=IL (R9 code) l
 | []=>by rw [ZmE]; rfl
 | x :: r=>by rw [ZmE,ZpF code r]; rfl
theorem ZsS (code:Bool)(e:Q3):R9 code e=if decide (ZqW code e≠0)=true then ZqW code e else IL (R9 code) e.Kids:=by
 cases e; rw [R9,ZpF]
mutual
def ZrM:Q3→Int
 | ⟨_,_,_,ks⟩=>Zx4 ks 1
def Zx4:List Q3→Int→Int
 | [],n=>n
 | x :: r,n=>Zx4 r (IntKind.i64.wrap (n + ZrM x))
end
theorem Zv2:∀ (l:List Q3) (n:Int),Zx4 l n=Z0t ZrM l n
 | [],n=>by rw [Zx4]; rfl
 | x :: r,n=>by rw [Zx4,Zv2 r]; rfl
theorem Zx3 (e:Q3):ZrM e=Z0t ZrM e.Kids 1:=by cases e; rw [ZrM,Zv2]
mutual
def Zoi:Q3→Int
 | ⟨_,_,_,ks⟩=>IntKind.i64.wrap (Zx6 ks 0 + 1)
def Zx6:List Q3→Int→Int
 | [],n=>n
 | x :: r,n=>Zx6 r (if Zoi x > n then Zoi x else n)
end
theorem Zv3:∀ (l:List Q3) (n:Int),Zx6 l n=Zzw Zoi l n
 | [],n=>by rw [Zx6]; rfl
 | x :: r,n=>by rw [Zx6,Zv3 r]; rfl
theorem Zx5 (e:Q3):Zoi e=IntKind.i64.wrap (Zzw Zoi e.Kids 0 + 1):=by cases e; rw [Zoi,Zv3]
section
variable {C:Cfg}(hp0:HP)
theorem ZbB (K:KT)(l:List Q3)(hl:l.length≤4611686018427387)(hK:∀ x ∈ l,∀ hp,K OB [.agg (WG x)] hp=some (.int .i64 (ZrM x),hp,none)):∀ (r q:List Q3) (m:Nat) (hp:HP) (n:Int),l=q ++ r→r.length < m→hp0.length≤hp.length →
  U9 C.G K C.L hp0 (OW C.G K C.L hp0) m (.int .i64 n) (.int .i64 n) (.lst 4 (l.map WG)) (.int .i64 (l.length:Int)) (.int .i64 (q.length:Int)) hp none=some (.int .i64 (Z0t ZrM r n),hp0,none)
 | _,_,0,_,_,_,h,_=>by omega
 | [],q,m + 1,hp,n,h,_,hh=>by
  have l0:=lp0 h
  simp only [U9,OW,EV,l0,Z0t,IFJ]
 | x :: r,q,m + 1,hp,n,h,hm,hh=>by
  obtain ⟨a1,a2,a3,a4,a5⟩:=lp WG h hl
  have ih:=ZbB K l hl hK r (q ++ [x]) m (hp ++ [.cells (WG x) Yu]) (IntKind.i64.wrap (n + ZrM x)) a4 (by simpa using hm) (by simp; omega)
  have hc:=hK x a5
  have st:=N7 hp0.length 4 hp [(.int .i64 0),(.str []),(.int .i64 0),(.own 4 [])] (WG x) Yu none (Nz x) rfl hh
  simp only [U9,EV,LD,Vx,a1,a2,a3,Yp,st,hc,ih,IFJ,Z0t]
theorem ZbA (K:KT)(l:List Q3)(hl:l.length≤4611686018427387)(hK:∀ x ∈ l,∀ hp,K OA [.agg (WG x)] hp=some (.int .i64 (Zoi x),hp,none)):∀ (r q:List Q3) (m:Nat) (hp:HP) (n:Int),l=q ++ r→r.length < m→hp0.length≤hp.length →
  U8 C.G K C.L hp0 (OV C.G K C.L hp0) m (.int .i64 n) (.lst 4 (l.map WG)) (.int .i64 (l.length:Int)) (.int .i64 (q.length:Int)) hp none=some (.int .i64 (IntKind.i64.wrap (Zzw Zoi r n + 1)),hp0,none)
 | _,_,0,_,_,_,h,_=>by omega
 | [],q,m + 1,hp,n,h,_,hh=>by
  have l0:=lp0 h
  simp only [U8,OV,EV,l0,Zzw,IFJ]
 | x :: r,q,m + 1,hp,n,h,hm,hh=>by
  obtain ⟨a1,a2,a3,a4,a5⟩:=lp WG h hl
  have ih:=ZbA K l hl hK r (q ++ [x]) m (hp ++ [.cells (WG x) Yu]) (if Zoi x > n then Zoi x else n) a4 (by simpa using hm) (by simp; omega)
  have hc:=hK x a5
  have st:=N7 hp0.length 4 hp [(.int .i64 0),(.str []),(.int .i64 0),(.own 4 [])] (WG x) Yu none (Nz x) rfl hh
  simp only [U8,EV,LD,Vx,a1,a2,a3,Yp,st,hc,max2,ih,IFJ,Zzw]
theorem RY (K:KT)(code:Bool)(g:Nat)(tg:TypeId)(l:List Q3)(hl:l.length≤4611686018427387)(hK:∀ x ∈ l,∀ hp,K Vs [.agg [.bool code],.agg (WG x)] hp=some (.int .i64 (R9 code x),hp,none)):∀ (r q:List Q3) (m:Nat) (hp:HP),l=q ++ r→r.length < m→hp0.length≤hp.length→hp[g]? = some (.cells [.bool code] tg) →
  XA C.G K C.L hp0 (Ja C.G K C.L hp0) m (.ptr g 0) (.lst 4 (l.map WG)) (.int .i64 (l.length:Int)) (.int .i64 (q.length:Int)) hp none=some (.int .i64 (IL (R9 code) r),hp0,none)
 | _,_,0,_,_,h,_,_=>by omega
 | [],q,m + 1,hp,h,_,hh,hg=>by
  have l0:=lp0 h
  simp only [XA,Ja,EV,l0,IL,IFJ]
 | x :: r,q,m + 1,hp,h,hm,hh,hg=>by
  obtain ⟨a1,a2,a3,a4,a5⟩:=lp WG h hl
  have ih:=RY K code g tg l hl hK r (q ++ [x]) m (hp ++ [.cells (WG x) Yu]) a4 (by simpa using hm) (by simp; omega) (Gt hg _)
  have hc:=hK x a5
  have st:=N7 hp0.length 4 hp [(.int .i64 0),(.str []),(.int .i64 0),(.own 4 [])] (WG x) Yu none (Nz x) rfl hh
  simp only [XA,EV,LD,LG hg,ONE,Vx,a1,a2,a3,Yp,st,hc,ih,IFJ,IL]
theorem Zds (K:KT)(e:Q3)(he:XQ e)(g:Nat)(tg:TypeId)(hp:HP)(hg:hp[g]? = some (.cells (WG e) tg))(hK:∀ x ∈ e.Kids,∀ hp,K MW [.agg (WG x)] hp=some (.int .i64 (ZrM x),hp,none)):∀ (r q:List Q3) (m:Nat) (n:Int),e.Kids=q ++ r→r.length < m →
  KZ C.G K C.L hp0 (Ms C.G K C.L hp0) m (.ptr g 0) (.int .i64 n) (.int .i64 n) (.int .i64 (q.length:Int)) hp none=some (.int .i64 (Z0t ZrM r n),hp0,none)
 | _,_,0,_,_,h=>by omega
 | [],q,m + 1,n,h,_=>by
  have l0:=lp0 h
  simp only [KZ,Ms,EV,LD,LG hg,Vx,l0,Z0t,IFJ]
 | x :: r,q,m + 1,n,h,hm=>by
  obtain ⟨a1,a2,a3,a4,a5⟩:=lp WG h he.k
  have ih:=Zds K e he g tg hp hg hK r (q ++ [x]) m (IntKind.i64.wrap (n + ZrM x)) a4 (by simpa using hm)
  have hc:=hK x a5
  simp only [KZ,EV,LD,LG hg,Vx,a1,a2,a3,Yp,hc,ih,IFJ,Z0t]
theorem Zdr (K:KT)(e:Q3)(he:XQ e)(g:Nat)(tg:TypeId)(hp:HP)(hg:hp[g]? = some (.cells (WG e) tg))(hK:∀ x ∈ e.Kids,∀ hp,K MV [.agg (WG x)] hp=some (.int .i64 (Zoi x),hp,none)):∀ (r q:List Q3) (m:Nat) (n:Int),e.Kids=q ++ r→r.length < m →
  KY C.G K C.L hp0 (Mr C.G K C.L hp0) m (.ptr g 0) (.int .i64 n) (.int .i64 (q.length:Int)) hp none=some (.int .i64 (IntKind.i64.wrap (Zzw Zoi r n + 1)),hp0,none)
 | _,_,0,_,_,h=>by omega
 | [],q,m + 1,n,h,_=>by
  have l0:=lp0 h
  simp only [KY,Mr,EV,LD,LG hg,Vx,l0,Zzw,IFJ]
 | x :: r,q,m + 1,n,h,hm=>by
  obtain ⟨a1,a2,a3,a4,a5⟩:=lp WG h he.k
  have ih:=Zdr K e he g tg hp hg hK r (q ++ [x]) m (if Zoi x > n then Zoi x else n) a4 (by simpa using hm)
  have hc:=hK x a5
  simp only [KY,EV,LD,LG hg,Vx,a1,a2,a3,Yp,hc,max2,ih,IFJ,Zzw]
end
theorem Zdo {C:Cfg}(hC:Xz C):∀ (k N:Nat) (hN:k + 1≤N) (e:Q3),SizeOf.sizeOf e≤k→XQ e→∀ hp:HP,Zc C N OB [.agg (WG e)] hp=some (.int .i64 (ZrM e),hp,none)
 | 0,_,_,e,he,_,_=>absurd he (by have:=ZpU e; omega)
 | k + 1,N,hN,e,he,ok,hp=>by
  obtain ⟨m,rfl⟩:∃ m,N=m + 1:=⟨N - 1,by omega⟩
  have hK:∀ x ∈ e.Kids,∀ hp,Zc C m OB [.agg (WG x)] hp=some (.int .i64 (ZrM x),hp,none):=fun x hx hp=>Zdo hC k m (by omega) x (by have:=ZpC hx; omega) (ok.Kids.2 x hx) hp
  refine Zo2 (by rw [hC.T]; rfl) ?_
  have hL:e.Kids.length < C.L:=by have:=hC.L; have:=ok.k; omega
  have h:=ZbB (C := C) hp (Zc C m) e.Kids ok.k hK e.Kids [] C.L (hp ++ [.cells (WG e) Yu]) 1 rfl hL (by simp)
  simp only [List.length_nil,Int.natCast_zero] at h
  simp only [Zbl,EV,LD,BL,IFJ,Vx,ok,ok.k,ok.n,h]
  rw [Zx3]
theorem Zsv {C:Cfg}(hC:Xz C)(N:Nat)(hp:HP)(e:Q3)(hN:SizeOf.sizeOf e + 1≤N)(ok:XQ e):Zc C N OB [.agg (WG e)] hp=some (.int .i64 (ZrM e),hp,none):=Zdo hC _ N hN e (Nat.le_refl _) ok hp
theorem Zdn {C:Cfg}(hC:Xz C):∀ (k N:Nat) (hN:k + 1≤N) (e:Q3),SizeOf.sizeOf e≤k→XQ e→∀ hp:HP,Zc C N OA [.agg (WG e)] hp=some (.int .i64 (Zoi e),hp,none)
 | 0,_,_,e,he,_,_=>absurd he (by have:=ZpU e; omega)
 | k + 1,N,hN,e,he,ok,hp=>by
  obtain ⟨m,rfl⟩:∃ m,N=m + 1:=⟨N - 1,by omega⟩
  have hK:∀ x ∈ e.Kids,∀ hp,Zc C m OA [.agg (WG x)] hp=some (.int .i64 (Zoi x),hp,none):=fun x hx hp=>Zdn hC k m (by omega) x (by have:=ZpC hx; omega) (ok.Kids.2 x hx) hp
  refine Zo1 (by rw [hC.T]; rfl) ?_
  have hL:e.Kids.length < C.L:=by have:=hC.L; have:=ok.k; omega
  have h:=ZbA (C := C) hp (Zc C m) e.Kids ok.k hK e.Kids [] C.L (hp ++ [.cells (WG e) Yu]) 0 rfl hL (by simp)
  simp only [List.length_nil,Int.natCast_zero] at h
  simp only [Zbk,EV,LD,BL,IFJ,Vx,ok,ok.k,ok.n,h]
  rw [Zx5]
theorem Zsu {C:Cfg}(hC:Xz C)(N:Nat)(hp:HP)(e:Q3)(hN:SizeOf.sizeOf e + 1≤N)(ok:XQ e):Zc C N OA [.agg (WG e)] hp=some (.int .i64 (Zoi e),hp,none):=Zdn hC _ N hN e (Nat.le_refl _) ok hp
theorem ZgE {C:Cfg}(hC:Xz C):∀ (k N:Nat) (hN:k + 1≤N) (e:Q3),SizeOf.sizeOf e≤k→XQ e→∀ hp:HP,Zc C N MW [.agg (WG e)] hp=some (.int .i64 (ZrM e),hp,none)
 | 0,_,_,e,he,_,_=>absurd he (by have:=ZpU e; omega)
 | k + 1,N,hN,e,he,ok,hp=>by
  obtain ⟨m,rfl⟩:∃ m,N=m + 1:=⟨N - 1,by omega⟩
  have hK:∀ x ∈ e.Kids,∀ hp,Zc C m MW [.agg (WG x)] hp=some (.int .i64 (ZrM x),hp,none):=fun x hx hp=>ZgE hC k m (by omega) x (by have:=ZpC hx; omega) (ok.Kids.2 x hx) hp
  refine Zrs (by rw [hC.T]; rfl) ?_
  have hL:e.Kids.length < C.L:=by have:=hC.L; have:=ok.k; omega
  have h:=Zds (C := C) hp (Zc C m) e ok hp.length Yu (hp ++ [.cells (WG e) Yu]) (ZC _ _) hK e.Kids [] C.L 1 rfl hL
  simp only [List.length_nil,Int.natCast_zero] at h
  simp only [ZeM,EV,LD,BL,IFJ,Vx,ok,ok.k,ok.n,h]
  rw [Zx3]
theorem Zuq {C:Cfg}(hC:Xz C)(N:Nat)(hp:HP)(e:Q3)(hN:SizeOf.sizeOf e + 1≤N)(ok:XQ e):Zc C N MW [.agg (WG e)] hp=some (.int .i64 (ZrM e),hp,none):=ZgE hC _ N hN e (Nat.le_refl _) ok hp
theorem ZgD {C:Cfg}(hC:Xz C):∀ (k N:Nat) (hN:k + 1≤N) (e:Q3),SizeOf.sizeOf e≤k→XQ e→∀ hp:HP,Zc C N MV [.agg (WG e)] hp=some (.int .i64 (Zoi e),hp,none)
 | 0,_,_,e,he,_,_=>absurd he (by have:=ZpU e; omega)
 | k + 1,N,hN,e,he,ok,hp=>by
  obtain ⟨m,rfl⟩:∃ m,N=m + 1:=⟨N - 1,by omega⟩
  have hK:∀ x ∈ e.Kids,∀ hp,Zc C m MV [.agg (WG x)] hp=some (.int .i64 (Zoi x),hp,none):=fun x hx hp=>ZgD hC k m (by omega) x (by have:=ZpC hx; omega) (ok.Kids.2 x hx) hp
  refine Zrr (by rw [hC.T]; rfl) ?_
  have hL:e.Kids.length < C.L:=by have:=hC.L; have:=ok.k; omega
  have h:=Zdr (C := C) hp (Zc C m) e ok hp.length Yu (hp ++ [.cells (WG e) Yu]) (ZC _ _) hK e.Kids [] C.L 0 rfl hL
  simp only [List.length_nil,Int.natCast_zero] at h
  simp only [ZeL,EV,LD,BL,IFJ,Vx,ok,ok.k,ok.n,h]
  rw [Zx5]
theorem Zup {C:Cfg}(hC:Xz C)(N:Nat)(hp:HP)(e:Q3)(hN:SizeOf.sizeOf e + 1≤N)(ok:XQ e):Zc C N MV [.agg (WG e)] hp=some (.int .i64 (Zoi e),hp,none):=ZgD hC _ N hN e (Nat.le_refl _) ok hp
theorem Df {C:Cfg}(hC:Xz C)(code:Bool):∀ (k N:Nat) (hN:k + 4≤N) (e:Q3),SizeOf.sizeOf e≤k→XQ e→∀ hp:HP,Zc C N Vs [.agg [.bool code],.agg (WG e)] hp=some (.int .i64 (R9 code e),hp,none)
 | 0,_,_,e,he,_,_=>absurd he (by have:=ZpU e; omega)
 | k + 1,N,hN,e,he,ok,hp=>by
  obtain ⟨m,rfl⟩:∃ m,N=m + 1:=⟨N - 1,by omega⟩
  have hK:∀ x ∈ e.Kids,∀ hp,Zc C m Vs [.agg [.bool code],.agg (WG x)] hp=some (.int .i64 (R9 code x),hp,none):=fun x hx hp=>Df hC code k m (by omega) x (by have:=ZpC hx; omega) (ok.Kids.2 x hx) hp
  have q0:=Zg8 hC m (by omega)
  refine Zak (by rw [hC.T]; rfl) ?_
  have hL:e.Kids.length < C.L:=by have:=hC.L; have:=ok.k; omega
  have h:=RY (C := C) hp (Zc C m) code hp.length Hy e.Kids ok.k hK e.Kids [] C.L (hp ++ [.cells [.bool code] Hy] ++ [.cells (WG e) Yu]) rfl hL (by simp) (Gt (ZC _ _) _)
  simp only [List.length_nil,Int.natCast_zero] at h
  simp only [Li,EV,LD,BL,IFJ,Vx,ok,ok.k,ok.n,ONE,GI,q0,h]
  rw [ZsS]
theorem Zff {C:Cfg}(hC:Xz C)(code:Bool)(N:Nat)(hp:HP)(e:Q3)(hN:SizeOf.sizeOf e + 4≤N)(ok:XQ e):Zc C N Vs [.agg [.bool code],.agg (WG e)] hp=some (.int .i64 (R9 code e),hp,none):=Df hC code _ N hN e (Nat.le_refl _) ok hp
def Zll (op:Int):Int :=
 if (decide (op < 1) || decide (26 < op))=true then -1 else if (decide (5≤op) && decide (op≤8))=true then 1 else if (decide (9≤op) && decide (op≤21))=true then 2 else 0
def Zzy (op:Int):Int:=if decide (op=25)=true then 15 else if decide (op=26)=true then 31 else 63
def Zw2 (code:Bool)(e:Q3):Int :=
 if (!(decide (0≤Zll e.Op) && ((code && decide (e.Op≠3)) || (!code && decide (e.Op≤24)))) || (!(!code && (decide (e.Op=3) || ZxX e.Op)) && decide (e.Name≠[])) || (!(decide (e.Op=1) || decide (e.Op=2) || (code && (ZxX e.Op || decide (e.Op=25) || decide (e.Op=26)))) && decide (e.N≠0)) || decide ((e.Kids.length:Int)≠Zll e.Op))=true then 1
 else if ((decide (e.Op=1) && !(inB e.N)) || ((decide (e.Op=2) && decide (e.N≠0)) && decide (e.N≠1)) || ((code && (ZxX e.Op || decide (e.Op=25) || decide (e.Op=26))) && (decide (e.N < 0) || decide (Zzy e.Op < e.N))))=true then 2
 else if ((!code && (decide (e.Op=3) || ZxX e.Op)) && decide (Gv e.Name≠0))=true then Gv e.Name else 0
theorem Z3U (op:Int):1≤op∧op≤26→op=1∨op=2∨op=3∨op=4∨op=5∨op=6∨op=7∨op=8∨op=9∨op=10∨op=11∨op=12∨op=13∨op=14∨op=15∨op=16∨op=17∨op=18∨op=19∨op=20∨op=21∨op=22∨op=23∨op=24∨op=25∨op=26:=by omega
theorem Zzn (code:Bool)(e:Q3):Zw2 code e=ZqW code e:=by
 obtain ⟨op,nm,n,ks⟩:=e
 by_cases h:1≤op∧op≤26
 ·rcases Z3U op h with rfl | rfl | rfl | rfl | rfl | rfl | rfl | rfl | rfl | rfl | rfl | rfl | rfl | rfl | rfl | rfl | rfl | rfl | rfl | rfl | rfl | rfl | rfl | rfl | rfl | rfl <;> cases code <;> simp [Zw2,ZqW,Zll,Zzy,ZxX,Zu9,ZpD,ZsQ,Zz1] <;> grind
 ·have h1:Zll op=-1:=by simp only [Zll]; rw [if_pos]; simp; omega
  have h2:Zu9 op=-1:=by
   simp only [Zu9]
   rw [if_neg (by simp; omega),if_neg (by simp; omega),if_neg (by simp; omega),if_neg (by simp; omega)]
  have h3:ZpD code op=false:=by
   simp only [ZpD,h2]
   rw [if_neg (by simp; omega),if_neg (by simp; omega),if_neg (by simp; omega)]; rfl
  simp [Zw2,ZqW,h1,h2,h3]
theorem ZxW (code:Bool)(e:Q3):(if decide (Zw2 code e≠0)=true then Zw2 code e else IL (R9 code) e.Kids)=R9 code e:=by rw [Zzn,← ZsS]
theorem Zs1 {C:Cfg}(hC:Xz C)(N:Nat)(hN:1≤N)(hp:HP)(op:Int):Zc C N NH [.int .i64 op] hp=some (.bool (ZxX op),hp,none):=by
 obtain ⟨m,rfl⟩:∃ m,N=m + 1:=⟨N - 1,by omega⟩
 refine ZoT (by rw [hC.T]; rfl) ?_
 generalize Zc C m=K at *
 simp only [Zbw,EV,LD,BL,IFJ,Nat.reduceAdd,Nat.reduceLeDiff,Nat.reduceBEq,GI,ZxX]
theorem Zuo {C:Cfg}(hC:Xz C)(N:Nat)(hN:1≤N)(hp:HP)(op:Int):Zc C N ZdD [.int .i64 op] hp=some (.int .i64 (Zll op),hp,none):=by
 obtain ⟨m,rfl⟩:∃ m,N=m + 1:=⟨N - 1,by omega⟩
 refine Zrp (by rw [hC.T]; rfl) ?_
 generalize Zc C m=K at *
 simp only [ZeJ,EV,LD,BL,IFJ,Nat.reduceAdd,Nat.reduceLeDiff,Nat.reduceBEq,GI,Zll]
theorem Zwq {C:Cfg}(hC:Xz C)(N:Nat)(hN:1≤N)(hp:HP)(op:Int):Zc C N Zhf [.int .i64 op] hp=some (.int .i64 (Zzy op),hp,none):=by
 obtain ⟨m,rfl⟩:∃ m,N=m + 1:=⟨N - 1,by omega⟩
 refine Ztm (by rw [hC.T]; rfl) ?_
 generalize Zc C m=K at *
 simp only [ZhZ,EV,LD,BL,IFJ,Nat.reduceAdd,Nat.reduceLeDiff,Nat.reduceBEq,GI,Zzy]
theorem ZgF {C:Cfg}(K:KT)(hp0:HP)(code:Bool)(e:Q3)(he:XQ e)(g:Nat)(tg:TypeId)(hp:HP)(hg:hp[g]? = some (.cells (WG e) tg))(hK:∀ x ∈ e.Kids,∀ hp,K Bb [.agg (WG x),.bool code] hp=some (.int .i64 (R9 code x),hp,none)):∀ (r q:List Q3) (m:Nat),e.Kids=q ++ r→r.length < m →
  Im C.G K C.L hp0 (Rs C.G K C.L hp0) m (.bool code) (.ptr g 0) (.int .i64 (q.length:Int)) hp none=some (.int .i64 (IL (R9 code) r),hp0,none)
 | _,_,0,_,h=>by omega
 | [],q,m + 1,h,_=>by
  have l0:=lp0 h
  simp only [Im,Rs,EV,LD,LG hg,Vx,l0,IL,IFJ]
 | x :: r,q,m + 1,h,hm=>by
  obtain ⟨a1,a2,a3,a4,a5⟩:=lp WG h he.k
  have ih:=ZgF (C := C) K hp0 code e he g tg hp hg hK r (q ++ [x]) m a4 (by simpa using hm)
  have hc:=hK x a5
  simp only [Im,EV,LD,LG hg,Vx,a1,a2,a3,Yp,hc,ih,IFJ,IL]
theorem Zj1 {C:Cfg}(hC:Xz C)(code:Bool):∀ (k N:Nat) (hN:k + 4≤N) (e:Q3),SizeOf.sizeOf e≤k→XQ e→∀ hp:HP,Zc C N Bb [.agg (WG e),.bool code] hp=some (.int .i64 (R9 code e),hp,none)
 | 0,_,_,e,he,_,_=>absurd he (by have:=ZpU e; omega)
 | k + 1,N,hN,e,he,ok,hp=>by
  obtain ⟨m,rfl⟩:∃ m,N=m + 1:=⟨N - 1,by omega⟩
  have hK:∀ x ∈ e.Kids,∀ hp,Zc C m Bb [.agg (WG x),.bool code] hp=some (.int .i64 (R9 code x),hp,none):=fun x hx hp=>Zj1 hC code k m (by omega) x (by have:=ZpC hx; omega) (ok.Kids.2 x hx) hp
  have q0:=Zuo hC m (by omega)
  have q1:=Zs1 hC m (by omega)
  have q2:=Zwq hC m (by omega)
  have q3:=ZqE hC m (by omega)
  have q4:=FC hC m (by omega)
  refine Ztn (by rw [hC.T]; rfl) ?_
  have hL:e.Kids.length < C.L:=by have:=hC.L; have:=ok.k; omega
  have h:=ZgF (C := C) (Zc C m) hp code e ok hp.length Yu (hp ++ [.cells (WG e) Yu]) (ZC _ _) hK e.Kids [] C.L rfl hL
  simp only [List.length_nil,Int.natCast_zero] at h
  simp only [Zia,EV,LD,BL,IFJ,Vx,ok,ok.k,ok.n,QC,q0,q1,q2,q3,q4,h]
  rw [← ZxW]
  simp only [Zw2]
  grind
theorem Zwr {C:Cfg}(hC:Xz C)(code:Bool)(N:Nat)(hp:HP)(e:Q3)(hN:SizeOf.sizeOf e + 4≤N)(ok:XQ e):Zc C N Bb [.agg (WG e),.bool code] hp=some (.int .i64 (R9 code e),hp,none):=Zj1 hC code _ N hN e (Nat.le_refl _) ok hp
def JS (code:Bool)(e:Q3):Int:=if decide (60 < ZrM e)=true then 6 else if decide (12 < Zoi e)=true then 11 else R9 code e
theorem Zfc {C:Cfg}(hC:Xz C)(N:Nat)(hp:HP)(code:Bool)(e:Q3)(hN:SizeOf.sizeOf e + 5≤N)(ok:XQ e):Zc C N MR [.agg [.bool code],.agg (WG e)] hp=some (.int .i64 (JS code e),hp,none):=by
 obtain ⟨m,rfl⟩:∃ m,N=m + 1:=⟨N - 1,by omega⟩
 have q0:=fun hp=>Zsv hC m hp e (by omega) ok
 have q1:=fun hp=>Zsu hC m hp e (by omega) ok
 have q2:=fun hp=>Zff hC code m hp e (by omega) ok
 refine Zah (by rw [hC.T]; rfl) ?_
 simp only [Lf,EV,LD,BL,IFJ,Vx,ok,JS,ONE,q0,q1,q2]
theorem Zb9 {C:Cfg}(hC:Xz C)(N:Nat)(hp:HP)(e:Q3)(hN:SizeOf.sizeOf e + 6≤N)(ok:XQ e):Zc C N Ur [.agg (WG e)] hp=some (.int .i64 (JS false e),hp,none):=by
 obtain ⟨m,rfl⟩:∃ m,N=m + 1:=⟨N - 1,by omega⟩
 have q0:=fun hp=>Zfc hC m hp false e (by omega) ok
 refine Zo0 (by rw [hC.T]; rfl) ?_
 simp only [Zbj,EV,LD,BL,IFJ,Vx,ok,Z34,q0]
theorem Zur {C:Cfg}(hC:Xz C)(N:Nat)(hp:HP)(code:Bool)(e:Q3)(hN:SizeOf.sizeOf e + 5≤N)(ok:XQ e):Zc C N ZdE [.agg (WG e),.bool code] hp=some (.int .i64 (JS code e),hp,none):=by
 obtain ⟨m,rfl⟩:∃ m,N=m + 1:=⟨N - 1,by omega⟩
 have q0:=fun hp=>Zuq hC m hp e (by omega) ok
 have q1:=fun hp=>Zup hC m hp e (by omega) ok
 have q2:=fun hp=>Zwr hC code m hp e (by omega) ok
 refine Zrt (by rw [hC.T]; rfl) ?_
 simp only [ZeN,EV,LD,BL,IFJ,Vx,ok,JS,q0,q1,q2]
theorem Zfh {C:Cfg}(hC:Xz C)(N:Nat)(hp:HP)(e:Q3)(hN:SizeOf.sizeOf e + 6≤N)(ok:XQ e):Zc C N OH [.agg (WG e)] hp=some (.int .i64 (JS false e),hp,none):=by
 obtain ⟨m,rfl⟩:∃ m,N=m + 1:=⟨N - 1,by omega⟩
 have q0:=fun hp=>Zur hC m hp false e (by omega) ok
 refine Zrq (by rw [hC.T]; rfl) ?_
 simp only [ZeK,EV,LD,BL,IFJ,Vx,ok,q0]
end Go.Proofs.YtlmfmmclnboglaaGreat
end
section
namespace Go.Proofs.YtlmfmmclnboglaaGreat
open Go Go.RowKit Go.Proofs.YtlmfmmclnboglaaGreat.Abs
set_option linter.all false
set_option maxRecDepth 100000
structure Zpj where
 name:Bool
 of_:Bool
 e:Bool
 f:Bool
 args:Bool
 dist:Bool
 flag:Bool
 body:Bool
 other:Bool
 deriving DecidableEq
def Ou (u:Zpj):List AV:=[.bool u.name,.bool u.of_,.bool u.e,.bool u.f,.bool u.args,.bool u.dist,.bool u.flag,.bool u.body,.bool u.other]
theorem Zd8:(∀ u,(Ou u).length=9)∧(∀ u,(Ou u).map AV.ro=Ou u)∧(∀ u,(Ou u)[0]? = some (.bool u.name))∧(∀ u,(Ou u)[1]? = some (.bool u.of_))∧(∀ u,(Ou u)[2]? = some (.bool u.e))∧(∀ u,(Ou u)[3]? = some (.bool u.f))∧(∀ u,(Ou u)[4]? = some (.bool u.args))∧(∀ u,(Ou u)[5]? = some (.bool u.dist))∧(∀ u,(Ou u)[6]? = some (.bool u.flag))∧(∀ u,(Ou u)[7]? = some (.bool u.body))∧(∀ u,(Ou u)[8]? = some (.bool u.other))∧(∀ (bs:Nat) (hp:List Zt) (u:Zpj),Zja bs hp (.agg (Ou u))=some (.agg (Ou u)))∧(∀ u,AV.nm (.agg (Ou u))=.agg (Ou u)):=⟨fun _=>rfl,fun _=>rfl,fun _=>rfl,fun _=>rfl,fun _=>rfl,fun _=>rfl,fun _=>rfl,fun _=>rfl,fun _=>rfl,fun _=>rfl,fun _=>rfl,fun _ _ _=>rfl,fun _=>rfl⟩
def Zc2 (op:Int):Zpj×Bool:=if decide (op=1)=true then (⟨true,false,true,false,false,false,false,false,false⟩,true) else if decide (op=7)=true then (⟨true,false,true,false,false,false,false,false,false⟩,true) else if decide (op=8)=true then (⟨true,false,true,false,false,false,false,false,false⟩,true) else if decide (op=12)=true then (⟨true,false,true,false,false,false,false,false,false⟩,true) else if decide (op=15)=true then (⟨true,false,true,false,false,false,false,false,false⟩,true) else if decide (op=16)=true then (⟨true,false,true,false,false,false,false,false,false⟩,true) else if decide (op=17)=true then (⟨true,false,true,false,false,false,false,false,false⟩,true) else if decide (op=2)=true then (⟨true,true,false,false,false,true,false,false,false⟩,true) else if decide (op=3)=true then (⟨false,false,true,false,false,false,false,true,true⟩,true) else if decide (op=4)=true then (⟨false,false,true,false,false,false,false,true,false⟩,true) else if decide (op=5)=true then (⟨false,false,true,false,false,false,false,false,false⟩,true) else if decide (op=6)=true then (⟨true,false,true,true,false,false,true,false,false⟩,true) else if decide (op=9)=true then (⟨true,true,false,false,false,false,false,false,false⟩,true) else if decide (op=10)=true then (⟨true,false,false,false,false,false,false,false,false⟩,true) else if decide (op=11)=true then (⟨true,false,false,false,false,false,false,false,false⟩,true) else if decide (op=13)=true then (⟨true,true,true,false,true,false,false,false,false⟩,true) else if decide (op=14)=true then (⟨true,false,true,false,true,false,false,false,false⟩,true) else if decide (op=18)=true then (⟨false,false,false,false,false,false,false,false,false⟩,true) else (⟨false,false,false,false,false,false,false,false,false⟩,false)
theorem Z2v:(fill [AV.bool false,AV.bool false,AV.bool false,AV.bool false,AV.bool false,AV.bool false,AV.bool false,AV.bool false,AV.bool false] []=some (Ou ⟨false,false,false,false,false,false,false,false,false⟩))∧(fill [AV.bool false,AV.bool false,AV.bool false,AV.bool false,AV.bool false,AV.bool false,AV.bool false,AV.bool false,AV.bool false] [(0,1,.bool true),(2,1,.bool true)]=some (Ou ⟨true,false,true,false,false,false,false,false,false⟩))∧(fill [AV.bool false,AV.bool false,AV.bool false,AV.bool false,AV.bool false,AV.bool false,AV.bool false,AV.bool false,AV.bool false] [(0,1,.bool true),(1,1,.bool true),(5,1,.bool true)]=some (Ou ⟨true,true,false,false,false,true,false,false,false⟩))∧(fill [AV.bool false,AV.bool false,AV.bool false,AV.bool false,AV.bool false,AV.bool false,AV.bool false,AV.bool false,AV.bool false] [(2,1,.bool true),(7,1,.bool true),(8,1,.bool true)]=some (Ou ⟨false,false,true,false,false,false,false,true,true⟩))∧(fill [AV.bool false,AV.bool false,AV.bool false,AV.bool false,AV.bool false,AV.bool false,AV.bool false,AV.bool false,AV.bool false] [(2,1,.bool true),(7,1,.bool true)]=some (Ou ⟨false,false,true,false,false,false,false,true,false⟩))∧(fill [AV.bool false,AV.bool false,AV.bool false,AV.bool false,AV.bool false,AV.bool false,AV.bool false,AV.bool false,AV.bool false] [(2,1,.bool true)]=some (Ou ⟨false,false,true,false,false,false,false,false,false⟩))∧(fill [AV.bool false,AV.bool false,AV.bool false,AV.bool false,AV.bool false,AV.bool false,AV.bool false,AV.bool false,AV.bool false] [(0,1,.bool true),(2,1,.bool true),(3,1,.bool true),(6,1,.bool true)]=some (Ou ⟨true,false,true,true,false,false,true,false,false⟩))∧(fill [AV.bool false,AV.bool false,AV.bool false,AV.bool false,AV.bool false,AV.bool false,AV.bool false,AV.bool false,AV.bool false] [(0,1,.bool true),(1,1,.bool true)]=some (Ou ⟨true,true,false,false,false,false,false,false,false⟩))∧(fill [AV.bool false,AV.bool false,AV.bool false,AV.bool false,AV.bool false,AV.bool false,AV.bool false,AV.bool false,AV.bool false] [(0,1,.bool true)]=some (Ou ⟨true,false,false,false,false,false,false,false,false⟩))∧(fill [AV.bool false,AV.bool false,AV.bool false,AV.bool false,AV.bool false,AV.bool false,AV.bool false,AV.bool false,AV.bool false] [(0,1,.bool true),(1,1,.bool true),(2,1,.bool true),(4,1,.bool true)]=some (Ou ⟨true,true,true,false,true,false,false,false,false⟩))∧(fill [AV.bool false,AV.bool false,AV.bool false,AV.bool false,AV.bool false,AV.bool false,AV.bool false,AV.bool false,AV.bool false] [(0,1,.bool true),(2,1,.bool true),(4,1,.bool true)]=some (Ou ⟨true,false,true,false,true,false,false,false,false⟩)):=⟨rfl,rfl,rfl,rfl,rfl,rfl,rfl,rfl,rfl,rfl,rfl⟩
theorem Z3W:([AV.bool false,AV.bool false,AV.bool false,AV.bool false,AV.bool false,AV.bool false,AV.bool false,AV.bool false,AV.bool false]:List AV).length=9:=rfl
theorem Z3V (op:Int):1≤op∧op≤18→op=1∨op=2∨op=3∨op=4∨op=5∨op=6∨op=7∨op=8∨op=9∨op=10∨op=11∨op=12∨op=13∨op=14∨op=15∨op=16∨op=17∨op=18:=by omega
theorem ZyF (op:Int)(hp:HP):(if decide (op=1)=true then some (.tup [.agg (Ou ⟨true,false,true,false,false,false,false,false,false⟩),.bool true],hp,none) else if decide (op=7)=true then some (.tup [.agg (Ou ⟨true,false,true,false,false,false,false,false,false⟩),.bool true],hp,none) else if decide (op=8)=true then some (.tup [.agg (Ou ⟨true,false,true,false,false,false,false,false,false⟩),.bool true],hp,none) else if decide (op=12)=true then some (.tup [.agg (Ou ⟨true,false,true,false,false,false,false,false,false⟩),.bool true],hp,none) else if decide (op=15)=true then some (.tup [.agg (Ou ⟨true,false,true,false,false,false,false,false,false⟩),.bool true],hp,none) else if decide (op=16)=true then some (.tup [.agg (Ou ⟨true,false,true,false,false,false,false,false,false⟩),.bool true],hp,none) else if decide (op=17)=true then some (.tup [.agg (Ou ⟨true,false,true,false,false,false,false,false,false⟩),.bool true],hp,none) else if decide (op=2)=true then some (.tup [.agg (Ou ⟨true,true,false,false,false,true,false,false,false⟩),.bool true],hp,none) else if decide (op=3)=true then some (.tup [.agg (Ou ⟨false,false,true,false,false,false,false,true,true⟩),.bool true],hp,none) else if decide (op=4)=true then some (.tup [.agg (Ou ⟨false,false,true,false,false,false,false,true,false⟩),.bool true],hp,none) else if decide (op=5)=true then some (.tup [.agg (Ou ⟨false,false,true,false,false,false,false,false,false⟩),.bool true],hp,none) else if decide (op=6)=true then some (.tup [.agg (Ou ⟨true,false,true,true,false,false,true,false,false⟩),.bool true],hp,none) else if decide (op=9)=true then some (.tup [.agg (Ou ⟨true,true,false,false,false,false,false,false,false⟩),.bool true],hp,none) else if decide (op=10)=true then some (.tup [.agg (Ou ⟨true,false,false,false,false,false,false,false,false⟩),.bool true],hp,none) else if decide (op=11)=true then some (.tup [.agg (Ou ⟨true,false,false,false,false,false,false,false,false⟩),.bool true],hp,none) else if decide (op=13)=true then some (.tup [.agg (Ou ⟨true,true,true,false,true,false,false,false,false⟩),.bool true],hp,none) else if decide (op=14)=true then some (.tup [.agg (Ou ⟨true,false,true,false,true,false,false,false,false⟩),.bool true],hp,none) else if decide (op=18)=true then some (.tup [.agg (Ou ⟨false,false,false,false,false,false,false,false,false⟩),.bool true],hp,none) else some (.tup [.agg (Ou ⟨false,false,false,false,false,false,false,false,false⟩),.bool false],hp,none):KR)=some (.tup [.agg (Ou (Zc2 op).1),.bool (Zc2 op).2],hp,none):=by
 by_cases h:1≤op∧op≤18
 ·rcases Z3V op h with rfl | rfl | rfl | rfl | rfl | rfl | rfl | rfl | rfl | rfl | rfl | rfl | rfl | rfl | rfl | rfl | rfl | rfl <;> rfl
 ·have f:∀ k:Int,1≤k→k≤18→decide (op=k)=false:=fun k h1 h2=>by simp only [decide_eq_false_iff_not]; omega
  simp only [Zc2,f 1 (by omega) (by omega),f 2 (by omega) (by omega),f 3 (by omega) (by omega),f 4 (by omega) (by omega),f 5 (by omega) (by omega),f 6 (by omega) (by omega),f 7 (by omega) (by omega),f 8 (by omega) (by omega),f 9 (by omega) (by omega),f 10 (by omega) (by omega),f 11 (by omega) (by omega),f 12 (by omega) (by omega),f 13 (by omega) (by omega),f 14 (by omega) (by omega),f 15 (by omega) (by omega),f 16 (by omega) (by omega),f 17 (by omega) (by omega),f 18 (by omega) (by omega),IFJ]
theorem Zu3 {C:Cfg}(hC:Xz C)(N:Nat)(hN:1≤N)(hp:HP)(op:Int):Zc C N AA [.int .i64 op] hp=some (.tup [.agg (Ou (Zc2 op).1),.bool (Zc2 op).2],hp,none):=by
 obtain ⟨m,rfl⟩:∃ m,N=m + 1:=⟨N - 1,by omega⟩
 refine ZrE (by rw [hC.T]; rfl) ?_
 generalize Zc C m=K at *
 have sts:∀ (u:Zpj),stV hp.length 9 (.ptr hp.length 0) (.agg (Ou u)) (hp ++ [.cells [AV.bool false,AV.bool false,AV.bool false,AV.bool false,AV.bool false,AV.bool false,AV.bool false,AV.bool false,AV.bool false] Gq]) none=some (hp ++ [.cells (Ou u) Gq],none):=fun u=>N7 hp.length 9 hp [AV.bool false,AV.bool false,AV.bool false,AV.bool false,AV.bool false,AV.bool false,AV.bool false,AV.bool false,AV.bool false] (Ou u) Gq none rfl rfl (Nat.le_refl _)
 simp only [Zfb,J3,BS,Gn,EV,LD,BL,IFJ,Nat.reduceAdd,Nat.reduceLeDiff,Nat.reduceBEq,GI,Z2v,sts,Zd8,TUP]
 exact ZyF op hp
theorem Zv6 {C:Cfg}(hC:Xz C)(N:Nat)(hN:1≤N)(hp:HP)(op:Int):Zc C N Zlb [.int .i64 op] hp=some (.tup [.agg (Ou (Zc2 op).1),.bool (Zc2 op).2],hp,none):=by
 obtain ⟨m,rfl⟩:∃ m,N=m + 1:=⟨N - 1,by omega⟩
 refine ZwO (by rw [hC.T]; rfl) ?_
 generalize Zc C m=K at *
 have sts:∀ (u:Zpj),stV hp.length 9 (.ptr hp.length 0) (.agg (Ou u)) (hp ++ [.cells [AV.bool false,AV.bool false,AV.bool false,AV.bool false,AV.bool false,AV.bool false,AV.bool false,AV.bool false,AV.bool false] Ww]) none=some (hp ++ [.cells (Ou u) Ww],none):=fun u=>N7 hp.length 9 hp [AV.bool false,AV.bool false,AV.bool false,AV.bool false,AV.bool false,AV.bool false,AV.bool false,AV.bool false,AV.bool false] (Ou u) Ww none rfl rfl (Nat.le_refl _)
 simp only [Zqv,Io,F6,Ll,EV,LD,BL,IFJ,Nat.reduceAdd,Nat.reduceLeDiff,Nat.reduceBEq,GI,Z2v,sts,Zd8,TUP]
 exact ZyF op hp
theorem TW:(∀ d,(Y9 d).length=21)∧(∀ d,(Y9 d).map AV.ro=Y9 d)∧(∀ x,((Y9 x).drop 3).take 4=WG x.E)∧(∀ x,((Y9 x).drop 7).take 4=WG x.F)∧(∀ x,((Y9 x).drop 12).take 6=Kk x.Dist)∧(∀ x,(Y9 x)[0]? = some (.int .i64 x.Op))∧(∀ x,(Y9 x)[1]? = some (.str x.Name))∧(∀ x,(Y9 x)[2]? = some (.str x.Of))∧(∀ x,(Y9 x)[11]? = some (.lst 4 (x.Args.map WG)))∧(∀ x,(Y9 x)[18]? = some (.bool x.Flag))∧(∀ x,(Y9 x)[19]? = some (.lst 21 (x.Body.map Y9)))∧(∀ x,(Y9 x)[20]? = some (.lst 21 (x.Else.map Y9))):=⟨Zyv,Z0g,ZwY,ZwZ,Zr9,Z1U,Z1V,Z1W,Z0c,Z0d,Z0e,Z0f⟩
def Zph (e:Q3):Bool:=decide (e.Op=0) && decide (e.Name=[]) && decide (e.N=0) && decide ((e.Kids.length:Int)=0)
def Cy (d:TY):Bool:=decide (d.Op=0) && decide (d.A=0) && decide (d.B=0) && decide (d.N=0) && decide (d.Values=[]) && decide (d.Weights=[])
theorem zx1:([.int .i64 0,.str [],.int .i64 0,.own 4 []]:List AV).length=4∧([.int .i64 0,.str [],.int .i64 0,.own 4 []]:List AV).map AV.ro=[.int .i64 0,.str [],.int .i64 0,.lst 4 []]:=⟨rfl,rfl⟩
theorem zd1:([.int .i64 0,.int .i64 0,.int .i64 0,.int .i64 0,.own 1 [],.own 1 []]:List AV).length=6:=rfl
theorem GI2:(∀ (α:Type) (a b c d e:α) (l:List α),(a :: b :: c :: d :: e :: l)[4]? = some e)∧(∀ (α:Type) (a b c d e f:α) (l:List α),(a :: b :: c :: d :: e :: f :: l)[5]? = some f):=⟨fun _ _ _ _ _ _ _=>rfl,fun _ _ _ _ _ _ _ _=>rfl⟩
theorem Zk4 {C:Cfg}(hC:Xz C)(N:Nat)(hN:1≤N)(hp:HP)(e:Q3)(ok:XQ e):Zc C N Ap [.agg (WG e),.agg [.int .i64 0,.str [],.int .i64 0,.own 4 []]] hp=some (.bool (Zph e),hp,none):=by
 obtain ⟨m,rfl⟩:∃ m,N=m + 1:=⟨N - 1,by omega⟩
 refine ZqL (by rw [hC.T]; rfl) ?_
 have n0:(([]:List (List AV)).length:Int)=0:=rfl
 obtain ⟨L,hL⟩:∃ L,C.L=L + 1:=⟨C.L - 1,by have:=hC.L; omega⟩
 by_cases hlen:e.Kids.length=0
 ·have h0:(e.Kids.length:Int)=0:=by omega
  have l0:decide ((0:Int) < 0)=false:=by decide
  simp only [Fu,EV,LD,BL,IFJ,Vx,zx1,GI,n0,h0,hL,Mj,BM,l0,Zph,ne_eq,not_true_eq_false,decide_false,decide_true]
  by_cases h1:e.Op=0 <;> by_cases h2:e.Name=[] <;> by_cases h3:e.N=0 <;> simp [h1,h2,h3]
 ·have h0:¬ (e.Kids.length:Int)=0:=by omega
  simp only [Fu,EV,LD,BL,IFJ,Vx,zx1,GI,n0,h0,Zph,ne_eq,not_false_eq_true,decide_true,decide_false]
theorem Zwt {C:Cfg}(hC:Xz C)(N:Nat)(hN:1≤N)(hp:HP)(e:Q3):Zc C N ZbY [.agg (WG e)] hp=some (.bool (Zph e),hp,none):=by
 obtain ⟨m,rfl⟩:∃ m,N=m + 1:=⟨N - 1,by omega⟩
 refine Ztp (by rw [hC.T]; rfl) ?_
 simp only [Zio,EV,LD,BL,IFJ,Vx,Zph]
theorem Cr {C:Cfg}(hC:Xz C)(N:Nat)(hN:2≤N)(hp:HP)(d:TY)(hd:RU d):Zc C N Pv [.agg (Kk d),.agg [.int .i64 0,.int .i64 0,.int .i64 0,.int .i64 0,.own 1 [],.own 1 []]] hp=some (.bool (Cy d),hp,none):=by
 obtain ⟨m,rfl⟩:∃ m,N=m + 1:=⟨N - 1,by omega⟩
 have q1:∀ hp,Zc C m XH [.lst 1 (ints d.Values),.lst 1 []] hp=some (.bool (decide (d.Values=[])),hp,none):=fun hp=>L8 hC m (by omega) hp d.Values [] hd.v (by simp)
 have q2:∀ hp,Zc C m XH [.lst 1 (ints d.Weights),.lst 1 []] hp=some (.bool (decide (d.Weights=[])),hp,none):=fun hp=>L8 hC m (by omega) hp d.Weights [] hd.w (by simp)
 refine Zq4 (by rw [hC.T]; rfl) ?_
 simp only [Zes,EV,LD,BL,IFJ,TV,zd1,GI,GI2,q1,q2,Cy]
theorem ZbE {C:Cfg}(hC:Xz C)(N:Nat)(hN:2≤N)(hp:HP)(d:TY)(hd:RU d):Zc C N EG [.agg (Kk d),.agg [.int .i64 0,.int .i64 0,.int .i64 0,.int .i64 0,.own 1 [],.own 1 []]] hp=some (.bool (Cy d),hp,none):=by
 obtain ⟨m,rfl⟩:∃ m,N=m + 1:=⟨N - 1,by omega⟩
 have q1:∀ hp,Zc C m Oa [.lst 1 (ints d.Values),.lst 1 []] hp=some (.bool (decide (d.Values=[])),hp,none):=fun hp=>Zdp hC m (by omega) hp d.Values [] hd.v (by simp)
 have q2:∀ hp,Zc C m Oa [.lst 1 (ints d.Weights),.lst 1 []] hp=some (.bool (decide (d.Weights=[])),hp,none):=fun hp=>Zdp hC m (by omega) hp d.Weights [] hd.w (by simp)
 refine Ztk (by rw [hC.T]; rfl) ?_
 simp only [ZhJ,EV,LD,BL,IFJ,TV,zd1,GI,GI2,q1,q2,Cy]
theorem ZyJ:fill [(.int .i64 0),(.str []),(.int .i64 0),(.own 4 [])] []=some [(.int .i64 0),(.str []),(.int .i64 0),(.own 4 [])]∧fill [(.int .i64 0),(.int .i64 0),(.int .i64 0),(.int .i64 0),(.own 1 []),(.own 1 [])] []=some [(.int .i64 0),(.int .i64 0),(.int .i64 0),(.int .i64 0),(.own 1 []),(.own 1 [])]:=⟨rfl,rfl⟩
def Zu5 (s:WT)(u:Zpj):Bool :=
 (u.name || decide (s.Name=[])) && (u.of_ || decide (s.Of=[])) && (u.e || Zph s.E) && (u.f || Zph s.F) && (u.args || decide ((s.Args.length:Int)=0)) && (u.dist || Cy s.Dist) && (u.flag || !s.Flag) && (u.body || decide ((s.Body.length:Int)=0)) && (u.other || decide ((s.Else.length:Int)=0))
def ZxE (s:WT):Bool :=
 (Zc2 s.Op).2 && ((((Zc2 s.Op).1.name || decide (s.Name=[])) && ((Zc2 s.Op).1.of_ || decide (s.Of=[])))) && (((Zc2 s.Op).1.e || Zph s.E) && ((Zc2 s.Op).1.f || Zph s.F) && ((Zc2 s.Op).1.args || decide ((s.Args.length:Int)=0))) && (((Zc2 s.Op).1.body || decide ((s.Body.length:Int)=0)) && ((Zc2 s.Op).1.other || decide ((s.Else.length:Int)=0))) && ((Zc2 s.Op).1.dist || Cy s.Dist) && ((Zc2 s.Op).1.flag || !s.Flag)
theorem Zzl (s:WT):ZxE s=((Zc2 s.Op).2 && Zu5 s (Zc2 s.Op).1):=by
 simp only [ZxE,Zu5]
 generalize (Zc2 s.Op).1=u
 generalize (Zc2 s.Op).2=b
 ac_rfl
theorem ZqJ {C:Cfg}(hC:Xz C)(N:Nat)(hN:2≤N)(hp:HP)(e:Q3)(ok:XQ e):Zc C N Tx [.agg (WG e)] hp=some (.bool (Zph e),hp,none):=by
 obtain ⟨m,rfl⟩:∃ m,N=m + 1:=⟨N - 1,by omega⟩
 have q0:=Zk4 hC m (by omega)
 refine Znp (by rw [hC.T]; rfl) ?_
 generalize Zc C m=K at *
 simp only [F9,EV,LD,BL,IFJ,Nat.reduceAdd,Nat.reduceLeDiff,Nat.reduceBEq,GI,q0,ok,Vx,ZyJ]
theorem Zu2 {C:Cfg}(hC:Xz C)(N:Nat)(hN:3≤N)(hp:HP)(s:WT)(u:Zpj)(ok:Vq s):Zc C N A9 [.agg (Y9 s),.agg (Ou u)] hp=some (.bool (Zu5 s u),hp,none):=by
 obtain ⟨m,rfl⟩:∃ m,N=m + 1:=⟨N - 1,by omega⟩
 have q0:=ZqJ hC m (by omega)
 have q1:=Cr hC m (by omega)
 refine ZrD (by rw [hC.T]; rfl) ?_
 generalize Zc C m=K at *
 have cvf:∀ (a:List AV) (h:HP),Vz K (.fn Tx [] []) a h=K Tx (a ++ []) h:=fun _ _=>rfl
 have apn:∀ l:List AV,l ++ []=l:=List.append_nil
 simp only [Zfa,EV,LD,BL,IFJ,Nat.reduceAdd,Nat.reduceLeDiff,Nat.reduceBEq,GI,q0,q1,ok.E,ok.F,ok.Dist,TW,Zd8,Vx,TV,ZyJ,Zu5,LDP,cvf,apn]
theorem Zs2 {C:Cfg}(hC:Xz C)(N:Nat)(hN:3≤N)(hp:HP)(s:WT)(ok:Vq s):Zc C N Zae [.agg (Y9 s)] hp=some (.bool (ZxE s),hp,none):=by
 obtain ⟨m,rfl⟩:∃ m,N=m + 1:=⟨N - 1,by omega⟩
 have q0:=Zv6 hC m (by omega)
 have q1:=Zwt hC m (by omega)
 have q2:=ZbE hC m (by omega)
 refine ZoU (by rw [hC.T]; rfl) ?_
 generalize Zc C m=K at *
 have sts:∀ (u:Zpj),stV hp.length 9 (.ptr (hp ++ [Zt.cells (Y9 s) Qc]).length 0) (.agg (Ou u)) (hp ++ [.cells (Y9 s) Qc] ++ [.cells [AV.bool false,AV.bool false,AV.bool false,AV.bool false,AV.bool false,AV.bool false,AV.bool false,AV.bool false,AV.bool false] Ww]) none=some (hp ++ [.cells (Y9 s) Qc] ++ [.cells (Ou u) Ww],none):=fun u=>N7 hp.length 9 _ [AV.bool false,AV.bool false,AV.bool false,AV.bool false,AV.bool false,AV.bool false,AV.bool false,AV.bool false,AV.bool false] (Ou u) _ none rfl rfl (by simp)
 simp only [Zbx,EV,LD,BL,IFJ,Nat.reduceAdd,Nat.reduceLeDiff,Nat.reduceBEq,GI,q0,q1,q2,ok.E,ok.F,ok.Dist,sts,TW,Zd8,Vx,TV,ZyJ,ZxE,LDP,EX]
end Go.Proofs.YtlmfmmclnboglaaGreat
end
section
namespace Go.Proofs.YtlmfmmclnboglaaGreat
open Go Go.RowKit Go.Proofs.YtlmfmmclnboglaaGreat.Abs
set_option linter.all false
set_option maxRecDepth 100000
def rPN (b:Bool)(s:List UInt8):List AV:=[.bool b,.str s]
def rPE (b:Bool)(e:Q3):List AV:=.bool b :: WG e
theorem Z2Z:(∀ b s,(rPN b s).length=2)∧(∀ b s,(rPN b s).map AV.ro=rPN b s)∧(∀ b s,(rPN b s)[0]? = some (.bool b))∧(∀ b s,(rPN b s)[1]? = some (.str s))∧(∀ b s,fill [(.bool false),(.str [])] [(0,1,.bool b),(1,1,.str s)]=some (rPN b s)):=⟨fun _ _=>rfl,fun _ _=>rfl,fun _ _=>rfl,fun _ _=>rfl,fun _ _=>rfl⟩
theorem Zr7 (b:Bool)(e:Q3):(rPE b e).length=5:=by simp [rPE,Nz]
theorem Z0H (b:Bool)(e:Q3):(rPE b e).map AV.ro=rPE b e:=by simp [rPE,Zr6,AV.ro]
theorem Z2Y (b:Bool)(e:Q3):(rPE b e).all AV.noId1=true:=by rw [rPE,VN]; rfl
theorem ZzW (b:Bool)(e:Q3):fill [(.bool false),(.int .i64 0),(.str []),(.int .i64 0),(.own 4 [])] [(0,1,.bool b),(1,4,.agg (WG e))]=some (rPE b e):=by rw [rPE,VN]; rfl
theorem Z3F (b:Bool)(e:Q3):((rPE b e).drop 1).take 4=WG e:=by
 show (WG e).take 4=WG e
 rw [List.take_of_length_le (by rw [Nz]; omega)]
theorem Z3G:(∀ b s,(rPE b s).length=5)∧(∀ b s,(rPE b s).map AV.ro=rPE b s)∧(∀ b s,(rPE b s)[0]? = some (.bool b))∧(∀ b e,((rPE b e).drop 1).take 4=WG e):=⟨Zr7,Z0H,fun _ _=>rfl,Z3F⟩
theorem Z39 (t:TypeId)(a b:Bool)(x y:List UInt8)(hp:HP):ZbM t 2 [.agg (rPN a x),.agg (rPN b y)] hp=some (.own 2 [rPN a x,rPN b y],hp):=rfl
theorem Z37 (t:TypeId)(a b:Bool)(x y:Q3)(hp:HP):ZbM t 5 [.agg (rPE a x),.agg (rPE b y)] hp=some (.own 5 [rPE a x,rPE b y],hp):=by
 simp [ZbM,AV.cells,Zr7,Z0H,Z2Y,-List.all_eq_true]
theorem nmE (e:Q3):AV.nm (.agg (WG e))=.agg (WG e):=ZzM e
def ZpZ (s:WT)(u:Zpj):List Q3→Int
 | []=>if u.dist=true then Zb5 s.Dist else 0
 | x :: r=>if decide (JS false x≠0)=true then JS false x else ZpZ s u r
def Ztj (s:WT)(u:Zpj):Int:=if decide (6 < (s.Args.length:Int))=true then 6 else ZpZ s u s.Args
def ZvO (s:WT)(u:Zpj):Int:=if (!u.f)=true then Ztj s u else if decide (JS false s.F≠0)=true then JS false s.F else Ztj s u
def ZpJ (s:WT)(u:Zpj):Int:=if (!u.e)=true then ZvO s u else if decide (JS false s.E≠0)=true then JS false s.E else ZvO s u
def ZpK (s:WT)(u:Zpj):Int :=
 if (u.name && decide (Gv s.Name≠0))=true then Gv s.Name else if (u.of_ && decide (Gv s.Of≠0))=true then Gv s.Of else ZpJ s u
theorem Vq.a {s:WT}(h:Vq s):s.Args.length≤4611686018427387:=by have:=h.Args.1; omega
theorem iaI (k:Nat)(r:List (List AV)):Yy (.slice k) (.lst k r) (.int .i64 0)=(r[0]?).map .ref∧Yy (.slice k) (.lst k r) (.int .i64 1)=(r[1]?).map .ref:=⟨Yp k r 0,Yp k r 1⟩
theorem w01:IntKind.i64.wrap (0 + 1)=1∧IntKind.i64.wrap (1 + 1)=2∧decide ((0:Int) < 2)=true∧decide ((1:Int) < 2)=true∧decide ((2:Int) < 2)=false∧(∀ (α:Type) (a b:α),(([a,b].length:Nat):Int)=2):=⟨by decide,by decide,by decide,by decide,by decide,fun _ _ _=>rfl⟩
section
variable {C:Cfg}(hC:Xz C)(hp0:HP)(s:WT)(u:Zpj)(ok:Vq s)(g g2:Nat)(tg tg2:TypeId)(K:KT)
include ok
theorem ZbJ (hX:∀ x ∈ s.Args,∀ hp,K Ur [.agg (WG x)] hp=some (.int .i64 (JS false x),hp,none))(hD:∀ hp,K Uq [.agg (Kk s.Dist)] hp=some (.int .i64 (Zb5 s.Dist),hp,none)):∀ (r q:List Q3) (m:Nat) (hp:HP),s.Args=q ++ r→r.length < m→hp0.length≤hp.length→hp[g]? = some (.cells (Y9 s) tg)→hp[g2]? = some (.cells (Ou u) tg2) →
  UF C.G K C.L hp0 (Tg C.G K C.L hp0) m (.ptr g 0) (.ptr g2 0) (.lst 4 (s.Args.map WG)) (.int .i64 (s.Args.length:Int)) (.int .i64 (q.length:Int)) hp none=some (.int .i64 (ZpZ s u r),hp0,none)
 | _,_,0,_,_,h,_,_,_=>by omega
 | [],q,m + 1,hp,h,_,hh,hg,hg2=>by
  have l0:=lp0 h
  simp only [UF,Tg,CO,Nat.reduceAdd,Nat.reduceLeDiff,Nat.reduceBEq,l0,LG hg,LG hg2,LGP hg,TW,Zd8,TV,hD,ZpZ]
 | x :: r,q,m + 1,hp,h,hm,hh,hg,hg2=>by
  obtain ⟨a1,a2,a3,a4,a5⟩:=lp WG h ok.a
  have ih:=ZbJ hX hD r (q ++ [x]) m (hp ++ [.cells (WG x) Yu]) a4 (by simpa using hm) (by simp; omega) (Gt hg _) (Gt hg2 _)
  have hc:=hX x a5
  have st:=N7 hp0.length 4 hp [(.int .i64 0),(.str []),(.int .i64 0),(.own 4 [])] (WG x) Yu none (Nz x) rfl hh
  simp only [UF,CO,Nat.reduceAdd,Nat.reduceLeDiff,Nat.reduceBEq,Vx,a1,a2,a3,Yp,st,hc,ih,ZpZ]
include hC
theorem Zmk (hX:∀ x ∈ s.Args,∀ hp,K Ur [.agg (WG x)] hp=some (.int .i64 (JS false x),hp,none))(hD:∀ hp,K Uq [.agg (Kk s.Dist)] hp=some (.int .i64 (Zb5 s.Dist),hp,none))(hp:HP)(hh:hp0.length≤hp.length)(hg:hp[g]? = some (.cells (Y9 s) tg))(hg2:hp[g2]? = some (.cells (Ou u) tg2)) :
  GL C.G K C.L hp0 (.ptr g 0) (.ptr g2 0) hp none=some (.int .i64 (Ztj s u),hp0,none):=by
 have h:=ZbJ (C := C) hp0 s u ok g g2 tg tg2 K hX hD s.Args [] C.L hp rfl (by have:=hC.L; have:=ok.a; omega) hh hg hg2
 simp only [List.length_nil,Int.natCast_zero] at h
 simp only [GL,CO,Nat.reduceAdd,Nat.reduceLeDiff,Nat.reduceBEq,LG hg,TW,h,Ztj]
theorem Zmm (hX:∀ x,(x=s.E∨x=s.F∨x ∈ s.Args)→∀ hp,K Ur [.agg (WG x)] hp=some (.int .i64 (JS false x),hp,none))(hD:∀ hp,K Uq [.agg (Kk s.Dist)] hp=some (.int .i64 (Zb5 s.Dist),hp,none))(m:Nat)(hp:HP)(hh:hp0.length≤hp.length)(hg:hp[g]? = some (.cells (Y9 s) tg))(hg2:hp[g2]? = some (.cells (Ou u) tg2)) :
  UE C.G K C.L hp0 (GL C.G K C.L hp0) (m + 3) (.ptr g 0) (.ptr g2 0) (.lst 5 [rPE u.e s.E,rPE u.f s.F]) (.int .i64 2) (.int .i64 0) hp none=some (.int .i64 (ZpJ s u),hp0,none):=by
 have j:=fun hp h1 h2 h3=>Zmk hC hp0 s u ok g g2 tg tg2 K (fun x hx=>hX x (.inr (.inr hx))) hD hp h1 h2 h3
 have j1:=j (hp ++ [.cells (rPE u.e s.E) WB] ++ [.cells (rPE u.f s.F) WB]) (by simp; omega) (Gt (Gt hg _) _) (Gt (Gt hg2 _) _)
 have st1:=N7 hp0.length 5 hp [(.bool false),(.int .i64 0),(.str []),(.int .i64 0),(.own 4 [])] (rPE u.e s.E) WB none (Zr7 _ _) rfl hh
 have st2:=N7 hp0.length 5 (hp ++ [.cells (rPE u.e s.E) WB]) [(.bool false),(.int .i64 0),(.str []),(.int .i64 0),(.own 4 [])] (rPE u.f s.F) WB none (Zr7 _ _) rfl (by simp; omega)
 have x1:=hX s.E (.inl rfl)
 have x2:=hX s.F (.inr (.inl rfl))
 simp only [UE,CO,Nat.reduceAdd,Nat.reduceLeDiff,Nat.reduceBEq,Z3G,Vx,LDP,iaI,w01,st1,st2,x1,x2,j1,ZpJ,ZvO]
theorem Zmj (hX:∀ x,(x=s.E∨x=s.F∨x ∈ s.Args)→∀ hp,K Ur [.agg (WG x)] hp=some (.int .i64 (JS false x),hp,none))(hD:∀ hp,K Uq [.agg (Kk s.Dist)] hp=some (.int .i64 (Zb5 s.Dist),hp,none))(hp:HP)(hh:hp0.length≤hp.length)(hg:hp[g]? = some (.cells (Y9 s) tg))(hg2:hp[g2]? = some (.cells (Ou u) tg2)) :
  GK C.G K C.L hp0 (.ptr g 0) (.ptr g2 0) hp none=some (.int .i64 (ZpJ s u),hp0,none):=by
 obtain ⟨L,hL⟩:∃ L,C.L=L + 3:=⟨C.L - 3,by have:=hC.L; omega⟩
 have h:=Zmm hC hp0 s u ok g g2 tg tg2 K hX hD L hp hh hg hg2
 rw [← hL] at h
 simp only [GK,CO,Nat.reduceAdd,Nat.reduceLeDiff,Nat.reduceBEq,LG hg,LG hg2,LGP hg,TW,Zd8,Vx,nmE,ZzW,Z37,w01,h]
theorem Zml (hX:∀ x,(x=s.E∨x=s.F∨x ∈ s.Args)→∀ hp,K Ur [.agg (WG x)] hp=some (.int .i64 (JS false x),hp,none))(hD:∀ hp,K Uq [.agg (Kk s.Dist)] hp=some (.int .i64 (Zb5 s.Dist),hp,none))
  (hN:∀ hp n,n.length≤140737488351232→K Kv [.str n] hp=some (.int .i64 (Gv n),hp,none)) (m:Nat) (hp:HP) (hh:hp0.length≤hp.length) (hg:hp[g]? = some (.cells (Y9 s) tg)) (hg2:hp[g2]? = some (.cells (Ou u) tg2)) :
  GM C.G K C.L hp0 (GK C.G K C.L hp0) (m + 3) (.ptr g 0) (.ptr g2 0) (.lst 2 [rPN u.name s.Name,rPN u.of_ s.Of]) (.int .i64 2) (.int .i64 0) hp none=some (.int .i64 (ZpK s u),hp0,none):=by
 have j:=fun hp h1 h2 h3=>Zmj hC hp0 s u ok g g2 tg tg2 K hX hD hp h1 h2 h3
 have j1:=j (hp ++ [.cells (rPN u.name s.Name) Wv] ++ [.cells (rPN u.of_ s.Of) Wv]) (by simp; omega) (Gt (Gt hg _) _) (Gt (Gt hg2 _) _)
 have st1:=N7 hp0.length 2 hp [(.bool false),(.str [])] (rPN u.name s.Name) Wv none rfl rfl hh
 have st2:=N7 hp0.length 2 (hp ++ [.cells (rPN u.name s.Name) Wv]) [(.bool false),(.str [])] (rPN u.of_ s.Of) Wv none rfl rfl (by simp; omega)
 simp only [GM,CO,Nat.reduceAdd,Nat.reduceLeDiff,Nat.reduceBEq,Z2Z,iaI,w01,st1,st2,hN,ok.Name,ok.Of,j1,ZpK]
end
theorem Z3u (s:WT):SizeOf.sizeOf s.E < SizeOf.sizeOf s∧SizeOf.sizeOf s.F < SizeOf.sizeOf s∧SizeOf.sizeOf s.Args < SizeOf.sizeOf s∧SizeOf.sizeOf s.Body < SizeOf.sizeOf s∧SizeOf.sizeOf s.Else < SizeOf.sizeOf s:=by
 cases s; simp; omega
theorem Z3N {s:WT}{x:Q3}(h:x ∈ s.Args):SizeOf.sizeOf x < SizeOf.sizeOf s:=by
 have:=List.sizeOf_lt_of_mem h
 have:=(Z3u s).2.2.1
 omega
theorem ZsA {C:Cfg}(hC:Xz C)(N:Nat)(hp:HP)(s:WT)(u:Zpj)(hN:SizeOf.sizeOf s + 8≤N)(ok:Vq s):Zc C N NJ [.agg (Y9 s),.agg (Ou u)] hp=some (.int .i64 (ZpK s u),hp,none):=by
 obtain ⟨m,rfl⟩:∃ m,N=m + 1:=⟨N - 1,by omega⟩
 have z:=Z3u s
 have hX:∀ x,(x=s.E∨x=s.F∨x ∈ s.Args)→∀ hp,Zc C m Ur [.agg (WG x)] hp=some (.int .i64 (JS false x),hp,none):=fun x hx hp=>by
  rcases hx with rfl | rfl | hx
  ·exact Zb9 hC m hp s.E (by omega) ok.E
  ·exact Zb9 hC m hp s.F (by omega) ok.F
  ·exact Zb9 hC m hp x (by have:=Z3N hx; omega) (ok.Args.2 x hx)
 have hD:=fun hp=>Zjx hC m (by omega) hp s.Dist ok.Dist
 have hNm:=fun hp n h=>Pi hC m (by omega) hp n h
 obtain ⟨L,hL⟩:∃ L,C.L=L + 3:=⟨C.L - 3,by have:=hC.L; omega⟩
 have h:=Zml hC hp s u ok hp.length (hp ++ [Zt.cells (Y9 s) Qc]).length Qc Gq (Zc C m) hX hD hNm L (hp ++ [.cells (Y9 s) Qc] ++ [.cells (Ou u) Gq]) (by simp) (Gt (ZC _ _) _) (ZC _ _)
 rw [← hL] at h
 refine Zpe (by rw [hC.T]; rfl) ?_
 simp only [Zb4,CO,Nat.reduceAdd,Nat.reduceLeDiff,Nat.reduceBEq,TW,Zd8,Z2Z,Z39,w01,h]
def Zcm (s:WT):List Q3→Int→Int
 | [],e=>e
 | x :: r,e=>if decide (e=0)=true then Zcm s r (JS false x) else e
def Zmr (s:WT)(u:Zpj):Int :=
 Zcm s s.Args (if (decide ((if (decide ((if u.e=true then JS false s.E else 0)=0) && u.f)=true then JS false s.F else (if u.e=true then JS false s.E else 0))=0) && decide (6 < (s.Args.length:Int)))=true then 6
  else (if (decide ((if u.e=true then JS false s.E else 0)=0) && u.f)=true then JS false s.F else (if u.e=true then JS false s.E else 0)))
def Z3q (s:WT):Int :=
 if (!(ZxE s))=true then 1
 else if (((Zc2 s.Op).1.name && decide (Gv s.Name≠0)) || ((Zc2 s.Op).1.of_ && decide (Gv s.Of≠0)))=true then 3
 else if (decide (Zmr s (Zc2 s.Op).1=0) && (Zc2 s.Op).1.dist)=true then Zx7 s.Dist else Zmr s (Zc2 s.Op).1
theorem Zqb (s:WT)(l:List Q3)(e:Int)(h:e≠0):Zcm s l e=e:=by
 cases l <;> simp [Zcm,h]
theorem Zpn (s:WT)(u:Zpj):∀ l:List Q3,(if (decide (Zcm s l 0=0) && u.dist)=true then Zb5 s.Dist else Zcm s l 0)=ZpZ s u l
 | []=>by simp [Zcm,ZpZ]
 | x :: r=>by
  by_cases h:JS false x=0
  ·simp only [Zcm,ZpZ,h,decide_true,if_true,ne_eq,not_true_eq_false,decide_false,Bool.false_eq_true,if_false]
   exact Zpn s u r
  ·simp [Zcm,ZpZ,h,Zqb]
def ZzB (s:WT):Int:=if (!(Zc2 s.Op).2 || !(Zu5 s (Zc2 s.Op).1))=true then 1 else ZpK s (Zc2 s.Op).1
theorem Z2k (lo hi a:Int):Gr lo hi [a]=btw a lo hi:=by
 simp only [Gr,List.any_cons,List.any_nil,Z1E,btw,Bool.or_false,Bool.not_or,← decide_not,Int.not_lt]
theorem Z2l (lo hi a b:Int):Gr lo hi [a,b]=(btw a lo hi && btw b lo hi):=by
 simp only [Gr,List.any_cons,List.any_nil,Z1E,btw,Bool.or_false,Bool.not_or,← decide_not,Int.not_lt]
theorem Z2m (lo hi a:Int)(l:List Int):Gr lo hi (a :: l)=(btw a lo hi && Gr lo hi l):=by
 simp only [Gr,List.any_cons,Z1E,btw,Bool.not_or,← decide_not,Int.not_lt]
theorem Z0Q:∀ (l m:List Int),l.length=m.length→Z0P l m=if (!(Gr 0 1000000000 l && Gr 1 1000 m))=true then 2 else 0
 | [],[],_=>by simp [Z0P,Gr]
 | [],y :: m,h=>by simp at h
 | x :: l,[],h=>by simp at h
 | x :: l,y :: m,h=>by
  have ih:=Z0Q l m (by simpa using h)
  simp only [Z0P,Z2m,ih]
  generalize Gr 0 1000000000 l=c1
  generalize Gr 1 1000 m=c2
  cases btw x 0 1000000000 <;> cases btw y 1 1000 <;> cases c1 <;> cases c2 <;> rfl
theorem Z36 (a b:Nat):decide ((a:Int) + (b:Int)=0)=(decide ((a:Int)=0) && decide ((b:Int)=0)):=by
 rw [← Bool.decide_and]; congr 1; apply propext; omega
theorem ZyE (d:TY):Znt d=Zfw d:=by
 simp only [Znt,Zfw,Z36]
 by_cases h1:d.Op=1
 ·simp [h1]; ac_rfl
 by_cases h2:d.Op=2
 ·simp [h2,Bool.and_comm]
 by_cases h5:d.Op=5
 ·simp [h5,Bool.and_comm]
 by_cases h3:d.Op=3
 ·simp [h3]
 by_cases h4:d.Op=4
 ·simp [h4]
 simp [h1,h2,h3,h4,h5]
theorem Zv4 (d:TY):Zx7 d=Zb5 d:=by
 simp only [Zx7,Zb5,ZyE,Z2k,Z2l,ZtI]
 by_cases hu:Zfw d=true
 ·simp only [hu]
  by_cases h1:d.Op=1
  ·simp [h1]
  by_cases h2:d.Op=2
  ·simp only [h2,btw]; simp; grind
  by_cases h3:d.Op=3
  ·simp only [h3]
   by_cases hl:d.Values.length=d.Weights.length
   ·rw [Z0Q _ _ hl]; simp
   ·have:¬ ((d.Values.length:Int)=d.Weights.length):=by omega
    simp [this]
  by_cases h4:d.Op=4
  ·simp only [h4,btw]; simp; grind
  by_cases h5:d.Op=5
  ·simp [h5]
  ·exfalso
   simp [Zfw,h1,h2,h3,h4,h5] at hu
 ·simp [hu]
theorem Z15 (s:WT):Z3q s=ZzB s:=by
 have n1:=ZsP s.Name
 have n2:=ZsP s.Of
 unfold Z3q ZzB ZpK
 rw [Zzl,Zv4]
 generalize Zc2 s.Op=w
 obtain ⟨u,b⟩:=w
 simp only
 have key:(if (decide (Zmr s u=0) && u.dist)=true then Zb5 s.Dist else Zmr s u)=ZpJ s u:=by
  have ha:=Zpn s u s.Args
  unfold Zmr ZpJ ZvO Ztj
  rcases Bool.eq_false_or_eq_true u.e with h1 | h1 <;> rcases Bool.eq_false_or_eq_true u.f with h3 | h3 <;> rcases Bool.eq_false_or_eq_true (decide (6 < (s.Args.length:Int))) with h5 | h5 <;> by_cases h2:JS false s.E=0 <;> by_cases h4:JS false s.F=0 <;>
   simp only [h1,h2,h3,h4,h5,ne_eq,not_true_eq_false,not_false_eq_true,decide_true,decide_false,BL,IFJ,Zqb,Bool.false_eq_true,if_true,if_false] <;> first | exact ha | (simp [Zqb,h2,h4]; done) | rfl
 rw [key]
 rcases n1 with h1 | h1 <;> rcases n2 with h2 | h2 <;> cases b <;> cases Zu5 s u <;> cases u.name <;> cases u.of_ <;> simp [h1,h2]
section
variable {C:Cfg}(hC:Xz C)(hp0:HP)(s:WT)(u:Zpj)(ok:Vq s)(g g2:Nat)(tg tg2:TypeId)(K:KT)
include ok
theorem Zdv (hp:HP)(hg:hp[g]? = some (.cells (Y9 s) tg))(hX:∀ x ∈ s.Args,∀ hp,K OH [.agg (WG x)] hp=some (.int .i64 (JS false x),hp,none)):∀ (r q:List Q3) (m:Nat) (e:Int),s.Args=q ++ r→r.length < m →
  Gc C.G K C.L hp0 (Oc C.G K C.L hp0) m (.ptr g 0) (.int .i64 e) (.int .i64 e) (.int .i64 (q.length:Int)) hp none=some (.int .i64 (Zcm s r e),hp0,none)
 | _,_,0,_,_,h=>by omega
 | [],q,m + 1,e,h,_=>by
  have l0:=lp0 h
  simp only [Gc,Oc,CO,Nat.reduceAdd,Nat.reduceLeDiff,Nat.reduceBEq,LG hg,TW,l0,Zcm]
 | x :: r,q,m + 1,e,h,hm=>by
  obtain ⟨a1,a2,a3,a4,a5⟩:=lp WG h ok.a
  have ih:=Zdv hp hg hX r (q ++ [x]) m (JS false x) a4 (by simpa using hm)
  have hc:=hX x a5
  simp only [Gc,Oc,CO,Nat.reduceAdd,Nat.reduceLeDiff,Nat.reduceBEq,LG hg,TW,Vx,a1,a2,a3,Yp,hc,ih,Zcm]
include hC
theorem Zov (hp:HP)(hg:hp[g]? = some (.cells (Y9 s) tg))(hX:∀ x ∈ s.Args,∀ hp,K OH [.agg (WG x)] hp=some (.int .i64 (JS false x),hp,none))(e:Int) :
  Mw C.G K C.L hp0 (.ptr g 0) (.int .i64 e) (.int .i64 e) hp none=some (.int .i64 (Zcm s s.Args e),hp0,none):=by
 have h:=Zdv (C := C) hp0 s ok g tg K hp hg hX s.Args [] C.L e rfl (by have:=hC.L; have:=ok.a; omega)
 simp only [List.length_nil,Int.natCast_zero] at h
 simp only [Mw]
 exact h
end
theorem arR (s:WT)(c:Prop)[Decidable c](l:List Q3)(a b:Int):(if c then Zcm s l a else Zcm s l b)=Zcm s l (if c then a else b):=by split <;> rfl
theorem Zuv {C:Cfg}(hC:Xz C)(N:Nat)(hp:HP)(s:WT)(u:Zpj)(hN:SizeOf.sizeOf s + 8≤N)(ok:Vq s):Zc C N ZdF [.agg (Y9 s),.agg (Ou u)] hp=some (.int .i64 (Zmr s u),hp,none):=by
 obtain ⟨m,rfl⟩:∃ m,N=m + 1:=⟨N - 1,by omega⟩
 have z:=Z3u s
 have x1:=fun hp=>Zfh hC m hp s.E (by omega) ok.E
 have x2:=fun hp=>Zfh hC m hp s.F (by omega) ok.F
 have hX:∀ x ∈ s.Args,∀ hp,Zc C m OH [.agg (WG x)] hp=some (.int .i64 (JS false x),hp,none):=fun x hx hp=>Zfh hC m hp x (by have:=Z3N hx; omega) (ok.Args.2 x hx)
 have j:=fun e=>Zov hC hp s ok hp.length Qc (Zc C m) (hp ++ [.cells (Y9 s) Qc] ++ [.cells (Ou u) Ww]) (Gt (ZC _ _) _) hX e
 refine Zrx (by rw [hC.T]; rfl) ?_
 simp only [ZeR,BP,BQ,CO,Nat.reduceAdd,Nat.reduceLeDiff,Nat.reduceBEq,LDP,TW,Zd8,Vx,x1,x2,j,arR,Zmr]
 rcases Bool.eq_false_or_eq_true u.e with h1 | h1 <;> rcases Bool.eq_false_or_eq_true u.f with h2 | h2 <;> by_cases h3:JS false s.E=0 <;> simp [h1,h2,h3]
theorem Zx9 {C:Cfg}(hC:Xz C)(N:Nat)(hp:HP)(s:WT)(hN:SizeOf.sizeOf s + 9≤N)(ok:Vq s):Zc C N Zaf [.agg (Y9 s)] hp=some (.int .i64 (Z3q s),hp,none):=by
 obtain ⟨m,rfl⟩:∃ m,N=m + 1:=⟨N - 1,by omega⟩
 have q1:=Zv6 hC m (by omega)
 have q2:=fun hp=>Zs2 hC m (by omega) hp s ok
 have q3:=FC hC m (by omega)
 have q4:=fun hp u=>Zuv hC m hp s u (by omega) ok
 have q5:=Zmi hC m (by omega)
 have sts:∀ (u:Zpj),stV hp.length 9 (.ptr (hp ++ [Zt.cells (Y9 s) Qc]).length 0) (.agg (Ou u)) (hp ++ [.cells (Y9 s) Qc] ++ [.cells [AV.bool false,AV.bool false,AV.bool false,AV.bool false,AV.bool false,AV.bool false,AV.bool false,AV.bool false,AV.bool false] Ww]) none=some (hp ++ [.cells (Y9 s) Qc] ++ [.cells (Ou u) Ww],none):=fun u=>N7 hp.length 9 _ [AV.bool false,AV.bool false,AV.bool false,AV.bool false,AV.bool false,AV.bool false,AV.bool false,AV.bool false,AV.bool false] (Ou u) _ none rfl rfl (by simp)
 refine Zvb (by rw [hC.T]; rfl) ?_
 simp only [ZlI,CO,Nat.reduceAdd,Nat.reduceLeDiff,Nat.reduceBEq,LDP,TW,Zd8,TV,sts,q1,q2,q3,q4,q5,ok.Name,ok.Of,ok.Dist,Z3q]
end Go.Proofs.YtlmfmmclnboglaaGreat
end
section
namespace Go.Proofs.YtlmfmmclnboglaaGreat
open Go Go.RowKit Go.Proofs.YtlmfmmclnboglaaGreat.Abs
set_option linter.all false
set_option maxRecDepth 100000
theorem zst:([(.int .i64 0),(.str []),(.str []),(.int .i64 0),(.str []),(.int .i64 0),(.own 4 []),(.int .i64 0),(.str []),(.int .i64 0),(.own 4 []),(.own 4 []),(.int .i64 0),(.int .i64 0),(.int .i64 0),(.int .i64 0),(.own 1 []),(.own 1 []),(.bool false),(.own 21 []),(.own 21 [])]:List AV).length=21:=rfl
theorem rfS:(∀ x,(Y9 x).drop 19=[.lst 21 (x.Body.map Y9),.lst 21 (x.Else.map Y9)])∧(∀ x,(Y9 x).drop 20=[.lst 21 (x.Else.map Y9)]):=by
 constructor <;> intro x <;> rw [O5,VN,VN] <;> rfl
mutual
def Zzd:WT→Int
 | ⟨_,_,_,_,_,_,_,_,b,e⟩=>IntKind.i64.wrap (Dy b (b.length:Int) + Dy e (e.length:Int))
def Dy:List WT→Int→Int
 | [],n=>n
 | x :: r,n=>Dy r (IntKind.i64.wrap (n + Zzd x))
end
theorem Zx2 (s:WT):Zzd s=IntKind.i64.wrap (Dy s.Body (s.Body.length:Int) + Dy s.Else (s.Else.length:Int)):=by cases s; rw [Zzd]
mutual
def Z0Z:WT→Int→Int
 | ⟨_,_,_,_,_,_,_,_,b,e⟩,n=>IntKind.i64.wrap (IntKind.i64.wrap (IntKind.i64.wrap (n + 1) + RH b 0) + RH e 0)
def RH:List WT→Int→Int
 | [],n=>n
 | x :: r,n=>RH r (Z0Z x n)
end
theorem Zug (s:WT)(n:Int):Z0Z s n=IntKind.i64.wrap (IntKind.i64.wrap (IntKind.i64.wrap (n + 1) + RH s.Body 0) + RH s.Else 0):=by cases s; rw [Z0Z]
def mx3 (a b c:Int):Int:=if c > (if b > a then b else a) then c else (if b > a then b else a)
theorem Z2E (a b c:Int):ZyK [.int .i64 a,.int .i64 b,.int .i64 c]=some (.int .i64 (mx3 a b c)):=rfl
mutual
def Z24:WT→Int→Int
 | ⟨_,_,_,_,_,_,_,_,b,e⟩,n=>mx3 n (IntKind.i64.wrap (1 + DJ b 0)) (IntKind.i64.wrap (1 + DJ e 0))
def DJ:List WT→Int→Int
 | [],n=>n
 | x :: r,n=>DJ r (Z24 x n)
end
theorem Zq3 (s:WT)(n:Int):Z24 s n=mx3 n (IntKind.i64.wrap (1 + DJ s.Body 0)) (IntKind.i64.wrap (1 + DJ s.Else 0)):=by cases s; rw [Z24]
mutual
def Z3p:WT→Int
 | ⟨a,b,c,d,e,f,g,h,i,j⟩=>if decide (ZzB ⟨a,b,c,d,e,f,g,h,i,j⟩≠0)=true then ZzB ⟨a,b,c,d,e,f,g,h,i,j⟩ else if decide (Bj i≠0)=true then Bj i else Bj j
def Bj:List WT→Int
 | []=>0
 | x :: r=>if decide (Z3p x≠0)=true then Z3p x else Bj r
end
theorem Zx1 (s:WT):Z3p s=if decide (ZzB s≠0)=true then ZzB s else if decide (Bj s.Body≠0)=true then Bj s.Body else Bj s.Else:=by cases s; rw [Z3p]
theorem Z0X (b:Bool)(p B E R:Int):(if b=true then 1 else if decide (p≠0)=true then p else if decide (B≠0)=true then B else if decide (E≠0)=true then E else R) =
  if decide ((if decide ((if b=true then 1 else p)≠0)=true then (if b=true then 1 else p) else if decide (B≠0)=true then B else E)≠0)=true then (if decide ((if b=true then 1 else p)≠0)=true then (if b=true then 1 else p) else if decide (B≠0)=true then B else E) else R:=by
 cases b <;> by_cases h1:p=0 <;> by_cases h2:B=0 <;> by_cases h3:E=0 <;> simp [h1,h2,h3]
theorem Z0Y (p B E R:Int):(if decide (p=0)=true then (if decide (B=0)=true then (if decide (E≠0)=true then E else R) else if decide (B≠0)=true then B else R) else if decide (p≠0)=true then p else R) =
  if decide ((if decide (p≠0)=true then p else if decide (B≠0)=true then B else E)≠0)=true then (if decide (p≠0)=true then p else if decide (B≠0)=true then B else E) else R:=by
 by_cases h1:p=0 <;> by_cases h2:B=0 <;> by_cases h3:E=0 <;> simp [h1,h2,h3]
theorem Z0M {s:WT}{l:List WT}(h:s ∈ l):SizeOf.sizeOf s < SizeOf.sizeOf l∧SizeOf.sizeOf s.Body < SizeOf.sizeOf l∧SizeOf.sizeOf s.Else < SizeOf.sizeOf l:=by
 have:=List.sizeOf_lt_of_mem h
 have:=Z3u s
 omega
def ZrR (l:List WT):Prop:=l.length≤4611686018427387∧∀ s ∈ l,Vq s
theorem Vq.b {s:WT}(h:Vq s):ZrR s.Body∧ZrR s.Else:=by
 have h1:=h.Body; have h2:=h.Else
 exact ⟨⟨by omega,h1.2⟩,by omega,h2.2⟩
theorem Z2u (l:List WT):0 < SizeOf.sizeOf l:=by cases l <;> simp <;> omega
section
variable {C:Cfg}(hp0:HP)(l:List WT)(hl:l.length≤4611686018427387)(K:KT)
include hl
theorem ZbG (hK:∀ x ∈ l,∀ hp,K Us [.lst 21 (x.Body.map Y9)] hp=some (.int .i64 (Dy x.Body x.Body.length),hp,none)∧K Us [.lst 21 (x.Else.map Y9)] hp=some (.int .i64 (Dy x.Else x.Else.length),hp,none)):∀ (r q:List WT) (m:Nat) (hp:HP) (n:Int),l=q ++ r→r.length < m→hp0.length≤hp.length →
  UB C.G K C.L hp0 (Td C.G K C.L hp0) m (.int .i64 n) (.int .i64 n) (.lst 21 (l.map Y9)) (.int .i64 (l.length:Int)) (.int .i64 (q.length:Int)) hp none=some (.int .i64 (Dy r n),hp0,none)
 | _,_,0,_,_,_,h,_=>by omega
 | [],q,m + 1,hp,n,h,_,hh=>by
  have l0:=lp0 h
  simp only [UB,Td,CO,Nat.reduceAdd,Nat.reduceLeDiff,Nat.reduceBEq,List.length_cons,List.length_nil,l0,Dy]
 | x :: r,q,m + 1,hp,n,h,hm,hh=>by
  obtain ⟨a1,a2,a3,a4,a5⟩:=lp Y9 h hl
  have ih:=ZbG hK r (q ++ [x]) m (hp ++ [.cells (Y9 x) Qc]) (IntKind.i64.wrap (n + Zzd x)) a4 (by simpa using hm) (by simp; omega)
  have hc:=hK x a5 (hp ++ [.cells (Y9 x) Qc])
  rw [Zx2] at ih
  simp only [UB,CO,QC,Nat.reduceAdd,Nat.reduceLeDiff,Nat.reduceBEq,TW,a1,a2,a3,Yp,STA hh,zst,hc,ih,Dy,Zx2]
theorem ZbH (hK:∀ x ∈ l,∀ hp,K Ut [.lst 21 (x.Body.map Y9)] hp=some (.int .i64 (DJ x.Body 0),hp,none)∧K Ut [.lst 21 (x.Else.map Y9)] hp=some (.int .i64 (DJ x.Else 0),hp,none)):∀ (r q:List WT) (m:Nat) (hp:HP) (n:Int),l=q ++ r→r.length < m→hp0.length≤hp.length →
  UC C.G K C.L hp0 (Te C.G K C.L hp0) m (.int .i64 n) (.int .i64 n) (.lst 21 (l.map Y9)) (.int .i64 (l.length:Int)) (.int .i64 (q.length:Int)) hp none=some (.int .i64 (DJ r n),hp0,none)
 | _,_,0,_,_,_,h,_=>by omega
 | [],q,m + 1,hp,n,h,_,hh=>by
  have l0:=lp0 h
  simp only [UC,Te,CO,Nat.reduceAdd,Nat.reduceLeDiff,Nat.reduceBEq,List.length_cons,List.length_nil,l0,DJ]
 | x :: r,q,m + 1,hp,n,h,hm,hh=>by
  obtain ⟨a1,a2,a3,a4,a5⟩:=lp Y9 h hl
  have ih:=ZbH hK r (q ++ [x]) m (hp ++ [.cells (Y9 x) Qc]) (Z24 x n) a4 (by simpa using hm) (by simp; omega)
  have hc:=hK x a5 (hp ++ [.cells (Y9 x) Qc])
  rw [Zq3] at ih
  simp only [UC,CO,QC,Nat.reduceAdd,Nat.reduceLeDiff,Nat.reduceBEq,TW,a1,a2,a3,Yp,STA hh,zst,hc,Z2E,ih,DJ,Zq3]
theorem ZbI (hK:∀ x ∈ l,∀ hp,K Uu [.lst 21 (x.Body.map Y9)] hp=some (.int .i64 (Bj x.Body),hp,none)∧K Uu [.lst 21 (x.Else.map Y9)] hp=some (.int .i64 (Bj x.Else),hp,none))
  (hU:∀ hp op,K AA [.int .i64 op] hp=some (.tup [.agg (Ou (Zc2 op).1),.bool (Zc2 op).2],hp,none)) (hF:∀ x ∈ l,∀ u hp,K A9 [.agg (Y9 x),.agg (Ou u)] hp=some (.bool (Zu5 x u),hp,none)) (hP:∀ x ∈ l,∀ u hp,K NJ [.agg (Y9 x),.agg (Ou u)] hp=some (.int .i64 (ZpK x u),hp,none)):∀ (r q:List WT) (m:Nat) (hp:HP),l=q ++ r→r.length < m→hp0.length≤hp.length →
  UD C.G K C.L hp0 (Tf C.G K C.L hp0) m (.lst 21 (l.map Y9)) (.int .i64 (l.length:Int)) (.int .i64 (q.length:Int)) hp none=some (.int .i64 (Bj r),hp0,none)
 | _,_,0,_,_,h,_=>by omega
 | [],q,m + 1,hp,h,_,hh=>by
  have l0:=lp0 h
  simp only [UD,Tf,CO,Nat.reduceAdd,Nat.reduceLeDiff,Nat.reduceBEq,List.length_cons,List.length_nil,l0,Bj]
 | x :: r,q,m + 1,hp,h,hm,hh=>by
  obtain ⟨a1,a2,a3,a4,a5⟩:=lp Y9 h hl
  have hh2:hp0.length≤(hp ++ [Zt.cells (Y9 x) Qc]).length:=by simp; omega
  have ih:=ZbI hK hU hF hP r (q ++ [x]) m (hp ++ [.cells (Y9 x) Qc] ++ [.cells (Ou (Zc2 x.Op).1) Gq]) a4 (by simpa using hm) (by simp; omega)
  have hc:=fun hp=>hK x a5 hp
  have hf:=hF x a5
  have hp':=hP x a5
  simp only [UD,CO,QC,Nat.reduceAdd,Nat.reduceLeDiff,Nat.reduceBEq,TW,Zd8,a1,a2,a3,Yp,STA hh,STA hh2,zst,Z3W,hU,hf,hp',hc,ih,Bj]
  rw [Zx1]
  unfold ZzB
  exact congrArg (fun v:Int=>(some (AV.int .i64 v,hp0,none):KR)) (Z0X _ _ _ _ _)
theorem Zdt (hp:HP)(hK:∀ x ∈ l,∀ hp,K KP [.lst 21 (x.Body.map Y9)] hp=some (.int .i64 (RH x.Body 0),hp,none)∧K KP [.lst 21 (x.Else.map Y9)] hp=some (.int .i64 (RH x.Else 0),hp,none)):∀ (r q:List WT) (m:Nat) (n:Int),l=q ++ r→r.length < m →
  Ga C.G K C.L hp0 (Mt C.G K C.L hp0) m (.lst 21 (l.map Y9)) (.int .i64 n) (.int .i64 n) (.int .i64 (q.length:Int)) hp none=some (.int .i64 (RH r n),hp0,none)
 | _,_,0,_,_,h=>by omega
 | [],q,m + 1,n,h,_=>by
  have l0:=lp0 h
  simp only [Ga,Mt,CO,Nat.reduceAdd,Nat.reduceLeDiff,Nat.reduceBEq,List.length_cons,List.length_nil,l0,RH]
 | x :: r,q,m + 1,n,h,hm=>by
  obtain ⟨a1,a2,a3,a4,a5⟩:=lp Y9 h hl
  have ih:=Zdt hp hK r (q ++ [x]) m (Z0Z x n) a4 (by simpa using hm)
  have hc:=hK x a5 hp
  rw [Zug] at ih
  simp only [Ga,CO,QC,TW,rfS,a1,a2,a3,Yp,hc,ih,RH,Zug]
theorem Zdu (hp:HP)(hK:∀ x ∈ l,∀ hp,K KQ [.lst 21 (x.Body.map Y9)] hp=some (.int .i64 (DJ x.Body 0),hp,none)∧K KQ [.lst 21 (x.Else.map Y9)] hp=some (.int .i64 (DJ x.Else 0),hp,none)):∀ (r q:List WT) (m:Nat) (n:Int),l=q ++ r→r.length < m →
  Gb C.G K C.L hp0 (Mv C.G K C.L hp0) m (.lst 21 (l.map Y9)) (.int .i64 n) (.int .i64 n) (.int .i64 (q.length:Int)) hp none=some (.int .i64 (DJ r n),hp0,none)
 | _,_,0,_,_,h=>by omega
 | [],q,m + 1,n,h,_=>by
  have l0:=lp0 h
  simp only [Gb,Mv,CO,Nat.reduceAdd,Nat.reduceLeDiff,Nat.reduceBEq,List.length_cons,List.length_nil,l0,DJ]
 | x :: r,q,m + 1,n,h,hm=>by
  obtain ⟨a1,a2,a3,a4,a5⟩:=lp Y9 h hl
  have ih:=Zdu hp hK r (q ++ [x]) m (Z24 x n) a4 (by simpa using hm)
  have hc:=hK x a5 hp
  rw [Zq3] at ih
  simp only [Gb,CO,QC,TW,rfS,a1,a2,a3,Yp,hc,Z2E,ih,DJ,Zq3]
theorem ZgG (hp:HP)(hK:∀ x ∈ l,∀ hp,K Ob [.lst 21 (x.Body.map Y9)] hp=some (.int .i64 (Bj x.Body),hp,none)∧K Ob [.lst 21 (x.Else.map Y9)] hp=some (.int .i64 (Bj x.Else),hp,none))
  (hO:∀ x ∈ l,∀ hp,K Zaf [.agg (Y9 x)] hp=some (.int .i64 (ZzB x),hp,none)):∀ (r q:List WT) (m:Nat),l=q ++ r→r.length < m →
  Jy C.G K C.L hp0 (Ru C.G K C.L hp0) m (.lst 21 (l.map Y9)) (.int .i64 (q.length:Int)) hp none=some (.int .i64 (Bj r),hp0,none)
 | _,_,0,_,h=>by omega
 | [],q,m + 1,h,_=>by
  have l0:=lp0 h
  simp only [Jy,Ru,CO,Nat.reduceAdd,Nat.reduceLeDiff,Nat.reduceBEq,List.length_cons,List.length_nil,l0,Bj]
 | x :: r,q,m + 1,h,hm=>by
  obtain ⟨a1,a2,a3,a4,a5⟩:=lp Y9 h hl
  have ih:=ZgG hp hK hO r (q ++ [x]) m a4 (by simpa using hm)
  have hc:=fun hp=>hK x a5 hp
  have ho:=hO x a5
  simp only [Jy,Pg,Rt,CO,QC,TW,rfS,a1,a2,a3,Yp,ho,hc,ih,Bj]
  rw [Zx1]
  exact congrArg (fun v:Int=>(some (AV.int .i64 v,hp0,none):KR)) (Z0Y _ _ _ _)
end
theorem E5 {C:Cfg}(hC:Xz C):∀ (k N:Nat) (hN:k + 1≤N) (l:List WT),SizeOf.sizeOf l≤k→ZrR l→∀ hp:HP,Zc C N Us [.lst 21 (l.map Y9)] hp=some (.int .i64 (Dy l (l.length:Int)),hp,none)
 | 0,_,_,l,he,_,_=>absurd he (by have:=Z2u l; omega)
 | k + 1,N,hN,l,he,ok,hp=>by
  obtain ⟨m,rfl⟩:∃ m,N=m + 1:=⟨N - 1,by omega⟩
  have hK:∀ x ∈ l,∀ hp,Zc C m Us [.lst 21 (x.Body.map Y9)] hp=some (.int .i64 (Dy x.Body (x.Body.length:Int)),hp,none)∧Zc C m Us [.lst 21 (x.Else.map Y9)] hp=some (.int .i64 (Dy x.Else (x.Else.length:Int)),hp,none):=fun x hx hp=>by
   have:=Z0M hx
   have:=(ok.2 x hx).b
   exact ⟨E5 hC k m (by omega) x.Body (by omega) this.1 hp,E5 hC k m (by omega) x.Else (by omega) this.2 hp⟩
  have hL:l.length < C.L:=by have:=hC.L; have:=ok.1; omega
  have h:=ZbG (C := C) hp l ok.1 (Zc C m) hK l [] C.L hp (l.length:Int) rfl hL (Nat.le_refl _)
  simp only [List.length_nil,Int.natCast_zero] at h
  refine Zpb (by rw [hC.T]; rfl) ?_
  simp only [Zb1,EV,LD,BL,IFJ,h]
theorem Zs7 {C:Cfg}(hC:Xz C)(N:Nat)(hp:HP)(l:List WT)(hN:SizeOf.sizeOf l + 1≤N)(ok:ZrR l):Zc C N Us [.lst 21 (l.map Y9)] hp=some (.int .i64 (Dy l (l.length:Int)),hp,none):=E5 hC _ N hN l (Nat.le_refl _) ok hp
theorem E8 {C:Cfg}(hC:Xz C):∀ (k N:Nat) (hN:k + 1≤N) (l:List WT),SizeOf.sizeOf l≤k→ZrR l→∀ hp:HP,Zc C N Ut [.lst 21 (l.map Y9)] hp=some (.int .i64 (DJ l 0),hp,none)
 | 0,_,_,l,he,_,_=>absurd he (by have:=Z2u l; omega)
 | k + 1,N,hN,l,he,ok,hp=>by
  obtain ⟨m,rfl⟩:∃ m,N=m + 1:=⟨N - 1,by omega⟩
  have hK:∀ x ∈ l,∀ hp,Zc C m Ut [.lst 21 (x.Body.map Y9)] hp=some (.int .i64 (DJ x.Body 0),hp,none)∧Zc C m Ut [.lst 21 (x.Else.map Y9)] hp=some (.int .i64 (DJ x.Else 0),hp,none):=fun x hx hp=>by
   have:=Z0M hx
   have:=(ok.2 x hx).b
   exact ⟨E8 hC k m (by omega) x.Body (by omega) this.1 hp,E8 hC k m (by omega) x.Else (by omega) this.2 hp⟩
  have hL:l.length < C.L:=by have:=hC.L; have:=ok.1; omega
  have h:=ZbH (C := C) hp l ok.1 (Zc C m) hK l [] C.L hp 0 rfl hL (Nat.le_refl _)
  simp only [List.length_nil,Int.natCast_zero] at h
  refine Zpc (by rw [hC.T]; rfl) ?_
  simp only [Zb2,EV,LD,BL,IFJ,h]
theorem Zs8 {C:Cfg}(hC:Xz C)(N:Nat)(hp:HP)(l:List WT)(hN:SizeOf.sizeOf l + 1≤N)(ok:ZrR l):Zc C N Ut [.lst 21 (l.map Y9)] hp=some (.int .i64 (DJ l 0),hp,none):=E8 hC _ N hN l (Nat.le_refl _) ok hp
theorem E9 {C:Cfg}(hC:Xz C):∀ (k N:Nat) (hN:k + 10≤N) (l:List WT),SizeOf.sizeOf l≤k→ZrR l→∀ hp:HP,Zc C N Uu [.lst 21 (l.map Y9)] hp=some (.int .i64 (Bj l),hp,none)
 | 0,_,_,l,he,_,_=>absurd he (by have:=Z2u l; omega)
 | k + 1,N,hN,l,he,ok,hp=>by
  obtain ⟨m,rfl⟩:∃ m,N=m + 1:=⟨N - 1,by omega⟩
  have hK:∀ x ∈ l,∀ hp,Zc C m Uu [.lst 21 (x.Body.map Y9)] hp=some (.int .i64 (Bj x.Body),hp,none)∧Zc C m Uu [.lst 21 (x.Else.map Y9)] hp=some (.int .i64 (Bj x.Else),hp,none):=fun x hx hp=>by
   have:=Z0M hx
   have:=(ok.2 x hx).b
   exact ⟨E9 hC k m (by omega) x.Body (by omega) this.1 hp,E9 hC k m (by omega) x.Else (by omega) this.2 hp⟩
  have hU:=Zu3 hC m (by omega)
  have hF:=fun x hx u hp=>Zu2 hC m (by omega) hp x u (ok.2 x hx)
  have hP:=fun x hx u hp=>ZsA hC m hp x u (by have:=(Z0M hx).1; omega) (ok.2 x hx)
  have hL:l.length < C.L:=by have:=hC.L; have:=ok.1; omega
  have h:=ZbI (C := C) hp l ok.1 (Zc C m) hK hU hF hP l [] C.L hp rfl hL (Nat.le_refl _)
  simp only [List.length_nil,Int.natCast_zero] at h
  refine Zpd (by rw [hC.T]; rfl) ?_
  simp only [Zb3,EV,LD,BL,IFJ,h]
theorem Zs9 {C:Cfg}(hC:Xz C)(N:Nat)(hp:HP)(l:List WT)(hN:SizeOf.sizeOf l + 10≤N)(ok:ZrR l):Zc C N Uu [.lst 21 (l.map Y9)] hp=some (.int .i64 (Bj l),hp,none):=E9 hC _ N hN l (Nat.le_refl _) ok hp
theorem FD {C:Cfg}(hC:Xz C):∀ (k N:Nat) (hN:k + 1≤N) (l:List WT),SizeOf.sizeOf l≤k→ZrR l→∀ hp:HP,Zc C N KP [.lst 21 (l.map Y9)] hp=some (.int .i64 (RH l 0),hp,none)
 | 0,_,_,l,he,_,_=>absurd he (by have:=Z2u l; omega)
 | k + 1,N,hN,l,he,ok,hp=>by
  obtain ⟨m,rfl⟩:∃ m,N=m + 1:=⟨N - 1,by omega⟩
  have hK:∀ x ∈ l,∀ hp,Zc C m KP [.lst 21 (x.Body.map Y9)] hp=some (.int .i64 (RH x.Body 0),hp,none)∧Zc C m KP [.lst 21 (x.Else.map Y9)] hp=some (.int .i64 (RH x.Else 0),hp,none):=fun x hx hp=>by
   have:=Z0M hx
   have:=(ok.2 x hx).b
   exact ⟨FD hC k m (by omega) x.Body (by omega) this.1 hp,FD hC k m (by omega) x.Else (by omega) this.2 hp⟩
  have hL:l.length < C.L:=by have:=hC.L; have:=ok.1; omega
  have h:=Zdt (C := C) hp l ok.1 (Zc C m) hp hK l [] C.L 0 rfl hL
  simp only [List.length_nil,Int.natCast_zero] at h
  refine Zrv (by rw [hC.T]; rfl) ?_
  simp only [ZeP,EV,LD,BL,IFJ,h]
theorem Zut {C:Cfg}(hC:Xz C)(N:Nat)(hp:HP)(l:List WT)(hN:SizeOf.sizeOf l + 1≤N)(ok:ZrR l):Zc C N KP [.lst 21 (l.map Y9)] hp=some (.int .i64 (RH l 0),hp,none):=FD hC _ N hN l (Nat.le_refl _) ok hp
theorem FE {C:Cfg}(hC:Xz C):∀ (k N:Nat) (hN:k + 1≤N) (l:List WT),SizeOf.sizeOf l≤k→ZrR l→∀ hp:HP,Zc C N KQ [.lst 21 (l.map Y9)] hp=some (.int .i64 (DJ l 0),hp,none)
 | 0,_,_,l,he,_,_=>absurd he (by have:=Z2u l; omega)
 | k + 1,N,hN,l,he,ok,hp=>by
  obtain ⟨m,rfl⟩:∃ m,N=m + 1:=⟨N - 1,by omega⟩
  have hK:∀ x ∈ l,∀ hp,Zc C m KQ [.lst 21 (x.Body.map Y9)] hp=some (.int .i64 (DJ x.Body 0),hp,none)∧Zc C m KQ [.lst 21 (x.Else.map Y9)] hp=some (.int .i64 (DJ x.Else 0),hp,none):=fun x hx hp=>by
   have:=Z0M hx
   have:=(ok.2 x hx).b
   exact ⟨FE hC k m (by omega) x.Body (by omega) this.1 hp,FE hC k m (by omega) x.Else (by omega) this.2 hp⟩
  have hL:l.length < C.L:=by have:=hC.L; have:=ok.1; omega
  have h:=Zdu (C := C) hp l ok.1 (Zc C m) hp hK l [] C.L 0 rfl hL
  simp only [List.length_nil,Int.natCast_zero] at h
  refine Zrw (by rw [hC.T]; rfl) ?_
  simp only [ZeQ,EV,LD,BL,IFJ,h]
theorem Zuu {C:Cfg}(hC:Xz C)(N:Nat)(hp:HP)(l:List WT)(hN:SizeOf.sizeOf l + 1≤N)(ok:ZrR l):Zc C N KQ [.lst 21 (l.map Y9)] hp=some (.int .i64 (DJ l 0),hp,none):=FE hC _ N hN l (Nat.le_refl _) ok hp
theorem ZbF {C:Cfg}(hC:Xz C):∀ (k N:Nat) (hN:k + 12≤N) (l:List WT),SizeOf.sizeOf l≤k→ZrR l→∀ hp:HP,Zc C N Ob [.lst 21 (l.map Y9)] hp=some (.int .i64 (Bj l),hp,none)
 | 0,_,_,l,he,_,_=>absurd he (by have:=Z2u l; omega)
 | k + 1,N,hN,l,he,ok,hp=>by
  obtain ⟨m,rfl⟩:∃ m,N=m + 1:=⟨N - 1,by omega⟩
  have hK:∀ x ∈ l,∀ hp,Zc C m Ob [.lst 21 (x.Body.map Y9)] hp=some (.int .i64 (Bj x.Body),hp,none)∧Zc C m Ob [.lst 21 (x.Else.map Y9)] hp=some (.int .i64 (Bj x.Else),hp,none):=fun x hx hp=>by
   have:=Z0M hx
   have:=(ok.2 x hx).b
   exact ⟨ZbF hC k m (by omega) x.Body (by omega) this.1 hp,ZbF hC k m (by omega) x.Else (by omega) this.2 hp⟩
  have hO:∀ x ∈ l,∀ hp,Zc C m Zaf [.agg (Y9 x)] hp=some (.int .i64 (ZzB x),hp,none):=fun x hx hp=>by rw [← Z15]; exact Zx9 hC m hp x (by have:=(Z0M hx).1; omega) (ok.2 x hx)
  have hL:l.length < C.L:=by have:=hC.L; have:=ok.1; omega
  have h:=ZgG (C := C) hp l ok.1 (Zc C m) hp hK hO l [] C.L rfl hL
  simp only [List.length_nil,Int.natCast_zero] at h
  refine Zto (by rw [hC.T]; rfl) ?_
  simp only [Zin,EV,LD,BL,IFJ,h]
theorem Zws {C:Cfg}(hC:Xz C)(N:Nat)(hp:HP)(l:List WT)(hN:SizeOf.sizeOf l + 12≤N)(ok:ZrR l):Zc C N Ob [.lst 21 (l.map Y9)] hp=some (.int .i64 (Bj l),hp,none):=ZbF hC _ N hN l (Nat.le_refl _) ok hp
def Zdj (l:List WT):Int:=if decide (200 < Dy l (l.length:Int))=true then 6 else if decide (12 < DJ l 0)=true then 11 else Bj l
def Zqo (l:List WT):Int:=if decide (200 < RH l 0)=true then 6 else if decide (12 < DJ l 0)=true then 11 else Bj l
theorem Zs6 {C:Cfg}(hC:Xz C)(N:Nat)(hp:HP)(l:List WT)(hN:SizeOf.sizeOf l + 13≤N)(ok:ZrR l):Zc C N NI [.lst 21 (l.map Y9)] hp=some (.int .i64 (Zdj l),hp,none):=by
 obtain ⟨m,rfl⟩:∃ m,N=m + 1:=⟨N - 1,by omega⟩
 have q1:=fun hp=>Zs7 hC m hp l (by omega) ok
 have q2:=fun hp=>Zs8 hC m hp l (by omega) ok
 have q3:=fun hp=>Zs9 hC m hp l (by omega) ok
 refine Zpa (by rw [hC.T]; rfl) ?_
 simp only [Zb0,EV,LD,BL,IFJ,q1,q2,q3,Zdj]
theorem Zus {C:Cfg}(hC:Xz C)(N:Nat)(hp:HP)(l:List WT)(hN:SizeOf.sizeOf l + 13≤N)(ok:ZrR l):Zc C N P5 [.lst 21 (l.map Y9)] hp=some (.int .i64 (Zqo l),hp,none):=by
 obtain ⟨m,rfl⟩:∃ m,N=m + 1:=⟨N - 1,by omega⟩
 have q1:=fun hp=>Zut hC m hp l (by omega) ok
 have q2:=fun hp=>Zuu hC m hp l (by omega) ok
 have q3:=fun hp=>Zws hC m hp l (by omega) ok
 refine Zru (by rw [hC.T]; rfl) ?_
 simp only [ZeO,EV,LD,BL,IFJ,q1,q2,q3,Zqo]
theorem wrK (n:Int):∃ k:Int,IntKind.i64.wrap n=n + 18446744073709551616 * k:=by
 rw [IntKind.wrap_i64]
 exact ⟨-((n + 9223372036854775808) / 18446744073709551616),by omega⟩
theorem wrR (n:Int):-9223372036854775808≤IntKind.i64.wrap n∧IntKind.i64.wrap n≤9223372036854775807:=by
 rw [IntKind.wrap_i64]
 constructor <;> omega
mutual
def trS:WT→Int
 | ⟨_,_,_,_,_,_,_,_,b,e⟩=>Z0v b + Z0v e
def Z0v:List WT→Int
 | []=>0
 | x :: r=>1 + trS x + Z0v r
end
mutual
theorem trR:∀ (s:WT) (n:Int),∃ k:Int,Z0Z s n=n + 1 + trS s + 18446744073709551616 * k
 | ⟨_,_,_,_,_,_,_,_,b,e⟩,n=>by
  rw [Z0Z,trS]
  obtain ⟨k1,h1⟩:=Z3w b 0
  obtain ⟨k2,h2⟩:=Z3w e 0
  obtain ⟨k3,h3⟩:=wrK (n + 1)
  obtain ⟨k4,h4⟩:=wrK (IntKind.i64.wrap (n + 1) + RH b 0)
  obtain ⟨k5,h5⟩:=wrK (IntKind.i64.wrap (IntKind.i64.wrap (n + 1) + RH b 0) + RH e 0)
  exact ⟨k1 + k2 + k3 + k4 + k5,by omega⟩
theorem Z3w:∀ (l:List WT) (n:Int),∃ k:Int,RH l n=n + Z0v l + 18446744073709551616 * k
 | [],n=>⟨0,by rw [RH,Z0v]; omega⟩
 | x :: r,n=>by
  rw [RH,Z0v]
  obtain ⟨k1,h1⟩:=trR x n
  obtain ⟨k2,h2⟩:=Z3w r (Z0Z x n)
  exact ⟨k1 + k2,by omega⟩
end
mutual
theorem trP:∀ (s:WT),∃ k:Int,Zzd s=trS s + 18446744073709551616 * k
 | ⟨_,_,_,_,_,_,_,_,b,e⟩=>by
  rw [Zzd,trS]
  obtain ⟨k1,h1⟩:=Z3v b b.length
  obtain ⟨k2,h2⟩:=Z3v e e.length
  obtain ⟨k3,h3⟩:=wrK (Dy b (b.length:Int) + Dy e (e.length:Int))
  exact ⟨k1 + k2 + k3,by omega⟩
theorem Z3v:∀ (l:List WT) (n:Int),∃ k:Int,Dy l n=n - l.length + Z0v l + 18446744073709551616 * k
 | [],n=>⟨0,by rw [Dy,Z0v]; simp⟩
 | x :: r,n=>by
  rw [Dy,Z0v]
  obtain ⟨k1,h1⟩:=trP x
  obtain ⟨k3,h3⟩:=wrK (n + Zzd x)
  obtain ⟨k2,h2⟩:=Z3v r (IntKind.i64.wrap (n + Zzd x))
  refine ⟨k1 + k2 + k3,?_⟩
  simp only [List.length_cons]
  omega
end
theorem rgR:∀ (l:List WT) (n:Int),-9223372036854775808≤n→n≤9223372036854775807→-9223372036854775808≤RH l n∧RH l n≤9223372036854775807
 | [],n,h1,h2=>by rw [RH]; exact ⟨h1,h2⟩
 | x :: r,n,_,_=>by
  have h:=wrR (IntKind.i64.wrap (IntKind.i64.wrap (n + 1) + RH x.Body 0) + RH x.Else 0)
  rw [← Zug] at h
  rw [RH]
  exact rgR r _ h.1 h.2
theorem rgP:∀ (l:List WT) (n:Int),-9223372036854775808≤n→n≤9223372036854775807→-9223372036854775808≤Dy l n∧Dy l n≤9223372036854775807
 | [],n,h1,h2=>by rw [Dy]; exact ⟨h1,h2⟩
 | x :: r,n,_,_=>by
  have h:=wrR (n + Zzd x)
  rw [Dy]
  exact rgP r _ h.1 h.2
theorem Z23 (l:List WT)(hl:l.length≤4611686018427387):RH l 0=Dy l (l.length:Int):=by
 obtain ⟨k1,h1⟩:=Z3w l 0
 obtain ⟨k2,h2⟩:=Z3v l l.length
 have r1:=rgR l 0 (by omega) (by omega)
 have r2:=rgP l l.length (by omega) (by omega)
 omega
theorem Zwl (l:List WT)(hl:l.length≤4611686018427387):Zqo l=Zdj l:=by
 unfold Zqo Zdj
 rw [Z23 l hl]
end Go.Proofs.YtlmfmmclnboglaaGreat
end
section
namespace Go.Proofs.YtlmfmmclnboglaaGreat.Abs
open Go
set_option linter.all false
def Upd (g:Nat)(es:List (AV×AV))(hp hp':List Zt):Prop:=hp.length≤hp'.length∧hp'[g]? = some (.map es)∧∀ i,i < hp.length→i≠g→hp'[i]? = hp[i]?
theorem Upd.refl {g:Nat}{es:List (AV×AV)}{hp:List Zt}(h:hp[g]? = some (.map es)):Upd g es hp hp:=⟨Nat.le_refl _,h,fun _ _ _=>rfl⟩
theorem Upd.trans {g:Nat}{e1 e2:List (AV×AV)}{a b c:List Zt}(h1:Upd g e1 a b)(h2:Upd g e2 b c):Upd g e2 a c :=
 ⟨Nat.le_trans h1.1 h2.1,h2.2.1,fun i hi hn=>(h2.2.2 i (by have:=h1.1; omega) hn).trans (h1.2.2 i hi hn)⟩
theorem Upd.app {g:Nat}{es:List (AV×AV)}{a b:List Zt}(h:Upd g es a b)(x:Zt):Upd g es a (b ++ [x]) :=
 ⟨by have:=h.1; simp; omega,ZpA h.2.1 x,fun i hi hn=>by rw [List.getElem?_append_left (by have:=h.1; omega)]; exact h.2.2 i hi hn⟩
theorem Upd.off {g:Nat}{es:List (AV×AV)}{a c:List Zt}{x:Zt}(h:Upd g es (a ++ [x]) c):Upd g es a c :=
 ⟨by have:=h.1; simp at this; omega,h.2.1,fun i hi hn=>by rw [h.2.2 i (by simp; omega) hn,List.getElem?_append_left hi]⟩
theorem Upd.get {g:Nat}{es:List (AV×AV)}{a b:List Zt}(h:Upd g es a b){i:Nat}{o:Zt}(hi:a[i]? = some o)(hn:i≠g):b[i]? = some o:=by
 rw [h.2.2 i (List.getElem?_eq_some_iff.1 hi).1 hn]; exact hi
def Efs (g:Nat)(es0 es:List (AV×AV))(ef:Eff):Prop:=(ef=none∧es=es0)∨ef=some (g,0)
theorem Efs.refl (g:Nat)(es:List (AV×AV)):Efs g es es none:=.inl ⟨rfl,rfl⟩
theorem Efs.after {g bs:Nat}(hb:g < bs){a b c:List (AV×AV)}{ef ef':Eff}(h1:Efs g a b ef)(h2:Efs g b c ef'):Efs g a c (Zd bs ef ef'):=by
 rcases h1 with ⟨rfl,rfl⟩ | rfl <;> rcases h2 with ⟨rfl,rfl⟩ | rfl
 ·exact .inl ⟨rfl,rfl⟩
 ·right; simp [Zd,hb,Eff.or]
 ·right; rfl
 ·right; simp [Zd,hb,Eff.or]
theorem Efs.drop {g bs:Nat}(hb:bs≤g){b c:List (AV×AV)}{ef ef':Eff}(h:Efs g b c ef'):Zd bs ef ef'=ef:=by
 rcases h with ⟨rfl,rfl⟩ | rfl
 ·rfl
 ·simp only [Zd]; rw [if_neg (by omega)]
def Sc (g:Nat)(es0 es:List (AV×AV))(hp:List Zt)(e:Int)(r:KR):Prop:=∃ hp' ef,r=some (.int .i64 e,hp',ef)∧Upd g es hp hp'∧Efs g es0 es ef
theorem Sc.fin {g:Nat}{es0 es:List (AV×AV)}{hp0 hp:List Zt}{ef:Eff}(e:Int)(h0:hp0[g]? = some (.map es0))(hu:Upd g es hp0 hp)(he:Efs g es0 es ef):Sc g es0 es hp0 e (some (Zq false hp0 (.int .i64 e) hp ef)):=by
 have hg:g < hp0.length:=(List.getElem?_eq_some_iff.1 h0).1
 rcases he with ⟨rfl,rfl⟩ | rfl
 ·exact ⟨hp0,none,rfl,Upd.refl h0,Efs.refl _ _⟩
 ·have key:Zq false hp0 (.int .i64 e) hp (some (g,0))=if (hp.take hp0.length).all (Zt.under hp0.length)=true then (.int .i64 e,hp.take hp0.length,some (g,0)) else (.int .i64 e,hp,some (g,0)):=rfl
  rw [key]
  split
  ·refine ⟨_,_,rfl,⟨by have:=hu.1; simp; omega,?_,fun i hi hn=>?_⟩,.inr rfl⟩
   ·rw [List.getElem?_take_of_lt hg]; exact hu.2.1
   ·rw [List.getElem?_take_of_lt hi]; exact hu.2.2 i hi hn
  ·exact ⟨_,_,rfl,hu,.inr rfl⟩
def Oo (l:List (List UInt8)):List (AV×AV):=l.map fun s=>(.str s,.bool true)
def Zcy (l:List (List UInt8×List UInt8)):List (AV×AV):=l.map fun s=>(.agg [.str s.1,.str s.2],.bool true)
theorem ZsJ (s:List UInt8):∀ l,find (.one .str) (.str s) (Oo l)=some (if l.contains s then some (.bool true) else none)
 | []=>rfl
 | x :: l=>by
  have ih:=ZsJ s l
  have e:Oo (x :: l)=(.str x,.bool true) :: Oo l:=rfl
  rw [e]
  simp only [find,Zjb,JY]
  by_cases h:s=x
  ·subst h; simp
  ·have:(s == x)=false:=by simp [h]
   rw [this]
   simp only [ih,List.contains_cons,this,Bool.false_or]
theorem ZsM {hp:List Zt}{g:Nat}{l:List (List UInt8)}(hg:hp[g]? = some (.map (Oo l)))(s:List UInt8):EA hp (.one .str) (.bool false) (.map g) (.str s) false=some (.bool (l.contains s)):=by
 simp only [EA,Np,hg,ZsJ]
 cases l.contains s <;> simp
theorem Zwb (s:List UInt8):∀ l,l.contains s=false→update (.one .str) (.str s) (.bool true) (Oo l)=some (Oo (l ++ [s]))
 | [],_=>rfl
 | x :: l,h=>by
  rw [List.contains_cons,Bool.or_eq_false_iff] at h
  have ih:=Zwb s l h.2
  have e:Oo (x :: l)=(.str x,.bool true) :: Oo l:=rfl
  rw [e]
  simp only [update,Zjb,JY,h.1,ih]
  rfl
theorem ZxU {hp:List Zt}{g bs:Nat}{l:List (List UInt8)}(hg:hp[g]? = some (.map (Oo l)))(s:List UInt8)(h:l.contains s=false)(ef:Eff):ZsO bs (.one .str) (.map g) (.str s) (.bool true) hp ef=some (hp.set g (.map (Oo (l ++ [s]))),Ak bs ef g 0):=by
 simp only [ZsO,hg,Np,AV.flat1,Bool.and_self,if_true,Zwb s l h]
theorem Zp4 (s:List UInt8×List UInt8):∀ l,find (.pair .str) (.agg [.str s.1,.str s.2]) (Zcy l)=some (if l.contains s then some (.bool true) else none)
 | []=>rfl
 | x :: l=>by
  have ih:=Zp4 s l
  have e:Zcy (x :: l)=(.agg [.str x.1,.str x.2],.bool true) :: Zcy l:=rfl
  rw [e]
  simp only [find,Zjb,JY]
  by_cases h:s=x
  ·subst h; simp
  ·have:(s == x)=false:=by simp [h]
   by_cases h1:s.1=x.1
   ·have h2:¬ s.2=x.2:=fun e=>h (Prod.ext h1 e)
    have b1:(s.1 == x.1)=true:=by simp [h1]
    have b2:(s.2 == x.2)=false:=by simp [h2]
    rw [b1]
    simp only [b2,ih,List.contains_cons,this,Bool.false_or]
   ·have b1:(s.1 == x.1)=false:=by simp [h1]
    rw [b1]
    simp only [ih,List.contains_cons,this,Bool.false_or]
theorem Zw5 {hp:List Zt}{g:Nat}{l:List (List UInt8×List UInt8)}(hg:hp[g]? = some (.map (Zcy l)))(a b:List UInt8):EA hp (.pair .str) (.bool false) (.map g) (.agg [.str a,.str b]) false=some (.bool (l.contains (a,b))):=by
 have:=Zp4 (a,b) l
 simp only at this
 simp only [EA,Np,hg,this]
 cases l.contains (a,b) <;> simp
theorem ZtK (s:List UInt8×List UInt8):∀ l,l.contains s=false→update (.pair .str) (.agg [.str s.1,.str s.2]) (.bool true) (Zcy l)=some (Zcy (l ++ [s]))
 | [],_=>rfl
 | x :: l,h=>by
  rw [List.contains_cons,Bool.or_eq_false_iff] at h
  have ih:=ZtK s l h.2
  have e:Zcy (x :: l)=(.agg [.str x.1,.str x.2],.bool true) :: Zcy l:=rfl
  rw [e]
  have hne:¬ s=x:=by simpa using h.1
  by_cases h1:s.1=x.1
  ·have h2:¬ s.2=x.2:=fun e=>hne (Prod.ext h1 e)
   have b1:(s.1 == x.1)=true:=by simp [h1]
   have b2:(s.2 == x.2)=false:=by simp [h2]
   simp only [update,Zjb,JY,b1,b2,ih]
   rfl
  ·have b1:(s.1 == x.1)=false:=by simp [h1]
   simp only [update,Zjb,JY,b1,ih]
   rfl
theorem Zw8 {hp:List Zt}{g bs:Nat}{l:List (List UInt8×List UInt8)}(hg:hp[g]? = some (.map (Zcy l)))(a b:List UInt8)(h:l.contains (a,b)=false)(ef:Eff):ZsO bs (.pair .str) (.map g) (.agg [.str a,.str b]) (.bool true) hp ef=some (hp.set g (.map (Zcy (l ++ [(a,b)]))),Ak bs ef g 0):=by
 have:=ZtK (a,b) l h
 simp only at this
 simp only [ZsO,hg,Np,AV.flat1,Bool.and_self,if_true,this]
theorem Upd.set {hp:List Zt}{g:Nat}{es es':List (AV×AV)}(hg:hp[g]? = some (.map es)):Upd g es' hp (hp.set g (.map es')) :=
 ⟨by simp,by rw [List.getElem?_set_self (List.getElem?_eq_some_iff.1 hg).1],fun i hi hn=>by rw [List.getElem?_set_ne (fun e=>hn e.symm)]⟩
def Yz {α σ:Type}(step:α→σ→Int×σ):List α→σ→Int×σ
 | [],s=>(0,s)
 | x :: r,s=>if decide ((step x s).1≠0)=true then step x s else Yz step r (step x s).2
def CV {σ:Type}:List (σ→Int×σ)→σ→Int×σ
 | [],s=>(0,s)
 | f :: r,s=>if decide ((f s).1≠0)=true then f s else CV r (f s).2
end Go.Proofs.YtlmfmmclnboglaaGreat.Abs
end
section
namespace Go.Proofs.YtlmfmmclnboglaaGreat
open Go Go.RowKit Go.Proofs.YtlmfmmclnboglaaGreat.Abs
set_option linter.all false
set_option maxRecDepth 100000
theorem Sb:(∀ x,(X9 x).length=3)∧(∀ x,(X9 x).map AV.ro=X9 x)∧(∀ x,AV.nm (.agg (X9 x))=.agg (X9 x))∧(∀ x,(X9 x)[0]? = some (.str x.Name))∧(∀ x,(X9 x)[1]? = some (.int .i64 x.Ty))∧(∀ x,(X9 x)[2]? = some (.int .i64 x.N)):=⟨ZpR,Znf,Zyx,Z0i,Z0j,Z0k⟩
theorem ZgX:(∀ x,(JH x).length=2)∧(∀ x,(JH x).map AV.ro=JH x)∧(∀ x,AV.nm (.agg (JH x))=.agg (JH x))∧(∀ x,(JH x)[0]? = some (.int .i64 x.At_))∧(∀ x,(JH x)[1]? = some (.int .i64 x.Units)):=⟨Zvg,ZpN,ZwP,Zym,Zyn⟩
theorem ZvQ:(∀ x,(TR x).length=13)∧(∀ x,(TR x).map AV.ro=TR x)∧(∀ x,AV.nm (.agg (TR x))=.agg (TR x))∧(∀ x,(TR x)[0]? = some (.str x.Stream))∧(∀ x,((TR x).drop 1).take 6=Kk x.Up)∧(∀ x,((TR x).drop 7).take 6=Kk x.Down):=⟨ZwQ,Zty,Zyp,ZzN,Ztx,ZoX⟩
theorem Qg:(∀ x,(Zu x).length=17)∧(∀ x,(Zu x).map AV.ro=Zu x)∧(∀ x,AV.nm (.agg (Zu x))=.agg (Zu x))∧(∀ x,(Zu x)[0]? = some (.str x.Name))∧(∀ x,(Zu x)[1]? = some (.int .i64 x.Units))∧(∀ x,(Zu x)[2]? = some (.lst 2 (x.Shift.map JH)))∧(∀ x,(Zu x)[3]? = some (.int .i64 x.Cycle))∧(∀ x,(Zu x)[4]? = some (.str x.Fault.Stream))∧(∀ x,((Zu x).drop 4).take 13=TR x.Fault):=⟨Al,DK,ZkZ,Zna,Znb,Znc,Znd,Zne,CU⟩
theorem LC:(∀ x,(Yo x).length=3)∧(∀ x,(Yo x).map AV.ro=Yo x)∧(∀ x,AV.nm (.agg (Yo x))=.agg (Yo x))∧(∀ x,(Yo x)[0]? = some (.str x.Name))∧(∀ x,(Yo x)[1]? = some (.int .i64 x.Room))∧(∀ x,(Yo x)[2]? = some (.int .i64 x.Policy)):=⟨ED,Pj,ZrA,Zt7,Zt8,Zt9⟩
theorem Ny:(∀ x,(YL x).length=3)∧(∀ x,(YL x).map AV.ro=YL x)∧(∀ x,AV.nm (.agg (YL x))=.agg (YL x))∧(∀ x,(YL x)[0]? = some (.str x.Name))∧(∀ x,(YL x)[1]? = some (.int .i64 x.Length))∧(∀ x,(YL x)[2]? = some (.int .i64 x.Step)):=⟨ZgW,ZbS,Ztv,Zvd,Zve,Zvf⟩
theorem FK:(∀ x,(Vg x).length=2)∧(∀ x,(Vg x).map AV.ro=Vg x)∧(∀ x,AV.nm (.agg (Vg x))=.agg (Vg x))∧(∀ x,(Vg x)[0]? = some (.str x.Name))∧(∀ x,(Vg x)[1]? = some (.int .i64 x.Ty)):=⟨ZwR,Ztz,Zyq,ZzO,ZzP⟩
theorem Jk:(∀ x,(Yr x).length=4)∧(∀ x,(Yr x).map AV.ro=Yr x)∧(∀ x,AV.nm (.agg (Yr x))=.agg (Yr x))∧(∀ x,(Yr x)[0]? = some (.str x.Name))∧(∀ x,(Yr x)[1]? = some (.lst 2 (x.Params.map Vg)))∧(∀ x,(Yr x)[2]? = some (.lst 2 (x.Locals.map Vg)))∧(∀ x,(Yr x)[3]? = some (.lst 21 (x.Body.map Y9))):=⟨Zj6,Zfu,Zvh,ZwT,ZwU,ZwV,ZwW⟩
theorem O4:(∀ x,(Vr x).length=5)∧(∀ x,(Vr x).map AV.ro=Vr x)∧(∀ x,AV.nm (.agg (Vr x))=.agg (Vr x))∧(∀ x,(Vr x)[0]? = some (.str x.Routine))∧(∀ x,(Vr x)[1]? = some (.lst 1 (ints x.Args)))∧(∀ x,(Vr x)[2]? = some (.int .i64 x.At_))∧(∀ x,(Vr x)[3]? = some (.int .i64 x.Every))∧(∀ x,(Vr x)[4]? = some (.int .i64 x.Until)):=⟨ZwX,Zt6,Zyu,ZzX,ZzY,ZzZ,Z0a,Z0b⟩
theorem Zfv:(∀ x,(Ot x).length=3)∧(∀ x,(Ot x).map AV.ro=Ot x)∧(∀ x,AV.nm (.agg (Ot x))=.agg (Ot x))∧(∀ x,(Ot x)[0]? = some (.int .i64 x.Coef))∧(∀ x,(Ot x)[1]? = some (.str x.What))∧(∀ x,(Ot x)[2]? = some (.str x.Name)):=⟨Zyw,ZvS,Z0h,Z1X,Z1Y,Z1Z⟩
theorem ZgY:(∀ x,(EF x).length=3)∧(∀ x,(EF x).map AV.ro=EF x)∧(∀ x,AV.nm (.agg (EF x))=.agg (EF x))∧(∀ x,(EF x)[0]? = some (.str x.Name))∧(∀ x,(EF x)[1]? = some (.lst 3 (x.Terms.map Ot)))∧(∀ x,(EF x)[2]? = some (.int .i64 x.Total)):=⟨ZzQ,Zyr,Z1Q,Z2V,Z2W,Z2X⟩
theorem Lp:(∀ x,(KM x).length=3)∧(∀ x,(KM x).map AV.ro=KM x)∧(∀ x,AV.nm (.agg (KM x))=.agg (KM x))∧(∀ x,(KM x)[0]? = some (.str x.From))∧(∀ x,(KM x)[1]? = some (.str x.To))∧(∀ x,(KM x)[2]? = some (.int .i64 x.Delay)):=⟨Zys,ZvR,ZzR,Z1R,Z1S,Z1T⟩
theorem ZB:(∀ x,(Zj x).length=13)∧(∀ x,(Zj x).map AV.ro=Zj x)∧(∀ x,AV.nm (.agg (Zj x))=.agg (Zj x))∧(∀ x,(Zj x)[0]? = some (.str x.Name))∧(∀ x,(Zj x)[1]? = some (.lst 3 (x.Vars.map X9)))∧(∀ x,(Zj x)[2]? = some (.lst 17 (x.Resources.map Zu)))∧(∀ x,(Zj x)[3]? = some (.lst 3 (x.Stores.map Yo)))∧(∀ x,(Zj x)[4]? = some (.lst 3 (x.Belts.map YL)))∧(∀ x,(Zj x)[5]? = some (.lst 1 (strs x.Queues)))∧(∀ x,(Zj x)[6]? = some (.lst 1 (strs x.Streams)))∧(∀ x,(Zj x)[7]? = some (.lst 1 (strs x.Tallies)))∧(∀ x,(Zj x)[8]? = some (.lst 1 (strs x.Levels)))∧(∀ x,(Zj x)[9]? = some (.lst 1 (strs x.Counts)))∧(∀ x,(Zj x)[10]? = some (.lst 4 (x.Routines.map Yr)))∧(∀ x,(Zj x)[11]? = some (.lst 5 (x.Starts.map Vr)))∧(∀ x,(Zj x)[12]? = some (.lst 3 (x.Laws.map EF))):=⟨Zr8,Zj7,Zt5,Zvi,Zvj,Zvk,Zvl,Zvm,Zvn,Zvo,Zvp,Zvq,Zvr,Zt2,Zt3,Zt4⟩
theorem QF:(∀ x,(Vh x).length=4)∧(∀ x,(Vh x).map AV.ro=Vh x)∧(∀ x,AV.nm (.agg (Vh x))=.agg (Vh x))∧(∀ x,(Vh x)[0]? = some (.str x.Name))∧(∀ x,(Vh x)[1]? = some (.lst 3 (x.Params.map X9)))∧(∀ x,(Vh x)[2]? = some (.lst 13 (x.Sites.map Zj)))∧(∀ x,(Vh x)[3]? = some (.lst 3 (x.Links.map KM))):=⟨ZwS,Zt0,Zyt,ZzS,ZzT,ZzU,ZzV⟩
def ZpS (s:Zi):N8:=⟨s.Name,s.Vars.map X9,s.Resources.map Zu,s.Stores.map Yo,s.Belts.map YL,strs s.Queues,strs s.Streams,strs s.Tallies,strs s.Levels,strs s.Counts,s.Routines.map Yr,s.Starts.map Vr,s.Laws.map EF⟩
theorem Zxe {α:Type}{row:α→List AV}{W:Nat}(l:List α)(hl:l.length≤8796093022208)(h1:∀ x,(row x).length=W)(h2:∀ x,(row x).map AV.ro=row x)(h3:∀ x,row x=.str (nameOf (row x)) :: (row x).tail):Zhh W (l.map row) :=
 ⟨by simpa using hl,fun r hr=>by obtain ⟨x,_,rfl⟩:=List.mem_map.1 hr; exact ⟨h1 x,h2 x,h3 x⟩⟩
theorem ZtB (l:List (List UInt8))(hl:l.length≤8796093022208):Zhh 1 (strs l):=Zxe (row := fun x=>[.str x]) l hl (fun _=>rfl) (fun _=>rfl) (fun _=>rfl)
theorem Zno {s:Zi}(h:Yl s):NK (ZpS s):=by
 have:=h.Vars.1; have:=h.Resources.1; have:=h.Stores.1; have:=h.Belts.1; have:=h.Queues.1; have:=h.Streams.1; have:=h.Tallies.1; have:=h.Levels.1; have:=h.Counts.1; have:=h.Routines.1; have:=h.Starts.1; have:=h.Laws.1
 exact ⟨Zxe _ (by omega) ZpR Znf (fun _=>rfl),Zxe _ (by omega) Al DK (fun _=>rfl),Zxe _ (by omega) ED Pj (fun _=>rfl),Zxe _ (by omega) ZgW ZbS (fun _=>rfl),ZtB _ (by omega),ZtB _ (by omega),ZtB _ (by omega),ZtB _ (by omega),ZtB _ (by omega),Zxe _ (by omega) Zj6 Zfu (fun _=>rfl),by simp [ZpS]; omega,by simp [ZpS]; omega⟩
theorem Zcf {α:Type}{row:α→List AV}{nm:α→List UInt8}(hn:∀ x,nameOf (row x)=nm x)(s:List UInt8):∀ (l:List α) (i:Nat),decide (0≤V8 (isN s) (l.map row) i)=(l.map nm).contains s
 | [],i=>rfl
 | x :: r,i=>by
  have ih:=Zcf hn s r (i + 1)
  simp only [List.map_cons,V8,List.contains_cons,isN,hn]
  by_cases h:nm x=s
  ·have h':(s == nm x)=true:=by simp [h]
   simp [h,h']
  ·have h':(s == nm x)=false:=by simp; exact fun e=>h e.symm
   simp only [h,h',decide_false,Bool.false_eq_true,if_false,Bool.false_or]
   exact ih
theorem ZqO {α:Type}{row:α→List AV}{nm:α→List UInt8}(hn:∀ x,nameOf (row x)=nm x)(s:List UInt8)(l:List α):decide (V8 (isN s) (l.map row) 0 < 0)=!(l.map nm).contains s:=by
 rw [← Zcf hn s l 0,← decide_not]
 congr 1; apply propext; omega
theorem Zmt {α:Type}{row:α→List AV}{nm:α→List UInt8}(hn:∀ x,nameOf (row x)=nm x)(s:List UInt8):∀ (l:List α) (i:Nat),(l.find? (fun x=>decide (nm x=s))=none∧V8 (isN s) (l.map row) i=-1)∨∃ (k:Nat) (x:α),V8 (isN s) (l.map row) i=(i + k:Nat)∧l[k]? = some x∧l.find? (fun x=>decide (nm x=s))=some x
 | [],i=>.inl ⟨rfl,rfl⟩
 | x :: r,i=>by
  simp only [List.map_cons,V8,isN,hn,List.find?_cons]
  by_cases h:nm x=s
  ·right
   exact ⟨0,x,by rw [decide_eq_true h]; rfl,rfl,by rw [decide_eq_true h]⟩
  ·simp only [h,decide_false,Bool.false_eq_true,if_false]
   rcases Zmt hn s r (i + 1) with ⟨h1,h2⟩ | ⟨k,y,h1,h2,h3⟩
   ·left; exact ⟨h1,by rw [← h2]⟩
   ·right
    refine ⟨k + 1,y,?_,by simpa using h2,h3⟩
    rw [h1]; congr 1; omega
theorem Z2e (s:List UInt8)(l:List (List UInt8)):decide (0≤V8 (isN s) (strs l) 0)=l.contains s∧decide (V8 (isN s) (strs l) 0 < 0)=!l.contains s:=by
 have h1:=Zcf (row := fun x:List UInt8=>[AV.str x]) (nm := id) (fun _=>rfl) s l 0
 have h2:=ZqO (row := fun x:List UInt8=>[AV.str x]) (nm := id) (fun _=>rfl) s l
 rw [List.map_id] at h1 h2
 exact ⟨h1,h2⟩
theorem Z3K (s:List UInt8)(l:List QI):decide (0≤V8 (isN s) (l.map Yr) 0)=(l.map (·.Name)).contains s∧decide (V8 (isN s) (l.map Yr) 0 < 0)=!(l.map (·.Name)).contains s :=
 ⟨Zcf (nm := fun x:QI=>x.Name) (fun _=>rfl) s l 0,ZqO (nm := fun x:QI=>x.Name) (fun _=>rfl) s l⟩
theorem Zp3 {C:Cfg}(hC:Xz C)(N:Nat)(hN:1≤N)(hp:HP)(l:List (List UInt8))(s:List UInt8)(hl:l.length≤4611686018427387):Zc C N Tw [.lst 1 (strs l),.str s] hp=some (.int .i64 (V8 (isN s) (strs l) 0),hp,none):=by
 obtain ⟨m,rfl⟩:∃ m,N=m + 1:=⟨N - 1,by omega⟩
 exact ZqI hC m hp s (strs l) (by simpa [strs] using hl) (fun r hr=>by obtain ⟨x,_,rfl⟩:=List.mem_map.1 hr; rfl)
theorem KJ {C:Cfg}(hC:Xz C)(N:Nat)(hN:2≤N)(hp:HP)(l:List (List UInt8))(s:List UInt8)(hl:l.length≤4611686018427387):Zc C N XC [.lst 1 (strs l),.str s] hp=some (.bool (l.contains s),hp,none):=by
 obtain ⟨m,rfl⟩:∃ m,N=m + 2:=⟨N - 2,by omega⟩
 have q:=fun hp=>Z1b hC m hp s (strs l) (by simpa [strs] using hl) (fun r hr=>by obtain ⟨x,_,rfl⟩:=List.mem_map.1 hr; rfl)
 refine Lr (by rw [hC.T]; rfl) ?_
 simp only [VH,EV,LD,q,Z2e]
theorem ZbC {C:Cfg}(hC:Xz C)(N:Nat)(hN:3≤N)(hp:HP)(d:Zi)(s:List UInt8)(hd:Yl d):Zc C N OC [.agg (Zj d),.str s] hp=some (.int .i64 (V8 (isN s) (d.Routines.map Yr) 0),hp,none):=by
 obtain ⟨m,rfl⟩:∃ m,N=m + 3:=⟨N - 3,by omega⟩
 exact Zwp hC m hp (ZpS d) s (Zno hd)
theorem ZqF {C:Cfg}(hC:Xz C)(N:Nat)(hN:2≤N)(hp:HP)(d:Zi)(s:List UInt8)(hd:Yl d):Zc C N DU [.agg (Zj d),.str s] hp=some (.int .i64 (V8 (isN s) (d.Routines.map Yr) 0),hp,none):=by
 obtain ⟨m,rfl⟩:∃ m,N=m + 2:=⟨N - 2,by omega⟩
 exact Zwz hC m hp (ZpS d) s (Zno hd)
def Qe (a b:Int):Int:=if decide (a≠0)=true then a else b
def Qu (b:Bool)(e:Int):Int:=if b=true then 0 else e
def ZkB (t n:Int):Bool:=if decide (t=1)=true then inB n else if decide (t=2)=true then (decide (n=0) || decide (n=1)) else if decide (t=3)=true then btw n 0 1000000000 else false
def ZjC (t:Int):Bool:=decide (t=1) || decide (t=2) || decide (t=3)
theorem ZrK (t:Int):ZjC t=btw t 1 3:=by
 simp only [ZjC,btw]
 by_cases h1:t=1
 ·simp [h1]
 by_cases h2:t=2
 ·simp [h2]
 by_cases h3:t=3
 ·simp [h3]
 simp only [h1,h2,h3,decide_false,Bool.or_false]
 by_cases h4:1≤t <;> by_cases h5:t≤3 <;> simp [h4,h5]
 omega
theorem Uy {C:Cfg}(hC:Xz C)(N:Nat)(hN:1≤N)(hp:HP)(x lo hi:Int):Zc C N Ql [.int .i64 x,.int .i64 lo,.int .i64 hi] hp=some (.bool (btw x lo hi),hp,none):=by
 obtain ⟨m,rfl⟩:∃ m,N=m + 1:=⟨N - 1,by omega⟩
 refine ZkN (by rw [hC.T]; rfl) ?_
 generalize Zc C m=K at *
 simp only [Ex,EV,LD,BL,IFJ,Nat.reduceAdd,Nat.reduceLeDiff,Nat.reduceBEq,GI,btw]
theorem Ti {C:Cfg}(hC:Xz C)(N:Nat)(hN:1≤N)(hp:HP)(x lo hi:Int):Zc C N QN [.int .i64 x,.int .i64 lo,.int .i64 hi] hp=some (.bool (btw x lo hi),hp,none):=by
 obtain ⟨m,rfl⟩:∃ m,N=m + 1:=⟨N - 1,by omega⟩
 refine ZoW (by rw [hC.T]; rfl) ?_
 generalize Zc C m=K at *
 simp only [Zbz,EV,LD,BL,IFJ,Nat.reduceAdd,Nat.reduceLeDiff,Nat.reduceBEq,GI,btw]
theorem ZgB {C:Cfg}(hC:Xz C)(N:Nat)(hN:1≤N)(hp:HP)(x:Int):Zc C N LV [.int .i64 x] hp=some (.bool (btw x 1 3),hp,none):=by
 obtain ⟨m,rfl⟩:∃ m,N=m + 1:=⟨N - 1,by omega⟩
 refine ZmA (by rw [hC.T]; rfl) ?_
 generalize Zc C m=K at *
 simp only [Fy,EV,LD,BL,IFJ,Nat.reduceAdd,Nat.reduceLeDiff,Nat.reduceBEq,GI,btw]
theorem Zfi {C:Cfg}(hC:Xz C)(N:Nat)(hN:1≤N)(hp:HP)(x:Int):Zc C N Bc [.int .i64 x] hp=some (.bool (ZjC x),hp,none):=by
 obtain ⟨m,rfl⟩:∃ m,N=m + 1:=⟨N - 1,by omega⟩
 refine Zr0 (by rw [hC.T]; rfl) ?_
 generalize Zc C m=K at *
 simp only [ZeT,EV,LD,BL,IFJ,Nat.reduceAdd,Nat.reduceLeDiff,Nat.reduceBEq,GI,ZjC]
theorem Zj0 {C:Cfg}(hC:Xz C)(N:Nat)(hN:2≤N)(hp:HP)(x n:Int):Zc C N BV [.int .i64 x,.int .i64 n] hp=some (.bool (ZkB x n),hp,none):=by
 obtain ⟨m,rfl⟩:∃ m,N=m + 1:=⟨N - 1,by omega⟩
 have q0:=ZqD hC m (by omega)
 have q1:=Uy hC m (by omega)
 refine Zo4 (by rw [hC.T]; rfl) ?_
 generalize Zc C m=K at *
 simp only [Zbn,EV,LD,BL,IFJ,Nat.reduceAdd,Nat.reduceLeDiff,Nat.reduceBEq,GI,q0,q1,ZkB]
theorem ZiY {C:Cfg}(hC:Xz C)(N:Nat)(hN:2≤N)(hp:HP)(x n:Int):Zc C N Pn [.int .i64 x,.int .i64 n] hp=some (.bool (ZkB x n),hp,none):=by
 obtain ⟨m,rfl⟩:∃ m,N=m + 1:=⟨N - 1,by omega⟩
 have q0:=ZqE hC m (by omega)
 have q1:=Ti hC m (by omega)
 refine Ztq (by rw [hC.T]; rfl) ?_
 generalize Zc C m=K at *
 simp only [Ziv,EV,LD,BL,IFJ,Nat.reduceAdd,Nat.reduceLeDiff,Nat.reduceBEq,GI,q0,q1,ZkB]
theorem Gp {C:Cfg}(hC:Xz C)(N:Nat)(hN:1≤N)(hp:HP)(a b:Int):Zc C N Qh [.int .i64 a,.int .i64 b] hp=some (.int .i64 (Qe a b),hp,none):=by
 obtain ⟨m,rfl⟩:∃ m,N=m + 1:=⟨N - 1,by omega⟩
 refine Zr1 (by rw [hC.T]; rfl) ?_
 generalize Zc C m=K at *
 simp only [ZeU,EV,LD,BL,IFJ,Nat.reduceAdd,Nat.reduceLeDiff,Nat.reduceBEq,GI,Qe]
theorem Uz {C:Cfg}(hC:Xz C)(N:Nat)(hN:1≤N)(hp:HP)(b:Bool)(e:Int):Zc C N YH [.bool b,.int .i64 e] hp=some (.int .i64 (Qu b e),hp,none):=by
 obtain ⟨m,rfl⟩:∃ m,N=m + 1:=⟨N - 1,by omega⟩
 refine ZoV (by rw [hC.T]; rfl) ?_
 generalize Zc C m=K at *
 simp only [Zby,EV,LD,BL,IFJ,Nat.reduceAdd,Nat.reduceLeDiff,Nat.reduceBEq,GI,Qu]
def ZyL (cyc:Int):Option Int→List O8→Int
 | _,[]=>0
 | p,c :: r=>if (!(btw c.At_ 0 (cyc - 1)) || !(btw c.Units 0 1000))=true then 2 else if (p.isSome && decide (c.At_≤p.getD 0))=true then 12 else ZyL cyc (some c.At_) r
def Zy5 (d:ZY):Int :=
 if decide ((d.Shift.length:Int)=0)=true then (if decide (d.Cycle≠0)=true then 1 else 0)
 else if decide (20 < (d.Shift.length:Int))=true then 6 else if (!(btw d.Cycle 1 1000000000))=true then 2 else ZyL d.Cycle none d.Shift
def ZgO (q:List O8):Option Int:=q.getLast?.map (·.At_)
theorem V9.s {d:ZY}(h:V9 d):d.Shift.length≤4611686018427387:=by have:=h.Shift.1; omega
theorem Zyk (l q r:List O8)(x:O8)(h:l=q ++ x :: r)(hb:l.length≤4611686018427387) :
  (ZgO q=none∧decide ((0:Int) < (q.length:Int))=false)∨∃ a:O8,ZgO q=some a.At_∧decide ((0:Int) < (q.length:Int))=true∧Yy (.slice 2) (.lst 2 (l.map JH)) (.int .i64 (IntKind.i64.wrap ((q.length:Int) - 1)))=some (.ref (JH a)):=by
 rcases List.eq_nil_or_concat q with rfl | ⟨q',a,rfl⟩
 ·left; exact ⟨rfl,by decide⟩
 ·right
  refine ⟨a,by simp [ZgO],by simp <;> omega,?_⟩
  have hl:q'.length < 4611686018427387904:=by subst h; simp at hb; omega
  have e:IntKind.i64.wrap (((q'.concat a).length:Int) - 1)=(q'.length:Int):=by
   rw [ZtM (by simp <;> omega) (by simp <;> omega)]; simp
  rw [e,Yp]
  subst h
  simp
theorem Zm4 (q:List O8)(x:O8):ZgO (q ++ [x])=some x.At_:=by simp [ZgO]
theorem Nk {C:Cfg}(K:KT)(hp0:HP)(d:ZY)(hd:V9 d)(hc:IntKind.i64.wrap (d.Cycle - 1)=d.Cycle - 1)(g:Nat)(tg:TypeId)(hW:∀ hp x lo hi,K Ql [.int .i64 x,.int .i64 lo,.int .i64 hi] hp=some (.bool (btw x lo hi),hp,none)):∀ (r q:List O8) (m:Nat) (hp:HP),d.Shift=q ++ r→r.length < m→hp0.length≤hp.length→hp[g]? = some (.cells (Zu d) tg) →
  Qr C.G K C.L hp0 (Vw C.G K C.L hp0) m (.ptr g 0) (.lst 2 (d.Shift.map JH)) (.int .i64 (d.Shift.length:Int)) (.int .i64 (q.length:Int)) hp none=some (.int .i64 (ZyL d.Cycle (ZgO q) r),hp0,none)
 | _,_,0,_,_,h,_,_=>by omega
 | [],q,m + 1,hp,h,_,hh,hg=>by
  have l0:=lp0 h
  simp only [Qr,Jh,Vv,Vw,CO,Nat.reduceAdd,Nat.reduceLeDiff,Nat.reduceBEq,List.length_cons,List.length_nil,LG hg,Qg,l0,ZyL]
 | x :: r,q,m + 1,hp,h,hm,hh,hg=>by
  obtain ⟨a1,a2,a3,a4,a5⟩:=lp JH h hd.s
  have ih:=Nk (C := C) K hp0 d hd hc g tg hW r (q ++ [x]) m (hp ++ [.cells (JH x) Pm]) a4 (by simpa using hm) (by simp; omega) (Gt hg _)
  rw [Zm4] at ih
  rcases Zyk d.Shift q r x h hd.s with ⟨p1,p2⟩ | ⟨a,p1,p2,p3⟩
  ·simp only [Qr,Jh,Vv,Vw,CO,Nat.reduceAdd,Nat.reduceLeDiff,Nat.reduceBEq,List.length_cons,List.length_nil,LG hg,Qg,ZgX,STA hh,a1,a2,a3,Yp,hc,hW,p1,p2,ih,ZyL,Option.isSome_none,Option.isSome_some,Option.getD_some]
   cases btw x.At_ 0 (d.Cycle - 1) <;> simp only [BL,IFJ]
  ·simp only [Qr,Jh,Vv,Vw,CO,Nat.reduceAdd,Nat.reduceLeDiff,Nat.reduceBEq,List.length_cons,List.length_nil,LG hg,Qg,ZgX,STA hh,a1,a2,a3,Yp,hc,hW,p1,p2,p3,ih,ZyL,Option.isSome_none,Option.isSome_some,Option.getD_some]
   cases btw x.At_ 0 (d.Cycle - 1) <;> simp only [BL,IFJ]
theorem Ac {C:Cfg}(K:KT)(hp0:HP)(d:ZY)(hd:V9 d)(hc:IntKind.i64.wrap (d.Cycle - 1)=d.Cycle - 1)(g:Nat)(tg:TypeId)(hW:∀ hp x lo hi,K QN [.int .i64 x,.int .i64 lo,.int .i64 hi] hp=some (.bool (btw x lo hi),hp,none)):∀ (r q:List O8) (m:Nat) (hp:HP),d.Shift=q ++ r→r.length < m→hp0.length≤hp.length→hp[g]? = some (.cells (Zu d) tg) →
  V4 C.G K C.L hp0 (Ji C.G K C.L hp0) m (.ptr g 0) (.int .i64 (q.length:Int)) hp none=some (.int .i64 (ZyL d.Cycle (ZgO q) r),hp0,none)
 | _,_,0,_,_,h,_,_=>by omega
 | [],q,m + 1,hp,h,_,hh,hg=>by
  have l0:=lp0 h
  simp only [V4,Ji,CO,Nat.reduceAdd,Nat.reduceLeDiff,Nat.reduceBEq,List.length_cons,List.length_nil,LG hg,Qg,l0,ZyL]
 | x :: r,q,m + 1,hp,h,hm,hh,hg=>by
  obtain ⟨a1,a2,a3,a4,a5⟩:=lp JH h hd.s
  have ih:=Ac (C := C) K hp0 d hd hc g tg hW r (q ++ [x]) m (hp ++ [.cells (JH x) Pm]) a4 (by simpa using hm) (by simp; omega) (Gt hg _)
  rw [Zm4] at ih
  rcases Zyk d.Shift q r x h hd.s with ⟨p1,p2⟩ | ⟨a,p1,p2,p3⟩
  ·simp only [V4,Ji,CO,Nat.reduceAdd,Nat.reduceLeDiff,Nat.reduceBEq,List.length_cons,List.length_nil,LG hg,Qg,ZgX,STA hh,a1,a2,a3,Yp,hc,hW,p1,p2,ih,ZyL,Option.isSome_none,Option.isSome_some,Option.getD_some]
   try rfl
  ·simp only [V4,Ji,CO,Nat.reduceAdd,Nat.reduceLeDiff,Nat.reduceBEq,List.length_cons,List.length_nil,LG hg,Qg,ZgX,STA hh,a1,a2,a3,Yp,hc,hW,p1,p2,p3,ih,ZyL,Option.isSome_none,Option.isSome_some,Option.getD_some]
   try rfl
theorem Zk7 {C:Cfg}(hC:Xz C)(N:Nat)(hN:2≤N)(hp:HP)(d:ZY)(hd:V9 d):Zc C N Dq [.agg (Zu d)] hp=some (.int .i64 (Zy5 d),hp,none):=by
 obtain ⟨m,rfl⟩:∃ m,N=m + 1:=⟨N - 1,by omega⟩
 have q0:=Uy hC m (by omega)
 refine ZgS (by rw [hC.T]; rfl) ?_
 by_cases hc:btw d.Cycle 1 1000000000=true
 ·have hcw:IntKind.i64.wrap (d.Cycle - 1)=d.Cycle - 1:=by
   simp only [btw,Bool.and_eq_true,decide_eq_true_eq] at hc
   exact ZtM (by omega) (by omega)
  have h:=Nk (C := C) (Zc C m) hp d hd hcw hp.length WA q0 d.Shift [] C.L (hp ++ [.cells (Zu d) WA]) rfl (by have:=hC.L; have:=hd.s; omega) (by simp) (ZC _ _)
  simp only [List.length_nil,Int.natCast_zero] at h
  have e0:ZgO []=none:=rfl
  rw [e0] at h
  simp only [MN,CO,Nat.reduceAdd,Nat.reduceLeDiff,Nat.reduceBEq,List.length_cons,List.length_nil,Qg,Zy5,h,q0,hc]
  skip
 have hc:btw d.Cycle 1 1000000000=false:=by simpa using hc
 simp only [MN,EV,LD,BL,IFJ,Nat.reduceAdd,Nat.reduceLeDiff,Nat.reduceBEq,GI,q0,Qg,Zy5,hc]
theorem Zow {C:Cfg}(hC:Xz C)(N:Nat)(hN:2≤N)(hp:HP)(d:ZY)(hd:V9 d):Zc C N Sg [.agg (Zu d)] hp=some (.int .i64 (Zy5 d),hp,none):=by
 obtain ⟨m,rfl⟩:∃ m,N=m + 1:=⟨N - 1,by omega⟩
 have q0:=Ti hC m (by omega)
 have q1:=Uz hC m (by omega)
 refine ZkW (by rw [hC.T]; rfl) ?_
 by_cases hc:btw d.Cycle 1 1000000000=true
 ·have hcw:IntKind.i64.wrap (d.Cycle - 1)=d.Cycle - 1:=by
   simp only [btw,Bool.and_eq_true,decide_eq_true_eq] at hc
   exact ZtM (by omega) (by omega)
  have h:=Ac (C := C) (Zc C m) hp d hd hcw hp.length WA q0 d.Shift [] C.L (hp ++ [.cells (Zu d) WA]) rfl (by have:=hC.L; have:=hd.s; omega) (by simp) (ZC _ _)
  simp only [List.length_nil,Int.natCast_zero] at h
  have e0:ZgO []=none:=rfl
  rw [e0] at h
  simp only [BR,CO,Nat.reduceAdd,Nat.reduceLeDiff,Nat.reduceBEq,List.length_cons,List.length_nil,Qg,Zy5,h,q0,q1,Qu,hc]
  by_cases hz:d.Cycle=0 <;> simp [hz]
 have hc:btw d.Cycle 1 1000000000=false:=by simpa using hc
 simp only [BR,EV,LD,BL,IFJ,Nat.reduceAdd,Nat.reduceLeDiff,Nat.reduceBEq,GI,q0,q1,Qg,Zy5,hc,Qu]
 by_cases hz:d.Cycle=0 <;> simp [hz]
end Go.Proofs.YtlmfmmclnboglaaGreat
end
section
namespace Go.Proofs.YtlmfmmclnboglaaGreat
open Go Go.RowKit Go.Proofs.YtlmfmmclnboglaaGreat.Abs
set_option linter.all false
set_option maxRecDepth 100000
theorem Zw4 (s:N8)(hs:NK s):∀ p ∈ kinds s,p.2.length≤8796093022208:=by
 intro p hp
 simp only [kinds,List.mem_cons,List.not_mem_nil,or_false] at hp
 rcases hp with rfl | rfl | rfl | rfl | rfl | rfl | rfl | rfl | rfl | rfl
 ·exact hs.vars.1
 ·exact hs.res.1
 ·exact hs.stores.1
 ·exact hs.belts.1
 ·exact hs.queues.1
 ·exact hs.streams.1
 ·exact hs.tallies.1
 ·exact hs.levels.1
 ·exact hs.counts.1
 ·exact hs.routines.1
section
variable {C:Cfg}(hC:Xz C)
include hC
theorem Zs5 (K:FuncId→List AV→List Zt→KR)(hp0:List Zt)(m0:Mdl)(name:List UInt8)(hm:Zwd m0):∀ (r q:List N8) (m:Nat),m0.sites=q ++ r→r.length < m →
  Iq C.G K C.L hp0 (Rw C.G K C.L hp0) m (.str name) (.ptr hp0.length 0) (.int .i64 q.length) (.int .i64 q.length) (hp0 ++ [Zt.cells (ZgT m0) ZV]) none=some (.int .i64 (V8 (isN name) (r.map VS) q.length),hp0,none)
 | _,_,0,_,h=>by omega
 | [],q,m + 1,hs,_=>by
  have hlen:((m0.sites.map VS).length:Int)=q.length:=by rw [hs]; simp
  have lf:Ze (hp0 ++ [Zt.cells (ZgT m0) ZV]) (.ptr hp0.length (0 + 2))=some (.lst 13 (m0.sites.map VS)):=V7 (ZC _ _) 2
  simp only [Iq,Rw,Wh,Wd,We,Xb,ZN,ZM,Z5,Z4,Yj,Yi,Xa,Zk,Wl,ZO,ZP,Yf,YQ,YS,YP,YR,YO,YT,Yk,Wm,Wt,Wn,Wp,Wj,Wu,Wq,Wo,Ws,Xi,ZQ,Yh,YU,YZ,YV,YX,Yx,YY,YW,Xe,QS,QY,QV,GY,Hf,He,Hd,Ha,GZ,Hl,Hm,Xf,Xh,Wi,Xg,Hg,QU,QX,QT,QW,Option.map_some,Xk,Xj,Xd,Xc,QZ,Xl,Zr,ZI,Yb,Ye,Yc,Yd,Ya,ZJ,ZL,Z0,ZK,YJ,YI,Yg,lf,hlen,Int.lt_irrefl,decide_false,Bool.false_eq_true,if_false,V8,List.map_nil]
 | x :: r,q,m + 1,hs,hlm=>by
  have hlen:((m0.sites.map VS).length:Int)=q.length + (r.length + 1):=by rw [hs]; simp
  have hlt:(q.length:Int) < q.length + (r.length + 1):=by omega
  have hql:q.length + (r.length + 1)≤8796093022208:=by have:=hm.sites; rw [hs] at this; simpa using this
  have hg:(m0.sites.map VS)[q.length]? = some (VS x):=by rw [hs]; simp
  have lf:Ze (hp0 ++ [Zt.cells (ZgT m0) ZV]) (.ptr hp0.length (0 + 2))=some (.lst 13 (m0.sites.map VS)):=V7 (ZC _ _) 2
  have l0:∀ H,Ze H (.ref ((VS x).drop 0))=some (.str x.name):=fun H=>rfl
  have ih:=Zs5 K hp0 m0 name hm r (q ++ [x]) m (by rw [hs]; simp) (by simpa using hlm)
  simp only [List.length_append,List.length_cons,List.length_nil,Nat.zero_add] at ih
  have hwr:=Uo q.length (by omega)
  have hpx:isN name (VS x)=decide (x.name=name):=rfl
  simp only [Iq,Wh,Wd,We,Xb,ZN,ZM,Z5,Z4,Yj,Yi,Xa,Zk,Wl,ZO,ZP,Yf,YQ,YS,YP,YR,YO,YT,Yk,Wm,Wt,Wn,Wp,Wj,Wu,Wq,Wo,Ws,Xi,ZQ,Yh,YU,YZ,YV,YX,Yx,YY,YW,Xe,QS,QY,QV,GY,Hf,He,Hd,Ha,GZ,Hl,Hm,Xf,Xh,Wi,Xg,Hg,QU,QX,QT,QW,Option.map_some,Xk,Xj,Xd,Xc,QZ,Xl,Zr,ZI,Yb,Ye,Yc,Yd,Ya,ZJ,ZL,Z0,ZK,YJ,YI,Yg,lf,hlen,hlt,decide_true,if_true,Yp,hg,l0,V8,hpx,List.map_cons]
  by_cases h1:x.name=name
  ·simp only [h1,decide_true,beq_self_eq_true,if_true,Wh,Wd,We,Xb,ZN,ZM,Z5,Z4,Yj,Yi,Xa,Zk,Wl,ZO,ZP,Yf,YQ,YS,YP,YR,YO,YT,Yk,Wm,Wt,Wn,Wp,Wj,Wu,Wq,Wo,Ws,Xi,ZQ,Yh,YU,YZ,YV,YX,Yx,YY,YW,Xe,QS,QY,QV,GY,Hf,He,Hd,Ha,GZ,Hl,Hm,Xf,Xh,Wi,Xg,Hg,QU,QX,QT,QW,Option.map_some,Xk,Xj,Xd,Xc,QZ,Xl,Zr,ZI,Yb,Ye,Yc,Yd,Ya,ZJ,ZL,Z0,ZK,YJ,YI,Yg]
  ·have hb:(x.name == name)=false:=by simpa using h1
   simp only [h1,hb,decide_false,Bool.false_eq_true,if_false,hwr,Wh,Wd,We,Xb,ZN,ZM,Z5,Z4,Yj,Yi,Xa,Zk,Wl,ZO,ZP,Yf,YQ,YS,YP,YR,YO,YT,Yk,Wm,Wt,Wn,Wp,Wj,Wu,Wq,Wo,Ws,Xi,ZQ,Yh,YU,YZ,YV,YX,Yx,YY,YW,Xe,QS,QY,QV,GY,Hf,He,Hd,Ha,GZ,Hl,Hm,Xf,Xh,Wi,Xg,Hg,QU,QX,QT,QW,Option.map_some,Xk,Xj,Xd,Xc,QZ,Xl,Zr,ZI,Yb,Ye,Yc,Yd,Ya,ZJ,ZL,Z0,ZK,YJ,YI,Yg,ih]
theorem Z1g (n:Nat)(hp:List Zt)(m:Mdl)(name:List UInt8)(hm:Zwd m):Zc C (n + 1) Po [.agg (ZgT m),.str name] hp=some (.int .i64 (Z0p name m),hp,none):=by
 refine Zts (by rw [hC.T]; rfl) ?_
 simp only [ZiD,Wh,Wd,We,Xb,ZN,ZM,Z5,Z4,Yj,Yi,Xa,Zk,Wl,ZO,ZP,Yf,YQ,YS,YP,YR,YO,YT,Yk,Wm,Wt,Wn,Wp,Wj,Wu,Wq,Wo,Ws,Xi,ZQ,Yh,YU,YZ,YV,YX,Yx,YY,YW,Xe,QS,QY,QV,GY,Hf,He,Hd,Ha,GZ,Hl,Hm,Xf,Xh,Wi,Xg,Hg,QU,QX,QT,QW,Option.map_some,Xk,Xj,Xd,Xc,QZ,Xl,Zr,ZI,Yb,Ye,Yc,Yd,Ya,ZJ,ZL,Z0,ZK,YJ,YI,Yg,Bg 4 (ZgT m) rfl]
 exact Zs5 hC (Zc C n) hp m name hm m.sites [] C.L rfl (by have:=hC.L; have:=hm.sites; omega)
theorem Zum (n:Nat)(hp:List Zt)(s:N8)(name:List UInt8)(hs:NK s)(p:List UInt8×List (List AV))(hp':p ∈ kinds s):Zc C (n + 1) Tw [.lst 1 (p.2.map nm1),.str name] hp=some (.int .i64 (V8 (isN name) p.2 0),hp,none):=by
 have hf:=ZqI hC n hp name (p.2.map nm1) (by have:=Zw4 s hs p hp'; simp; omega) (fun r hr=>by obtain ⟨x,_,rfl⟩:=List.mem_map.1 hr; rfl)
 rw [ZqP] at hf
 exact hf
theorem Zs3 (n:Nat)(hp0 hp:List Zt)(s:N8)(name:List UInt8)(hs:NK s):∀ (r q:List (List UInt8×List (List AV))) (m:Nat),kinds s=q ++ r→r.length < m →
  Ip C.G (Zc C (n + 1)) C.L hp0 (Rv C.G (Zc C (n + 1)) C.L hp0) m (.str name) (.lst 1 ((Di s).map fun l=>[.lst 1 l])) (.lst 1 ((kinds s).map fun p=>[.str p.1])) (.int .i64 q.length) hp none=some (.str (Oq name r).1,hp0,none)
 | _,_,0,_,h=>by omega
 | [],q,m + 1,hq,_=>by
  have hlen:(((Di s).map fun l=>[AV.lst 1 l]).length:Int)=q.length:=by simp only [Di,hq]; simp
  simp only [Ip,Rv,Wh,Wd,We,Xb,ZN,ZM,Z5,Z4,Yj,Yi,Xa,Zk,Wl,ZO,ZP,Yf,YQ,YS,YP,YR,YO,YT,Yk,Wm,Wt,Wn,Wp,Wj,Wu,Wq,Wo,Ws,Xi,ZQ,Yh,YU,YZ,YV,YX,Yx,YY,YW,Xe,QS,QY,QV,GY,Hf,He,Hd,Ha,GZ,Hl,Hm,Xf,Xh,Wi,Xg,Hg,QU,QX,QT,QW,Option.map_some,Xk,Xj,Xd,Xc,QZ,Xl,Zr,ZI,Yb,Ye,Yc,Yd,Ya,ZJ,ZL,Z0,ZK,YJ,YI,Yg,hlen,Int.lt_irrefl,decide_false,Bool.false_eq_true,if_false,Oq]
 | x :: r,q,m + 1,hq,hlm=>by
  have hlen:(((Di s).map fun l=>[AV.lst 1 l]).length:Int)=q.length + (r.length + 1):=by simp only [Di,hq]; simp
  have hlt:(q.length:Int) < q.length + (r.length + 1):=by omega
  have hql:q.length + (r.length + 1)=10:=by have:(kinds s).length=10:=rfl; rw [hq] at this; simpa using this
  have hg:((Di s).map fun l=>[AV.lst 1 l])[q.length]? = some [.lst 1 (x.2.map nm1)]:=by simp only [Di,hq]; simp
  have hw:((kinds s).map fun p=>[AV.str p.1])[q.length]? = some [.str x.1]:=by simp only [hq]; simp
  have hf:=Zum hC n hp s name hs x (by rw [hq]; simp)
  have ih:=Zs3 n hp0 hp s name hs r (q ++ [x]) m (by rw [hq]; simp) (by simpa using hlm)
  simp only [List.length_append,List.length_cons,List.length_nil,Nat.zero_add] at ih
  have hwr:=Uo q.length (by omega)
  have l0:∀ v:AV,Ze hp (.ref [v])=some v.ro:=fun v=>rfl
  simp only [Ip,Wh,Wd,We,Xb,ZN,ZM,Z5,Z4,Yj,Yi,Xa,Zk,Wl,ZO,ZP,Yf,YQ,YS,YP,YR,YO,YT,Yk,Wm,Wt,Wn,Wp,Wj,Wu,Wq,Wo,Ws,Xi,ZQ,Yh,YU,YZ,YV,YX,Yx,YY,YW,Xe,QS,QY,QV,GY,Hf,He,Hd,Ha,GZ,Hl,Hm,Xf,Xh,Wi,Xg,Hg,QU,QX,QT,QW,Option.map_some,Xk,Xj,Xd,Xc,QZ,Xl,Zr,ZI,Yb,Ye,Yc,Yd,Ya,ZJ,ZL,Z0,ZK,YJ,YI,Yg,hlen,hlt,decide_true,if_true,Yp,hg,l0,hf]
  by_cases h1:0≤V8 (isN name) x.2 0
  ·simp only [h1,ge_iff_le,decide_true,if_true,Wh,Wd,We,Xb,ZN,ZM,Z5,Z4,Yj,Yi,Xa,Zk,Wl,ZO,ZP,Yf,YQ,YS,YP,YR,YO,YT,Yk,Wm,Wt,Wn,Wp,Wj,Wu,Wq,Wo,Ws,Xi,ZQ,Yh,YU,YZ,YV,YX,Yx,YY,YW,Xe,QS,QY,QV,GY,Hf,He,Hd,Ha,GZ,Hl,Hm,Xf,Xh,Wi,Xg,Hg,QU,QX,QT,QW,Option.map_some,Xk,Xj,Xd,Xc,QZ,Xl,Zr,ZI,Yb,Ye,Yc,Yd,Ya,ZJ,ZL,Z0,ZK,YJ,YI,Yg,Yp,hw,l0,Oq]
  ·simp only [h1,ge_iff_le,decide_false,Bool.false_eq_true,if_false,hwr,Wh,Wd,We,Xb,ZN,ZM,Z5,Z4,Yj,Yi,Xa,Zk,Wl,ZO,ZP,Yf,YQ,YS,YP,YR,YO,YT,Yk,Wm,Wt,Wn,Wp,Wj,Wu,Wq,Wo,Ws,Xi,ZQ,Yh,YU,YZ,YV,YX,Yx,YY,YW,Xe,QS,QY,QV,GY,Hf,He,Hd,Ha,GZ,Hl,Hm,Xf,Xh,Wi,Xg,Hg,QU,QX,QT,QW,Option.map_some,Xk,Xj,Xd,Xc,QZ,Xl,Zr,ZI,Yb,Ye,Yc,Yd,Ya,ZJ,ZL,Z0,ZK,YJ,YI,Yg,Oq]
   exact ih
theorem Z1f (n:Nat)(hp:List Zt)(s:N8)(name:List UInt8)(hs:NK s):Zc C (n + 2) ZbZ [.agg (VS s),.str name] hp=some (.str (Oq name (kinds s)).1,hp,none):=by
 refine Ztr (by rw [hC.T]; rfl) ?_
 have la:Zp (hp ++ [Zt.cells (VS s) Zf]) 13 (.ptr hp.length 0)=some (.agg (VS s)):=ZvC 13 hp _ _ 0 (by simp [VS])
 have hn:=ZqB hC n (hp ++ [Zt.cells (VS s) Zf]) s hs
 have hl:ZbM QG 1 [(.str [118,97,114]),(.str [114,101,115,111,117,114,99,101]),(.str [115,116,111,114,101]),(.str [98,101,108,116]),(.str [113,117,101,117,101]),(.str [115,116,114,101,97,109]),(.str [116,97,108,108,121]),(.str [108,101,118,101,108]),(.str [99,111,117,110,116]),(.str [114,111,117,116,105,110,101])] (hp ++ [Zt.cells (VS s) Zf])=some (.own 1 ((kinds s).map fun p=>[.str p.1]),hp ++ [Zt.cells (VS s) Zf]):=rfl
 have h:=Zs3 hC n hp (hp ++ [Zt.cells (VS s) Zf]) s name hs (kinds s) [] C.L rfl (by have:=hC.L; have:(kinds s).length=10:=rfl; omega)
 simp only [Ziw,Wh,Wd,We,Xb,ZN,ZM,Z5,Z4,Yj,Yi,Xa,Zk,Wl,ZO,ZP,Yf,YQ,YS,YP,YR,YO,YT,Yk,Wm,Wt,Wn,Wp,Wj,Wu,Wq,Wo,Ws,Xi,ZQ,Yh,YU,YZ,YV,YX,Yx,YY,YW,Xe,QS,QY,QV,GY,Hf,He,Hd,Ha,GZ,Hl,Hm,Xf,Xh,Wi,Xg,Hg,QU,QX,QT,QW,Option.map_some,Xk,Xj,Xd,Xc,QZ,Xl,Zr,ZI,Yb,Ye,Yc,Yd,Ya,ZJ,ZL,Z0,ZK,YJ,YI,Yg,Bg 13 (VS s) rfl,la,hn,hl]
 exact h
end
end Go.Proofs.YtlmfmmclnboglaaGreat
end
section
namespace Go.Proofs.YtlmfmmclnboglaaGreat
open Go Go.RowKit Go.Proofs.YtlmfmmclnboglaaGreat.Abs
set_option linter.all false
set_option maxRecDepth 100000
theorem Yl.st {d:Zi}(h:Yl d):d.Streams.length≤4611686018427387∧d.Counts.length≤4611686018427387∧d.Stores.length≤4611686018427387∧d.Routines.length≤4611686018427387:=by
 have:=h.Streams.1; have:=h.Counts.1; have:=h.Stores.1; have:=h.Routines.1; omega
def Zv8 (d:Zi)(f:Zag):Int :=
 if (decide (f.Stream=[]) && (!(Cy f.Up) || !(Cy f.Down)))=true then 1 else if decide (f.Stream=[])=true then 0 else if (!(d.Streams.contains f.Stream))=true then 5 else if decide (Zb5 f.Up≠0)=true then Zb5 f.Up else Zb5 f.Down
def Z3t (s:Zi)(d:ZY):Int :=
 if decide (Qe (Qu (btw d.Units 0 1000) 2) (Zy5 d)≠0)=true then Qe (Qu (btw d.Units 0 1000) 2) (Zy5 d)
 else if decide (d.Fault.Stream=[])=true then Qu (Cy d.Fault.Up && Cy d.Fault.Down) 1
 else if (!(s.Streams.contains d.Fault.Stream))=true then 5 else Qe (Zb5 d.Fault.Up) (Zb5 d.Fault.Down)
def Zxa (s:Zi)(d:ZY):Int:=if (!(btw d.Units 0 1000))=true then 2 else if decide (Zy5 d≠0)=true then Zy5 d else Zv8 s d.Fault
theorem Z2a (s:Zi)(d:ZY):Z3t s d=Zxa s d:=by
 unfold Z3t Zxa Zv8 Qe Qu
 cases btw d.Units 0 1000 <;> by_cases h1:Zy5 d=0 <;> by_cases h2:d.Fault.Stream=[] <;> cases Cy d.Fault.Up <;> cases Cy d.Fault.Down <;> cases s.Streams.contains d.Fault.Stream <;> simp [h1,h2]
theorem Zt1:(∀ x,((Zu x).drop 5).take 6=Kk x.Fault.Up)∧(∀ x,((Zu x).drop 11).take 6=Kk x.Fault.Down):=⟨fun _=>rfl,fun _=>rfl⟩
theorem Zk5 {C:Cfg}(hC:Xz C)(N:Nat)(hN:6≤N)(hp:HP)(d:Zi)(f:Zag)(hd:Yl d)(hf:ZtP f):Zc C N Dp [.agg (Zj d),.agg (TR f)] hp=some (.int .i64 (Zv8 d f),hp,none):=by
 obtain ⟨m,rfl⟩:∃ m,N=m + 1:=⟨N - 1,by omega⟩
 have q0:=Cr hC m (by omega)
 have q1:=KJ hC m (by omega)
 have q2:=Zjx hC m (by omega)
 refine ZgQ (by rw [hC.T]; rfl) ?_
 generalize Zc C m=K at *
 simp only [DF,EV,LD,BL,IFJ,Nat.reduceAdd,Nat.reduceLeDiff,Nat.reduceBEq,GI,q0,q1,q2,hd.st,hf.Up,hf.Down,hf.Stream,ZB,ZvQ,TV,LDP,ZyJ,Zv8]
theorem Zoy {C:Cfg}(hC:Xz C)(N:Nat)(hN:4≤N)(hp:HP)(s:Zi)(d:ZY)(hs:Yl s)(hd:V9 d):Zc C N Si [.agg (Zj s),.agg (Zu d)] hp=some (.int .i64 (Z3t s d),hp,none):=by
 obtain ⟨m,rfl⟩:∃ m,N=m + 1:=⟨N - 1,by omega⟩
 have q0:=Ti hC m (by omega)
 have q1:=Uz hC m (by omega)
 have q2:=Zow hC m (by omega)
 have q3:=Gp hC m (by omega)
 have q4:=ZbE hC m (by omega)
 have q5:=Zp3 hC m (by omega)
 have q6:=Zmi hC m (by omega)
 refine ZkY (by rw [hC.T]; rfl) ?_
 generalize Zc C m=K at *
 simp only [Ez,EV,LD,BL,IFJ,Nat.reduceAdd,Nat.reduceLeDiff,Nat.reduceBEq,GI,q0,q1,q2,q3,q4,q5,q6,hs.st,hd,hd.Fault.Up,hd.Fault.Down,ZB,Qg,Zt1,TV,LDP,ZyJ,Z2e,Z3t,QC,Zv4]
def Zpg (t:MZ)(found:Bool):Int:=if (!found)=true then 5 else if (!(btw t.Coef (-1000) 1000) || decide (t.Coef=0))=true then 2 else 0
def ZrH (d:Zi)(t:MZ):Int:=if decide (t.What=[99,114,101,97,116,101,100])=true then Zpg t ((d.Routines.map (·.Name)).contains t.Name) else if decide (t.What=[101,110,100,101,100])=true then Zpg t ((d.Routines.map (·.Name)).contains t.Name) else if decide (t.What=[105,110,115,105,100,101])=true then Zpg t ((d.Routines.map (·.Name)).contains t.Name) else if decide (t.What=[115,116,111,114,101,100])=true then Zpg t ((d.Stores.map (·.Name)).contains t.Name) else if decide (t.What=[101,110,116,101,114,101,100])=true then Zpg t ((d.Stores.map (·.Name)).contains t.Name) else if decide (t.What=[108,101,102,116])=true then Zpg t ((d.Stores.map (·.Name)).contains t.Name) else if decide (t.What=[99,111,117,110,116,101,100])=true then Zpg t (d.Counts.contains t.Name) else 1
def Z1n (t:MZ):List UInt8:=if decide (t.What=[99,114,101,97,116,101,100])=true then [114,111,117,116,105,110,101] else if decide (t.What=[101,110,100,101,100])=true then [114,111,117,116,105,110,101] else if decide (t.What=[105,110,115,105,100,101])=true then [114,111,117,116,105,110,101] else if decide (t.What=[115,116,111,114,101,100])=true then [115,116,111,114,101] else if decide (t.What=[101,110,116,101,114,101,100])=true then [115,116,111,114,101] else if decide (t.What=[108,101,102,116])=true then [115,116,111,114,101] else if decide (t.What=[99,111,117,110,116,101,100])=true then [99,111,117,110,116] else []
def ZjB (d:Zi)(t:MZ)(k:List UInt8):Int :=
 Qe (Qe (Qu (decide (k≠[])) 1) (Qu (decide ((Oq t.Name (kinds (ZpS d))).1=k)) 5)) (Qu (btw t.Coef (-1000) 1000 && decide (t.Coef≠0)) 2)
def Zc0 (d:Zi)(t:MZ):Int:=ZjB d t (Z1n t)
theorem Zou {C:Cfg}(hC:Xz C)(N:Nat)(hN:1≤N)(hp:HP)(x:Q6)(t:MZ)(g:Nat)(tg:TypeId)(hg:hp[g]? = some (.cells (Ot t) tg)):Zc C N TZ [.agg (Yo x),.ptr g 0] hp=some (.bool (decide (x.Name=t.Name)),hp,none):=by
 obtain ⟨m,rfl⟩:∃ m,N=m + 1:=⟨N - 1,by omega⟩
 refine ZkM (by rw [hC.T]; rfl) ?_
 simp only [Ew,CO,Nat.reduceAdd,Nat.reduceLeDiff,Nat.reduceBEq,List.length_cons,List.length_nil,LG hg,LC,Zfv]
theorem ZlW {C:Cfg}(hC:Xz C)(N:Nat)(hN:3≤N)(hp:HP)(d:Zi)(hd:Yl d)(t:MZ)(g:Nat)(tg:TypeId)(hg:hp[g]? = some (.cells (Ot t) tg)):Zc C N Qp [.lst 3 (d.Stores.map Yo),.fn TZ [] [.ptr g 0]] hp=some (.bool ((d.Stores.map (·.Name)).contains t.Name),hp,none):=by
 obtain ⟨m,rfl⟩:∃ m,N=m + 3:=⟨N - 3,by omega⟩
 have q:=Lm hC (m + 1) hp TZ [.ptr g 0] (isN t.Name) (d.Stores.map Yo) (by simpa using hd.st.2.2.1) (fun r hr=>by obtain ⟨x,_,rfl⟩:=List.mem_map.1 hr; exact ⟨ED x,Pj x⟩) (fun r hr=>by
  obtain ⟨x,_,rfl⟩:=List.mem_map.1 hr
  exact Zou hC (m + 1) (by omega) hp x t g tg hg)
 refine Un (by rw [hC.T]; rfl) ?_
 simp only [Qs,EV,q,Zcf (row := Yo) (nm := fun x:Q6=>x.Name) (fun _=>rfl)]
theorem Zsz {C:Cfg}(hC:Xz C)(N:Nat)(hN:4≤N)(hp:HP)(d:Zi)(t:MZ)(hd:Yl d):Zc C N Zac [.agg (Zj d),.agg (Ot t)] hp=some (.int .i64 (ZrH d t),hp,none):=by
 obtain ⟨m,rfl⟩:∃ m,N=m + 1:=⟨N - 1,by omega⟩
 have q1:=Uy hC m (by omega)
 have q2:=ZbC hC m (by omega)
 have q3:=KJ hC m (by omega)
 have q4:=ZlW hC m (by omega) (hp ++ [.cells (Zj d) Zf] ++ [.cells (Ot t) I7]) d hd t (hp ++ [Zt.cells (Zj d) Zf]).length I7 (ZC _ _)
 refine Zo7 (by rw [hC.T]; rfl) ?_
 simp only [Zbt,OX,OY,VF,CO,Nat.reduceAdd,Nat.reduceLeDiff,Nat.reduceBEq,List.length_cons,List.length_nil,ZB,Zfv,q1,q2,q3,q4,hd,hd.st,Z3K,ZrH,Zpg]
theorem Zwu {C:Cfg}(hC:Xz C)(N:Nat)(hN:2≤N)(hp:HP)(d:Zi)(s:List UInt8)(hd:Yl d):Zc C N ZbZ [.agg (Zj d),.str s] hp=some (.str (Oq s (kinds (ZpS d))).1,hp,none):=by
 obtain ⟨m,rfl⟩:∃ m,N=m + 2:=⟨N - 2,by omega⟩
 exact Z1f hC m hp (ZpS d) s (Zno hd)
theorem ttR (d:Zi)(t:MZ)(c:Prop)[Decidable c](a b:List UInt8):(if c then ZjB d t a else ZjB d t b)=ZjB d t (if c then a else b):=by split <;> rfl
theorem Zwx {C:Cfg}(hC:Xz C)(N:Nat)(hN:3≤N)(hp:HP)(d:Zi)(t:MZ)(hd:Yl d):Zc C N Zcb [.agg (Zj d),.agg (Ot t)] hp=some (.int .i64 (Zc0 d t),hp,none):=by
 obtain ⟨m,rfl⟩:∃ m,N=m + 1:=⟨N - 1,by omega⟩
 have q1:=Ti hC m (by omega)
 have q2:=Zwu hC m (by omega)
 have q3:=Uz hC m (by omega)
 have q4:=Gp hC m (by omega)
 refine Ztu (by rw [hC.T]; rfl) ?_
 have j:∀ k,Xw C.G (Zc C m) C.L hp (.ptr hp.length 0) (.ptr (hp ++ [Zt.cells (Zj d) Zf]).length 0) (.str k) (hp ++ [.cells (Zj d) Zf] ++ [.cells (Ot t) I7]) none=some (.int .i64 (ZjB d t k),hp,none):=fun k=>by
  simp only [Xw,CO,Nat.reduceAdd,Nat.reduceLeDiff,Nat.reduceBEq,List.length_cons,List.length_nil,ZB,Zfv,q1,q2,q3,q4,hd,ZjB]
 simp only [ZiQ,Rz,CO,Nat.reduceAdd,Nat.reduceLeDiff,Nat.reduceBEq,List.length_cons,List.length_nil,ZB,Zfv,j,ttR,Zc0,Z1n]
def ZpT (s:G8):Int:=if (!(btw s.At_ 0 1000000000) || !(btw s.Every 0 1000000000) || !(btw s.Until 0 1000000000) || (decide (s.Every=0) && decide (s.Until≠0)))=true then 2 else 0
def ZyA (s:G8):Int:=Qu (btw s.At_ 0 1000000000 && btw s.Every 0 1000000000 && btw s.Until 0 1000000000 && (decide (s.Every≠0) || decide (s.Until=0))) 2
theorem ZyB (s:G8):ZyA s=ZpT s:=by
 unfold ZpT ZyA Qu
 cases btw s.At_ 0 1000000000 <;> cases btw s.Every 0 1000000000 <;> cases btw s.Until 0 1000000000 <;> by_cases h1:s.Every=0 <;> by_cases h2:s.Until=0 <;> simp [h1,h2]
def ZrW (tl:Int):List Ov→List Int→Int
 | p :: ps,a :: ys=>if (!(ZkB p.Ty a))=true then 2 else ZrW tl ps ys
 | _,_=>tl
def MK (d:Zi)(s:G8):Int :=
 match d.Routines.find? (fun r=>decide (r.Name=s.Routine)) with
 | none=>5
 | some r=>if decide ((s.Args.length:Int)≠(r.Params.length:Int))=true then 8 else ZrW (ZpT s) r.Params s.Args
theorem Sj.a {s:G8}(h:Sj s):s.Args.length≤4611686018427387:=by have:=h.Args.1; omega
theorem P6.p {r:QI}(h:P6 r):r.Params.length≤4611686018427387∧r.Locals.length≤4611686018427387∧ZrR r.Body:=by
 have:=h.Params.1; have:=h.Locals.1; have:=h.Body
 exact ⟨by omega,by omega,by omega,this.2⟩
theorem Ct {C:Cfg}(K:KT)(hp0 hp:HP)(s:G8)(hs:Sj s)(ps:List Ov)(hps:ps.length≤4611686018427387)(g:Nat)(tg:TypeId)(hg:hp[g]? = some (.cells (Vr s) tg))(hW:∀ hp x lo hi,K Ql [.int .i64 x,.int .i64 lo,.int .i64 hi] hp=some (.bool (btw x lo hi),hp,none))(hF:∀ hp x n,K BV [.int .i64 x,.int .i64 n] hp=some (.bool (ZkB x n),hp,none)):∀ (r1 q1:List Ov) (r2 q2:List Int) (m:Nat),ps=q1 ++ r1→s.Args=q2 ++ r2→q1.length=q2.length→r1.length=r2.length→r1.length < m →
  JQ C.G K C.L hp0 (II C.G K C.L hp0) m (.ptr g 0) (.lst 2 (ps.map Vg)) (.lst 1 (ints s.Args)) (.int .i64 (s.Args.length:Int)) (.int .i64 (q1.length:Int)) hp none=some (.int .i64 (ZrW (ZpT s) r1 r2),hp0,none)
 | _,_,_,_,0,_,_,_,_,h=>by omega
 | [],q1,[],q2,m + 1,h1,h2,hq,_,_=>by
  have l0:=lp0 h1
  have l1:=lp0 h2
  rw [← hq] at l1
  simp only [JQ,II,CO,Nat.reduceAdd,Nat.reduceLeDiff,Nat.reduceBEq,List.length_cons,List.length_nil,LG hg,O4,l0,l1,hW,ZrW,ZpT]
  try rfl
 | [],q1,y :: r2,q2,m + 1,_,_,_,h,_=>by simp at h
 | x :: r1,q1,[],q2,m + 1,_,_,_,h,_=>by simp at h
 | x :: r1,q1,y :: r2,q2,m + 1,h1,h2,hq,hr,hm=>by
  obtain ⟨a1,a2,a3,a4,_⟩:=lp Vg h1 hps
  obtain ⟨b1,b2,_,b4,_⟩:=lp (fun x=>[.int .i64 x]) h2 hs.a
  rw [← hq] at b1 b2
  have g2:(ints s.Args)[q1.length]? = some [.int .i64 y]:=b2
  have ih:=Ct (C := C) K hp0 hp s hs ps hps g tg hg hW hF r1 (q1 ++ [x]) r2 (q2 ++ [y]) m a4 b4 (by simp [hq]) (by simpa using hr) (by simpa using hm)
  simp only [JQ,CO,Nat.reduceAdd,Nat.reduceLeDiff,Nat.reduceBEq,List.length_cons,List.length_nil,LG hg,O4,FK,a1,a2,a3,b1,Yp,g2,hF,ih,ZrW]
theorem ZqA {C:Cfg}(hC:Xz C)(N:Nat)(hN:5≤N)(hp:HP)(d:Zi)(s:G8)(hd:Yl d)(hs:Sj s):Zc C N Av [.agg (Zj d),.agg (Vr s)] hp=some (.int .i64 (MK d s),hp,none):=by
 obtain ⟨m,rfl⟩:∃ m,N=m + 1:=⟨N - 1,by omega⟩
 have q1:=Uy hC m (by omega)
 have q2:=Zj0 hC m (by omega)
 have q3:=ZbC hC m (by omega)
 skip
 refine ZmC (by rw [hC.T]; rfl) ?_
 rcases Zmt (row := Yr) (nm := fun x:QI=>x.Name) (fun _=>rfl) s.Routine d.Routines 0 with ⟨h1,h2⟩ | ⟨k,r,h1,h2,h3⟩
 ·simp only [Ro,CO,Nat.reduceAdd,Nat.reduceLeDiff,Nat.reduceBEq,List.length_cons,List.length_nil,ZB,O4,q3,hd,h2,MK,h1]
  rfl
 ·have hr:=hd.Routines.2 r (List.mem_of_getElem? h2)
  rw [Nat.zero_add] at h1
  have h4:decide (((k:Nat):Int) < 0)=false:=by simp only [decide_eq_false_iff_not]; omega
  have h5:(d.Routines.map Yr)[k]? = some (Yr r):=by rw [List.getElem?_map,h2]; rfl
  by_cases hlen:s.Args.length=r.Params.length
  ·have h:=Ct (C := C) (Zc C m) hp (hp ++ [.cells (Zj d) Zf] ++ [.cells (Vr s) U0]) s hs r.Params hr.p.1 (hp ++ [Zt.cells (Zj d) Zf]).length U0 (ZC _ _) q1 q2 r.Params [] s.Args [] C.L rfl rfl rfl hlen.symm (by have:=hC.L; have:=hr.p.1; omega)
   simp only [List.length_nil,Int.natCast_zero] at h
   have h6:decide ((s.Args.length:Int)≠(r.Params.length:Int))=false:=by simp only [decide_eq_false_iff_not]; omega
   simp only [Ro,CO,Nat.reduceAdd,Nat.reduceLeDiff,Nat.reduceBEq,List.length_cons,List.length_nil,ZB,O4,Jk,VI,q3,hd,h1,h4,Yp,h5,h6,h,MK,h3]
  ·have h6:decide ((s.Args.length:Int)≠(r.Params.length:Int))=true:=by simp only [decide_eq_true_eq]; omega
   simp only [Ro,CO,Nat.reduceAdd,Nat.reduceLeDiff,Nat.reduceBEq,List.length_cons,List.length_nil,ZB,O4,Jk,VI,q3,hd,h1,h4,Yp,h5,h6,MK,h3]
theorem Zd0 {C:Cfg}(K:KT)(hp0 hp:HP)(s:G8)(hs:Sj s)(ps:List Ov)(hps:ps.length≤4611686018427387)(g:Nat)(tg:TypeId)(hg:hp[g]? = some (.cells (Vr s) tg))(hW:∀ hp x lo hi,K QN [.int .i64 x,.int .i64 lo,.int .i64 hi] hp=some (.bool (btw x lo hi),hp,none))(hF:∀ hp x n,K Pn [.int .i64 x,.int .i64 n] hp=some (.bool (ZkB x n),hp,none))(hU:∀ hp b e,K YH [.bool b,.int .i64 e] hp=some (.int .i64 (Qu b e),hp,none)):∀ (r1 q1:List Ov) (r2 q2:List Int) (m:Nat),ps=q1 ++ r1→s.Args=q2 ++ r2→q1.length=q2.length→r1.length=r2.length→r1.length < m →
  Gl C.G K C.L hp0 (M8 C.G K C.L hp0) m (.ptr g 0) (.lst 2 (ps.map Vg)) (.int .i64 (q1.length:Int)) hp none=some (.int .i64 (ZrW (ZpT s) r1 r2),hp0,none)
 | _,_,_,_,0,_,_,_,_,h=>by omega
 | [],q1,[],q2,m + 1,h1,h2,hq,_,_=>by
  have l0:=lp0 h1
  have l1:=lp0 h2
  rw [← hq] at l1
  simp only [Gl,M8,CO,Nat.reduceAdd,Nat.reduceLeDiff,Nat.reduceBEq,List.length_cons,List.length_nil,LG hg,O4,l0,l1,hW,hU,ZrW]
  rw [← ZyB]; rfl
 | [],q1,y :: r2,q2,m + 1,_,_,_,h,_=>by simp at h
 | x :: r1,q1,[],q2,m + 1,_,_,_,h,_=>by simp at h
 | x :: r1,q1,y :: r2,q2,m + 1,h1,h2,hq,hr,hm=>by
  obtain ⟨a1,a2,a3,a4,_⟩:=lp Vg h1 hps
  obtain ⟨b1,b2,_,b4,_⟩:=lp (fun x=>[.int .i64 x]) h2 hs.a
  rw [← hq] at b1 b2
  have g2:(ints s.Args)[q1.length]? = some [.int .i64 y]:=b2
  have ih:=Zd0 (C := C) K hp0 hp s hs ps hps g tg hg hW hF hU r1 (q1 ++ [x]) r2 (q2 ++ [y]) m a4 b4 (by simp [hq]) (by simpa using hr) (by simpa using hm)
  simp only [Gl,CO,Nat.reduceAdd,Nat.reduceLeDiff,Nat.reduceBEq,List.length_cons,List.length_nil,LG hg,O4,FK,a1,a2,a3,b1,Yp,g2,hF,ih,ZrW]
theorem Zuz {C:Cfg}(hC:Xz C)(N:Nat)(hN:5≤N)(hp:HP)(d:Zi)(s:G8)(hd:Yl d)(hs:Sj s):Zc C N A7 [.agg (Zj d),.agg (Vr s)] hp=some (.int .i64 (MK d s),hp,none):=by
 obtain ⟨m,rfl⟩:∃ m,N=m + 1:=⟨N - 1,by omega⟩
 have q1:=Ti hC m (by omega)
 have q2:=ZiY hC m (by omega)
 have q3:=ZqF hC m (by omega)
 have q4:=Uz hC m (by omega)
 refine Zr4 (by rw [hC.T]; rfl) ?_
 rcases Zmt (row := Yr) (nm := fun x:QI=>x.Name) (fun _=>rfl) s.Routine d.Routines 0 with ⟨h1,h2⟩ | ⟨k,r,h1,h2,h3⟩
 ·simp only [Nh,CO,Nat.reduceAdd,Nat.reduceLeDiff,Nat.reduceBEq,List.length_cons,List.length_nil,ZB,O4,q3,hd,h2,MK,h1]
  rfl
 ·have hr:=hd.Routines.2 r (List.mem_of_getElem? h2)
  rw [Nat.zero_add] at h1
  have h4:decide (((k:Nat):Int) < 0)=false:=by simp only [decide_eq_false_iff_not]; omega
  have h5:(d.Routines.map Yr)[k]? = some (Yr r):=by rw [List.getElem?_map,h2]; rfl
  by_cases hlen:s.Args.length=r.Params.length
  ·have h:=Zd0 (C := C) (Zc C m) hp (hp ++ [.cells (Zj d) Zf] ++ [.cells (Vr s) U0]) s hs r.Params hr.p.1 (hp ++ [Zt.cells (Zj d) Zf]).length U0 (ZC _ _) q1 q2 q4 r.Params [] s.Args [] C.L rfl rfl rfl hlen.symm (by have:=hC.L; have:=hr.p.1; omega)
   simp only [List.length_nil,Int.natCast_zero] at h
   have h6:decide ((s.Args.length:Int)≠(r.Params.length:Int))=false:=by simp only [decide_eq_false_iff_not]; omega
   simp only [Nh,CO,Nat.reduceAdd,Nat.reduceLeDiff,Nat.reduceBEq,List.length_cons,List.length_nil,ZB,O4,Jk,VI,q3,hd,h1,h4,Yp,h5,h6,h,MK,h3]
  ·have h6:decide ((s.Args.length:Int)≠(r.Params.length:Int))=true:=by simp only [decide_eq_true_eq]; omega
   simp only [Nh,CO,Nat.reduceAdd,Nat.reduceLeDiff,Nat.reduceBEq,List.length_cons,List.length_nil,ZB,O4,Jk,VI,q3,hd,h1,h4,Yp,h5,h6,MK,h3]
end Go.Proofs.YtlmfmmclnboglaaGreat
end
