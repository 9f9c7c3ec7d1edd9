import Derived.Deep.Slices
import Derived.ChangeArms
import Derived.DataReads
import Derived.WideKeyArgs
import Derived.SizedLaws
import Derived.Test.YtlmfmmclnboglaaGreatN3
set_option linter.all false
section
namespace Go.Proofs.YtlmfmmclnboglaaGreat.Abs
open Go
set_option linter.all false
theorem EV :
  (∀ {α β:Type} (x:α) (f:α→β),Option.map f (some x)=some (f x)) ∧
  (∀ {α:Type} (v:α) (k:α→KR),Zc (some v) k=k v) ∧
  (∀ {α β:Type} (a:α) (b:β) (k:α→β→KR),GQ (some (a,b)) k=k a b) ∧
  (∀ {α β γ:Type} (a:α) (b:β) (c:γ) (k:α→β→γ→KR),Qg (some (a,b,c)) k=k a b c) ∧
  (∀ (b:Bool) (x y:KR),ifK (.bool b) x y=if b=true then x else y) ∧
  (∀ (x:KR) (hp:List Zk) (ef:Eff) (k:AV→List Zk→Eff→KR),ZaL (some true) x hp ef k=Qg x k) ∧
  (∀ (x:KR) (hp:List Zk) (ef:Eff) (k:AV→List Zk→Eff→KR),ZaL (some false) x hp ef k=k .undef hp ef) ∧
  (∀ (b:Bool),ZaK true (.bool b)=some b) ∧
  (∀ (b:Bool),ZaK false (.bool b)=some (!b)) ∧
  (∀ (a b:AV),ZiC (.bool true) a b=some a) ∧
  (∀ (a b:AV),ZiC (.bool false) a b=some b) ∧
  (∀ (v:AV),gif true v=v) ∧
  (∀ (b:Bool) (v:AV) (hp:List Zk) (ef:Eff) (k:AV→List Zk→Eff→KR),ZaL (some b) (some (v,hp,ef)) hp ef k=k (gif b v) hp ef) ∧
  (∀ (b:Bool) (v:AV),AV.ro (gif b v)=gif b (AV.ro v)) ∧
  (∀ (b c:Bool),ZiC (.bool b) (gif b (.bool c)) (.bool false)=some (.bool (b && c))) ∧
  (∀ (b c:Bool),ZiC (.bool b) (.bool true) (gif (!b) (.bool c))=some (.bool (b || c))) ∧
  (∀ (b c:Bool) (hp:List Zk) (ef:Eff) (k:AV→List Zk→Eff→KR),Uq (.bool b) true (some (.bool c,hp,ef)) (some (.bool false)) hp ef k=k (.bool (b && c)) hp ef) ∧
  (∀ (b c:Bool) (hp:List Zk) (ef:Eff) (k:AV→List Zk→Eff→KR),Uq (.bool b) false (some (.bool c,hp,ef)) (some (.bool true)) hp ef k=k (.bool (b || c)) hp ef) ∧
  (∀ (x:KR) (o:Option AV) (hp:List Zk) (ef:Eff) (k:AV→List Zk→Eff→KR),Uq (.bool true) true x o hp ef k=Qg x k) ∧
  (∀ (x:KR) (v:AV) (hp:List Zk) (ef:Eff) (k:AV→List Zk→Eff→KR),Uq (.bool false) true x (some v) hp ef k=k v hp ef) ∧
  (∀ (x:KR) (v:AV) (hp:List Zk) (ef:Eff) (k:AV→List Zk→Eff→KR),Uq (.bool true) false x (some v) hp ef k=k v hp ef) ∧
  (∀ (x:KR) (o:Option AV) (hp:List Zk) (ef:Eff) (k:AV→List Zk→Eff→KR),Uq (.bool false) false x o hp ef k=Qg x k) ∧
  (∀ {α:Type} (x:α) (k:α→KR),JE x k=k x) ∧
  (∀ (b:Bool),AV.ro (.bool b)=.bool b) ∧
  (∀ (k:IntKind) (n:Int),AV.ro (.int k n)=.int k n) ∧
  (∀ (s:List UInt8),AV.ro (.str s)=.str s) ∧
  (∀ (k:Nat) (r:List (List AV)),AV.ro (.lst k r)=.lst k r) ∧
  (∀ (k:Nat) (r:List (List AV)),AV.ro (.own k r)=.lst k r) ∧
  (∀ (c:List AV),AV.ro (.agg c)=.agg c) ∧
  (∀ (c:List AV),AV.ro (.tup c)=.tup c) ∧
  (∀ (g o:Nat),AV.ro (.ptr g o)=.ptr g o) ∧
  (∀ (g:Nat),AV.ro (.map g)=.map g) ∧
  (∀ (c:List AV),AV.ro (.ref c)=.ref c) ∧
  (∀ (f:FuncId) (a c:List AV),AV.ro (.fn f a c)=.fn f a c) ∧
  (AV.ro .undef=.undef) ∧
  (∀ (b:Bool),AV.nm (.bool b)=.bool b) ∧
  (∀ (k:IntKind) (n:Int),AV.nm (.int k n)=.int k n) ∧
  (∀ (s:List UInt8),AV.nm (.str s)=.str s) ∧
  (∀ (k:Nat) (r:List (List AV)),AV.nm (.lst k r)=.lst k r) ∧
  (∀ (k:Nat) (r:List (List AV)),AV.nm (.own k r)=.lst k r) ∧
  (∀ (c:List AV),AV.nm (.agg c)=.agg (c.map AV.ro)) ∧
  (∀ (g o:Nat),AV.nm (.ptr g o)=.ptr g o) ∧
  (∀ (g:Nat),AV.nm (.map g)=.map g) ∧
  (∀ (f:FuncId) (a c:List AV),AV.nm (.fn f a c)=.fn f a c) ∧
  (∀ (k:IntKind) (a b:Int),Zd .add .prim (.int k a) (.int k b)=some (.int k (k.wrap (a + b)))) ∧
  (∀ (k:IntKind) (a b:Int),Zd .sub .prim (.int k a) (.int k b)=some (.int k (k.wrap (a - b)))) ∧
  (∀ (k:IntKind) (a b:Int),Zd .mul .prim (.int k a) (.int k b)=some (.int k (k.wrap (a * b)))) ∧
  (∀ (k:IntKind) (a b:Int),Zd .eql .prim (.int k a) (.int k b)=some (.bool (decide (a=b)))) ∧
  (∀ (k:IntKind) (a b:Int),Zd .neq .prim (.int k a) (.int k b)=some (.bool (decide (a≠b)))) ∧
  (∀ (k:IntKind) (a b:Int),Zd .lss .prim (.int k a) (.int k b)=some (.bool (decide (a < b)))) ∧
  (∀ (k:IntKind) (a b:Int),Zd .leq .prim (.int k a) (.int k b)=some (.bool (decide (a≤b)))) ∧
  (∀ (k:IntKind) (a b:Int),Zd .gtr .prim (.int k a) (.int k b)=some (.bool (decide (b < a)))) ∧
  (∀ (k:IntKind) (a b:Int),Zd .geq .prim (.int k a) (.int k b)=some (.bool (decide (b≤a)))) ∧
  (∀ (a b:List UInt8),Zd .eql .prim (.str a) (.str b)=some (.bool (decide (a=b)))) ∧
  (∀ (a b:List UInt8),Zd .neq .prim (.str a) (.str b)=some (.bool (decide (a≠b)))) ∧
  (∀ (ks:List CK) (k:IntKind) (x y:Int) (l m:List AV),VK (.int :: ks) (.int k x :: l) (.int k y :: m)=if x=y then VK ks l m else some false) ∧
  (∀ (ks:List CK) (x y:List UInt8) (l m:List AV),VK (.str :: ks) (.str x :: l) (.str y :: m)=if x=y then VK ks l m else some false) ∧
  (∀ (ks:List CK) (x y:Bool) (l m:List AV),VK (.bool :: ks) (.bool x :: l) (.bool y :: m)=if x=y then VK ks l m else some false) ∧
  (VK [] [] []=some true) ∧
  (∀ (p:Prop) [Decidable p] (b:Bool),(if p then some b else some false)=some (decide p && b)) ∧
  (∀ (ks:List CK) (a b:List AV),Zd .eql (.struct ks) (.agg a) (.agg b)=(VK ks a b).map .bool) ∧
  (∀ (ks:List CK) (a b:List AV),Zd .neq (.struct ks) (.agg a) (.agg b)=(VK ks a b).map fun b=>.bool (!b)) ∧
  (∀ (a b:Bool),Zd .eql .bool (.bool a) (.bool b)=some (.bool (a == b))) ∧
  (∀ (a b:Bool),Zd .neq .bool (.bool a) (.bool b)=some (.bool (!(a == b)))) ∧
  (∀ (b:Bool),JG .not (.bool b)=some (.bool (!b))) ∧
  (∀ (k:IntKind) (n:Int),JG .neg (.int k n)=some (.int k (k.wrap (0 - n)))) ∧
  (∀ (hp:List Zk) (s:List UInt8),Yy hp .str (.str s)=some (.int .i64 s.length)) ∧
  (∀ (hp:List Zk) (k:Nat) (r:List (List AV)),Yy hp .slice (.lst k r)=some (.int .i64 r.length)) ∧
  (∀ (hp:List Zk) (k k':IntKind) (n:Int),Dt hp (.int k) (.int k' n)=some (.int k (k.wrap n))) ∧
  (∀ (l:List AV) (i:Nat),Jk (.tup l) i=(l[i]?).map AV.ro) ∧
  (∀ (bs:Nat) (ef:Eff),Ze bs ef none=ef) ∧
  (∀ (hp0:List Zk) (b:Bool) (hp:List Zk),Z6 false hp0 (.bool b) hp none=(.bool b,hp0,none)) ∧
  (∀ (hp0:List Zk) (k:IntKind) (n:Int) (hp:List Zk),Z6 false hp0 (.int k n) hp none=(.int k n,hp0,none)) ∧
  (∀ (hp0:List Zk) (s:List UInt8) (hp:List Zk),Z6 false hp0 (.str s) hp none=(.str s,hp0,none)) ∧
  (∀ (hp0:List Zk) (k:Nat) (r:List (List AV)) (hp:List Zk),Z6 false hp0 (.lst k r) hp none=(.lst k r,hp0,none)) ∧
  (∀ (hp0:List Zk) (k:Nat) (r:List (List AV)) (hp:List Zk),Z6 false hp0 (.own k r) hp none=(.own k r,hp0,none)) ∧
  (∀ (bs:Nat) (hp:List Zk) (k:IntKind) (n:Int),ZdW bs hp (.int k n)=some (.int k n)) ∧
  (∀ (bs:Nat) (hp:List Zk) (s:List UInt8),ZdW bs hp (.str s)=some (.str s)) ∧
  (∀ (bs:Nat) (hp:List Zk) (b:Bool),ZdW bs hp (.bool b)=some (.bool b)) ∧
  (∀ (bs:Nat) (hp:List Zk) (k:Nat) (r:List (List AV)),ZdW bs hp (.lst k r)=some (.lst k r)) ∧
  (∀ (o:Nat) (c:List AV),Zp o (.ref c)=some (.ref (c.drop o))) ∧
  (∀ (o g p:Nat),Zp o (.ptr g p)=some (.ptr g (p + o))) ∧
  (∀ (hp:List Zk) (c:AV) (l:List AV),Zf hp (.ref (c :: l))=some c.ro) :=
 ⟨fun x f=>rfl,@Wm,@Wj,@Wl,@Xo,@ZN,@ZM,@Zz,@Zy,@Yq,@Yp,@Xn,@Zg,@Wq,@ZP,@ZQ,@Ym,@YU,@YW,@YT,@YV,@YS,@YX,@Yr,@Ws,@Wy,@Wt,@Wv,@Wp,@Wz,@Ww,@Wu,@Wx,@Xw,ZR,@Yo,@YY,@Wi,@YZ,@We,@Y4,@Wh,@Wd,@Xr,@Xe,@Xk,@Xh,@Gz,@G9,@G8,@G7,@G6,@G5,@GU,@GV,@Xt,@Xv,@Wo,Xu,@GR,@Xg,@Xj,@Xf,@Xi,@Xy,@Xx,@Xq,@Xp,@Xl,@Xz,@Zm,@ZI,@Yi,@Yl,@Yj,@Yk,@ZJ,@ZL,@Zx,@ZK,@YR,@YQ,@Yn⟩
theorem BL:(!true)=false∧(!false)=true∧(∀ b:Bool,(b && true)=b)∧(∀ b:Bool,(true && b)=b)∧(∀ b:Bool,(b && false)=false)∧(∀ b:Bool,(false && b)=false)∧(∀ b:Bool,(b || true)=true)∧(∀ b:Bool,(true || b)=true)∧(∀ b:Bool,(b || false)=b)∧(∀ b:Bool,(false || b)=b)∧(∀ b:Bool,(!!b)=b):=by
 refine ⟨rfl,rfl,?_,?_,?_,?_,?_,?_,?_,?_,?_⟩ <;> intro b <;> cases b <;> rfl
theorem ifI (c:Prop)[Decidable c](k:IntKind)(a b:Int)(hp:List Zk)(e:Eff):(if c then some (AV.int k a,hp,e) else some (AV.int k b,hp,e))=some (AV.int k (if c then a else b),hp,e):=by split <;> rfl
theorem ifB (c:Prop)[Decidable c](a b:Bool)(hp:List Zk)(e:Eff):(if c then some (AV.bool a,hp,e) else some (AV.bool b,hp,e))=some (AV.bool (if c then a else b),hp,e):=by split <;> rfl
theorem ifS (c:Prop)[Decidable c](a b:List UInt8)(hp:List Zk)(e:Eff):(if c then some (AV.str a,hp,e) else some (AV.str b,hp,e))=some (AV.str (if c then a else b),hp,e):=by split <;> rfl
theorem IFJ:(∀ (c:Prop) [Decidable c] (k:IntKind) (a b:Int) (hp:List Zk) (e:Eff),(if c then some (AV.int k a,hp,e) else some (AV.int k b,hp,e))=some (AV.int k (if c then a else b),hp,e)) ∧
  (∀ (c:Prop) [Decidable c] (a b:Bool) (hp:List Zk) (e:Eff),(if c then some (AV.bool a,hp,e) else some (AV.bool b,hp,e))=some (AV.bool (if c then a else b),hp,e)) ∧
  (∀ (c:Prop) [Decidable c] (a b:List UInt8) (hp:List Zk) (e:Eff),(if c then some (AV.str a,hp,e) else some (AV.str b,hp,e))=some (AV.str (if c then a else b),hp,e)) ∧
  (∀ {α:Type} (c:Prop) [Decidable c] (a b d:α),(if c then (if c then a else b) else d)=if c then a else d)∧(∀ {α:Type} (c:Prop) [Decidable c] (a b d:α),(if c then a else (if c then b else d))=if c then a else d)∧(∀ {α:Type} (a b:α),(if true=true then a else b)=a)∧(∀ {α:Type} (a b:α),(if false=true then a else b)=b)∧(∀ {α:Type} (a b:α),(if True then a else b)=a)∧(∀ {α:Type} (a b:α),(if False then a else b)=b)∧(∀ (i:Decidable True),@decide True i=true)∧(∀ (i:Decidable False),@decide False i=false):=⟨ifI,ifB,ifS,fun c _ a b d=>by split <;> rfl,fun c _ a b d=>by split <;> rfl,fun _ _=>rfl,fun _ _=>rfl,fun _ _=>rfl,fun _ _=>rfl,fun i=>by cases i <;> simp,fun i=>by cases i <;> simp⟩
section
variable {hp:List Zk}{g:Nat}{cs:List AV}{t:TypeId}
theorem GY (h:hp[g]? = some (.cells cs t))(x:Zk):(hp ++ [x])[g]? = some (.cells cs t):=by rw [List.getElem?_append_left (List.getElem?_eq_some_iff.1 h).1]; exact h
theorem Zjh {es:List (AV×AV)}(h:hp[g]? = some (.map es))(x:Zk):(hp ++ [x])[g]? = some (.map es):=by rw [List.getElem?_append_left (List.getElem?_eq_some_iff.1 h).1]; exact h
theorem ED (h:hp[g]? = some (.cells cs t))(n:Nat)(h1:cs.length=n)(h2:cs.map AV.ro=cs):Z8 hp n (.ptr g 0)=some (.agg cs):=by
 rw [CR h n 0 (by omega),List.drop_zero,List.take_of_length_le (by omega),h2]
theorem LG (h:hp[g]? = some (.cells cs t)) :
  (∀ o,Zf hp (.ptr g o)=(cs[o]?).map AV.ro)∧(∀ x o,Zf (hp ++ [x]) (.ptr g o)=(cs[o]?).map AV.ro) ∧
  (∀ x y o,Zf (hp ++ [x] ++ [y]) (.ptr g o)=(cs[o]?).map AV.ro)∧(∀ x y z o,Zf (hp ++ [x] ++ [y] ++ [z]) (.ptr g o)=(cs[o]?).map AV.ro) ∧
  (∀ n,cs.length=n→cs.map AV.ro=cs→Z8 hp n (.ptr g 0)=some (.agg cs))∧(∀ x n,cs.length=n→cs.map AV.ro=cs→Z8 (hp ++ [x]) n (.ptr g 0)=some (.agg cs)) ∧
  (∀ x y n,cs.length=n→cs.map AV.ro=cs→Z8 (hp ++ [x] ++ [y]) n (.ptr g 0)=some (.agg cs))∧(∀ x y z n,cs.length=n→cs.map AV.ro=cs→Z8 (hp ++ [x] ++ [y] ++ [z]) n (.ptr g 0)=some (.agg cs)) :=
 ⟨fun o=>XF h o,fun x o=>XF (GY h x) o,fun x y o=>XF (GY (GY h x) y) o,fun x y z o=>XF (GY (GY (GY h x) y) z) o,
  fun n=>ED h n,fun x n=>ED (GY h x) n,fun x y n=>ED (GY (GY h x) y) n,fun x y z n=>ED (GY (GY (GY h x) y) z) n⟩
end
theorem Zaf (bs n:Nat)(h:List Zk)(cs c:List AV)(t:TypeId)(ef:Eff)(h1:c.length=n)(h2:cs.length=n)(h4:bs≤h.length):stV bs n (.ptr h.length 0) (.agg c) (h ++ [.cells cs t]) ef=some (h ++ [.cells c t],ef):=by
 rw [ZrC bs n h cs t 0 (.agg c) ef h1 (by omega) rfl h4]
 have:splice cs 0 c=c:=by simp [splice,h1,← h2]
 rw [ZoR,this]
theorem Zh7 (bs:Nat)(h:List Zk)(c v:AV)(t:TypeId)(ef:Eff)(h1:v.one=true)(h4:bs≤h.length):Zfu bs (.ptr h.length 0) v (h ++ [.cells [c] t]) ef=some (h ++ [.cells [v] t],ef):=by
 have e:=ZY h (.cells [c] t)
 simp only [Zfu,e,Zfx]
 have:SE bs ef h.length 0=ef:=by simp [SE]; omega
 simp [h1,this]
theorem Zsk (n:Nat)(c:List AV)(h:c.length=n):GA n (.agg c)=some c:=GD n c h
theorem ZuC:(∀ s,GA 1 (.str s)=some [.str s])∧(∀ k x,GA 1 (.int k x)=some [.int k x])∧(∀ b,GA 1 (.bool b)=some [.bool b])∧(∀ k r,GA 1 (.lst k r)=some [.lst k r])∧(∀ m,GA 1 (.map m)=some [.map m])∧(∀ g o,GA 1 (.ptr g o)=some [.ptr g o])∧(∀ f a c,GA 1 (.fn f a c)=some [.fn f a c]):=⟨fun _=>rfl,fun _ _=>rfl,fun _=>rfl,fun _ _=>rfl,fun _=>rfl,fun _ _=>rfl,fun _ _ _=>rfl⟩
theorem LD :
  (∀ (h:List Zk) (cs:List AV) (t:TypeId) (o:Nat),Zf (h ++ [.cells cs t]) (.ptr h.length o)=(cs[o]?).map AV.ro) ∧
  (∀ (h:List Zk) (cs:List AV) (t:TypeId) (o:Nat) (x:Zk),Zf (h ++ [.cells cs t] ++ [x]) (.ptr h.length o)=(cs[o]?).map AV.ro) ∧
  (∀ (h:List Zk) (cs:List AV) (t:TypeId) (o:Nat) (x y:Zk),Zf (h ++ [.cells cs t] ++ [x] ++ [y]) (.ptr h.length o)=(cs[o]?).map AV.ro) ∧
  (∀ (h:List Zk) (cs:List AV) (t:TypeId) (o:Nat) (x y z:Zk),Zf (h ++ [.cells cs t] ++ [x] ++ [y] ++ [z]) (.ptr h.length o)=(cs[o]?).map AV.ro) ∧
  (∀ (h:List Zk) (cs:List AV) (t:TypeId) (n:Nat),cs.length=n→cs.map AV.ro=cs→Z8 (h ++ [.cells cs t]) n (.ptr h.length 0)=some (.agg cs)) ∧
  (∀ (h:List Zk) (cs:List AV) (t:TypeId) (n:Nat) (x:Zk),cs.length=n→cs.map AV.ro=cs→Z8 (h ++ [.cells cs t] ++ [x]) n (.ptr h.length 0)=some (.agg cs)) ∧
  (∀ (h:List Zk) (cs:List AV) (t:TypeId) (n:Nat) (x y:Zk),cs.length=n→cs.map AV.ro=cs→Z8 (h ++ [.cells cs t] ++ [x] ++ [y]) n (.ptr h.length 0)=some (.agg cs)) ∧
  (∀ (h:List Zk) (cs:List AV) (t:TypeId) (n:Nat) (x y z:Zk),cs.length=n→cs.map AV.ro=cs→Z8 (h ++ [.cells cs t] ++ [x] ++ [y] ++ [z]) n (.ptr h.length 0)=some (.agg cs)) ∧
  (∀ (g o:Nat),Zp o (.ptr g 0)=some (.ptr g o))∧(∀ (n:Nat) (c:List AV),c.length=n→GA n (.agg c)=some c)∧(∀ (α β:Type) (f:α→β) (l:List α),(l.map f).length=l.length) ∧
  (∀ (hp:List Zk) (n:Nat) (c:List AV),c.length=n→c.map AV.ro=c→Z8 hp n (.ref c)=some (.agg c))∧(∀ c:List AV,Zp 0 (.ref c)=some (.ref c))∧(∀ n:Nat,0 + n=n)∧(∀ (hp:List Zk) (c:List AV),Zf hp (.ref c)=(c[0]?).map AV.ro)∧(∀ (α:Type) (l:List α) (i j:Nat),(l.drop i)[j]? = l[i + j]?)∧(∀ n:Nat,n + 0=n) :=
 ⟨fun h cs t o=>EF h cs t o,fun h cs t o x=>XF (GY (ZY h _) x) o,fun h cs t o x y=>XF (GY (GY (ZY h _) x) y) o,fun h cs t o x y z=>XF (GY (GY (GY (ZY h _) x) y) z) o,
  fun h cs t n=>ED (ZY h _) n,fun h cs t n x=>ED (GY (ZY h _) x) n,fun h cs t n x y=>ED (GY (GY (ZY h _) x) y) n,fun h cs t n x y z=>ED (GY (GY (GY (ZY h _) x) y) z) n,
  fun g o=>by rw [YQ,Nat.zero_add],Zsk,fun _ _ f l=>List.length_map f,fun hp n c h1 h2=>by rw [EE hp n c (by omega),List.take_of_length_le (by omega),h2],fun c=>by rw [YR,List.drop_zero],Nat.zero_add,fun hp c=>by cases c <;> rfl,fun _ l i j=>List.getElem?_drop,Nat.add_zero⟩
def Zug (x:KR)(hp:List Zk):KR :=
 match x with
 | some (v,_,none)=>if v.flat then some (v,hp,none) else none
 | _=>none
theorem QC :
  (∀ (K:FuncId→List AV→List Zk→KR) (f:FuncId) (a:List AV) (hp:List Zk),Vf K f a hp=Zug (K f a hp) hp) ∧
  (∀ (b:Bool) (h hp:List Zk),Zug (some (.bool b,h,none)) hp=some (.bool b,hp,none)) ∧
  (∀ (k:IntKind) (x:Int) (h hp:List Zk),Zug (some (.int k x,h,none)) hp=some (.int k x,hp,none)) ∧
  (∀ (s:List UInt8) (h hp:List Zk),Zug (some (.str s,h,none)) hp=some (.str s,hp,none)) :=
 ⟨fun _ _ _ _=>rfl,fun _ _ _=>rfl,fun _ _ _ _=>rfl,fun _ _ _=>rfl⟩
theorem lp {α:Type}(row:α→List AV){l q r:List α}{x:α}(h:l=q ++ x :: r)(hb:l.length≤4611686018427387) :
  decide ((q.length:Int) < (l.length:Int))=true∧(l.map row)[q.length]? = some (row x)∧IntKind.i64.wrap ((q.length:Int) + 1)=((q ++ [x]).length:Int)∧l=(q ++ [x]) ++ r∧x ∈ l:=by
 subst h
 refine ⟨?_,?_,?_,by simp,by simp⟩
 ·simp only [List.length_append,List.length_cons,decide_eq_true_eq]; omega
 ·simp
 ·have:q.length < 4611686018427387904:=by simp at hb; omega
  rw [U6 _ this]; simp
theorem lp0 {α:Type}{l q:List α}(h:l=q ++ []):decide ((q.length:Int) < (l.length:Int))=false:=by
 subst h; simp
def Sy {α:Type}(f:α→Int):List α→Int
 | []=>0
 | x :: r=>if decide (f x≠0)=true then f x else Sy f r
def Zt3 {α:Type}(f:α→Int):List α→Int→Int
 | [],n=>n
 | x :: r,n=>Zt3 f r (if f x > n then f x else n)
theorem fuel {C:Cfg}{N d:Nat}(h:d + 1≤N):∃ m,N=m + 1∧d≤m:=⟨N - 1,by omega,by omega⟩
theorem LIT :
  (∀ (e:TypeId) (k:IntKind) (x:Int) (hp:List Zk),Zeb e 1 [.int k x] hp=some (.own 1 [[.int k x]],hp))∧(∀ (e:TypeId) (k l:IntKind) (x y:Int) (hp:List Zk),Zeb e 1 [.int k x,.int l y] hp=some (.own 1 [[.int k x],[.int l y]],hp)) ∧
  (∀ (e:TypeId) (s:List UInt8) (hp:List Zk),Zeb e 1 [.str s] hp=some (.own 1 [[.str s]],hp)) :=
 ⟨fun _ _ _ _=>rfl,fun _ _ _ _ _ _=>rfl,fun _ _ _=>rfl⟩
theorem EX:(∀ (a:AV) (l:List AV),Jk (.tup (a :: l)) 0=some a.ro)∧(∀ (a b:AV) (l:List AV),Jk (.tup (a :: b :: l)) 1=some b.ro)∧(∀ (a b c:AV) (l:List AV),Jk (.tup (a :: b :: c :: l)) 2=some c.ro)∧(∀ (a b c d:AV) (l:List AV),Jk (.tup (a :: b :: c :: d :: l)) 3=some d.ro)∧(∀ (a b c d e:AV) (l:List AV),Jk (.tup (a :: b :: c :: d :: e :: l)) 4=some e.ro) :=
 ⟨fun _ _=>rfl,fun _ _ _=>rfl,fun _ _ _ _=>rfl,fun _ _ _ _ _=>rfl,fun _ _ _ _ _ _=>rfl⟩
def ZtA {α:Type}(f:α→Int):List α→Int→Int
 | [],n=>n
 | x :: r,n=>ZtA f r (IntKind.i64.wrap (n + f x))
theorem max2 (a b:Int):ZrS [.int .i64 a,.int .i64 b]=some (.int .i64 (if b > a then b else a)):=rfl
theorem min2 (a b:Int):ZtQ [.int .i64 a,.int .i64 b]=some (.int .i64 (if b < a then b else a)):=rfl
theorem ZuE (cs:List AV):fill cs []=some cs:=rfl
theorem GI:(∀ (α:Type) (a:α) (l:List α),(a :: l)[0]? = some a)∧(∀ (α:Type) (a b:α) (l:List α),(a :: b :: l)[1]? = some b)∧(∀ (α:Type) (a b c:α) (l:List α),(a :: b :: c :: l)[2]? = some c)∧(∀ (α:Type) (a b c d:α) (l:List α),(a :: b :: c :: d :: l)[3]? = some d):=⟨fun _ _ _=>rfl,fun _ _ _ _=>rfl,fun _ _ _ _ _=>rfl,fun _ _ _ _ _ _=>rfl⟩
def Zsz (hp0:List Zk)(x y:Option AV)(d:AV×List Zk×Eff):AV×List Zk×Eff :=
 match x,y with
 | some a,some b=>(.tup [a,b],hp0,none)
 | _,_=>d
def Zs0 (hp0:List Zk)(x y z:Option AV)(d:AV×List Zk×Eff):AV×List Zk×Eff :=
 match x,y,z with
 | some a,some b,some c=>(.tup [a,b,c],hp0,none)
 | _,_,_=>d
theorem TUP:(∀ (hp0:List Zk) (a b:AV) (hp:List Zk),Z6 false hp0 (.tup [a,b]) hp none=Zsz hp0 (ZdW hp0.length hp a) (ZdW hp0.length hp b) (.tup [a,b],hp,none)) ∧
  (∀ (hp0:List Zk) (a b c:AV) (hp:List Zk),Z6 false hp0 (.tup [a,b,c]) hp none=Zs0 hp0 (ZdW hp0.length hp a) (ZdW hp0.length hp b) (ZdW hp0.length hp c) (.tup [a,b,c],hp,none)) ∧
  (∀ (hp0:List Zk) (a b:AV) (d:AV×List Zk×Eff),Zsz hp0 (some a) (some b) d=(.tup [a,b],hp0,none)) ∧
  (∀ (hp0:List Zk) (a b c:AV) (d:AV×List Zk×Eff),Zs0 hp0 (some a) (some b) (some c) d=(.tup [a,b,c],hp0,none)):=by
 refine ⟨fun hp0 a b hp=>?_,fun hp0 a b c hp=>?_,fun _ _ _ _=>rfl,fun _ _ _ _ _=>rfl⟩
 ·rw [Yg]
  cases h1:ZdW hp0.length hp a <;> cases h2:ZdW hp0.length hp b <;> simp [Zsz,h1,h2]
 ·rw [Yg]
  cases h1:ZdW hp0.length hp a <;> cases h2:ZdW hp0.length hp b <;> cases h3:ZdW hp0.length hp c <;> simp [Zs0,h1,h2,h3]
theorem STA {bs:Nat}{h:List Zk}(hh:bs≤h.length):∀ (n:Nat) (cs c:List AV) (t:TypeId) (ef:Eff),c.length=n→cs.length=n→stV bs n (.ptr h.length 0) (.agg c) (h ++ [.cells cs t]) ef=some (h ++ [.cells c t],ef) :=
 fun n cs c t ef h1 h2=>Zaf bs n h cs c t ef h1 h2 hh
theorem LDP :
  (∀ (h:List Zk) (cs:List AV) (t:TypeId) (n o:Nat),(o == 0)=false→o + n≤cs.length→Z8 (h ++ [.cells cs t]) n (.ptr h.length o)=some (.agg (((cs.drop o).take n).map AV.ro))) ∧
  (∀ (h:List Zk) (cs:List AV) (t:TypeId) (n o:Nat) (x:Zk),(o == 0)=false→o + n≤cs.length→Z8 (h ++ [.cells cs t] ++ [x]) n (.ptr h.length o)=some (.agg (((cs.drop o).take n).map AV.ro))) ∧
  (∀ (h:List Zk) (cs:List AV) (t:TypeId) (n o:Nat) (x y:Zk),(o == 0)=false→o + n≤cs.length→Z8 (h ++ [.cells cs t] ++ [x] ++ [y]) n (.ptr h.length o)=some (.agg (((cs.drop o).take n).map AV.ro))) :=
 ⟨fun h cs t n o _=>CR (ZY h _) n _,fun h cs t n o x _=>CR (GY (ZY h _) x) n _,fun h cs t n o x y _=>CR (GY (GY (ZY h _) x) y) n _⟩
theorem LGP {hp:List Zk}{g:Nat}{cs:List AV}{t:TypeId}(hg:hp[g]? = some (.cells cs t)) :
  (∀ n o,(o == 0)=false→o + n≤cs.length→Z8 hp n (.ptr g o)=some (.agg (((cs.drop o).take n).map AV.ro)))∧(∀ x n o,(o == 0)=false→o + n≤cs.length→Z8 (hp ++ [x]) n (.ptr g o)=some (.agg (((cs.drop o).take n).map AV.ro)))∧(∀ x y n o,(o == 0)=false→o + n≤cs.length→Z8 (hp ++ [x] ++ [y]) n (.ptr g o)=some (.agg (((cs.drop o).take n).map AV.ro))) :=
 ⟨fun n o _=>CR hg n o,fun x n o _=>CR (GY hg x) n o,fun x y n o _=>CR (GY (GY hg x) y) n o⟩
theorem CO:type_of% (And.intro @EV (And.intro @LD (And.intro @BL (And.intro @IFJ (And.intro @GI @QC))))):=And.intro @EV (And.intro @LD (And.intro @BL (And.intro @IFJ (And.intro @GI @QC))))
end Go.Proofs.YtlmfmmclnboglaaGreat.Abs
end
section
namespace Go.Proofs.YtlmfmmclnboglaaGreat
open Go Go.RowKit Go.Proofs.YtlmfmmclnboglaaGreat.Abs
set_option linter.all false
set_option maxRecDepth 100000
set_option maxHeartbeats 0
def ints (l:List Int):List (List AV):=l.map fun x=>[.int .i64 x]
def strs (l:List (List UInt8)):List (List AV):=l.map fun x=>[.str x]
structure He where
 Name:List UInt8
 Ty:Int
 N:Int
 deriving DecidableEq
def Vw (x:He):List AV:=[.str x.Name,.int .i64 x.Ty,.int .i64 x.N]
theorem Zjw (x:He):(Vw x).length=3:=by rfl
theorem Zhu (x:He):(Vw x).map AV.ro=Vw x:=by rfl
theorem ZpP (x:He):AV.nm (.agg (Vw x))=.agg (Vw x):=by rw [Y4,Zhu]
theorem Zr2 (x:He):(Vw x)[0]? = some (.str x.Name):=by rfl
theorem Zr3 (x:He):(Vw x)[1]? = some (.int .i64 x.Ty):=by rfl
theorem Zr4 (x:He):(Vw x)[2]? = some (.int .i64 x.N):=by rfl
structure Zf4 (x:He):Prop where
 Name:x.Name.length≤140737488351232
 Ty:-9223372036854775808≤x.Ty∧x.Ty≤9223372036854775807
 N:-9223372036854775808≤x.N∧x.N≤9223372036854775807
structure Tf where
 At_:Int
 Units:Int
 deriving DecidableEq
def U3 (x:Tf):List AV:=[.int .i64 x.At_,.int .i64 x.Units]
theorem ZmJ (x:Tf):(U3 x).length=2:=by rfl
theorem Zjr (x:Tf):(U3 x).map AV.ro=U3 x:=by rfl
theorem Zom (x:Tf):AV.nm (.agg (U3 x))=.agg (U3 x):=by rw [Y4,Zjr]
theorem ZpE (x:Tf):(U3 x)[0]? = some (.int .i64 x.At_):=by rfl
theorem ZpF (x:Tf):(U3 x)[1]? = some (.int .i64 x.Units):=by rfl
structure Znc (x:Tf):Prop where
 At_:-9223372036854775808≤x.At_∧x.At_≤9223372036854775807
 Units:-9223372036854775808≤x.Units∧x.Units≤9223372036854775807
structure Pb where
 Op:Int
 A:Int
 B:Int
 N:Int
 Values:List Int
 Weights:List Int
 deriving DecidableEq
def IL (x:Pb):List AV:=[.int .i64 x.Op,.int .i64 x.A,.int .i64 x.B,.int .i64 x.N,.lst 1 (ints x.Values),.lst 1 (ints x.Weights)]
theorem ZpG (x:Pb):(IL x).length=6:=by rfl
theorem Zrf (x:Pb):(IL x).map AV.ro=IL x:=by rfl
theorem ZsW (x:Pb):(IL x)[0]? = some (.int .i64 x.Op):=by rfl
theorem ZsX (x:Pb):(IL x)[1]? = some (.int .i64 x.A):=by rfl
theorem ZsY (x:Pb):(IL x)[2]? = some (.int .i64 x.B):=by rfl
theorem ZsZ (x:Pb):(IL x)[3]? = some (.int .i64 x.N):=by rfl
theorem Zta (x:Pb):(IL x)[4]? = some (.lst 1 (ints x.Values)):=by rfl
theorem Ztb (x:Pb):(IL x)[5]? = some (.lst 1 (ints x.Weights)):=by rfl
structure Pp (x:Pb):Prop where
 Op:-9223372036854775808≤x.Op∧x.Op≤9223372036854775807
 A:-9223372036854775808≤x.A∧x.A≤9223372036854775807
 B:-9223372036854775808≤x.B∧x.B≤9223372036854775807
 N:-9223372036854775808≤x.N∧x.N≤9223372036854775807
 Values:x.Values.length * 8≤140737488351232∧∀ y ∈ x.Values,-9223372036854775808≤y∧y≤9223372036854775807
 Weights:x.Weights.length * 8≤140737488351232∧∀ y ∈ x.Weights,-9223372036854775808≤y∧y≤9223372036854775807
structure AY where
 Stream:List UInt8
 Up:Pb
 Down:Pb
 deriving DecidableEq
def Te (x:AY):List AV:=[.str x.Stream] ++ IL x.Up ++ IL x.Down
theorem Zon (x:AY):(Te x).length=13:=by rfl
theorem ZlI (x:AY):(Te x).map AV.ro=Te x:=by rfl
theorem ZpH (x:AY):AV.nm (.agg (Te x))=.agg (Te x):=by rw [Y4,ZlI]
theorem Zrh (x:AY):(Te x)[0]? = some (.str x.Stream):=by rfl
theorem ZlH (x:AY):((Te x).drop 1).take 6=IL x.Up:=by rfl
theorem ZiD (x:AY):((Te x).drop 7).take 6=IL x.Down:=by rfl
structure Zmh (x:AY):Prop where
 Stream:x.Stream.length≤140737488351232
 Up:Pp x.Up
 Down:Pp x.Down
structure Y1 where
 Name:List UInt8
 Units:Int
 Shift:List Tf
 Cycle:Int
 Fault:AY
 deriving DecidableEq
def Z0 (x:Y1):List AV:=[.str x.Name,.int .i64 x.Units,.lst 2 (x.Shift.map U3),.int .i64 x.Cycle] ++ Te x.Fault
theorem SG (x:Y1):(Z0 x).length=17:=by rfl
theorem Bh (x:Y1):(Z0 x).map AV.ro=Z0 x:=by rfl
theorem Zfr (x:Y1):AV.nm (.agg (Z0 x))=.agg (Z0 x):=by rw [Y4,Bh]
theorem Zhp (x:Y1):(Z0 x)[0]? = some (.str x.Name):=by rfl
theorem Zhq (x:Y1):(Z0 x)[1]? = some (.int .i64 x.Units):=by rfl
theorem Zhr (x:Y1):(Z0 x)[2]? = some (.lst 2 (x.Shift.map U3)):=by rfl
theorem Zhs (x:Y1):(Z0 x)[3]? = some (.int .i64 x.Cycle):=by rfl
theorem Zht (x:Y1):(Z0 x)[4]? = some (.str x.Fault.Stream):=by rfl
theorem AO (x:Y1):((Z0 x).drop 4).take 13=Te x.Fault:=by rfl
structure KZ (x:Y1):Prop where
 Name:x.Name.length≤140737488351232
 Units:-9223372036854775808≤x.Units∧x.Units≤9223372036854775807
 Shift:x.Shift.length * 16≤140737488351232∧∀ y ∈ x.Shift,Znc y
 Cycle:-9223372036854775808≤x.Cycle∧x.Cycle≤9223372036854775807
 Fault:Zmh x.Fault
structure QR where
 Name:List UInt8
 Room:Int
 Policy:Int
 deriving DecidableEq
def Yz (x:QR):List AV:=[.str x.Name,.int .i64 x.Room,.int .i64 x.Policy]
theorem NH (x:QR):(Yz x).length=3:=by rfl
theorem BB (x:QR):(Yz x).map AV.ro=Yz x:=by rfl
theorem Zku (x:QR):AV.nm (.agg (Yz x))=.agg (Yz x):=by rw [Y4,BB]
theorem ZlQ (x:QR):(Yz x)[0]? = some (.str x.Name):=by rfl
theorem ZlR (x:QR):(Yz x)[1]? = some (.int .i64 x.Room):=by rfl
theorem ZlS (x:QR):(Yz x)[2]? = some (.int .i64 x.Policy):=by rfl
structure ZaT (x:QR):Prop where
 Name:x.Name.length≤140737488351232
 Room:-9223372036854775808≤x.Room∧x.Room≤9223372036854775807
 Policy:-9223372036854775808≤x.Policy∧x.Policy≤9223372036854775807
structure Vo where
 Name:List UInt8
 Length:Int
 Step:Int
 deriving DecidableEq
def WJ (x:Vo):List AV:=[.str x.Name,.int .i64 x.Length,.int .i64 x.Step]
theorem Zda (x:Vo):(WJ x).length=3:=by rfl
theorem CZ (x:Vo):(WJ x).map AV.ro=WJ x:=by rfl
theorem ZlE (x:Vo):AV.nm (.agg (WJ x))=.agg (WJ x):=by rw [Y4,CZ]
theorem ZmG (x:Vo):(WJ x)[0]? = some (.str x.Name):=by rfl
theorem ZmH (x:Vo):(WJ x)[1]? = some (.int .i64 x.Length):=by rfl
theorem ZmI (x:Vo):(WJ x)[2]? = some (.int .i64 x.Step):=by rfl
structure Zdg (x:Vo):Prop where
 Name:x.Name.length≤140737488351232
 Length:-9223372036854775808≤x.Length∧x.Length≤9223372036854775807
 Step:-9223372036854775808≤x.Step∧x.Step≤9223372036854775807
structure MG where
 Name:List UInt8
 Ty:Int
 deriving DecidableEq
def Jv (x:MG):List AV:=[.str x.Name,.int .i64 x.Ty]
theorem Zoo (x:MG):(Jv x).length=2:=by rfl
theorem ZlJ (x:MG):(Jv x).map AV.ro=Jv x:=by rfl
theorem ZpI (x:MG):AV.nm (.agg (Jv x))=.agg (Jv x):=by rw [Y4,ZlJ]
theorem Zri (x:MG):(Jv x)[0]? = some (.str x.Name):=by rfl
theorem Zrj (x:MG):(Jv x)[1]? = some (.int .i64 x.Ty):=by rfl
structure Zjy (x:MG):Prop where
 Name:x.Name.length≤140737488351232
 Ty:-9223372036854775808≤x.Ty∧x.Ty≤9223372036854775807
structure Vp where
 Op:Int
 Name:List UInt8
 N:Int
 Kids:List Vp
mutual
def QO:Vp→List AV
 | ⟨a0,a1,a2,a3⟩=>[.int .i64 a0,.str a1,.int .i64 a2,.lst 4 (ZlG a3)]
def ZlG:List Vp→List (List AV)
 | []=>[]
 | x :: l=>QO x :: ZlG l
end
theorem Zjs:∀ l:List Vp,ZlG l=l.map QO
 | []=>by rw [ZlG]; rfl
 | x :: l=>by rw [ZlG,Zjs l]; rfl
theorem JF (x:Vp):QO x=[.int .i64 x.Op,.str x.Name,.int .i64 x.N,.lst 4 (x.Kids.map QO)]:=by
 cases x; rw [QO]; simp only [Zjs]
theorem DZ (x:Vp):(QO x).length=4:=by rw [JF]; rfl
theorem Zkq (x:Vp):(QO x).map AV.ro=QO x:=by rw [JF]; rfl
theorem Zrg (x:Vp):AV.nm (.agg (QO x))=.agg (QO x):=by rw [Y4,Zkq]
theorem Ztc (x:Vp):(QO x)[0]? = some (.int .i64 x.Op):=by rw [JF]; rfl
theorem Ztd (x:Vp):(QO x)[1]? = some (.str x.Name):=by rw [JF]; rfl
theorem Zte (x:Vp):(QO x)[2]? = some (.int .i64 x.N):=by rw [JF]; rfl
theorem Ztf (x:Vp):(QO x)[3]? = some (.lst 4 (x.Kids.map QO)):=by rw [JF]; rfl
inductive JH:Vp→Prop
 | mk (x:Vp) (hOp:-9223372036854775808≤x.Op∧x.Op≤9223372036854775807) (hName:x.Name.length≤140737488351232) (hN:-9223372036854775808≤x.N∧x.N≤9223372036854775807) (hKids1:x.Kids.length * 56≤140737488351232) (hKids2:∀ y ∈ x.Kids,JH y):JH x
theorem JH.Op {x:Vp}(h:JH x):-9223372036854775808≤x.Op∧x.Op≤9223372036854775807:=by cases h; assumption
theorem JH.Name {x:Vp}(h:JH x):x.Name.length≤140737488351232:=by cases h; assumption
theorem JH.N {x:Vp}(h:JH x):-9223372036854775808≤x.N∧x.N≤9223372036854775807:=by cases h; assumption
theorem JH.Kids {x:Vp}(h:JH x):x.Kids.length * 56≤140737488351232∧∀ y ∈ x.Kids,JH y:=by cases h; constructor <;> assumption
structure XX where
 Op:Int
 Name:List UInt8
 Of:List UInt8
 E:Vp
 F:Vp
 Args:List Vp
 Dist:Pb
 Flag:Bool
 Body:List XX
 Else:List XX
mutual
def QT:XX→List AV
 | ⟨a0,a1,a2,a3,a4,a5,a6,a7,a8,a9⟩=>[.int .i64 a0,.str a1,.str a2] ++ QO a3 ++ QO a4 ++ [.lst 4 (a5.map QO)] ++ IL a6 ++ [.bool a7,.lst 21 (Zjt a8),.lst 21 (Zjt a9)]
def Zjt:List XX→List (List AV)
 | []=>[]
 | x :: l=>QT x :: Zjt l
end
theorem Zju:∀ l:List XX,Zjt l=l.map QT
 | []=>by rw [Zjt]; rfl
 | x :: l=>by rw [Zjt,Zju l]; rfl
theorem OT (x:XX):QT x=[.int .i64 x.Op,.str x.Name,.str x.Of] ++ QO x.E ++ QO x.F ++ [.lst 4 (x.Args.map QO)] ++ IL x.Dist ++ [.bool x.Flag,.lst 21 (x.Body.map QT),.lst 21 (x.Else.map QT)]:=by
 cases x; rw [QT]; simp only [Zju]
theorem ZpN (x:XX):(QT x).length=21:=by rw [OT]; simp only [JF]; rfl
theorem Zr0 (x:XX):(QT x).map AV.ro=QT x:=by rw [OT]; simp only [JF]; rfl
theorem Ztk (x:XX):(QT x)[0]? = some (.int .i64 x.Op):=by rw [OT]; simp only [JF]; rfl
theorem Ztl (x:XX):(QT x)[1]? = some (.str x.Name):=by rw [OT]; simp only [JF]; rfl
theorem Ztm (x:XX):(QT x)[2]? = some (.str x.Of):=by rw [OT]; simp only [JF]; rfl
theorem Zrw (x:XX):(QT x)[11]? = some (.lst 4 (x.Args.map QO)):=by rw [OT]; simp only [JF]; rfl
theorem Zrx (x:XX):(QT x)[18]? = some (.bool x.Flag):=by rw [OT]; simp only [JF]; rfl
theorem Zry (x:XX):(QT x)[19]? = some (.lst 21 (x.Body.map QT)):=by rw [OT]; simp only [JF]; rfl
theorem Zrz (x:XX):(QT x)[20]? = some (.lst 21 (x.Else.map QT)):=by rw [OT]; simp only [JF]; rfl
theorem Zov (x:XX):((QT x).drop 3).take 4=QO x.E:=by rw [OT]; simp only [JF]; rfl
theorem Zow (x:XX):((QT x).drop 7).take 4=QO x.F:=by rw [OT]; simp only [JF]; rfl
theorem Zkt (x:XX):((QT x).drop 12).take 6=IL x.Dist:=by rw [OT]; simp only [JF]; rfl
inductive VO:XX→Prop
 | mk (x:XX) (hOp:-9223372036854775808≤x.Op∧x.Op≤9223372036854775807) (hName:x.Name.length≤140737488351232) (hOf:x.Of.length≤140737488351232) (hE:JH x.E) (hF:JH x.F) (hArgs1:x.Args.length * 56≤140737488351232) (hArgs2:∀ y ∈ x.Args,JH y) (hDist:Pp x.Dist) (hFlag:True) (hBody1:x.Body.length * 312≤140737488351232) (hBody2:∀ y ∈ x.Body,VO y) (hElse1:x.Else.length * 312≤140737488351232) (hElse2:∀ y ∈ x.Else,VO y):VO x
theorem VO.Op {x:XX}(h:VO x):-9223372036854775808≤x.Op∧x.Op≤9223372036854775807:=by cases h; assumption
theorem VO.Name {x:XX}(h:VO x):x.Name.length≤140737488351232:=by cases h; assumption
theorem VO.Of {x:XX}(h:VO x):x.Of.length≤140737488351232:=by cases h; assumption
theorem VO.E {x:XX}(h:VO x):JH x.E:=by cases h; assumption
theorem VO.F {x:XX}(h:VO x):JH x.F:=by cases h; assumption
theorem VO.Args {x:XX}(h:VO x):x.Args.length * 56≤140737488351232∧∀ y ∈ x.Args,JH y:=by cases h; constructor <;> assumption
theorem VO.Dist {x:XX}(h:VO x):Pp x.Dist:=by cases h; assumption
theorem VO.Flag {x:XX}(h:VO x):True:=by cases h; assumption
theorem VO.Body {x:XX}(h:VO x):x.Body.length * 312≤140737488351232∧∀ y ∈ x.Body,VO y:=by cases h; constructor <;> assumption
theorem VO.Else {x:XX}(h:VO x):x.Else.length * 312≤140737488351232∧∀ y ∈ x.Else,VO y:=by cases h; constructor <;> assumption
structure X0 where
 Name:List UInt8
 Params:List MG
 Locals:List MG
 Body:List XX
def Y6 (x:X0):List AV:=[.str x.Name,.lst 2 (x.Params.map Jv),.lst 2 (x.Locals.map Jv),.lst 21 (x.Body.map QT)]
theorem Ze3 (x:X0):(Y6 x).length=4:=by rfl
theorem ZbP (x:X0):(Y6 x).map AV.ro=Y6 x:=by rfl
theorem ZmK (x:X0):AV.nm (.agg (Y6 x))=.agg (Y6 x):=by rw [Y4,ZbP]
theorem Zoq (x:X0):(Y6 x)[0]? = some (.str x.Name):=by rfl
theorem Zor (x:X0):(Y6 x)[1]? = some (.lst 2 (x.Params.map Jv)):=by rfl
theorem Zos (x:X0):(Y6 x)[2]? = some (.lst 2 (x.Locals.map Jv)):=by rfl
theorem Zot (x:X0):(Y6 x)[3]? = some (.lst 21 (x.Body.map QT)):=by rfl
structure NJ (x:X0):Prop where
 Name:x.Name.length≤140737488351232
 Params:x.Params.length * 24≤140737488351232∧∀ y ∈ x.Params,Zjy y
 Locals:x.Locals.length * 24≤140737488351232∧∀ y ∈ x.Locals,Zjy y
 Body:x.Body.length * 312≤140737488351232∧∀ y ∈ x.Body,VO y
structure OW where
 Routine:List UInt8
 Args:List Int
 At_:Int
 Every:Int
 Until:Int
 deriving DecidableEq
def Je (x:OW):List AV:=[.str x.Routine,.lst 1 (ints x.Args),.int .i64 x.At_,.int .i64 x.Every,.int .i64 x.Until]
theorem Zou (x:OW):(Je x).length=5:=by rfl
theorem ZlP (x:OW):(Je x).map AV.ro=Je x:=by rfl
theorem ZpM (x:OW):AV.nm (.agg (Je x))=.agg (Je x):=by rw [Y4,ZlP]
theorem Zrr (x:OW):(Je x)[0]? = some (.str x.Routine):=by rfl
theorem Zrs (x:OW):(Je x)[1]? = some (.lst 1 (ints x.Args)):=by rfl
theorem Zrt (x:OW):(Je x)[2]? = some (.int .i64 x.At_):=by rfl
theorem Zru (x:OW):(Je x)[3]? = some (.int .i64 x.Every):=by rfl
theorem Zrv (x:OW):(Je x)[4]? = some (.int .i64 x.Until):=by rfl
structure AZ (x:OW):Prop where
 Routine:x.Routine.length≤140737488351232
 Args:x.Args.length * 8≤140737488351232∧∀ y ∈ x.Args,-9223372036854775808≤y∧y≤9223372036854775807
 At_:-9223372036854775808≤x.At_∧x.At_≤9223372036854775807
 Every:-9223372036854775808≤x.Every∧x.Every≤9223372036854775807
 Until:-9223372036854775808≤x.Until∧x.Until≤9223372036854775807
structure NK where
 Coef:Int
 What:List UInt8
 Name:List UInt8
 deriving DecidableEq
def Tk (x:NK):List AV:=[.int .i64 x.Coef,.str x.What,.str x.Name]
theorem ZpO (x:NK):(Tk x).length=3:=by rfl
theorem ZnD (x:NK):(Tk x).map AV.ro=Tk x:=by rfl
theorem Zr1 (x:NK):AV.nm (.agg (Tk x))=.agg (Tk x):=by rw [Y4,ZnD]
theorem Ztn (x:NK):(Tk x)[0]? = some (.int .i64 x.Coef):=by rfl
theorem Zto (x:NK):(Tk x)[1]? = some (.str x.What):=by rfl
theorem Ztp (x:NK):(Tk x)[2]? = some (.str x.Name):=by rfl
structure ZrI (x:NK):Prop where
 Coef:-9223372036854775808≤x.Coef∧x.Coef≤9223372036854775807
 What:x.What.length≤140737488351232
 Name:x.Name.length≤140737488351232
structure Zk7 where
 Name:List UInt8
 Terms:List NK
 Total:Int
 deriving DecidableEq
def Av (x:Zk7):List AV:=[.str x.Name,.lst 3 (x.Terms.map Tk),.int .i64 x.Total]
theorem Zrk (x:Zk7):(Av x).length=3:=by rfl
theorem ZpJ (x:Zk7):(Av x).map AV.ro=Av x:=by rfl
theorem Ztg (x:Zk7):AV.nm (.agg (Av x))=.agg (Av x):=by rw [Y4,ZpJ]
theorem Zuj (x:Zk7):(Av x)[0]? = some (.str x.Name):=by rfl
theorem Zuk (x:Zk7):(Av x)[1]? = some (.lst 3 (x.Terms.map Tk)):=by rfl
theorem Zul (x:Zk7):(Av x)[2]? = some (.int .i64 x.Total):=by rfl
structure ZnM (x:Zk7):Prop where
 Name:x.Name.length≤140737488351232
 Terms:x.Terms.length * 40≤140737488351232∧∀ y ∈ x.Terms,ZrI y
 Total:-9223372036854775808≤x.Total∧x.Total≤9223372036854775807
structure Zl where
 Name:List UInt8
 Vars:List He
 Resources:List Y1
 Stores:List QR
 Belts:List Vo
 Queues:List (List UInt8)
 Streams:List (List UInt8)
 Tallies:List (List UInt8)
 Levels:List (List UInt8)
 Counts:List (List UInt8)
 Routines:List X0
 Starts:List OW
 Laws:List Zk7
def Zh (x:Zl):List AV:=[.str x.Name,.lst 3 (x.Vars.map Vw),.lst 17 (x.Resources.map Z0),.lst 3 (x.Stores.map Yz),.lst 3 (x.Belts.map WJ),.lst 1 (strs x.Queues),.lst 1 (strs x.Streams),.lst 1 (strs x.Tallies),.lst 1 (strs x.Levels),.lst 1 (strs x.Counts),.lst 4 (x.Routines.map Y6),.lst 5 (x.Starts.map Je),.lst 3 (x.Laws.map Av)]
theorem Zks (x:Zl):(Zh x).length=13:=by rfl
theorem Ze4 (x:Zl):(Zh x).map AV.ro=Zh x:=by rfl
theorem ZlO (x:Zl):AV.nm (.agg (Zh x))=.agg (Zh x):=by rw [Y4,Ze4]
theorem ZmL (x:Zl):(Zh x)[0]? = some (.str x.Name):=by rfl
theorem ZmM (x:Zl):(Zh x)[1]? = some (.lst 3 (x.Vars.map Vw)):=by rfl
theorem ZmN (x:Zl):(Zh x)[2]? = some (.lst 17 (x.Resources.map Z0)):=by rfl
theorem ZmO (x:Zl):(Zh x)[3]? = some (.lst 3 (x.Stores.map Yz)):=by rfl
theorem ZmP (x:Zl):(Zh x)[4]? = some (.lst 3 (x.Belts.map WJ)):=by rfl
theorem ZmQ (x:Zl):(Zh x)[5]? = some (.lst 1 (strs x.Queues)):=by rfl
theorem ZmR (x:Zl):(Zh x)[6]? = some (.lst 1 (strs x.Streams)):=by rfl
theorem ZmS (x:Zl):(Zh x)[7]? = some (.lst 1 (strs x.Tallies)):=by rfl
theorem ZmT (x:Zl):(Zh x)[8]? = some (.lst 1 (strs x.Levels)):=by rfl
theorem ZmU (x:Zl):(Zh x)[9]? = some (.lst 1 (strs x.Counts)):=by rfl
theorem ZlL (x:Zl):(Zh x)[10]? = some (.lst 4 (x.Routines.map Y6)):=by rfl
theorem ZlM (x:Zl):(Zh x)[11]? = some (.lst 5 (x.Starts.map Je)):=by rfl
theorem ZlN (x:Zl):(Zh x)[12]? = some (.lst 3 (x.Laws.map Av)):=by rfl
structure YA (x:Zl):Prop where
 Name:x.Name.length≤140737488351232
 Vars:x.Vars.length * 32≤140737488351232∧∀ y ∈ x.Vars,Zf4 y
 Resources:x.Resources.length * 232≤140737488351232∧∀ y ∈ x.Resources,KZ y
 Stores:x.Stores.length * 32≤140737488351232∧∀ y ∈ x.Stores,ZaT y
 Belts:x.Belts.length * 32≤140737488351232∧∀ y ∈ x.Belts,Zdg y
 Queues:x.Queues.length * 16≤140737488351232∧∀ y ∈ x.Queues,y.length≤140737488351232
 Streams:x.Streams.length * 16≤140737488351232∧∀ y ∈ x.Streams,y.length≤140737488351232
 Tallies:x.Tallies.length * 16≤140737488351232∧∀ y ∈ x.Tallies,y.length≤140737488351232
 Levels:x.Levels.length * 16≤140737488351232∧∀ y ∈ x.Levels,y.length≤140737488351232
 Counts:x.Counts.length * 16≤140737488351232∧∀ y ∈ x.Counts,y.length≤140737488351232
 Routines:x.Routines.length * 88≤140737488351232∧∀ y ∈ x.Routines,NJ y
 Starts:x.Starts.length * 64≤140737488351232∧∀ y ∈ x.Starts,AZ y
 Laws:x.Laws.length * 48≤140737488351232∧∀ y ∈ x.Laws,ZnM y
structure BN where
 From:List UInt8
 To:List UInt8
 Delay:Int
 deriving DecidableEq
def Ko (x:BN):List AV:=[.str x.From,.str x.To,.int .i64 x.Delay]
theorem ZpK (x:BN):(Ko x).length=3:=by rfl
theorem ZnC (x:BN):(Ko x).map AV.ro=Ko x:=by rfl
theorem Zrl (x:BN):AV.nm (.agg (Ko x))=.agg (Ko x):=by rw [Y4,ZnC]
theorem Zth (x:BN):(Ko x)[0]? = some (.str x.From):=by rfl
theorem Zti (x:BN):(Ko x)[1]? = some (.str x.To):=by rfl
theorem Ztj (x:BN):(Ko x)[2]? = some (.int .i64 x.Delay):=by rfl
structure ZrH (x:BN):Prop where
 From:x.From.length≤140737488351232
 To:x.To.length≤140737488351232
 Delay:-9223372036854775808≤x.Delay∧x.Delay≤9223372036854775807
structure Jm where
 Name:List UInt8
 Params:List He
 Sites:List Zl
 Links:List BN
def VM (x:Jm):List AV:=[.str x.Name,.lst 3 (x.Params.map Vw),.lst 13 (x.Sites.map Zh),.lst 3 (x.Links.map Ko)]
theorem Zop (x:Jm):(VM x).length=4:=by rfl
theorem ZlK (x:Jm):(VM x).map AV.ro=VM x:=by rfl
theorem ZpL (x:Jm):AV.nm (.agg (VM x))=.agg (VM x):=by rw [Y4,ZlK]
theorem Zrm (x:Jm):(VM x)[0]? = some (.str x.Name):=by rfl
theorem Zrn (x:Jm):(VM x)[1]? = some (.lst 3 (x.Params.map Vw)):=by rfl
theorem Zro (x:Jm):(VM x)[2]? = some (.lst 13 (x.Sites.map Zh)):=by rfl
theorem Zrp (x:Jm):(VM x)[3]? = some (.lst 3 (x.Links.map Ko)):=by rfl
structure RL (x:Jm):Prop where
 Name:x.Name.length≤140737488351232
 Params:x.Params.length * 32≤140737488351232∧∀ y ∈ x.Params,Zf4 y
 Sites:x.Sites.length * 304≤140737488351232∧∀ y ∈ x.Sites,YA y
 Links:x.Links.length * 40≤140737488351232∧∀ y ∈ x.Links,ZrH y
end Go.Proofs.YtlmfmmclnboglaaGreat
end
section
namespace Go.Proofs.YtlmfmmclnboglaaGreat
open Go Go.RowKit Go.Proofs.YtlmfmmclnboglaaGreat.Abs
set_option linter.all false
set_option maxRecDepth 100000
theorem Ro (l:List Int):(ints l).length=l.length:=by simp [ints]
theorem ZnJ (l:List (List UInt8)):(strs l).length=l.length:=by simp [strs]
theorem Zo4 {n:Int}(h1:-9223372036854775808≤n)(h2:n≤9223372036854775807):IntKind.i64.wrap n=n:=i64_in h1 h2
theorem ZjM {C:Cfg}(hC:Ud C)(N:Nat)(hN:1≤N)(hp:HP)(x:Int):Za C N Zaj [.int .i64 x] hp=some (.bool (inB x),hp,none):=by
 obtain ⟨m,rfl⟩:∃ m,N=m + 1:=⟨N - 1,by omega⟩
 exact Zsx hC m x hp
theorem BA {C:Cfg}(hC:Ud C)(N:Nat)(hN:2≤N)(hp:HP)(s:List UInt8)(hl:s.length≤140737488351232):Za C N K9 [.str s] hp=some (.int .i64 (R9 s),hp,none):=by
 obtain ⟨m,rfl⟩:∃ m,N=m + 2:=⟨N - 2,by omega⟩
 exact ZjL hC m s (by omega) hp
theorem O7 {C:Cfg}(K:KT)(hp0:HP)(a b:List Int)(ha:a.length≤4611686018427387)(hb:b.length≤4611686018427387):∀ (r1 r2 q1 q2:List Int) (m:Nat),a=q1 ++ r1→b=q2 ++ r2→q1.length=q2.length→r1.length=r2.length→r1.length < m →
  Qc C.G K C.L hp0 (Vb C.G K C.L hp0) m (.lst 1 (ints a)) (.lst 1 (ints b)) (.int .i64 (a.length:Int)) (.int .i64 (q1.length:Int)) hp0 none=some (.bool (decide (r1=r2)),hp0,none)
 | _,_,_,_,0,_,_,_,_,h=>by omega
 | [],[],q1,q2,m + 1,h1,h2,_,_,_=>by
  have l0:=lp0 h1
  simp only [Qc,Vb,EV,l0,Ro,Bool.false_eq_true,if_false,decide_true]
 | [],y :: r2,q1,q2,m + 1,_,_,_,h,_=>by simp at h
 | x :: r1,[],q1,q2,m + 1,_,_,_,h,_=>by simp at h
 | x :: r1,y :: r2,q1,q2,m + 1,h1,h2,hq,hr,hm=>by
  obtain ⟨a1,a2,a3,a4,_⟩:=lp (fun x=>[.int .i64 x]) h1 ha
  obtain ⟨_,b2,_,b4,_⟩:=lp (fun x=>[.int .i64 x]) h2 hb
  rw [← hq] at b2
  have ih:=O7 (C := C) K hp0 a b ha hb r1 r2 (q1 ++ [x]) (q2 ++ [y]) m a4 b4 (by simp [hq]) (by simpa using hr) (by simpa using hm)
  have g1:(ints a)[q1.length]? = some [.int .i64 x]:=a2
  have g2:(ints b)[q1.length]? = some [.int .i64 y]:=b2
  by_cases hxy:x=y
  ·subst hxy
   have hd:decide (x :: r1=x :: r2)=decide (r1=r2):=by by_cases h:r1=r2 <;> simp [h]
   simp only [Qc,EV,Ro,a1,a3,Qd,g1,g2,ih,hd,ne_eq,not_true_eq_false,decide_false,Bool.false_eq_true,if_false,if_true]
  ·have hd:decide (x :: r1=y :: r2)=false:=by simp [hxy]
   simp only [Qc,EV,Ro,a1,Qd,g1,g2,hd,hxy,ne_eq,not_false_eq_true,decide_true,if_true]
theorem Mt {C:Cfg}(hC:Ud C)(N:Nat)(hN:1≤N)(hp:HP)(a b:List Int)(ha:a.length≤4611686018427387)(hb:b.length≤4611686018427387):Za C N XU [.lst 1 (ints a),.lst 1 (ints b)] hp=some (.bool (decide (a=b)),hp,none):=by
 obtain ⟨m,rfl⟩:∃ m,N=m + 1:=⟨N - 1,by omega⟩
 refine Pi (by rw [hC.T]; rfl) ?_
 by_cases hab:a.length=b.length
 ·have h:=O7 (C := C) (Za C m) hp a b ha hb a b [] [] C.L rfl rfl rfl hab (by have:=hC.L; omega)
  have h1:((a.length:Int)=b.length):=by omega
  simp only [List.length_nil,Int.natCast_zero,h1] at h
  simp only [Ue,EV,Ro,h1,ne_eq,not_true_eq_false,decide_false,Bool.false_eq_true,if_false,h]
 ·have h1:¬ ((a.length:Int)=b.length):=by omega
  have h2:¬ a=b:=fun e=>hab (by rw [e])
  simp only [Ue,EV,Ro,h1,h2,ne_eq,not_false_eq_true,decide_true,decide_false,if_true]
def btw (x lo hi:Int):Bool:=decide (lo≤x) && decide (x≤hi)
def Znb (d:Pb):Bool :=
 if decide (d.Op=1)=true then decide ((d.Values.length:Int) + d.Weights.length=0) && decide (d.B=0) && decide (d.N=0)
 else if decide (d.Op=2)=true then decide ((d.Values.length:Int) + d.Weights.length=0) && decide (d.N=0)
 else if decide (d.Op=5)=true then decide ((d.Values.length:Int) + d.Weights.length=0) && decide (d.N=0)
 else if decide (d.Op=4)=true then decide ((d.Values.length:Int) + d.Weights.length=0)
 else if decide (d.Op=3)=true then decide (d.A=0) && decide (d.B=0) && decide (d.N=0)
 else false
theorem Pp.v {d:Pb}(h:Pp d):d.Values.length≤4611686018427387:=by have:=h.Values.1; omega
theorem Pp.w {d:Pb}(h:Pp d):d.Weights.length≤4611686018427387:=by have:=h.Weights.1; omega
theorem Pp.wr {d:Pb}(h:Pp d):IntKind.i64.wrap ((d.Values.length:Int) + (d.Weights.length:Int))=(d.Values.length:Int) + (d.Weights.length:Int):=by
 have:=h.v; have:=h.w; exact Zo4 (by omega) (by omega)
theorem Zes:(∀ d,(IL d).length=6)∧(∀ d,(IL d).map AV.ro=IL d)∧(∀ x,(IL x)[0]? = some (.int .i64 x.Op))∧(∀ x,(IL x)[1]? = some (.int .i64 x.A))∧(∀ x,(IL x)[2]? = some (.int .i64 x.B))∧(∀ x,(IL x)[3]? = some (.int .i64 x.N))∧(∀ x,(IL x)[4]? = some (.lst 1 (ints x.Values)))∧(∀ x,(IL x)[5]? = some (.lst 1 (ints x.Weights))):=⟨ZpG,Zrf,ZsW,ZsX,ZsY,ZsZ,Zta,Ztb⟩
theorem ZjF {C:Cfg}(hC:Ud C)(N:Nat)(hN:1≤N)(hp:HP)(d:Pb)(hd:Pp d):Za C N SH [.agg (IL d)] hp=some (.bool (Znb d),hp,none):=by
 obtain ⟨m,rfl⟩:∃ m,N=m + 1:=⟨N - 1,by omega⟩
 refine Zgl (by rw [hC.T]; rfl) ?_
 generalize Za C m=K at *
 simp only [Et,TR,Im,EV,LD,BL,IFJ,Nat.reduceAdd,Nat.reduceLeDiff,Nat.reduceBEq,GI,hd.wr,Zes,Ro,Znb]
def Zu5 (lo hi:Int)(x:Int):Bool:=decide (x < lo) || decide (hi < x)
def ZrQ {α:Type}(f:α→Bool):List α→Int→Int
 | [],_=>-1
 | x :: r,i=>if f x=true then i else ZrQ f r (i + 1)
theorem Zpk {α:Type}(f:α→Bool):∀ (l:List α) (i:Int),0≤i→decide (0≤ZrQ f l i)=l.any f
 | [],i,h=>by simp [ZrQ]
 | x :: r,i,h=>by
  have ih:=Zpk f r (i + 1) (by omega)
  cases hx:f x <;> simp [ZrQ,hx,h]
  simpa using ih
def EM (lo hi:Int)(l:List Int):Bool:=!(l.any (Zu5 lo hi))
def Zgk (d:Pb):Int :=
 if (!(Znb d))=true then 1
 else if decide (d.Op=1)=true then (if (!(EM 0 1000000000 [d.A]))=true then 2 else 0)
 else if decide (d.Op=2)=true then (if (!(EM 0 1000000000 [d.A,d.B] && decide (d.A≤d.B)))=true then 2 else 0)
 else if decide (d.Op=4)=true then (if (!(EM 1 20 [d.N] && EM 0 1000000 [d.A,d.B] && decide (d.A≤d.B)))=true then 2 else 0)
 else if decide (d.Op=5)=true then (if (!(EM 1 1000 [d.A,d.B]))=true then 2 else 0)
 else if decide (d.Op=3)=true then
  (if decide ((d.Values.length:Int)≠(d.Weights.length:Int))=true then 8 else if decide ((d.Values.length:Int)=0)=true then 7 else if decide (20 < (d.Values.length:Int))=true then 6
   else if (!(EM 0 1000000000 d.Values && EM 1 1000 d.Weights))=true then 2 else 0)
 else 2
theorem Zgo {C:Cfg}(hC:Ud C)(N:Nat)(hN:1≤N)(hp:HP)(x lo hi:Int)(g g2:Nat)(tg tg2:TypeId)(hg:hp[g]? = some (.cells [.int .i64 lo] tg))(hg2:hp[g2]? = some (.cells [.int .i64 hi] tg2)):Za C N M7 [.int .i64 x,.ptr g 0,.ptr g2 0] hp=some (.bool (Zu5 lo hi x),hp,none):=by
 obtain ⟨m,rfl⟩:∃ m,N=m + 1:=⟨N - 1,by omega⟩
 refine ZdP (by rw [hC.T]; rfl) ?_
 generalize Za C m=K at *
 simp only [Du,EV,LD,BL,IFJ,Nat.reduceAdd,Nat.reduceLeDiff,Nat.reduceBEq,GI,LG hg,LG hg2,Zu5,List.getElem?_cons_zero]
theorem Zey {C:Cfg}(K:KT)(hp0:HP)(fv:AV)(f:Int→Bool)(l:List Int)(hl:l.length≤4611686018427387)(hf:∀ x ∈ l,Vh K fv [.int .i64 x] hp0=some (.bool (f x),hp0,none)):∀ (r q:List Int) (m:Nat),l=q ++ r→r.length < m →
  WW C.G K C.L hp0 (Xm C.G K C.L hp0) m (.lst 1 (ints l)) fv (.int .i64 (l.length:Int)) (.int .i64 (q.length:Int)) hp0 none=some (.int .i64 (ZrQ f r q.length),hp0,none)
 | _,_,0,_,h=>by omega
 | [],q,m + 1,h,_=>by
  have l0:=lp0 h
  simp only [WW,Xm,EV,l0,ZrQ,IFJ]
 | x :: r,q,m + 1,h,hm=>by
  obtain ⟨a1,a2,a3,a4,a5⟩:=lp (fun x=>[.int .i64 x]) h hl
  have g1:(ints l)[q.length]? = some [.int .i64 x]:=a2
  have ih:=Zey (C := C) K hp0 fv f l hl hf r (q ++ [x]) m a4 (by simpa using hm)
  have a6:((q ++ [x]).length:Int)=(q.length:Int) + 1:=by simp
  have hc:=hf x a5
  simp only [WW,EV,a1,a3,Qd,g1,hc,ih,IFJ,ZrQ]
  rw [a6]
theorem LX {C:Cfg}(hC:Ud C)(N:Nat)(hN:2≤N)(hp:HP)(l:List Int)(hl:l.length≤4611686018427387)(g:FuncId)(c:List AV)(f:Int→Bool)(hf:∀ x ∈ l,Za C (N - 2) g ([.int .i64 x] ++ c.map AV.nm) hp=some (.bool (f x),hp,none)) :
  Za C N Jw [.lst 1 (ints l),.fn g [] c] hp=some (.bool (l.any f),hp,none):=by
 obtain ⟨m,rfl⟩:∃ m,N=m + 2:=⟨N - 2,by omega⟩
 refine Lg (by rw [hC.T]; rfl) ?_
 have h1:Za C (m + 1) Uv [.lst 1 (ints l),.fn g [] c] hp=some (.int .i64 (ZrQ f l 0),hp,none):=by
  refine RD (by rw [hC.T]; rfl) ?_
  have h:=Zey (C := C) (Za C m) hp (.fn g [] c) f l hl (fun x hx=>by rw [Pv]; exact hf x hx) l [] C.L rfl (by have:=hC.L; omega)
  simp only [U1,EV,Ro]
  exact h
 simp only [J3,EV,h1,Zpk f l 0 (by omega)]
theorem ZjG {C:Cfg}(hC:Ud C)(N:Nat)(hN:4≤N)(hp:HP)(lo hi:Int)(l:List Int)(hl:l.length≤4611686018427387):Za C N Ut [.int .i64 lo,.int .i64 hi,.lst 1 (ints l)] hp=some (.bool (EM lo hi l),hp,none):=by
 obtain ⟨m,rfl⟩:∃ m,N=m + 1:=⟨N - 1,by omega⟩
 refine Zgm (by rw [hC.T]; rfl) ?_
 have q:=LX hC m (by omega) (hp ++ [.cells [.int .i64 lo] ZaP] ++ [.cells [.int .i64 hi] ZaP]) l hl M7 [.ptr hp.length 0,.ptr (hp ++ [Zk.cells [.int .i64 lo] ZaP]).length 0] (Zu5 lo hi) fun x _=>Zgo hC (m - 2) (by omega) _ x lo hi _ _ _ _ (GY (ZY _ _) _) (ZY _ _)
 simp only [Eu,EV,LD,ZuC,q,EM]
theorem l1 (x:Int):([[AV.int .i64 x]]:List (List AV))=ints [x]:=rfl
theorem l2 (x y:Int):([[AV.int .i64 x],[AV.int .i64 y]]:List (List AV))=ints [x,y]:=rfl
theorem lw1 (x:Int):([x].length≤4611686018427387)=True:=by simp
theorem lw2 (x y:Int):([x,y].length≤4611686018427387)=True:=by simp
theorem Zew {C:Cfg}(hC:Ud C)(N:Nat)(hN:5≤N)(hp:HP)(d:Pb)(hd:Pp d):Za C N U7 [.agg (IL d)] hp=some (.int .i64 (Zgk d),hp,none):=by
 obtain ⟨m,rfl⟩:∃ m,N=m + 1:=⟨N - 1,by omega⟩
 have q0:=ZjF hC m (by omega)
 have q1:=ZjG hC m (by omega)
 refine Zia (by rw [hC.T]; rfl) ?_
 generalize Za C m=K at *
 simp only [Cc,EV,LD,BL,IFJ,Nat.reduceAdd,Nat.reduceLeDiff,Nat.reduceBEq,GI,q0,q1,hd,hd.v,hd.w,Zes,Ro,Zgk,LIT,l1 d.A,l1 d.N,l2 d.A d.B,lw1,lw2]
end Go.Proofs.YtlmfmmclnboglaaGreat
end
section
namespace Go.Proofs.YtlmfmmclnboglaaGreat
open Go Go.RowKit Go.Proofs.YtlmfmmclnboglaaGreat.Abs
set_option linter.all false
set_option maxRecDepth 100000
def Zu4 (op:Int):Bool:=decide (22≤op) && decide (op≤24)
def ZqF (op:Int):Int :=
 if (decide (op=1) || decide (op=2) || decide (op=3) || decide (op=4))=true then 0
 else if (decide (5≤op) && decide (op≤8))=true then 1
 else if (decide (9≤op) && decide (op≤21))=true then 2
 else if (decide (22≤op) && decide (op≤26))=true then 0 else -1
def Zpo (code:Bool)(op:Int):Bool :=
 if decide (op=3)=true then !code else if decide (op=25)=true then code else if decide (op=26)=true then code else decide (0≤ZqF op)
def Znv (code:Bool)(op:Int):Bool:=decide (op=3) || (Zu4 op && !code)
def ZrT (code:Bool)(op:Int):Int×Int×Bool :=
 if decide (op=2)=true then (0,1,true) else if decide (op=25)=true then (0,15,true) else if decide (op=26)=true then (0,31,true) else if (Zu4 op && code)=true then (0,63,true) else (0,0,false)
def Zob (code:Bool)(e:Vp):Int :=
 if (!(Zpo code e.Op) || decide ((e.Kids.length:Int)≠ZqF e.Op) || (decide (e.Name≠[]) && !(Znv code e.Op)))=true then 1
 else if decide (e.Op=1)=true then (if (!(inB e.N))=true then 2 else 0)
 else if (!(ZrT code e.Op).2.2 && decide (e.N≠0))=true then 1
 else if ((ZrT code e.Op).2.2 && (decide (e.N < (ZrT code e.Op).1) || decide ((ZrT code e.Op).2.1 < e.N)))=true then 2
 else if Znv code e.Op=true then R9 e.Name else 0
theorem Tj:(∀ d,(QO d).length=4)∧(∀ d,(QO d).map AV.ro=QO d)∧(∀ x,(QO x)[0]? = some (.int .i64 x.Op))∧(∀ x,(QO x)[1]? = some (.str x.Name))∧(∀ x,(QO x)[2]? = some (.int .i64 x.N))∧(∀ x,(QO x)[3]? = some (.lst 4 (x.Kids.map QO))):=⟨DZ,Zkq,Ztc,Ztd,Zte,Ztf⟩
theorem Zpn {x e:Vp}(h:x ∈ e.Kids):SizeOf.sizeOf x < SizeOf.sizeOf e:=by
 cases e
 have:=List.sizeOf_lt_of_mem h
 simp at *
 omega
theorem Zqg (e:Vp):0 < SizeOf.sizeOf e:=by cases e; simp; omega
theorem JH.k {e:Vp}(h:JH e):e.Kids.length≤4611686018427387:=by have:=h.Kids.1; omega
theorem JH.n {e:Vp}(h:JH e):e.Name.length≤140737488351232:=h.Name
theorem ONE:(∀ a:AV,[a].length=1)∧(∀ b:Bool,[AV.bool b].map AV.ro=[.bool b]):=⟨fun _=>rfl,fun _=>rfl⟩
theorem ZcM {C:Cfg}(hC:Ud C)(N:Nat)(hN:1≤N)(hp:HP)(op:Int):Za C N Bn [.int .i64 op] hp=some (.bool (Zu4 op),hp,none):=by
 obtain ⟨m,rfl⟩:∃ m,N=m + 1:=⟨N - 1,by omega⟩
 refine Zg6 (by rw [hC.T]; rfl) ?_
 generalize Za C m=K at *
 simp only [Ew,EV,LD,BL,IFJ,Nat.reduceAdd,Nat.reduceLeDiff,Nat.reduceBEq,GI,Zu4]
theorem Zgr {C:Cfg}(hC:Ud C)(N:Nat)(hN:1≤N)(hp:HP)(op:Int):Za C N BJ [.int .i64 op] hp=some (.int .i64 (ZqF op),hp,none):=by
 obtain ⟨m,rfl⟩:∃ m,N=m + 1:=⟨N - 1,by omega⟩
 refine ZjQ (by rw [hC.T]; rfl) ?_
 generalize Za C m=K at *
 simp only [Zbk,EV,LD,BL,IFJ,Nat.reduceAdd,Nat.reduceLeDiff,Nat.reduceBEq,GI,ZqF]
theorem ZbC {C:Cfg}(hC:Ud C)(N:Nat)(hN:2≤N)(hp:HP)(code:Bool)(op:Int):Za C N TY [.agg [.bool code],.int .i64 op] hp=some (.bool (Zpo code op),hp,none):=by
 obtain ⟨m,rfl⟩:∃ m,N=m + 1:=⟨N - 1,by omega⟩
 have q0:=Zgr hC m (by omega)
 refine Fb (by rw [hC.T]; rfl) ?_
 generalize Za C m=K at *
 simp only [Mf,EV,LD,BL,IFJ,Nat.reduceAdd,Nat.reduceLeDiff,Nat.reduceBEq,GI,q0,Zpo,GI,ONE]
theorem ZbD {C:Cfg}(hC:Ud C)(N:Nat)(hN:2≤N)(hp:HP)(code:Bool)(op:Int):Za C N Ht [.agg [.bool code],.int .i64 op] hp=some (.bool (Znv code op),hp,none):=by
 obtain ⟨m,rfl⟩:∃ m,N=m + 1:=⟨N - 1,by omega⟩
 have q0:=ZcM hC m (by omega)
 refine Fe (by rw [hC.T]; rfl) ?_
 generalize Za C m=K at *
 simp only [Mg,EV,LD,BL,IFJ,Nat.reduceAdd,Nat.reduceLeDiff,Nat.reduceBEq,GI,q0,Znv,GI,ONE]
theorem Cy {C:Cfg}(hC:Ud C)(N:Nat)(hN:2≤N)(hp:HP)(code:Bool)(op:Int):Za C N Oa [.agg [.bool code],.int .i64 op] hp=some (.tup [.int .i64 (ZrT code op).1,.int .i64 (ZrT code op).2.1,.bool (ZrT code op).2.2],hp,none):=by
 obtain ⟨m,rfl⟩:∃ m,N=m + 1:=⟨N - 1,by omega⟩
 have q0:=ZcM hC m (by omega)
 refine Eb (by rw [hC.T]; rfl) ?_
 generalize Za C m=K at *
 simp only [Ow,EV,LD,BL,IFJ,Nat.reduceAdd,Nat.reduceLeDiff,Nat.reduceBEq,GI,q0,ZrT,GI,ONE,TUP]
 (repeat' split) <;> rfl
theorem ZcG {C:Cfg}(hC:Ud C)(N:Nat)(hN:3≤N)(hp:HP)(code:Bool)(e:Vp)(he:JH e):Za C N M6 [.agg [.bool code],.agg (QO e)] hp=some (.int .i64 (Zob code e),hp,none):=by
 obtain ⟨m,rfl⟩:∃ m,N=m + 1:=⟨N - 1,by omega⟩
 have q0:=ZbC hC m (by omega)
 have q1:=Zgr hC m (by omega)
 have q2:=ZbD hC m (by omega)
 have q3:=ZjM hC m (by omega)
 have q4:=Cy hC m (by omega)
 have q5:=BA hC m (by omega)
 refine Zas (by rw [hC.T]; rfl) ?_
 generalize Za C m=K at *
 simp only [MP,EV,LD,BL,IFJ,Nat.reduceAdd,Nat.reduceLeDiff,Nat.reduceBEq,GI,q0,q1,q2,q3,q4,q5,he.n,Tj,Zob,GI,ONE,QC,EX]
mutual
def Au (code:Bool):Vp→Int
 | ⟨o,a,n,ks⟩=>if decide (Zob code ⟨o,a,n,ks⟩≠0)=true then Zob code ⟨o,a,n,ks⟩ else ZgT code ks
def ZgT (code:Bool):List Vp→Int
 | []=>0
 | x :: r=>if decide (Au code x≠0)=true then Au code x else ZgT code r
end
theorem Zjl (code:Bool):∀ l:List Vp,ZgT code l=Sy (Au code) l
 | []=>by rw [ZgT]; rfl
 | x :: r=>by rw [ZgT,Zjl code r]; rfl
theorem Zp0 (code:Bool)(e:Vp):Au code e=if decide (Zob code e≠0)=true then Zob code e else Sy (Au code) e.Kids:=by
 cases e; rw [Au,Zjl]
mutual
def Zo7:Vp→Int
 | ⟨_,_,_,ks⟩=>ZoU ks 1
def ZoU:List Vp→Int→Int
 | [],n=>n
 | x :: r,n=>ZoU r (IntKind.i64.wrap (n + Zo7 x))
end
theorem Znj:∀ (l:List Vp) (n:Int),ZoU l n=ZtA Zo7 l n
 | [],n=>by rw [ZoU]; rfl
 | x :: r,n=>by rw [ZoU,Znj r]; rfl
theorem Zsq (e:Vp):Zo7 e=ZtA Zo7 e.Kids 1:=by cases e; rw [Zo7,Znj]
mutual
def Znk:Vp→Int
 | ⟨_,_,_,ks⟩=>IntKind.i64.wrap (ZoW ks 0 + 1)
def ZoW:List Vp→Int→Int
 | [],n=>n
 | x :: r,n=>ZoW r (if Znk x > n then Znk x else n)
end
theorem Znl:∀ (l:List Vp) (n:Int),ZoW l n=Zt3 Znk l n
 | [],n=>by rw [ZoW]; rfl
 | x :: r,n=>by rw [ZoW,Znl r]; rfl
theorem Zss (e:Vp):Znk e=IntKind.i64.wrap (Zt3 Znk e.Kids 0 + 1):=by cases e; rw [Znk,Znl]
section
variable {C:Cfg}(hp0:HP)
theorem CE (K:KT)(l:List Vp)(hl:l.length≤4611686018427387)(hK:∀ x ∈ l,∀ hp,K Oc [.agg (QO x)] hp=some (.int .i64 (Zo7 x),hp,none)):∀ (r q:List Vp) (m:Nat) (hp:HP) (n:Int),l=q ++ r→r.length < m→hp0.length≤hp.length →
  UQ C.G K C.L hp0 (Oy C.G K C.L hp0) m (.int .i64 n) (.int .i64 n) (.lst 4 (l.map QO)) (.int .i64 (l.length:Int)) (.int .i64 (q.length:Int)) hp none=some (.int .i64 (ZtA Zo7 r n),hp0,none)
 | _,_,0,_,_,_,h,_=>by omega
 | [],q,m + 1,hp,n,h,_,hh=>by
  have l0:=lp0 h
  simp only [UQ,Oy,EV,l0,ZtA,IFJ]
 | x :: r,q,m + 1,hp,n,h,hm,hh=>by
  obtain ⟨a1,a2,a3,a4,a5⟩:=lp QO h hl
  have ih:=CE K l hl hK r (q ++ [x]) m (hp ++ [.cells (QO x) Qm]) (IntKind.i64.wrap (n + Zo7 x)) a4 (by simpa using hm) (by simp; omega)
  have hc:=hK x a5
  have st:=Zaf hp0.length 4 hp [(.int .i64 0),(.str []),(.int .i64 0),(.own 4 [])] (QO x) Qm none (DZ x) rfl hh
  simp only [UQ,EV,LD,Tj,a1,a2,a3,Qd,st,hc,ih,IFJ,ZtA]
theorem CB (K:KT)(l:List Vp)(hl:l.length≤4611686018427387)(hK:∀ x ∈ l,∀ hp,K Ob [.agg (QO x)] hp=some (.int .i64 (Znk x),hp,none)):∀ (r q:List Vp) (m:Nat) (hp:HP) (n:Int),l=q ++ r→r.length < m→hp0.length≤hp.length →
  UO C.G K C.L hp0 (Ox C.G K C.L hp0) m (.int .i64 n) (.lst 4 (l.map QO)) (.int .i64 (l.length:Int)) (.int .i64 (q.length:Int)) hp none=some (.int .i64 (IntKind.i64.wrap (Zt3 Znk r n + 1)),hp0,none)
 | _,_,0,_,_,_,h,_=>by omega
 | [],q,m + 1,hp,n,h,_,hh=>by
  have l0:=lp0 h
  simp only [UO,Ox,EV,l0,Zt3,IFJ]
 | x :: r,q,m + 1,hp,n,h,hm,hh=>by
  obtain ⟨a1,a2,a3,a4,a5⟩:=lp QO h hl
  have ih:=CB K l hl hK r (q ++ [x]) m (hp ++ [.cells (QO x) Qm]) (if Znk x > n then Znk x else n) a4 (by simpa using hm) (by simp; omega)
  have hc:=hK x a5
  have st:=Zaf hp0.length 4 hp [(.int .i64 0),(.str []),(.int .i64 0),(.own 4 [])] (QO x) Qm none (DZ x) rfl hh
  simp only [UO,EV,LD,Tj,a1,a2,a3,Qd,st,hc,max2,ih,IFJ,Zt3]
theorem L6 (K:KT)(code:Bool)(g:Nat)(tg:TypeId)(l:List Vp)(hl:l.length≤4611686018427387)(hK:∀ x ∈ l,∀ hp,K VE [.agg [.bool code],.agg (QO x)] hp=some (.int .i64 (Au code x),hp,none)):∀ (r q:List Vp) (m:Nat) (hp:HP),l=q ++ r→r.length < m→hp0.length≤hp.length→hp[g]? = some (.cells [.bool code] tg) →
  XK C.G K C.L hp0 (Jr C.G K C.L hp0) m (.ptr g 0) (.lst 4 (l.map QO)) (.int .i64 (l.length:Int)) (.int .i64 (q.length:Int)) hp none=some (.int .i64 (Sy (Au code) r),hp0,none)
 | _,_,0,_,_,h,_,_=>by omega
 | [],q,m + 1,hp,h,_,hh,hg=>by
  have l0:=lp0 h
  simp only [XK,Jr,EV,l0,Sy,IFJ]
 | x :: r,q,m + 1,hp,h,hm,hh,hg=>by
  obtain ⟨a1,a2,a3,a4,a5⟩:=lp QO h hl
  have ih:=L6 K code g tg l hl hK r (q ++ [x]) m (hp ++ [.cells (QO x) Qm]) a4 (by simpa using hm) (by simp; omega) (GY hg _)
  have hc:=hK x a5
  have st:=Zaf hp0.length 4 hp [(.int .i64 0),(.str []),(.int .i64 0),(.own 4 [])] (QO x) Qm none (DZ x) rfl hh
  simp only [XK,EV,LD,LG hg,ONE,Tj,a1,a2,a3,Qd,st,hc,ih,IFJ,Sy]
end
theorem ZaH {C:Cfg}(hC:Ud C):∀ (k N:Nat) (hN:k + 1≤N) (e:Vp),SizeOf.sizeOf e≤k→JH e→∀ hp:HP,Za C N Oc [.agg (QO e)] hp=some (.int .i64 (Zo7 e),hp,none)
 | 0,_,_,e,he,_,_=>absurd he (by have:=Zqg e; omega)
 | k + 1,N,hN,e,he,ok,hp=>by
  obtain ⟨m,rfl⟩:∃ m,N=m + 1:=⟨N - 1,by omega⟩
  have hK:∀ x ∈ e.Kids,∀ hp,Za C m Oc [.agg (QO x)] hp=some (.int .i64 (Zo7 x),hp,none):=fun x hx hp=>ZaH hC k m (by omega) x (by have:=Zpn hx; omega) (ok.Kids.2 x hx) hp
  refine Zio (by rw [hC.T]; rfl) ?_
  have hL:e.Kids.length < C.L:=by have:=hC.L; have:=ok.k; omega
  have h:=CE (C := C) hp (Za C m) e.Kids ok.k hK e.Kids [] C.L (hp ++ [.cells (QO e) Qm]) 1 rfl hL (by simp)
  simp only [List.length_nil,Int.natCast_zero] at h
  simp only [Cg,EV,LD,BL,IFJ,Tj,ok,ok.k,ok.n,h]
  rw [Zsq]
theorem ZkZ {C:Cfg}(hC:Ud C)(N:Nat)(hp:HP)(e:Vp)(hN:SizeOf.sizeOf e + 1≤N)(ok:JH e):Za C N Oc [.agg (QO e)] hp=some (.int .i64 (Zo7 e),hp,none):=ZaH hC _ N hN e (Nat.le_refl _) ok hp
theorem ZaG {C:Cfg}(hC:Ud C):∀ (k N:Nat) (hN:k + 1≤N) (e:Vp),SizeOf.sizeOf e≤k→JH e→∀ hp:HP,Za C N Ob [.agg (QO e)] hp=some (.int .i64 (Znk e),hp,none)
 | 0,_,_,e,he,_,_=>absurd he (by have:=Zqg e; omega)
 | k + 1,N,hN,e,he,ok,hp=>by
  obtain ⟨m,rfl⟩:∃ m,N=m + 1:=⟨N - 1,by omega⟩
  have hK:∀ x ∈ e.Kids,∀ hp,Za C m Ob [.agg (QO x)] hp=some (.int .i64 (Znk x),hp,none):=fun x hx hp=>ZaG hC k m (by omega) x (by have:=Zpn hx; omega) (ok.Kids.2 x hx) hp
  refine Zin (by rw [hC.T]; rfl) ?_
  have hL:e.Kids.length < C.L:=by have:=hC.L; have:=ok.k; omega
  have h:=CB (C := C) hp (Za C m) e.Kids ok.k hK e.Kids [] C.L (hp ++ [.cells (QO e) Qm]) 0 rfl hL (by simp)
  simp only [List.length_nil,Int.natCast_zero] at h
  simp only [Cf,EV,LD,BL,IFJ,Tj,ok,ok.k,ok.n,h]
  rw [Zss]
theorem ZkY {C:Cfg}(hC:Ud C)(N:Nat)(hp:HP)(e:Vp)(hN:SizeOf.sizeOf e + 1≤N)(ok:JH e):Za C N Ob [.agg (QO e)] hp=some (.int .i64 (Znk e),hp,none):=ZaG hC _ N hN e (Nat.le_refl _) ok hp
theorem R7 {C:Cfg}(hC:Ud C)(code:Bool):∀ (k N:Nat) (hN:k + 4≤N) (e:Vp),SizeOf.sizeOf e≤k→JH e→∀ hp:HP,Za C N VE [.agg [.bool code],.agg (QO e)] hp=some (.int .i64 (Au code e),hp,none)
 | 0,_,_,e,he,_,_=>absurd he (by have:=Zqg e; omega)
 | k + 1,N,hN,e,he,ok,hp=>by
  obtain ⟨m,rfl⟩:∃ m,N=m + 1:=⟨N - 1,by omega⟩
  have hK:∀ x ∈ e.Kids,∀ hp,Za C m VE [.agg [.bool code],.agg (QO x)] hp=some (.int .i64 (Au code x),hp,none):=fun x hx hp=>R7 hC code k m (by omega) x (by have:=Zpn hx; omega) (ok.Kids.2 x hx) hp
  have q0:=ZcG hC m (by omega)
  refine Ff (by rw [hC.T]; rfl) ?_
  have hL:e.Kids.length < C.L:=by have:=hC.L; have:=ok.k; omega
  have h:=L6 (C := C) hp (Za C m) code hp.length Hr e.Kids ok.k hK e.Kids [] C.L (hp ++ [.cells [.bool code] Hr] ++ [.cells (QO e) Qm]) rfl hL (by simp) (GY (ZY _ _) _)
  simp only [List.length_nil,Int.natCast_zero] at h
  simp only [Mh,EV,LD,BL,IFJ,Tj,ok,ok.k,ok.n,ONE,GI,q0,h]
  rw [Zp0]
theorem ZbE {C:Cfg}(hC:Ud C)(code:Bool)(N:Nat)(hp:HP)(e:Vp)(hN:SizeOf.sizeOf e + 4≤N)(ok:JH e):Za C N VE [.agg [.bool code],.agg (QO e)] hp=some (.int .i64 (Au code e),hp,none):=R7 hC code _ N hN e (Nat.le_refl _) ok hp
def Dr (code:Bool)(e:Vp):Int:=if decide (60 < Zo7 e)=true then 6 else if decide (12 < Znk e)=true then 11 else Au code e
theorem ZbB {C:Cfg}(hC:Ud C)(N:Nat)(hp:HP)(code:Bool)(e:Vp)(hN:SizeOf.sizeOf e + 5≤N)(ok:JH e):Za C N TW [.agg [.bool code],.agg (QO e)] hp=some (.int .i64 (Dr code e),hp,none):=by
 obtain ⟨m,rfl⟩:∃ m,N=m + 1:=⟨N - 1,by omega⟩
 have q0:=fun hp=>ZkZ hC m hp e (by omega) ok
 have q1:=fun hp=>ZkY hC m hp e (by omega) ok
 have q2:=fun hp=>ZbE hC code m hp e (by omega) ok
 refine Fa (by rw [hC.T]; rfl) ?_
 simp only [Me,EV,LD,BL,IFJ,Tj,ok,Dr,ONE,q0,q1,q2]
theorem C9 {C:Cfg}(hC:Ud C)(N:Nat)(hp:HP)(e:Vp)(hN:SizeOf.sizeOf e + 6≤N)(ok:JH e):Za C N U8 [.agg (QO e)] hp=some (.int .i64 (Dr false e),hp,none):=by
 obtain ⟨m,rfl⟩:∃ m,N=m + 1:=⟨N - 1,by omega⟩
 have q0:=fun hp=>ZbB hC m hp false e (by omega) ok
 refine Zim (by rw [hC.T]; rfl) ?_
 simp only [Ce,EV,LD,BL,IFJ,Tj,ok,ZuE,q0]
end Go.Proofs.YtlmfmmclnboglaaGreat
end
section
namespace Go.Proofs.YtlmfmmclnboglaaGreat
open Go Go.RowKit Go.Proofs.YtlmfmmclnboglaaGreat.Abs
set_option linter.all false
set_option maxRecDepth 100000
structure Zne where
 name:Bool
 of_:Bool
 e:Bool
 f:Bool
 args:Bool
 dist:Bool
 flag:Bool
 body:Bool
 other:Bool
 deriving DecidableEq
def Mi (u:Zne):List AV:=[.bool u.name,.bool u.of_,.bool u.e,.bool u.f,.bool u.args,.bool u.dist,.bool u.flag,.bool u.body,.bool u.other]
theorem Zjv:(∀ u,(Mi u).length=9)∧(∀ u,(Mi u).map AV.ro=Mi u)∧(∀ u,(Mi u)[0]? = some (.bool u.name))∧(∀ u,(Mi u)[1]? = some (.bool u.of_))∧(∀ u,(Mi u)[2]? = some (.bool u.e))∧(∀ u,(Mi u)[3]? = some (.bool u.f))∧(∀ u,(Mi u)[4]? = some (.bool u.args))∧(∀ u,(Mi u)[5]? = some (.bool u.dist))∧(∀ u,(Mi u)[6]? = some (.bool u.flag))∧(∀ u,(Mi u)[7]? = some (.bool u.body))∧(∀ u,(Mi u)[8]? = some (.bool u.other))∧(∀ (bs:Nat) (hp:List Zk) (u:Zne),ZdW bs hp (.agg (Mi u))=some (.agg (Mi u)))∧(∀ u,AV.nm (.agg (Mi u))=.agg (Mi u)):=⟨fun _=>rfl,fun _=>rfl,fun _=>rfl,fun _=>rfl,fun _=>rfl,fun _=>rfl,fun _=>rfl,fun _=>rfl,fun _=>rfl,fun _=>rfl,fun _=>rfl,fun _ _ _=>rfl,fun _=>rfl⟩
def Zqh (op:Int):Zne×Bool:=if decide (op=1)=true then (⟨true,false,true,false,false,false,false,false,false⟩,true) else if decide (op=7)=true then (⟨true,false,true,false,false,false,false,false,false⟩,true) else if decide (op=8)=true then (⟨true,false,true,false,false,false,false,false,false⟩,true) else if decide (op=12)=true then (⟨true,false,true,false,false,false,false,false,false⟩,true) else if decide (op=15)=true then (⟨true,false,true,false,false,false,false,false,false⟩,true) else if decide (op=16)=true then (⟨true,false,true,false,false,false,false,false,false⟩,true) else if decide (op=17)=true then (⟨true,false,true,false,false,false,false,false,false⟩,true) else if decide (op=2)=true then (⟨true,true,false,false,false,true,false,false,false⟩,true) else if decide (op=3)=true then (⟨false,false,true,false,false,false,false,true,true⟩,true) else if decide (op=4)=true then (⟨false,false,true,false,false,false,false,true,false⟩,true) else if decide (op=5)=true then (⟨false,false,true,false,false,false,false,false,false⟩,true) else if decide (op=6)=true then (⟨true,false,true,true,false,false,true,false,false⟩,true) else if decide (op=9)=true then (⟨true,true,false,false,false,false,false,false,false⟩,true) else if decide (op=10)=true then (⟨true,false,false,false,false,false,false,false,false⟩,true) else if decide (op=11)=true then (⟨true,false,false,false,false,false,false,false,false⟩,true) else if decide (op=13)=true then (⟨true,true,true,false,true,false,false,false,false⟩,true) else if decide (op=14)=true then (⟨true,false,true,false,true,false,false,false,false⟩,true) else if decide (op=18)=true then (⟨false,false,false,false,false,false,false,false,false⟩,true) else (⟨false,false,false,false,false,false,false,false,false⟩,false)
theorem ZuA:(fill [AV.bool false,AV.bool false,AV.bool false,AV.bool false,AV.bool false,AV.bool false,AV.bool false,AV.bool false,AV.bool false] []=some (Mi ⟨false,false,false,false,false,false,false,false,false⟩))∧(fill [AV.bool false,AV.bool false,AV.bool false,AV.bool false,AV.bool false,AV.bool false,AV.bool false,AV.bool false,AV.bool false] [(0,1,.bool true),(2,1,.bool true)]=some (Mi ⟨true,false,true,false,false,false,false,false,false⟩))∧(fill [AV.bool false,AV.bool false,AV.bool false,AV.bool false,AV.bool false,AV.bool false,AV.bool false,AV.bool false,AV.bool false] [(0,1,.bool true),(1,1,.bool true),(5,1,.bool true)]=some (Mi ⟨true,true,false,false,false,true,false,false,false⟩))∧(fill [AV.bool false,AV.bool false,AV.bool false,AV.bool false,AV.bool false,AV.bool false,AV.bool false,AV.bool false,AV.bool false] [(2,1,.bool true),(7,1,.bool true),(8,1,.bool true)]=some (Mi ⟨false,false,true,false,false,false,false,true,true⟩))∧(fill [AV.bool false,AV.bool false,AV.bool false,AV.bool false,AV.bool false,AV.bool false,AV.bool false,AV.bool false,AV.bool false] [(2,1,.bool true),(7,1,.bool true)]=some (Mi ⟨false,false,true,false,false,false,false,true,false⟩))∧(fill [AV.bool false,AV.bool false,AV.bool false,AV.bool false,AV.bool false,AV.bool false,AV.bool false,AV.bool false,AV.bool false] [(2,1,.bool true)]=some (Mi ⟨false,false,true,false,false,false,false,false,false⟩))∧(fill [AV.bool false,AV.bool false,AV.bool false,AV.bool false,AV.bool false,AV.bool false,AV.bool false,AV.bool false,AV.bool false] [(0,1,.bool true),(2,1,.bool true),(3,1,.bool true),(6,1,.bool true)]=some (Mi ⟨true,false,true,true,false,false,true,false,false⟩))∧(fill [AV.bool false,AV.bool false,AV.bool false,AV.bool false,AV.bool false,AV.bool false,AV.bool false,AV.bool false,AV.bool false] [(0,1,.bool true),(1,1,.bool true)]=some (Mi ⟨true,true,false,false,false,false,false,false,false⟩))∧(fill [AV.bool false,AV.bool false,AV.bool false,AV.bool false,AV.bool false,AV.bool false,AV.bool false,AV.bool false,AV.bool false] [(0,1,.bool true)]=some (Mi ⟨true,false,false,false,false,false,false,false,false⟩))∧(fill [AV.bool false,AV.bool false,AV.bool false,AV.bool false,AV.bool false,AV.bool false,AV.bool false,AV.bool false,AV.bool false] [(0,1,.bool true),(1,1,.bool true),(2,1,.bool true),(4,1,.bool true)]=some (Mi ⟨true,true,true,false,true,false,false,false,false⟩))∧(fill [AV.bool false,AV.bool false,AV.bool false,AV.bool false,AV.bool false,AV.bool false,AV.bool false,AV.bool false,AV.bool false] [(0,1,.bool true),(2,1,.bool true),(4,1,.bool true)]=some (Mi ⟨true,false,true,false,true,false,false,false,false⟩)):=⟨rfl,rfl,rfl,rfl,rfl,rfl,rfl,rfl,rfl,rfl,rfl⟩
theorem Zvh:([AV.bool false,AV.bool false,AV.bool false,AV.bool false,AV.bool false,AV.bool false,AV.bool false,AV.bool false,AV.bool false]:List AV).length=9:=rfl
theorem Zvd (op:Int):1≤op∧op≤18→op=1∨op=2∨op=3∨op=4∨op=5∨op=6∨op=7∨op=8∨op=9∨op=10∨op=11∨op=12∨op=13∨op=14∨op=15∨op=16∨op=17∨op=18:=by omega
theorem Ztw (op:Int)(hp:HP):(if decide (op=1)=true then some (.tup [.agg (Mi ⟨true,false,true,false,false,false,false,false,false⟩),.bool true],hp,none) else if decide (op=7)=true then some (.tup [.agg (Mi ⟨true,false,true,false,false,false,false,false,false⟩),.bool true],hp,none) else if decide (op=8)=true then some (.tup [.agg (Mi ⟨true,false,true,false,false,false,false,false,false⟩),.bool true],hp,none) else if decide (op=12)=true then some (.tup [.agg (Mi ⟨true,false,true,false,false,false,false,false,false⟩),.bool true],hp,none) else if decide (op=15)=true then some (.tup [.agg (Mi ⟨true,false,true,false,false,false,false,false,false⟩),.bool true],hp,none) else if decide (op=16)=true then some (.tup [.agg (Mi ⟨true,false,true,false,false,false,false,false,false⟩),.bool true],hp,none) else if decide (op=17)=true then some (.tup [.agg (Mi ⟨true,false,true,false,false,false,false,false,false⟩),.bool true],hp,none) else if decide (op=2)=true then some (.tup [.agg (Mi ⟨true,true,false,false,false,true,false,false,false⟩),.bool true],hp,none) else if decide (op=3)=true then some (.tup [.agg (Mi ⟨false,false,true,false,false,false,false,true,true⟩),.bool true],hp,none) else if decide (op=4)=true then some (.tup [.agg (Mi ⟨false,false,true,false,false,false,false,true,false⟩),.bool true],hp,none) else if decide (op=5)=true then some (.tup [.agg (Mi ⟨false,false,true,false,false,false,false,false,false⟩),.bool true],hp,none) else if decide (op=6)=true then some (.tup [.agg (Mi ⟨true,false,true,true,false,false,true,false,false⟩),.bool true],hp,none) else if decide (op=9)=true then some (.tup [.agg (Mi ⟨true,true,false,false,false,false,false,false,false⟩),.bool true],hp,none) else if decide (op=10)=true then some (.tup [.agg (Mi ⟨true,false,false,false,false,false,false,false,false⟩),.bool true],hp,none) else if decide (op=11)=true then some (.tup [.agg (Mi ⟨true,false,false,false,false,false,false,false,false⟩),.bool true],hp,none) else if decide (op=13)=true then some (.tup [.agg (Mi ⟨true,true,true,false,true,false,false,false,false⟩),.bool true],hp,none) else if decide (op=14)=true then some (.tup [.agg (Mi ⟨true,false,true,false,true,false,false,false,false⟩),.bool true],hp,none) else if decide (op=18)=true then some (.tup [.agg (Mi ⟨false,false,false,false,false,false,false,false,false⟩),.bool true],hp,none) else some (.tup [.agg (Mi ⟨false,false,false,false,false,false,false,false,false⟩),.bool false],hp,none):KR)=some (.tup [.agg (Mi (Zqh op).1),.bool (Zqh op).2],hp,none):=by
 by_cases h:1≤op∧op≤18
 ·rcases Zvd op h with rfl | rfl | rfl | rfl | rfl | rfl | rfl | rfl | rfl | rfl | rfl | rfl | rfl | rfl | rfl | rfl | rfl | rfl <;> rfl
 ·have f:∀ k:Int,1≤k→k≤18→decide (op=k)=false:=fun k h1 h2=>by simp only [decide_eq_false_iff_not]; omega
  simp only [Zqh,f 1 (by omega) (by omega),f 2 (by omega) (by omega),f 3 (by omega) (by omega),f 4 (by omega) (by omega),f 5 (by omega) (by omega),f 6 (by omega) (by omega),f 7 (by omega) (by omega),f 8 (by omega) (by omega),f 9 (by omega) (by omega),f 10 (by omega) (by omega),f 11 (by omega) (by omega),f 12 (by omega) (by omega),f 13 (by omega) (by omega),f 14 (by omega) (by omega),f 15 (by omega) (by omega),f 16 (by omega) (by omega),f 17 (by omega) (by omega),f 18 (by omega) (by omega),IFJ]
theorem Zms {C:Cfg}(hC:Ud C)(N:Nat)(hN:1≤N)(hp:HP)(op:Int):Za C N SY [.int .i64 op] hp=some (.tup [.agg (Mi (Zqh op).1),.bool (Zqh op).2],hp,none):=by
 obtain ⟨m,rfl⟩:∃ m,N=m + 1:=⟨N - 1,by omega⟩
 refine Zk1 (by rw [hC.T]; rfl) ?_
 generalize Za C m=K at *
 have sts:∀ (u:Zne),stV hp.length 9 (.ptr hp.length 0) (.agg (Mi u)) (hp ++ [.cells [AV.bool false,AV.bool false,AV.bool false,AV.bool false,AV.bool false,AV.bool false,AV.bool false,AV.bool false,AV.bool false] Gj]) none=some (hp ++ [.cells (Mi u) Gj],none):=fun u=>Zaf hp.length 9 hp [AV.bool false,AV.bool false,AV.bool false,AV.bool false,AV.bool false,AV.bool false,AV.bool false,AV.bool false,AV.bool false] (Mi u) Gj none rfl rfl (Nat.le_refl _)
 simp only [Zb9,JC,Rn,Gi,EV,LD,BL,IFJ,Nat.reduceAdd,Nat.reduceLeDiff,Nat.reduceBEq,GI,ZuA,sts,Zjv,TUP]
 exact Ztw op hp
theorem Zab:(∀ d,(QT d).length=21)∧(∀ d,(QT d).map AV.ro=QT d)∧(∀ x,((QT x).drop 3).take 4=QO x.E)∧(∀ x,((QT x).drop 7).take 4=QO x.F)∧(∀ x,((QT x).drop 12).take 6=IL x.Dist)∧(∀ x,(QT x)[0]? = some (.int .i64 x.Op))∧(∀ x,(QT x)[1]? = some (.str x.Name))∧(∀ x,(QT x)[2]? = some (.str x.Of))∧(∀ x,(QT x)[11]? = some (.lst 4 (x.Args.map QO)))∧(∀ x,(QT x)[18]? = some (.bool x.Flag))∧(∀ x,(QT x)[19]? = some (.lst 21 (x.Body.map QT)))∧(∀ x,(QT x)[20]? = some (.lst 21 (x.Else.map QT))):=⟨ZpN,Zr0,Zov,Zow,Zkt,Ztk,Ztl,Ztm,Zrw,Zrx,Zry,Zrz⟩
def Zo5 (e:Vp):Bool:=decide (e.Op=0) && decide (e.Name=[]) && decide (e.N=0) && decide ((e.Kids.length:Int)=0)
def Zme (d:Pb):Bool:=decide (d.Op=0) && decide (d.A=0) && decide (d.B=0) && decide (d.N=0) && decide (d.Values=[]) && decide (d.Weights=[])
theorem zx1:([.int .i64 0,.str [],.int .i64 0,.own 4 []]:List AV).length=4∧([.int .i64 0,.str [],.int .i64 0,.own 4 []]:List AV).map AV.ro=[.int .i64 0,.str [],.int .i64 0,.lst 4 []]:=⟨rfl,rfl⟩
theorem zd1:([.int .i64 0,.int .i64 0,.int .i64 0,.int .i64 0,.own 1 [],.own 1 []]:List AV).length=6:=rfl
theorem GI2:(∀ (α:Type) (a b c d e:α) (l:List α),(a :: b :: c :: d :: e :: l)[4]? = some e)∧(∀ (α:Type) (a b c d e f:α) (l:List α),(a :: b :: c :: d :: e :: f :: l)[5]? = some f):=⟨fun _ _ _ _ _ _ _=>rfl,fun _ _ _ _ _ _ _ _=>rfl⟩
theorem ZeR {C:Cfg}(hC:Ud C)(N:Nat)(hN:1≤N)(hp:HP)(e:Vp)(ok:JH e):Za C N SK [.agg (QO e),.agg [.int .i64 0,.str [],.int .i64 0,.own 4 []]] hp=some (.bool (Zo5 e),hp,none):=by
 obtain ⟨m,rfl⟩:∃ m,N=m + 1:=⟨N - 1,by omega⟩
 refine ZjP (by rw [hC.T]; rfl) ?_
 have n0:(([]:List (List AV)).length:Int)=0:=rfl
 obtain ⟨L,hL⟩:∃ L,C.L=L + 1:=⟨C.L - 1,by have:=hC.L; omega⟩
 by_cases hlen:e.Kids.length=0
 ·have h0:(e.Kids.length:Int)=0:=by omega
  have l0:decide ((0:Int) < 0)=false:=by decide
  simp only [Ev,EV,LD,BL,IFJ,Tj,zx1,GI,n0,h0,hL,Tx,Rl,l0,Zo5,ne_eq,not_true_eq_false,decide_false,decide_true]
  by_cases h1:e.Op=0 <;> by_cases h2:e.Name=[] <;> by_cases h3:e.N=0 <;> simp [h1,h2,h3]
 ·have h0:¬ (e.Kids.length:Int)=0:=by omega
  simp only [Ev,EV,LD,BL,IFJ,Tj,zx1,GI,n0,h0,Zo5,ne_eq,not_false_eq_true,decide_true,decide_false]
theorem Ao {C:Cfg}(hC:Ud C)(N:Nat)(hN:2≤N)(hp:HP)(d:Pb)(hd:Pp d):Za C N BI [.agg (IL d),.agg [.int .i64 0,.int .i64 0,.int .i64 0,.int .i64 0,.own 1 [],.own 1 []]] hp=some (.bool (Zme d),hp,none):=by
 obtain ⟨m,rfl⟩:∃ m,N=m + 1:=⟨N - 1,by omega⟩
 have q1:∀ hp,Za C m XU [.lst 1 (ints d.Values),.lst 1 []] hp=some (.bool (decide (d.Values=[])),hp,none):=fun hp=>Mt hC m (by omega) hp d.Values [] hd.v (by simp)
 have q2:∀ hp,Za C m XU [.lst 1 (ints d.Weights),.lst 1 []] hp=some (.bool (decide (d.Weights=[])),hp,none):=fun hp=>Mt hC m (by omega) hp d.Weights [] hd.w (by simp)
 refine ZjE (by rw [hC.T]; rfl) ?_
 simp only [Zbh,EV,LD,BL,IFJ,Zes,zd1,GI,GI2,q1,q2,Zme]
theorem Zt0:fill [(.int .i64 0),(.str []),(.int .i64 0),(.own 4 [])] []=some [(.int .i64 0),(.str []),(.int .i64 0),(.own 4 [])]∧fill [(.int .i64 0),(.int .i64 0),(.int .i64 0),(.int .i64 0),(.own 1 []),(.own 1 [])] []=some [(.int .i64 0),(.int .i64 0),(.int .i64 0),(.int .i64 0),(.own 1 []),(.own 1 [])]:=⟨rfl,rfl⟩
def ZqA (s:XX)(u:Zne):Bool :=
 (u.name || decide (s.Name=[])) && (u.of_ || decide (s.Of=[])) && (u.e || Zo5 s.E) && (u.f || Zo5 s.F) && (u.args || decide ((s.Args.length:Int)=0)) && (u.dist || Zme s.Dist) && (u.flag || !s.Flag) && (u.body || decide ((s.Body.length:Int)=0)) && (u.other || decide ((s.Else.length:Int)=0))
theorem ZjN {C:Cfg}(hC:Ud C)(N:Nat)(hN:2≤N)(hp:HP)(e:Vp)(ok:JH e):Za C N OI [.agg (QO e)] hp=some (.bool (Zo5 e),hp,none):=by
 obtain ⟨m,rfl⟩:∃ m,N=m + 1:=⟨N - 1,by omega⟩
 have q0:=ZeR hC m (by omega)
 refine Zh6 (by rw [hC.T]; rfl) ?_
 generalize Za C m=K at *
 simp only [EA,EV,LD,BL,IFJ,Nat.reduceAdd,Nat.reduceLeDiff,Nat.reduceBEq,GI,q0,ok,Tj,Zt0]
theorem Zmr {C:Cfg}(hC:Ud C)(N:Nat)(hN:3≤N)(hp:HP)(s:XX)(u:Zne)(ok:VO s):Za C N SX [.agg (QT s),.agg (Mi u)] hp=some (.bool (ZqA s u),hp,none):=by
 obtain ⟨m,rfl⟩:∃ m,N=m + 1:=⟨N - 1,by omega⟩
 have q0:=ZjN hC m (by omega)
 have q1:=Ao hC m (by omega)
 refine Zk0 (by rw [hC.T]; rfl) ?_
 generalize Za C m=K at *
 have cvf:∀ (a:List AV) (h:HP),Vh K (.fn OI [] []) a h=K OI (a ++ []) h:=fun _ _=>rfl
 have apn:∀ l:List AV,l ++ []=l:=List.append_nil
 simp only [Zb8,EV,LD,BL,IFJ,Nat.reduceAdd,Nat.reduceLeDiff,Nat.reduceBEq,GI,q0,q1,ok.E,ok.F,ok.Dist,Zab,Zjv,Tj,Zes,Zt0,ZqA,LDP,cvf,apn]
end Go.Proofs.YtlmfmmclnboglaaGreat
end
section
namespace Go.Proofs.YtlmfmmclnboglaaGreat
open Go Go.RowKit Go.Proofs.YtlmfmmclnboglaaGreat.Abs
set_option linter.all false
set_option maxRecDepth 100000
def rPN (b:Bool)(s:List UInt8):List AV:=[.bool b,.str s]
def rPE (b:Bool)(e:Vp):List AV:=.bool b :: QO e
theorem Zun:(∀ b s,(rPN b s).length=2)∧(∀ b s,(rPN b s).map AV.ro=rPN b s)∧(∀ b s,(rPN b s)[0]? = some (.bool b))∧(∀ b s,(rPN b s)[1]? = some (.str s))∧(∀ b s,fill [(.bool false),(.str [])] [(0,1,.bool b),(1,1,.str s)]=some (rPN b s)):=⟨fun _ _=>rfl,fun _ _=>rfl,fun _ _=>rfl,fun _ _=>rfl,fun _ _=>rfl⟩
theorem Zkr (b:Bool)(e:Vp):(rPE b e).length=5:=by simp [rPE,DZ]
theorem ZrZ (b:Bool)(e:Vp):(rPE b e).map AV.ro=rPE b e:=by simp [rPE,Zkq,AV.ro]
theorem Zum (b:Bool)(e:Vp):(rPE b e).all AV.noId1=true:=by rw [rPE,JF]; rfl
theorem Zrq (b:Bool)(e:Vp):fill [(.bool false),(.int .i64 0),(.str []),(.int .i64 0),(.own 4 [])] [(0,1,.bool b),(1,4,.agg (QO e))]=some (rPE b e):=by rw [rPE,JF]; rfl
theorem ZuP (b:Bool)(e:Vp):((rPE b e).drop 1).take 4=QO e:=by
 show (QO e).take 4=QO e
 rw [List.take_of_length_le (by rw [DZ]; omega)]
theorem ZuQ:(∀ b s,(rPE b s).length=5)∧(∀ b s,(rPE b s).map AV.ro=rPE b s)∧(∀ b s,(rPE b s)[0]? = some (.bool b))∧(∀ b e,((rPE b e).drop 1).take 4=QO e):=⟨Zkr,ZrZ,fun _ _=>rfl,ZuP⟩
theorem ZuI (t:TypeId)(a b:Bool)(x y:List UInt8)(hp:HP):Zeb t 2 [.agg (rPN a x),.agg (rPN b y)] hp=some (.own 2 [rPN a x,rPN b y],hp):=rfl
theorem ZuG (t:TypeId)(a b:Bool)(x y:Vp)(hp:HP):Zeb t 5 [.agg (rPE a x),.agg (rPE b y)] hp=some (.own 5 [rPE a x,rPE b y],hp):=by
 simp [Zeb,AV.cells,Zkr,ZrZ,Zum,-List.all_eq_true]
theorem nmE (e:Vp):AV.nm (.agg (QO e))=.agg (QO e):=Zrg e
def ZoB (s:XX)(u:Zne):List Vp→Int
 | []=>if u.dist=true then Zgk s.Dist else 0
 | x :: r=>if decide (Dr false x≠0)=true then Dr false x else ZoB s u r
def Zn7 (s:XX)(u:Zne):Int:=if decide (6 < (s.Args.length:Int))=true then 6 else ZoB s u s.Args
def ZpC (s:XX)(u:Zne):Int:=if (!u.f)=true then Zn7 s u else if decide (Dr false s.F≠0)=true then Dr false s.F else Zn7 s u
def Zn8 (s:XX)(u:Zne):Int:=if (!u.e)=true then ZpC s u else if decide (Dr false s.E≠0)=true then Dr false s.E else ZpC s u
def ZlD (s:XX)(u:Zne):Int :=
 if (u.name && decide (R9 s.Name≠0))=true then R9 s.Name else if (u.of_ && decide (R9 s.Of≠0))=true then R9 s.Of else Zn8 s u
theorem VO.a {s:XX}(h:VO s):s.Args.length≤4611686018427387:=by have:=h.Args.1; omega
theorem iaI (k:Nat)(r:List (List AV)):Qf (.slice k) (.lst k r) (.int .i64 0)=(r[0]?).map .ref∧Qf (.slice k) (.lst k r) (.int .i64 1)=(r[1]?).map .ref:=⟨Qd k r 0,Qd k r 1⟩
theorem w01:IntKind.i64.wrap (0 + 1)=1∧IntKind.i64.wrap (1 + 1)=2∧decide ((0:Int) < 2)=true∧decide ((1:Int) < 2)=true∧decide ((2:Int) < 2)=false∧(∀ (α:Type) (a b:α),(([a,b].length:Nat):Int)=2):=⟨by decide,by decide,by decide,by decide,by decide,fun _ _ _=>rfl⟩
section
variable {C:Cfg}(hC:Ud C)(hp0:HP)(s:XX)(u:Zne)(ok:VO s)(g g2:Nat)(tg tg2:TypeId)(K:KT)
include ok
theorem CP (hX:∀ x ∈ s.Args,∀ hp,K U8 [.agg (QO x)] hp=some (.int .i64 (Dr false x),hp,none))(hD:∀ hp,K U7 [.agg (IL s.Dist)] hp=some (.int .i64 (Zgk s.Dist),hp,none)):∀ (r q:List Vp) (m:Nat) (hp:HP),s.Args=q ++ r→r.length < m→hp0.length≤hp.length→hp[g]? = some (.cells (QT s) tg)→hp[g2]? = some (.cells (Mi u) tg2) →
  UX C.G K C.L hp0 (O6 C.G K C.L hp0) m (.ptr g 0) (.ptr g2 0) (.lst 4 (s.Args.map QO)) (.int .i64 (s.Args.length:Int)) (.int .i64 (q.length:Int)) hp none=some (.int .i64 (ZoB s u r),hp0,none)
 | _,_,0,_,_,h,_,_,_=>by omega
 | [],q,m + 1,hp,h,_,hh,hg,hg2=>by
  have l0:=lp0 h
  simp only [UX,O6,CO,Nat.reduceAdd,Nat.reduceLeDiff,Nat.reduceBEq,l0,LG hg,LG hg2,LGP hg,Zab,Zjv,Zes,hD,ZoB]
 | x :: r,q,m + 1,hp,h,hm,hh,hg,hg2=>by
  obtain ⟨a1,a2,a3,a4,a5⟩:=lp QO h ok.a
  have ih:=CP hX hD r (q ++ [x]) m (hp ++ [.cells (QO x) Qm]) a4 (by simpa using hm) (by simp; omega) (GY hg _) (GY hg2 _)
  have hc:=hX x a5
  have st:=Zaf hp0.length 4 hp [(.int .i64 0),(.str []),(.int .i64 0),(.own 4 [])] (QO x) Qm none (DZ x) rfl hh
  simp only [UX,CO,Nat.reduceAdd,Nat.reduceLeDiff,Nat.reduceBEq,Tj,a1,a2,a3,Qd,st,hc,ih,ZoB]
include hC
theorem Zg0 (hX:∀ x ∈ s.Args,∀ hp,K U8 [.agg (QO x)] hp=some (.int .i64 (Dr false x),hp,none))(hD:∀ hp,K U7 [.agg (IL s.Dist)] hp=some (.int .i64 (Zgk s.Dist),hp,none))(hp:HP)(hh:hp0.length≤hp.length)(hg:hp[g]? = some (.cells (QT s) tg))(hg2:hp[g2]? = some (.cells (Mi u) tg2)) :
  GM C.G K C.L hp0 (.ptr g 0) (.ptr g2 0) hp none=some (.int .i64 (Zn7 s u),hp0,none):=by
 have h:=CP (C := C) hp0 s u ok g g2 tg tg2 K hX hD s.Args [] C.L hp rfl (by have:=hC.L; have:=ok.a; omega) hh hg hg2
 simp only [List.length_nil,Int.natCast_zero] at h
 simp only [GM,CO,Nat.reduceAdd,Nat.reduceLeDiff,Nat.reduceBEq,LG hg,Zab,h,Zn7]
theorem Zg2 (hX:∀ x,(x=s.E∨x=s.F∨x ∈ s.Args)→∀ hp,K U8 [.agg (QO x)] hp=some (.int .i64 (Dr false x),hp,none))(hD:∀ hp,K U7 [.agg (IL s.Dist)] hp=some (.int .i64 (Zgk s.Dist),hp,none))(m:Nat)(hp:HP)(hh:hp0.length≤hp.length)(hg:hp[g]? = some (.cells (QT s) tg))(hg2:hp[g2]? = some (.cells (Mi u) tg2)) :
  UW C.G K C.L hp0 (GM C.G K C.L hp0) (m + 3) (.ptr g 0) (.ptr g2 0) (.lst 5 [rPE u.e s.E,rPE u.f s.F]) (.int .i64 2) (.int .i64 0) hp none=some (.int .i64 (Zn8 s u),hp0,none):=by
 have j:=fun hp h1 h2 h3=>Zg0 hC hp0 s u ok g g2 tg tg2 K (fun x hx=>hX x (.inr (.inr hx))) hD hp h1 h2 h3
 have j1:=j (hp ++ [.cells (rPE u.e s.E) WM] ++ [.cells (rPE u.f s.F) WM]) (by simp; omega) (GY (GY hg _) _) (GY (GY hg2 _) _)
 have st1:=Zaf hp0.length 5 hp [(.bool false),(.int .i64 0),(.str []),(.int .i64 0),(.own 4 [])] (rPE u.e s.E) WM none (Zkr _ _) rfl hh
 have st2:=Zaf hp0.length 5 (hp ++ [.cells (rPE u.e s.E) WM]) [(.bool false),(.int .i64 0),(.str []),(.int .i64 0),(.own 4 [])] (rPE u.f s.F) WM none (Zkr _ _) rfl (by simp; omega)
 have x1:=hX s.E (.inl rfl)
 have x2:=hX s.F (.inr (.inl rfl))
 simp only [UW,CO,Nat.reduceAdd,Nat.reduceLeDiff,Nat.reduceBEq,ZuQ,Tj,LDP,iaI,w01,st1,st2,x1,x2,j1,Zn8,ZpC]
theorem Zgz (hX:∀ x,(x=s.E∨x=s.F∨x ∈ s.Args)→∀ hp,K U8 [.agg (QO x)] hp=some (.int .i64 (Dr false x),hp,none))(hD:∀ hp,K U7 [.agg (IL s.Dist)] hp=some (.int .i64 (Zgk s.Dist),hp,none))(hp:HP)(hh:hp0.length≤hp.length)(hg:hp[g]? = some (.cells (QT s) tg))(hg2:hp[g2]? = some (.cells (Mi u) tg2)) :
  GL C.G K C.L hp0 (.ptr g 0) (.ptr g2 0) hp none=some (.int .i64 (Zn8 s u),hp0,none):=by
 obtain ⟨L,hL⟩:∃ L,C.L=L + 3:=⟨C.L - 3,by have:=hC.L; omega⟩
 have h:=Zg2 hC hp0 s u ok g g2 tg tg2 K hX hD L hp hh hg hg2
 rw [← hL] at h
 simp only [GL,CO,Nat.reduceAdd,Nat.reduceLeDiff,Nat.reduceBEq,LG hg,LG hg2,LGP hg,Zab,Zjv,Tj,nmE,Zrq,ZuG,w01,h]
theorem Zg1 (hX:∀ x,(x=s.E∨x=s.F∨x ∈ s.Args)→∀ hp,K U8 [.agg (QO x)] hp=some (.int .i64 (Dr false x),hp,none))(hD:∀ hp,K U7 [.agg (IL s.Dist)] hp=some (.int .i64 (Zgk s.Dist),hp,none))
  (hN:∀ hp n,n.length≤140737488351232→K K9 [.str n] hp=some (.int .i64 (R9 n),hp,none)) (m:Nat) (hp:HP) (hh:hp0.length≤hp.length) (hg:hp[g]? = some (.cells (QT s) tg)) (hg2:hp[g2]? = some (.cells (Mi u) tg2)) :
  GN C.G K C.L hp0 (GL C.G K C.L hp0) (m + 3) (.ptr g 0) (.ptr g2 0) (.lst 2 [rPN u.name s.Name,rPN u.of_ s.Of]) (.int .i64 2) (.int .i64 0) hp none=some (.int .i64 (ZlD s u),hp0,none):=by
 have j:=fun hp h1 h2 h3=>Zgz hC hp0 s u ok g g2 tg tg2 K hX hD hp h1 h2 h3
 have j1:=j (hp ++ [.cells (rPN u.name s.Name) WB] ++ [.cells (rPN u.of_ s.Of) WB]) (by simp; omega) (GY (GY hg _) _) (GY (GY hg2 _) _)
 have st1:=Zaf hp0.length 2 hp [(.bool false),(.str [])] (rPN u.name s.Name) WB none rfl rfl hh
 have st2:=Zaf hp0.length 2 (hp ++ [.cells (rPN u.name s.Name) WB]) [(.bool false),(.str [])] (rPN u.of_ s.Of) WB none rfl rfl (by simp; omega)
 simp only [GN,CO,Nat.reduceAdd,Nat.reduceLeDiff,Nat.reduceBEq,Zun,iaI,w01,st1,st2,hN,ok.Name,ok.Of,j1,ZlD]
end
theorem ZuW (s:XX):SizeOf.sizeOf s.E < SizeOf.sizeOf s∧SizeOf.sizeOf s.F < SizeOf.sizeOf s∧SizeOf.sizeOf s.Args < SizeOf.sizeOf s∧SizeOf.sizeOf s.Body < SizeOf.sizeOf s∧SizeOf.sizeOf s.Else < SizeOf.sizeOf s:=by
 cases s; simp; omega
theorem Zve {s:XX}{x:Vp}(h:x ∈ s.Args):SizeOf.sizeOf x < SizeOf.sizeOf s:=by
 have:=List.sizeOf_lt_of_mem h
 have:=(ZuW s).2.2.1
 omega
theorem Zlh {C:Cfg}(hC:Ud C)(N:Nat)(hp:HP)(s:XX)(u:Zne)(hN:SizeOf.sizeOf s + 8≤N)(ok:VO s):Za C N Po [.agg (QT s),.agg (Mi u)] hp=some (.int .i64 (ZlD s u),hp,none):=by
 obtain ⟨m,rfl⟩:∃ m,N=m + 1:=⟨N - 1,by omega⟩
 have z:=ZuW s
 have hX:∀ x,(x=s.E∨x=s.F∨x ∈ s.Args)→∀ hp,Za C m U8 [.agg (QO x)] hp=some (.int .i64 (Dr false x),hp,none):=fun x hx hp=>by
  rcases hx with rfl | rfl | hx
  ·exact C9 hC m hp s.E (by omega) ok.E
  ·exact C9 hC m hp s.F (by omega) ok.F
  ·exact C9 hC m hp x (by have:=Zve hx; omega) (ok.Args.2 x hx)
 have hD:=fun hp=>Zew hC m (by omega) hp s.Dist ok.Dist
 have hNm:=fun hp n h=>BA hC m (by omega) hp n h
 obtain ⟨L,hL⟩:∃ L,C.L=L + 3:=⟨C.L - 3,by have:=hC.L; omega⟩
 have h:=Zg1 hC hp s u ok hp.length (hp ++ [Zk.cells (QT s) Jb]).length Jb Gj (Za C m) hX hD hNm L (hp ++ [.cells (QT s) Jb] ++ [.cells (Mi u) Gj]) (by simp) (GY (ZY _ _) _) (ZY _ _)
 rw [← hL] at h
 refine ZiI (by rw [hC.T]; rfl) ?_
 simp only [Cx,CO,Nat.reduceAdd,Nat.reduceLeDiff,Nat.reduceBEq,Zab,Zjv,Zun,ZuI,w01,h]
def Zud (s:XX):Int:=if (!(Zqh s.Op).2 || !(ZqA s (Zqh s.Op).1))=true then 1 else ZlD s (Zqh s.Op).1
end Go.Proofs.YtlmfmmclnboglaaGreat
end
section
namespace Go.Proofs.YtlmfmmclnboglaaGreat
open Go Go.RowKit Go.Proofs.YtlmfmmclnboglaaGreat.Abs
set_option linter.all false
set_option maxRecDepth 100000
theorem zst:([(.int .i64 0),(.str []),(.str []),(.int .i64 0),(.str []),(.int .i64 0),(.own 4 []),(.int .i64 0),(.str []),(.int .i64 0),(.own 4 []),(.own 4 []),(.int .i64 0),(.int .i64 0),(.int .i64 0),(.int .i64 0),(.own 1 []),(.own 1 []),(.bool false),(.own 21 []),(.own 21 [])]:List AV).length=21:=rfl
mutual
def Zu2:XX→Int
 | ⟨_,_,_,_,_,_,_,_,b,e⟩=>IntKind.i64.wrap (Zbf b (b.length:Int) + Zbf e (e.length:Int))
def Zbf:List XX→Int→Int
 | [],n=>n
 | x :: r,n=>Zbf r (IntKind.i64.wrap (n + Zu2 x))
end
theorem ZoT (s:XX):Zu2 s=IntKind.i64.wrap (Zbf s.Body (s.Body.length:Int) + Zbf s.Else (s.Else.length:Int)):=by cases s; rw [Zu2]
def mx3 (a b c:Int):Int:=if c > (if b > a then b else a) then c else (if b > a then b else a)
theorem ZuJ (a b c:Int):ZrS [.int .i64 a,.int .i64 b,.int .i64 c]=some (.int .i64 (mx3 a b c)):=rfl
mutual
def Zu3:XX→Int→Int
 | ⟨_,_,_,_,_,_,_,_,b,e⟩,n=>mx3 n (IntKind.i64.wrap (1 + ZbA b 0)) (IntKind.i64.wrap (1 + ZbA e 0))
def ZbA:List XX→Int→Int
 | [],n=>n
 | x :: r,n=>ZbA r (Zu3 x n)
end
theorem ZoV (s:XX)(n:Int):Zu3 s n=mx3 n (IntKind.i64.wrap (1 + ZbA s.Body 0)) (IntKind.i64.wrap (1 + ZbA s.Else 0)):=by cases s; rw [Zu3]
mutual
def Zu1:XX→Int
 | ⟨a,b,c,d,e,f,g,h,i,j⟩=>if decide (Zud ⟨a,b,c,d,e,f,g,h,i,j⟩≠0)=true then Zud ⟨a,b,c,d,e,f,g,h,i,j⟩ else if decide (Ca i≠0)=true then Ca i else Ca j
def Ca:List XX→Int
 | []=>0
 | x :: r=>if decide (Zu1 x≠0)=true then Zu1 x else Ca r
end
theorem Zsp (s:XX):Zu1 s=if decide (Zud s≠0)=true then Zud s else if decide (Ca s.Body≠0)=true then Ca s.Body else Ca s.Else:=by cases s; rw [Zu1]
theorem Zsn (b:Bool)(p B E R:Int):(if b=true then 1 else if decide (p≠0)=true then p else if decide (B≠0)=true then B else if decide (E≠0)=true then E else R) =
  if decide ((if decide ((if b=true then 1 else p)≠0)=true then (if b=true then 1 else p) else if decide (B≠0)=true then B else E)≠0)=true then (if decide ((if b=true then 1 else p)≠0)=true then (if b=true then 1 else p) else if decide (B≠0)=true then B else E) else R:=by
 cases b <;> by_cases h1:p=0 <;> by_cases h2:B=0 <;> by_cases h3:E=0 <;> simp [h1,h2,h3]
theorem Zu7 {s:XX}{l:List XX}(h:s ∈ l):SizeOf.sizeOf s < SizeOf.sizeOf l∧SizeOf.sizeOf s.Body < SizeOf.sizeOf l∧SizeOf.sizeOf s.Else < SizeOf.sizeOf l:=by
 have:=List.sizeOf_lt_of_mem h
 have:=ZuW s
 omega
def Zqm (l:List XX):Prop:=l.length≤4611686018427387∧∀ s ∈ l,VO s
theorem VO.b {s:XX}(h:VO s):Zqm s.Body∧Zqm s.Else:=by
 have h1:=h.Body; have h2:=h.Else
 exact ⟨⟨by omega,h1.2⟩,by omega,h2.2⟩
theorem ZuX (l:List XX):0 < SizeOf.sizeOf l:=by cases l <;> simp <;> omega
section
variable {C:Cfg}(hp0:HP)(l:List XX)(hl:l.length≤4611686018427387)(K:KT)
include hl
theorem CG (hK:∀ x ∈ l,∀ hp,K U9 [.lst 21 (x.Body.map QT)] hp=some (.int .i64 (Zbf x.Body x.Body.length),hp,none)∧K U9 [.lst 21 (x.Else.map QT)] hp=some (.int .i64 (Zbf x.Else x.Else.length),hp,none)):∀ (r q:List XX) (m:Nat) (hp:HP) (n:Int),l=q ++ r→r.length < m→hp0.length≤hp.length →
  UT C.G K C.L hp0 (O3 C.G K C.L hp0) m (.int .i64 n) (.int .i64 n) (.lst 21 (l.map QT)) (.int .i64 (l.length:Int)) (.int .i64 (q.length:Int)) hp none=some (.int .i64 (Zbf r n),hp0,none)
 | _,_,0,_,_,_,h,_=>by omega
 | [],q,m + 1,hp,n,h,_,hh=>by
  have l0:=lp0 h
  simp only [UT,O3,CO,Nat.reduceAdd,Nat.reduceLeDiff,Nat.reduceBEq,List.length_cons,List.length_nil,l0,Zbf]
 | x :: r,q,m + 1,hp,n,h,hm,hh=>by
  obtain ⟨a1,a2,a3,a4,a5⟩:=lp QT h hl
  have ih:=CG hK r (q ++ [x]) m (hp ++ [.cells (QT x) Jb]) (IntKind.i64.wrap (n + Zu2 x)) a4 (by simpa using hm) (by simp; omega)
  have hc:=hK x a5 (hp ++ [.cells (QT x) Jb])
  rw [ZoT] at ih
  simp only [UT,CO,QC,Nat.reduceAdd,Nat.reduceLeDiff,Nat.reduceBEq,Zab,a1,a2,a3,Qd,STA hh,zst,hc,ih,Zbf,ZoT]
theorem CJ (hK:∀ x ∈ l,∀ hp,K UA [.lst 21 (x.Body.map QT)] hp=some (.int .i64 (ZbA x.Body 0),hp,none)∧K UA [.lst 21 (x.Else.map QT)] hp=some (.int .i64 (ZbA x.Else 0),hp,none)):∀ (r q:List XX) (m:Nat) (hp:HP) (n:Int),l=q ++ r→r.length < m→hp0.length≤hp.length →
  UU C.G K C.L hp0 (O4 C.G K C.L hp0) m (.int .i64 n) (.int .i64 n) (.lst 21 (l.map QT)) (.int .i64 (l.length:Int)) (.int .i64 (q.length:Int)) hp none=some (.int .i64 (ZbA r n),hp0,none)
 | _,_,0,_,_,_,h,_=>by omega
 | [],q,m + 1,hp,n,h,_,hh=>by
  have l0:=lp0 h
  simp only [UU,O4,CO,Nat.reduceAdd,Nat.reduceLeDiff,Nat.reduceBEq,List.length_cons,List.length_nil,l0,ZbA]
 | x :: r,q,m + 1,hp,n,h,hm,hh=>by
  obtain ⟨a1,a2,a3,a4,a5⟩:=lp QT h hl
  have ih:=CJ hK r (q ++ [x]) m (hp ++ [.cells (QT x) Jb]) (Zu3 x n) a4 (by simpa using hm) (by simp; omega)
  have hc:=hK x a5 (hp ++ [.cells (QT x) Jb])
  rw [ZoV] at ih
  simp only [UU,CO,QC,Nat.reduceAdd,Nat.reduceLeDiff,Nat.reduceBEq,Zab,a1,a2,a3,Qd,STA hh,zst,hc,ZuJ,ih,ZbA,ZoV]
theorem CL (hK:∀ x ∈ l,∀ hp,K UB [.lst 21 (x.Body.map QT)] hp=some (.int .i64 (Ca x.Body),hp,none)∧K UB [.lst 21 (x.Else.map QT)] hp=some (.int .i64 (Ca x.Else),hp,none))
  (hU:∀ hp op,K SY [.int .i64 op] hp=some (.tup [.agg (Mi (Zqh op).1),.bool (Zqh op).2],hp,none)) (hF:∀ x ∈ l,∀ u hp,K SX [.agg (QT x),.agg (Mi u)] hp=some (.bool (ZqA x u),hp,none)) (hP:∀ x ∈ l,∀ u hp,K Po [.agg (QT x),.agg (Mi u)] hp=some (.int .i64 (ZlD x u),hp,none)):∀ (r q:List XX) (m:Nat) (hp:HP),l=q ++ r→r.length < m→hp0.length≤hp.length →
  UV C.G K C.L hp0 (O5 C.G K C.L hp0) m (.lst 21 (l.map QT)) (.int .i64 (l.length:Int)) (.int .i64 (q.length:Int)) hp none=some (.int .i64 (Ca r),hp0,none)
 | _,_,0,_,_,h,_=>by omega
 | [],q,m + 1,hp,h,_,hh=>by
  have l0:=lp0 h
  simp only [UV,O5,CO,Nat.reduceAdd,Nat.reduceLeDiff,Nat.reduceBEq,List.length_cons,List.length_nil,l0,Ca]
 | x :: r,q,m + 1,hp,h,hm,hh=>by
  obtain ⟨a1,a2,a3,a4,a5⟩:=lp QT h hl
  have hh2:hp0.length≤(hp ++ [Zk.cells (QT x) Jb]).length:=by simp; omega
  have ih:=CL hK hU hF hP r (q ++ [x]) m (hp ++ [.cells (QT x) Jb] ++ [.cells (Mi (Zqh x.Op).1) Gj]) a4 (by simpa using hm) (by simp; omega)
  have hc:=fun hp=>hK x a5 hp
  have hf:=hF x a5
  have hp':=hP x a5
  simp only [UV,CO,QC,Nat.reduceAdd,Nat.reduceLeDiff,Nat.reduceBEq,Zab,Zjv,a1,a2,a3,Qd,STA hh,STA hh2,zst,Zvh,hU,hf,hp',hc,ih,Ca]
  rw [Zsp]
  unfold Zud
  exact congrArg (fun v:Int=>(some (AV.int .i64 v,hp0,none):KR)) (Zsn _ _ _ _ _)
end
theorem NC {C:Cfg}(hC:Ud C):∀ (k N:Nat) (hN:k + 1≤N) (l:List XX),SizeOf.sizeOf l≤k→Zqm l→∀ hp:HP,Za C N U9 [.lst 21 (l.map QT)] hp=some (.int .i64 (Zbf l (l.length:Int)),hp,none)
 | 0,_,_,l,he,_,_=>absurd he (by have:=ZuX l; omega)
 | k + 1,N,hN,l,he,ok,hp=>by
  obtain ⟨m,rfl⟩:∃ m,N=m + 1:=⟨N - 1,by omega⟩
  have hK:∀ x ∈ l,∀ hp,Za C m U9 [.lst 21 (x.Body.map QT)] hp=some (.int .i64 (Zbf x.Body (x.Body.length:Int)),hp,none)∧Za C m U9 [.lst 21 (x.Else.map QT)] hp=some (.int .i64 (Zbf x.Else (x.Else.length:Int)),hp,none):=fun x hx hp=>by
   have:=Zu7 hx
   have:=(ok.2 x hx).b
   exact ⟨NC hC k m (by omega) x.Body (by omega) this.1 hp,NC hC k m (by omega) x.Else (by omega) this.2 hp⟩
  have hL:l.length < C.L:=by have:=hC.L; have:=ok.1; omega
  have h:=CG (C := C) hp l ok.1 (Za C m) hK l [] C.L hp (l.length:Int) rfl hL (Nat.le_refl _)
  simp only [List.length_nil,Int.natCast_zero] at h
  refine ZiF (by rw [hC.T]; rfl) ?_
  simp only [Cu,EV,LD,BL,IFJ,h]
theorem Zle {C:Cfg}(hC:Ud C)(N:Nat)(hp:HP)(l:List XX)(hN:SizeOf.sizeOf l + 1≤N)(ok:Zqm l):Za C N U9 [.lst 21 (l.map QT)] hp=some (.int .i64 (Zbf l (l.length:Int)),hp,none):=NC hC _ N hN l (Nat.le_refl _) ok hp
theorem ND {C:Cfg}(hC:Ud C):∀ (k N:Nat) (hN:k + 1≤N) (l:List XX),SizeOf.sizeOf l≤k→Zqm l→∀ hp:HP,Za C N UA [.lst 21 (l.map QT)] hp=some (.int .i64 (ZbA l 0),hp,none)
 | 0,_,_,l,he,_,_=>absurd he (by have:=ZuX l; omega)
 | k + 1,N,hN,l,he,ok,hp=>by
  obtain ⟨m,rfl⟩:∃ m,N=m + 1:=⟨N - 1,by omega⟩
  have hK:∀ x ∈ l,∀ hp,Za C m UA [.lst 21 (x.Body.map QT)] hp=some (.int .i64 (ZbA x.Body 0),hp,none)∧Za C m UA [.lst 21 (x.Else.map QT)] hp=some (.int .i64 (ZbA x.Else 0),hp,none):=fun x hx hp=>by
   have:=Zu7 hx
   have:=(ok.2 x hx).b
   exact ⟨ND hC k m (by omega) x.Body (by omega) this.1 hp,ND hC k m (by omega) x.Else (by omega) this.2 hp⟩
  have hL:l.length < C.L:=by have:=hC.L; have:=ok.1; omega
  have h:=CJ (C := C) hp l ok.1 (Za C m) hK l [] C.L hp 0 rfl hL (Nat.le_refl _)
  simp only [List.length_nil,Int.natCast_zero] at h
  refine ZiG (by rw [hC.T]; rfl) ?_
  simp only [Cv,EV,LD,BL,IFJ,h]
theorem Zlf {C:Cfg}(hC:Ud C)(N:Nat)(hp:HP)(l:List XX)(hN:SizeOf.sizeOf l + 1≤N)(ok:Zqm l):Za C N UA [.lst 21 (l.map QT)] hp=some (.int .i64 (ZbA l 0),hp,none):=ND hC _ N hN l (Nat.le_refl _) ok hp
theorem NE {C:Cfg}(hC:Ud C):∀ (k N:Nat) (hN:k + 10≤N) (l:List XX),SizeOf.sizeOf l≤k→Zqm l→∀ hp:HP,Za C N UB [.lst 21 (l.map QT)] hp=some (.int .i64 (Ca l),hp,none)
 | 0,_,_,l,he,_,_=>absurd he (by have:=ZuX l; omega)
 | k + 1,N,hN,l,he,ok,hp=>by
  obtain ⟨m,rfl⟩:∃ m,N=m + 1:=⟨N - 1,by omega⟩
  have hK:∀ x ∈ l,∀ hp,Za C m UB [.lst 21 (x.Body.map QT)] hp=some (.int .i64 (Ca x.Body),hp,none)∧Za C m UB [.lst 21 (x.Else.map QT)] hp=some (.int .i64 (Ca x.Else),hp,none):=fun x hx hp=>by
   have:=Zu7 hx
   have:=(ok.2 x hx).b
   exact ⟨NE hC k m (by omega) x.Body (by omega) this.1 hp,NE hC k m (by omega) x.Else (by omega) this.2 hp⟩
  have hU:=Zms hC m (by omega)
  have hF:=fun x hx u hp=>Zmr hC m (by omega) hp x u (ok.2 x hx)
  have hP:=fun x hx u hp=>Zlh hC m hp x u (by have:=(Zu7 hx).1; omega) (ok.2 x hx)
  have hL:l.length < C.L:=by have:=hC.L; have:=ok.1; omega
  have h:=CL (C := C) hp l ok.1 (Za C m) hK hU hF hP l [] C.L hp rfl hL (Nat.le_refl _)
  simp only [List.length_nil,Int.natCast_zero] at h
  refine ZiH (by rw [hC.T]; rfl) ?_
  simp only [Cw,EV,LD,BL,IFJ,h]
theorem Zlg {C:Cfg}(hC:Ud C)(N:Nat)(hp:HP)(l:List XX)(hN:SizeOf.sizeOf l + 10≤N)(ok:Zqm l):Za C N UB [.lst 21 (l.map QT)] hp=some (.int .i64 (Ca l),hp,none):=NE hC _ N hN l (Nat.le_refl _) ok hp
def ZkU (l:List XX):Int:=if decide (200 < Zbf l (l.length:Int))=true then 6 else if decide (12 < ZbA l 0)=true then 11 else Ca l
theorem Zld {C:Cfg}(hC:Ud C)(N:Nat)(hp:HP)(l:List XX)(hN:SizeOf.sizeOf l + 13≤N)(ok:Zqm l):Za C N Pn [.lst 21 (l.map QT)] hp=some (.int .i64 (ZkU l),hp,none):=by
 obtain ⟨m,rfl⟩:∃ m,N=m + 1:=⟨N - 1,by omega⟩
 have q1:=fun hp=>Zle hC m hp l (by omega) ok
 have q2:=fun hp=>Zlf hC m hp l (by omega) ok
 have q3:=fun hp=>Zlg hC m hp l (by omega) ok
 refine ZiE (by rw [hC.T]; rfl) ?_
 simp only [Ct,EV,LD,BL,IFJ,q1,q2,q3,ZkU]
end Go.Proofs.YtlmfmmclnboglaaGreat
end
section
namespace Go.Proofs.YtlmfmmclnboglaaGreat.Abs
open Go
set_option linter.all false
def Upd (g:Nat)(es:List (AV×AV))(hp hp':List Zk):Prop:=hp.length≤hp'.length∧hp'[g]? = some (.map es)∧∀ i,i < hp.length→i≠g→hp'[i]? = hp[i]?
theorem Upd.refl {g:Nat}{es:List (AV×AV)}{hp:List Zk}(h:hp[g]? = some (.map es)):Upd g es hp hp:=⟨Nat.le_refl _,h,fun _ _ _=>rfl⟩
theorem Upd.trans {g:Nat}{e1 e2:List (AV×AV)}{a b c:List Zk}(h1:Upd g e1 a b)(h2:Upd g e2 b c):Upd g e2 a c :=
 ⟨Nat.le_trans h1.1 h2.1,h2.2.1,fun i hi hn=>(h2.2.2 i (by have:=h1.1; omega) hn).trans (h1.2.2 i hi hn)⟩
theorem Upd.app {g:Nat}{es:List (AV×AV)}{a b:List Zk}(h:Upd g es a b)(x:Zk):Upd g es a (b ++ [x]) :=
 ⟨by have:=h.1; simp; omega,Zjh h.2.1 x,fun i hi hn=>by rw [List.getElem?_append_left (by have:=h.1; omega)]; exact h.2.2 i hi hn⟩
theorem Upd.off {g:Nat}{es:List (AV×AV)}{a c:List Zk}{x:Zk}(h:Upd g es (a ++ [x]) c):Upd g es a c :=
 ⟨by have:=h.1; simp at this; omega,h.2.1,fun i hi hn=>by rw [h.2.2 i (by simp; omega) hn,List.getElem?_append_left hi]⟩
theorem Upd.get {g:Nat}{es:List (AV×AV)}{a b:List Zk}(h:Upd g es a b){i:Nat}{o:Zk}(hi:a[i]? = some o)(hn:i≠g):b[i]? = some o:=by
 rw [h.2.2 i (List.getElem?_eq_some_iff.1 hi).1 hn]; exact hi
def Efs (g:Nat)(es0 es:List (AV×AV))(ef:Eff):Prop:=(ef=none∧es=es0)∨ef=some (g,0)
theorem Efs.refl (g:Nat)(es:List (AV×AV)):Efs g es es none:=.inl ⟨rfl,rfl⟩
theorem Efs.after {g bs:Nat}(hb:g < bs){a b c:List (AV×AV)}{ef ef':Eff}(h1:Efs g a b ef)(h2:Efs g b c ef'):Efs g a c (Ze bs ef ef'):=by
 rcases h1 with ⟨rfl,rfl⟩ | rfl <;> rcases h2 with ⟨rfl,rfl⟩ | rfl
 ·exact .inl ⟨rfl,rfl⟩
 ·right; simp [Ze,hb,Eff.or]
 ·right; rfl
 ·right; simp [Ze,hb,Eff.or]
theorem Efs.drop {g bs:Nat}(hb:bs≤g){b c:List (AV×AV)}{ef ef':Eff}(h:Efs g b c ef'):Ze bs ef ef'=ef:=by
 rcases h with ⟨rfl,rfl⟩ | rfl
 ·rfl
 ·simp only [Ze]; rw [if_neg (by omega)]
def Sc (g:Nat)(es0 es:List (AV×AV))(hp:List Zk)(e:Int)(r:KR):Prop:=∃ hp' ef,r=some (.int .i64 e,hp',ef)∧Upd g es hp hp'∧Efs g es0 es ef
theorem Sc.fin {g:Nat}{es0 es:List (AV×AV)}{hp0 hp:List Zk}{ef:Eff}(e:Int)(h0:hp0[g]? = some (.map es0))(hu:Upd g es hp0 hp)(he:Efs g es0 es ef):Sc g es0 es hp0 e (some (Z6 false hp0 (.int .i64 e) hp ef)):=by
 have hg:g < hp0.length:=(List.getElem?_eq_some_iff.1 h0).1
 rcases he with ⟨rfl,rfl⟩ | rfl
 ·exact ⟨hp0,none,rfl,Upd.refl h0,Efs.refl _ _⟩
 ·have key:Z6 false hp0 (.int .i64 e) hp (some (g,0))=if (hp.take hp0.length).all (Zk.under hp0.length)=true then (.int .i64 e,hp.take hp0.length,some (g,0)) else (.int .i64 e,hp,some (g,0)):=rfl
  rw [key]
  split
  ·refine ⟨_,_,rfl,⟨by have:=hu.1; simp; omega,?_,fun i hi hn=>?_⟩,.inr rfl⟩
   ·rw [List.getElem?_take_of_lt hg]; exact hu.2.1
   ·rw [List.getElem?_take_of_lt hi]; exact hu.2.2 i hi hn
  ·exact ⟨_,_,rfl,hu,.inr rfl⟩
def IK (l:List (List UInt8)):List (AV×AV):=l.map fun s=>(.str s,.bool true)
def Zay (l:List (List UInt8×List UInt8)):List (AV×AV):=l.map fun s=>(.agg [.str s.1,.str s.2],.bool true)
theorem Zlr (s:List UInt8):∀ l,find (.one .str) (.str s) (IK l)=some (if l.contains s then some (.bool true) else none)
 | []=>rfl
 | x :: l=>by
  have ih:=Zlr s l
  have e:IK (x :: l)=(.str x,.bool true) :: IK l:=rfl
  rw [e]
  simp only [find,ZdX,Uo]
  by_cases h:s=x
  ·subst h; simp
  ·have:(s == x)=false:=by simp [h]
   rw [this]
   simp only [ih,List.contains_cons,this,Bool.false_or]
theorem Zlw {hp:List Zk}{g:Nat}{l:List (List UInt8)}(hg:hp[g]? = some (.map (IK l)))(s:List UInt8):NF hp (.one .str) (.bool false) (.map g) (.str s) false=some (.bool (l.contains s)):=by
 simp only [NF,DT,hg,Zlr]
 cases l.contains s <;> simp
theorem ZnK (s:List UInt8):∀ l,l.contains s=false→update (.one .str) (.str s) (.bool true) (IK l)=some (IK (l ++ [s]))
 | [],_=>rfl
 | x :: l,h=>by
  rw [List.contains_cons,Bool.or_eq_false_iff] at h
  have ih:=ZnK s l h.2
  have e:IK (x :: l)=(.str x,.bool true) :: IK l:=rfl
  rw [e]
  simp only [update,ZdX,Uo,h.1,ih]
  rfl
theorem Zpy {hp:List Zk}{g bs:Nat}{l:List (List UInt8)}(hg:hp[g]? = some (.map (IK l)))(s:List UInt8)(h:l.contains s=false)(ef:Eff):Zly bs (.one .str) (.map g) (.str s) (.bool true) hp ef=some (hp.set g (.map (IK (l ++ [s]))),SE bs ef g 0):=by
 simp only [Zly,hg,DT,AV.flat1,Bool.and_self,if_true,ZnK s l h]
theorem Zjd (s:List UInt8×List UInt8):∀ l,find (.pair .str) (.agg [.str s.1,.str s.2]) (Zay l)=some (if l.contains s then some (.bool true) else none)
 | []=>rfl
 | x :: l=>by
  have ih:=Zjd s l
  have e:Zay (x :: l)=(.agg [.str x.1,.str x.2],.bool true) :: Zay l:=rfl
  rw [e]
  simp only [find,ZdX,Uo]
  by_cases h:s=x
  ·subst h; simp
  ·have:(s == x)=false:=by simp [h]
   by_cases h1:s.1=x.1
   ·have h2:¬ s.2=x.2:=fun e=>h (Prod.ext h1 e)
    have b1:(s.1 == x.1)=true:=by simp [h1]
    have b2:(s.2 == x.2)=false:=by simp [h2]
    rw [b1]
    simp only [b2,ih,List.contains_cons,this,Bool.false_or]
   ·have b1:(s.1 == x.1)=false:=by simp [h1]
    rw [b1]
    simp only [ih,List.contains_cons,this,Bool.false_or]
theorem ZnW {hp:List Zk}{g:Nat}{l:List (List UInt8×List UInt8)}(hg:hp[g]? = some (.map (Zay l)))(a b:List UInt8):NF hp (.pair .str) (.bool false) (.map g) (.agg [.str a,.str b]) false=some (.bool (l.contains (a,b))):=by
 have:=Zjd (a,b) l
 simp only at this
 simp only [NF,DT,hg,this]
 cases l.contains (a,b) <;> simp
theorem Zmc (s:List UInt8×List UInt8):∀ l,l.contains s=false→update (.pair .str) (.agg [.str s.1,.str s.2]) (.bool true) (Zay l)=some (Zay (l ++ [s]))
 | [],_=>rfl
 | x :: l,h=>by
  rw [List.contains_cons,Bool.or_eq_false_iff] at h
  have ih:=Zmc s l h.2
  have e:Zay (x :: l)=(.agg [.str x.1,.str x.2],.bool true) :: Zay l:=rfl
  rw [e]
  have hne:¬ s=x:=by simpa using h.1
  by_cases h1:s.1=x.1
  ·have h2:¬ s.2=x.2:=fun e=>hne (Prod.ext h1 e)
   have b1:(s.1 == x.1)=true:=by simp [h1]
   have b2:(s.2 == x.2)=false:=by simp [h2]
   simp only [update,ZdX,Uo,b1,b2,ih]
   rfl
  ·have b1:(s.1 == x.1)=false:=by simp [h1]
   simp only [update,ZdX,Uo,b1,ih]
   rfl
theorem ZnZ {hp:List Zk}{g bs:Nat}{l:List (List UInt8×List UInt8)}(hg:hp[g]? = some (.map (Zay l)))(a b:List UInt8)(h:l.contains (a,b)=false)(ef:Eff):Zly bs (.pair .str) (.map g) (.agg [.str a,.str b]) (.bool true) hp ef=some (hp.set g (.map (Zay (l ++ [(a,b)]))),SE bs ef g 0):=by
 have:=Zmc (a,b) l h
 simp only at this
 simp only [Zly,hg,DT,AV.flat1,Bool.and_self,if_true,this]
theorem Upd.set {hp:List Zk}{g:Nat}{es es':List (AV×AV)}(hg:hp[g]? = some (.map es)):Upd g es' hp (hp.set g (.map es')) :=
 ⟨by simp,by rw [List.getElem?_set_self (List.getElem?_eq_some_iff.1 hg).1],fun i hi hn=>by rw [List.getElem?_set_ne (fun e=>hn e.symm)]⟩
def Qu {α σ:Type}(step:α→σ→Int×σ):List α→σ→Int×σ
 | [],s=>(0,s)
 | x :: r,s=>if decide ((step x s).1≠0)=true then step x s else Qu step r (step x s).2
def Zfs {σ:Type}:List (σ→Int×σ)→σ→Int×σ
 | [],s=>(0,s)
 | f :: r,s=>if decide ((f s).1≠0)=true then f s else Zfs r (f s).2
end Go.Proofs.YtlmfmmclnboglaaGreat.Abs
end
section
namespace Go.Proofs.YtlmfmmclnboglaaGreat
open Go Go.RowKit Go.Proofs.YtlmfmmclnboglaaGreat.Abs
set_option linter.all false
set_option maxRecDepth 100000
theorem Zf2:(∀ x,(Vw x).length=3)∧(∀ x,(Vw x).map AV.ro=Vw x)∧(∀ x,AV.nm (.agg (Vw x))=.agg (Vw x))∧(∀ x,(Vw x)[0]? = some (.str x.Name))∧(∀ x,(Vw x)[1]? = some (.int .i64 x.Ty))∧(∀ x,(Vw x)[2]? = some (.int .i64 x.N)):=⟨Zjw,Zhu,ZpP,Zr2,Zr3,Zr4⟩
theorem ZlF:(∀ x,(U3 x).length=2)∧(∀ x,(U3 x).map AV.ro=U3 x)∧(∀ x,AV.nm (.agg (U3 x))=.agg (U3 x))∧(∀ x,(U3 x)[0]? = some (.int .i64 x.At_))∧(∀ x,(U3 x)[1]? = some (.int .i64 x.Units)):=⟨ZmJ,Zjr,Zom,ZpE,ZpF⟩
theorem ZnA:(∀ x,(Te x).length=13)∧(∀ x,(Te x).map AV.ro=Te x)∧(∀ x,AV.nm (.agg (Te x))=.agg (Te x))∧(∀ x,(Te x)[0]? = some (.str x.Stream))∧(∀ x,((Te x).drop 1).take 6=IL x.Up)∧(∀ x,((Te x).drop 7).take 6=IL x.Down):=⟨Zon,ZlI,ZpH,Zrh,ZlH,ZiD⟩
theorem Ja:(∀ x,(Z0 x).length=17)∧(∀ x,(Z0 x).map AV.ro=Z0 x)∧(∀ x,AV.nm (.agg (Z0 x))=.agg (Z0 x))∧(∀ x,(Z0 x)[0]? = some (.str x.Name))∧(∀ x,(Z0 x)[1]? = some (.int .i64 x.Units))∧(∀ x,(Z0 x)[2]? = some (.lst 2 (x.Shift.map U3)))∧(∀ x,(Z0 x)[3]? = some (.int .i64 x.Cycle))∧(∀ x,(Z0 x)[4]? = some (.str x.Fault.Stream))∧(∀ x,((Z0 x).drop 4).take 13=Te x.Fault):=⟨SG,Bh,Zfr,Zhp,Zhq,Zhr,Zhs,Zht,AO⟩
theorem RA:(∀ x,(Yz x).length=3)∧(∀ x,(Yz x).map AV.ro=Yz x)∧(∀ x,AV.nm (.agg (Yz x))=.agg (Yz x))∧(∀ x,(Yz x)[0]? = some (.str x.Name))∧(∀ x,(Yz x)[1]? = some (.int .i64 x.Room))∧(∀ x,(Yz x)[2]? = some (.int .i64 x.Policy)):=⟨NH,BB,Zku,ZlQ,ZlR,ZlS⟩
theorem EH:(∀ x,(WJ x).length=3)∧(∀ x,(WJ x).map AV.ro=WJ x)∧(∀ x,AV.nm (.agg (WJ x))=.agg (WJ x))∧(∀ x,(WJ x)[0]? = some (.str x.Name))∧(∀ x,(WJ x)[1]? = some (.int .i64 x.Length))∧(∀ x,(WJ x)[2]? = some (.int .i64 x.Step)):=⟨Zda,CZ,ZlE,ZmG,ZmH,ZmI⟩
theorem Zf1:(∀ x,(Jv x).length=2)∧(∀ x,(Jv x).map AV.ro=Jv x)∧(∀ x,AV.nm (.agg (Jv x))=.agg (Jv x))∧(∀ x,(Jv x)[0]? = some (.str x.Name))∧(∀ x,(Jv x)[1]? = some (.int .i64 x.Ty)):=⟨Zoo,ZlJ,ZpI,Zri,Zrj⟩
theorem OQ:(∀ x,(Y6 x).length=4)∧(∀ x,(Y6 x).map AV.ro=Y6 x)∧(∀ x,AV.nm (.agg (Y6 x))=.agg (Y6 x))∧(∀ x,(Y6 x)[0]? = some (.str x.Name))∧(∀ x,(Y6 x)[1]? = some (.lst 2 (x.Params.map Jv)))∧(∀ x,(Y6 x)[2]? = some (.lst 2 (x.Locals.map Jv)))∧(∀ x,(Y6 x)[3]? = some (.lst 21 (x.Body.map QT))):=⟨Ze3,ZbP,ZmK,Zoq,Zor,Zos,Zot⟩
theorem EI:(∀ x,(Je x).length=5)∧(∀ x,(Je x).map AV.ro=Je x)∧(∀ x,AV.nm (.agg (Je x))=.agg (Je x))∧(∀ x,(Je x)[0]? = some (.str x.Routine))∧(∀ x,(Je x)[1]? = some (.lst 1 (ints x.Args)))∧(∀ x,(Je x)[2]? = some (.int .i64 x.At_))∧(∀ x,(Je x)[3]? = some (.int .i64 x.Every))∧(∀ x,(Je x)[4]? = some (.int .i64 x.Until)):=⟨Zou,ZlP,ZpM,Zrr,Zrs,Zrt,Zru,Zrv⟩
theorem Zkv:(∀ x,(Tk x).length=3)∧(∀ x,(Tk x).map AV.ro=Tk x)∧(∀ x,AV.nm (.agg (Tk x))=.agg (Tk x))∧(∀ x,(Tk x)[0]? = some (.int .i64 x.Coef))∧(∀ x,(Tk x)[1]? = some (.str x.What))∧(∀ x,(Tk x)[2]? = some (.str x.Name)):=⟨ZpO,ZnD,Zr1,Ztn,Zto,Ztp⟩
theorem ZnB:(∀ x,(Av x).length=3)∧(∀ x,(Av x).map AV.ro=Av x)∧(∀ x,AV.nm (.agg (Av x))=.agg (Av x))∧(∀ x,(Av x)[0]? = some (.str x.Name))∧(∀ x,(Av x)[1]? = some (.lst 3 (x.Terms.map Tk)))∧(∀ x,(Av x)[2]? = some (.int .i64 x.Total)):=⟨Zrk,ZpJ,Ztg,Zuj,Zuk,Zul⟩
theorem Zaa:(∀ x,(Ko x).length=3)∧(∀ x,(Ko x).map AV.ro=Ko x)∧(∀ x,AV.nm (.agg (Ko x))=.agg (Ko x))∧(∀ x,(Ko x)[0]? = some (.str x.From))∧(∀ x,(Ko x)[1]? = some (.str x.To))∧(∀ x,(Ko x)[2]? = some (.int .i64 x.Delay)):=⟨ZpK,ZnC,Zrl,Zth,Zti,Ztj⟩
theorem WK:(∀ x,(Zh x).length=13)∧(∀ x,(Zh x).map AV.ro=Zh x)∧(∀ x,AV.nm (.agg (Zh x))=.agg (Zh x))∧(∀ x,(Zh x)[0]? = some (.str x.Name))∧(∀ x,(Zh x)[1]? = some (.lst 3 (x.Vars.map Vw)))∧(∀ x,(Zh x)[2]? = some (.lst 17 (x.Resources.map Z0)))∧(∀ x,(Zh x)[3]? = some (.lst 3 (x.Stores.map Yz)))∧(∀ x,(Zh x)[4]? = some (.lst 3 (x.Belts.map WJ)))∧(∀ x,(Zh x)[5]? = some (.lst 1 (strs x.Queues)))∧(∀ x,(Zh x)[6]? = some (.lst 1 (strs x.Streams)))∧(∀ x,(Zh x)[7]? = some (.lst 1 (strs x.Tallies)))∧(∀ x,(Zh x)[8]? = some (.lst 1 (strs x.Levels)))∧(∀ x,(Zh x)[9]? = some (.lst 1 (strs x.Counts)))∧(∀ x,(Zh x)[10]? = some (.lst 4 (x.Routines.map Y6)))∧(∀ x,(Zh x)[11]? = some (.lst 5 (x.Starts.map Je)))∧(∀ x,(Zh x)[12]? = some (.lst 3 (x.Laws.map Av))):=⟨Zks,Ze4,ZlO,ZmL,ZmM,ZmN,ZmO,ZmP,ZmQ,ZmR,ZmS,ZmT,ZmU,ZlL,ZlM,ZlN⟩
theorem U4:(∀ x,(VM x).length=4)∧(∀ x,(VM x).map AV.ro=VM x)∧(∀ x,AV.nm (.agg (VM x))=.agg (VM x))∧(∀ x,(VM x)[0]? = some (.str x.Name))∧(∀ x,(VM x)[1]? = some (.lst 3 (x.Params.map Vw)))∧(∀ x,(VM x)[2]? = some (.lst 13 (x.Sites.map Zh)))∧(∀ x,(VM x)[3]? = some (.lst 3 (x.Links.map Ko))):=⟨Zop,ZlK,ZpL,Zrm,Zrn,Zro,Zrp⟩
def Zkz (s:Zl):Ea:=⟨s.Name,s.Vars.map Vw,s.Resources.map Z0,s.Stores.map Yz,s.Belts.map WJ,strs s.Queues,strs s.Streams,strs s.Tallies,strs s.Levels,strs s.Counts,s.Routines.map Y6,s.Starts.map Je,s.Laws.map Av⟩
theorem Zo0 {α:Type}{row:α→List AV}{W:Nat}(l:List α)(hl:l.length≤8796093022208)(h1:∀ x,(row x).length=W)(h2:∀ x,(row x).map AV.ro=row x)(h3:∀ x,row x=.str (nameOf (row x)) :: (row x).tail):Zdh W (l.map row) :=
 ⟨by simpa using hl,fun r hr=>by obtain ⟨x,_,rfl⟩:=List.mem_map.1 hr; exact ⟨h1 x,h2 x,h3 x⟩⟩
theorem ZlU (l:List (List UInt8))(hl:l.length≤8796093022208):Zdh 1 (strs l):=Zo0 (row := fun x=>[.str x]) l hl (fun _=>rfl) (fun _=>rfl) (fun _=>rfl)
theorem Zh5 {s:Zl}(h:YA s):EN (Zkz s):=by
 have:=h.Vars.1; have:=h.Resources.1; have:=h.Stores.1; have:=h.Belts.1; have:=h.Queues.1; have:=h.Streams.1; have:=h.Tallies.1; have:=h.Levels.1; have:=h.Counts.1; have:=h.Routines.1; have:=h.Starts.1; have:=h.Laws.1
 exact ⟨Zo0 _ (by omega) Zjw Zhu (fun _=>rfl),Zo0 _ (by omega) SG Bh (fun _=>rfl),Zo0 _ (by omega) NH BB (fun _=>rfl),Zo0 _ (by omega) Zda CZ (fun _=>rfl),ZlU _ (by omega),ZlU _ (by omega),ZlU _ (by omega),ZlU _ (by omega),ZlU _ (by omega),Zo0 _ (by omega) Ze3 ZbP (fun _=>rfl),by simp [Zkz]; omega,by simp [Zkz]; omega⟩
theorem Zan {α:Type}{row:α→List AV}{nm:α→List UInt8}(hn:∀ x,nameOf (row x)=nm x)(s:List UInt8):∀ (l:List α) (i:Nat),decide (0≤Xb (isN s) (l.map row) i)=(l.map nm).contains s
 | [],i=>rfl
 | x :: r,i=>by
  have ih:=Zan hn s r (i + 1)
  simp only [List.map_cons,Xb,List.contains_cons,isN,hn]
  by_cases h:nm x=s
  ·have h':(s == nm x)=true:=by simp [h]
   simp [h,h']
  ·have h':(s == nm x)=false:=by simp; exact fun e=>h e.symm
   simp only [h,h',decide_false,Bool.false_eq_true,if_false,Bool.false_or]
   exact ih
theorem ZjS {α:Type}{row:α→List AV}{nm:α→List UInt8}(hn:∀ x,nameOf (row x)=nm x)(s:List UInt8)(l:List α):decide (Xb (isN s) (l.map row) 0 < 0)=!(l.map nm).contains s:=by
 rw [← Zan hn s l 0,← decide_not]
 congr 1; apply propext; omega
theorem Zlq {α:Type}{row:α→List AV}{nm:α→List UInt8}(hn:∀ x,nameOf (row x)=nm x)(s:List UInt8):∀ (l:List α) (i:Nat),(l.find? (fun x=>decide (nm x=s))=none∧Xb (isN s) (l.map row) i=-1)∨∃ (k:Nat) (x:α),Xb (isN s) (l.map row) i=(i + k:Nat)∧l[k]? = some x∧l.find? (fun x=>decide (nm x=s))=some x
 | [],i=>.inl ⟨rfl,rfl⟩
 | x :: r,i=>by
  simp only [List.map_cons,Xb,isN,hn,List.find?_cons]
  by_cases h:nm x=s
  ·right
   exact ⟨0,x,by rw [decide_eq_true h]; rfl,rfl,by rw [decide_eq_true h]⟩
  ·simp only [h,decide_false,Bool.false_eq_true,if_false]
   rcases Zlq hn s r (i + 1) with ⟨h1,h2⟩ | ⟨k,y,h1,h2,h3⟩
   ·left; exact ⟨h1,by rw [← h2]⟩
   ·right
    refine ⟨k + 1,y,?_,by simpa using h2,h3⟩
    rw [h1]; congr 1; omega
theorem ZuV (s:List UInt8)(l:List (List UInt8)):decide (0≤Xb (isN s) (strs l) 0)=l.contains s∧decide (Xb (isN s) (strs l) 0 < 0)=!l.contains s:=by
 have h1:=Zan (row := fun x:List UInt8=>[AV.str x]) (nm := id) (fun _=>rfl) s l 0
 have h2:=ZjS (row := fun x:List UInt8=>[AV.str x]) (nm := id) (fun _=>rfl) s l
 rw [List.map_id] at h1 h2
 exact ⟨h1,h2⟩
theorem ZuU (s:List UInt8)(l:List X0):decide (0≤Xb (isN s) (l.map Y6) 0)=(l.map (·.Name)).contains s∧decide (Xb (isN s) (l.map Y6) 0 < 0)=!(l.map (·.Name)).contains s :=
 ⟨Zan (nm := fun x:X0=>x.Name) (fun _=>rfl) s l 0,ZjS (nm := fun x:X0=>x.Name) (fun _=>rfl) s l⟩
theorem KS {C:Cfg}(hC:Ud C)(N:Nat)(hN:2≤N)(hp:HP)(l:List (List UInt8))(s:List UInt8)(hl:l.length≤4611686018427387):Za C N XL [.lst 1 (strs l),.str s] hp=some (.bool (l.contains s),hp,none):=by
 obtain ⟨m,rfl⟩:∃ m,N=m + 2:=⟨N - 2,by omega⟩
 have q:=fun hp=>ZdR hC m hp s (strs l) (by simpa [strs] using hl) (fun r hr=>by obtain ⟨x,_,rfl⟩:=List.mem_map.1 hr; rfl)
 refine Mj (by rw [hC.T]; rfl) ?_
 simp only [VV,EV,LD,q,ZuV]
theorem DL {C:Cfg}(hC:Ud C)(N:Nat)(hN:3≤N)(hp:HP)(d:Zl)(s:List UInt8)(hd:YA d):Za C N V7 [.agg (Zh d),.str s] hp=some (.int .i64 (Xb (isN s) (d.Routines.map Y6) 0),hp,none):=by
 obtain ⟨m,rfl⟩:∃ m,N=m + 3:=⟨N - 3,by omega⟩
 exact ZiX hC m hp (Zkz d) s (Zh5 hd)
def ZaJ (a b:Int):Int:=if decide (a≠0)=true then a else b
def Zk5 (b:Bool)(e:Int):Int:=if b=true then 0 else e
def Zpe (t n:Int):Bool:=if decide (t=1)=true then inB n else if decide (t=2)=true then (decide (n=0) || decide (n=1)) else if decide (t=3)=true then btw n 0 1000000000 else false
theorem UD {C:Cfg}(hC:Ud C)(N:Nat)(hN:1≤N)(hp:HP)(x lo hi:Int):Za C N Qv [.int .i64 x,.int .i64 lo,.int .i64 hi] hp=some (.bool (btw x lo hi),hp,none):=by
 obtain ⟨m,rfl⟩:∃ m,N=m + 1:=⟨N - 1,by omega⟩
 refine Zfk (by rw [hC.T]; rfl) ?_
 generalize Za C m=K at *
 simp only [N9,EV,LD,BL,IFJ,Nat.reduceAdd,Nat.reduceLeDiff,Nat.reduceBEq,GI,btw]
theorem ZcN {C:Cfg}(hC:Ud C)(N:Nat)(hN:1≤N)(hp:HP)(x:Int):Za C N M9 [.int .i64 x] hp=some (.bool (btw x 1 3),hp,none):=by
 obtain ⟨m,rfl⟩:∃ m,N=m + 1:=⟨N - 1,by omega⟩
 refine ZgO (by rw [hC.T]; rfl) ?_
 generalize Za C m=K at *
 simp only [E5,EV,LD,BL,IFJ,Nat.reduceAdd,Nat.reduceLeDiff,Nat.reduceBEq,GI,btw]
theorem Ze0 {C:Cfg}(hC:Ud C)(N:Nat)(hN:2≤N)(hp:HP)(x n:Int):Za C N Rq [.int .i64 x,.int .i64 n] hp=some (.bool (Zpe x n),hp,none):=by
 obtain ⟨m,rfl⟩:∃ m,N=m + 1:=⟨N - 1,by omega⟩
 have q0:=ZjM hC m (by omega)
 have q1:=UD hC m (by omega)
 refine Zis (by rw [hC.T]; rfl) ?_
 generalize Za C m=K at *
 simp only [Ck,EV,LD,BL,IFJ,Nat.reduceAdd,Nat.reduceLeDiff,Nat.reduceBEq,GI,q0,q1,Zpe]
def Zt9 (cyc:Int):Option Int→List Tf→Int
 | _,[]=>0
 | p,c :: r=>if (!(btw c.At_ 0 (cyc - 1)) || !(btw c.Units 0 1000))=true then 2 else if (p.isSome && decide (c.At_≤p.getD 0))=true then 12 else Zt9 cyc (some c.At_) r
def Zuv (d:Y1):Int :=
 if decide ((d.Shift.length:Int)=0)=true then (if decide (d.Cycle≠0)=true then 1 else 0)
 else if decide (20 < (d.Shift.length:Int))=true then 6 else if (!(btw d.Cycle 1 1000000000))=true then 2 else Zt9 d.Cycle none d.Shift
def ZgJ (q:List Tf):Option Int:=q.getLast?.map (·.At_)
theorem KZ.s {d:Y1}(h:KZ d):d.Shift.length≤4611686018427387:=by have:=h.Shift.1; omega
theorem ZsU (l q r:List Tf)(x:Tf)(h:l=q ++ x :: r)(hb:l.length≤4611686018427387) :
  (ZgJ q=none∧decide ((0:Int) < (q.length:Int))=false)∨∃ a:Tf,ZgJ q=some a.At_∧decide ((0:Int) < (q.length:Int))=true∧Qf (.slice 2) (.lst 2 (l.map U3)) (.int .i64 (IntKind.i64.wrap ((q.length:Int) - 1)))=some (.ref (U3 a)):=by
 rcases List.eq_nil_or_concat q with rfl | ⟨q',a,rfl⟩
 ·left; exact ⟨rfl,by decide⟩
 ·right
  refine ⟨a,by simp [ZgJ],by simp <;> omega,?_⟩
  have hl:q'.length < 4611686018427387904:=by subst h; simp at hb; omega
  have e:IntKind.i64.wrap (((q'.concat a).length:Int) - 1)=(q'.length:Int):=by
   rw [Zo4 (by simp <;> omega) (by simp <;> omega)]; simp
  rw [e,Qd]
  subst h
  simp
theorem Zmy (q:List Tf)(x:Tf):ZgJ (q ++ [x])=some x.At_:=by simp [ZgJ]
theorem DN {C:Cfg}(K:KT)(hp0:HP)(d:Y1)(hd:KZ d)(hc:IntKind.i64.wrap (d.Cycle - 1)=d.Cycle - 1)(g:Nat)(tg:TypeId)(hW:∀ hp x lo hi,K Qv [.int .i64 x,.int .i64 lo,.int .i64 hi] hp=some (.bool (btw x lo hi),hp,none)):∀ (r q:List Tf) (m:Nat) (hp:HP),d.Shift=q ++ r→r.length < m→hp0.length≤hp.length→hp[g]? = some (.cells (Z0 d) tg) →
  Q6 C.G K C.L hp0 (VH C.G K C.L hp0) m (.ptr g 0) (.lst 2 (d.Shift.map U3)) (.int .i64 (d.Shift.length:Int)) (.int .i64 (q.length:Int)) hp none=some (.int .i64 (Zt9 d.Cycle (ZgJ q) r),hp0,none)
 | _,_,0,_,_,h,_,_=>by omega
 | [],q,m + 1,hp,h,_,hh,hg=>by
  have l0:=lp0 h
  simp only [Q6,J2,VG,VH,CO,Nat.reduceAdd,Nat.reduceLeDiff,Nat.reduceBEq,List.length_cons,List.length_nil,LG hg,Ja,l0,Zt9]
 | x :: r,q,m + 1,hp,h,hm,hh,hg=>by
  obtain ⟨a1,a2,a3,a4,a5⟩:=lp U3 h hd.s
  have ih:=DN (C := C) K hp0 d hd hc g tg hW r (q ++ [x]) m (hp ++ [.cells (U3 x) Zdf]) a4 (by simpa using hm) (by simp; omega) (GY hg _)
  rw [Zmy] at ih
  rcases ZsU d.Shift q r x h hd.s with ⟨p1,p2⟩ | ⟨a,p1,p2,p3⟩
  ·simp only [Q6,J2,VG,VH,CO,Nat.reduceAdd,Nat.reduceLeDiff,Nat.reduceBEq,List.length_cons,List.length_nil,LG hg,Ja,ZlF,STA hh,a1,a2,a3,Qd,hc,hW,p1,p2,ih,Zt9,Option.isSome_none,Option.isSome_some,Option.getD_some]
   cases btw x.At_ 0 (d.Cycle - 1) <;> simp only [BL,IFJ]
  ·simp only [Q6,J2,VG,VH,CO,Nat.reduceAdd,Nat.reduceLeDiff,Nat.reduceBEq,List.length_cons,List.length_nil,LG hg,Ja,ZlF,STA hh,a1,a2,a3,Qd,hc,hW,p1,p2,p3,ih,Zt9,Option.isSome_none,Option.isSome_some,Option.getD_some]
   cases btw x.At_ 0 (d.Cycle - 1) <;> simp only [BL,IFJ]
theorem ZeU {C:Cfg}(hC:Ud C)(N:Nat)(hN:2≤N)(hp:HP)(d:Y1)(hd:KZ d):Za C N RJ [.agg (Z0 d)] hp=some (.int .i64 (Zuv d),hp,none):=by
 obtain ⟨m,rfl⟩:∃ m,N=m + 1:=⟨N - 1,by omega⟩
 have q0:=UD hC m (by omega)
 refine ZcW (by rw [hC.T]; rfl) ?_
 by_cases hc:btw d.Cycle 1 1000000000=true
 ·have hcw:IntKind.i64.wrap (d.Cycle - 1)=d.Cycle - 1:=by
   simp only [btw,Bool.and_eq_true,decide_eq_true_eq] at hc
   exact Zo4 (by omega) (by omega)
  have h:=DN (C := C) (Za C m) hp d hd hcw hp.length WL q0 d.Shift [] C.L (hp ++ [.cells (Z0 d) WL]) rfl (by have:=hC.L; have:=hd.s; omega) (by simp) (ZY _ _)
  simp only [List.length_nil,Int.natCast_zero] at h
  have e0:ZgJ []=none:=rfl
  rw [e0] at h
  simp only [TS,CO,Nat.reduceAdd,Nat.reduceLeDiff,Nat.reduceBEq,List.length_cons,List.length_nil,Ja,Zuv,h,q0,hc]
  skip
 have hc:btw d.Cycle 1 1000000000=false:=by simpa using hc
 simp only [TS,EV,LD,BL,IFJ,Nat.reduceAdd,Nat.reduceLeDiff,Nat.reduceBEq,GI,q0,Ja,Zuv,hc]
end Go.Proofs.YtlmfmmclnboglaaGreat
end
section
namespace Go.Proofs.YtlmfmmclnboglaaGreat
open Go Go.RowKit Go.Proofs.YtlmfmmclnboglaaGreat.Abs
set_option linter.all false
set_option maxRecDepth 100000
def Zgj:List AV→Int
 | [_,_,.int .i64 d]=>d
 | _=>0
def Zea (p:List AV→Bool):List (List AV)→Int×Bool
 | []=>(0,false)
 | r :: rs=>if p r=true then (Zgj r,true) else Zea p rs
theorem Zls (p:List AV→Bool):∀ (rows:List (List AV)) (k:Nat),(Xb p rows k=-1∧Zea p rows=(0,false))∨∃ j x,Xb p rows k=((k + j:Nat):Int)∧rows[j]? = some x∧Zea p rows=(Zgj x,true)
 | [],_=>.inl ⟨rfl,rfl⟩
 | r :: rs,k=>by
  cases hp:p r with
  | true=>exact .inr ⟨0,r,by simp [Xb,hp],rfl,by simp [Zea,hp]⟩
  | false =>
   rcases Zls p rs (k + 1) with ⟨h1,h2⟩ | ⟨j,x,h1,h2,h3⟩
   ·exact .inl ⟨by simp [Xb,hp,h1],by simp [Zea,hp,h2]⟩
   ·exact .inr ⟨j + 1,x,by simp only [Xb,hp,Bool.false_eq_true,if_false,h1]; congr 1; omega,by simpa using h2,by simp [Zea,hp,h3]⟩
theorem ZjV {r:List AV}(h:ZrG r):∃ a b,r=[.str a,.str b,.int .i64 (Zgj r)]:=by
 obtain ⟨a,b,d,rfl⟩:=h.ex
 exact ⟨a,b,rfl⟩
section
variable {C:Cfg}(hC:Ud C)
include hC
theorem ZoX (n:Nat)(H:List Zk)(x y a b:List UInt8)(d:Int)(g g':Nat)(hg:H[g]? = some (.cells [.str a] Y9))(hg':H[g']? = some (.cells [.str b] Y9)) :
  Za C (n + 1) Rh [.agg [.str x,.str y,.int .i64 d],.ptr g 0,.ptr g' 0] H=some (.bool (isL a b [.str x,.str y,.int .i64 d]),H,none):=by
 refine ZeY (by rw [hC.T]; rfl) ?_
 have hgl:g < H.length:=Ya hg
 have hgl':g' < H.length:=Ya hg'
 have l0:Zf (H ++ [Zk.cells [.str x,.str y,.int .i64 d] VI]) (.ptr H.length (0 + 0))=some (.str x):=XF (g := H.length) (ZY _ _) 0
 have l1:Zf (H ++ [Zk.cells [.str x,.str y,.int .i64 d] VI]) (.ptr H.length (0 + 1))=some (.str y):=XF (g := H.length) (ZY _ _) 1
 have k2:(H ++ [Zk.cells [.str x,.str y,.int .i64 d] VI])[g]? = some (.cells [.str a] Y9):=by rw [List.getElem?_append_left hgl]; exact hg
 have k3:(H ++ [Zk.cells [.str x,.str y,.int .i64 d] VI])[g']? = some (.cells [.str b] Y9):=by rw [List.getElem?_append_left hgl']; exact hg'
 have l2:Zf (H ++ [Zk.cells [.str x,.str y,.int .i64 d] VI]) (.ptr g 0)=some (.str a):=XF k2 0
 have l3:Zf (H ++ [Zk.cells [.str x,.str y,.int .i64 d] VI]) (.ptr g' 0)=some (.str b):=XF k3 0
 simp only [Nj,Wm,Wj,Wl,Xo,ZN,ZM,Zz,Zy,Yq,Yp,Xn,Zg,Wq,ZP,ZQ,Ym,YU,YW,YT,YV,YS,YX,Yr,Ws,Wy,Wt,Wv,Wp,Wz,Ww,Wu,Wx,Xw,ZR,Yo,YY,Wi,YZ,We,Y4,Wh,Wd,Xr,Xe,Xk,Xh,Gz,G9,G8,G7,G6,G5,GU,GV,Xt,Xv,Wo,Xu,GR,Xg,Xj,Xf,Xi,Option.map_some,Xy,Xx,Xq,Xp,Xl,Xz,Zm,ZI,Yi,Yl,Yj,Yk,Yg,ZJ,ZL,Zx,ZK,YR,YQ,Yn,GD 3 [.str x,.str y,.int .i64 d] rfl,l0,l1,l2,l3,isL]
theorem Zsv (n:Nat)(hp:List Zk)(m:Mdl)(a b:List UInt8)(hm:Zo9 m):Za C (n + 3) Pm [.agg (Za0 m),.str a,.str b] hp=some (.tup [.int .i64 (Zea (isL a b) m.links).1,.bool (Zea (isL a b) m.links).2],hp,none):=by
 refine Ziq (by rw [hC.T]; rfl) ?_
 obtain ⟨H,hH⟩:∃ H,(((hp ++ [Zk.cells (Za0 m) Yd]) ++ [Zk.cells [.str a] Y9]) ++ [Zk.cells [.str b] Y9])=H:=⟨_,rfl⟩
 have g0:H[hp.length]? = some (.cells (Za0 m) Yd):=by rw [← hH,List.getElem?_append_left (by simp)]; exact Zph
 have g1:H[(hp ++ [Zk.cells (Za0 m) Yd]).length]? = some (.cells [.str a] Y9):=by rw [← hH]; exact Zph
 have g2:H[((hp ++ [Zk.cells (Za0 m) Yd]) ++ [Zk.cells [.str a] Y9]).length]? = some (.cells [.str b] Y9):=by rw [← hH]; exact ZY _ _
 have lf:Zf H (.ptr hp.length (0 + 3))=some (.lst 3 m.links):=XF g0 3
 have hc:=NB hC (n + 1) H Rh [.ptr (hp ++ [Zk.cells (Za0 m) Yd]).length 0,.ptr ((hp ++ [Zk.cells (Za0 m) Yd]) ++ [Zk.cells [.str a] Y9]).length 0] (isL a b) m.links (by have:=hm.links; omega) (fun r hr=>by
   obtain ⟨x,y,h⟩:=ZjV (hm.link r hr)
   rw [h]; exact ⟨rfl,rfl⟩) fun r hr=>by
  obtain ⟨x,y,h⟩:=ZjV (hm.link r hr)
  have:=ZoX hC n H x y a b (Zgj r) _ _ g1 g2
  rw [← h] at this
  exact this
 generalize Za C (n + 2)=K at *
 rcases Zls (isL a b) m.links 0 with ⟨h1,h2⟩ | ⟨j,x,h1,h2,h3⟩
 ·rw [h1] at hc
  have hlt:((-1:Int) < 0):=by omega
  simp only [Px,Wm,Wj,Wl,Xo,ZN,ZM,Zz,Zy,Yq,Yp,Xn,Zg,Wq,ZP,ZQ,Ym,YU,YW,YT,YV,YS,YX,Yr,Ws,Wy,Wt,Wv,Wp,Wz,Ww,Wu,Wx,Xw,ZR,Yo,YY,Wi,YZ,We,Y4,Wh,Wd,Xr,Xe,Xk,Xh,Gz,G9,G8,G7,G6,G5,GU,GV,Xt,Xv,Wo,Xu,GR,Xg,Xj,Xf,Xi,Option.map_some,Xy,Xx,Xq,Xp,Xl,Xz,Zm,ZI,Yi,Yl,Yj,Yk,Yg,ZJ,ZL,Zx,ZK,YR,YQ,Yn,GD 4 (Za0 m) rfl,Zf8,hH,lf,hc,hlt,decide_true,if_true,h2]
  rfl
 ·rw [h1] at hc
  have hlt:¬ (((0 + j:Nat):Int) < 0):=by omega
  obtain ⟨u,v,hx⟩:=ZjV (hm.link x (List.mem_of_getElem? h2))
  have hia:Qf (.slice 3) (.lst 3 m.links) (.int .i64 ((0 + j:Nat):Int))=some (.ref x):=by rw [Nat.zero_add,Qd,h2]; rfl
  have lx:Zf H (.ref (x.drop 2))=some (.int .i64 (Zgj x)):=by rw [hx]; rfl
  simp only [Px,Wm,Wj,Wl,Xo,ZN,ZM,Zz,Zy,Yq,Yp,Xn,Zg,Wq,ZP,ZQ,Ym,YU,YW,YT,YV,YS,YX,Yr,Ws,Wy,Wt,Wv,Wp,Wz,Ww,Wu,Wx,Xw,ZR,Yo,YY,Wi,YZ,We,Y4,Wh,Wd,Xr,Xe,Xk,Xh,Gz,G9,G8,G7,G6,G5,GU,GV,Xt,Xv,Wo,Xu,GR,Xg,Xj,Xf,Xi,Option.map_some,Xy,Xx,Xq,Xp,Xl,Xz,Zm,ZI,Yi,Yl,Yj,Yk,Yg,ZJ,ZL,Zx,ZK,YR,YQ,Yn,GD 4 (Za0 m) rfl,Zf8,hH,lf,hc,hlt,decide_false,Bool.false_eq_true,if_false,h3,hia,lx]
  rfl
end
end Go.Proofs.YtlmfmmclnboglaaGreat
end
section
namespace Go.Proofs.YtlmfmmclnboglaaGreat
open Go Go.RowKit Go.Proofs.YtlmfmmclnboglaaGreat.Abs
set_option linter.all false
set_option maxRecDepth 100000
theorem YA.st {d:Zl}(h:YA d):d.Streams.length≤4611686018427387∧d.Counts.length≤4611686018427387∧d.Stores.length≤4611686018427387∧d.Routines.length≤4611686018427387:=by
 have:=h.Streams.1; have:=h.Counts.1; have:=h.Stores.1; have:=h.Routines.1; omega
def Zpc (d:Zl)(f:AY):Int :=
 if (decide (f.Stream=[]) && (!(Zme f.Up) || !(Zme f.Down)))=true then 1 else if decide (f.Stream=[])=true then 0 else if (!(d.Streams.contains f.Stream))=true then 5 else if decide (Zgk f.Up≠0)=true then Zgk f.Up else Zgk f.Down
def ZpQ (s:Zl)(d:Y1):Int:=if (!(btw d.Units 0 1000))=true then 2 else if decide (Zuv d≠0)=true then Zuv d else Zpc s d.Fault
theorem ZeS {C:Cfg}(hC:Ud C)(N:Nat)(hN:6≤N)(hp:HP)(d:Zl)(f:AY)(hd:YA d)(hf:Zmh f):Za C N RI [.agg (Zh d),.agg (Te f)] hp=some (.int .i64 (Zpc d f),hp,none):=by
 obtain ⟨m,rfl⟩:∃ m,N=m + 1:=⟨N - 1,by omega⟩
 have q0:=Ao hC m (by omega)
 have q1:=KS hC m (by omega)
 have q2:=Zew hC m (by omega)
 refine ZcU (by rw [hC.T]; rfl) ?_
 generalize Za C m=K at *
 simp only [Be,EV,LD,BL,IFJ,Nat.reduceAdd,Nat.reduceLeDiff,Nat.reduceBEq,GI,q0,q1,q2,hd.st,hf.Up,hf.Down,hf.Stream,WK,ZnA,Zes,LDP,Zt0,Zpc]
def Zma (t:NK)(found:Bool):Int:=if (!found)=true then 5 else if (!(btw t.Coef (-1000) 1000) || decide (t.Coef=0))=true then 2 else 0
def Zo1 (d:Zl)(t:NK):Int:=if decide (t.What=[99,114,101,97,116,101,100])=true then Zma t ((d.Routines.map (·.Name)).contains t.Name) else if decide (t.What=[101,110,100,101,100])=true then Zma t ((d.Routines.map (·.Name)).contains t.Name) else if decide (t.What=[105,110,115,105,100,101])=true then Zma t ((d.Routines.map (·.Name)).contains t.Name) else if decide (t.What=[115,116,111,114,101,100])=true then Zma t ((d.Stores.map (·.Name)).contains t.Name) else if decide (t.What=[101,110,116,101,114,101,100])=true then Zma t ((d.Stores.map (·.Name)).contains t.Name) else if decide (t.What=[108,101,102,116])=true then Zma t ((d.Stores.map (·.Name)).contains t.Name) else if decide (t.What=[99,111,117,110,116,101,100])=true then Zma t (d.Counts.contains t.Name) else 1
theorem Zil {C:Cfg}(hC:Ud C)(N:Nat)(hN:1≤N)(hp:HP)(x:QR)(t:NK)(g:Nat)(tg:TypeId)(hg:hp[g]? = some (.cells (Tk t) tg)):Za C N Tm [.agg (Yz x),.ptr g 0] hp=some (.bool (decide (x.Name=t.Name)),hp,none):=by
 obtain ⟨m,rfl⟩:∃ m,N=m + 1:=⟨N - 1,by omega⟩
 refine Zfj (by rw [hC.T]; rfl) ?_
 simp only [N8,CO,Nat.reduceAdd,Nat.reduceLeDiff,Nat.reduceBEq,List.length_cons,List.length_nil,LG hg,RA,Zkv]
theorem Zgn {C:Cfg}(hC:Ud C)(N:Nat)(hN:3≤N)(hp:HP)(d:Zl)(hd:YA d)(t:NK)(g:Nat)(tg:TypeId)(hg:hp[g]? = some (.cells (Tk t) tg)):Za C N Q4 [.lst 3 (d.Stores.map Yz),.fn Tm [] [.ptr g 0]] hp=some (.bool ((d.Stores.map (·.Name)).contains t.Name),hp,none):=by
 obtain ⟨m,rfl⟩:∃ m,N=m + 3:=⟨N - 3,by omega⟩
 have q:=UY hC (m + 1) hp Tm [.ptr g 0] (isN t.Name) (d.Stores.map Yz) (by simpa using hd.st.2.2.1) (fun r hr=>by obtain ⟨x,_,rfl⟩:=List.mem_map.1 hr; exact ⟨NH x,BB x⟩) (fun r hr=>by
  obtain ⟨x,_,rfl⟩:=List.mem_map.1 hr
  exact Zil hC (m + 1) (by omega) hp x t g tg hg)
 refine U5 (by rw [hC.T]; rfl) ?_
 simp only [Q7,EV,q,Zan (row := Yz) (nm := fun x:QR=>x.Name) (fun _=>rfl)]
theorem Zlc {C:Cfg}(hC:Ud C)(N:Nat)(hN:4≤N)(hp:HP)(d:Zl)(t:NK)(hd:YA d):Za C N AX [.agg (Zh d),.agg (Tk t)] hp=some (.int .i64 (Zo1 d t),hp,none):=by
 obtain ⟨m,rfl⟩:∃ m,N=m + 1:=⟨N - 1,by omega⟩
 have q1:=UD hC m (by omega)
 have q2:=DL hC m (by omega)
 have q3:=KS hC m (by omega)
 have q4:=Zgn hC m (by omega) (hp ++ [.cells (Zh d) Zb] ++ [.cells (Tk t) Ml]) d hd t (hp ++ [Zk.cells (Zh d) Zb]).length Ml (ZY _ _)
 refine Ziv (by rw [hC.T]; rfl) ?_
 simp only [Cs,Oz,O0,VU,CO,Nat.reduceAdd,Nat.reduceLeDiff,Nat.reduceBEq,List.length_cons,List.length_nil,WK,Zkv,q1,q2,q3,q4,hd,hd.st,ZuU,Zo1,Zma]
def Zqd (s:OW):Int:=if (!(btw s.At_ 0 1000000000) || !(btw s.Every 0 1000000000) || !(btw s.Until 0 1000000000) || (decide (s.Every=0) && decide (s.Until≠0)))=true then 2 else 0
def ZoC (tl:Int):List MG→List Int→Int
 | p :: ps,a :: ys=>if (!(Zpe p.Ty a))=true then 2 else ZoC tl ps ys
 | _,_=>tl
def PE (d:Zl)(s:OW):Int :=
 match d.Routines.find? (fun r=>decide (r.Name=s.Routine)) with
 | none=>5
 | some r=>if decide ((s.Args.length:Int)≠(r.Params.length:Int))=true then 8 else ZoC (Zqd s) r.Params s.Args
theorem AZ.a {s:OW}(h:AZ s):s.Args.length≤4611686018427387:=by have:=h.Args.1; omega
theorem NJ.p {r:X0}(h:NJ r):r.Params.length≤4611686018427387∧r.Locals.length≤4611686018427387∧Zqm r.Body:=by
 have:=h.Params.1; have:=h.Locals.1; have:=h.Body
 exact ⟨by omega,by omega,by omega,this.2⟩
theorem Aq {C:Cfg}(K:KT)(hp0 hp:HP)(s:OW)(hs:AZ s)(ps:List MG)(hps:ps.length≤4611686018427387)(g:Nat)(tg:TypeId)(hg:hp[g]? = some (.cells (Je s) tg))(hW:∀ hp x lo hi,K Qv [.int .i64 x,.int .i64 lo,.int .i64 hi] hp=some (.bool (btw x lo hi),hp,none))(hF:∀ hp x n,K Rq [.int .i64 x,.int .i64 n] hp=some (.bool (Zpe x n),hp,none)):∀ (r1 q1:List MG) (r2 q2:List Int) (m:Nat),ps=q1 ++ r1→s.Args=q2 ++ r2→q1.length=q2.length→r1.length=r2.length→r1.length < m →
  Ui C.G K C.L hp0 (Ip C.G K C.L hp0) m (.ptr g 0) (.lst 2 (ps.map Jv)) (.lst 1 (ints s.Args)) (.int .i64 (s.Args.length:Int)) (.int .i64 (q1.length:Int)) hp none=some (.int .i64 (ZoC (Zqd s) r1 r2),hp0,none)
 | _,_,_,_,0,_,_,_,_,h=>by omega
 | [],q1,[],q2,m + 1,h1,h2,hq,_,_=>by
  have l0:=lp0 h1
  have l1:=lp0 h2
  rw [← hq] at l1
  simp only [Ui,Ip,CO,Nat.reduceAdd,Nat.reduceLeDiff,Nat.reduceBEq,List.length_cons,List.length_nil,LG hg,EI,l0,l1,hW,ZoC,Zqd]
  try rfl
 | [],q1,y :: r2,q2,m + 1,_,_,_,h,_=>by simp at h
 | x :: r1,q1,[],q2,m + 1,_,_,_,h,_=>by simp at h
 | x :: r1,q1,y :: r2,q2,m + 1,h1,h2,hq,hr,hm=>by
  obtain ⟨a1,a2,a3,a4,_⟩:=lp Jv h1 hps
  obtain ⟨b1,b2,_,b4,_⟩:=lp (fun x=>[.int .i64 x]) h2 hs.a
  rw [← hq] at b1 b2
  have g2:(ints s.Args)[q1.length]? = some [.int .i64 y]:=b2
  have ih:=Aq (C := C) K hp0 hp s hs ps hps g tg hg hW hF r1 (q1 ++ [x]) r2 (q2 ++ [y]) m a4 b4 (by simp [hq]) (by simpa using hr) (by simpa using hm)
  simp only [Ui,CO,Nat.reduceAdd,Nat.reduceLeDiff,Nat.reduceBEq,List.length_cons,List.length_nil,LG hg,EI,Zf1,a1,a2,a3,b1,Qd,g2,hF,ih,ZoC]
theorem ZjK {C:Cfg}(hC:Ud C)(N:Nat)(hN:5≤N)(hp:HP)(d:Zl)(s:OW)(hd:YA d)(hs:AZ s):Za C N SV [.agg (Zh d),.agg (Je s)] hp=some (.int .i64 (PE d s),hp,none):=by
 obtain ⟨m,rfl⟩:∃ m,N=m + 1:=⟨N - 1,by omega⟩
 have q1:=UD hC m (by omega)
 have q2:=Ze0 hC m (by omega)
 have q3:=DL hC m (by omega)
 skip
 refine ZgR (by rw [hC.T]; rfl) ?_
 rcases Zlq (row := Y6) (nm := fun x:X0=>x.Name) (fun _=>rfl) s.Routine d.Routines 0 with ⟨h1,h2⟩ | ⟨k,r,h1,h2,h3⟩
 ·simp only [MX,CO,Nat.reduceAdd,Nat.reduceLeDiff,Nat.reduceBEq,List.length_cons,List.length_nil,WK,EI,q3,hd,h2,PE,h1]
  rfl
 ·have hr:=hd.Routines.2 r (List.mem_of_getElem? h2)
  rw [Nat.zero_add] at h1
  have h4:decide (((k:Nat):Int) < 0)=false:=by simp only [decide_eq_false_iff_not]; omega
  have h5:(d.Routines.map Y6)[k]? = some (Y6 r):=by rw [List.getElem?_map,h2]; rfl
  by_cases hlen:s.Args.length=r.Params.length
  ·have h:=Aq (C := C) (Za C m) hp (hp ++ [.cells (Zh d) Zb] ++ [.cells (Je s) OD]) s hs r.Params hr.p.1 (hp ++ [Zk.cells (Zh d) Zb]).length OD (ZY _ _) q1 q2 r.Params [] s.Args [] C.L rfl rfl rfl hlen.symm (by have:=hC.L; have:=hr.p.1; omega)
   simp only [List.length_nil,Int.natCast_zero] at h
   have h6:decide ((s.Args.length:Int)≠(r.Params.length:Int))=false:=by simp only [decide_eq_false_iff_not]; omega
   simp only [MX,CO,Nat.reduceAdd,Nat.reduceLeDiff,Nat.reduceBEq,List.length_cons,List.length_nil,WK,EI,OQ,Ro,q3,hd,h1,h4,Qd,h5,h6,h,PE,h3]
  ·have h6:decide ((s.Args.length:Int)≠(r.Params.length:Int))=true:=by simp only [decide_eq_true_eq]; omega
   simp only [MX,CO,Nat.reduceAdd,Nat.reduceLeDiff,Nat.reduceBEq,List.length_cons,List.length_nil,WK,EI,OQ,Ro,q3,hd,h1,h4,Qd,h5,h6,PE,h3]
end Go.Proofs.YtlmfmmclnboglaaGreat
end
section
namespace Go.Proofs.YtlmfmmclnboglaaGreat
open Go Go.RowKit Go.Proofs.YtlmfmmclnboglaaGreat.Abs
set_option linter.all false
set_option maxRecDepth 100000
abbrev Seen:=List (List UInt8)
def Qy (s:List UInt8)(seen:Seen):Int×Seen:=if decide (R9 s≠0)=true then (R9 s,seen) else if seen.contains s=true then (4,seen) else (0,seen ++ [s])
def Ua (s:List UInt8)(rest:Int)(seen:Seen):Int×Seen:=if decide ((Qy s seen).1≠0)=true then Qy s seen else (rest,(Qy s seen).2)
def PG (v:He):Int:=if (!(btw v.Ty 1 3))=true then 1 else if (!(Zpe v.Ty v.N))=true then 2 else 0
def Zag (x:QR):Int:=if (!(btw x.Room 1 1000))=true then 2 else if (decide (x.Policy < 1) || decide (3 < x.Policy))=true then 1 else 0
def Zf7 (x:Vo):Int:=if (!(btw x.Length 1 1000) || !(btw x.Step 1 1000))=true then 2 else 0
def Q0 {α σ:Type}(most:Int)(step:α→σ→Int×σ)(l:List α)(s:σ):Int×σ:=if decide (most < (l.length:Int))=true then (6,s) else Qu step l s
def ZdU {α:Type}(most:Int)(f:α→Int)(l:List α):Int:=if decide (most < (l.length:Int))=true then 6 else Sy f l
def Does {σ:Type}(g:Nat)(es:σ→List (AV×AV))(s:σ)(hp:HP)(p:Int×σ)(r:KR):Prop:=Sc g (es s) (es p.2) hp p.1 r
theorem EB {C:Cfg}(hC:Ud C)(N:Nat)(hN:3≤N)(hp:HP)(g:Nat)(seen:Seen)(s:List UInt8)(hg:hp[g]? = some (.map (IK seen)))(hs:s.length≤140737488351232):Does g IK seen hp (Qy s seen) (Za C N Y0 [.map g,.str s] hp):=by
 obtain ⟨m,rfl⟩:∃ m,N=m + 1:=⟨N - 1,by omega⟩
 have q:=fun hp=>BA hC m (by omega) hp s hs
 have hlt:g < hp.length:=(List.getElem?_eq_some_iff.1 hg).1
 by_cases h1:R9 s=0
 ·by_cases h2:seen.contains s=true
  ·have e:Qy s seen=(4,seen):=by simp only [Qy,h1,h2]; rfl
   have k:Za C (m + 1) Y0 [.map g,.str s] hp=some (.int .i64 4,hp,none):=by
    refine Hy (by rw [hC.T]; rfl) ?_
    simp only [JK,EV,q,h1,Zlw hg,h2,ne_eq,not_true_eq_false,decide_false,IFJ]
   rw [e,k]
   exact ⟨hp,none,rfl,Upd.refl hg,Efs.refl _ _⟩
  ·have h2':seen.contains s=false:=by simpa using h2
   have e:Qy s seen=(0,seen ++ [s]):=by simp only [Qy,h1,h2']; rfl
   have k:Za C (m + 1) Y0 [.map g,.str s] hp=some (Z6 false hp (.int .i64 0) (hp.set g (.map (IK (seen ++ [s])))) (some (g,0))):=by
    refine Hy (by rw [hC.T]; rfl) ?_
    have nt:SE hp.length none g 0=some (g,0):=by simp [SE,hlt,Eff.or]
    simp only [JK,EV,q,h1,Zlw hg,h2',Zpy hg s h2',nt,ne_eq,not_true_eq_false,decide_false,IFJ]
   rw [e,k]
   exact Sc.fin 0 hg (Upd.set hg) (.inr rfl)
 ·have e:Qy s seen=(R9 s,seen):=by simp [Qy,h1]
  have k:Za C (m + 1) Y0 [.map g,.str s] hp=some (.int .i64 (R9 s),hp,none):=by
   refine Hy (by rw [hC.T]; rfl) ?_
   simp only [JK,EV,q,h1,ne_eq,not_false_eq_true,decide_true,IFJ]
  rw [e,k]
  exact ⟨hp,none,rfl,Upd.refl hg,Efs.refl _ _⟩
theorem C8 {C:Cfg}{σ:Type}(K:KT)(hp0:HP)(fv:AV)(l:List He)(hl:l.length≤4611686018427387)(step:He→σ→Int×σ)(es:σ→List (AV×AV))(g:Nat)(Good:σ→HP→Prop)(hG:∀ s hp x,Good s hp→Good s (hp ++ [x]))
  (hS:∀ x ∈ l,∀ s hp,Good s hp→Does g es s hp (step x s) (Vh K fv [.agg (Vw x)] hp)∧∀ hp',Upd g (es (step x s).2) hp hp'→Good (step x s).2 hp') (s0:σ) (h0:hp0[g]? = some (.map (es s0))):∀ (r q:List He) (m:Nat) (hp:HP) (s:σ) (ef:Eff),l=q ++ r→r.length < m→Upd g (es s) hp0 hp→Efs g (es s0) (es s) ef→Good s hp →
  Sc g (es s0) (es (Qu step r s).2) hp0 (Qu step r s).1 (WR C.G K C.L hp0 (XB C.G K C.L hp0) m fv (.lst 3 (l.map Vw)) (.int .i64 (l.length:Int)) (.int .i64 (q.length:Int)) hp ef)
 | _,_,0,_,_,_,_,h,_,_,_=>by omega
 | [],q,m + 1,hp,s,ef,h,_,hu,he,_=>by
  have l0:=lp0 h
  have k:WR C.G K C.L hp0 (XB C.G K C.L hp0) (m + 1) fv (.lst 3 (l.map Vw)) (.int .i64 (l.length:Int)) (.int .i64 (q.length:Int)) hp ef=some (Z6 false hp0 (.int .i64 0) hp ef):=by
   simp only [WR,XB,EV,l0,IFJ]
  rw [k]
  exact Sc.fin 0 h0 hu he
 | x :: r,q,m + 1,hp,s,ef,h,hm,hu,he,hgd=>by
  obtain ⟨a1,a2,a3,a4,a5⟩:=lp Vw h hl
  have hlt:g < hp0.length:=(List.getElem?_eq_some_iff.1 h0).1
  obtain ⟨hS1,hS2⟩:=hS x a5 s (hp ++ [.cells (Vw x) KY]) (hG s hp _ hgd)
  obtain ⟨hp',ef',hc,hu',he'⟩:=hS1
  have hgd':=hS2 hp' hu'
  have hu2:=hu.trans hu'.off
  have he2:=he.after hlt he'
  by_cases hz:(step x s).1=0
  ·have ih:=C8 (C := C) K hp0 fv l hl step es g Good hG hS s0 h0 r (q ++ [x]) m hp' (step x s).2 (Ze hp0.length ef ef') a4 (by simpa using hm) hu2 he2 hgd'
   have e:Qu step (x :: r) s=Qu step r (step x s).2:=by simp [Qu,hz]
   rw [e]
   simp only [WR,CO,Nat.reduceAdd,Nat.reduceLeDiff,Nat.reduceBEq,List.length_cons,List.length_nil,Zf2,STA hu.1,a1,a2,a3,Qd,hc,hz,ne_eq,not_true_eq_false]
   exact ih
  ·have e:Qu step (x :: r) s=step x s:=by simp [Qu,hz]
   rw [e]
   simp only [WR,CO,Nat.reduceAdd,Nat.reduceLeDiff,Nat.reduceBEq,List.length_cons,List.length_nil,Zf2,STA hu.1,a1,a2,a3,Qd,hc,hz,ne_eq,not_false_eq_true]
   exact Sc.fin _ h0 hu2 he2
theorem ZkX {C:Cfg}(hC:Ud C){σ:Type}(m:Nat)(hp:HP)(most:Int)(fv:AV)(hro:AV.ro fv=fv)(l:List He)(hl:l.length≤4611686018427387)(step:He→σ→Int×σ)(es:σ→List (AV×AV))(g:Nat)(Good:σ→HP→Prop)(hG:∀ s hp x,Good s hp→Good s (hp ++ [x]))
  (hS:∀ x ∈ l,∀ s hp,Good s hp→Does g es s hp (step x s) (Vh (Za C m) fv [.agg (Vw x)] hp)∧∀ hp',Upd g (es (step x s).2) hp hp'→Good (step x s).2 hp') (s:σ) (hg:hp[g]? = some (.map (es s))) (h0:Good s hp) :
  Does g es s hp (Q0 most step l s) (Za C (m + 1) Uu [.lst 3 (l.map Vw),.int .i64 most,fv] hp):=by
 have h:=C8 (C := C) (Za C m) hp fv l hl step es g Good hG hS s hg l [] C.L hp s none rfl (by have:=hC.L; omega) (Upd.refl hg) (Efs.refl _ _) h0
 simp only [List.length_nil,Int.natCast_zero] at h
 by_cases hz:most < (l.length:Int)
 ·have k:Za C (m + 1) Uu [.lst 3 (l.map Vw),.int .i64 most,fv] hp=some (.int .i64 6,hp,none):=by
   refine TM (by rw [hC.T]; rfl) ?_
   simp only [U0,CO,Nat.reduceAdd,Nat.reduceLeDiff,Nat.reduceBEq,List.length_cons,List.length_nil,hz]
  have e:Q0 most step l s=(6,s):=by simp [Q0,hz]
  rw [k,e]
  exact ⟨hp,none,rfl,Upd.refl hg,Efs.refl _ _⟩
 ·have e:Q0 most step l s=Qu step l s:=by simp [Q0,hz]
  rw [e]
  obtain ⟨hp',ef,h1,h2,h3⟩:=h
  refine ⟨hp',ef,?_,h2,h3⟩
  refine TM (by rw [hC.T]; rfl) ?_
  simp only [U0,CO,Nat.reduceAdd,Nat.reduceLeDiff,Nat.reduceBEq,List.length_cons,List.length_nil,hz,hro]
  exact h1
theorem L8 {C:Cfg}{σ:Type}(K:KT)(hp0:HP)(fv:AV)(l:List Y1)(hl:l.length≤4611686018427387)(step:Y1→σ→Int×σ)(es:σ→List (AV×AV))(g:Nat)(Good:σ→HP→Prop)(hG:∀ s hp x,Good s hp→Good s (hp ++ [x]))
  (hS:∀ x ∈ l,∀ s hp,Good s hp→Does g es s hp (step x s) (Vh K fv [.agg (Z0 x)] hp)∧∀ hp',Upd g (es (step x s).2) hp hp'→Good (step x s).2 hp') (s0:σ) (h0:hp0[g]? = some (.map (es s0))):∀ (r q:List Y1) (m:Nat) (hp:HP) (s:σ) (ef:Eff),l=q ++ r→r.length < m→Upd g (es s) hp0 hp→Efs g (es s0) (es s) ef→Good s hp →
  Sc g (es s0) (es (Qu step r s).2) hp0 (Qu step r s).1 (Y2 C.G K C.L hp0 (Qj C.G K C.L hp0) m fv (.lst 17 (l.map Z0)) (.int .i64 (l.length:Int)) (.int .i64 (q.length:Int)) hp ef)
 | _,_,0,_,_,_,_,h,_,_,_=>by omega
 | [],q,m + 1,hp,s,ef,h,_,hu,he,_=>by
  have l0:=lp0 h
  have k:Y2 C.G K C.L hp0 (Qj C.G K C.L hp0) (m + 1) fv (.lst 17 (l.map Z0)) (.int .i64 (l.length:Int)) (.int .i64 (q.length:Int)) hp ef=some (Z6 false hp0 (.int .i64 0) hp ef):=by
   simp only [Y2,Qj,EV,l0,IFJ]
  rw [k]
  exact Sc.fin 0 h0 hu he
 | x :: r,q,m + 1,hp,s,ef,h,hm,hu,he,hgd=>by
  obtain ⟨a1,a2,a3,a4,a5⟩:=lp Z0 h hl
  have hlt:g < hp0.length:=(List.getElem?_eq_some_iff.1 h0).1
  obtain ⟨hS1,hS2⟩:=hS x a5 s (hp ++ [.cells (Z0 x) WL]) (hG s hp _ hgd)
  obtain ⟨hp',ef',hc,hu',he'⟩:=hS1
  have hgd':=hS2 hp' hu'
  have hu2:=hu.trans hu'.off
  have he2:=he.after hlt he'
  by_cases hz:(step x s).1=0
  ·have ih:=L8 (C := C) K hp0 fv l hl step es g Good hG hS s0 h0 r (q ++ [x]) m hp' (step x s).2 (Ze hp0.length ef ef') a4 (by simpa using hm) hu2 he2 hgd'
   have e:Qu step (x :: r) s=Qu step r (step x s).2:=by simp [Qu,hz]
   rw [e]
   simp only [Y2,CO,Nat.reduceAdd,Nat.reduceLeDiff,Nat.reduceBEq,List.length_cons,List.length_nil,Ja,STA hu.1,a1,a2,a3,Qd,hc,hz,ne_eq,not_true_eq_false]
   exact ih
  ·have e:Qu step (x :: r) s=step x s:=by simp [Qu,hz]
   rw [e]
   simp only [Y2,CO,Nat.reduceAdd,Nat.reduceLeDiff,Nat.reduceBEq,List.length_cons,List.length_nil,Ja,STA hu.1,a1,a2,a3,Qd,hc,hz,ne_eq,not_false_eq_true]
   exact Sc.fin _ h0 hu2 he2
theorem ZbF {C:Cfg}(hC:Ud C){σ:Type}(m:Nat)(hp:HP)(most:Int)(fv:AV)(hro:AV.ro fv=fv)(l:List Y1)(hl:l.length≤4611686018427387)(step:Y1→σ→Int×σ)(es:σ→List (AV×AV))(g:Nat)(Good:σ→HP→Prop)(hG:∀ s hp x,Good s hp→Good s (hp ++ [x]))
  (hS:∀ x ∈ l,∀ s hp,Good s hp→Does g es s hp (step x s) (Vh (Za C m) fv [.agg (Z0 x)] hp)∧∀ hp',Upd g (es (step x s).2) hp hp'→Good (step x s).2 hp') (s:σ) (hg:hp[g]? = some (.map (es s))) (h0:Good s hp) :
  Does g es s hp (Q0 most step l s) (Za C (m + 1) V3 [.lst 17 (l.map Z0),.int .i64 most,fv] hp):=by
 have h:=L8 (C := C) (Za C m) hp fv l hl step es g Good hG hS s hg l [] C.L hp s none rfl (by have:=hC.L; omega) (Upd.refl hg) (Efs.refl _ _) h0
 simp only [List.length_nil,Int.natCast_zero] at h
 by_cases hz:most < (l.length:Int)
 ·have k:Za C (m + 1) V3 [.lst 17 (l.map Z0),.int .i64 most,fv] hp=some (.int .i64 6,hp,none):=by
   refine Gn (by rw [hC.T]; rfl) ?_
   simp only [V5,CO,Nat.reduceAdd,Nat.reduceLeDiff,Nat.reduceBEq,List.length_cons,List.length_nil,hz]
  have e:Q0 most step l s=(6,s):=by simp [Q0,hz]
  rw [k,e]
  exact ⟨hp,none,rfl,Upd.refl hg,Efs.refl _ _⟩
 ·have e:Q0 most step l s=Qu step l s:=by simp [Q0,hz]
  rw [e]
  obtain ⟨hp',ef,h1,h2,h3⟩:=h
  refine ⟨hp',ef,?_,h2,h3⟩
  refine Gn (by rw [hC.T]; rfl) ?_
  simp only [V5,CO,Nat.reduceAdd,Nat.reduceLeDiff,Nat.reduceBEq,List.length_cons,List.length_nil,hz,hro]
  exact h1
theorem DJ {C:Cfg}{σ:Type}(K:KT)(hp0:HP)(fv:AV)(l:List QR)(hl:l.length≤4611686018427387)(step:QR→σ→Int×σ)(es:σ→List (AV×AV))(g:Nat)(Good:σ→HP→Prop)(hG:∀ s hp x,Good s hp→Good s (hp ++ [x]))
  (hS:∀ x ∈ l,∀ s hp,Good s hp→Does g es s hp (step x s) (Vh K fv [.agg (Yz x)] hp)∧∀ hp',Upd g (es (step x s).2) hp hp'→Good (step x s).2 hp') (s0:σ) (h0:hp0[g]? = some (.map (es s0))):∀ (r q:List QR) (m:Nat) (hp:HP) (s:σ) (ef:Eff),l=q ++ r→r.length < m→Upd g (es s) hp0 hp→Efs g (es s0) (es s) ef→Good s hp →
  Sc g (es s0) (es (Qu step r s).2) hp0 (Qu step r s).1 (YH C.G K C.L hp0 (QB C.G K C.L hp0) m fv (.lst 3 (l.map Yz)) (.int .i64 (l.length:Int)) (.int .i64 (q.length:Int)) hp ef)
 | _,_,0,_,_,_,_,h,_,_,_=>by omega
 | [],q,m + 1,hp,s,ef,h,_,hu,he,_=>by
  have l0:=lp0 h
  have k:YH C.G K C.L hp0 (QB C.G K C.L hp0) (m + 1) fv (.lst 3 (l.map Yz)) (.int .i64 (l.length:Int)) (.int .i64 (q.length:Int)) hp ef=some (Z6 false hp0 (.int .i64 0) hp ef):=by
   simp only [YH,QB,EV,l0,IFJ]
  rw [k]
  exact Sc.fin 0 h0 hu he
 | x :: r,q,m + 1,hp,s,ef,h,hm,hu,he,hgd=>by
  obtain ⟨a1,a2,a3,a4,a5⟩:=lp Yz h hl
  have hlt:g < hp0.length:=(List.getElem?_eq_some_iff.1 h0).1
  obtain ⟨hS1,hS2⟩:=hS x a5 s (hp ++ [.cells (Yz x) Xd]) (hG s hp _ hgd)
  obtain ⟨hp',ef',hc,hu',he'⟩:=hS1
  have hgd':=hS2 hp' hu'
  have hu2:=hu.trans hu'.off
  have he2:=he.after hlt he'
  by_cases hz:(step x s).1=0
  ·have ih:=DJ (C := C) K hp0 fv l hl step es g Good hG hS s0 h0 r (q ++ [x]) m hp' (step x s).2 (Ze hp0.length ef ef') a4 (by simpa using hm) hu2 he2 hgd'
   have e:Qu step (x :: r) s=Qu step r (step x s).2:=by simp [Qu,hz]
   rw [e]
   simp only [YH,CO,Nat.reduceAdd,Nat.reduceLeDiff,Nat.reduceBEq,List.length_cons,List.length_nil,RA,STA hu.1,a1,a2,a3,Qd,hc,hz,ne_eq,not_true_eq_false]
   exact ih
  ·have e:Qu step (x :: r) s=step x s:=by simp [Qu,hz]
   rw [e]
   simp only [YH,CO,Nat.reduceAdd,Nat.reduceLeDiff,Nat.reduceBEq,List.length_cons,List.length_nil,RA,STA hu.1,a1,a2,a3,Qd,hc,hz,ne_eq,not_false_eq_true]
   exact Sc.fin _ h0 hu2 he2
theorem ZeQ {C:Cfg}(hC:Ud C){σ:Type}(m:Nat)(hp:HP)(most:Int)(fv:AV)(hro:AV.ro fv=fv)(l:List QR)(hl:l.length≤4611686018427387)(step:QR→σ→Int×σ)(es:σ→List (AV×AV))(g:Nat)(Good:σ→HP→Prop)(hG:∀ s hp x,Good s hp→Good s (hp ++ [x]))
  (hS:∀ x ∈ l,∀ s hp,Good s hp→Does g es s hp (step x s) (Vh (Za C m) fv [.agg (Yz x)] hp)∧∀ hp',Upd g (es (step x s).2) hp hp'→Good (step x s).2 hp') (s:σ) (hg:hp[g]? = some (.map (es s))) (h0:Good s hp) :
  Does g es s hp (Q0 most step l s) (Za C (m + 1) VN [.lst 3 (l.map Yz),.int .i64 most,fv] hp):=by
 have h:=DJ (C := C) (Za C m) hp fv l hl step es g Good hG hS s hg l [] C.L hp s none rfl (by have:=hC.L; omega) (Upd.refl hg) (Efs.refl _ _) h0
 simp only [List.length_nil,Int.natCast_zero] at h
 by_cases hz:most < (l.length:Int)
 ·have k:Za C (m + 1) VN [.lst 3 (l.map Yz),.int .i64 most,fv] hp=some (.int .i64 6,hp,none):=by
   refine Ir (by rw [hC.T]; rfl) ?_
   simp only [VT,CO,Nat.reduceAdd,Nat.reduceLeDiff,Nat.reduceBEq,List.length_cons,List.length_nil,hz]
  have e:Q0 most step l s=(6,s):=by simp [Q0,hz]
  rw [k,e]
  exact ⟨hp,none,rfl,Upd.refl hg,Efs.refl _ _⟩
 ·have e:Q0 most step l s=Qu step l s:=by simp [Q0,hz]
  rw [e]
  obtain ⟨hp',ef,h1,h2,h3⟩:=h
  refine ⟨hp',ef,?_,h2,h3⟩
  refine Ir (by rw [hC.T]; rfl) ?_
  simp only [VT,CO,Nat.reduceAdd,Nat.reduceLeDiff,Nat.reduceBEq,List.length_cons,List.length_nil,hz,hro]
  exact h1
theorem Py {C:Cfg}{σ:Type}(K:KT)(hp0:HP)(fv:AV)(l:List Vo)(hl:l.length≤4611686018427387)(step:Vo→σ→Int×σ)(es:σ→List (AV×AV))(g:Nat)(Good:σ→HP→Prop)(hG:∀ s hp x,Good s hp→Good s (hp ++ [x]))
  (hS:∀ x ∈ l,∀ s hp,Good s hp→Does g es s hp (step x s) (Vh K fv [.agg (WJ x)] hp)∧∀ hp',Upd g (es (step x s).2) hp hp'→Good (step x s).2 hp') (s0:σ) (h0:hp0[g]? = some (.map (es s0))):∀ (r q:List Vo) (m:Nat) (hp:HP) (s:σ) (ef:Eff),l=q ++ r→r.length < m→Upd g (es s) hp0 hp→Efs g (es s0) (es s) ef→Good s hp →
  Sc g (es s0) (es (Qu step r s).2) hp0 (Qu step r s).1 (YL C.G K C.L hp0 (QI C.G K C.L hp0) m fv (.lst 3 (l.map WJ)) (.int .i64 (l.length:Int)) (.int .i64 (q.length:Int)) hp ef)
 | _,_,0,_,_,_,_,h,_,_,_=>by omega
 | [],q,m + 1,hp,s,ef,h,_,hu,he,_=>by
  have l0:=lp0 h
  have k:YL C.G K C.L hp0 (QI C.G K C.L hp0) (m + 1) fv (.lst 3 (l.map WJ)) (.int .i64 (l.length:Int)) (.int .i64 (q.length:Int)) hp ef=some (Z6 false hp0 (.int .i64 0) hp ef):=by
   simp only [YL,QI,EV,l0,IFJ]
  rw [k]
  exact Sc.fin 0 h0 hu he
 | x :: r,q,m + 1,hp,s,ef,h,hm,hu,he,hgd=>by
  obtain ⟨a1,a2,a3,a4,a5⟩:=lp WJ h hl
  have hlt:g < hp0.length:=(List.getElem?_eq_some_iff.1 h0).1
  obtain ⟨hS1,hS2⟩:=hS x a5 s (hp ++ [.cells (WJ x) Vg]) (hG s hp _ hgd)
  obtain ⟨hp',ef',hc,hu',he'⟩:=hS1
  have hgd':=hS2 hp' hu'
  have hu2:=hu.trans hu'.off
  have he2:=he.after hlt he'
  by_cases hz:(step x s).1=0
  ·have ih:=Py (C := C) K hp0 fv l hl step es g Good hG hS s0 h0 r (q ++ [x]) m hp' (step x s).2 (Ze hp0.length ef ef') a4 (by simpa using hm) hu2 he2 hgd'
   have e:Qu step (x :: r) s=Qu step r (step x s).2:=by simp [Qu,hz]
   rw [e]
   simp only [YL,CO,Nat.reduceAdd,Nat.reduceLeDiff,Nat.reduceBEq,List.length_cons,List.length_nil,EH,STA hu.1,a1,a2,a3,Qd,hc,hz,ne_eq,not_true_eq_false]
   exact ih
  ·have e:Qu step (x :: r) s=step x s:=by simp [Qu,hz]
   rw [e]
   simp only [YL,CO,Nat.reduceAdd,Nat.reduceLeDiff,Nat.reduceBEq,List.length_cons,List.length_nil,EH,STA hu.1,a1,a2,a3,Qd,hc,hz,ne_eq,not_false_eq_true]
   exact Sc.fin _ h0 hu2 he2
theorem Zgp {C:Cfg}(hC:Ud C){σ:Type}(m:Nat)(hp:HP)(most:Int)(fv:AV)(hro:AV.ro fv=fv)(l:List Vo)(hl:l.length≤4611686018427387)(step:Vo→σ→Int×σ)(es:σ→List (AV×AV))(g:Nat)(Good:σ→HP→Prop)(hG:∀ s hp x,Good s hp→Good s (hp ++ [x]))
  (hS:∀ x ∈ l,∀ s hp,Good s hp→Does g es s hp (step x s) (Vh (Za C m) fv [.agg (WJ x)] hp)∧∀ hp',Upd g (es (step x s).2) hp hp'→Good (step x s).2 hp') (s:σ) (hg:hp[g]? = some (.map (es s))) (h0:Good s hp) :
  Does g es s hp (Q0 most step l s) (Za C (m + 1) Jh [.lst 3 (l.map WJ),.int .i64 most,fv] hp):=by
 have h:=Py (C := C) (Za C m) hp fv l hl step es g Good hG hS s hg l [] C.L hp s none rfl (by have:=hC.L; omega) (Upd.refl hg) (Efs.refl _ _) h0
 simp only [List.length_nil,Int.natCast_zero] at h
 by_cases hz:most < (l.length:Int)
 ·have k:Za C (m + 1) Jh [.lst 3 (l.map WJ),.int .i64 most,fv] hp=some (.int .i64 6,hp,none):=by
   refine IR (by rw [hC.T]; rfl) ?_
   simp only [Ji,CO,Nat.reduceAdd,Nat.reduceLeDiff,Nat.reduceBEq,List.length_cons,List.length_nil,hz]
  have e:Q0 most step l s=(6,s):=by simp [Q0,hz]
  rw [k,e]
  exact ⟨hp,none,rfl,Upd.refl hg,Efs.refl _ _⟩
 ·have e:Q0 most step l s=Qu step l s:=by simp [Q0,hz]
  rw [e]
  obtain ⟨hp',ef,h1,h2,h3⟩:=h
  refine ⟨hp',ef,?_,h2,h3⟩
  refine IR (by rw [hC.T]; rfl) ?_
  simp only [Ji,CO,Nat.reduceAdd,Nat.reduceLeDiff,Nat.reduceBEq,List.length_cons,List.length_nil,hz,hro]
  exact h1
theorem Su {C:Cfg}{σ:Type}(K:KT)(hp0:HP)(fv:AV)(l:List X0)(hl:l.length≤4611686018427387)(step:X0→σ→Int×σ)(es:σ→List (AV×AV))(g:Nat)(Good:σ→HP→Prop)(hG:∀ s hp x,Good s hp→Good s (hp ++ [x]))
  (hS:∀ x ∈ l,∀ s hp,Good s hp→Does g es s hp (step x s) (Vh K fv [.agg (Y6 x)] hp)∧∀ hp',Upd g (es (step x s).2) hp hp'→Good (step x s).2 hp') (s0:σ) (h0:hp0[g]? = some (.map (es s0))):∀ (r q:List X0) (m:Nat) (hp:HP) (s:σ) (ef:Eff),l=q ++ r→r.length < m→Upd g (es s) hp0 hp→Efs g (es s0) (es s) ef→Good s hp →
  Sc g (es s0) (es (Qu step r s).2) hp0 (Qu step r s).1 (WA C.G K C.L hp0 (QS C.G K C.L hp0) m fv (.lst 4 (l.map Y6)) (.int .i64 (l.length:Int)) (.int .i64 (q.length:Int)) hp ef)
 | _,_,0,_,_,_,_,h,_,_,_=>by omega
 | [],q,m + 1,hp,s,ef,h,_,hu,he,_=>by
  have l0:=lp0 h
  have k:WA C.G K C.L hp0 (QS C.G K C.L hp0) (m + 1) fv (.lst 4 (l.map Y6)) (.int .i64 (l.length:Int)) (.int .i64 (q.length:Int)) hp ef=some (Z6 false hp0 (.int .i64 0) hp ef):=by
   simp only [WA,QS,EV,l0,IFJ]
  rw [k]
  exact Sc.fin 0 h0 hu he
 | x :: r,q,m + 1,hp,s,ef,h,hm,hu,he,hgd=>by
  obtain ⟨a1,a2,a3,a4,a5⟩:=lp Y6 h hl
  have hlt:g < hp0.length:=(List.getElem?_eq_some_iff.1 h0).1
  obtain ⟨hS1,hS2⟩:=hS x a5 s (hp ++ [.cells (Y6 x) QQ]) (hG s hp _ hgd)
  obtain ⟨hp',ef',hc,hu',he'⟩:=hS1
  have hgd':=hS2 hp' hu'
  have hu2:=hu.trans hu'.off
  have he2:=he.after hlt he'
  by_cases hz:(step x s).1=0
  ·have ih:=Su (C := C) K hp0 fv l hl step es g Good hG hS s0 h0 r (q ++ [x]) m hp' (step x s).2 (Ze hp0.length ef ef') a4 (by simpa using hm) hu2 he2 hgd'
   have e:Qu step (x :: r) s=Qu step r (step x s).2:=by simp [Qu,hz]
   rw [e]
   simp only [WA,CO,Nat.reduceAdd,Nat.reduceLeDiff,Nat.reduceBEq,List.length_cons,List.length_nil,OQ,STA hu.1,a1,a2,a3,Qd,hc,hz,ne_eq,not_true_eq_false]
   exact ih
  ·have e:Qu step (x :: r) s=step x s:=by simp [Qu,hz]
   rw [e]
   simp only [WA,CO,Nat.reduceAdd,Nat.reduceLeDiff,Nat.reduceBEq,List.length_cons,List.length_nil,OQ,STA hu.1,a1,a2,a3,Qd,hc,hz,ne_eq,not_false_eq_true]
   exact Sc.fin _ h0 hu2 he2
theorem Zib {C:Cfg}(hC:Ud C){σ:Type}(m:Nat)(hp:HP)(most:Int)(fv:AV)(hro:AV.ro fv=fv)(l:List X0)(hl:l.length≤4611686018427387)(step:X0→σ→Int×σ)(es:σ→List (AV×AV))(g:Nat)(Good:σ→HP→Prop)(hG:∀ s hp x,Good s hp→Good s (hp ++ [x]))
  (hS:∀ x ∈ l,∀ s hp,Good s hp→Does g es s hp (step x s) (Vh (Za C m) fv [.agg (Y6 x)] hp)∧∀ hp',Upd g (es (step x s).2) hp hp'→Good (step x s).2 hp') (s:σ) (hg:hp[g]? = some (.map (es s))) (h0:Good s hp) :
  Does g es s hp (Q0 most step l s) (Za C (m + 1) JA [.lst 4 (l.map Y6),.int .i64 most,fv] hp):=by
 have h:=Su (C := C) (Za C m) hp fv l hl step es g Good hG hS s hg l [] C.L hp s none rfl (by have:=hC.L; omega) (Upd.refl hg) (Efs.refl _ _) h0
 simp only [List.length_nil,Int.natCast_zero] at h
 by_cases hz:most < (l.length:Int)
 ·have k:Za C (m + 1) JA [.lst 4 (l.map Y6),.int .i64 most,fv] hp=some (.int .i64 6,hp,none):=by
   refine O9 (by rw [hC.T]; rfl) ?_
   simp only [JB,CO,Nat.reduceAdd,Nat.reduceLeDiff,Nat.reduceBEq,List.length_cons,List.length_nil,hz]
  have e:Q0 most step l s=(6,s):=by simp [Q0,hz]
  rw [k,e]
  exact ⟨hp,none,rfl,Upd.refl hg,Efs.refl _ _⟩
 ·have e:Q0 most step l s=Qu step l s:=by simp [Q0,hz]
  rw [e]
  obtain ⟨hp',ef,h1,h2,h3⟩:=h
  refine ⟨hp',ef,?_,h2,h3⟩
  refine O9 (by rw [hC.T]; rfl) ?_
  simp only [JB,CO,Nat.reduceAdd,Nat.reduceLeDiff,Nat.reduceBEq,List.length_cons,List.length_nil,hz,hro]
  exact h1
theorem ZcL {C:Cfg}{σ:Type}(K:KT)(hp0:HP)(fv:AV)(l:List Zk7)(hl:l.length≤4611686018427387)(step:Zk7→σ→Int×σ)(es:σ→List (AV×AV))(g:Nat)(Good:σ→HP→Prop)(hG:∀ s hp x,Good s hp→Good s (hp ++ [x]))
  (hS:∀ x ∈ l,∀ s hp,Good s hp→Does g es s hp (step x s) (Vh K fv [.agg (Av x)] hp)∧∀ hp',Upd g (es (step x s).2) hp hp'→Good (step x s).2 hp') (s0:σ) (h0:hp0[g]? = some (.map (es s0))):∀ (r q:List Zk7) (m:Nat) (hp:HP) (s:σ) (ef:Eff),l=q ++ r→r.length < m→Upd g (es s) hp0 hp→Efs g (es s0) (es s) ef→Good s hp →
  Sc g (es s0) (es (Qu step r s).2) hp0 (Qu step r s).1 (Qi C.G K C.L hp0 (XW C.G K C.L hp0) m fv (.lst 3 (l.map Av)) (.int .i64 (l.length:Int)) (.int .i64 (q.length:Int)) hp ef)
 | _,_,0,_,_,_,_,h,_,_,_=>by omega
 | [],q,m + 1,hp,s,ef,h,_,hu,he,_=>by
  have l0:=lp0 h
  have k:Qi C.G K C.L hp0 (XW C.G K C.L hp0) (m + 1) fv (.lst 3 (l.map Av)) (.int .i64 (l.length:Int)) (.int .i64 (q.length:Int)) hp ef=some (Z6 false hp0 (.int .i64 0) hp ef):=by
   simp only [Qi,XW,EV,l0,IFJ]
  rw [k]
  exact Sc.fin 0 h0 hu he
 | x :: r,q,m + 1,hp,s,ef,h,hm,hu,he,hgd=>by
  obtain ⟨a1,a2,a3,a4,a5⟩:=lp Av h hl
  have hlt:g < hp0.length:=(List.getElem?_eq_some_iff.1 h0).1
  obtain ⟨hS1,hS2⟩:=hS x a5 s (hp ++ [.cells (Av x) Re]) (hG s hp _ hgd)
  obtain ⟨hp',ef',hc,hu',he'⟩:=hS1
  have hgd':=hS2 hp' hu'
  have hu2:=hu.trans hu'.off
  have he2:=he.after hlt he'
  by_cases hz:(step x s).1=0
  ·have ih:=ZcL (C := C) K hp0 fv l hl step es g Good hG hS s0 h0 r (q ++ [x]) m hp' (step x s).2 (Ze hp0.length ef ef') a4 (by simpa using hm) hu2 he2 hgd'
   have e:Qu step (x :: r) s=Qu step r (step x s).2:=by simp [Qu,hz]
   rw [e]
   simp only [Qi,CO,Nat.reduceAdd,Nat.reduceLeDiff,Nat.reduceBEq,List.length_cons,List.length_nil,ZnB,STA hu.1,a1,a2,a3,Qd,hc,hz,ne_eq,not_true_eq_false]
   exact ih
  ·have e:Qu step (x :: r) s=step x s:=by simp [Qu,hz]
   rw [e]
   simp only [Qi,CO,Nat.reduceAdd,Nat.reduceLeDiff,Nat.reduceBEq,List.length_cons,List.length_nil,ZnB,STA hu.1,a1,a2,a3,Qd,hc,hz,ne_eq,not_false_eq_true]
   exact Sc.fin _ h0 hu2 he2
theorem ZnR {C:Cfg}(hC:Ud C){σ:Type}(m:Nat)(hp:HP)(most:Int)(fv:AV)(hro:AV.ro fv=fv)(l:List Zk7)(hl:l.length≤4611686018427387)(step:Zk7→σ→Int×σ)(es:σ→List (AV×AV))(g:Nat)(Good:σ→HP→Prop)(hG:∀ s hp x,Good s hp→Good s (hp ++ [x]))
  (hS:∀ x ∈ l,∀ s hp,Good s hp→Does g es s hp (step x s) (Vh (Za C m) fv [.agg (Av x)] hp)∧∀ hp',Upd g (es (step x s).2) hp hp'→Good (step x s).2 hp') (s:σ) (hg:hp[g]? = some (.map (es s))) (h0:Good s hp) :
  Does g es s hp (Q0 most step l s) (Za C (m + 1) K8 [.lst 3 (l.map Av),.int .i64 most,fv] hp):=by
 have h:=ZcL (C := C) (Za C m) hp fv l hl step es g Good hG hS s hg l [] C.L hp s none rfl (by have:=hC.L; omega) (Upd.refl hg) (Efs.refl _ _) h0
 simp only [List.length_nil,Int.natCast_zero] at h
 by_cases hz:most < (l.length:Int)
 ·have k:Za C (m + 1) K8 [.lst 3 (l.map Av),.int .i64 most,fv] hp=some (.int .i64 6,hp,none):=by
   refine Ld (by rw [hC.T]; rfl) ?_
   simp only [KP,CO,Nat.reduceAdd,Nat.reduceLeDiff,Nat.reduceBEq,List.length_cons,List.length_nil,hz]
  have e:Q0 most step l s=(6,s):=by simp [Q0,hz]
  rw [k,e]
  exact ⟨hp,none,rfl,Upd.refl hg,Efs.refl _ _⟩
 ·have e:Q0 most step l s=Qu step l s:=by simp [Q0,hz]
  rw [e]
  obtain ⟨hp',ef,h1,h2,h3⟩:=h
  refine ⟨hp',ef,?_,h2,h3⟩
  refine Ld (by rw [hC.T]; rfl) ?_
  simp only [KP,CO,Nat.reduceAdd,Nat.reduceLeDiff,Nat.reduceBEq,List.length_cons,List.length_nil,hz,hro]
  exact h1
theorem Pz {C:Cfg}{σ:Type}(K:KT)(hp0:HP)(fv:AV)(l:List Zl)(hl:l.length≤4611686018427387)(step:Zl→σ→Int×σ)(es:σ→List (AV×AV))(g:Nat)(Good:σ→HP→Prop)(hG:∀ s hp x,Good s hp→Good s (hp ++ [x]))
  (hS:∀ x ∈ l,∀ s hp,Good s hp→Does g es s hp (step x s) (Vh K fv [.agg (Zh x)] hp)∧∀ hp',Upd g (es (step x s).2) hp hp'→Good (step x s).2 hp') (s0:σ) (h0:hp0[g]? = some (.map (es s0))):∀ (r q:List Zl) (m:Nat) (hp:HP) (s:σ) (ef:Eff),l=q ++ r→r.length < m→Upd g (es s) hp0 hp→Efs g (es s0) (es s) ef→Good s hp →
  Sc g (es s0) (es (Qu step r s).2) hp0 (Qu step r s).1 (YM C.G K C.L hp0 (QJ C.G K C.L hp0) m fv (.lst 13 (l.map Zh)) (.int .i64 (l.length:Int)) (.int .i64 (q.length:Int)) hp ef)
 | _,_,0,_,_,_,_,h,_,_,_=>by omega
 | [],q,m + 1,hp,s,ef,h,_,hu,he,_=>by
  have l0:=lp0 h
  have k:YM C.G K C.L hp0 (QJ C.G K C.L hp0) (m + 1) fv (.lst 13 (l.map Zh)) (.int .i64 (l.length:Int)) (.int .i64 (q.length:Int)) hp ef=some (Z6 false hp0 (.int .i64 0) hp ef):=by
   simp only [YM,QJ,EV,l0,IFJ]
  rw [k]
  exact Sc.fin 0 h0 hu he
 | x :: r,q,m + 1,hp,s,ef,h,hm,hu,he,hgd=>by
  obtain ⟨a1,a2,a3,a4,a5⟩:=lp Zh h hl
  have hlt:g < hp0.length:=(List.getElem?_eq_some_iff.1 h0).1
  obtain ⟨hS1,hS2⟩:=hS x a5 s (hp ++ [.cells (Zh x) Zb]) (hG s hp _ hgd)
  obtain ⟨hp',ef',hc,hu',he'⟩:=hS1
  have hgd':=hS2 hp' hu'
  have hu2:=hu.trans hu'.off
  have he2:=he.after hlt he'
  by_cases hz:(step x s).1=0
  ·have ih:=Pz (C := C) K hp0 fv l hl step es g Good hG hS s0 h0 r (q ++ [x]) m hp' (step x s).2 (Ze hp0.length ef ef') a4 (by simpa using hm) hu2 he2 hgd'
   have e:Qu step (x :: r) s=Qu step r (step x s).2:=by simp [Qu,hz]
   rw [e]
   simp only [YM,CO,Nat.reduceAdd,Nat.reduceLeDiff,Nat.reduceBEq,List.length_cons,List.length_nil,WK,STA hu.1,a1,a2,a3,Qd,hc,hz,ne_eq,not_true_eq_false]
   exact ih
  ·have e:Qu step (x :: r) s=step x s:=by simp [Qu,hz]
   rw [e]
   simp only [YM,CO,Nat.reduceAdd,Nat.reduceLeDiff,Nat.reduceBEq,List.length_cons,List.length_nil,WK,STA hu.1,a1,a2,a3,Qd,hc,hz,ne_eq,not_false_eq_true]
   exact Sc.fin _ h0 hu2 he2
theorem Zgq {C:Cfg}(hC:Ud C){σ:Type}(m:Nat)(hp:HP)(most:Int)(fv:AV)(hro:AV.ro fv=fv)(l:List Zl)(hl:l.length≤4611686018427387)(step:Zl→σ→Int×σ)(es:σ→List (AV×AV))(g:Nat)(Good:σ→HP→Prop)(hG:∀ s hp x,Good s hp→Good s (hp ++ [x]))
  (hS:∀ x ∈ l,∀ s hp,Good s hp→Does g es s hp (step x s) (Vh (Za C m) fv [.agg (Zh x)] hp)∧∀ hp',Upd g (es (step x s).2) hp hp'→Good (step x s).2 hp') (s:σ) (hg:hp[g]? = some (.map (es s))) (h0:Good s hp) :
  Does g es s hp (Q0 most step l s) (Za C (m + 1) Vq [.lst 13 (l.map Zh),.int .i64 most,fv] hp):=by
 have h:=Pz (C := C) (Za C m) hp fv l hl step es g Good hG hS s hg l [] C.L hp s none rfl (by have:=hC.L; omega) (Upd.refl hg) (Efs.refl _ _) h0
 simp only [List.length_nil,Int.natCast_zero] at h
 by_cases hz:most < (l.length:Int)
 ·have k:Za C (m + 1) Vq [.lst 13 (l.map Zh),.int .i64 most,fv] hp=some (.int .i64 6,hp,none):=by
   refine IU (by rw [hC.T]; rfl) ?_
   simp only [Jj,CO,Nat.reduceAdd,Nat.reduceLeDiff,Nat.reduceBEq,List.length_cons,List.length_nil,hz]
  have e:Q0 most step l s=(6,s):=by simp [Q0,hz]
  rw [k,e]
  exact ⟨hp,none,rfl,Upd.refl hg,Efs.refl _ _⟩
 ·have e:Q0 most step l s=Qu step l s:=by simp [Q0,hz]
  rw [e]
  obtain ⟨hp',ef,h1,h2,h3⟩:=h
  refine ⟨hp',ef,?_,h2,h3⟩
  refine IU (by rw [hC.T]; rfl) ?_
  simp only [Jj,CO,Nat.reduceAdd,Nat.reduceLeDiff,Nat.reduceBEq,List.length_cons,List.length_nil,hz,hro]
  exact h1
theorem ZaE {C:Cfg}{σ:Type}(K:KT)(hp0:HP)(fv:AV)(l:List BN)(hl:l.length≤4611686018427387)(step:BN→σ→Int×σ)(es:σ→List (AV×AV))(g:Nat)(Good:σ→HP→Prop)(hG:∀ s hp x,Good s hp→Good s (hp ++ [x]))
  (hS:∀ x ∈ l,∀ s hp,Good s hp→Does g es s hp (step x s) (Vh K fv [.agg (Ko x)] hp)∧∀ hp',Upd g (es (step x s).2) hp hp'→Good (step x s).2 hp') (s0:σ) (h0:hp0[g]? = some (.map (es s0))):∀ (r q:List BN) (m:Nat) (hp:HP) (s:σ) (ef:Eff),l=q ++ r→r.length < m→Upd g (es s) hp0 hp→Efs g (es s0) (es s) ef→Good s hp →
  Sc g (es s0) (es (Qu step r s).2) hp0 (Qu step r s).1 (Qa C.G K C.L hp0 (XI C.G K C.L hp0) m fv (.lst 3 (l.map Ko)) (.int .i64 (l.length:Int)) (.int .i64 (q.length:Int)) hp ef)
 | _,_,0,_,_,_,_,h,_,_,_=>by omega
 | [],q,m + 1,hp,s,ef,h,_,hu,he,_=>by
  have l0:=lp0 h
  have k:Qa C.G K C.L hp0 (XI C.G K C.L hp0) (m + 1) fv (.lst 3 (l.map Ko)) (.int .i64 (l.length:Int)) (.int .i64 (q.length:Int)) hp ef=some (Z6 false hp0 (.int .i64 0) hp ef):=by
   simp only [Qa,XI,EV,l0,IFJ]
  rw [k]
  exact Sc.fin 0 h0 hu he
 | x :: r,q,m + 1,hp,s,ef,h,hm,hu,he,hgd=>by
  obtain ⟨a1,a2,a3,a4,a5⟩:=lp Ko h hl
  have hlt:g < hp0.length:=(List.getElem?_eq_some_iff.1 h0).1
  obtain ⟨hS1,hS2⟩:=hS x a5 s (hp ++ [.cells (Ko x) VI]) (hG s hp _ hgd)
  obtain ⟨hp',ef',hc,hu',he'⟩:=hS1
  have hgd':=hS2 hp' hu'
  have hu2:=hu.trans hu'.off
  have he2:=he.after hlt he'
  by_cases hz:(step x s).1=0
  ·have ih:=ZaE (C := C) K hp0 fv l hl step es g Good hG hS s0 h0 r (q ++ [x]) m hp' (step x s).2 (Ze hp0.length ef ef') a4 (by simpa using hm) hu2 he2 hgd'
   have e:Qu step (x :: r) s=Qu step r (step x s).2:=by simp [Qu,hz]
   rw [e]
   simp only [Qa,CO,Nat.reduceAdd,Nat.reduceLeDiff,Nat.reduceBEq,List.length_cons,List.length_nil,Zaa,STA hu.1,a1,a2,a3,Qd,hc,hz,ne_eq,not_true_eq_false]
   exact ih
  ·have e:Qu step (x :: r) s=step x s:=by simp [Qu,hz]
   rw [e]
   simp only [Qa,CO,Nat.reduceAdd,Nat.reduceLeDiff,Nat.reduceBEq,List.length_cons,List.length_nil,Zaa,STA hu.1,a1,a2,a3,Qd,hc,hz,ne_eq,not_false_eq_true]
   exact Sc.fin _ h0 hu2 he2
theorem Zmo {C:Cfg}(hC:Ud C){σ:Type}(m:Nat)(hp:HP)(most:Int)(fv:AV)(hro:AV.ro fv=fv)(l:List BN)(hl:l.length≤4611686018427387)(step:BN→σ→Int×σ)(es:σ→List (AV×AV))(g:Nat)(Good:σ→HP→Prop)(hG:∀ s hp x,Good s hp→Good s (hp ++ [x]))
  (hS:∀ x ∈ l,∀ s hp,Good s hp→Does g es s hp (step x s) (Vh (Za C m) fv [.agg (Ko x)] hp)∧∀ hp',Upd g (es (step x s).2) hp hp'→Good (step x s).2 hp') (s:σ) (hg:hp[g]? = some (.map (es s))) (h0:Good s hp) :
  Does g es s hp (Q0 most step l s) (Za C (m + 1) Ke [.lst 3 (l.map Ko),.int .i64 most,fv] hp):=by
 have h:=ZaE (C := C) (Za C m) hp fv l hl step es g Good hG hS s hg l [] C.L hp s none rfl (by have:=hC.L; omega) (Upd.refl hg) (Efs.refl _ _) h0
 simp only [List.length_nil,Int.natCast_zero] at h
 by_cases hz:most < (l.length:Int)
 ·have k:Za C (m + 1) Ke [.lst 3 (l.map Ko),.int .i64 most,fv] hp=some (.int .i64 6,hp,none):=by
   refine Mv (by rw [hC.T]; rfl) ?_
   simp only [Ki,CO,Nat.reduceAdd,Nat.reduceLeDiff,Nat.reduceBEq,List.length_cons,List.length_nil,hz]
  have e:Q0 most step l s=(6,s):=by simp [Q0,hz]
  rw [k,e]
  exact ⟨hp,none,rfl,Upd.refl hg,Efs.refl _ _⟩
 ·have e:Q0 most step l s=Qu step l s:=by simp [Q0,hz]
  rw [e]
  obtain ⟨hp',ef,h1,h2,h3⟩:=h
  refine ⟨hp',ef,?_,h2,h3⟩
  refine Mv (by rw [hC.T]; rfl) ?_
  simp only [Ki,CO,Nat.reduceAdd,Nat.reduceLeDiff,Nat.reduceBEq,List.length_cons,List.length_nil,hz,hro]
  exact h1
theorem Ap {C:Cfg}{σ:Type}(K:KT)(hp0:HP)(fv:AV)(l:List (List UInt8))(hl:l.length≤4611686018427387)(step:List UInt8→σ→Int×σ)(es:σ→List (AV×AV))(g:Nat)(Good:σ→HP→Prop)
  (hS:∀ x ∈ l,∀ s hp,Good s hp→Does g es s hp (step x s) (Vh K fv [.str x] hp)∧∀ hp',Upd g (es (step x s).2) hp hp'→Good (step x s).2 hp') (s0:σ) (h0:hp0[g]? = some (.map (es s0))):∀ (r q:List (List UInt8)) (m:Nat) (hp:HP) (s:σ) (ef:Eff),l=q ++ r→r.length < m→Upd g (es s) hp0 hp→Efs g (es s0) (es s) ef→Good s hp →
  Sc g (es s0) (es (Qu step r s).2) hp0 (Qu step r s).1 (Qt C.G K C.L hp0 (Vm C.G K C.L hp0) m fv (.lst 1 (strs l)) (.int .i64 (l.length:Int)) (.int .i64 (q.length:Int)) hp ef)
 | _,_,0,_,_,_,_,h,_,_,_=>by omega
 | [],q,m + 1,hp,s,ef,h,_,hu,he,_=>by
  have l0:=lp0 h
  have k:Qt C.G K C.L hp0 (Vm C.G K C.L hp0) (m + 1) fv (.lst 1 (strs l)) (.int .i64 (l.length:Int)) (.int .i64 (q.length:Int)) hp ef=some (Z6 false hp0 (.int .i64 0) hp ef):=by
   simp only [Qt,Vm,EV,l0,IFJ]
  rw [k]
  exact Sc.fin 0 h0 hu he
 | x :: r,q,m + 1,hp,s,ef,h,hm,hu,he,hgd=>by
  obtain ⟨a1,a2,a3,a4,a5⟩:=lp (fun x:List UInt8=>[.str x]) h hl
  have g1:(strs l)[q.length]? = some [.str x]:=a2
  have hlt:g < hp0.length:=(List.getElem?_eq_some_iff.1 h0).1
  obtain ⟨hS1,hS2⟩:=hS x a5 s hp hgd
  obtain ⟨hp',ef',hc,hu',he'⟩:=hS1
  have hgd':=hS2 hp' hu'
  have hu2:=hu.trans hu'
  have he2:=he.after hlt he'
  by_cases hz:(step x s).1=0
  ·have ih:=Ap (C := C) K hp0 fv l hl step es g Good hS s0 h0 r (q ++ [x]) m hp' (step x s).2 (Ze hp0.length ef ef') a4 (by simpa using hm) hu2 he2 hgd'
   have e:Qu step (x :: r) s=Qu step r (step x s).2:=by simp [Qu,hz]
   rw [e]
   simp only [Qt,CO,Nat.reduceAdd,Nat.reduceLeDiff,Nat.reduceBEq,List.length_cons,List.length_nil,a1,g1,a3,Qd,hc,hz,ne_eq,not_true_eq_false]
   exact ih
  ·have e:Qu step (x :: r) s=step x s:=by simp [Qu,hz]
   rw [e]
   simp only [Qt,CO,Nat.reduceAdd,Nat.reduceLeDiff,Nat.reduceBEq,List.length_cons,List.length_nil,a1,g1,a3,Qd,hc,hz,ne_eq,not_false_eq_true]
   exact Sc.fin _ h0 hu2 he2
theorem ZjH {C:Cfg}(hC:Ud C){σ:Type}(m:Nat)(hp:HP)(most:Int)(fv:AV)(hro:AV.ro fv=fv)(l:List (List UInt8))(hl:l.length≤4611686018427387)(step:List UInt8→σ→Int×σ)(es:σ→List (AV×AV))(g:Nat)(Good:σ→HP→Prop)
  (hS:∀ x ∈ l,∀ s hp,Good s hp→Does g es s hp (step x s) (Vh (Za C m) fv [.str x] hp)∧∀ hp',Upd g (es (step x s).2) hp hp'→Good (step x s).2 hp') (s:σ) (hg:hp[g]? = some (.map (es s))) (h0:Good s hp) :
  Does g es s hp (Q0 most step l s) (Za C (m + 1) Gt [.lst 1 (strs l),.int .i64 most,fv] hp):=by
 have h:=Ap (C := C) (Za C m) hp fv l hl step es g Good hS s hg l [] C.L hp s none rfl (by have:=hC.L; omega) (Upd.refl hg) (Efs.refl _ _) h0
 simp only [List.length_nil,Int.natCast_zero] at h
 by_cases hz:most < (l.length:Int)
 ·have k:Za C (m + 1) Gt [.lst 1 (strs l),.int .i64 most,fv] hp=some (.int .i64 6,hp,none):=by
   refine L9 (by rw [hC.T]; rfl) ?_
   simp only [Gv,CO,Nat.reduceAdd,Nat.reduceLeDiff,Nat.reduceBEq,List.length_cons,List.length_nil,ZnJ,hz]
  have e:Q0 most step l s=(6,s):=by simp [Q0,hz]
  rw [k,e]
  exact ⟨hp,none,rfl,Upd.refl hg,Efs.refl _ _⟩
 ·have e:Q0 most step l s=Qu step l s:=by simp [Q0,hz]
  rw [e]
  obtain ⟨hp',ef,h1,h2,h3⟩:=h
  refine ⟨hp',ef,?_,h2,h3⟩
  refine L9 (by rw [hC.T]; rfl) ?_
  simp only [Gv,CO,Nat.reduceAdd,Nat.reduceLeDiff,Nat.reduceBEq,List.length_cons,List.length_nil,ZnJ,hz,hro]
  exact h1
theorem Cz {C:Cfg}(K:KT)(hp0:HP)(fv:AV)(l:List OW)(hl:l.length≤4611686018427387)(f:OW→Int)(Good:HP→Prop)(hG:∀ hp x,Good hp→Good (hp ++ [x]))(hS:∀ x ∈ l,∀ hp,Good hp→Vh K fv [.agg (Je x)] hp=some (.int .i64 (f x),hp,none)):∀ (r q:List OW) (m:Nat) (hp:HP),l=q ++ r→r.length < m→hp0.length≤hp.length→Good hp →
  QH C.G K C.L hp0 (Vv C.G K C.L hp0) m fv (.lst 5 (l.map Je)) (.int .i64 (l.length:Int)) (.int .i64 (q.length:Int)) hp none=some (.int .i64 (Sy f r),hp0,none)
 | _,_,0,_,_,h,_,_=>by omega
 | [],q,m + 1,hp,h,_,hh,_=>by
  have l0:=lp0 h
  simp only [QH,Vv,EV,l0,Sy,IFJ]
 | x :: r,q,m + 1,hp,h,hm,hh,hgd=>by
  obtain ⟨a1,a2,a3,a4,a5⟩:=lp Je h hl
  have hc:=hS x a5 (hp ++ [.cells (Je x) OD]) (hG hp _ hgd)
  have ih:=Cz (C := C) K hp0 fv l hl f Good hG hS r (q ++ [x]) m (hp ++ [.cells (Je x) OD]) a4 (by simpa using hm) (by simp; omega) (hG hp _ hgd)
  simp only [QH,CO,Nat.reduceAdd,Nat.reduceLeDiff,Nat.reduceBEq,List.length_cons,List.length_nil,EI,STA hh,a1,a2,a3,Qd,hc,ih,Sy]
theorem ZkW {C:Cfg}(hC:Ud C)(m:Nat)(hp:HP)(most:Int)(fv:AV)(hro:AV.ro fv=fv)(l:List OW)(hl:l.length≤4611686018427387)(f:OW→Int)(Good:HP→Prop)(hG:∀ hp x,Good hp→Good (hp ++ [x]))(hS:∀ x ∈ l,∀ hp,Good hp→Vh (Za C m) fv [.agg (Je x)] hp=some (.int .i64 (f x),hp,none))(h0:Good hp) :
  Za C (m + 1) Hw [.lst 5 (l.map Je),.int .i64 most,fv] hp=some (.int .i64 (ZdU most f l),hp,none):=by
 have h:=Cz (C := C) (Za C m) hp fv l hl f Good hG hS l [] C.L hp rfl (by have:=hC.L; omega) (Nat.le_refl _) h0
 simp only [List.length_nil,Int.natCast_zero] at h
 refine NG (by rw [hC.T]; rfl) ?_
 simp only [H8,CO,Nat.reduceAdd,Nat.reduceLeDiff,Nat.reduceBEq,List.length_cons,List.length_nil,hro,h,ZdU]
theorem ZaF {C:Cfg}(K:KT)(hp0:HP)(fv:AV)(l:List NK)(hl:l.length≤4611686018427387)(f:NK→Int)(Good:HP→Prop)(hG:∀ hp x,Good hp→Good (hp ++ [x]))(hS:∀ x ∈ l,∀ hp,Good hp→Vh K fv [.agg (Tk x)] hp=some (.int .i64 (f x),hp,none)):∀ (r q:List NK) (m:Nat) (hp:HP),l=q ++ r→r.length < m→hp0.length≤hp.length→Good hp →
  QP C.G K C.L hp0 (VB C.G K C.L hp0) m fv (.lst 3 (l.map Tk)) (.int .i64 (l.length:Int)) (.int .i64 (q.length:Int)) hp none=some (.int .i64 (Sy f r),hp0,none)
 | _,_,0,_,_,h,_,_=>by omega
 | [],q,m + 1,hp,h,_,hh,_=>by
  have l0:=lp0 h
  simp only [QP,VB,EV,l0,Sy,IFJ]
 | x :: r,q,m + 1,hp,h,hm,hh,hgd=>by
  obtain ⟨a1,a2,a3,a4,a5⟩:=lp Tk h hl
  have hc:=hS x a5 (hp ++ [.cells (Tk x) Ml]) (hG hp _ hgd)
  have ih:=ZaF (C := C) K hp0 fv l hl f Good hG hS r (q ++ [x]) m (hp ++ [.cells (Tk x) Ml]) a4 (by simpa using hm) (by simp; omega) (hG hp _ hgd)
  simp only [QP,CO,Nat.reduceAdd,Nat.reduceLeDiff,Nat.reduceBEq,List.length_cons,List.length_nil,Zkv,STA hh,a1,a2,a3,Qd,hc,ih,Sy]
theorem Zmp {C:Cfg}(hC:Ud C)(m:Nat)(hp:HP)(most:Int)(fv:AV)(hro:AV.ro fv=fv)(l:List NK)(hl:l.length≤4611686018427387)(f:NK→Int)(Good:HP→Prop)(hG:∀ hp x,Good hp→Good (hp ++ [x]))(hS:∀ x ∈ l,∀ hp,Good hp→Vh (Za C m) fv [.agg (Tk x)] hp=some (.int .i64 (f x),hp,none))(h0:Good hp) :
  Za C (m + 1) I9 [.lst 3 (l.map Tk),.int .i64 most,fv] hp=some (.int .i64 (ZdU most f l),hp,none):=by
 have h:=ZaF (C := C) (Za C m) hp fv l hl f Good hG hS l [] C.L hp rfl (by have:=hC.L; omega) (Nat.le_refl _) h0
 simp only [List.length_nil,Int.natCast_zero] at h
 refine SB (by rw [hC.T]; rfl) ?_
 simp only [IG,CO,Nat.reduceAdd,Nat.reduceLeDiff,Nat.reduceBEq,List.length_cons,List.length_nil,hro,h,ZdU]
end Go.Proofs.YtlmfmmclnboglaaGreat
end
section
namespace Go.Proofs.YtlmfmmclnboglaaGreat
open Go Go.RowKit Go.Proofs.YtlmfmmclnboglaaGreat.Abs
set_option linter.all false
set_option maxRecDepth 100000
theorem IFK:(∀ (c:Prop) [Decidable c] (h0 h:HP) (k:IntKind) (a b:Int) (e:Eff),(if c then (some (Z6 false h0 (.int k a) h e):KR) else some (Z6 false h0 (.int k b) h e))=some (Z6 false h0 (.int k (if c then a else b)) h e))∧(∀ (bs:Nat) (ef:Eff),Ze bs ef none=ef):=⟨fun c _ h0 h k a b e=>by split <;> rfl,fun _ _=>rfl⟩
theorem EL {s:List UInt8}{seen:Seen}(h:(Qy s seen).1=0)(rest:Int):Ua s rest seen=(rest,(Qy s seen).2):=by simp [Ua,h]
theorem Zai {s:List UInt8}{seen:Seen}(h:¬ (Qy s seen).1=0)(rest:Int):Ua s rest seen=Qy s seen:=by simp [Ua,h]
theorem ZuH (e:TypeId)(a b:List (List AV))(hp:HP):Zeb e 1 [.lst 2 a,.lst 2 b] hp=some (.own 1 [[.lst 2 a],[.lst 2 b]],hp):=rfl
theorem ZuZ (l:List MG)(a:List (List AV))(hp:HP)(h:a.length + l.length≤1000):Zo6 2 24 (.own 2 a) (.lst 2 (l.map Jv)) hp=some (.own 2 (a ++ l.map Jv)):=by
 have h1:((l.map Jv).all (·.all AV.noId1))=true:=by
  rw [List.all_eq_true]; intro x hx; obtain ⟨y,_,rfl⟩:=List.mem_map.1 hx; rfl
 have h2:(a.length + (l.map Jv).length) * 24≤140737488355328:=by simp; omega
 simp only [Zo6,rowsOf,h1,h2,and_self,if_true]
theorem ZtG {C:Cfg}(hC:Ud C)(N:Nat)(hN:1≤N)(hp:HP)(n:Int)(h0:0≤n)(h1:n≤1000):Za C N XD [.own 2 [],.int .i64 n] hp=some (.own 2 [],hp,none):=by
 obtain ⟨m,rfl⟩:∃ m,N=m + 1:=⟨N - 1,by omega⟩
 obtain ⟨g1,g2⟩:=hC.G n hp h0 h1
 simp only [Za,g1,g2]
theorem Zq4 {C:Cfg}(hC:Ud C)(N:Nat)(hN:2≤N)(hp:HP)(a b:List MG)(h:a.length + b.length≤1000):Za C N Vx [.lst 1 [[.lst 2 (a.map Jv)],[.lst 2 (b.map Jv)]]] hp=some (.own 2 ((a ++ b).map Jv),hp,none):=by
 obtain ⟨m,rfl⟩:∃ m,N=m + 1:=⟨N - 1,by omega⟩
 refine OB (by rw [hC.T]; rfl) ?_
 obtain ⟨L,hL⟩:∃ L,C.L=L + 3:=⟨C.L - 3,by have:=hC.L; omega⟩
 have w1:IntKind.i64.wrap (0 + (a.length:Int))=a.length:=by rw [Zo4 (by omega) (by omega)]; omega
 have w2:IntKind.i64.wrap ((a.length:Int) + (b.length:Int))=(a.length:Int) + b.length:=Zo4 (by omega) (by omega)
 have n1:decide ((a.length:Int) < 0)=false:=by simp only [decide_eq_false_iff_not]; omega
 have n2:decide ((a.length:Int) + (b.length:Int) < 0)=false:=by simp only [decide_eq_false_iff_not]; omega
 have q:=ZtG hC m (by omega) hp ((a.length:Int) + b.length) (by omega) (by omega)
 have p1:=ZuZ a [] hp (by simp; omega)
 have p2:=ZuZ b (a.map Jv) hp (by simp; omega)
 rw [List.nil_append] at p1
 simp only [Vz,WX,QD,WY,QE,hL,CO,iaI,w01,w1,w2,n1,n2,q,p1,p2,List.map_append]
theorem Zsy {C:Cfg}(hC:Ud C)(N:Nat)(hN:5≤N)(hp:HP)(g:Nat)(seen:Seen)(v:He)(hg:hp[g]? = some (.map (IK seen)))(ok:Zf4 v):Does g IK seen hp (Ua v.Name (PG v) seen) (Za C N VJ [.map g,.agg (Vw v)] hp):=by
 obtain ⟨m,rfl⟩:∃ m,N=m + 1:=⟨N - 1,by omega⟩
 have q1:=ZcN hC m (by omega)
 have q2:=Ze0 hC m (by omega)
 have hlt:g < hp.length:=(List.getElem?_eq_some_iff.1 hg).1
 obtain ⟨h1,f1,q,u,e⟩:=EB hC m (by omega) (hp ++ [.cells (Vw v) KY]) g seen v.Name (Zjh hg _) ok.Name
 have c1:=u.get (ZY hp (.cells (Vw v) KY)) (by omega)
 have e1:Efs g (IK seen) (IK (Qy v.Name seen).2) (Ze hp.length none f1):=(Efs.refl _ _).after hlt e
 by_cases hz:(Qy v.Name seen).1=0
 ·rw [hz] at q
  have k:Za C (m + 1) VJ [.map g,.agg (Vw v)] hp=some (Z6 false hp (.int .i64 (PG v)) h1 (Ze hp.length none f1)):=by
   refine MH (by rw [hC.T]; rfl) ?_
   simp only [KN,EV,LD,BL,IFJ,IFK,GI,QC,Nat.reduceAdd,Nat.reduceLeDiff,Nat.reduceBEq,List.length_cons,List.length_nil,Zf2,q,LG c1,q1,q2,PG,ne_eq,not_true_eq_false]
  rw [k,EL hz]
  exact Sc.fin _ hg u.off e1
 ·have k:Za C (m + 1) VJ [.map g,.agg (Vw v)] hp=some (Z6 false hp (.int .i64 (Qy v.Name seen).1) h1 (Ze hp.length none f1)):=by
   refine MH (by rw [hC.T]; rfl) ?_
   simp only [KN,EV,LD,BL,IFJ,IFK,GI,QC,Nat.reduceAdd,Nat.reduceLeDiff,Nat.reduceBEq,List.length_cons,List.length_nil,Zf2,q,hz,ne_eq,not_false_eq_true]
  rw [k,Zai hz]
  exact Sc.fin _ hg u.off e1
theorem ZoG (K:KT)(f:FuncId)(a:List AV)(g:Nat)(hp:HP):Vh K (.fn f [.map g] []) a hp=K f (.map g :: a) hp:=by
 show K f ([AV.nm (.map g)] ++ a ++ []) hp=_
 simp [AV.nm]
theorem Es (K:KT)(f:FuncId)(a c:List AV)(hp:HP):Vh K (.fn f [] c) a hp=K f (a ++ c.map AV.nm) hp:=rfl
def ZtB (g:Nat)(s:Seen)(hp:HP):Prop:=hp[g]? = some (.map (IK s))
theorem Znn {C:Cfg}(hC:Ud C)(N:Nat)(hN:7≤N)(hp:HP)(g:Nat)(seen:Seen)(l:List He)(hg:hp[g]? = some (.map (IK seen)))(hl:l.length≤4611686018427387)(ok:∀ v ∈ l,Zf4 v):Does g IK seen hp (Q0 32 (fun v=>Ua v.Name (PG v)) l seen) (Za C N V6 [.map g,.lst 3 (l.map Vw)] hp):=by
 obtain ⟨m,rfl⟩:∃ m,N=m + 2:=⟨N - 2,by omega⟩
 obtain ⟨hp',ef,q,u,e⟩:=ZkX hC m hp 32 (.fn VJ [.map g] []) rfl l hl (fun v=>Ua v.Name (PG v)) IK g (ZtB g) (fun s hp x h=>Zjh h x) (fun x hx s hp h=>⟨by rw [ZoG]; exact Zsy hC m (by omega) hp g s x h (ok x hx),fun hp' hu=>hu.2.1⟩) seen hg hg
 have hlt:g < hp.length:=(List.getElem?_eq_some_iff.1 hg).1
 have k:Za C (m + 1 + 1) V6 [.map g,.lst 3 (l.map Vw)] hp=some (Z6 false hp (.int .i64 (Q0 32 (fun v:He=>Ua v.Name (PG v)) l seen).1) hp' (Ze hp.length none ef)):=by
  refine NL (by rw [hC.T]; rfl) ?_
  simp only [IE,EV,q]
 rw [k]
 exact Sc.fin _ hg u ((Efs.refl _ _).after hlt e)
structure SI (g gs gd gp:Nat)(d:Zl)(s:Seen)(hp:HP):Prop where
 m:hp[g]? = some (.map (IK s))
 c:hp[gs]? = some (.cells [.map g] Qz)
 d:hp[gd]? = some (.cells (Zh d) Zb)
 p:hp[gp]? = some (.cells [.fn Qk [] [.ptr gs 0]] XC)
 n1:gs≠g
 n2:gd≠g
 n3:gp≠g
theorem SI.app {g gs gd gp:Nat}{d:Zl}{s:Seen}{hp:HP}(h:SI g gs gd gp d s hp)(x:Zk):SI g gs gd gp d s (hp ++ [x]):=⟨Zjh h.m x,GY h.c x,GY h.d x,GY h.p x,h.n1,h.n2,h.n3⟩
theorem SI.upd {g gs gd gp:Nat}{d:Zl}{s s':Seen}{hp hp':HP}(h:SI g gs gd gp d s hp)(u:Upd g (IK s') hp hp'):SI g gs gd gp d s' hp':=⟨u.2.1,u.get h.c h.n1,u.get h.d h.n2,u.get h.p h.n3,h.n1,h.n2,h.n3⟩
theorem ZeV {C:Cfg}(hC:Ud C)(N:Nat)(hp:HP)(g gs gd gp:Nat)(d:Zl)(seen:Seen)(hd:YA d)(v:Y1)(hi:SI g gs gd gp d seen hp)(ok:KZ v)(hN:8≤N):Does g IK seen hp (Ua v.Name (ZpQ d v) seen) (Za C N Kz [.agg (Z0 v),.ptr gs 0,.ptr gd 0] hp):=by
 obtain ⟨m,rfl⟩:∃ m,N=m + 1:=⟨N - 1,by omega⟩
 have p0:=UD hC m (by omega)
 have p1:=ZeU hC m (by omega)
 have p2:=ZeS hC m (by omega)
 have hlt:g < hp.length:=(List.getElem?_eq_some_iff.1 hi.m).1
 have cs:=GY hi.c (.cells (Z0 v) WL)
 obtain ⟨h1,f1,q,u,e⟩:=EB hC m (by omega) (hp ++ [.cells (Z0 v) WL]) g seen v.Name (Zjh hi.m _) ok.Name
 have c1:=u.get (ZY hp (.cells (Z0 v) WL)) (by omega)
 have cd:=u.get (GY hi.d (.cells (Z0 v) WL)) hi.n2
 have e1:Efs g (IK seen) (IK (Qy v.Name seen).2) (Ze hp.length none f1):=(Efs.refl _ _).after hlt e
 by_cases hz:(Qy v.Name seen).1=0
 ·rw [hz] at q
  have k:Za C (m + 1) Kz [.agg (Z0 v),.ptr gs 0,.ptr gd 0] hp=some (Z6 false hp (.int .i64 (ZpQ d v)) h1 (Ze hp.length none f1)):=by
   refine P8 (by rw [hC.T]; rfl) ?_
   simp only [TT,EV,LD,BL,IFJ,IFK,GI,QC,Nat.reduceAdd,Nat.reduceLeDiff,Nat.reduceBEq,List.length_cons,List.length_nil,Ja,LG cs,q,LG c1,LG cd,LGP c1,p0,p1,p2,ok,hd,ok.Fault,WK,ZnA,ZpQ,ne_eq,not_true_eq_false]
  rw [k,EL hz]
  exact Sc.fin _ hi.m u.off e1
 ·have k:Za C (m + 1) Kz [.agg (Z0 v),.ptr gs 0,.ptr gd 0] hp=some (Z6 false hp (.int .i64 (Qy v.Name seen).1) h1 (Ze hp.length none f1)):=by
   refine P8 (by rw [hC.T]; rfl) ?_
   simp only [TT,EV,LD,BL,IFJ,IFK,GI,QC,Nat.reduceAdd,Nat.reduceLeDiff,Nat.reduceBEq,List.length_cons,List.length_nil,Ja,LG cs,q,hz,ne_eq,not_false_eq_true]
  rw [k,Zai hz]
  exact Sc.fin _ hi.m u.off e1
theorem ZeW {C:Cfg}(hC:Ud C)(N:Nat)(hp:HP)(g gs gd gp:Nat)(d:Zl)(seen:Seen)(hd:YA d)(v:QR)(hi:SI g gs gd gp d seen hp)(ok:ZaT v)(hN:5≤N):Does g IK seen hp (Ua v.Name (Zag v) seen) (Za C N K3 [.agg (Yz v),.ptr gs 0] hp):=by
 obtain ⟨m,rfl⟩:∃ m,N=m + 1:=⟨N - 1,by omega⟩
 have p0:=UD hC m (by omega)
 have hlt:g < hp.length:=(List.getElem?_eq_some_iff.1 hi.m).1
 have cs:=GY hi.c (.cells (Yz v) Xd)
 obtain ⟨h1,f1,q,u,e⟩:=EB hC m (by omega) (hp ++ [.cells (Yz v) Xd]) g seen v.Name (Zjh hi.m _) ok.Name
 have c1:=u.get (ZY hp (.cells (Yz v) Xd)) (by omega)
 have cd:=u.get (GY hi.d (.cells (Yz v) Xd)) hi.n2
 have e1:Efs g (IK seen) (IK (Qy v.Name seen).2) (Ze hp.length none f1):=(Efs.refl _ _).after hlt e
 by_cases hz:(Qy v.Name seen).1=0
 ·rw [hz] at q
  have k:Za C (m + 1) K3 [.agg (Yz v),.ptr gs 0] hp=some (Z6 false hp (.int .i64 (Zag v)) h1 (Ze hp.length none f1)):=by
   refine P9 (by rw [hC.T]; rfl) ?_
   simp only [TU,EV,LD,BL,IFJ,IFK,GI,QC,Nat.reduceAdd,Nat.reduceLeDiff,Nat.reduceBEq,List.length_cons,List.length_nil,RA,LG cs,q,LG c1,LG cd,LGP c1,p0,Zag,ne_eq,not_true_eq_false]
  rw [k,EL hz]
  exact Sc.fin _ hi.m u.off e1
 ·have k:Za C (m + 1) K3 [.agg (Yz v),.ptr gs 0] hp=some (Z6 false hp (.int .i64 (Qy v.Name seen).1) h1 (Ze hp.length none f1)):=by
   refine P9 (by rw [hC.T]; rfl) ?_
   simp only [TU,EV,LD,BL,IFJ,IFK,GI,QC,Nat.reduceAdd,Nat.reduceLeDiff,Nat.reduceBEq,List.length_cons,List.length_nil,RA,LG cs,q,hz,ne_eq,not_false_eq_true]
  rw [k,Zai hz]
  exact Sc.fin _ hi.m u.off e1
theorem ZeX {C:Cfg}(hC:Ud C)(N:Nat)(hp:HP)(g gs gd gp:Nat)(d:Zl)(seen:Seen)(hd:YA d)(v:Vo)(hi:SI g gs gd gp d seen hp)(ok:Zdg v)(hN:5≤N):Does g IK seen hp (Ua v.Name (Zf7 v) seen) (Za C N K4 [.agg (WJ v),.ptr gs 0] hp):=by
 obtain ⟨m,rfl⟩:∃ m,N=m + 1:=⟨N - 1,by omega⟩
 have p0:=UD hC m (by omega)
 have hlt:g < hp.length:=(List.getElem?_eq_some_iff.1 hi.m).1
 have cs:=GY hi.c (.cells (WJ v) Vg)
 obtain ⟨h1,f1,q,u,e⟩:=EB hC m (by omega) (hp ++ [.cells (WJ v) Vg]) g seen v.Name (Zjh hi.m _) ok.Name
 have c1:=u.get (ZY hp (.cells (WJ v) Vg)) (by omega)
 have cd:=u.get (GY hi.d (.cells (WJ v) Vg)) hi.n2
 have e1:Efs g (IK seen) (IK (Qy v.Name seen).2) (Ze hp.length none f1):=(Efs.refl _ _).after hlt e
 by_cases hz:(Qy v.Name seen).1=0
 ·rw [hz] at q
  have k:Za C (m + 1) K4 [.agg (WJ v),.ptr gs 0] hp=some (Z6 false hp (.int .i64 (Zf7 v)) h1 (Ze hp.length none f1)):=by
   refine PD (by rw [hC.T]; rfl) ?_
   simp only [TV,EV,LD,BL,IFJ,IFK,GI,QC,Nat.reduceAdd,Nat.reduceLeDiff,Nat.reduceBEq,List.length_cons,List.length_nil,EH,LG cs,q,LG c1,LG cd,LGP c1,p0,Zf7,ne_eq,not_true_eq_false]
  rw [k,EL hz]
  exact Sc.fin _ hi.m u.off e1
 ·have k:Za C (m + 1) K4 [.agg (WJ v),.ptr gs 0] hp=some (Z6 false hp (.int .i64 (Qy v.Name seen).1) h1 (Ze hp.length none f1)):=by
   refine PD (by rw [hC.T]; rfl) ?_
   simp only [TV,EV,LD,BL,IFJ,IFK,GI,QC,Nat.reduceAdd,Nat.reduceLeDiff,Nat.reduceBEq,List.length_cons,List.length_nil,EH,LG cs,q,hz,ne_eq,not_false_eq_true]
  rw [k,Zai hz]
  exact Sc.fin _ hi.m u.off e1
def Zg7 (f:MG):Int:=if (!(btw f.Ty 1 3))=true then 1 else 0
def Bg (l:List MG)(s:Seen):Int×Seen:=Qu (fun f:MG=>Ua f.Name (Zg7 f)) l s
def IW (r:X0):Int :=
 if (decide (6 < (r.Params.length:Int)) || decide (16 < (r.Params.length:Int) + (r.Locals.length:Int)))=true then 6
 else if decide ((Bg (r.Params ++ r.Locals) []).1≠0)=true then (Bg (r.Params ++ r.Locals) []).1 else ZkU r.Body
theorem P5 {C:Cfg}(K:KT)(hp0:HP)(r0:X0)(fs:List MG)(hl:fs.length≤4611686018427387)(g g1:Nat)(tg1:TypeId)(hgb:hp0.length≤g)(hne:g1≠g)(hE:∀ hp seen s,hp[g]? = some (.map (IK seen))→s.length≤140737488351232→Does g IK seen hp (Qy s seen) (K Y0 [.map g,.str s] hp))
  (hW:∀ hp x,K M9 [.int .i64 x] hp=some (.bool (btw x 1 3),hp,none)) (hB:∀ hp,K Pn [.lst 21 (r0.Body.map QT)] hp=some (.int .i64 (ZkU r0.Body),hp,none)) (okn:∀ f ∈ fs,Zjy f):∀ (r q:List MG) (m:Nat) (hp:HP) (seen:Seen),fs=q ++ r→r.length < m→hp0.length≤hp.length→hp[g]? = some (.map (IK seen))→hp[g1]? = some (.cells (Y6 r0) tg1) →
  XN C.G K C.L hp0 (KQ C.G K C.L hp0) m (.ptr g1 0) (.map g) (.lst 2 (fs.map Jv)) (.int .i64 (fs.length:Int)) (.int .i64 (q.length:Int)) hp none=some (.int .i64 (if decide ((Bg r seen).1≠0)=true then (Bg r seen).1 else ZkU r0.Body),hp0,none)
 | _,_,0,_,_,_,h,_,_,_=>by omega
 | [],q,m + 1,hp,seen,h,_,hh,hg,hg1=>by
  have l0:=lp0 h
  simp only [XN,KQ,EV,LD,BL,IFJ,IFK,GI,QC,Nat.reduceAdd,Nat.reduceLeDiff,Nat.reduceBEq,List.length_cons,List.length_nil,l0,LG hg1,OQ,hB,Bg,Qu,ne_eq,not_true_eq_false]
 | x :: r,q,m + 1,hp,seen,h,hm,hh,hg,hg1=>by
  obtain ⟨a1,a2,a3,a4,a5⟩:=lp Jv h hl
  have hlt:g < hp.length:=(List.getElem?_eq_some_iff.1 hg).1
  obtain ⟨h1,f1,qe,u,e⟩:=hE (hp ++ [.cells (Jv x) Zah]) seen x.Name (Zjh hg _) (okn x a5).Name
  have dr:Ze hp0.length none f1=none:=e.drop hgb
  have c1:=u.get (ZY hp (.cells (Jv x) Zah)) (by omega)
  by_cases hz:(Qy x.Name seen).1=0
  ·rw [hz] at qe
   by_cases hf:Zg7 x=0
   ·have ih:=P5 (C := C) K hp0 r0 fs hl g g1 tg1 hgb hne hE hW hB okn r (q ++ [x]) m h1 (Qy x.Name seen).2 a4 (by simpa using hm) (by have:=u.1; simp at this; omega) u.2.1 (u.get (GY hg1 _) hne)
    have e1:Bg (x :: r) seen=Bg r (Qy x.Name seen).2:=by simp [Bg,Qu,EL hz,hf]
    rw [e1]
    have hb:btw x.Ty 1 3=true:=by
     unfold Zg7 at hf; cases hb:btw x.Ty 1 3
     ·rw [hb] at hf; exact absurd hf (by decide)
     ·rfl
    simp only [XN,EV,LD,BL,IFJ,IFK,GI,QC,Nat.reduceAdd,Nat.reduceLeDiff,Nat.reduceBEq,List.length_cons,List.length_nil,Zf1,STA hh,a1,a2,a3,Qd,qe,dr,LG c1,hW,hb,ne_eq,not_true_eq_false]
    exact ih
   ·have e1:Bg (x :: r) seen=(Zg7 x,(Qy x.Name seen).2):=by simp [Bg,Qu,EL hz,hf]
    have hb:btw x.Ty 1 3=false:=by
     unfold Zg7 at hf; cases hb:btw x.Ty 1 3
     ·rfl
     ·rw [hb] at hf; exact absurd rfl hf
    have e2:Zg7 x=1:=by unfold Zg7; rw [hb]; rfl
    rw [e1]
    simp only [XN,EV,LD,BL,IFJ,IFK,GI,QC,Nat.reduceAdd,Nat.reduceLeDiff,Nat.reduceBEq,List.length_cons,List.length_nil,Zf1,STA hh,a1,a2,a3,Qd,qe,dr,LG c1,hW,hb,e2,ne_eq,not_true_eq_false]
    rfl
  ·have e1:Bg (x :: r) seen=Qy x.Name seen:=by simp [Bg,Qu,Zai hz,hz]
   rw [e1]
   simp only [XN,EV,LD,BL,IFJ,IFK,GI,QC,Nat.reduceAdd,Nat.reduceLeDiff,Nat.reduceBEq,List.length_cons,List.length_nil,Zf1,STA hh,a1,a2,a3,Qd,qe,dr,hz,ne_eq,not_false_eq_true]
theorem Zgu {C:Cfg}(hC:Ud C)(N:Nat)(hp:HP)(r:X0)(hN:SizeOf.sizeOf r.Body + 15≤N)(ok:NJ r):Za C N BK [.agg (Y6 r)] hp=some (.int .i64 (IW r),hp,none):=by
 obtain ⟨m,rfl⟩:∃ m,N=m + 1:=⟨N - 1,by omega⟩
 have hb:=ok.p
 have q1:=fun hp=>Zld hC m hp r.Body (by omega) hb.2.2
 have q2:=ZcN hC m (by omega)
 have wr:IntKind.i64.wrap ((r.Params.length:Int) + (r.Locals.length:Int))=(r.Params.length:Int) + (r.Locals.length:Int):=Zo4 (by omega) (by omega)
 refine Zei (by rw [hC.T]; rfl) ?_
 by_cases hc:(decide (6 < (r.Params.length:Int)) || decide (16 < (r.Params.length:Int) + (r.Locals.length:Int)))=true
 ·simp only [MW,EV,LD,BL,IFJ,IFK,GI,QC,Nat.reduceAdd,Nat.reduceLeDiff,Nat.reduceBEq,List.length_cons,List.length_nil,OQ,wr,IW,hc]
 ·have hc':(decide (6 < (r.Params.length:Int)) || decide (16 < (r.Params.length:Int) + (r.Locals.length:Int)))=false:=by simpa using hc
  have hsm:r.Params.length + r.Locals.length≤16:=by simp only [Bool.or_eq_false_iff,decide_eq_false_iff_not] at hc'; omega
  have q3:=fun hp=>Zq4 hC m (by omega) hp r.Params r.Locals (by omega)
  have h:=P5 (C := C) (Za C m) hp r (r.Params ++ r.Locals) (by simp; omega) (hp ++ [Zk.cells (Y6 r) QQ]).length hp.length QQ (by simp) (by simp) (fun hp seen s hg hs=>EB hC m (by omega) hp _ seen s hg hs) q2 q1 (fun f hf=>by
   rcases List.mem_append.1 hf with hf | hf
   ·exact ok.Params.2 f hf
   ·exact ok.Locals.2 f hf) (r.Params ++ r.Locals) [] C.L (hp ++ [.cells (Y6 r) QQ] ++ [.map []]) [] rfl (by have:=hC.L; simp; omega) (by simp <;> omega) (ZY _ _) (GY (ZY _ _) _)
  simp only [List.length_nil,Int.natCast_zero] at h
  simp only [MW,EV,LD,BL,IFJ,IFK,GI,QC,Nat.reduceAdd,Nat.reduceLeDiff,Nat.reduceBEq,List.length_cons,List.length_nil,OQ,wr,IW,hc',ZuH,q3,h]
theorem ZdS {C:Cfg}(hC:Ud C)(N:Nat)(hp:HP)(g gs gd gp:Nat)(d:Zl)(seen:Seen)(hd:YA d)(v:X0)(hi:SI g gs gd gp d seen hp)(ok:NJ v)(hN:SizeOf.sizeOf v.Body + 16≤N):Does g IK seen hp (Ua v.Name (IW v) seen) (Za C N UE [.agg (Y6 v),.ptr gs 0] hp):=by
 obtain ⟨m,rfl⟩:∃ m,N=m + 1:=⟨N - 1,by omega⟩
 have p0:=fun hp=>Zgu hC m hp v (by omega) ok
 have hlt:g < hp.length:=(List.getElem?_eq_some_iff.1 hi.m).1
 have cs:=GY hi.c (.cells (Y6 v) QQ)
 obtain ⟨h1,f1,q,u,e⟩:=EB hC m (by omega) (hp ++ [.cells (Y6 v) QQ]) g seen v.Name (Zjh hi.m _) ok.Name
 have c1:=u.get (ZY hp (.cells (Y6 v) QQ)) (by omega)
 have cd:=u.get (GY hi.d (.cells (Y6 v) QQ)) hi.n2
 have e1:Efs g (IK seen) (IK (Qy v.Name seen).2) (Ze hp.length none f1):=(Efs.refl _ _).after hlt e
 by_cases hz:(Qy v.Name seen).1=0
 ·rw [hz] at q
  have k:Za C (m + 1) UE [.agg (Y6 v),.ptr gs 0] hp=some (Z6 false hp (.int .i64 (IW v)) h1 (Ze hp.length none f1)):=by
   refine DV (by rw [hC.T]; rfl) ?_
   simp only [OO,EV,LD,BL,IFJ,IFK,GI,QC,Nat.reduceAdd,Nat.reduceLeDiff,Nat.reduceBEq,List.length_cons,List.length_nil,OQ,LG cs,q,LG c1,LG cd,LGP c1,p0,ne_eq,not_true_eq_false]
  rw [k,EL hz]
  exact Sc.fin _ hi.m u.off e1
 ·have k:Za C (m + 1) UE [.agg (Y6 v),.ptr gs 0] hp=some (Z6 false hp (.int .i64 (Qy v.Name seen).1) h1 (Ze hp.length none f1)):=by
   refine DV (by rw [hC.T]; rfl) ?_
   simp only [OO,EV,LD,BL,IFJ,IFK,GI,QC,Nat.reduceAdd,Nat.reduceLeDiff,Nat.reduceBEq,List.length_cons,List.length_nil,OQ,LG cs,q,hz,ne_eq,not_false_eq_true]
  rw [k,Zai hz]
  exact Sc.fin _ hi.m u.off e1
def ZtM (d:Zl)(l:Zk7):Int :=
 if decide ((l.Terms.length:Int)=0)=true then 7 else if decide (ZdU 8 (Zo1 d) l.Terms≠0)=true then ZdU 8 (Zo1 d) l.Terms else if (!(inB l.Total))=true then 2 else 0
structure SL (g gs gd:Nat)(d:Zl)(s:Seen)(hp:HP):Prop where
 m:hp[g]? = some (.map (IK s))
 c:hp[gs]? = some (.cells [.map g] Qz)
 d:hp[gd]? = some (.cells (Zh d) Zb)
 n1:gs≠g
 n2:gd≠g
theorem SL.app {g gs gd:Nat}{d:Zl}{s:Seen}{hp:HP}(h:SL g gs gd d s hp)(x:Zk):SL g gs gd d s (hp ++ [x]):=⟨Zjh h.m x,GY h.c x,GY h.d x,h.n1,h.n2⟩
theorem SL.upd {g gs gd:Nat}{d:Zl}{s s':Seen}{hp hp':HP}(h:SL g gs gd d s hp)(u:Upd g (IK s') hp hp'):SL g gs gd d s' hp':=⟨u.2.1,u.get h.c h.n1,u.get h.d h.n2,h.n1,h.n2⟩
theorem ZnM.t {l:Zk7}(h:ZnM l):l.Terms.length≤4611686018427387:=by have:=h.Terms.1; omega
theorem ZeT {C:Cfg}(hC:Ud C)(N:Nat)(hN:5≤N)(hp:HP)(d:Zl)(t:NK)(gd:Nat)(tg:TypeId)(hg:hp[gd]? = some (.cells (Zh d) tg))(hd:YA d):Za C N TQ [.agg (Tk t),.ptr gd 0] hp=some (.int .i64 (Zo1 d t),hp,none):=by
 obtain ⟨m,rfl⟩:∃ m,N=m + 1:=⟨N - 1,by omega⟩
 have q:=Zlc hC m (by omega)
 refine ZcV (by rw [hC.T]; rfl) ?_
 simp only [Bf,EV,LD,BL,IFJ,IFK,GI,QC,Nat.reduceAdd,Nat.reduceLeDiff,Nat.reduceBEq,List.length_cons,List.length_nil,LG hg,WK,Zkv,q,hd]
theorem Zic {C:Cfg}(hC:Ud C)(N:Nat)(hp:HP)(g gs gd gp:Nat)(d:Zl)(seen:Seen)(hd:YA d)(v:Zk7)(hi:SL g gs gd d seen hp)(ok:ZnM v)(hN:8≤N):Does g IK seen hp (Ua v.Name (ZtM d v) seen) (Za C N Iw [.agg (Av v),.ptr gs 0,.ptr gd 0] hp):=by
 obtain ⟨m,rfl⟩:∃ m,N=m + 1:=⟨N - 1,by omega⟩
 obtain ⟨m,rfl⟩:∃ m',m=m' + 1:=⟨m - 1,by omega⟩
 have p0:=ZjM hC (m + 1) (by omega)
 have hlt:g < hp.length:=(List.getElem?_eq_some_iff.1 hi.m).1
 have cs:=GY hi.c (.cells (Av v) Re)
 obtain ⟨h1,f1,q,u,e⟩:=EB hC (m + 1) (by omega) (hp ++ [.cells (Av v) Re]) g seen v.Name (Zjh hi.m _) ok.Name
 have c1:=u.get (ZY hp (.cells (Av v) Re)) (by omega)
 have cd:=u.get (GY hi.d (.cells (Av v) Re)) hi.n2
 have e1:Efs g (IK seen) (IK (Qy v.Name seen).2) (Ze hp.length none f1):=(Efs.refl _ _).after hlt e
 have tm:=Zmp hC m h1 8 (.fn TQ [] [.ptr gd 0]) rfl v.Terms ok.t (Zo1 d) (fun hp=>hp[gd]? = some (.cells (Zh d) Zb)) (fun hp x h=>GY h x) (fun x hx hp h=>by rw [Es]; exact ZeT hC m (by omega) hp d x gd _ h hd) cd
 by_cases hz:(Qy v.Name seen).1=0
 ·rw [hz] at q
  have k:Za C (m + 1 + 1) Iw [.agg (Av v),.ptr gs 0,.ptr gd 0] hp=some (Z6 false hp (.int .i64 (ZtM d v)) h1 (Ze hp.length none f1)):=by
   refine Ar (by rw [hC.T]; rfl) ?_
   simp only [Rm,EV,LD,BL,IFJ,IFK,GI,QC,Nat.reduceAdd,Nat.reduceLeDiff,Nat.reduceBEq,List.length_cons,List.length_nil,ZnB,LG cs,q,LG c1,LG cd,LGP c1,p0,tm,ZtM,ne_eq,not_true_eq_false]
  rw [k,EL hz]
  exact Sc.fin _ hi.m u.off e1
 ·have k:Za C (m + 1 + 1) Iw [.agg (Av v),.ptr gs 0,.ptr gd 0] hp=some (Z6 false hp (.int .i64 (Qy v.Name seen).1) h1 (Ze hp.length none f1)):=by
   refine Ar (by rw [hC.T]; rfl) ?_
   simp only [Rm,EV,LD,BL,IFJ,IFK,GI,QC,Nat.reduceAdd,Nat.reduceLeDiff,Nat.reduceBEq,List.length_cons,List.length_nil,ZnB,LG cs,q,hz,ne_eq,not_false_eq_true]
  rw [k,Zai hz]
  exact Sc.fin _ hi.m u.off e1
def ZjU (d:Zl):Int:=(Q0 32 (fun l:Zk7=>Ua l.Name (ZtM d l)) d.Laws []).1
theorem YA.l2 {d:Zl}(h:YA d):d.Vars.length≤4611686018427387∧d.Resources.length≤4611686018427387∧d.Belts.length≤4611686018427387∧d.Queues.length≤4611686018427387∧d.Tallies.length≤4611686018427387∧d.Levels.length≤4611686018427387∧d.Starts.length≤4611686018427387∧d.Laws.length≤4611686018427387:=by
 have:=h.Vars.1; have:=h.Resources.1; have:=h.Belts.1; have:=h.Queues.1; have:=h.Tallies.1; have:=h.Levels.1; have:=h.Starts.1; have:=h.Laws.1; omega
theorem Zla {C:Cfg}(hC:Ud C)(N:Nat)(hN:10≤N)(hp:HP)(d:Zl)(hd:YA d):Za C N AR [.agg (Zh d)] hp=some (.int .i64 (ZjU d),hp,none):=by
 obtain ⟨m,rfl⟩:∃ m,N=m + 2:=⟨N - 2,by omega⟩
 have st:=Zh7 hp.length (hp ++ [Zk.cells (Zh d) Zb] ++ [Zk.map []]) .nilm (.map (hp ++ [Zk.cells (Zh d) Zb]).length) Qz none rfl (by simp <;> omega)
 have hi:SL (hp ++ [Zk.cells (Zh d) Zb]).length (hp ++ [Zk.cells (Zh d) Zb] ++ [Zk.map []]).length hp.length d [] (hp ++ [Zk.cells (Zh d) Zb] ++ [.map []] ++ [.cells [.map (hp ++ [Zk.cells (Zh d) Zb]).length] Qz]) :=
  ⟨Zjh (ZY _ _) _,ZY _ _,GY (GY (ZY _ _) _) _,by simp,by simp⟩
 obtain ⟨hp',ef,q,u,e⟩:=ZnR hC m _ 32 (.fn Iw [] [.ptr (hp ++ [Zk.cells (Zh d) Zb] ++ [Zk.map []]).length 0,.ptr hp.length 0]) rfl d.Laws hd.l2.2.2.2.2.2.2.2 (fun l=>Ua l.Name (ZtM d l)) IK _ (SL _ _ _ d) (fun s hp x h=>h.app x)
  (fun x hx s hp h=>⟨by rw [Es]; exact Zic hC m hp _ _ _ 0 d s hd x h (hd.Laws.2 x hx) (by omega),fun hp' hu=>h.upd hu⟩) [] hi.m hi
 have dr:=e.drop (bs := hp.length) (ef := none) (by simp)
 refine Zit (by rw [hC.T]; rfl) ?_
 simp only [Cm,EV,LD,BL,IFJ,IFK,GI,QC,Nat.reduceAdd,Nat.reduceLeDiff,Nat.reduceBEq,List.length_cons,List.length_nil,WK,st,q,dr,ZjU]
end Go.Proofs.YtlmfmmclnboglaaGreat
end
section
namespace Go.Proofs.YtlmfmmclnboglaaGreat
open Go Go.RowKit Go.Proofs.YtlmfmmclnboglaaGreat.Abs
set_option linter.all false
set_option maxRecDepth 100000
abbrev Step:=Seen→Int×Seen
def Zae (d:Zl):List Step:=[Q0 32 (fun v:He=>Ua v.Name (PG v)) d.Vars,Q0 32 (fun v:Y1=>Ua v.Name (ZpQ d v)) d.Resources,Q0 32 (fun v:QR=>Ua v.Name (Zag v)) d.Stores,Q0 32 (fun v:Vo=>Ua v.Name (Zf7 v)) d.Belts,Q0 32 Qy d.Queues,Q0 32 Qy d.Streams,Q0 32 Qy d.Tallies,Q0 32 Qy d.Levels,Q0 32 Qy d.Counts,
 Q0 16 (fun v:X0=>Ua v.Name (IW v)) d.Routines,fun s=>(ZdU 32 (PE d) d.Starts,s),fun s=>(ZjU d,s)]
def Zad (d:Zl):Int:=(Zfs (Zae d) []).1
theorem TK {C:Cfg}(hC:Ud C)(N:Nat)(hN:5≤N)(hp:HP)(g gs:Nat)(seen:Seen)(l:List (List UInt8))(hl:l.length≤4611686018427387)(ok:∀ x ∈ l,x.length≤140737488351232)(hm:hp[g]? = some (.map (IK seen)))(hc:hp[gs]? = some (.cells [.map g] Qz)) :
  Does g IK seen hp (Q0 32 Qy l seen) (Za C N Qk [.lst 1 (strs l),.ptr gs 0] hp):=by
 obtain ⟨m,rfl⟩:∃ m,N=m + 2:=⟨N - 2,by omega⟩
 obtain ⟨hp',ef,q,u,e⟩:=ZjH hC m hp 32 (.fn Y0 [.map g] []) rfl l hl Qy IK g (ZtB g) (fun x hx s hp h=>⟨by rw [ZoG]; exact EB hC m (by omega) hp g s x h (ok x hx),fun hp' hu=>hu.2.1⟩) seen hm hm
 have hlt:g < hp.length:=(List.getElem?_eq_some_iff.1 hm).1
 have k:Za C (m + 1 + 1) Qk [.lst 1 (strs l),.ptr gs 0] hp=some (Z6 false hp (.int .i64 (Q0 32 Qy l seen).1) hp' (Ze hp.length none ef)):=by
  refine Zfa (by rw [hC.T]; rfl) ?_
  simp only [Np,EV,LD,BL,IFJ,IFK,GI,QC,Nat.reduceAdd,Nat.reduceLeDiff,Nat.reduceBEq,List.length_cons,List.length_nil,LG hc,q]
 rw [k]
 exact Sc.fin _ hm u ((Efs.refl _ _).after hlt e)
theorem Zid {C:Cfg}(hC:Ud C)(N:Nat)(hN:8≤N)(hp:HP)(g gs gd gp:Nat)(d:Zl)(seen:Seen)(hd:YA d)(hi:SI g gs gd gp d seen hp):Does g IK seen hp (Q0 32 (fun v:He=>Ua v.Name (PG v)) d.Vars seen) (Za C N Iy [.ptr gs 0,.ptr gd 0] hp):=by
 obtain ⟨m,rfl⟩:∃ m,N=m + 1:=⟨N - 1,by omega⟩
 obtain ⟨hp',ef,q,u,e⟩:=Znn hC m (by omega) hp g seen d.Vars hi.m hd.l2.1 hd.Vars.2
 have hlt:g < hp.length:=(List.getElem?_eq_some_iff.1 hi.m).1
 have k:Za C (m + 1) Iy [.ptr gs 0,.ptr gd 0] hp=some (Z6 false hp (.int .i64 (Q0 32 (fun v:He=>Ua v.Name (PG v)) d.Vars seen).1) hp' (Ze hp.length none ef)):=by
  refine Zfb (by rw [hC.T]; rfl) ?_
  simp only [Nq,EV,LD,BL,IFJ,IFK,GI,QC,Nat.reduceAdd,Nat.reduceLeDiff,Nat.reduceBEq,List.length_cons,List.length_nil,LG hi.c,LG hi.d,WK,q]
 rw [k]
 exact Sc.fin _ hi.m u ((Efs.refl _ _).after hlt e)
theorem Zie {C:Cfg}(hC:Ud C)(N:Nat)(hp:HP)(g gs gd gp:Nat)(d:Zl)(seen:Seen)(hN:10≤N)(hd:YA d)(hi:SI g gs gd gp d seen hp):Does g IK seen hp (Q0 32 (fun v:Y1=>Ua v.Name (ZpQ d v)) d.Resources seen) (Za C N Iz [.ptr gd 0,.ptr gs 0] hp):=by
 obtain ⟨m,rfl⟩:∃ m,N=m + 2:=⟨N - 2,by omega⟩
 obtain ⟨hp',ef,q,u,e⟩:=ZbF hC m hp 32 (.fn Kz [] [.ptr gs 0,.ptr gd 0]) rfl d.Resources hd.l2.2.1 (fun v:Y1=>Ua v.Name (ZpQ d v)) IK g (SI g gs gd gp d) (fun s hp x h=>h.app x) (fun x hx s hp h=>⟨by rw [Es]; exact ZeV hC m hp g gs gd gp d s hd x h (hd.Resources.2 x hx) (by omega),fun hp' hu=>h.upd hu⟩) seen hi.m hi
 have hlt:g < hp.length:=(List.getElem?_eq_some_iff.1 hi.m).1
 have k:Za C (m + 1 + 1) Iz [.ptr gd 0,.ptr gs 0] hp=some (Z6 false hp (.int .i64 (Q0 32 (fun v:Y1=>Ua v.Name (ZpQ d v)) d.Resources seen).1) hp' (Ze hp.length none ef)):=by
  refine Zfc (by rw [hC.T]; rfl) ?_
  simp only [Nr,EV,LD,BL,IFJ,IFK,GI,QC,Nat.reduceAdd,Nat.reduceLeDiff,Nat.reduceBEq,List.length_cons,List.length_nil,LG hi.d,WK,q]
 rw [k]
 exact Sc.fin _ hi.m u ((Efs.refl _ _).after hlt e)
theorem Zif {C:Cfg}(hC:Ud C)(N:Nat)(hp:HP)(g gs gd gp:Nat)(d:Zl)(seen:Seen)(hN:10≤N)(hd:YA d)(hi:SI g gs gd gp d seen hp):Does g IK seen hp (Q0 32 (fun v:QR=>Ua v.Name (Zag v)) d.Stores seen) (Za C N I1 [.ptr gd 0,.ptr gs 0] hp):=by
 obtain ⟨m,rfl⟩:∃ m,N=m + 2:=⟨N - 2,by omega⟩
 obtain ⟨hp',ef,q,u,e⟩:=ZeQ hC m hp 32 (.fn K3 [] [.ptr gs 0]) rfl d.Stores hd.st.2.2.1 (fun v:QR=>Ua v.Name (Zag v)) IK g (SI g gs gd gp d) (fun s hp x h=>h.app x) (fun x hx s hp h=>⟨by rw [Es]; exact ZeW hC m hp g gs gd gp d s hd x h (hd.Stores.2 x hx) (by omega),fun hp' hu=>h.upd hu⟩) seen hi.m hi
 have hlt:g < hp.length:=(List.getElem?_eq_some_iff.1 hi.m).1
 have k:Za C (m + 1 + 1) I1 [.ptr gd 0,.ptr gs 0] hp=some (Z6 false hp (.int .i64 (Q0 32 (fun v:QR=>Ua v.Name (Zag v)) d.Stores seen).1) hp' (Ze hp.length none ef)):=by
  refine Zfd (by rw [hC.T]; rfl) ?_
  simp only [Nt,EV,LD,BL,IFJ,IFK,GI,QC,Nat.reduceAdd,Nat.reduceLeDiff,Nat.reduceBEq,List.length_cons,List.length_nil,LG hi.d,WK,q]
 rw [k]
 exact Sc.fin _ hi.m u ((Efs.refl _ _).after hlt e)
theorem Zig {C:Cfg}(hC:Ud C)(N:Nat)(hp:HP)(g gs gd gp:Nat)(d:Zl)(seen:Seen)(hN:10≤N)(hd:YA d)(hi:SI g gs gd gp d seen hp):Does g IK seen hp (Q0 32 (fun v:Vo=>Ua v.Name (Zf7 v)) d.Belts seen) (Za C N I4 [.ptr gd 0,.ptr gs 0] hp):=by
 obtain ⟨m,rfl⟩:∃ m,N=m + 2:=⟨N - 2,by omega⟩
 obtain ⟨hp',ef,q,u,e⟩:=Zgp hC m hp 32 (.fn K4 [] [.ptr gs 0]) rfl d.Belts hd.l2.2.2.1 (fun v:Vo=>Ua v.Name (Zf7 v)) IK g (SI g gs gd gp d) (fun s hp x h=>h.app x) (fun x hx s hp h=>⟨by rw [Es]; exact ZeX hC m hp g gs gd gp d s hd x h (hd.Belts.2 x hx) (by omega),fun hp' hu=>h.upd hu⟩) seen hi.m hi
 have hlt:g < hp.length:=(List.getElem?_eq_some_iff.1 hi.m).1
 have k:Za C (m + 1 + 1) I4 [.ptr gd 0,.ptr gs 0] hp=some (Z6 false hp (.int .i64 (Q0 32 (fun v:Vo=>Ua v.Name (Zf7 v)) d.Belts seen).1) hp' (Ze hp.length none ef)):=by
  refine Zfe (by rw [hC.T]; rfl) ?_
  simp only [Nu,EV,LD,BL,IFJ,IFK,GI,QC,Nat.reduceAdd,Nat.reduceLeDiff,Nat.reduceBEq,List.length_cons,List.length_nil,LG hi.d,WK,q]
 rw [k]
 exact Sc.fin _ hi.m u ((Efs.refl _ _).after hlt e)
theorem Zvg {d:Zl}{r:X0}(h:r ∈ d.Routines):SizeOf.sizeOf r.Body < SizeOf.sizeOf d:=by
 have h1:=List.sizeOf_lt_of_mem h
 have h2:SizeOf.sizeOf r.Body < SizeOf.sizeOf r:=by cases r; simp; omega
 have h3:SizeOf.sizeOf d.Routines < SizeOf.sizeOf d:=by cases d; simp; omega
 omega
theorem Zgw {C:Cfg}(hC:Ud C)(N:Nat)(hp:HP)(g gs gd gp:Nat)(d:Zl)(seen:Seen)(hN:SizeOf.sizeOf d + 20≤N)(hd:YA d)(hi:SI g gs gd gp d seen hp):Does g IK seen hp (Q0 16 (fun v:X0=>Ua v.Name (IW v)) d.Routines seen) (Za C N Gx [.ptr gd 0,.ptr gs 0] hp):=by
 obtain ⟨m,rfl⟩:∃ m,N=m + 2:=⟨N - 2,by omega⟩
 obtain ⟨hp',ef,q,u,e⟩:=Zib hC m hp 16 (.fn UE [] [.ptr gs 0]) rfl d.Routines hd.st.2.2.2 (fun v:X0=>Ua v.Name (IW v)) IK g (SI g gs gd gp d) (fun s hp x h=>h.app x) (fun x hx s hp h=>⟨by rw [Es]; exact ZdS hC m hp g gs gd gp d s hd x h (hd.Routines.2 x hx) (by have:=Zvg hx; omega),fun hp' hu=>h.upd hu⟩) seen hi.m hi
 have hlt:g < hp.length:=(List.getElem?_eq_some_iff.1 hi.m).1
 have k:Za C (m + 1 + 1) Gx [.ptr gd 0,.ptr gs 0] hp=some (Z6 false hp (.int .i64 (Q0 16 (fun v:X0=>Ua v.Name (IW v)) d.Routines seen).1) hp' (Ze hp.length none ef)):=by
  refine Zek (by rw [hC.T]; rfl) ?_
  simp only [D9,EV,LD,BL,IFJ,IFK,GI,QC,Nat.reduceAdd,Nat.reduceLeDiff,Nat.reduceBEq,List.length_cons,List.length_nil,LG hi.d,WK,q]
 rw [k]
 exact Sc.fin _ hi.m u ((Efs.refl _ _).after hlt e)
theorem Zih {C:Cfg}(hC:Ud C)(N:Nat)(hN:7≤N)(hp:HP)(g gs gd gp:Nat)(d:Zl)(seen:Seen)(hd:YA d)(hi:SI g gs gd gp d seen hp):Does g IK seen hp (Q0 32 Qy d.Queues seen) (Za C N I5 [.ptr gp 0,.ptr gd 0] hp):=by
 obtain ⟨m,rfl⟩:∃ m,N=m + 1:=⟨N - 1,by omega⟩
 obtain ⟨hp',ef,q,u,e⟩:=TK hC m (by omega) hp g gs seen d.Queues hd.l2.2.2.2.1 hd.Queues.2 hi.m hi.c
 have hlt:g < hp.length:=(List.getElem?_eq_some_iff.1 hi.m).1
 have cv:Vh (Za C m) (.fn Qk [] [.ptr gs 0]) [.lst 1 (strs d.Queues)] hp=Za C m Qk [.lst 1 (strs d.Queues),.ptr gs 0] hp:=rfl
 have k:Za C (m + 1) I5 [.ptr gp 0,.ptr gd 0] hp=some (Z6 false hp (.int .i64 (Q0 32 Qy d.Queues seen).1) hp' (Ze hp.length none ef)):=by
  refine Zff (by rw [hC.T]; rfl) ?_
  simp only [Nw,EV,LD,BL,IFJ,IFK,GI,QC,Nat.reduceAdd,Nat.reduceLeDiff,Nat.reduceBEq,List.length_cons,List.length_nil,LG hi.p,LG hi.d,WK,cv,q]
 rw [k]
 exact Sc.fin _ hi.m u ((Efs.refl _ _).after hlt e)
theorem Zii {C:Cfg}(hC:Ud C)(N:Nat)(hN:7≤N)(hp:HP)(g gs gd gp:Nat)(d:Zl)(seen:Seen)(hd:YA d)(hi:SI g gs gd gp d seen hp):Does g IK seen hp (Q0 32 Qy d.Streams seen) (Za C N I6 [.ptr gp 0,.ptr gd 0] hp):=by
 obtain ⟨m,rfl⟩:∃ m,N=m + 1:=⟨N - 1,by omega⟩
 obtain ⟨hp',ef,q,u,e⟩:=TK hC m (by omega) hp g gs seen d.Streams hd.st.1 hd.Streams.2 hi.m hi.c
 have hlt:g < hp.length:=(List.getElem?_eq_some_iff.1 hi.m).1
 have cv:Vh (Za C m) (.fn Qk [] [.ptr gs 0]) [.lst 1 (strs d.Streams)] hp=Za C m Qk [.lst 1 (strs d.Streams),.ptr gs 0] hp:=rfl
 have k:Za C (m + 1) I6 [.ptr gp 0,.ptr gd 0] hp=some (Z6 false hp (.int .i64 (Q0 32 Qy d.Streams seen).1) hp' (Ze hp.length none ef)):=by
  refine Zfg (by rw [hC.T]; rfl) ?_
  simp only [Ny,EV,LD,BL,IFJ,IFK,GI,QC,Nat.reduceAdd,Nat.reduceLeDiff,Nat.reduceBEq,List.length_cons,List.length_nil,LG hi.p,LG hi.d,WK,cv,q]
 rw [k]
 exact Sc.fin _ hi.m u ((Efs.refl _ _).after hlt e)
theorem Zij {C:Cfg}(hC:Ud C)(N:Nat)(hN:7≤N)(hp:HP)(g gs gd gp:Nat)(d:Zl)(seen:Seen)(hd:YA d)(hi:SI g gs gd gp d seen hp):Does g IK seen hp (Q0 32 Qy d.Tallies seen) (Za C N I7 [.ptr gp 0,.ptr gd 0] hp):=by
 obtain ⟨m,rfl⟩:∃ m,N=m + 1:=⟨N - 1,by omega⟩
 obtain ⟨hp',ef,q,u,e⟩:=TK hC m (by omega) hp g gs seen d.Tallies hd.l2.2.2.2.2.1 hd.Tallies.2 hi.m hi.c
 have hlt:g < hp.length:=(List.getElem?_eq_some_iff.1 hi.m).1
 have cv:Vh (Za C m) (.fn Qk [] [.ptr gs 0]) [.lst 1 (strs d.Tallies)] hp=Za C m Qk [.lst 1 (strs d.Tallies),.ptr gs 0] hp:=rfl
 have k:Za C (m + 1) I7 [.ptr gp 0,.ptr gd 0] hp=some (Z6 false hp (.int .i64 (Q0 32 Qy d.Tallies seen).1) hp' (Ze hp.length none ef)):=by
  refine Zfh (by rw [hC.T]; rfl) ?_
  simp only [Nz,EV,LD,BL,IFJ,IFK,GI,QC,Nat.reduceAdd,Nat.reduceLeDiff,Nat.reduceBEq,List.length_cons,List.length_nil,LG hi.p,LG hi.d,WK,cv,q]
 rw [k]
 exact Sc.fin _ hi.m u ((Efs.refl _ _).after hlt e)
theorem Zik {C:Cfg}(hC:Ud C)(N:Nat)(hN:7≤N)(hp:HP)(g gs gd gp:Nat)(d:Zl)(seen:Seen)(hd:YA d)(hi:SI g gs gd gp d seen hp):Does g IK seen hp (Q0 32 Qy d.Levels seen) (Za C N I8 [.ptr gp 0,.ptr gd 0] hp):=by
 obtain ⟨m,rfl⟩:∃ m,N=m + 1:=⟨N - 1,by omega⟩
 obtain ⟨hp',ef,q,u,e⟩:=TK hC m (by omega) hp g gs seen d.Levels hd.l2.2.2.2.2.2.1 hd.Levels.2 hi.m hi.c
 have hlt:g < hp.length:=(List.getElem?_eq_some_iff.1 hi.m).1
 have cv:Vh (Za C m) (.fn Qk [] [.ptr gs 0]) [.lst 1 (strs d.Levels)] hp=Za C m Qk [.lst 1 (strs d.Levels),.ptr gs 0] hp:=rfl
 have k:Za C (m + 1) I8 [.ptr gp 0,.ptr gd 0] hp=some (Z6 false hp (.int .i64 (Q0 32 Qy d.Levels seen).1) hp' (Ze hp.length none ef)):=by
  refine Zfi (by rw [hC.T]; rfl) ?_
  simp only [N7,EV,LD,BL,IFJ,IFK,GI,QC,Nat.reduceAdd,Nat.reduceLeDiff,Nat.reduceBEq,List.length_cons,List.length_nil,LG hi.p,LG hi.d,WK,cv,q]
 rw [k]
 exact Sc.fin _ hi.m u ((Efs.refl _ _).after hlt e)
theorem Zgv {C:Cfg}(hC:Ud C)(N:Nat)(hN:7≤N)(hp:HP)(g gs gd gp:Nat)(d:Zl)(seen:Seen)(hd:YA d)(hi:SI g gs gd gp d seen hp):Does g IK seen hp (Q0 32 Qy d.Counts seen) (Za C N Gw [.ptr gp 0,.ptr gd 0] hp):=by
 obtain ⟨m,rfl⟩:∃ m,N=m + 1:=⟨N - 1,by omega⟩
 obtain ⟨hp',ef,q,u,e⟩:=TK hC m (by omega) hp g gs seen d.Counts hd.st.2.1 hd.Counts.2 hi.m hi.c
 have hlt:g < hp.length:=(List.getElem?_eq_some_iff.1 hi.m).1
 have cv:Vh (Za C m) (.fn Qk [] [.ptr gs 0]) [.lst 1 (strs d.Counts)] hp=Za C m Qk [.lst 1 (strs d.Counts),.ptr gs 0] hp:=rfl
 have k:Za C (m + 1) Gw [.ptr gp 0,.ptr gd 0] hp=some (Z6 false hp (.int .i64 (Q0 32 Qy d.Counts seen).1) hp' (Ze hp.length none ef)):=by
  refine Zej (by rw [hC.T]; rfl) ?_
  simp only [D8,EV,LD,BL,IFJ,IFK,GI,QC,Nat.reduceAdd,Nat.reduceLeDiff,Nat.reduceBEq,List.length_cons,List.length_nil,LG hi.p,LG hi.d,WK,cv,q]
 rw [k]
 exact Sc.fin _ hi.m u ((Efs.refl _ _).after hlt e)
theorem ZdT {C:Cfg}(hC:Ud C)(N:Nat)(hN:6≤N)(hp:HP)(d:Zl)(t:OW)(gd:Nat)(tg:TypeId)(hg:hp[gd]? = some (.cells (Zh d) tg))(hd:YA d)(ht:AZ t):Za C N OH [.agg (Je t),.ptr gd 0] hp=some (.int .i64 (PE d t),hp,none):=by
 obtain ⟨m,rfl⟩:∃ m,N=m + 1:=⟨N - 1,by omega⟩
 have q:=fun hp=>ZjK hC m (by omega) hp d t hd ht
 refine ZbK (by rw [hC.T]; rfl) ?_
 simp only [LU,EV,LD,BL,IFJ,IFK,GI,QC,Nat.reduceAdd,Nat.reduceLeDiff,Nat.reduceBEq,List.length_cons,List.length_nil,LG hg,WK,EI,q]
theorem Zgx {C:Cfg}(hC:Ud C)(N:Nat)(hN:8≤N)(hp:HP)(gd:Nat)(d:Zl)(hd:YA d)(hi:hp[gd]? = some (.cells (Zh d) Zb)):Za C N Og [.ptr gd 0] hp=some (.int .i64 (ZdU 32 (PE d) d.Starts),hp,none):=by
 obtain ⟨m,rfl⟩:∃ m,N=m + 2:=⟨N - 2,by omega⟩
 have q:=ZkW hC m hp 32 (.fn OH [] [.ptr gd 0]) rfl d.Starts hd.l2.2.2.2.2.2.2.1 (PE d) (fun hp=>hp[gd]? = some (.cells (Zh d) Zb)) (fun hp x h=>GY h x) (fun x hx hp h=>by rw [Es]; exact ZdT hC m (by omega) hp d x gd _ h hd (hd.Starts.2 x hx)) hi
 refine Zel (by rw [hC.T]; rfl) ?_
 simp only [DC,EV,LD,BL,IFJ,IFK,GI,QC,Nat.reduceAdd,Nat.reduceLeDiff,Nat.reduceBEq,List.length_cons,List.length_nil,LG hi,WK,q]
theorem Zgy {C:Cfg}(hC:Ud C)(N:Nat)(hN:12≤N)(hp:HP)(gd:Nat)(d:Zl)(hd:YA d)(hi:hp[gd]? = some (.cells (Zh d) Zb)):Za C N Oh [.ptr gd 0] hp=some (.int .i64 (ZjU d),hp,none):=by
 obtain ⟨m,rfl⟩:∃ m,N=m + 1:=⟨N - 1,by omega⟩
 have q:=fun hp=>Zla hC m (by omega) hp d hd
 refine Zem (by rw [hC.T]; rfl) ?_
 simp only [DD,EV,LD,BL,IFJ,IFK,GI,QC,Nat.reduceAdd,Nat.reduceLeDiff,Nat.reduceBEq,List.length_cons,List.length_nil,LG hi,WK,q]
theorem ZiW {C:Cfg}{σ:Type}(K:KT)(hp0:HP)(fs:List AV)(hro:∀ f ∈ fs,AV.ro f=f)(hfl:fs.length≤1000)(ga:Nat)(ta:TypeId)(steps:List (σ→Int×σ))(hlen:steps.length=fs.length)(es:σ→List (AV×AV))(g:Nat)(Good:σ→HP→Prop)(hGa:∀ s hp,Good s hp→hp[ga]? = some (.cells fs ta))
  (hS:∀ (i:Nat) (f:AV) (st:σ→Int×σ),fs[i]? = some f→steps[i]? = some st→∀ s hp,Good s hp→Does g es s hp (st s) (Vh K f [] hp)∧∀ hp',Upd g (es (st s).2) hp hp'→Good (st s).2 hp') (s0:σ) (h0:hp0[g]? = some (.map (es s0))):∀ (m i:Nat) (hp:HP) (s:σ) (ef:Eff),fs.length < m + i→i≤fs.length→Upd g (es s) hp0 hp→Efs g (es s0) (es s) ef→Good s hp →
  Sc g (es s0) (es (Zfs (steps.drop i) s).2) hp0 (Zfs (steps.drop i) s).1 (VC C.G K C.L hp0 (K7 C.G K C.L hp0) m (.arr ga 0 fs.length 1) (.int .i64 (fs.length:Int)) (.int .i64 (i:Int)) hp ef)
 | 0,i,_,_,_,h,h2,_,_,_=>by omega
 | m + 1,i,hp,s,ef,h,h2,hu,he,hgd=>by
  have hlt:g < hp0.length:=(List.getElem?_eq_some_iff.1 h0).1
  by_cases hi:i=fs.length
  ·subst hi
   have l0:decide ((fs.length:Int) < (fs.length:Int))=false:=by simp
   have k:VC C.G K C.L hp0 (K7 C.G K C.L hp0) (m + 1) (.arr ga 0 fs.length 1) (.int .i64 (fs.length:Int)) (.int .i64 (fs.length:Int)) hp ef=some (Z6 false hp0 (.int .i64 0) hp ef):=by
    simp only [VC,K7,EV,l0,IFJ]
   have e:steps.drop fs.length=[]:=by rw [← hlen]; simp
   rw [k,e]
   exact Sc.fin 0 h0 hu he
  ·have hi2:i < fs.length:=by omega
   have hi3:i < steps.length:=by omega
   have l0:decide ((i:Int) < (fs.length:Int))=true:=by simp only [decide_eq_true_eq]; omega
   have a1:Qf (.slice 1) (.arr ga 0 fs.length 1) (.int .i64 (i:Int))=some (.ptr ga i):=by rw [ZgG _ _ _ _ hi2,Nat.mul_one]
   have a2:Zf hp (.ptr ga i)=some fs[i]:=by
    rw [XF (hGa s hp hgd),List.getElem?_eq_getElem hi2,Option.map_some,hro _ (List.getElem_mem hi2)]
   have a3:IntKind.i64.wrap ((i:Int) + 1)=((i + 1:Nat):Int):=U6 i (by omega)
   obtain ⟨hS1,hS2⟩:=hS i fs[i] steps[i] (List.getElem?_eq_getElem hi2) (List.getElem?_eq_getElem hi3) s hp hgd
   obtain ⟨hp',ef',hc,hu',he'⟩:=hS1
   have hu2:=hu.trans hu'
   have he2:=he.after hlt he'
   rw [List.drop_eq_getElem_cons hi3]
   by_cases hz:(steps[i] s).1=0
   ·have ih:=ZiW (C := C) K hp0 fs hro hfl ga ta steps hlen es g Good hGa hS s0 h0 m (i + 1) hp' (steps[i] s).2 (Ze hp0.length ef ef') (by omega) (by omega) hu2 he2 (hS2 hp' hu')
    have e:Zfs (steps[i] :: steps.drop (i + 1)) s=Zfs (steps.drop (i + 1)) (steps[i] s).2:=by simp [Zfs,hz]
    rw [e]
    simp only [VC,EV,LD,BL,IFJ,IFK,GI,QC,Nat.reduceAdd,Nat.reduceLeDiff,Nat.reduceBEq,List.length_cons,List.length_nil,l0,a1,a2,a3,hc,hz,ne_eq,not_true_eq_false]
    exact ih
   ·have e:Zfs (steps[i] :: steps.drop (i + 1)) s=steps[i] s:=by simp [Zfs,hz]
    rw [e]
    simp only [VC,EV,LD,BL,IFJ,IFK,GI,QC,Nat.reduceAdd,Nat.reduceLeDiff,Nat.reduceBEq,List.length_cons,List.length_nil,l0,a1,a2,a3,hc,hz,ne_eq,not_false_eq_true]
    exact Sc.fin _ h0 hu2 he2
def NI (gs gd gp:Nat):List AV:=[.fn Iy [] [.ptr gs 0,.ptr gd 0],.fn Iz [] [.ptr gd 0,.ptr gs 0],.fn I1 [] [.ptr gd 0,.ptr gs 0],.fn I4 [] [.ptr gd 0,.ptr gs 0],.fn I5 [] [.ptr gp 0,.ptr gd 0],.fn I6 [] [.ptr gp 0,.ptr gd 0],.fn I7 [] [.ptr gp 0,.ptr gd 0],.fn I8 [] [.ptr gp 0,.ptr gd 0],.fn Gw [] [.ptr gp 0,.ptr gd 0],.fn Gx [] [.ptr gd 0,.ptr gs 0],.fn Og [] [.ptr gd 0],.fn Oh [] [.ptr gd 0]]
theorem ZqJ (t:TypeId)(gs gd gp:Nat)(hp:HP):Zeb t 1 [.fn Iy [] [.ptr gs 0,.ptr gd 0],.fn Iz [] [.ptr gd 0,.ptr gs 0],.fn I1 [] [.ptr gd 0,.ptr gs 0],.fn I4 [] [.ptr gd 0,.ptr gs 0],.fn I5 [] [.ptr gp 0,.ptr gd 0],.fn I6 [] [.ptr gp 0,.ptr gd 0],.fn I7 [] [.ptr gp 0,.ptr gd 0],.fn I8 [] [.ptr gp 0,.ptr gd 0],.fn Gw [] [.ptr gp 0,.ptr gd 0],.fn Gx [] [.ptr gd 0,.ptr gs 0],.fn Og [] [.ptr gd 0],.fn Oh [] [.ptr gd 0]] hp=some (.arr hp.length 0 12 1,hp ++ [.cells (NI gs gd gp) t]):=rfl
structure SF (g gs gd gp ga:Nat)(d:Zl)(ta:TypeId)(s:Seen)(hp:HP):Prop where
 i:SI g gs gd gp d s hp
 a:hp[ga]? = some (.cells (NI gs gd gp) ta)
 n:ga≠g
theorem ZkV {g:Nat}{s:Seen}{hp:HP}{e:Int}{r:KR}(hm:hp[g]? = some (.map (IK s)))(h:r=some (.int .i64 e,hp,none)):Does g IK s hp (e,s) r:=⟨hp,none,h,Upd.refl hm,Efs.refl _ _⟩
theorem Zqb {C:Cfg}(hC:Ud C)(m:Nat)(g gs gd gp:Nat)(d:Zl)(hd:YA d)(hm:SizeOf.sizeOf d + 20≤m):∀ (i:Nat) (f:AV) (st:Step),(NI gs gd gp)[i]? = some f→(Zae d)[i]? = some st→∀ s hp,SI g gs gd gp d s hp→Does g IK s hp (st s) (Vh (Za C m) f [] hp):=by
 intro i f st hf hst s hp h
 match i,hf,hst with
 | 0,hf,hst=>cases hf; cases hst; exact Zid hC m (by omega) hp g gs gd gp d s hd h
 | 1,hf,hst=>cases hf; cases hst; exact Zie hC m hp g gs gd gp d s (by omega) hd h
 | 2,hf,hst=>cases hf; cases hst; exact Zif hC m hp g gs gd gp d s (by omega) hd h
 | 3,hf,hst=>cases hf; cases hst; exact Zig hC m hp g gs gd gp d s (by omega) hd h
 | 4,hf,hst=>cases hf; cases hst; exact Zih hC m (by omega) hp g gs gd gp d s hd h
 | 5,hf,hst=>cases hf; cases hst; exact Zii hC m (by omega) hp g gs gd gp d s hd h
 | 6,hf,hst=>cases hf; cases hst; exact Zij hC m (by omega) hp g gs gd gp d s hd h
 | 7,hf,hst=>cases hf; cases hst; exact Zik hC m (by omega) hp g gs gd gp d s hd h
 | 8,hf,hst=>cases hf; cases hst; exact Zgv hC m (by omega) hp g gs gd gp d s hd h
 | 9,hf,hst=>cases hf; cases hst; exact Zgw hC m hp g gs gd gp d s (by omega) hd h
 | 10,hf,hst=>cases hf; cases hst; exact ZkV h.m (Zgx hC m (by omega) hp gd d hd h.d)
 | 11,hf,hst=>cases hf; cases hst; exact ZkV h.m (Zgy hC m (by omega) hp gd d hd h.d)
 | i + 12,hf,hst=>simp [NI] at hf
theorem Zlb {C:Cfg}(hC:Ud C)(N:Nat)(hp:HP)(d:Zl)(hN:SizeOf.sizeOf d + 22≤N)(hd:YA d):Za C N AU [.agg (Zh d)] hp=some (.int .i64 (Zad d),hp,none):=by
 obtain ⟨m,rfl⟩:∃ m,N=m + 2:=⟨N - 2,by omega⟩
 generalize hh0:hp ++ [Zk.cells (Zh d) Zb]=h0
 generalize hh1:h0 ++ [Zk.map []]=h1
 generalize hh2:h1 ++ [Zk.cells [.map h0.length] Qz]=h2
 generalize hh3:h2 ++ [Zk.cells [.fn Qk [] [.ptr h1.length 0]] XC]=h3
 generalize hh4:h3 ++ [Zk.cells (NI h1.length hp.length h2.length) J4]=h4
 have l0:h0.length=hp.length + 1:=by rw [← hh0]; simp
 have l1:h1.length=hp.length + 2:=by rw [← hh1]; simp [l0]
 have l2:h2.length=hp.length + 3:=by rw [← hh2]; simp [l1]
 have l3:h3.length=hp.length + 4:=by rw [← hh3]; simp [l2]
 have gd0:h0[hp.length]? = some (.cells (Zh d) Zb):=by rw [← hh0]; exact ZY _ _
 have gm1:h1[h0.length]? = some (.map (IK [])):=by rw [← hh1]; exact ZY _ _
 have gc2:h2[h1.length]? = some (.cells [.map h0.length] Qz):=by rw [← hh2]; exact ZY _ _
 have gp3:h3[h2.length]? = some (.cells [.fn Qk [] [.ptr h1.length 0]] XC):=by rw [← hh3]; exact ZY _ _
 have gd1:h1[hp.length]? = some (.cells (Zh d) Zb):=by rw [← hh1]; exact GY gd0 _
 have gd2:h2[hp.length]? = some (.cells (Zh d) Zb):=by rw [← hh2]; exact GY gd1 _
 have gd3:h3[hp.length]? = some (.cells (Zh d) Zb):=by rw [← hh3]; exact GY gd2 _
 have gm2:h2[h0.length]? = some (.map (IK [])):=by rw [← hh2]; exact Zjh gm1 _
 have gm3:h3[h0.length]? = some (.map (IK [])):=by rw [← hh3]; exact Zjh gm2 _
 have gc3:h3[h1.length]? = some (.cells [.map h0.length] Qz):=by rw [← hh3]; exact GY gc2 _
 have hSI:SI h0.length h1.length hp.length h2.length d [] h4:=by
  rw [← hh4]
  exact ⟨Zjh gm3 _,GY gc3 _,GY gd3 _,GY gp3 _,by omega,by omega,by omega⟩
 have hga:h4[h3.length]? = some (.cells (NI h1.length hp.length h2.length) J4):=by rw [← hh4]; exact ZY _ _
 have h:=ZiW (C := C) (Za C m) h4 (NI h1.length hp.length h2.length) (fun f hf=>by
   simp only [NI,List.mem_cons,List.not_mem_nil,or_false] at hf
   rcases hf with rfl | rfl | rfl | rfl | rfl | rfl | rfl | rfl | rfl | rfl | rfl | rfl <;> rfl) (by simp [NI]) h3.length J4 (Zae d) rfl IK h0.length (SF h0.length h1.length hp.length h2.length h3.length d J4) (fun s hp h=>h.a)
  (fun i f st hf hst s hp h=>⟨Zqb hC m _ _ _ _ d hd (by omega) i f st hf hst s hp h.i,fun hp' hu=>⟨h.i.upd hu,hu.get h.a h.n,h.n⟩⟩) [] hSI.m C.L 0 h4 [] none (by have:=hC.L; simp [NI]; omega) (by omega) (Upd.refl hSI.m) (Efs.refl _ _) ⟨hSI,hga,by omega⟩
 obtain ⟨hp',ef,q,u,e⟩:=h
 have dr:=e.drop (bs := hp.length) (ef := none) (by omega)
 have fr:Za C (m + 1) SQ [.arr h3.length 0 12 1] h4=some (.int .i64 (Zad d),hp',ef):=by
  refine ZgN (by rw [hC.T]; rfl) ?_
  have ll:Yy h4 .slice (.arr h3.length 0 12 1)=some (.int .i64 12):=rfl
  have ra:AV.ro (.arr h3.length 0 12 1)=.arr h3.length 0 12 1:=rfl
  simp only [Ez,EV,ra,ll]
  exact q
 have st1:Zfu hp.length (.ptr h1.length 0) (.map h0.length) (h1 ++ [.cells [.nilm] Qz]) none=some (h2,none):=by rw [← hh2]; exact Zh7 hp.length h1 .nilm (.map h0.length) Qz none rfl (by omega)
 have st2:Zfu hp.length (.ptr h2.length 0) (.fn Qk [] [.ptr h1.length 0]) (h2 ++ [.cells [.nilf] XC]) none=some (h3,none):=by rw [← hh3]; exact Zh7 hp.length h2 .nilf _ XC none rfl (by omega)
 have lt:=ZqJ J4 h1.length hp.length h2.length h3
 rw [hh4] at lt
 have ra:AV.ro (.arr h3.length 0 12 1)=.arr h3.length 0 12 1:=rfl
 refine Ziu (by rw [hC.T]; rfl) ?_
 simp only [Cr,EV,LD,WK,hh0,hh1,st1,st2,lt,ra,fr,dr]
end Go.Proofs.YtlmfmmclnboglaaGreat
end
section
namespace Go.Proofs.YtlmfmmclnboglaaGreat
open Go Go.RowKit Go.Proofs.YtlmfmmclnboglaaGreat.Abs
set_option linter.all false
set_option maxRecDepth 100000
def Zpx (m:Jm):Mdl:=⟨m.Name,m.Params.map Vw,m.Sites.map Zkz,m.Links.map Ko⟩
theorem ZjX (m:Jm):Za0 (Zpx m)=VM m:=by
 simp only [Za0,Zpx,VM,List.map_map]; rfl
theorem Zmz {m:Jm}(h:RL m):Zo9 (Zpx m):=by
 have h1:=h.Params.1; have h2:=h.Sites.1; have h3:=h.Links.1
 exact ⟨by simp [Zpx]; omega,by simp [Zpx]; omega,fun s hs=>by obtain ⟨x,hx,rfl⟩:=List.mem_map.1 hs; exact Zh5 (h.Sites.2 x hx),by simp [Zpx]; omega,fun r hr=>by obtain ⟨x,hx,rfl⟩:=List.mem_map.1 hr; exact ⟨x.From,x.To,x.Delay,rfl⟩⟩
theorem Zr9 (name:List UInt8)(m:Jm):Ztr name (Zpx m)=Xb (isN name) (m.Sites.map Zh) 0:=by
 simp only [Ztr,Zpx,List.map_map]; rfl
theorem Zqa (s:List UInt8)(l:List Zl):decide (Xb (isN s) (l.map Zh) 0 < 0)=!(l.map (·.Name)).contains s:=ZjS (row := Zh) (nm := fun x:Zl=>x.Name) (fun _=>rfl) s l
theorem Zez {C:Cfg}(hC:Ud C)(N:Nat)(hN:3≤N)(hp:HP)(m:Jm)(s:List UInt8)(hm:RL m):Za C N Od [.agg (VM m),.str s] hp=some (.int .i64 (Xb (isN s) (m.Sites.map Zh) 0),hp,none):=by
 obtain ⟨n,rfl⟩:∃ n,N=n + 3:=⟨N - 3,by omega⟩
 have h:=Zsw hC n hp (Zpx m) s (Zmz hm)
 rw [ZjX,Zr9] at h
 exact h
abbrev Zjz:=List (List UInt8×List UInt8)
def ZdZ (m:Jm)(l:BN)(s:Zjz):Int×Zjz :=
 if (!(m.Sites.map (·.Name)).contains l.From || !(m.Sites.map (·.Name)).contains l.To)=true then (5,s)
 else if decide (l.From=l.To)=true then (1,s) else if (!(btw l.Delay 1 1000000000))=true then (2,s) else if s.contains (l.From,l.To)=true then (4,s) else (0,s ++ [(l.From,l.To)])
def Zjj (m:Jm):Int:=(Q0 32 (ZdZ m) m.Links []).1
structure LI (g gs gm:Nat)(mo:Jm)(s:Zjz)(hp:HP):Prop where
 m:hp[g]? = some (.map (Zay s))
 c:hp[gs]? = some (.cells [.map g] JZ)
 d:hp[gm]? = some (.cells (VM mo) Yd)
 n1:gs≠g
 n2:gm≠g
theorem LI.app {g gs gm:Nat}{m:Jm}{s:Zjz}{hp:HP}(h:LI g gs gm m s hp)(x:Zk):LI g gs gm m s (hp ++ [x]):=⟨Zjh h.m x,GY h.c x,GY h.d x,h.n1,h.n2⟩
theorem LI.upd {g gs gm:Nat}{m:Jm}{s s':Zjz}{hp hp':HP}(h:LI g gs gm m s hp)(u:Upd g (Zay s') hp hp'):LI g gs gm m s' hp':=⟨u.2.1,u.get h.c h.n1,u.get h.d h.n2,h.n1,h.n2⟩
theorem Zlo (a b:List UInt8):fill [(.str []),(.str [])] [(0,1,.str a),(1,1,.str b)]=some [.str a,.str b]:=rfl
theorem Zgt {C:Cfg}(hC:Ud C)(N:Nat)(hN:4≤N)(hp:HP)(g gs gm:Nat)(m0:Jm)(s:Zjz)(hm:RL m0)(v:BN)(hi:LI g gs gm m0 s hp):Does g Zay s hp (ZdZ m0 v s) (Za C N Oe [.agg (Ko v),.ptr gm 0,.ptr gs 0] hp):=by
 obtain ⟨m,rfl⟩:∃ m,N=m + 1:=⟨N - 1,by omega⟩
 have p1:=Zez hC m (by omega)
 have p2:=UD hC m (by omega)
 have hlt:g < hp.length:=(List.getElem?_eq_some_iff.1 hi.m).1
 have i1:=(hi.app (.cells (Ko v) VI)).app (.cells [.str v.From,.str v.To] RG)
 have st:=Zaf hp.length 2 (hp ++ [Zk.cells (Ko v) VI]) [(.str []),(.str [])] [.str v.From,.str v.To] RG none rfl rfl (by simp)
 have l2:Z8 (hp ++ [.cells (Ko v) VI] ++ [.cells [.str v.From,.str v.To] RG]) 2 (.ptr (hp ++ [Zk.cells (Ko v) VI]).length 0)=some (.agg [.str v.From,.str v.To]):=ED (ZY _ _) 2 rfl rfl
 have run:∀ r,JP C.G (Za C m) C.L (.agg (Ko v)) (.ptr gm 0) (.ptr gs 0) hp=some r→Za C (m + 1) Oe [.agg (Ko v),.ptr gm 0,.ptr gs 0] hp=some r:=fun r h=>Zed (by rw [hC.T]; rfl) h
 unfold ZdZ
 rcases Bool.eq_false_or_eq_true (!(m0.Sites.map (·.Name)).contains v.From || !(m0.Sites.map (·.Name)).contains v.To) with b1 | b1
 ·rw [if_pos b1,run (.int .i64 5,hp,none) (by
   simp only [JP,EV,LD,BL,IFJ,IFK,GI,QC,Nat.reduceAdd,Nat.reduceLeDiff,Nat.reduceBEq,List.length_cons,List.length_nil,Zaa,U4,Zlo,l2,st,LG i1.c,LG i1.d,p1,p2,hm,Zqa,b1])]
  exact ⟨hp,none,rfl,Upd.refl hi.m,Efs.refl _ _⟩
 rw [if_neg (by rw [b1]; decide)]
 by_cases b2:v.From=v.To
 ·rw [if_pos (by simp [b2]),run (.int .i64 1,hp,none) (by
   simp only [JP,EV,LD,BL,IFJ,IFK,GI,QC,Nat.reduceAdd,Nat.reduceLeDiff,Nat.reduceBEq,List.length_cons,List.length_nil,Zaa,U4,Zlo,l2,st,LG i1.c,LG i1.d,p1,p2,hm,Zqa,b1]
   simp only [b2,decide_true,IFJ])]
  exact ⟨hp,none,rfl,Upd.refl hi.m,Efs.refl _ _⟩
 rw [if_neg (by simp [b2])]
 rcases Bool.eq_false_or_eq_true (!(btw v.Delay 1 1000000000)) with b3 | b3
 ·rw [if_pos b3,run (.int .i64 2,hp,none) (by
   simp only [JP,EV,LD,BL,IFJ,IFK,GI,QC,Nat.reduceAdd,Nat.reduceLeDiff,Nat.reduceBEq,List.length_cons,List.length_nil,Zaa,U4,Zlo,l2,st,LG i1.c,LG i1.d,p1,p2,hm,Zqa,b1,b2,b3])]
  exact ⟨hp,none,rfl,Upd.refl hi.m,Efs.refl _ _⟩
 rw [if_neg (by rw [b3]; decide)]
 have lk:=ZnW i1.m v.From v.To
 rcases Bool.eq_false_or_eq_true (s.contains (v.From,v.To)) with b4 | b4
 ·rw [if_pos b4,run (.int .i64 4,hp,none) (by
   simp only [JP,EV,LD,BL,IFJ,IFK,GI,QC,Nat.reduceAdd,Nat.reduceLeDiff,Nat.reduceBEq,List.length_cons,List.length_nil,Zaa,U4,Zlo,l2,st,LG i1.c,LG i1.d,p1,p2,hm,Zqa,b1,b2,b3,lk,b4])]
  exact ⟨hp,none,rfl,Upd.refl hi.m,Efs.refl _ _⟩
 rw [if_neg (by rw [b4]; decide)]
 have mu:=ZnZ (bs := hp.length) i1.m v.From v.To b4 none
 have nt:SE hp.length none g 0=some (g,0):=by simp [SE,hlt,Eff.or]
 rw [nt] at mu
 rw [run (Z6 false hp (.int .i64 0) ((hp ++ [Zk.cells (Ko v) VI] ++ [Zk.cells [.str v.From,.str v.To] RG]).set g (.map (Zay (s ++ [(v.From,v.To)])))) (some (g,0))) (by
   simp only [JP,EV,LD,BL,IFJ,IFK,GI,QC,Nat.reduceAdd,Nat.reduceLeDiff,Nat.reduceBEq,List.length_cons,List.length_nil,Zaa,U4,Zlo,l2,st,LG i1.c,LG i1.d,p1,p2,hm,Zqa,b1,b2,b3,lk,b4,mu])]
 exact Sc.fin 0 hi.m (Upd.set i1.m).off.off (.inr rfl)
theorem RL.l {m:Jm}(h:RL m):m.Params.length≤4611686018427387∧m.Sites.length≤4611686018427387∧m.Links.length≤4611686018427387:=by
 have:=h.Params.1; have:=h.Sites.1; have:=h.Links.1; omega
theorem ZjJ {C:Cfg}(hC:Ud C)(N:Nat)(hN:6≤N)(hp:HP)(m0:Jm)(hm:RL m0):Za C N SS [.agg (VM m0)] hp=some (.int .i64 (Zjj m0),hp,none):=by
 obtain ⟨m,rfl⟩:∃ m,N=m + 2:=⟨N - 2,by omega⟩
 generalize hh0:hp ++ [Zk.cells (VM m0) Yd]=h0
 generalize hh1:h0 ++ [Zk.map []]=h1
 generalize hh2:h1 ++ [Zk.cells [.map h0.length] JZ]=h2
 have l0:h0.length=hp.length + 1:=by rw [← hh0]; simp
 have l1:h1.length=hp.length + 2:=by rw [← hh1]; simp [l0]
 have gd0:h0[hp.length]? = some (.cells (VM m0) Yd):=by rw [← hh0]; exact ZY _ _
 have gm1:h1[h0.length]? = some (.map (Zay [])):=by rw [← hh1]; exact ZY _ _
 have gd1:h1[hp.length]? = some (.cells (VM m0) Yd):=by rw [← hh1]; exact GY gd0 _
 have hi:LI h0.length h1.length hp.length m0 [] h2:=by
  rw [← hh2]; exact ⟨Zjh gm1 _,ZY _ _,GY gd1 _,by omega,by omega⟩
 obtain ⟨hp',ef,q,u,e⟩:=Zmo hC m h2 32 (.fn Oe [] [.ptr hp.length 0,.ptr h1.length 0]) rfl m0.Links hm.l.2.2 (ZdZ m0) Zay h0.length (LI h0.length h1.length hp.length m0) (fun s hp x h=>h.app x)
  (fun x hx s hp h=>⟨by rw [Es]; exact Zgt hC m (by omega) hp _ _ _ m0 s hm x h,fun hp' hu=>h.upd hu⟩) [] hi.m hi
 have dr:=e.drop (bs := hp.length) (ef := none) (by omega)
 have st1:Zfu hp.length (.ptr h1.length 0) (.map h0.length) (h1 ++ [.cells [.nilm] JZ]) none=some (h2,none):=by rw [← hh2]; exact Zh7 hp.length h1 .nilm (.map h0.length) JZ none rfl (by omega)
 refine ZgP (by rw [hC.T]; rfl) ?_
 simp only [E8,EV,LD,GI,U4,hh0,hh1,st1,LG hi.d,q,dr,Zjj]
def ZhB (l:List He):Int:=(Q0 32 (fun v:He=>Ua v.Name (PG v)) l []).1
def Zh2 (m:Jm):Int:=(Q0 16 (fun d:Zl=>Ua d.Name (Zad d)) m.Sites []).1
def ZcT (m:Jm):Int :=
 if decide (R9 m.Name≠0)=true then R9 m.Name else if decide (ZhB m.Params≠0)=true then ZhB m.Params else if decide ((m.Sites.length:Int)=0)=true then 7 else if decide (Zh2 m≠0)=true then Zh2 m else Zjj m
structure CI (g gs:Nat)(s:Seen)(hp:HP):Prop where
 m:hp[g]? = some (.map (IK s))
 c:hp[gs]? = some (.cells [.map g] Qz)
 n1:gs≠g
theorem CI.app {g gs:Nat}{s:Seen}{hp:HP}(h:CI g gs s hp)(x:Zk):CI g gs s (hp ++ [x]):=⟨Zjh h.m x,GY h.c x,h.n1⟩
theorem CI.upd {g gs:Nat}{s s':Seen}{hp hp':HP}(h:CI g gs s hp)(u:Upd g (IK s') hp hp'):CI g gs s' hp':=⟨u.2.1,u.get h.c h.n1,h.n1⟩
theorem Zgs {C:Cfg}(hC:Ud C)(N:Nat)(hp:HP)(g gs:Nat)(seen:Seen)(v:Zl)(hi:CI g gs seen hp)(ok:YA v)(hN:SizeOf.sizeOf v + 24≤N):Does g IK seen hp (Ua v.Name (Zad v) seen) (Za C N UL [.agg (Zh v),.ptr gs 0] hp):=by
 obtain ⟨m,rfl⟩:∃ m,N=m + 1:=⟨N - 1,by omega⟩
 have p0:=fun hp=>Zlb hC m hp v (by omega) ok
 have hlt:g < hp.length:=(List.getElem?_eq_some_iff.1 hi.m).1
 have cs:=GY hi.c (.cells (Zh v) Zb)
 obtain ⟨h1,f1,q,u,e⟩:=EB hC m (by omega) (hp ++ [.cells (Zh v) Zb]) g seen v.Name (Zjh hi.m _) ok.Name
 have c1:=u.get (ZY hp (.cells (Zh v) Zb)) (by omega)
 have e1:Efs g (IK seen) (IK (Qy v.Name seen).2) (Ze hp.length none f1):=(Efs.refl _ _).after hlt e
 by_cases hz:(Qy v.Name seen).1=0
 ·rw [hz] at q
  have k:Za C (m + 1) UL [.agg (Zh v),.ptr gs 0] hp=some (Z6 false hp (.int .i64 (Zad v)) h1 (Ze hp.length none f1)):=by
   refine SA (by rw [hC.T]; rfl) ?_
   simp only [MQ,EV,LD,BL,IFJ,IFK,GI,QC,Nat.reduceAdd,Nat.reduceLeDiff,Nat.reduceBEq,List.length_cons,List.length_nil,WK,LG cs,q,LG c1,p0,ne_eq,not_true_eq_false]
  rw [k,EL hz]
  exact Sc.fin _ hi.m u.off e1
 ·have k:Za C (m + 1) UL [.agg (Zh v),.ptr gs 0] hp=some (Z6 false hp (.int .i64 (Qy v.Name seen).1) h1 (Ze hp.length none f1)):=by
   refine SA (by rw [hC.T]; rfl) ?_
   simp only [MQ,EV,LD,BL,IFJ,IFK,GI,QC,Nat.reduceAdd,Nat.reduceLeDiff,Nat.reduceBEq,List.length_cons,List.length_nil,WK,LG cs,q,hz,ne_eq,not_false_eq_true]
  rw [k,Zai hz]
  exact Sc.fin _ hi.m u.off e1
theorem Zvf {m:Jm}{d:Zl}(h:d ∈ m.Sites):SizeOf.sizeOf d < SizeOf.sizeOf m:=by
 have h1:=List.sizeOf_lt_of_mem h
 have h3:SizeOf.sizeOf m.Sites < SizeOf.sizeOf m:=by cases m; simp; omega
 omega
theorem ZjI {C:Cfg}(hC:Ud C)(N:Nat)(hp:HP)(m0:Jm)(hN:SizeOf.sizeOf m0 + 26≤N)(hm:RL m0):Za C N SN [.agg (VM m0)] hp=some (.int .i64 (ZcT m0),hp,none):=by
 obtain ⟨m,rfl⟩:∃ m,N=m + 2:=⟨N - 2,by omega⟩
 have p1:=BA hC (m + 1) (by omega)
 have p2:=fun hp=>ZjJ hC (m + 1) (by omega) hp m0 hm
 refine ZgL (by rw [hC.T]; rfl) ?_
 by_cases b1:R9 m0.Name=0
 case neg =>
  simp only [OM,EV,LD,BL,IFJ,IFK,GI,QC,Nat.reduceAdd,Nat.reduceLeDiff,Nat.reduceBEq,List.length_cons,List.length_nil,U4,p1,hm.Name,ZcT,b1,ne_eq,not_false_eq_true]
 generalize hh0:hp ++ [Zk.cells (VM m0) Yd]=h0
 have l0:h0.length=hp.length + 1:=by rw [← hh0]; simp
 have gd0:h0[hp.length]? = some (.cells (VM m0) Yd):=by rw [← hh0]; exact ZY _ _
 obtain ⟨h1,f1,q1,u1,e1⟩:=Znn hC (m + 1) (by omega) (h0 ++ [.map []]) h0.length [] m0.Params (ZY _ _) hm.l.1 hm.Params.2
 have dr1:=e1.drop (bs := hp.length) (ef := none) (by omega)
 have gd1:=u1.get (GY gd0 _) (by omega)
 have q1':Za C (m + 1) V6 [.map h0.length,.lst 3 (m0.Params.map Vw)] (h0 ++ [.map []])=some (.int .i64 (ZhB m0.Params),h1,f1):=q1
 by_cases b2:ZhB m0.Params=0
 case neg =>
  simp only [OM,CO,U4,hh0,LG gd0,p1,hm.Name,q1',dr1,ZcT,b1,b2,ne_eq,not_true_eq_false,not_false_eq_true]
 by_cases b3:m0.Sites.length=0
 ·have b3':decide ((m0.Sites.length:Int)=0)=true:=by simp [b3]
  simp only [OM,CO,U4,hh0,LG gd0,LG gd1,p1,hm.Name,q1',dr1,ZcT,b1,b2,b3',ne_eq,not_true_eq_false]
 have b3':decide ((m0.Sites.length:Int)=0)=false:=by simp only [decide_eq_false_iff_not]; omega
 have hh1:hp.length < h1.length:=(List.getElem?_eq_some_iff.1 gd1).1
 generalize hk1:h1 ++ [Zk.map []]=k1
 generalize hk2:k1 ++ [Zk.cells [.map h1.length] Qz]=k2
 have lk1:k1.length=h1.length + 1:=by rw [← hk1]; simp
 have gk1:k1[h1.length]? = some (.map (IK [])):=by rw [← hk1]; exact ZY _ _
 have gd2:k1[hp.length]? = some (.cells (VM m0) Yd):=by rw [← hk1]; exact GY gd1 _
 have gd3:k2[hp.length]? = some (.cells (VM m0) Yd):=by rw [← hk2]; exact GY gd2 _
 have hi:CI h1.length k1.length [] k2:=by
  rw [← hk2]; exact ⟨Zjh gk1 _,ZY _ _,by omega⟩
 obtain ⟨h3,f3,q3,u3,e3⟩:=Zgq hC m k2 16 (.fn UL [] [.ptr k1.length 0]) rfl m0.Sites hm.l.2.1 (fun d:Zl=>Ua d.Name (Zad d)) IK h1.length (CI h1.length k1.length) (fun s hp x h=>h.app x)
  (fun x hx s hp h=>⟨by rw [Es]; exact Zgs hC m hp _ _ s x h (hm.Sites.2 x hx) (by have:=Zvf hx; omega),fun hp' hu=>h.upd hu⟩) [] hi.m hi
 have q3':Za C (m + 1) Vq [.lst 13 (m0.Sites.map Zh),.int .i64 16,.fn UL [] [.ptr k1.length 0]] k2=some (.int .i64 (Zh2 m0),h3,f3):=q3
 have dr3:=e3.drop (bs := hp.length) (ef := none) (by omega)
 have gd4:=u3.get gd3 (by omega)
 have st1:Zfu hp.length (.ptr k1.length 0) (.map h1.length) (k1 ++ [.cells [.nilm] Qz]) none=some (k2,none):=by rw [← hk2]; exact Zh7 hp.length k1 .nilm (.map h1.length) Qz none rfl (by omega)
 simp only [OM,CO,U4,hh0,LG gd0,LG gd1,hk1,st1,LG gd3,LG gd4,p1,p2,hm.Name,q1',dr1,q3',dr3,ZcT,b1,b2,b3',ne_eq,not_true_eq_false]
end Go.Proofs.YtlmfmmclnboglaaGreat
end
section
namespace Go.Proofs.YtlmfmmclnboglaaGreat
open Go Go.RowKit Go.Proofs.YtlmfmmclnboglaaGreat.Abs
set_option linter.all false
set_option maxRecDepth 100000
def Ze1 (s:List UInt8)(seen:Seen):Int:=ZaJ (R9 s) (Zk5 (!(seen.contains s)) 4)
theorem Ztx (s:List UInt8)(rest:Int)(seen:Seen):(Ua s rest seen).1=ZaJ (Ze1 s seen) rest:=by
 by_cases h1:R9 s=0 <;> rcases Bool.eq_false_or_eq_true (seen.contains s) with h2 | h2 <;> simp only [Ua,Qy,Ze1,ZaJ,Zk5,h1,h2] <;> simp [h1]
theorem Zty {s:List UInt8}{rest:Int}{seen:Seen}(h:ZaJ (Ze1 s seen) rest=0):(Ua s rest seen)=(0,seen ++ [s]):=by
 by_cases h1:R9 s=0 <;> rcases Bool.eq_false_or_eq_true (seen.contains s) with h2 | h2 <;> simp only [Ze1,ZaJ,Zk5,h1,h2] at h <;> simp [h1] at h
 simp only [Ua,Qy,h1,h2]
 simp [h]
def Sr (d:Zl):List (Int×List (List UInt8×Int)):=[(32,d.Vars.map fun v=>(v.Name,PG v)),(32,d.Resources.map fun v=>(v.Name,ZpQ d v)),(32,d.Stores.map fun v=>(v.Name,Zag v)),(32,d.Belts.map fun v=>(v.Name,Zf7 v)),(32,d.Queues.map fun v=>(v,0)),(32,d.Streams.map fun v=>(v,0)),(32,d.Tallies.map fun v=>(v,0)),(32,d.Levels.map fun v=>(v,0)),(32,d.Counts.map fun v=>(v,0)),(16,d.Routines.map fun v=>(v.Name,IW v))]
theorem kd (k:Nat):(∀ j:Nat,k=j→decide (((k:Nat):Int)=(j:Int))=true)∧(∀ j:Nat,k≠j→decide (((k:Nat):Int)=(j:Int))=false):=⟨fun j h=>by simp [h],fun j h=>by simp only [decide_eq_false_iff_not]; omega⟩
end Go.Proofs.YtlmfmmclnboglaaGreat
end
section
namespace Go.Proofs.YtlmfmmclnboglaaGreat
open Go Go.RowKit Go.Proofs.YtlmfmmclnboglaaGreat.Abs
set_option linter.all false
set_option maxRecDepth 100000
def Zft (q:List UInt8×Int):Seen→Int×Seen:=Ua q.1 q.2
def Pj (p:Int×List (List UInt8×Int)):Seen→Int×Seen:=Q0 p.1 Zft p.2
theorem Zhz {α β σ:Type}(f:α→β)(step:β→σ→Int×σ):∀ (l:List α) (s:σ),Qu step (l.map f) s=Qu (fun x=>step (f x)) l s
 | [],s=>rfl
 | x :: r,s=>by rw [List.map_cons,Qu,Qu,Zhz f step r]
theorem Sv {α β σ:Type}(f:α→β)(step:β→σ→Int×σ)(most:Int)(l:List α):Q0 most step (l.map f)=Q0 most (fun x=>step (f x)) l:=by
 funext s; unfold Q0; rw [Zhz,List.length_map]
def Zky (d:Zl)(laws:Int):Int:=if decide (ZdU 32 (PE d) d.Starts≠0)=true then ZdU 32 (PE d) d.Starts else laws
def Zuw (d:Zl)(laws:Int):Int:=if decide ((Zfs ((Sr d).map Pj) []).1≠0)=true then (Zfs ((Sr d).map Pj) []).1 else Zky d laws
theorem Ztq (d:Zl):Zad d=Zuw d (ZjU d):=by
 have e:Zae d=(Sr d).map Pj ++ [fun s=>(ZdU 32 (PE d) d.Starts,s),fun s=>(ZjU d,s)]:=by
  have f1:Pj (32,d.Vars.map fun v=>(v.Name,PG v))=Q0 32 (fun v:He=>Ua v.Name (PG v)) d.Vars:=Sv _ _ _ _
  have f2:Pj (32,d.Resources.map fun v=>(v.Name,ZpQ d v))=Q0 32 (fun v:Y1=>Ua v.Name (ZpQ d v)) d.Resources:=Sv _ _ _ _
  have f3:Pj (32,d.Stores.map fun v=>(v.Name,Zag v))=Q0 32 (fun v:QR=>Ua v.Name (Zag v)) d.Stores:=Sv _ _ _ _
  have f4:Pj (32,d.Belts.map fun v=>(v.Name,Zf7 v))=Q0 32 (fun v:Vo=>Ua v.Name (Zf7 v)) d.Belts:=Sv _ _ _ _
  have z:(fun v:List UInt8=>Zft (v,0))=Qy:=by
   funext v s
   show Ua v 0 s=Qy v s
   unfold Ua
   by_cases h:(Qy v s).1=0
   ·simp only [h,ne_eq,not_true_eq_false,decide_false,Bool.false_eq_true,if_false]; rw [← h]
   ·simp [h]
  have f5:∀ l:List (List UInt8),Pj (32,l.map fun v=>(v,0))=Q0 32 Qy l:=fun l=>by rw [Pj,Sv,z]
  have f6:Pj (16,d.Routines.map fun v=>(v.Name,IW v))=Q0 16 (fun v:X0=>Ua v.Name (IW v)) d.Routines:=Sv _ _ _ _
  unfold Zae Sr
  simp only [List.map_cons,List.map_nil,f1,f2,f3,f4,f5,f6]
  rfl
 have ap:∀ (l:List (Seen→Int×Seen)) (s:Seen),(Zfs (l ++ [fun s=>(ZdU 32 (PE d) d.Starts,s),fun s=>(ZjU d,s)]) s).1=if decide ((Zfs l s).1≠0)=true then (Zfs l s).1 else Zky d (ZjU d):=by
  intro l
  induction l with
  | nil =>
   intro s
   by_cases h:ZdU 32 (PE d) d.Starts=0 <;> by_cases h2:ZjU d=0 <;> simp [Zfs,Zky,h,h2]
  | cons f r ih =>
   intro s
   rw [List.cons_append,Zfs,Zfs]
   by_cases h:(f s).1=0
   ·simp only [h,ne_eq,not_true_eq_false,decide_false,Bool.false_eq_true,if_false]
    exact ih _
   ·simp [h]
 rw [Zad,e,ap]
 rfl
theorem Zm0 (d:Zl):(ZcX (Zkz d)).map (fun l=>[AV.lst 1 l])=(Sr d).map fun p=>[AV.lst 1 (strs (p.2.map (·.1)))]:=by
 have f:∀ {α:Type} (row:α→List AV) (nm:α→List UInt8) (rest:α→Int) (l:List α),(∀ x,nameOf (row x)=nm x)→(l.map row).map nm1=strs ((l.map fun x=>(nm x,rest x)).map (·.1)):=by
  intro α row nm rest l h
  simp only [List.map_map,strs]
  exact List.map_congr_left fun x _=>by simp [nm1,h]
 have f2:∀ (l:List (List UInt8)),(strs l).map nm1=strs ((l.map fun x=>(x,(0:Int))).map (·.1)):=fun l=>f (fun x:List UInt8=>[AV.str x]) id (fun _=>0) l (fun _=>rfl)
 have e:(ZcX (Zkz d))=(Sr d).map fun p=>strs (p.2.map (·.1)):=by
  simp only [ZcX,kinds,Zkz,Sr,List.map_cons,List.map_nil,f2,f Vw (fun v=>v.Name) PG d.Vars (fun _=>rfl),f Z0 (fun v=>v.Name) (ZpQ d) d.Resources (fun _=>rfl),f Yz (fun v=>v.Name) Zag d.Stores (fun _=>rfl),f WJ (fun v=>v.Name) Zf7 d.Belts (fun _=>rfl),f Y6 (fun v=>v.Name) IW d.Routines (fun _=>rfl)]
 rw [e,List.map_map]
 rfl
theorem Zq3 {d:Zl}(hd:YA d):∀ p ∈ Sr d,p.2.length≤4611686018427387∧∀ q ∈ p.2,q.1.length≤140737488351232:=by
 have a:=hd.l2
 have b:=hd.st
 intro p hp
 simp only [Sr,List.mem_cons,List.not_mem_nil,or_false] at hp
 rcases hp with rfl | rfl | rfl | rfl | rfl | rfl | rfl | rfl | rfl | rfl <;> refine ⟨by simp only [List.length_map]; omega,fun q hq=>?_⟩ <;> obtain ⟨x,hx,rfl⟩:=List.mem_map.1 hq
 ·exact (hd.Vars.2 x hx).Name
 ·exact (hd.Resources.2 x hx).Name
 ·exact (hd.Stores.2 x hx).Name
 ·exact (hd.Belts.2 x hx).Name
 ·exact hd.Queues.2 x hx
 ·exact hd.Streams.2 x hx
 ·exact hd.Tallies.2 x hx
 ·exact hd.Levels.2 x hx
 ·exact hd.Counts.2 x hx
 ·exact (hd.Routines.2 x hx).Name
theorem Zmq {C:Cfg}(hC:Ud C)(N:Nat)(hN:1≤N)(hp:HP)(d:Zl)(hd:YA d):Za C N LA [.agg (Zh d)] hp=some (.lst 1 ((Sr d).map fun p=>[AV.lst 1 (strs (p.2.map (·.1)))]),hp,none):=by
 obtain ⟨m,rfl⟩:∃ m,N=m + 1:=⟨N - 1,by omega⟩
 rw [← Zm0]
 exact ZoZ hC m hp (Zkz d) (Zh5 hd)
end Go.Proofs.YtlmfmmclnboglaaGreat
end
section
namespace Go.Proofs.YtlmfmmclnboglaaGreat
open Go Go.RowKit Go.Proofs.YtlmfmmclnboglaaGreat.Abs
set_option linter.all false
set_option maxRecDepth 100000
def Zko (l:BN):List UInt8×List UInt8:=(l.From,l.To)
theorem ZqI (m:Jm)(l:BN)(s:Zjz):ZdZ m l s=if (!(m.Sites.map (·.Name)).contains l.From || !(m.Sites.map (·.Name)).contains l.To)=true then (5,s)
 else if decide (l.From=l.To)=true then (1,s) else if (!(btw l.Delay 1 1000000000))=true then (2,s) else if s.contains (l.From,l.To)=true then (4,s) else (0,s ++ [(l.From,l.To)]):=rfl
end Go.Proofs.YtlmfmmclnboglaaGreat
end
section
namespace Go.Proofs.YtlmfmmclnboglaaGreat
open Go Go.RowKit Go.Proofs.YtlmfmmclnboglaaGreat.Abs
set_option linter.all false
set_option maxRecDepth 100000
theorem Ztz {s:List UInt8}{rest:Int}{seen:Seen}(h:(Ua s rest seen).1=0):(Ua s rest seen).2=seen ++ [s]∧s ∉ seen∧rest=0:=by
 rw [Ztx] at h
 have w:=Zty h
 refine ⟨by rw [w],?_,?_⟩
 ·intro hm
  have:seen.contains s=true:=by simpa using hm
  simp only [Ze1,this,ZaJ,Zk5] at h
  by_cases h1:R9 s=0 <;> simp [h1] at h
 ·by_cases h1:Ze1 s seen=0
  ·simpa [ZaJ,h1] using h
  ·simp [ZaJ,h1] at h
theorem ZmZ:∀ (l:List (List UInt8×Int)) (s:Seen),(Qu Zft l s).1=0→(Qu Zft l s).2=s ++ l.map (·.1)∧(∀ q ∈ l.map (·.1),q ∉ s)∧(l.map (·.1)).Nodup∧∀ q ∈ l,q.2=0
 | [],s,_=>by simp [Qu]
 | x :: r,s,h=>by
  by_cases hz:(Zft x s).1=0
  ·obtain ⟨w1,w2,w3⟩:=Ztz (s := x.1) (rest := x.2) (seen := s) hz
   have e:Qu Zft (x :: r) s=Qu Zft r (s ++ [x.1]):=by
    have:(Zft x s).2=s ++ [x.1]:=w1
    simp [Qu,hz,this]
   rw [e] at h ⊢
   obtain ⟨i1,i2,i3,i4⟩:=ZmZ r _ h
   refine ⟨by rw [i1]; simp,?_,?_,?_⟩
   ·intro q hq
    rw [List.map_cons] at hq
    rcases List.mem_cons.1 hq with rfl | hq
    ·exact w2
    ·exact fun hm=>i2 q hq (by simp [hm])
   ·rw [List.map_cons,List.nodup_cons]
    exact ⟨fun hm=>i2 x.1 hm (by simp),i3⟩
   ·intro q hq
    rcases List.mem_cons.1 hq with rfl | hq
    ·exact w3
    ·exact i4 q hq
  ·have e:Qu Zft (x :: r) s=Zft x s:=by simp [Qu,hz]
   rw [e] at h; exact absurd h hz
def Zo8 (p:Int×List (List UInt8×Int)):List (List UInt8):=p.2.map (·.1)
theorem ZnH:∀ (ds:List (Int×List (List UInt8×Int))) (s:Seen),(Zfs (ds.map Pj) s).1=0→ds.Pairwise (fun a b=>∀ x ∈ Zo8 a,x ∉ Zo8 b)∧(∀ p ∈ ds,(Zo8 p).Nodup∧(∀ x ∈ Zo8 p,x ∉ s)∧∀ q ∈ p.2,q.2=0)
 | [],s,_=>⟨List.Pairwise.nil,fun p h=>by cases h⟩
 | p :: r,s,h=>by
  by_cases hz:(Pj p s).1=0
  ·have e:Zfs ((p :: r).map Pj) s=Zfs (r.map Pj) (Pj p s).2:=by simp [Zfs,hz]
   rw [e] at h
   have hl:¬ p.1 < (p.2.length:Int):=fun hl=>by simp [Pj,Q0,hl] at hz
   have e2:Pj p s=Qu Zft p.2 s:=by simp [Pj,Q0,hl]
   rw [e2] at hz h
   obtain ⟨w1,w2,w3,w4⟩:=ZmZ p.2 s hz
   rw [w1] at h
   obtain ⟨i1,i2⟩:=ZnH r _ h
   refine ⟨List.Pairwise.cons (fun b hb x hx hm=>(i2 b hb).2.1 x hm (by simp [Zo8] at hx ⊢; exact .inr hx)) i1,fun a ha=>?_⟩
   rcases List.mem_cons.1 ha with rfl | ha
   ·exact ⟨w3,w2,w4⟩
   ·exact ⟨(i2 a ha).1,fun x hx hm=>(i2 a ha).2.1 x hx (by simp [hm]),(i2 a ha).2.2⟩
  ·have e:Zfs ((p :: r).map Pj) s=Pj p s:=by simp [Zfs,hz]
   rw [e] at h; exact absurd h hz
def Bl (d:Zl):List (List UInt8×List (List UInt8)):=[([118,97,114],d.Vars.map (·.Name)),([114,101,115,111,117,114,99,101],d.Resources.map (·.Name)),([115,116,111,114,101],d.Stores.map (·.Name)),([98,101,108,116],d.Belts.map (·.Name)),([113,117,101,117,101],d.Queues),([115,116,114,101,97,109],d.Streams),([116,97,108,108,121],d.Tallies),([108,101,118,101,108],d.Levels),([99,111,117,110,116],d.Counts),([114,111,117,116,105,110,101],d.Routines.map (·.Name))]
theorem Zfw (d:Zl):(Bl d).map (·.2)=(Sr d).map Zo8:=by
 simp [Bl,Sr,Zo8,Function.comp_def]
end Go.Proofs.YtlmfmmclnboglaaGreat
end
section
namespace Go.Proofs.YtlmfmmclnboglaaGreat
open Go Go.RowKit Go.Proofs.YtlmfmmclnboglaaGreat.Abs
set_option linter.all false
set_option maxRecDepth 100000
def ZoA (hp:List Zk)(r:KR):Prop:=∃ b,r=some (.bool b,hp,none)
section
variable {C:Cfg}(hC:Ud C)
include hC
theorem Zns (K:FuncId→List AV→List Zk→KR)(hp0 hp:List Zk)(k2:AV→AV→AV→List Zk→Eff→KR)(x1 x4:AV)(ls:List (List (List AV)))(hl:ls.length≤100)(hk:∀ k,ZoA hp0 (k2 x1 (.int .i64 k) x4 hp none)) :
  ∀ (r q:List (List (List AV))) (m:Nat) (k:Int),ls=q ++ r→r.length < m→ZoA hp0 (Uh C.G K C.L hp0 k2 m x1 (.int .i64 k) x4 (.lst 1 (ls.map fun l=>[.lst 1 l])) (.int .i64 q.length) hp none)
 | _,_,0,_,_,h=>by omega
 | [],q,m + 1,k,hs,_=>by
  have hlen:((ls.map fun l=>[AV.lst 1 l]).length:Int)=q.length:=by rw [hs]; simp
  obtain ⟨b,h⟩:=hk k
  exact ⟨b,by simp only [Uh,Wm,Wj,Wl,Xo,ZN,ZM,Zz,Zy,Yq,Yp,Xn,Zg,Wq,ZP,ZQ,Ym,YU,YW,YT,YV,YS,YX,Yr,Ws,Wy,Wt,Wv,Wp,Wz,Ww,Wu,Wx,Xw,ZR,Yo,YY,Wi,YZ,We,Y4,Wh,Wd,Xr,Xe,Xk,Xh,Gz,G9,G8,G7,G6,G5,GU,GV,Xt,Xv,Wo,Xu,GR,Xg,Xj,Xf,Xi,Option.map_some,Xy,Xx,Xq,Xp,Xl,Xz,Zm,ZI,Yi,Yl,Yj,Yk,Yg,ZJ,ZL,Zx,ZK,YR,YQ,Yn,hlen,Int.lt_irrefl,decide_false,Bool.false_eq_true,if_false,h]⟩
 | x :: r,q,m + 1,k,hs,hm=>by
  have hlen:((ls.map fun l=>[AV.lst 1 l]).length:Int)=q.length + (r.length + 1):=by rw [hs]; simp
  have hlt:(q.length:Int) < q.length + (r.length + 1):=by omega
  have hql:q.length + (r.length + 1)≤100:=by rw [hs] at hl; simpa using hl
  have hg:(ls.map fun l=>[AV.lst 1 l])[q.length]? = some [.lst 1 x]:=by rw [hs]; simp
  have l0:∀ v:AV,Zf hp (.ref [v])=some v.ro:=fun v=>rfl
  have hwr:=U6 q.length (by omega)
  obtain ⟨b,ih⟩:=Zns K hp0 hp k2 x1 x4 ls hl hk r (q ++ [x]) m (IntKind.i64.wrap (k + x.length)) (by rw [hs]; simp) (by simpa using hm)
  simp only [List.length_append,List.length_cons,List.length_nil,Nat.zero_add] at ih
  exact ⟨b,by simp only [Uh,Wm,Wj,Wl,Xo,ZN,ZM,Zz,Zy,Yq,Yp,Xn,Zg,Wq,ZP,ZQ,Ym,YU,YW,YT,YV,YS,YX,Yr,Ws,Wy,Wt,Wv,Wp,Wz,Ww,Wu,Wx,Xw,ZR,Yo,YY,Wi,YZ,We,Y4,Wh,Wd,Xr,Xe,Xk,Xh,Gz,G9,G8,G7,G6,G5,GU,GV,Xt,Xv,Wo,Xu,GR,Xg,Xj,Xf,Xi,Option.map_some,Xy,Xx,Xq,Xp,Xl,Xz,Zm,ZI,Yi,Yl,Yj,Yk,Yg,ZJ,ZL,Zx,ZK,YR,YQ,Yn,hlen,hlt,decide_true,if_true,Qd,hg,l0,hwr,ih]⟩
theorem Znr (n:Nat)(hp0:List Zk)(m0:Mdl)(hm:Zo9 m0)(hs:m0.sites.length≤8796093022208):∀ (r q:List Ea) (m:Nat) (k:Int),m0.sites=q ++ r→r.length < m →
  ZoA hp0 (XG C.G (Za C (n + 1)) C.L hp0 (K6 C.G (Za C (n + 1)) C.L hp0) m (.ptr hp0.length 0) (.int .i64 k) (.int .i64 q.length) (hp0 ++ [Zk.cells (Za0 m0) Yd]) none)
 | _,_,0,_,_,h=>by omega
 | [],q,m + 1,k,hq,_=>by
  have hlen:((m0.sites.map Jg).length:Int)=q.length:=by rw [hq]; simp
  have lf:Zf (hp0 ++ [Zk.cells (Za0 m0) Yd]) (.ptr hp0.length (0 + 2))=some (.lst 13 (m0.sites.map Jg)):=XF (ZY _ _) 2
  exact ⟨_,by simp only [XG,K6,Wm,Wj,Wl,Xo,ZN,ZM,Zz,Zy,Yq,Yp,Xn,Zg,Wq,ZP,ZQ,Ym,YU,YW,YT,YV,YS,YX,Yr,Ws,Wy,Wt,Wv,Wp,Wz,Ww,Wu,Wx,Xw,ZR,Yo,YY,Wi,YZ,We,Y4,Wh,Wd,Xr,Xe,Xk,Xh,Gz,G9,G8,G7,G6,G5,GU,GV,Xt,Xv,Wo,Xu,GR,Xg,Xj,Xf,Xi,Option.map_some,Xy,Xx,Xq,Xp,Xl,Xz,Zm,ZI,Yi,Yl,Yj,Yk,Yg,ZJ,ZL,Zx,ZK,YR,YQ,Yn,lf,hlen,Int.lt_irrefl,decide_false,Bool.false_eq_true,if_false]; rfl⟩
 | x :: r,q,m + 1,k,hq,hlm=>by
  have hlen:((m0.sites.map Jg).length:Int)=q.length + (r.length + 1):=by rw [hq]; simp
  have hlt:(q.length:Int) < q.length + (r.length + 1):=by omega
  have hql:q.length + (r.length + 1)≤8796093022208:=by rw [hq] at hs; simpa using hs
  have hg:(m0.sites.map Jg)[q.length]? = some (Jg x):=by rw [hq]; simp
  have hx:=hm.site x (by rw [hq]; simp)
  have lf:Zf (hp0 ++ [Zk.cells (Za0 m0) Yd]) (.ptr hp0.length (0 + 2))=some (.lst 13 (m0.sites.map Jg)):=XF (ZY _ _) 2
  have hwr:=U6 q.length (by omega)
  have hld:=EE (hp0 ++ [Zk.cells (Za0 m0) Yd]) 13 (Jg x) (by simp [Jg])
  have hro:((Jg x).take 13).map AV.ro=Jg x:=rfl
  have hn:=ZoZ hC n (hp0 ++ [Zk.cells (Za0 m0) Yd]) x hx
  have l11:∀ H,Zf H (.ref ((Jg x).drop 11))=some (.lst 5 x.starts):=fun H=>rfl
  have l12:∀ H,Zf H (.ref ((Jg x).drop 12))=some (.lst 3 x.laws):=fun H=>rfl
  have h1:=Zns hC (Za C (n + 1)) hp0 (hp0 ++ [Zk.cells (Za0 m0) Yd]) (Io C.G (Za C (n + 1)) C.L hp0 (K5 C.G (Za C (n + 1)) C.L hp0 (XG C.G (Za C (n + 1)) C.L hp0 (K6 C.G (Za C (n + 1)) C.L hp0) m))) (.ptr hp0.length 0) (.int .i64 q.length) (ZcX x) (by simp [ZcX,kinds]) (fun k'=>by
    obtain ⟨b,ih⟩:=Znr n hp0 m0 hm hs r (q ++ [x]) m (IntKind.i64.wrap (k' + IntKind.i64.wrap (x.starts.length + x.laws.length))) (by rw [hq]; simp) (by simpa using hlm)
    simp only [List.length_append,List.length_cons,List.length_nil,Nat.zero_add] at ih
    exact ⟨b,by simp only [Io,K5,Wm,Wj,Wl,Xo,ZN,ZM,Zz,Zy,Yq,Yp,Xn,Zg,Wq,ZP,ZQ,Ym,YU,YW,YT,YV,YS,YX,Yr,Ws,Wy,Wt,Wv,Wp,Wz,Ww,Wu,Wx,Xw,ZR,Yo,YY,Wi,YZ,We,Y4,Wh,Wd,Xr,Xe,Xk,Xh,Gz,G9,G8,G7,G6,G5,GU,GV,Xt,Xv,Wo,Xu,GR,Xg,Xj,Xf,Xi,Option.map_some,Xy,Xx,Xq,Xp,Xl,Xz,Zm,ZI,Yi,Yl,Yj,Yk,Yg,ZJ,ZL,Zx,ZK,YR,YQ,Yn,lf,Qd,hg,l11,l12,hwr,ih]⟩) (ZcX x) [] C.L k rfl (by have:=hC.L; simp [ZcX,kinds]; omega)
  obtain ⟨b,h1⟩:=h1
  exact ⟨b,by simp only [XG,Wm,Wj,Wl,Xo,ZN,ZM,Zz,Zy,Yq,Yp,Xn,Zg,Wq,ZP,ZQ,Ym,YU,YW,YT,YV,YS,YX,Yr,Ws,Wy,Wt,Wv,Wp,Wz,Ww,Wu,Wx,Xw,ZR,Yo,YY,Wi,YZ,We,Y4,Wh,Wd,Xr,Xe,Xk,Xh,Gz,G9,G8,G7,G6,G5,GU,GV,Xt,Xv,Wo,Xu,GR,Xg,Xj,Xf,Xi,Option.map_some,Xy,Xx,Xq,Xp,Xl,Xz,Zm,ZI,Yi,Yl,Yj,Yk,Yg,ZJ,ZL,Zx,ZK,YR,YQ,Yn,lf,hlen,hlt,decide_true,if_true,Qd,hg,hld,hro,hn]; exact h1⟩
theorem Zst (n:Nat)(hp:List Zk)(m:Mdl)(hm:Zo9 m):ZoA hp (Za C (n + 2) Bo [.agg (Za0 m)] hp):=by
 have l1:Zf (hp ++ [Zk.cells (Za0 m) Yd]) (.ptr hp.length (0 + 1))=some (.lst 3 m.params):=XF (ZY _ _) 1
 have l2:Zf (hp ++ [Zk.cells (Za0 m) Yd]) (.ptr hp.length (0 + 2))=some (.lst 13 (m.sites.map Jg)):=XF (ZY _ _) 2
 have l3:Zf (hp ++ [Zk.cells (Za0 m) Yd]) (.ptr hp.length (0 + 3))=some (.lst 3 m.links):=XF (ZY _ _) 3
 obtain ⟨b,h⟩:=Znr hC n hp m hm hm.sites m.sites [] C.L 0 rfl (by have:=hC.L; have:=hm.sites; omega)
 have h0:((([]:List Ea).length:Nat):Int)=0:=rfl
 rw [h0] at h
 by_cases c1:((m.sites.map Jg).length:Int) > 20
 ·exact ⟨false,Lc (by rw [hC.T]; rfl) (by simp only [OL,Wm,Wj,Wl,Xo,ZN,ZM,Zz,Zy,Yq,Yp,Xn,Zg,Wq,ZP,ZQ,Ym,YU,YW,YT,YV,YS,YX,Yr,Ws,Wy,Wt,Wv,Wp,Wz,Ww,Wu,Wx,Xw,ZR,Yo,YY,Wi,YZ,We,Y4,Wh,Wd,Xr,Xe,Xk,Xh,Gz,G9,G8,G7,G6,G5,GU,GV,Xt,Xv,Wo,Xu,GR,Xg,Xj,Xf,Xi,Option.map_some,Xy,Xx,Xq,Xp,Xl,Xz,Zm,ZI,Yi,Yl,Yj,Yk,Yg,ZJ,ZL,Zx,ZK,YR,YQ,Yn,GD 4 (Za0 m) rfl,l1,l2,l3,c1,decide_true,if_true,Bool.true_or])⟩
 by_cases c2:(m.params.length:Int) > 40
 ·exact ⟨false,Lc (by rw [hC.T]; rfl) (by simp only [OL,Wm,Wj,Wl,Xo,ZN,ZM,Zz,Zy,Yq,Yp,Xn,Zg,Wq,ZP,ZQ,Ym,YU,YW,YT,YV,YS,YX,Yr,Ws,Wy,Wt,Wv,Wp,Wz,Ww,Wu,Wx,Xw,ZR,Yo,YY,Wi,YZ,We,Y4,Wh,Wd,Xr,Xe,Xk,Xh,Gz,G9,G8,G7,G6,G5,GU,GV,Xt,Xv,Wo,Xu,GR,Xg,Xj,Xf,Xi,Option.map_some,Xy,Xx,Xq,Xp,Xl,Xz,Zm,ZI,Yi,Yl,Yj,Yk,Yg,ZJ,ZL,Zx,ZK,YR,YQ,Yn,GD 4 (Za0 m) rfl,l1,l2,l3,c1,c2,decide_true,decide_false,if_true,Bool.false_or,Bool.true_or])⟩
 by_cases c3:(m.links.length:Int) > 40
 ·exact ⟨false,Lc (by rw [hC.T]; rfl) (by simp only [OL,Wm,Wj,Wl,Xo,ZN,ZM,Zz,Zy,Yq,Yp,Xn,Zg,Wq,ZP,ZQ,Ym,YU,YW,YT,YV,YS,YX,Yr,Ws,Wy,Wt,Wv,Wp,Wz,Ww,Wu,Wx,Xw,ZR,Yo,YY,Wi,YZ,We,Y4,Wh,Wd,Xr,Xe,Xk,Xh,Gz,G9,G8,G7,G6,G5,GU,GV,Xt,Xv,Wo,Xu,GR,Xg,Xj,Xf,Xi,Option.map_some,Xy,Xx,Xq,Xp,Xl,Xz,Zm,ZI,Yi,Yl,Yj,Yk,Yg,ZJ,ZL,Zx,ZK,YR,YQ,Yn,GD 4 (Za0 m) rfl,l1,l2,l3,c1,c2,c3,decide_true,decide_false,if_true,Bool.false_or,Bool.true_or])⟩
 exact ⟨b,Lc (by rw [hC.T]; rfl) (by simp only [OL,Wm,Wj,Wl,Xo,ZN,ZM,Zz,Zy,Yq,Yp,Xn,Zg,Wq,ZP,ZQ,Ym,YU,YW,YT,YV,YS,YX,Yr,Ws,Wy,Wt,Wv,Wp,Wz,Ww,Wu,Wx,Xw,ZR,Yo,YY,Wi,YZ,We,Y4,Wh,Wd,Xr,Xe,Xk,Xh,Gz,G9,G8,G7,G6,G5,GU,GV,Xt,Xv,Wo,Xu,GR,Xg,Xj,Xf,Xi,Option.map_some,Xy,Xx,Xq,Xp,Xl,Xz,Zm,ZI,Yi,Yl,Yj,Yk,Yg,ZJ,ZL,Zx,ZK,YR,YQ,Yn,GD 4 (Za0 m) rfl,l1,l2,l3,c1,c2,c3,decide_false,Bool.false_eq_true,if_false,Bool.false_or]; exact h)⟩
end
end Go.Proofs.YtlmfmmclnboglaaGreat
end
section
namespace Go.Proofs.YtlmfmmclnboglaaGreat
open Go Go.RowKit Go.Proofs.YtlmfmmclnboglaaGreat.Abs
set_option linter.all false
set_option maxRecDepth 100000
theorem Zq5 {C:Cfg}(hC:Ud C)(N:Nat)(hN:2≤N)(hp:HP)(m:Jm)(hm:RL m):ZoA hp (Za C N Bo [.agg (VM m)] hp):=by
 obtain ⟨n,rfl⟩:∃ n,N=n + 2:=⟨N - 2,by omega⟩
 rw [← ZjX]; exact Zst hC n hp (Zpx m) (Zmz hm)
end Go.Proofs.YtlmfmmclnboglaaGreat
end
section
namespace Go.Proofs.YtlmfmmclnboglaaGreat.Abs
open Go Go.RowKit Go.ChangeShapes Go.WideShapes Go.Deep
set_option linter.all false
def Zuy (P:Program):List Field→Nat→Nat→Bool
 | [],o,n=>o == n
 | f :: r,o,n=>(f.offset == o) && Zuy P r (o + P.cellsOf f.type) n
def ZrJ {H:Type}(P:Program):Nat→TypeId→List AV→DataW H→Prop
 | 0,_,_,_=>False
 | n + 1,t,az,d=>match P.underlying t with
  | some .bool=>∃ b,az=[.bool b]∧d=.lit (.bool b)
  | some (.int k)=>∃ x,az=[.int k x]∧d=.lit (.int k x)∧(Lit.int k x).wf=true
  | some .string=>∃ s,az=[.str s]∧d=.lit (.string s)∧s.length≤140737488351232
  | some (.slice e)=>∃ rows,az=[.lst (P.cellsOf e) rows]∧rows.length≤140737488351232∧((rows=[]∧d=.nil)∨∃ D ds spare,d=.slice ds spare∧ds=(List.range rows.length).map D∧∀ (i:Nat) (r:List AV),rows[i]? = some r→ZrJ P n e r (D i))
  | some (.struct fs)=>az.length=P.cellsOf t∧∃ ds,d=.agg ds∧ds.length=fs.size∧∀ (i:Nat) (f:Field),fs.toList[i]? = some f→∃ di,ds[i]? = some di∧ZrJ P n f.type ((az.drop f.offset).take (P.cellsOf f.type)) di
  | _=>False
structure Shp {H:Type}(P:Program)(n:Nat)(t:TypeId)(az:List AV)(d:DataW H):Prop where
 ok:ZrJ P n t az d
theorem ZnE {n:Nat}(h:n≤reachBytes):n≤140737488351232:=h
theorem Shp.bool {H:Type}{P:Program}{n:Nat}{t:TypeId}{az:List AV}{d:DataW H}(h:Shp P (n + 1) t az d)(hu:P.underlying t=some .bool):∃ b,az=[.bool b]∧d=.lit (.bool b):=by
 have h:=h.ok; rw [ZrJ,hu] at h; exact h
theorem Shp.int {H:Type}{P:Program}{n:Nat}{t:TypeId}{k:IntKind}{az:List AV}{d:DataW H}(h:Shp P (n + 1) t az d)(hu:P.underlying t=some (.int k)):∃ x,az=[.int k x]∧d=.lit (.int k x)∧k.min≤x∧x≤k.max:=by
 have h:=h.ok
 rw [ZrJ,hu] at h
 obtain ⟨x,h1,h2,h3⟩:=h
 simp only [Lit.wf,Bool.and_eq_true,decide_eq_true_eq] at h3
 exact ⟨x,h1,h2,h3⟩
theorem Shp.i64 {H:Type}{P:Program}{n:Nat}{t:TypeId}{az:List AV}{d:DataW H}(h:Shp P (n + 1) t az d)(hu:P.underlying t=some (.int .i64)):∃ x,az=[.int .i64 x]∧d=.lit (.int .i64 x)∧-9223372036854775808≤x∧x≤9223372036854775807:=by
 obtain ⟨x,h1,h2,h3⟩:=h.int hu
 exact ⟨x,h1,h2,by simpa [IntKind.min,IntKind.max,IntKind.signed,IntKind.bits] using h3⟩
theorem Shp.str {H:Type}{P:Program}{n:Nat}{t:TypeId}{az:List AV}{d:DataW H}(h:Shp P (n + 1) t az d)(hu:P.underlying t=some .string):∃ s,az=[.str s]∧d=.lit (.string s)∧s.length≤140737488351232:=by
 have h:=h.ok; rw [ZrJ,hu] at h; exact h
theorem Shp.slice {H:Type}{P:Program}{n:Nat}{t e:TypeId}{az:List AV}{d:DataW H}(h:Shp P (n + 1) t az d)(hu:P.underlying t=some (.slice e)):∃ rows,az=[.lst (P.cellsOf e) rows]∧rows.length≤140737488351232∧((rows=[]∧d=.nil)∨∃ D ds spare,d=.slice ds spare∧ds=(List.range rows.length).map D∧∀ (i:Nat) (r:List AV),rows[i]? = some r→Shp P n e r (D i)):=by
 have h:=h.ok
 rw [ZrJ,hu] at h
 obtain ⟨rows,h1,h2,h3⟩:=h
 refine ⟨rows,h1,h2,h3.imp id ?_⟩
 rintro ⟨D,ds,spare,e1,e2,e3⟩
 exact ⟨D,ds,spare,e1,e2,fun i r hr=>⟨e3 i r hr⟩⟩
theorem Shp.struct {H:Type}{P:Program}{n:Nat}{t:TypeId}{fs:Array Field}{az:List AV}{d:DataW H}(h:Shp P (n + 1) t az d)(hu:P.underlying t=some (.struct fs)):az.length=P.cellsOf t∧∃ ds,d=.agg ds∧ds.length=fs.size∧∀ (i:Nat) (f:Field),fs.toList[i]? = some f→∃ di,ds[i]? = some di∧Shp P n f.type ((az.drop f.offset).take (P.cellsOf f.type)) di:=by
 have h:=h.ok
 rw [ZrJ,hu] at h
 obtain ⟨h1,ds,h2,h3,h4⟩:=h
 exact ⟨h1,ds,h2,h3,fun i f hf=>let ⟨di,e1,e2⟩:=h4 i f hf; ⟨di,e1,⟨e2⟩⟩⟩
def ZaR (Γ:WC)(w:World)(a:AV)(v:Value):Prop:=Rep Γ w a v∧a.one=true∧a.noId1=true∧∀ k r,a≠.own k r
variable {H:Type}{enc:TypeId×Value→H}{P:Program}{w:World}{base:Nat}{sp:Nat→Bool}{held:Bool}{Γ:WC}
theorem Zqk {H:Type}{P:Program}{e:TypeId}{d:DataW H}{y:Nat}:∀ {ds:List (DataW H)},d ∈ ds→y ∈ d.weights P e→y ∈ DataW.weightsAll P e ds
 | [],h,_=>by simp at h
 | z :: ds,h,hy=>by
  rw [DataW.weightsAll,List.mem_append]
  rcases List.mem_cons.1 h with rfl | h
  ·exact .inl hy
  ·exact .inr (Zqk h hy)
theorem sized_arg {H:Type}{P:Program}{ts:List TypeId}{ds:List (DataW H)}(h:(DataW.weightsEach P ts ds).all (·≤reachBytes)=true){j:Nat}{t:TypeId}{d:DataW H}(ht:ts[j]? = some t)(hd:ds[j]? = some d):∀ y ∈ d.weights P t,y≤reachBytes:=fun y hy=>by
 have:=List.all_eq_true.1 h _ (DataW.weights_mem_each ht hd y hy)
 simpa using this
theorem arg_stays {t:TypeId}{v:Value}{d:DataW H}{ps:List MemPlace}{W W':World}(hl:laidOutB P=true)(hr:P.readableRec t=true)(hrow:t < P.types.size)(h:DataW.Trod enc P W 0 (fun _=>true) true t v d ps)(hb:Below W.heap.size W W')(hlt:∀ p ∈ ps,p.block < W.heap.size) :
  DataW.Trod enc P W' 0 (fun b=>decide (b < W.heap.size)) true t v d ps :=
 WideElems.Trod_stays hl hr hrow h (fun p hp=>hb.same (hlt p hp)) (fun p hp=>by simpa using hlt p hp)
end Go.Proofs.YtlmfmmclnboglaaGreat.Abs
end
section
namespace Go.Proofs.YtlmfmmclnboglaaGreat.Abs
open Go Go.RowKit Go.ChangeShapes Go.WideShapes Go.Deep
set_option linter.all false
def ZsD (P:Program)(S:List TypeId):Bool :=
 S.all fun t=>match P.underlying t with
  | some .bool=>true
  | some (.int _)=>true
  | some .string=>true
  | some (.slice e)=>(decide (0 < P.cellsOf e) && decide (0 < P.bytesOf e)) && S.contains e
  | some (.struct fs)=>Zuy P fs.toList 0 (P.cellsOf t) && fs.toList.all fun f=>S.contains f.type
  | _=>false
inductive Zak {H:Type}(P:Program):TypeId→List AV→DataW H→Prop
 | bool (t:TypeId) (b:Bool) (hu:P.underlying t=some .bool):Zak P t [.bool b] (.lit (.bool b))
 | int (t:TypeId) (k:IntKind) (x:Int) (hu:P.underlying t=some (.int k)) (hw:(Lit.int k x).wf=true):Zak P t [.int k x] (.lit (.int k x))
 | str (t:TypeId) (s:List UInt8) (hu:P.underlying t=some .string) (hl:s.length≤140737488351232):Zak P t [.str s] (.lit (.string s))
 | nil (t e:TypeId) (hu:P.underlying t=some (.slice e)):Zak P t [.lst (P.cellsOf e) []] .nil
 | slice (t e:TypeId) (rows:List (List AV)) (D:Nat→DataW H) (spare:List (DataW H)) (hu:P.underlying t=some (.slice e)) (hl:rows.length * P.bytesOf e≤140737488351232) (h:∀ (i:Nat) (r:List AV),rows[i]? = some r→Zak P e r (D i)) :
   Zak P t [.lst (P.cellsOf e) rows] (.slice ((List.range rows.length).map D) spare)
 | struct (t:TypeId) (fs:Array Field) (cs:List AV) (D:Nat→DataW H) (hu:P.underlying t=some (.struct fs)) (hl:cs.length=P.cellsOf t)
   (h:∀ (i:Nat) (f:Field),fs.toList[i]? = some f→Zak P f.type ((cs.drop f.offset).take (P.cellsOf f.type)) (D i)):Zak P t cs (.agg ((List.range fs.size).map D))
section
variable {H:Type}{P:Program}{t:TypeId}{cs:List AV}{d:DataW H}
theorem Zak.toBool (h:Zak P t cs d)(hu:P.underlying t=some .bool):∃ b,cs=[.bool b]∧d=.lit (.bool b):=by
 cases h <;> rename_i h2 <;> first | exact ⟨_,rfl,rfl⟩ | (simp_all; done)
theorem Zak.toInt (h:Zak P t cs d){k:IntKind}(hu:P.underlying t=some (.int k)):∃ x,cs=[.int k x]∧d=.lit (.int k x)∧k.min≤x∧x≤k.max:=by
 cases h with
 | int _ k' x h1 hw =>
  rw [hu] at h1; cases h1
  simp only [Lit.wf,Bool.and_eq_true,decide_eq_true_eq] at hw
  exact ⟨x,rfl,rfl,hw⟩
 | _=>simp_all
theorem Zak.toI64 (h:Zak P t cs d)(hu:P.underlying t=some (.int .i64)):∃ x,cs=[.int .i64 x]∧d=.lit (.int .i64 x)∧-9223372036854775808≤x∧x≤9223372036854775807:=by
 obtain ⟨x,h1,h2,h3⟩:=h.toInt hu
 exact ⟨x,h1,h2,by simpa [IntKind.min,IntKind.max,IntKind.signed,IntKind.bits] using h3⟩
theorem Zak.toStr (h:Zak P t cs d)(hu:P.underlying t=some .string):∃ s,cs=[.str s]∧d=.lit (.string s)∧s.length≤140737488351232:=by
 cases h with
 | str _ s h1 hl=>exact ⟨s,rfl,rfl,hl⟩
 | _=>simp_all
theorem Zak.toSlice (h:Zak P t cs d){e:TypeId}(hu:P.underlying t=some (.slice e)):∃ rows,cs=[.lst (P.cellsOf e) rows]∧rows.length * P.bytesOf e≤140737488351232∧∃ D:Nat→DataW H,(∀ (i:Nat) (r:List AV),rows[i]? = some r→Zak P e r (D i))∧((rows=[]∧d=.nil)∨∃ spare,d=.slice ((List.range rows.length).map D) spare):=by
 cases h with
 | nil _ e' h1=>rw [hu] at h1; cases h1; exact ⟨[],rfl,by simp,fun _=>.nil,fun i r hr=>by simp at hr,.inl ⟨rfl,rfl⟩⟩
 | slice _ e' rows D spare h1 hl h=>rw [hu] at h1; cases h1; exact ⟨rows,rfl,hl,D,h,.inr ⟨spare,rfl⟩⟩
 | _=>simp_all
theorem Zak.toStruct (h:Zak P t cs d){fs:Array Field}(hu:P.underlying t=some (.struct fs)):cs.length=P.cellsOf t∧∃ D:Nat→DataW H,d=.agg ((List.range fs.size).map D)∧∀ (i:Nat) (f:Field),fs.toList[i]? = some f→Zak P f.type ((cs.drop f.offset).take (P.cellsOf f.type)) (D i):=by
 cases h with
 | struct _ fs' _ D h1 hl h=>rw [hu] at h1; cases h1; exact ⟨hl,D,rfl,h⟩
 | _=>simp_all
end
def Of (P:Program)(t:TypeId)(cs:List AV):Prop:=∃ (H:Type) (d:DataW H),Zak P t cs d
theorem Zak.of {H:Type}{P:Program}{t:TypeId}{cs:List AV}{d:DataW H}(h:Zak P t cs d):Of P t cs:=⟨H,d,h⟩
theorem Of.toBool {P:Program}{t:TypeId}{cs:List AV}(h:Of P t cs)(hu:P.underlying t=some .bool):∃ b,cs=[.bool b]:=by
 obtain ⟨H,d,h⟩:=h; obtain ⟨b,h1,_⟩:=h.toBool hu; exact ⟨b,h1⟩
theorem Of.toInt {P:Program}{t:TypeId}{cs:List AV}(h:Of P t cs){k:IntKind}(hu:P.underlying t=some (.int k)):∃ x,cs=[.int k x]∧k.min≤x∧x≤k.max:=by
 obtain ⟨H,d,h⟩:=h; obtain ⟨x,h1,_,h2⟩:=h.toInt hu; exact ⟨x,h1,h2⟩
theorem Of.toI64 {P:Program}{t:TypeId}{cs:List AV}(h:Of P t cs)(hu:P.underlying t=some (.int .i64)):∃ x,cs=[.int .i64 x]∧-9223372036854775808≤x∧x≤9223372036854775807:=by
 obtain ⟨H,d,h⟩:=h; obtain ⟨x,h1,_,h2⟩:=h.toI64 hu; exact ⟨x,h1,h2⟩
theorem Of.toStr {P:Program}{t:TypeId}{cs:List AV}(h:Of P t cs)(hu:P.underlying t=some .string):∃ s,cs=[.str s]∧s.length≤140737488351232:=by
 obtain ⟨H,d,h⟩:=h; obtain ⟨x,h1,_,h2⟩:=h.toStr hu; exact ⟨x,h1,h2⟩
theorem Of.toSlice {P:Program}{t:TypeId}{cs:List AV}(h:Of P t cs){e:TypeId}(hu:P.underlying t=some (.slice e)):∃ rows,cs=[.lst (P.cellsOf e) rows]∧rows.length * P.bytesOf e≤140737488351232∧∀ r ∈ rows,Of P e r:=by
 obtain ⟨H,d,h⟩:=h
 obtain ⟨rows,h1,h2,D,h3,_⟩:=h.toSlice hu
 exact ⟨rows,h1,h2,fun r hr=>by obtain ⟨i,hi⟩:=List.mem_iff_getElem?.1 hr; exact (h3 i r hi).of⟩
theorem Of.toStruct {P:Program}{t:TypeId}{cs:List AV}(h:Of P t cs){fs:Array Field}(hu:P.underlying t=some (.struct fs)):cs.length=P.cellsOf t∧∀ (i:Nat) (f:Field),fs.toList[i]? = some f→Of P f.type ((cs.drop f.offset).take (P.cellsOf f.type)):=by
 obtain ⟨H,d,h⟩:=h
 obtain ⟨h1,D,_,h2⟩:=h.toStruct hu
 exact ⟨h1,fun i f hf=>(h2 i f hf).of⟩
variable {H:Type}{enc:TypeId×Value→H}{P:Program}{w:World}{base:Nat}{sp:Nat→Bool}{held:Bool}{Γ:WC}
theorem ZmA {t e:TypeId}{fuel:Nat}{cs:List Value}{x:DataW H×List MemPlace}(ht:P.underlying t=some (.slice e))(h:DataW.trod enc P w base sp held (fuel + 1) t cs=some x) :
  (cs=[.slice none 0 0]∧x=(.nil,[])) ∨
  ∃ (a:Addr) (len cap m n:Nat) (D:Nat→DataW H) (Pl:Nat→List MemPlace),n=fuel∧cs=[.slice (some a) len cap]∧base≤a.block∧len≤cap∧cap≤maxLen∧m=(if sp a.block then cap else len) ∧
   x=(.slice ((List.range len).map D) ((List.range (m - len)).map fun j=>D (len + j)),MemPlace.row a (m * P.cellsOf e) ++ (List.range m).flatMap Pl) ∧
   ∀ i,i < m→∃ cs',w.cells? base (a.add (i * P.cellsOf e)) (P.cellsOf e)=some cs'∧DataW.trod enc P w base sp held n e cs'=some (D i,Pl i):=by
 rcases DataW.trod_slice ht h with h0 | ⟨a,len,cap,elems,rest,n,hn,rfl,rfl,hb,hl,hm,hlen,hel,hsp,hns⟩
 ·exact Or.inl h0
 right
 have hrl:rest.length=(if sp a.block then cap else len) - len:=by
  cases hs:sp a.block with
  | true=>simpa [hs] using (hsp hs).1
  | false=>simp [hns hs]
 have hle:len≤(if sp a.block then cap else len):=by split <;> omega
 have hall:(elems ++ rest).length=(if sp a.block then cap else len):=by rw [List.length_append,hlen,hrl]; omega
 refine ⟨a,len,cap,_,n,fun i=>((elems ++ rest).getD i (.nil,[])).1,fun i=>((elems ++ rest).getD i (.nil,[])).2,by omega,rfl,hb,hl,hm,rfl,?_,?_⟩
 ·refine Prod.ext ?_ ?_
  ·show DataW.slice (elems.map (·.1)) (rest.map (·.1))=_
   congr 1
   ·rw [map_by_index elems (.nil,[]) (·.1),hlen]
    refine List.map_congr_left fun i hi=>?_
    have hi':i < elems.length:=by rw [hlen]; simpa using hi
    simp [List.getD,List.getElem?_append_left hi']
   ·rw [map_by_index rest (.nil,[]) (·.1),hrl]
    refine List.map_congr_left fun j _=>?_
    simp [List.getD,List.getElem?_append_right (show elems.length≤len + j by omega),hlen]
  ·show MemPlace.row a ((elems.length + rest.length) * P.cellsOf e) ++ (elems ++ rest).flatMap (·.2)=_
   rw [flatMap_by_index (elems ++ rest) (.nil,[]) (·.2),hall,← List.length_append,hall]
 ·intro i hi
  have key:(w.cells? base (a.add (i * P.cellsOf e)) (P.cellsOf e)).bind (DataW.trod enc P w base sp held n e)=(elems ++ rest)[i]?:=by
   by_cases hil:i < len
   ·rw [hel i hil,List.getElem?_append_left (by omega)]
   ·have hs:sp a.block=true:=by
     cases hs:sp a.block with
     | true=>rfl
     | false=>simp [hs] at hi; omega
    have:=(hsp hs).2 (i - len) (by simp [hs] at hi; omega)
    rw [show len + (i - len)=i by omega] at this
    rw [this,List.getElem?_append_right (by omega),hlen]
  rw [List.getElem?_eq_getElem (by omega)] at key
  obtain ⟨cs',h1,h2⟩:=Option.bind_eq_some_iff.1 key
  refine ⟨cs',h1,?_⟩
  rw [h2]
  simp [List.getD,List.getElem?_eq_getElem (show i < (elems ++ rest).length by omega)]
theorem Zg8 (S:List TypeId)(fuel:Nat)(cs:List Value)
  (ih:∀ (t:TypeId) (cs:List Value) (x:DataW H×List MemPlace),S.contains t=true→DataW.trod enc P w base sp held fuel t cs=some x→(∀ y ∈ x.1.weights P t,y≤reachBytes)→∃ az:List AV,Zak P t az x.1∧az.length=cs.length∧∀ j a,az[j]? = some a→ZaR Γ w a (cs.getD j Go.undef)) :
  ∀ (fs:List Field) (xs:List (DataW H×List MemPlace)) (o m:Nat),Zuy P fs o m=true→m=cs.length→(fs.all fun f=>S.contains f.type)=true→(∀ (i:Nat) (f:Field),fs[i]? = some f→∃ x,xs[i]? = some x∧DataW.trod enc P w base sp held fuel f.type ((cs.drop f.offset).take (P.cellsOf f.type))=some x∧∀ y ∈ x.1.weights P f.type,y≤reachBytes) →
   o≤m∧∃ az:List AV,az.length=m - o∧(∀ (i:Nat) (f:Field),fs[i]? = some f→o≤f.offset∧∃ x,xs[i]? = some x∧Zak P f.type ((az.drop (f.offset - o)).take (P.cellsOf f.type)) x.1)∧∀ j a,az[j]? = some a→ZaR Γ w a (cs.getD (o + j) Go.undef)
 | [],xs,o,m,ht,hm,_,_=>by
  have:o=m:=by simpa [Zuy] using ht
  subst this
  exact ⟨Nat.le_refl _,[],by simp,fun i f hf=>by simp at hf,fun j a h=>by simp at h⟩
 | f :: r,xs,o,m,ht,hm,hok,hx=>by
  simp only [Zuy,Bool.and_eq_true,beq_iff_eq] at ht
  simp only [List.all_cons,Bool.and_eq_true] at hok
  obtain ⟨x,hx0,hxf,hxw⟩:=hx 0 f rfl
  obtain ⟨xs,rfl⟩:∃ xs',xs=x :: xs':=by
   cases xs with
   | nil=>simp at hx0
   | cons y ys=>simp at hx0; exact ⟨ys,by rw [hx0]⟩
  obtain ⟨hle,az,hl,hs,hr⟩:=Zg8 S fuel cs ih r xs _ m ht.2 hm hok.2 (fun i g hg=>hx (i + 1) g hg)
  obtain ⟨a1,s1,l1,r1⟩:=ih _ _ _ hok.1 hxf hxw
  have hlen:((cs.drop f.offset).take (P.cellsOf f.type)).length=P.cellsOf f.type:=by
   rw [List.length_take,List.length_drop]; omega
  rw [hlen] at l1
  refine ⟨by omega,a1 ++ az,by rw [List.length_append]; omega,fun i g hg=>?_,fun j a hj=>?_⟩
  ·cases i with
   | zero =>
    simp only [List.getElem?_cons_zero,Option.some.injEq] at hg
    subst hg
    refine ⟨by omega,x,rfl,?_⟩
    rw [ht.1,Nat.sub_self,List.drop_zero,List.take_append_of_le_length (by omega),List.take_of_length_le (by omega)]
    exact s1
   | succ i =>
    simp only [List.getElem?_cons_succ] at hg
    obtain ⟨q1,q2⟩:=hs i g hg
    refine ⟨by omega,?_⟩
    rw [List.drop_append,List.drop_eq_nil_of_le (by omega),List.nil_append,l1]
    rw [show g.offset - o - P.cellsOf f.type=g.offset - (o + P.cellsOf f.type) by omega]
    simpa using q2
  ·by_cases hj2:j < a1.length
   ·rw [List.getElem?_append_left hj2] at hj
    have:=r1 j a hj
    have e:((cs.drop f.offset).take (P.cellsOf f.type)).getD j Go.undef=cs.getD (o + j) Go.undef:=by
     rw [List.getD_eq_getElem?_getD,List.getD_eq_getElem?_getD,List.getElem?_take_of_lt (by omega),List.getElem?_drop,ht.1]
    rwa [e] at this
   ·rw [List.getElem?_append_right (by omega)] at hj
    have:=hr _ a hj
    rwa [show o + P.cellsOf f.type + (j - a1.length)=o + j by omega] at this
theorem Zdo (hΓ:∀ b,Γ b=.imm){S:List TypeId}(hS:ZsD P S=true):∀ (fuel:Nat) (t:TypeId) (cs:List Value) (x:DataW H×List MemPlace),S.contains t=true→DataW.trod enc P w base sp held fuel t cs=some x→(∀ y ∈ x.1.weights P t,y≤reachBytes) →
  ∃ az:List AV,Zak P t az x.1∧az.length=cs.length∧∀ j a,az[j]? = some a→ZaR Γ w a (cs.getD j Go.undef)
 | 0,_,_,_,_,h,_=>by cases h
 | fuel + 1,t,cs,x,hc,h,hwt=>by
  have ho:=List.all_eq_true.1 hS t (by simpa using hc)
  cases hu:P.underlying t with
  | none=>simp [hu] at ho
  | some d =>
  have one:∀ (c:AV) (v:Value),ZaR Γ w c v→∀ j a,[c][j]? = some a→ZaR Γ w a ([v].getD j Go.undef):=fun c v hc j a hj=>by
   match j,hj with
   | 0,hj=>cases hj; exact hc
   | j + 1,hj=>simp at hj
  cases d <;> simp only [hu,Bool.false_eq_true] at ho
  case bool =>
   obtain ⟨b,rfl,rfl⟩:=DataW.trod_bool hu h
   exact ⟨[.bool b],.bool t b hu,rfl,one _ _ ⟨.bool b,rfl,rfl,fun k r e=>by cases e⟩⟩
  case int k =>
   obtain ⟨x,rfl,rfl,hw⟩:=DataW.trod_int hu h
   exact ⟨[.int k x],.int t k x hu hw,rfl,one _ _ ⟨.int k x,rfl,rfl,fun k r e=>by cases e⟩⟩
  case string =>
   obtain ⟨b,rfl,rfl,hb⟩:=DataW.trod_string hu h
   have e:b=⟨b.data.toList.toArray⟩:=by cases b; simp
   refine ⟨[.str b.data.toList],.str t _ hu (ZnE (hwt _ (by simp [DataW.weights]))),rfl,one _ _ ⟨?_,rfl,rfl,fun k r e=>by cases e⟩⟩
   have:Rep Γ w (.str b.data.toList) (.string ⟨b.data.toList.toArray⟩):=.str _
   rwa [← e] at this
  case slice e =>
   simp only [Bool.and_eq_true,decide_eq_true_eq] at ho
   rcases ZmA hu h with ⟨rfl,rfl⟩ | ⟨A,len,cap,m,n',D,Pl,hn',rfl,hb,hl,hm,hmm,rfl,hi⟩
   ·exact ⟨[.lst (P.cellsOf e) []],.nil t e hu,rfl,one _ _ ⟨.lstNil _,rfl,rfl,fun k r e=>by cases e⟩⟩
   ·have hlm:len≤m:=by rw [hmm]; split <;> omega
    have hwe:∀ i,i < len→∀ y ∈ (D i).weights P e,y≤reachBytes:=fun i hi y hy=>by
     refine hwt y ?_
     simp only [DataW.weights,hu]
     exact List.mem_cons_of_mem _ (List.mem_append_left _ (Zqk (List.mem_map.2 ⟨i,by simpa using hi,rfl⟩) hy))
    have hlr:len * P.bytesOf e≤140737488351232:=by
     refine ZnE (Nat.le_trans ?_ (hwt ((((List.range len).map D).length + ((List.range (m - len)).map fun j=>D (len + j)).length) * P.bytesOf e) ?_))
     ·simp only [List.length_map,List.length_range]
      exact Nat.mul_le_mul_right _ (Nat.le_add_right _ _)
     ·simp only [DataW.weights,hu]
      exact List.mem_cons_self ..
    have hrow:∀ i,∃ r:List AV,i < len→Zak P e r (D i)∧r.length=P.cellsOf e∧∀ j a,r[j]? = some a→w.cell? ((A.add (i * P.cellsOf e)).add j)=some ((w.cell? ((A.add (i * P.cellsOf e)).add j)).getD Go.undef)∧ZaR Γ w a ((w.cell? ((A.add (i * P.cellsOf e)).add j)).getD Go.undef):=fun i=>by
     by_cases hil:i < len
     ·obtain ⟨cs',hc,ht⟩:=hi i (by omega)
      obtain ⟨_,hlen,hcell⟩:=World.cells?_some hc
      obtain ⟨r,s1,l1,r1⟩:=Zdo hΓ hS n' e cs' _ ho.2 ht (hwe i hil)
      refine ⟨r,fun _=>⟨s1,by omega,fun j a hj=>?_⟩⟩
      have hjl:j < r.length:=(List.getElem?_eq_some_iff.1 hj).1
      have hc2:=hcell j (by omega)
      have hr:=r1 j a hj
      rw [List.getElem?_eq_getElem (by omega)] at hc2
      rw [List.getD_eq_getElem?_getD,List.getElem?_eq_getElem (by omega)] at hr
      rw [hc2]
      exact ⟨rfl,hr⟩
     ·exact ⟨[],fun h=>absurd h hil⟩
    have hf:∃ f:Nat→List AV,∀ i,i < len→Zak P e (f i) (D i)∧(f i).length=P.cellsOf e∧∀ j a,(f i)[j]? = some a→w.cell? ((A.add (i * P.cellsOf e)).add j)=some ((w.cell? ((A.add (i * P.cellsOf e)).add j)).getD Go.undef)∧ZaR Γ w a ((w.cell? ((A.add (i * P.cellsOf e)).add j)).getD Go.undef) :=
     ⟨fun i=>(hrow i).choose,fun i=>(hrow i).choose_spec⟩
    obtain ⟨f,hf⟩:=hf
    have hget:∀ (i:Nat) (r:List AV),((List.range len).map f)[i]? = some r→i < len∧r=f i:=fun i r hr=>by
     rw [List.getElem?_map] at hr
     obtain ⟨i',hi',rfl⟩:=Option.map_eq_some_iff.1 hr
     have hlt:=(List.getElem?_eq_some_iff.1 hi').1
     rw [List.length_range] at hlt
     rw [List.getElem?_range hlt] at hi'
     obtain rfl:=Option.some.inj hi'
     exact ⟨hlt,rfl⟩
    have hlenf:((List.range len).map f).length=len:=by simp
    have hsl:=Zak.slice (P := P) t e ((List.range len).map f) D ((List.range (m - len)).map fun j=>D (len + j)) hu (by simpa using hlr) (fun i r hr=>by obtain ⟨h1,rfl⟩:=hget i r hr; exact (hf i h1).1)
    rw [hlenf] at hsl
    refine ⟨[.lst (P.cellsOf e) ((List.range len).map f)],hsl,rfl,one _ _ ⟨?_,rfl,rfl,fun k r e=>by cases e⟩⟩
    ·by_cases hex:∃ (i j:Nat) (a:AV),i < len∧(f i)[j]? = some a
     ·obtain ⟨i0,j0,a0,hi0,hj0⟩:=hex
      have h0:∃ v,w.cell? A=some v:=by
       have hj0l:j0 < (f i0).length:=(List.getElem?_eq_some_iff.1 hj0).1
       have hpos:0 < P.cellsOf e:=by have:=(hf i0 hi0).2.1; omega
       have hz:=(hf 0 (by omega)).2.1
       have:=((hf 0 (by omega)).2.2 0 ((f 0)[0]'(by omega)) (List.getElem?_eq_getElem _)).1
       rw [Nat.zero_mul] at this
       have e1:(A.add 0).add 0=A:=by simp [Addr.add]
       rw [e1] at this
       exact ⟨_,this⟩
      have hsp:A.spot=none:=by
       obtain ⟨v,hv⟩:=h0
       unfold World.cell? at hv
       split at hv
       ·split at hv
        ·cases hv
        ·rename_i hs; simpa using hs
       ·cases hv
      obtain ⟨b,o,q⟩:=A
      simp only at hsp
      subst hsp
      have hadd:∀ i j,((⟨b,o,none⟩:Addr).add (i * P.cellsOf e)).add j=⟨b,o + (i * P.cellsOf e + j),none⟩:=fun i j=>by
       rw [Go.Deep.add_add]
       unfold Addr.add
       split
       ·rename_i h0; simp [h0]
       ·rfl
      have hll:len=((List.range len).map f).length:=by simp
      generalize hrows:(List.range len).map f=rows at *
      subst hll
      refine .lst _ rows b o cap (fun i j=>(w.cell? ⟨b,o + (i * P.cellsOf e + j),none⟩).getD Go.undef) hl (fun r hr=>?_) (fun i j r c hr hc=>?_) (fun i j r c hr hc=>?_)
      ·obtain ⟨i,hi⟩:=List.mem_iff_getElem?.1 hr
       obtain ⟨h1,rfl⟩:=hget i r hi
       exact (hf i h1).2.1
      ·obtain ⟨h1,rfl⟩:=hget i r hr
       have:=(hf i h1).2.2 j c hc
       rw [hadd] at this
       exact ⟨this.1,by show Tn _ (Γ b); rw [hΓ]; trivial,this.2.2.2.1⟩
      ·obtain ⟨h1,rfl⟩:=hget i r hr
       have:=(hf i h1).2.2 j c hc
       rw [hadd] at this
       exact this.2.1
     ·have h0:len=0:=by
       rcases Nat.eq_zero_or_pos len with h0 | h0
       ·exact h0
       ·refine absurd ⟨0,0,(f 0)[0]'(by have:=(hf 0 h0).2.1; have:=ho.1.1; omega),h0,List.getElem?_eq_getElem _⟩ hex
      subst h0
      exact .lstE _ A cap
  case struct fs =>
   simp only [Bool.and_eq_true] at ho
   obtain ⟨xs,n',hn,rfl,hlen,hxl,hf⟩:=DataW.trod_struct hu h
   obtain ⟨_,az,l1,s1,r1⟩:=Zg8 S n' cs (fun t cs x=>Zdo hΓ hS n' t cs x) fs.toList xs 0 _ ho.1 hlen.symm ho.2 fun i f hf'=>by
    have hi':fs[i]? = some f:=by simpa using hf'
    have:=hf i f hi'
    have hlt:i < xs.length:=by rw [hxl]; exact (Array.getElem?_eq_some_iff.1 hi').1
    rw [List.getElem?_eq_getElem hlt] at this
    refine ⟨_,List.getElem?_eq_getElem hlt,this,fun y hy=>hwt y ?_⟩
    simp only [DataW.weights,hu]
    exact DataW.weights_mem_each (j := i) (t := f.type) (d := (xs[i]'hlt).1) (by simp [hi']) (by simp [List.getElem?_eq_getElem hlt]) y hy
   have hst:=Zak.struct (P := P) t fs az (fun i=>((xs.map (·.1))[i]?).getD .nil) hu (by omega) fun i f hf'=>by
    obtain ⟨_,x,hx,hsx⟩:=s1 i f hf'
    simpa [hx] using hsx
   have hds:(List.range fs.size).map (fun i=>((xs.map (·.1))[i]?).getD .nil)=xs.map (·.1):=by
    refine List.ext_getElem? fun i=>?_
    rw [List.getElem?_map]
    by_cases hi:i < fs.size
    ·rw [List.getElem?_range hi,Option.map_some,List.getElem?_map,List.getElem?_eq_getElem (by omega)]; rfl
    ·rw [List.getElem?_eq_none (by simpa using hi),List.getElem?_eq_none (by simp; omega)]; rfl
   rw [hds] at hst
   exact ⟨az,hst,by omega,fun j a hj=>by simpa using r1 j a hj⟩
theorem argS_struct (hΓ:∀ b,Γ b=.imm){S:List TypeId}(hS:ZsD P S=true){r:Reach}{b0:Nat}{t:TypeId}{fs:Array Field}{v:Value}{d:DataW H}{ps:List MemPlace}(hc:S.contains t=true)(hu:P.underlying t=some (.struct fs))(hv:Value.okWide P w r b0 t v)
  (h:DataW.Trod enc P w base sp held t v d ps) (hw:∀ y ∈ d.weights P t,y≤reachBytes):∃ az,Rep Γ w (.agg az) v∧Zak P t az d:=by
 obtain ⟨cs,rfl,hsz⟩:=okWide_struct hu hv
 obtain ⟨fuel,hf⟩:=h
 obtain ⟨az,s1,l1,r1⟩:=Zdo hΓ hS fuel t _ _ hc hf hw
 have l2:az.length=cs.size:=by rw [l1]; rfl
 refine ⟨az,.agg az cs l2.symm (fun j c hc=>(r1 j c hc).2.1) (fun j k r hc=>absurd rfl ((r1 j _ hc).2.2.2 k r)) (fun j c hc=>?_),s1⟩
 have:=(r1 j c hc).1
 have e:(Value.agg cs).cells.toList.getD j Go.undef=cs.getD j Go.undef:=by
  show cs.toList.getD j Go.undef=_
  simp [List.getD_eq_getElem?_getD,Array.getD_eq_getD_getElem?]
 rwa [e] at this
end Go.Proofs.YtlmfmmclnboglaaGreat.Abs
end
