import Derived.Test.YtlmfmmclnboglaaGreatS3
set_option linter.all false
section
namespace Go.Proofs.YtlmfmmclnboglaaGreat.Abs
open Go
theorem EVo :
  (∀ {α β:Type} (x:α) (f:α→β),Option.map f (some x)=some (f x)) ∧
  (∀ {α:Type} (v:α) (k:α→KR),Zd (some v) k=k v) ∧
  (∀ {α β:Type} (a:α) (b:β) (k:α→β→KR),TF (some (a,b)) k=k a b) ∧
  (∀ {α β γ:Type} (a:α) (b:β) (c:γ) (k:α→β→γ→KR),QV (some (a,b,c)) k=k a b c) ∧
  (∀ (b:Bool) (x y:KR),ifK (.bool b) x y=if b=true then x else y) ∧
  (∀ (x:KR) (hp:List Z5) (ef:Eff) (k:AV→List Z5→Eff→KR),ZjF (some true) x hp ef k=QV x k) ∧
  (∀ (x:KR) (hp:List Z5) (ef:Eff) (k:AV→List Z5→Eff→KR),ZjF (some false) x hp ef k=k .undef hp ef) ∧
  (∀ (b:Bool),ZjE true (.bool b)=some b) ∧
  (∀ (b:Bool),ZjE false (.bool b)=some (!b)) ∧
  (∀ (a b:AV),ZsQ (.bool true) a b=some a) ∧
  (∀ (a b:AV),ZsQ (.bool false) a b=some b) ∧
  (∀ (v:AV),gif true v=v) ∧
  (∀ (b:Bool) (v:AV) (hp:List Z5) (ef:Eff) (k:AV→List Z5→Eff→KR),ZjF (some b) (some (v,hp,ef)) hp ef k=k (gif b v) hp ef) ∧
  (∀ (b:Bool) (v:AV),AV.ro (gif b v)=gif b (AV.ro v)) ∧
  (∀ (b c:Bool),ZsQ (.bool b) (gif b (.bool c)) (.bool false)=some (.bool (b && c))) ∧
  (∀ (b c:Bool),ZsQ (.bool b) (.bool true) (gif (!b) (.bool c))=some (.bool (b || c))) ∧
  (∀ (b c:Bool) (hp:List Z5) (ef:Eff) (k:AV→List Z5→Eff→KR),VT (.bool b) true (some (.bool c,hp,ef)) (some (.bool false)) hp ef k=k (.bool (b && c)) hp ef) ∧
  (∀ (b c:Bool) (hp:List Z5) (ef:Eff) (k:AV→List Z5→Eff→KR),VT (.bool b) false (some (.bool c,hp,ef)) (some (.bool true)) hp ef k=k (.bool (b || c)) hp ef) ∧
  (∀ (x:KR) (o:Option AV) (hp:List Z5) (ef:Eff) (k:AV→List Z5→Eff→KR),VT (.bool true) true x o hp ef k=QV x k) ∧
  (∀ (x:KR) (v:AV) (hp:List Z5) (ef:Eff) (k:AV→List Z5→Eff→KR),VT (.bool false) true x (some v) hp ef k=k v hp ef) ∧
  (∀ (x:KR) (v:AV) (hp:List Z5) (ef:Eff) (k:AV→List Z5→Eff→KR),VT (.bool true) false x (some v) hp ef k=k v hp ef) ∧
  (∀ (x:KR) (o:Option AV) (hp:List Z5) (ef:Eff) (k:AV→List Z5→Eff→KR),VT (.bool false) false x o hp ef k=QV x k) ∧
  (∀ {α:Type} (x:α) (k:α→KR),UK x k=k x) ∧
  (∀ (b:Bool),AV.ro (.bool b)=.bool b) ∧
  (∀ (k:IntKind) (n:Int),AV.ro (.int k n)=.int k n) ∧
  (∀ (s:List UInt8),AV.ro (.str s)=.str s) ∧
  (∀ (k:Nat) (r:List (List AV)),AV.ro (.lst k r)=.lst k r) ∧
  (∀ (k:Nat) (r:List (List AV)),AV.ro (.own k r)=.lst k r) ∧
  (∀ (c:List AV),AV.ro (.agg c)=.agg c) ∧
  (∀ (c:List AV),AV.ro (.tup c)=.tup c) ∧
  (∀ (g o:Nat),AV.ro (.ptr g o)=.ptr g o) ∧
  (∀ (g:Nat),AV.ro (.map g)=.map g) ∧
  (∀ (c:List AV),AV.ro (.ref c)=.ref c) ∧
  (∀ (f:FuncId) (a c:List AV),AV.ro (.fn f a c)=.fn f a c) ∧
  (AV.ro .undef=.undef) ∧
  (∀ (b:Bool),AV.nm (.bool b)=.bool b) ∧
  (∀ (k:IntKind) (n:Int),AV.nm (.int k n)=.int k n) ∧
  (∀ (s:List UInt8),AV.nm (.str s)=.str s) ∧
  (∀ (k:Nat) (r:List (List AV)),AV.nm (.lst k r)=.lst k r) ∧
  (∀ (k:Nat) (r:List (List AV)),AV.nm (.own k r)=.lst k r) ∧
  (∀ (c:List AV),AV.nm (.agg c)=.agg (c.map AV.ro)) ∧
  (∀ (g o:Nat),AV.nm (.ptr g o)=.ptr g o) ∧
  (∀ (g:Nat),AV.nm (.map g)=.map g) ∧
  (∀ (f:FuncId) (a c:List AV),AV.nm (.fn f a c)=.fn f a c) ∧
  (∀ (k:IntKind) (a b:Int),Zc .add .prim (.int k a) (.int k b)=some (.int k (k.wrap (a + b)))) ∧
  (∀ (k:IntKind) (a b:Int),Zc .sub .prim (.int k a) (.int k b)=some (.int k (k.wrap (a - b)))) ∧
  (∀ (k:IntKind) (a b:Int),Zc .mul .prim (.int k a) (.int k b)=some (.int k (k.wrap (a * b)))) ∧
  (∀ (k:IntKind) (a b:Int),Zc .eql .prim (.int k a) (.int k b)=some (.bool (decide (a=b)))) ∧
  (∀ (k:IntKind) (a b:Int),Zc .neq .prim (.int k a) (.int k b)=some (.bool (decide (a≠b)))) ∧
  (∀ (k:IntKind) (a b:Int),Zc .lss .prim (.int k a) (.int k b)=some (.bool (decide (a < b)))) ∧
  (∀ (k:IntKind) (a b:Int),Zc .leq .prim (.int k a) (.int k b)=some (.bool (decide (a≤b)))) ∧
  (∀ (k:IntKind) (a b:Int),Zc .gtr .prim (.int k a) (.int k b)=some (.bool (decide (b < a)))) ∧
  (∀ (k:IntKind) (a b:Int),Zc .geq .prim (.int k a) (.int k b)=some (.bool (decide (b≤a)))) ∧
  (∀ (a b:List UInt8),Zc .eql .prim (.str a) (.str b)=some (.bool (decide (a=b)))) ∧
  (∀ (a b:List UInt8),Zc .neq .prim (.str a) (.str b)=some (.bool (decide (a≠b)))) ∧
  (∀ (ks:List CK) (k:IntKind) (x y:Int) (l m:List AV),U5 (.int :: ks) (.int k x :: l) (.int k y :: m)=if x=y then U5 ks l m else some false) ∧
  (∀ (ks:List CK) (x y:List UInt8) (l m:List AV),U5 (.str :: ks) (.str x :: l) (.str y :: m)=if x=y then U5 ks l m else some false) ∧
  (∀ (ks:List CK) (x y:Bool) (l m:List AV),U5 (.bool :: ks) (.bool x :: l) (.bool y :: m)=if x=y then U5 ks l m else some false) ∧
  (U5 [] [] []=some true) ∧
  (∀ (p:Prop) [Decidable p] (b:Bool),(if p then some b else some false)=some (decide p && b)) ∧
  (∀ (ks:List CK) (a b:List AV),Zc .eql (.struct ks) (.agg a) (.agg b)=(U5 ks a b).map .bool) ∧
  (∀ (ks:List CK) (a b:List AV),Zc .neq (.struct ks) (.agg a) (.agg b)=(U5 ks a b).map fun b=>.bool (!b)) ∧
  (∀ (a b:Bool),Zc .eql .bool (.bool a) (.bool b)=some (.bool (a == b))) ∧
  (∀ (a b:Bool),Zc .neq .bool (.bool a) (.bool b)=some (.bool (!(a == b)))) ∧
  (∀ (b:Bool),Jy .not (.bool b)=some (.bool (!b))) ∧
  (∀ (k:IntKind) (n:Int),Jy .neg (.int k n)=some (.int k (k.wrap (0 - n)))) ∧
  (∀ (hp:List Z5) (s:List UInt8),ZO hp .str (.str s)=some (.int .i64 s.length)) ∧
  (∀ (hp:List Z5) (k:Nat) (r:List (List AV)),ZO hp .slice (.lst k r)=some (.int .i64 r.length)) ∧
  (∀ (hp:List Z5) (k k':IntKind) (n:Int),Zau hp (.int k) (.int k' n)=some (.int k (k.wrap n))) ∧
  (∀ (l:List AV) (i:Nat),Dt (.tup l) i=(l[i]?).map AV.ro) ∧
  (∀ (bs:Nat) (ef:Eff),Zf bs ef none=ef) ∧
  (∀ (hp0:List Z5) (b:Bool) (hp:List Z5),Vm false hp0 (.bool b) hp none=(.bool b,hp0,none)) ∧
  (∀ (hp0:List Z5) (k:IntKind) (n:Int) (hp:List Z5),Vm false hp0 (.int k n) hp none=(.int k n,hp0,none)) ∧
  (∀ (hp0:List Z5) (s:List UInt8) (hp:List Z5),Vm false hp0 (.str s) hp none=(.str s,hp0,none)) ∧
  (∀ (hp0:List Z5) (k:Nat) (r:List (List AV)) (hp:List Z5),Vm false hp0 (.lst k r) hp none=(.lst k r,hp0,none)) ∧
  (∀ (hp0:List Z5) (k:Nat) (r:List (List AV)) (hp:List Z5),Vm false hp0 (.own k r) hp none=(.own k r,hp0,none)) ∧
  (∀ (bs:Nat) (hp:List Z5) (k:IntKind) (n:Int),ZhZ bs hp (.int k n)=some (.int k n)) ∧
  (∀ (bs:Nat) (hp:List Z5) (s:List UInt8),ZhZ bs hp (.str s)=some (.str s)) ∧
  (∀ (bs:Nat) (hp:List Z5) (b:Bool),ZhZ bs hp (.bool b)=some (.bool b)) ∧
  (∀ (bs:Nat) (hp:List Z5) (k:Nat) (r:List (List AV)),ZhZ bs hp (.lst k r)=some (.lst k r)) ∧
  (∀ (o:Nat) (c:List AV),Ir o (.ref c)=some (.ref (c.drop o))) ∧
  (∀ (o g p:Nat),Ir o (.ptr g p)=some (.ptr g (p + o))) ∧
  (∀ (hp:List Z5) (c:AV) (l:List AV),Qn hp (.ref (c :: l))=some c.ro) :=
 ⟨fun x f=>rfl,@Z4j,@Z4h,@Z4i,@Z6e,@Zyp,@Zyo,@ZvY,@ZvX,@Z1x,@Z1w,@Z6d,@Zq4,@Z4t,@Zy8,@Zy9,@Z0M,@Z3L,@Z3N,@Z3K,@Z3M,@Z3J,@Z3T,@Z1T,@Z4u,@Z40,@Z4v,@Z4x,@Z4s,@Z41,@Z4y,@Z4w,@Z4z,@Z6I,Zzb,@Z1g,@Z3W,@Z4b,@Z3X,@Z3Z,@Za9,@Z4a,@Z3Y,@Z6v,@Z5M,@Z5T,@Z5P,@Z7F,@Z7K,@Z7J,@Z7I,@Z7H,@Z7G,@Z7N,@Z7O,@Z6C,@Z6E,@Z4l,Z6D,@Z7M,@Z5O,@Z5R,@Z5N,@Z5Q,@Z6W,@Z6V,@Z6l,@Z6k,@Z5X,@Z6X,@Ztf,@Zyh,@Z0E,@Z0H,@Z0F,@Z0G,@Zyl,@Zyn,@ZvV,@Zym,@Z0A,@Z09,@Z0V⟩
theorem EV:type_of% (And.intro Zxp (And.intro Z0T EVo)):=And.intro Zxp (And.intro Z0T EVo)
theorem BL:(!true)=false∧(!false)=true∧(∀ b:Bool,(b && true)=b)∧(∀ b:Bool,(true && b)=b)∧(∀ b:Bool,(b && false)=false)∧(∀ b:Bool,(false && b)=false)∧(∀ b:Bool,(b || true)=true)∧(∀ b:Bool,(true || b)=true)∧(∀ b:Bool,(b || false)=b)∧(∀ b:Bool,(false || b)=b)∧(∀ b:Bool,(!!b)=b):=by
 refine ⟨rfl,rfl,?_,?_,?_,?_,?_,?_,?_,?_,?_⟩ <;> intro b <;> cases b <;> rfl
theorem ifI (c:Prop)[Decidable c](k:IntKind)(a b:Int)(hp:List Z5)(e:Eff):(if c then some (AV.int k a,hp,e) else some (AV.int k b,hp,e))=some (AV.int k (if c then a else b),hp,e):=by split <;> rfl
theorem ifB (c:Prop)[Decidable c](a b:Bool)(hp:List Z5)(e:Eff):(if c then some (AV.bool a,hp,e) else some (AV.bool b,hp,e))=some (AV.bool (if c then a else b),hp,e):=by split <;> rfl
theorem ifS (c:Prop)[Decidable c](a b:List UInt8)(hp:List Z5)(e:Eff):(if c then some (AV.str a,hp,e) else some (AV.str b,hp,e))=some (AV.str (if c then a else b),hp,e):=by split <;> rfl
theorem IFJ:(∀ (c:Prop) [Decidable c] (k:IntKind) (a b:Int) (hp:List Z5) (e:Eff),(if c then some (AV.int k a,hp,e) else some (AV.int k b,hp,e))=some (AV.int k (if c then a else b),hp,e)) ∧
  (∀ (c:Prop) [Decidable c] (a b:Bool) (hp:List Z5) (e:Eff),(if c then some (AV.bool a,hp,e) else some (AV.bool b,hp,e))=some (AV.bool (if c then a else b),hp,e)) ∧
  (∀ (c:Prop) [Decidable c] (a b:List UInt8) (hp:List Z5) (e:Eff),(if c then some (AV.str a,hp,e) else some (AV.str b,hp,e))=some (AV.str (if c then a else b),hp,e)) ∧
  (∀ {α:Type} (c:Prop) [Decidable c] (a b d:α),(if c then (if c then a else b) else d)=if c then a else d)∧(∀ {α:Type} (c:Prop) [Decidable c] (a b d:α),(if c then a else (if c then b else d))=if c then a else d)∧(∀ {α:Type} (a b:α),(if true=true then a else b)=a)∧(∀ {α:Type} (a b:α),(if false=true then a else b)=b)∧(∀ {α:Type} (a b:α),(if True then a else b)=a)∧(∀ {α:Type} (a b:α),(if False then a else b)=b)∧(∀ (i:Decidable True),@decide True i=true)∧(∀ (i:Decidable False),@decide False i=false):=⟨ifI,ifB,ifS,fun c _ a b d=>by split <;> rfl,fun c _ a b d=>by split <;> rfl,fun _ _=>rfl,fun _ _=>rfl,fun _ _=>rfl,fun _ _=>rfl,fun i=>by cases i <;> simp,fun i=>by cases i <;> simp⟩
section
variable {hp:List Z5}{g:Nat}{cs:List AV}{t:TypeId}
theorem Du (h:hp[g]? = some (.cells cs t))(x:Z5):(hp ++ [x])[g]? = some (.cells cs t):=by rw [List.getElem?_append_left (List.getElem?_eq_some_iff.1 h).1]; exact h
theorem Zt3 {es:List (AV×AV)}(h:hp[g]? = some (.map es))(x:Z5):(hp ++ [x])[g]? = some (.map es):=by rw [List.getElem?_append_left (List.getElem?_eq_some_iff.1 h).1]; exact h
theorem Zf8 (h:hp[g]? = some (.cells cs t))(n:Nat)(h1:cs.length=n)(h2:cs.map AV.ro=cs):Zt hp n (.ptr g 0)=some (.agg cs):=by
 rw [Zib h n 0 (by omega),List.drop_zero,List.take_of_length_le (by omega),h2]
theorem LG (h:hp[g]? = some (.cells cs t)) :
  (∀ o,Qn hp (.ptr g o)=(cs[o]?).map AV.ro)∧(∀ x o,Qn (hp ++ [x]) (.ptr g o)=(cs[o]?).map AV.ro) ∧
  (∀ x y o,Qn (hp ++ [x] ++ [y]) (.ptr g o)=(cs[o]?).map AV.ro)∧(∀ x y z o,Qn (hp ++ [x] ++ [y] ++ [z]) (.ptr g o)=(cs[o]?).map AV.ro) ∧
  (∀ n,cs.length=n→cs.map AV.ro=cs→Zt hp n (.ptr g 0)=some (.agg cs))∧(∀ x n,cs.length=n→cs.map AV.ro=cs→Zt (hp ++ [x]) n (.ptr g 0)=some (.agg cs)) ∧
  (∀ x y n,cs.length=n→cs.map AV.ro=cs→Zt (hp ++ [x] ++ [y]) n (.ptr g 0)=some (.agg cs))∧(∀ x y z n,cs.length=n→cs.map AV.ro=cs→Zt (hp ++ [x] ++ [y] ++ [z]) n (.ptr g 0)=some (.agg cs)) :=
 ⟨fun o=>IB h o,fun x o=>IB (Du h x) o,fun x y o=>IB (Du (Du h x) y) o,fun x y z o=>IB (Du (Du (Du h x) y) z) o,
  fun n=>Zf8 h n,fun x n=>Zf8 (Du h x) n,fun x y n=>Zf8 (Du (Du h x) y) n,fun x y z n=>Zf8 (Du (Du (Du h x) y) z) n⟩
end
theorem st_all (bs n:Nat)(h:List Z5)(cs c:List AV)(t:TypeId)(ef:Eff)(h1:c.length=n)(h2:cs.length=n)(h4:bs≤h.length):stV bs n (.ptr h.length 0) (.agg c) (h ++ [.cells cs t]) ef=some (h ++ [.cells c t],ef):=by
 rw [Z38 bs n h cs t 0 (.agg c) ef h1 (by omega) rfl h4]
 have:splice cs 0 c=c:=by simp [splice,h1,← h2]
 rw [Gx,this]
theorem ZrG (bs:Nat)(h:List Z5)(c v:AV)(t:TypeId)(ef:Eff)(h1:v.one=true)(h4:bs≤h.length):Zph bs (.ptr h.length 0) v (h ++ [.cells [c] t]) ef=some (h ++ [.cells [v] t],ef):=by
 have e:=Wj h (.cells [c] t)
 simp only [Zph,e,Zpl]
 have:Zd1 bs ef h.length 0=ef:=by simp [Zd1]; omega
 simp [h1,this]
theorem Z49 (n:Nat)(c:List AV)(h:c.length=n):MN n (.agg c)=some c:=Zea n c h
theorem Z5U:(∀ s,MN 1 (.str s)=some [.str s])∧(∀ k x,MN 1 (.int k x)=some [.int k x])∧(∀ b,MN 1 (.bool b)=some [.bool b])∧(∀ k r,MN 1 (.lst k r)=some [.lst k r])∧(∀ m,MN 1 (.map m)=some [.map m])∧(∀ g o,MN 1 (.ptr g o)=some [.ptr g o])∧(∀ f a c,MN 1 (.fn f a c)=some [.fn f a c]):=⟨fun _=>rfl,fun _ _=>rfl,fun _=>rfl,fun _ _=>rfl,fun _=>rfl,fun _ _=>rfl,fun _ _ _=>rfl⟩
theorem LD :
  (∀ (h:List Z5) (cs:List AV) (t:TypeId) (o:Nat),Qn (h ++ [.cells cs t]) (.ptr h.length o)=(cs[o]?).map AV.ro) ∧
  (∀ (h:List Z5) (cs:List AV) (t:TypeId) (o:Nat) (x:Z5),Qn (h ++ [.cells cs t] ++ [x]) (.ptr h.length o)=(cs[o]?).map AV.ro) ∧
  (∀ (h:List Z5) (cs:List AV) (t:TypeId) (o:Nat) (x y:Z5),Qn (h ++ [.cells cs t] ++ [x] ++ [y]) (.ptr h.length o)=(cs[o]?).map AV.ro) ∧
  (∀ (h:List Z5) (cs:List AV) (t:TypeId) (o:Nat) (x y z:Z5),Qn (h ++ [.cells cs t] ++ [x] ++ [y] ++ [z]) (.ptr h.length o)=(cs[o]?).map AV.ro) ∧
  (∀ (h:List Z5) (cs:List AV) (t:TypeId) (n:Nat),cs.length=n→cs.map AV.ro=cs→Zt (h ++ [.cells cs t]) n (.ptr h.length 0)=some (.agg cs)) ∧
  (∀ (h:List Z5) (cs:List AV) (t:TypeId) (n:Nat) (x:Z5),cs.length=n→cs.map AV.ro=cs→Zt (h ++ [.cells cs t] ++ [x]) n (.ptr h.length 0)=some (.agg cs)) ∧
  (∀ (h:List Z5) (cs:List AV) (t:TypeId) (n:Nat) (x y:Z5),cs.length=n→cs.map AV.ro=cs→Zt (h ++ [.cells cs t] ++ [x] ++ [y]) n (.ptr h.length 0)=some (.agg cs)) ∧
  (∀ (h:List Z5) (cs:List AV) (t:TypeId) (n:Nat) (x y z:Z5),cs.length=n→cs.map AV.ro=cs→Zt (h ++ [.cells cs t] ++ [x] ++ [y] ++ [z]) n (.ptr h.length 0)=some (.agg cs)) ∧
  (∀ (g o:Nat),Ir o (.ptr g 0)=some (.ptr g o))∧(∀ (n:Nat) (c:List AV),c.length=n→MN n (.agg c)=some c)∧(∀ (α β:Type) (f:α→β) (l:List α),(l.map f).length=l.length) ∧
  (∀ (hp:List Z5) (n:Nat) (c:List AV),c.length=n→c.map AV.ro=c→Zt hp n (.ref c)=some (.agg c))∧(∀ c:List AV,Ir 0 (.ref c)=some (.ref c))∧(∀ n:Nat,0 + n=n)∧(∀ (hp:List Z5) (c:List AV),Qn hp (.ref c)=(c[0]?).map AV.ro)∧(∀ (α:Type) (l:List α) (i j:Nat),(l.drop i)[j]? = l[i + j]?)∧(∀ n:Nat,n + 0=n) :=
 ⟨fun h cs t o=>Zuz h cs t o,fun h cs t o x=>IB (Du (Wj h _) x) o,fun h cs t o x y=>IB (Du (Du (Wj h _) x) y) o,fun h cs t o x y z=>IB (Du (Du (Du (Wj h _) x) y) z) o,
  fun h cs t n=>Zf8 (Wj h _) n,fun h cs t n x=>Zf8 (Du (Wj h _) x) n,fun h cs t n x y=>Zf8 (Du (Du (Wj h _) x) y) n,fun h cs t n x y z=>Zf8 (Du (Du (Du (Wj h _) x) y) z) n,
  fun g o=>by rw [Z09,Nat.zero_add],Z49,fun _ _ f l=>List.length_map f,fun hp n c h1 h2=>by rw [Zq8 hp n c (by omega),List.take_of_length_le (by omega),h2],fun c=>by rw [Z0A,List.drop_zero],Nat.zero_add,fun hp c=>by cases c <;> rfl,fun _ l i j=>List.getElem?_drop,Nat.add_zero⟩
def Z7e (x:KR)(hp:List Z5):KR :=
 match x with
 | some (v,_,none)=>if v.flat then some (v,hp,none) else none
 | _=>none
theorem QC :
  (∀ (K:FuncId→List AV→List Z5→KR) (f:FuncId) (a:List AV) (hp:List Z5),Ub K f a hp=Z7e (K f a hp) hp) ∧
  (∀ (b:Bool) (h hp:List Z5),Z7e (some (.bool b,h,none)) hp=some (.bool b,hp,none)) ∧
  (∀ (k:IntKind) (x:Int) (h hp:List Z5),Z7e (some (.int k x,h,none)) hp=some (.int k x,hp,none)) ∧
  (∀ (s:List UInt8) (h hp:List Z5),Z7e (some (.str s,h,none)) hp=some (.str s,hp,none)) :=
 ⟨fun _ _ _ _=>rfl,fun _ _ _=>rfl,fun _ _ _ _=>rfl,fun _ _ _=>rfl⟩
theorem lp {α:Type}(row:α→List AV){l q r:List α}{x:α}(h:l=q ++ x :: r)(hb:l.length≤4611686018427387) :
  decide ((q.length:Int) < (l.length:Int))=true∧(l.map row)[q.length]? = some (row x)∧IntKind.i64.wrap ((q.length:Int) + 1)=((q ++ [x]).length:Int)∧l=(q ++ [x]) ++ r∧x ∈ l:=by
 subst h
 refine ⟨?_,?_,?_,by simp,by simp⟩
 ·simp only [List.length_append,List.length_cons,decide_eq_true_eq]; omega
 ·simp
 ·have:q.length < 4611686018427387904:=by simp at hb; omega
  rw [SE _ this]; simp
theorem lp0 {α:Type}{l q:List α}(h:l=q ++ []):decide ((q.length:Int) < (l.length:Int))=false:=by
 subst h; simp
def ZeP {α:Type}(f:α→Int):List α→Int
 | []=>0
 | x :: r=>if decide (f x≠0)=true then f x else ZeP f r
def all2 {α:Type}(f:α→α→Bool):List α→List α→Bool
 | x :: r,y :: s=>if (!(f x y))=true then false else all2 f r s
 | _,_=>true
def Z5C {α:Type}(f:α→Int):List α→Int→Int
 | [],n=>n
 | x :: r,n=>Z5C f r (if f x > n then f x else n)
theorem fuel {C:Cfg}{N d:Nat}(h:d + 1≤N):∃ m,N=m + 1∧d≤m:=⟨N - 1,by omega,by omega⟩
theorem LIT :
  (∀ (e:TypeId) (k:IntKind) (x:Int) (hp:List Z5),ZoA e 1 [.int k x] hp=some (.own 1 [[.int k x]],hp))∧(∀ (e:TypeId) (k l:IntKind) (x y:Int) (hp:List Z5),ZoA e 1 [.int k x,.int l y] hp=some (.own 1 [[.int k x],[.int l y]],hp)) ∧
  (∀ (e:TypeId) (s:List UInt8) (hp:List Z5),ZoA e 1 [.str s] hp=some (.own 1 [[.str s]],hp)) :=
 ⟨fun _ _ _ _=>rfl,fun _ _ _ _ _ _=>rfl,fun _ _ _=>rfl⟩
theorem EX:(∀ (a:AV) (l:List AV),Dt (.tup (a :: l)) 0=some a.ro)∧(∀ (a b:AV) (l:List AV),Dt (.tup (a :: b :: l)) 1=some b.ro)∧(∀ (a b c:AV) (l:List AV),Dt (.tup (a :: b :: c :: l)) 2=some c.ro)∧(∀ (a b c d:AV) (l:List AV),Dt (.tup (a :: b :: c :: d :: l)) 3=some d.ro)∧(∀ (a b c d e:AV) (l:List AV),Dt (.tup (a :: b :: c :: d :: e :: l)) 4=some e.ro) :=
 ⟨fun _ _=>rfl,fun _ _ _=>rfl,fun _ _ _ _=>rfl,fun _ _ _ _ _=>rfl,fun _ _ _ _ _ _=>rfl⟩
def sumW {α:Type}(f:α→Int):List α→Int→Int
 | [],n=>n
 | x :: r,n=>sumW f r (IntKind.i64.wrap (n + f x))
theorem max2 (a b:Int):Z3V [.int .i64 a,.int .i64 b]=some (.int .i64 (if b > a then b else a)):=rfl
theorem min2 (a b:Int):Z6t [.int .i64 a,.int .i64 b]=some (.int .i64 (if b < a then b else a)):=rfl
theorem Z7p (cs:List AV):fill cs []=some cs:=rfl
theorem PN {α:Type}(a b c d:α)(l:List α):(a :: l)[0]? = some a∧(a :: b :: l)[1]? = some b∧(a :: b :: c :: l)[2]? = some c∧(a :: b :: c :: d :: l)[3]? = some d:=⟨rfl,rfl,rfl,rfl⟩
theorem GI:(∀ (α:Type) (a:α) (l:List α),(a :: l)[0]? = some a)∧(∀ (α:Type) (a b:α) (l:List α),(a :: b :: l)[1]? = some b)∧(∀ (α:Type) (a b c:α) (l:List α),(a :: b :: c :: l)[2]? = some c)∧(∀ (α:Type) (a b c d:α) (l:List α),(a :: b :: c :: d :: l)[3]? = some d):=⟨fun _ _ _=>rfl,fun _ _ _ _=>rfl,fun _ _ _ _ _=>rfl,fun _ _ _ _ _ _=>rfl⟩
def Z4O (hp0:List Z5)(x y:Option AV)(d:AV×List Z5×Eff):AV×List Z5×Eff :=
 match x,y with
 | some a,some b=>(.tup [a,b],hp0,none)
 | _,_=>d
def Z4P (hp0:List Z5)(x y z:Option AV)(d:AV×List Z5×Eff):AV×List Z5×Eff :=
 match x,y,z with
 | some a,some b,some c=>(.tup [a,b,c],hp0,none)
 | _,_,_=>d
theorem TUP:(∀ (hp0:List Z5) (a b:AV) (hp:List Z5),Vm false hp0 (.tup [a,b]) hp none=Z4O hp0 (ZhZ hp0.length hp a) (ZhZ hp0.length hp b) (.tup [a,b],hp,none)) ∧
  (∀ (hp0:List Z5) (a b c:AV) (hp:List Z5),Vm false hp0 (.tup [a,b,c]) hp none=Z4P hp0 (ZhZ hp0.length hp a) (ZhZ hp0.length hp b) (ZhZ hp0.length hp c) (.tup [a,b,c],hp,none)) ∧
  (∀ (hp0:List Z5) (a b:AV) (d:AV×List Z5×Eff),Z4O hp0 (some a) (some b) d=(.tup [a,b],hp0,none)) ∧
  (∀ (hp0:List Z5) (a b c:AV) (d:AV×List Z5×Eff),Z4P hp0 (some a) (some b) (some c) d=(.tup [a,b,c],hp0,none)):=by
 refine ⟨fun hp0 a b hp=>?_,fun hp0 a b c hp=>?_,fun _ _ _ _=>rfl,fun _ _ _ _ _=>rfl⟩
 ·rw [Zxq]
  cases h1:ZhZ hp0.length hp a <;> cases h2:ZhZ hp0.length hp b <;> simp [Z4O,h1,h2]
 ·rw [Zxq]
  cases h1:ZhZ hp0.length hp a <;> cases h2:ZhZ hp0.length hp b <;> cases h3:ZhZ hp0.length hp c <;> simp [Z4P,h1,h2,h3]
theorem STA {bs:Nat}{h:List Z5}(hh:bs≤h.length):∀ (n:Nat) (cs c:List AV) (t:TypeId) (ef:Eff),c.length=n→cs.length=n→stV bs n (.ptr h.length 0) (.agg c) (h ++ [.cells cs t]) ef=some (h ++ [.cells c t],ef) :=
 fun n cs c t ef h1 h2=>st_all bs n h cs c t ef h1 h2 hh
theorem LDP :
  (∀ (h:List Z5) (cs:List AV) (t:TypeId) (n o:Nat),(o == 0)=false→o + n≤cs.length→Zt (h ++ [.cells cs t]) n (.ptr h.length o)=some (.agg (((cs.drop o).take n).map AV.ro))) ∧
  (∀ (h:List Z5) (cs:List AV) (t:TypeId) (n o:Nat) (x:Z5),(o == 0)=false→o + n≤cs.length→Zt (h ++ [.cells cs t] ++ [x]) n (.ptr h.length o)=some (.agg (((cs.drop o).take n).map AV.ro))) ∧
  (∀ (h:List Z5) (cs:List AV) (t:TypeId) (n o:Nat) (x y:Z5),(o == 0)=false→o + n≤cs.length→Zt (h ++ [.cells cs t] ++ [x] ++ [y]) n (.ptr h.length o)=some (.agg (((cs.drop o).take n).map AV.ro))) :=
 ⟨fun h cs t n o _=>Zib (Wj h _) n _,fun h cs t n o x _=>Zib (Du (Wj h _) x) n _,fun h cs t n o x y _=>Zib (Du (Du (Wj h _) x) y) n _⟩
theorem LGP {hp:List Z5}{g:Nat}{cs:List AV}{t:TypeId}(hg:hp[g]? = some (.cells cs t)) :
  (∀ n o,(o == 0)=false→o + n≤cs.length→Zt hp n (.ptr g o)=some (.agg (((cs.drop o).take n).map AV.ro)))∧(∀ x n o,(o == 0)=false→o + n≤cs.length→Zt (hp ++ [x]) n (.ptr g o)=some (.agg (((cs.drop o).take n).map AV.ro)))∧(∀ x y n o,(o == 0)=false→o + n≤cs.length→Zt (hp ++ [x] ++ [y]) n (.ptr g o)=some (.agg (((cs.drop o).take n).map AV.ro))) :=
 ⟨fun n o _=>Zib hg n o,fun x n o _=>Zib (Du hg x) n o,fun x y n o _=>Zib (Du (Du hg x) y) n o⟩
theorem CO:type_of% (And.intro @EV (And.intro @LD (And.intro @BL (And.intro @IFJ (And.intro @GI @QC))))):=And.intro @EV (And.intro @LD (And.intro @BL (And.intro @IFJ (And.intro @GI @QC))))
theorem COe:type_of% (And.intro CO (And.intro @List.length_cons.{0} @List.length_nil.{0})):=And.intro CO (And.intro @List.length_cons.{0} @List.length_nil.{0})
end Go.Proofs.YtlmfmmclnboglaaGreat.Abs
end
section
namespace Go.Proofs.YtlmfmmclnboglaaGreat
open Go Go.RowKit Go.Proofs.YtlmfmmclnboglaaGreat.Abs
open Nat (reduceAdd reduceLeDiff)
set_option maxRecDepth 100000
set_option maxHeartbeats 0
def ints (l:List Int):List (List AV):=l.map fun x=>[.int .i64 x]
def strs (l:List (List UInt8)):List (List AV):=l.map fun x=>[.str x]
structure Uy where
 Name:List UInt8
 Ty:Int
 N:Int
 deriving DecidableEq
def X7 (x:Uy):List AV:=[.str x.Name,.int .i64 x.Ty,.int .i64 x.N]
theorem Zny (x:Uy):(X7 x).length=3:=by rfl
theorem Zmh (x:Uy):(X7 x).map AV.ro=X7 x:=by rfl
theorem ZwB (x:Uy):AV.nm (.agg (X7 x))=.agg (X7 x):=by rw [Za9,Zmh]
theorem ZyW (x:Uy):(X7 x)[0]? = some (.str x.Name):=by rfl
theorem ZyX (x:Uy):(X7 x)[1]? = some (.int .i64 x.Ty):=by rfl
theorem ZyY (x:Uy):(X7 x)[2]? = some (.int .i64 x.N):=by rfl
structure ZcD (x:Uy):Prop where
 Name:x.Name.length≤140737488351232
 Ty:-9223372036854775808≤x.Ty∧x.Ty≤9223372036854775807
 N:-9223372036854775808≤x.N∧x.N≤9223372036854775807
structure Kq where
 At_:Int
 Units:Int
 deriving DecidableEq
def Vg (x:Kq):List AV:=[.int .i64 x.At_,.int .i64 x.Units]
theorem Zrk (x:Kq):(Vg x).length=2:=by rfl
theorem Znx (x:Kq):(Vg x).map AV.ro=Vg x:=by rfl
theorem ZtF (x:Kq):AV.nm (.agg (Vg x))=.agg (Vg x):=by rw [Za9,Znx]
theorem Zwy (x:Kq):(Vg x)[0]? = some (.int .i64 x.At_):=by rfl
theorem Zwz (x:Kq):(Vg x)[1]? = some (.int .i64 x.Units):=by rfl
structure ZkP (x:Kq):Prop where
 At_:-9223372036854775808≤x.At_∧x.At_≤9223372036854775807
 Units:-9223372036854775808≤x.Units∧x.Units≤9223372036854775807
structure AO where
 Op:Int
 A:Int
 B:Int
 N:Int
 Values:List Int
 Weights:List Int
 deriving DecidableEq
def H8 (x:AO):List AV:=[.int .i64 x.Op,.int .i64 x.A,.int .i64 x.B,.int .i64 x.N,.lst 1 (ints x.Values),.lst 1 (ints x.Weights)]
theorem Zw1 (x:AO):(H8 x).length=6:=by rfl
theorem PQ (x:AO):(H8 x).map AV.ro=H8 x:=by rfl
theorem Z3n (x:AO):AV.nm (.agg (H8 x))=.agg (H8 x):=by rw [Za9,PQ]
theorem Z10 (x:AO):(H8 x)[0]? = some (.int .i64 x.Op):=by rfl
theorem Z11 (x:AO):(H8 x)[1]? = some (.int .i64 x.A):=by rfl
theorem Z12 (x:AO):(H8 x)[2]? = some (.int .i64 x.B):=by rfl
theorem Z13 (x:AO):(H8 x)[3]? = some (.int .i64 x.N):=by rfl
theorem Z14 (x:AO):(H8 x)[4]? = some (.lst 1 (ints x.Values)):=by rfl
theorem Z15 (x:AO):(H8 x)[5]? = some (.lst 1 (ints x.Weights)):=by rfl
structure Ar (x:AO):Prop where
 Op:-9223372036854775808≤x.Op∧x.Op≤9223372036854775807
 A:-9223372036854775808≤x.A∧x.A≤9223372036854775807
 B:-9223372036854775808≤x.B∧x.B≤9223372036854775807
 N:-9223372036854775808≤x.N∧x.N≤9223372036854775807
 Values:x.Values.length * 8≤140737488351232∧∀ y ∈ x.Values,-9223372036854775808≤y∧y≤9223372036854775807
 Weights:x.Weights.length * 8≤140737488351232∧∀ y ∈ x.Weights,-9223372036854775808≤y∧y≤9223372036854775807
structure Zd5 where
 Stream:List UInt8
 Up:AO
 Down:AO
 deriving DecidableEq
def SB (x:Zd5):List AV:=[.str x.Stream] ++ H8 x.Up ++ H8 x.Down
theorem ZzP (x:Zd5):(SB x).length=13:=by rfl
theorem Zw4 (x:Zd5):(SB x).map AV.ro=SB x:=by rfl
theorem Z1B (x:Zd5):AV.nm (.agg (SB x))=.agg (SB x):=by rw [Za9,Zw4]
theorem Z3o (x:Zd5):(SB x)[0]? = some (.str x.Stream):=by rfl
theorem Zw3 (x:Zd5):((SB x).drop 1).take 6=H8 x.Up:=by rfl
theorem ZsT (x:Zd5):((SB x).drop 7).take 6=H8 x.Down:=by rfl
structure ZwV (x:Zd5):Prop where
 Stream:x.Stream.length≤140737488351232
 Up:Ar x.Up
 Down:Ar x.Down
structure Zy where
 Name:List UInt8
 Units:Int
 Shift:List Kq
 Cycle:Int
 Fault:Zd5
 deriving DecidableEq
def Zh (x:Zy):List AV:=[.str x.Name,.int .i64 x.Units,.lst 2 (x.Shift.map Vg),.int .i64 x.Cycle] ++ SB x.Fault
theorem X4 (x:Zy):(Zh x).length=17:=by rfl
theorem FV (x:Zy):(Zh x).map AV.ro=Zh x:=by rfl
theorem Zgo (x:Zy):AV.nm (.agg (Zh x))=.agg (Zh x):=by rw [Za9,FV]
theorem Zil (x:Zy):(Zh x)[0]? = some (.str x.Name):=by rfl
theorem Zim (x:Zy):(Zh x)[1]? = some (.int .i64 x.Units):=by rfl
theorem Zin (x:Zy):(Zh x)[2]? = some (.lst 2 (x.Shift.map Vg)):=by rfl
theorem Zio (x:Zy):(Zh x)[3]? = some (.int .i64 x.Cycle):=by rfl
theorem Zip (x:Zy):(Zh x)[4]? = some (.str x.Fault.Stream):=by rfl
theorem Zrn (x:Zy):(Zh x)[5]? = some (.int .i64 x.Fault.Up.Op):=by rfl
theorem Zro (x:Zy):(Zh x)[6]? = some (.int .i64 x.Fault.Up.A):=by rfl
theorem Zrp (x:Zy):(Zh x)[7]? = some (.int .i64 x.Fault.Up.B):=by rfl
theorem Zrq (x:Zy):(Zh x)[8]? = some (.int .i64 x.Fault.Up.N):=by rfl
theorem Zrr (x:Zy):(Zh x)[9]? = some (.lst 1 (ints x.Fault.Up.Values)):=by rfl
theorem ZoZ (x:Zy):(Zh x)[10]? = some (.lst 1 (ints x.Fault.Up.Weights)):=by rfl
theorem Zpa (x:Zy):(Zh x)[11]? = some (.int .i64 x.Fault.Down.Op):=by rfl
theorem Zpb (x:Zy):(Zh x)[12]? = some (.int .i64 x.Fault.Down.A):=by rfl
theorem Zpc (x:Zy):(Zh x)[13]? = some (.int .i64 x.Fault.Down.B):=by rfl
theorem Zpd (x:Zy):(Zh x)[14]? = some (.int .i64 x.Fault.Down.N):=by rfl
theorem Zpe (x:Zy):(Zh x)[15]? = some (.lst 1 (ints x.Fault.Down.Values)):=by rfl
theorem Zpf (x:Zy):(Zh x)[16]? = some (.lst 1 (ints x.Fault.Down.Weights)):=by rfl
theorem ZaT (x:Zy):((Zh x).drop 4).take 13=SB x.Fault:=by rfl
structure VF (x:Zy):Prop where
 Name:x.Name.length≤140737488351232
 Units:-9223372036854775808≤x.Units∧x.Units≤9223372036854775807
 Shift:x.Shift.length * 16≤140737488351232∧∀ y ∈ x.Shift,ZkP y
 Cycle:-9223372036854775808≤x.Cycle∧x.Cycle≤9223372036854775807
 Fault:ZwV x.Fault
structure Qr where
 Name:List UInt8
 Room:Int
 Policy:Int
 deriving DecidableEq
def Yt (x:Qr):List AV:=[.str x.Name,.int .i64 x.Room,.int .i64 x.Policy]
theorem Zbz (x:Qr):(Yt x).length=3:=by rfl
theorem ZaB (x:Qr):(Yt x).map AV.ro=Yt x:=by rfl
theorem Zmg (x:Qr):AV.nm (.agg (Yt x))=.agg (Yt x):=by rw [Za9,ZaB]
theorem ZnU (x:Qr):(Yt x)[0]? = some (.str x.Name):=by rfl
theorem ZnV (x:Qr):(Yt x)[1]? = some (.int .i64 x.Room):=by rfl
theorem ZnW (x:Qr):(Yt x)[2]? = some (.int .i64 x.Policy):=by rfl
structure ZaV (x:Qr):Prop where
 Name:x.Name.length≤140737488351232
 Room:-9223372036854775808≤x.Room∧x.Room≤9223372036854775807
 Policy:-9223372036854775808≤x.Policy∧x.Policy≤9223372036854775807
structure Xn where
 Name:List UInt8
 Length:Int
 Step:Int
 deriving DecidableEq
def YQ (x:Xn):List AV:=[.str x.Name,.int .i64 x.Length,.int .i64 x.Step]
theorem ZfA (x:Xn):(YQ x).length=3:=by rfl
theorem ZdQ (x:Xn):(YQ x).map AV.ro=YQ x:=by rfl
theorem ZnP (x:Xn):AV.nm (.agg (YQ x))=.agg (YQ x):=by rw [Za9,ZdQ]
theorem Zrh (x:Xn):(YQ x)[0]? = some (.str x.Name):=by rfl
theorem Zri (x:Xn):(YQ x)[1]? = some (.int .i64 x.Length):=by rfl
theorem Zrj (x:Xn):(YQ x)[2]? = some (.int .i64 x.Step):=by rfl
structure Zc2 (x:Xn):Prop where
 Name:x.Name.length≤140737488351232
 Length:-9223372036854775808≤x.Length∧x.Length≤9223372036854775807
 Step:-9223372036854775808≤x.Step∧x.Step≤9223372036854775807
structure KD where
 Name:List UInt8
 Ty:Int
 deriving DecidableEq
def Vh (x:KD):List AV:=[.str x.Name,.int .i64 x.Ty]
theorem ZtH (x:KD):(Vh x).length=2:=by rfl
theorem Zrl (x:KD):(Vh x).map AV.ro=Vh x:=by rfl
theorem Zw5 (x:KD):AV.nm (.agg (Vh x))=.agg (Vh x):=by rw [Za9,Zrl]
theorem ZyE (x:KD):(Vh x)[0]? = some (.str x.Name):=by rfl
theorem ZyF (x:KD):(Vh x)[1]? = some (.int .i64 x.Ty):=by rfl
structure ZdY (x:KD):Prop where
 Name:x.Name.length≤140737488351232
 Ty:-9223372036854775808≤x.Ty∧x.Ty≤9223372036854775807
structure Xw where
 Op:Int
 Name:List UInt8
 N:Int
 Kids:List Xw
mutual
def W9:Xw→List AV
 | ⟨a0,a1,a2,a3⟩=>[.int .i64 a0,.str a1,.int .i64 a2,.lst 4 (Zw2 a3)]
def Zw2:List Xw→List (List AV)
 | []=>[]
 | x :: l=>W9 x :: Zw2 l
end
theorem ZtG:∀ l:List Xw,Zw2 l=l.map W9
 | []=>by rw [Zw2]; rfl
 | x :: l=>by rw [Zw2,ZtG l]; rfl
theorem VL (x:Xw):W9 x=[.int .i64 x.Op,.str x.Name,.int .i64 x.N,.lst 4 (x.Kids.map W9)]:=by
 cases x; rw [W9]; simp only [ZtG]
theorem DU (x:Xw):(W9 x).length=4:=by rw [VL]; rfl
theorem FU (x:Xw):(W9 x).map AV.ro=W9 x:=by rw [VL]; rfl
theorem ZyC (x:Xw):AV.nm (.agg (W9 x))=.agg (W9 x):=by rw [Za9,FU]
theorem Z16 (x:Xw):(W9 x)[0]? = some (.int .i64 x.Op):=by rw [VL]; rfl
theorem Z17 (x:Xw):(W9 x)[1]? = some (.str x.Name):=by rw [VL]; rfl
theorem Z18 (x:Xw):(W9 x)[2]? = some (.int .i64 x.N):=by rw [VL]; rfl
theorem Z19 (x:Xw):(W9 x)[3]? = some (.lst 4 (x.Kids.map W9)):=by rw [VL]; rfl
inductive JE:Xw→Prop
 | mk (x:Xw) (hOp:-9223372036854775808≤x.Op∧x.Op≤9223372036854775807) (hName:x.Name.length≤140737488351232) (hN:-9223372036854775808≤x.N∧x.N≤9223372036854775807) (hKids1:x.Kids.length * 56≤140737488351232) (hKids2:∀ y ∈ x.Kids,JE y):JE x
theorem JE.Op {x:Xw}(h:JE x):-9223372036854775808≤x.Op∧x.Op≤9223372036854775807:=by cases h; assumption
theorem JE.Name {x:Xw}(h:JE x):x.Name.length≤140737488351232:=by cases h; assumption
theorem JE.N {x:Xw}(h:JE x):-9223372036854775808≤x.N∧x.N≤9223372036854775807:=by cases h; assumption
theorem JE.Kids {x:Xw}(h:JE x):x.Kids.length * 56≤140737488351232∧∀ y ∈ x.Kids,JE y:=by cases h; constructor <;> assumption
structure YY where
 Op:Int
 Name:List UInt8
 Of:List UInt8
 E:Xw
 F:Xw
 Args:List Xw
 Dist:AO
 Flag:Bool
 Body:List YY
 Else:List YY
mutual
def WE:YY→List AV
 | ⟨a0,a1,a2,a3,a4,a5,a6,a7,a8,a9⟩=>[.int .i64 a0,.str a1,.str a2] ++ W9 a3 ++ W9 a4 ++ [.lst 4 (a5.map W9)] ++ H8 a6 ++ [.bool a7,.lst 21 (ZtN a8),.lst 21 (ZtN a9)]
def ZtN:List YY→List (List AV)
 | []=>[]
 | x :: l=>WE x :: ZtN l
end
theorem ZtO:∀ l:List YY,ZtN l=l.map WE
 | []=>by rw [ZtN]; rfl
 | x :: l=>by rw [ZtN,ZtO l]; rfl
theorem Vf (x:YY):WE x=[.int .i64 x.Op,.str x.Name,.str x.Of] ++ W9 x.E ++ W9 x.F ++ [.lst 4 (x.Args.map W9)] ++ H8 x.Dist ++ [.bool x.Flag,.lst 21 (x.Body.map WE),.lst 21 (x.Else.map WE)]:=by
 cases x; rw [WE]; simp only [ZtO]
theorem KI (x:YY):(WE x).length=21:=by rw [Vf]; simp only [VL]; rfl
theorem ZuL (x:YY):(WE x).map AV.ro=WE x:=by rw [Vf]; simp only [VL]; rfl
theorem Z3z (x:YY):AV.nm (.agg (WE x))=.agg (WE x):=by rw [Za9,ZuL]
theorem Z1J (x:YY):(WE x)[0]? = some (.int .i64 x.Op):=by rw [Vf]; simp only [VL]; rfl
theorem Z1K (x:YY):(WE x)[1]? = some (.str x.Name):=by rw [Vf]; simp only [VL]; rfl
theorem Z1L (x:YY):(WE x)[2]? = some (.str x.Of):=by rw [Vf]; simp only [VL]; rfl
theorem Z5s (x:YY):(WE x)[3]? = some (.int .i64 x.E.Op):=by rw [Vf]; simp only [VL]; rfl
theorem Z5t (x:YY):(WE x)[4]? = some (.str x.E.Name):=by rw [Vf]; simp only [VL]; rfl
theorem Z5u (x:YY):(WE x)[5]? = some (.int .i64 x.E.N):=by rw [Vf]; simp only [VL]; rfl
theorem Z5v (x:YY):(WE x)[6]? = some (.lst 4 (x.E.Kids.map W9)):=by rw [Vf]; simp only [VL]; rfl
theorem Z5w (x:YY):(WE x)[7]? = some (.int .i64 x.F.Op):=by rw [Vf]; simp only [VL]; rfl
theorem Z5x (x:YY):(WE x)[8]? = some (.str x.F.Name):=by rw [Vf]; simp only [VL]; rfl
theorem Z5y (x:YY):(WE x)[9]? = some (.int .i64 x.F.N):=by rw [Vf]; simp only [VL]; rfl
theorem Z3r (x:YY):(WE x)[10]? = some (.lst 4 (x.F.Kids.map W9)):=by rw [Vf]; simp only [VL]; rfl
theorem ZyR (x:YY):(WE x)[11]? = some (.lst 4 (x.Args.map W9)):=by rw [Vf]; simp only [VL]; rfl
theorem Z3s (x:YY):(WE x)[12]? = some (.int .i64 x.Dist.Op):=by rw [Vf]; simp only [VL]; rfl
theorem Z3t (x:YY):(WE x)[13]? = some (.int .i64 x.Dist.A):=by rw [Vf]; simp only [VL]; rfl
theorem Z3u (x:YY):(WE x)[14]? = some (.int .i64 x.Dist.B):=by rw [Vf]; simp only [VL]; rfl
theorem Z3v (x:YY):(WE x)[15]? = some (.int .i64 x.Dist.N):=by rw [Vf]; simp only [VL]; rfl
theorem Z3w (x:YY):(WE x)[16]? = some (.lst 1 (ints x.Dist.Values)):=by rw [Vf]; simp only [VL]; rfl
theorem Z3x (x:YY):(WE x)[17]? = some (.lst 1 (ints x.Dist.Weights)):=by rw [Vf]; simp only [VL]; rfl
theorem ZyS (x:YY):(WE x)[18]? = some (.bool x.Flag):=by rw [Vf]; simp only [VL]; rfl
theorem ZyT (x:YY):(WE x)[19]? = some (.lst 21 (x.Body.map WE)):=by rw [Vf]; simp only [VL]; rfl
theorem ZyU (x:YY):(WE x)[20]? = some (.lst 21 (x.Else.map WE)):=by rw [Vf]; simp only [VL]; rfl
theorem Zc6 (x:YY):((WE x).drop 3).take 4=W9 x.E:=by rw [Vf]; simp only [VL]; rfl
theorem Zc7 (x:YY):((WE x).drop 7).take 4=W9 x.F:=by rw [Vf]; simp only [VL]; rfl
theorem Ai (x:YY):((WE x).drop 12).take 6=H8 x.Dist:=by rw [Vf]; simp only [VL]; rfl
inductive XJ:YY→Prop
 | mk (x:YY) (hOp:-9223372036854775808≤x.Op∧x.Op≤9223372036854775807) (hName:x.Name.length≤140737488351232) (hOf:x.Of.length≤140737488351232) (hE:JE x.E) (hF:JE x.F) (hArgs1:x.Args.length * 56≤140737488351232) (hArgs2:∀ y ∈ x.Args,JE y) (hDist:Ar x.Dist) (hFlag:True) (hBody1:x.Body.length * 312≤140737488351232) (hBody2:∀ y ∈ x.Body,XJ y) (hElse1:x.Else.length * 312≤140737488351232) (hElse2:∀ y ∈ x.Else,XJ y):XJ x
theorem XJ.Op {x:YY}(h:XJ x):-9223372036854775808≤x.Op∧x.Op≤9223372036854775807:=by cases h; assumption
theorem XJ.Name {x:YY}(h:XJ x):x.Name.length≤140737488351232:=by cases h; assumption
theorem XJ.Of {x:YY}(h:XJ x):x.Of.length≤140737488351232:=by cases h; assumption
theorem XJ.E {x:YY}(h:XJ x):JE x.E:=by cases h; assumption
theorem XJ.F {x:YY}(h:XJ x):JE x.F:=by cases h; assumption
theorem XJ.Args {x:YY}(h:XJ x):x.Args.length * 56≤140737488351232∧∀ y ∈ x.Args,JE y:=by cases h; constructor <;> assumption
theorem XJ.Dist {x:YY}(h:XJ x):Ar x.Dist:=by cases h; assumption
theorem XJ.Flag {x:YY}(h:XJ x):True:=by cases h; assumption
theorem XJ.Body {x:YY}(h:XJ x):x.Body.length * 312≤140737488351232∧∀ y ∈ x.Body,XJ y:=by cases h; constructor <;> assumption
theorem XJ.Else {x:YY}(h:XJ x):x.Else.length * 312≤140737488351232∧∀ y ∈ x.Else,XJ y:=by cases h; constructor <;> assumption
structure QJ where
 Name:List UInt8
 Params:List KD
 Locals:List KD
 Body:List YY
def Y3 (x:QJ):List AV:=[.str x.Name,.lst 2 (x.Params.map Vh),.lst 2 (x.Locals.map Vh),.lst 21 (x.Body.map WE)]
theorem OU (x:QJ):(Y3 x).length=4:=by rfl
theorem ZfB (x:QJ):(Y3 x).map AV.ro=Y3 x:=by rfl
theorem Zrs (x:QJ):AV.nm (.agg (Y3 x))=.agg (Y3 x):=by rw [Za9,ZfB]
theorem ZtJ (x:QJ):(Y3 x)[0]? = some (.str x.Name):=by rfl
theorem ZtK (x:QJ):(Y3 x)[1]? = some (.lst 2 (x.Params.map Vh)):=by rfl
theorem ZtL (x:QJ):(Y3 x)[2]? = some (.lst 2 (x.Locals.map Vh)):=by rfl
theorem ZtM (x:QJ):(Y3 x)[3]? = some (.lst 21 (x.Body.map WE)):=by rfl
structure PX (x:QJ):Prop where
 Name:x.Name.length≤140737488351232
 Params:x.Params.length * 24≤140737488351232∧∀ y ∈ x.Params,ZdY y
 Locals:x.Locals.length * 24≤140737488351232∧∀ y ∈ x.Locals,ZdY y
 Body:x.Body.length * 312≤140737488351232∧∀ y ∈ x.Body,XJ y
structure KY where
 Routine:List UInt8
 Args:List Int
 At_:Int
 Every:Int
 Until:Int
 deriving DecidableEq
def Xq (x:KY):List AV:=[.str x.Routine,.lst 1 (ints x.Args),.int .i64 x.At_,.int .i64 x.Every,.int .i64 x.Until]
theorem NS (x:KY):(Xq x).length=5:=by rfl
theorem Zr3 (x:KY):(Xq x).map AV.ro=Xq x:=by rfl
theorem Zw9 (x:KY):AV.nm (.agg (Xq x))=.agg (Xq x):=by rw [Za9,Zr3]
theorem ZyM (x:KY):(Xq x)[0]? = some (.str x.Routine):=by rfl
theorem ZyN (x:KY):(Xq x)[1]? = some (.lst 1 (ints x.Args)):=by rfl
theorem ZyO (x:KY):(Xq x)[2]? = some (.int .i64 x.At_):=by rfl
theorem ZyP (x:KY):(Xq x)[3]? = some (.int .i64 x.Every):=by rfl
theorem ZyQ (x:KY):(Xq x)[4]? = some (.int .i64 x.Until):=by rfl
structure Zak (x:KY):Prop where
 Routine:x.Routine.length≤140737488351232
 Args:x.Args.length * 8≤140737488351232∧∀ y ∈ x.Args,-9223372036854775808≤y∧y≤9223372036854775807
 At_:-9223372036854775808≤x.At_∧x.At_≤9223372036854775807
 Every:-9223372036854775808≤x.Every∧x.Every≤9223372036854775807
 Until:-9223372036854775808≤x.Until∧x.Until≤9223372036854775807
structure PY where
 Coef:Int
 What:List UInt8
 Name:List UInt8
 deriving DecidableEq
def Io (x:PY):List AV:=[.int .i64 x.Coef,.str x.What,.str x.Name]
theorem ZwA (x:PY):(Io x).length=3:=by rfl
theorem ZuO (x:PY):(Io x).map AV.ro=Io x:=by rfl
theorem ZyV (x:PY):AV.nm (.agg (Io x))=.agg (Io x):=by rw [Za9,ZuO]
theorem Z1M (x:PY):(Io x)[0]? = some (.int .i64 x.Coef):=by rfl
theorem Z1N (x:PY):(Io x)[1]? = some (.str x.What):=by rfl
theorem Z1O (x:PY):(Io x)[2]? = some (.str x.Name):=by rfl
structure Zvh (x:PY):Prop where
 Coef:-9223372036854775808≤x.Coef∧x.Coef≤9223372036854775807
 What:x.What.length≤140737488351232
 Name:x.Name.length≤140737488351232
structure Zc1 where
 Name:List UInt8
 Terms:List PY
 Total:Int
 deriving DecidableEq
def DV (x:Zc1):List AV:=[.str x.Name,.lst 3 (x.Terms.map Io),.int .i64 x.Total]
theorem Zi0 (x:Zc1):(DV x).length=3:=by rfl
theorem ZxI (x:Zc1):(DV x).map AV.ro=DV x:=by rfl
theorem Z1D (x:Zc1):AV.nm (.agg (DV x))=.agg (DV x):=by rw [Za9,ZxI]
theorem Z4m (x:Zc1):(DV x)[0]? = some (.str x.Name):=by rfl
theorem Z4n (x:Zc1):(DV x)[1]? = some (.lst 3 (x.Terms.map Io)):=by rfl
theorem Z4o (x:Zc1):(DV x)[2]? = some (.int .i64 x.Total):=by rfl
structure ZjO (x:Zc1):Prop where
 Name:x.Name.length≤140737488351232
 Terms:x.Terms.length * 40≤140737488351232∧∀ y ∈ x.Terms,Zvh y
 Total:-9223372036854775808≤x.Total∧x.Total≤9223372036854775807
structure Zo where
 Name:List UInt8
 Vars:List Uy
 Resources:List Zy
 Stores:List Qr
 Belts:List Xn
 Queues:List (List UInt8)
 Streams:List (List UInt8)
 Tallies:List (List UInt8)
 Levels:List (List UInt8)
 Counts:List (List UInt8)
 Routines:List QJ
 Starts:List KY
 Laws:List Zc1
def Zk (x:Zo):List AV:=[.str x.Name,.lst 3 (x.Vars.map X7),.lst 17 (x.Resources.map Zh),.lst 3 (x.Stores.map Yt),.lst 3 (x.Belts.map YQ),.lst 1 (strs x.Queues),.lst 1 (strs x.Streams),.lst 1 (strs x.Tallies),.lst 1 (strs x.Levels),.lst 1 (strs x.Counts),.lst 4 (x.Routines.map Y3),.lst 5 (x.Starts.map Xq),.lst 3 (x.Laws.map DV)]
theorem Ah (x:Zo):(Zk x).length=13:=by rfl
theorem Ziq (x:Zo):(Zk x).map AV.ro=Zk x:=by rfl
theorem ZnT (x:Zo):AV.nm (.agg (Zk x))=.agg (Zk x):=by rw [Za9,Ziq]
theorem Zrt (x:Zo):(Zk x)[0]? = some (.str x.Name):=by rfl
theorem Zru (x:Zo):(Zk x)[1]? = some (.lst 3 (x.Vars.map X7)):=by rfl
theorem Zrv (x:Zo):(Zk x)[2]? = some (.lst 17 (x.Resources.map Zh)):=by rfl
theorem Zrw (x:Zo):(Zk x)[3]? = some (.lst 3 (x.Stores.map Yt)):=by rfl
theorem Zrx (x:Zo):(Zk x)[4]? = some (.lst 3 (x.Belts.map YQ)):=by rfl
theorem Zry (x:Zo):(Zk x)[5]? = some (.lst 1 (strs x.Queues)):=by rfl
theorem Zrz (x:Zo):(Zk x)[6]? = some (.lst 1 (strs x.Streams)):=by rfl
theorem Zr0 (x:Zo):(Zk x)[7]? = some (.lst 1 (strs x.Tallies)):=by rfl
theorem Zr1 (x:Zo):(Zk x)[8]? = some (.lst 1 (strs x.Levels)):=by rfl
theorem Zr2 (x:Zo):(Zk x)[9]? = some (.lst 1 (strs x.Counts)):=by rfl
theorem ZnQ (x:Zo):(Zk x)[10]? = some (.lst 4 (x.Routines.map Y3)):=by rfl
theorem ZnR (x:Zo):(Zk x)[11]? = some (.lst 5 (x.Starts.map Xq)):=by rfl
theorem ZnS (x:Zo):(Zk x)[12]? = some (.lst 3 (x.Laws.map DV)):=by rfl
structure YO (x:Zo):Prop where
 Name:x.Name.length≤140737488351232
 Vars:x.Vars.length * 32≤140737488351232∧∀ y ∈ x.Vars,ZcD y
 Resources:x.Resources.length * 232≤140737488351232∧∀ y ∈ x.Resources,VF y
 Stores:x.Stores.length * 32≤140737488351232∧∀ y ∈ x.Stores,ZaV y
 Belts:x.Belts.length * 32≤140737488351232∧∀ y ∈ x.Belts,Zc2 y
 Queues:x.Queues.length * 16≤140737488351232∧∀ y ∈ x.Queues,y.length≤140737488351232
 Streams:x.Streams.length * 16≤140737488351232∧∀ y ∈ x.Streams,y.length≤140737488351232
 Tallies:x.Tallies.length * 16≤140737488351232∧∀ y ∈ x.Tallies,y.length≤140737488351232
 Levels:x.Levels.length * 16≤140737488351232∧∀ y ∈ x.Levels,y.length≤140737488351232
 Counts:x.Counts.length * 16≤140737488351232∧∀ y ∈ x.Counts,y.length≤140737488351232
 Routines:x.Routines.length * 88≤140737488351232∧∀ y ∈ x.Routines,PX y
 Starts:x.Starts.length * 64≤140737488351232∧∀ y ∈ x.Starts,Zak y
 Laws:x.Laws.length * 48≤140737488351232∧∀ y ∈ x.Laws,ZjO y
structure EU where
 From:List UInt8
 To:List UInt8
 Delay:Int
 deriving DecidableEq
def GH (x:EU):List AV:=[.str x.From,.str x.To,.int .i64 x.Delay]
theorem Zw6 (x:EU):(GH x).length=3:=by rfl
theorem ZuJ (x:EU):(GH x).map AV.ro=GH x:=by rfl
theorem ZyH (x:EU):AV.nm (.agg (GH x))=.agg (GH x):=by rw [Za9,ZuJ]
theorem Z1E (x:EU):(GH x)[0]? = some (.str x.From):=by rfl
theorem Z1F (x:EU):(GH x)[1]? = some (.str x.To):=by rfl
theorem Z1G (x:EU):(GH x)[2]? = some (.int .i64 x.Delay):=by rfl
structure Zvg (x:EU):Prop where
 From:x.From.length≤140737488351232
 To:x.To.length≤140737488351232
 Delay:-9223372036854775808≤x.Delay∧x.Delay≤9223372036854775807
structure JD where
 Name:List UInt8
 Params:List Uy
 Sites:List Zo
 Links:List EU
def Vz (x:JD):List AV:=[.str x.Name,.lst 3 (x.Params.map X7),.lst 13 (x.Sites.map Zk),.lst 3 (x.Links.map GH)]
theorem ZtI (x:JD):(Vz x).length=4:=by rfl
theorem Zrm (x:JD):(Vz x).map AV.ro=Vz x:=by rfl
theorem Zw7 (x:JD):AV.nm (.agg (Vz x))=.agg (Vz x):=by rw [Za9,Zrm]
theorem ZyI (x:JD):(Vz x)[0]? = some (.str x.Name):=by rfl
theorem ZyJ (x:JD):(Vz x)[1]? = some (.lst 3 (x.Params.map X7)):=by rfl
theorem ZyK (x:JD):(Vz x)[2]? = some (.lst 13 (x.Sites.map Zk)):=by rfl
theorem ZyL (x:JD):(Vz x)[3]? = some (.lst 3 (x.Links.map GH)):=by rfl
structure Lp (x:JD):Prop where
 Name:x.Name.length≤140737488351232
 Params:x.Params.length * 32≤140737488351232∧∀ y ∈ x.Params,ZcD y
 Sites:x.Sites.length * 304≤140737488351232∧∀ y ∈ x.Sites,YO y
 Links:x.Links.length * 40≤140737488351232∧∀ y ∈ x.Links,Zvg y
end Go.Proofs.YtlmfmmclnboglaaGreat
end
section
namespace Go.Proofs.YtlmfmmclnboglaaGreat
open Go Go.RowKit Go.Proofs.YtlmfmmclnboglaaGreat.Abs
open Nat (reduceAdd reduceLeDiff)
set_option maxRecDepth 100000
theorem BA (l:List Int):(ints l).length=l.length:=by simp [ints]
theorem Zzf (l:List (List UInt8)):(strs l).length=l.length:=by simp [strs]
theorem ZzZ {n:Int}(h1:-9223372036854775808≤n)(h2:n≤9223372036854775807):IntKind.i64.wrap n=n:=i64_in h1 h2
theorem Zuo {C:Cfg}(hC:I8 C)(N:Nat)(hN:1≤N)(hp:HP)(x:Int):Za C N Ziw [.int .i64 x] hp=some (.bool (inB x),hp,none):=by
 obtain ⟨m,rfl⟩:∃ m,N=m + 1:=⟨N - 1,by omega⟩
 exact Z4M hC m x hp
theorem Zcw {C:Cfg}(hC:I8 C)(N:Nat)(hN:2≤N)(hp:HP)(s:List UInt8)(hl:s.length≤140737488351232):Za C N RF [.str s] hp=some (.int .i64 (Zev s),hp,none):=by
 obtain ⟨m,rfl⟩:∃ m,N=m + 2:=⟨N - 2,by omega⟩
 exact Zun hC m s (by omega) hp
theorem EF {C:Cfg}(K:KT)(hp0:HP)(a b:List Int)(ha:a.length≤4611686018427387)(hb:b.length≤4611686018427387):∀ (r1 r2 q1 q2:List Int) (m:Nat),a=q1 ++ r1→b=q2 ++ r2→q1.length=q2.length→r1.length=r2.length→r1.length < m →
  WW C.G K C.L hp0 (QO C.G K C.L hp0) m (.lst 1 (ints a)) (.lst 1 (ints b)) (.int .i64 (a.length:Int)) (.int .i64 (q1.length:Int)) hp0 none=some (.bool (decide (r1=r2)),hp0,none)
 | _,_,_,_,0,_,_,_,_,h=>by omega
 | [],[],q1,q2,m + 1,h1,h2,_,_,_=>by
  have l0:=lp0 h1
  simp only [WW,QO,EV,l0,BA,Bool.false_eq_true,if_false,decide_true]
 | [],y :: r2,q1,q2,m + 1,_,_,_,h,_=>by simp at h
 | x :: r1,[],q1,q2,m + 1,_,_,_,h,_=>by simp at h
 | x :: r1,y :: r2,q1,q2,m + 1,h1,h2,hq,hr,hm=>by
  obtain ⟨a1,a2,a3,a4,_⟩:=lp (fun x=>[.int .i64 x]) h1 ha
  obtain ⟨_,b2,_,b4,_⟩:=lp (fun x=>[.int .i64 x]) h2 hb
  rw [← hq] at b2
  have ih:=EF (C := C) K hp0 a b ha hb r1 r2 (q1 ++ [x]) (q2 ++ [y]) m a4 b4 (by simp [hq]) (by simpa using hr) (by simpa using hm)
  have g1:(ints a)[q1.length]? = some [.int .i64 x]:=a2
  have g2:(ints b)[q1.length]? = some [.int .i64 y]:=b2
  by_cases hxy:x=y
  ·subst hxy
   have hd:decide (x :: r1=x :: r2)=decide (r1=r2):=by by_cases h:r1=r2 <;> simp [h]
   simp only [WW,EV,BA,a1,a3,Qu,g1,g2,ih,hd,ne_eq,not_true_eq_false,decide_false,Bool.false_eq_true,if_false,if_true]
  ·have hd:decide (x :: r1=y :: r2)=false:=by simp [hxy]
   simp only [WW,EV,BA,a1,Qu,g1,g2,hd,hxy,ne_eq,not_false_eq_true,decide_true,if_true]
theorem DR {C:Cfg}(hC:I8 C)(N:Nat)(hN:1≤N)(hp:HP)(a b:List Int)(ha:a.length≤4611686018427387)(hb:b.length≤4611686018427387):Za C N VC [.lst 1 (ints a),.lst 1 (ints b)] hp=some (.bool (decide (a=b)),hp,none):=by
 obtain ⟨m,rfl⟩:∃ m,N=m + 1:=⟨N - 1,by omega⟩
 refine A8 (by rw [hC.T]; rfl) ?_
 by_cases hab:a.length=b.length
 ·have h:=EF (C := C) (Za C m) hp a b ha hb a b [] [] C.L rfl rfl rfl hab (by have:=hC.L; omega)
  have h1:((a.length:Int)=b.length):=by omega
  simp only [List.length_nil,Int.natCast_zero,h1] at h
  simp only [JG,EV,BA,h1,ne_eq,not_true_eq_false,decide_false,Bool.false_eq_true,if_false,h]
 ·have h1:¬ ((a.length:Int)=b.length):=by omega
  have h2:¬ a=b:=fun e=>hab (by rw [e])
  simp only [JG,EV,BA,h1,h2,ne_eq,not_false_eq_true,decide_true,decide_false,if_true]
theorem ZeO {C:Cfg}(K:KT)(hp0:HP)(a b:List Int)(ha:a.length≤4611686018427387)(hb:b.length≤4611686018427387):∀ (r1 r2 q1 q2:List Int) (m:Nat),a=q1 ++ r1→b=q2 ++ r2→q1.length=q2.length→r1.length=r2.length→r1.length < m →
  Hg C.G K C.L hp0 (DF C.G K C.L hp0) m (.lst 1 (ints a)) (.lst 1 (ints b)) (.int .i64 (q1.length:Int)) hp0 none=some (.bool (decide (r1=r2)),hp0,none)
 | _,_,_,_,0,_,_,_,_,h=>by omega
 | [],[],q1,q2,m + 1,h1,h2,_,_,_=>by
  have l0:=lp0 h1
  simp only [Hg,DF,EV,l0,BA,Bool.false_eq_true,if_false,decide_true]
 | [],y :: r2,q1,q2,m + 1,_,_,_,h,_=>by simp at h
 | x :: r1,[],q1,q2,m + 1,_,_,_,h,_=>by simp at h
 | x :: r1,y :: r2,q1,q2,m + 1,h1,h2,hq,hr,hm=>by
  obtain ⟨a1,a2,a3,a4,_⟩:=lp (fun x=>[.int .i64 x]) h1 ha
  obtain ⟨_,b2,_,b4,_⟩:=lp (fun x=>[.int .i64 x]) h2 hb
  rw [← hq] at b2
  have ih:=ZeO (C := C) K hp0 a b ha hb r1 r2 (q1 ++ [x]) (q2 ++ [y]) m a4 b4 (by simp [hq]) (by simpa using hr) (by simpa using hm)
  have g1:(ints a)[q1.length]? = some [.int .i64 x]:=a2
  have g2:(ints b)[q1.length]? = some [.int .i64 y]:=b2
  by_cases hxy:x=y
  ·subst hxy
   have hd:decide (x :: r1=x :: r2)=decide (r1=r2):=by by_cases h:r1=r2 <;> simp [h]
   simp only [Hg,EV,BA,a1,a3,Qu,g1,g2,ih,hd,ne_eq,not_true_eq_false,decide_false,Bool.false_eq_true,if_false,if_true]
  ·have hd:decide (x :: r1=y :: r2)=false:=by simp [hxy]
   simp only [Hg,EV,BA,a1,Qu,g1,g2,hd,hxy,ne_eq,not_false_eq_true,decide_true,if_true]
theorem Zs0 {C:Cfg}(hC:I8 C)(N:Nat)(hN:1≤N)(hp:HP)(a b:List Int)(ha:a.length≤4611686018427387)(hb:b.length≤4611686018427387):Za C N Zbw [.lst 1 (ints a),.lst 1 (ints b)] hp=some (.bool (decide (a=b)),hp,none):=by
 obtain ⟨m,rfl⟩:∃ m,N=m + 1:=⟨N - 1,by omega⟩
 refine ZoW (by rw [hC.T]; rfl) ?_
 by_cases hab:a.length=b.length
 ·have h:=ZeO (C := C) (Za C m) hp a b ha hb a b [] [] C.L rfl rfl rfl hab (by have:=hC.L; omega)
  have h1:((a.length:Int)=b.length):=by omega
  simp only [List.length_nil,Int.natCast_zero,h1] at h
  simp only [Zbx,EV,BA,h1,ne_eq,not_true_eq_false,decide_false,Bool.false_eq_true,if_false,h]
 ·have h1:¬ ((a.length:Int)=b.length):=by omega
  have h2:¬ a=b:=fun e=>hab (by rw [e])
  simp only [Zbx,EV,BA,h1,h2,ne_eq,not_false_eq_true,decide_true,decide_false,if_true]
def Zzt (a b:AO):Bool:=decide (a.Op=b.Op) && decide (a.A=b.A) && decide (a.B=b.B) && decide (a.N=b.N) && decide (a.Values=b.Values) && decide (a.Weights=b.Weights)
def btw (x lo hi:Int):Bool:=decide (lo≤x) && decide (x≤hi)
def ZxP (d:AO):Bool :=
 if decide (d.Op=1)=true then decide ((d.Values.length:Int) + d.Weights.length=0) && decide (d.B=0) && decide (d.N=0)
 else if decide (d.Op=2)=true then decide ((d.Values.length:Int) + d.Weights.length=0) && decide (d.N=0)
 else if decide (d.Op=5)=true then decide ((d.Values.length:Int) + d.Weights.length=0) && decide (d.N=0)
 else if decide (d.Op=4)=true then decide ((d.Values.length:Int) + d.Weights.length=0)
 else if decide (d.Op=3)=true then decide (d.A=0) && decide (d.B=0) && decide (d.N=0)
 else false
theorem Ar.v {d:AO}(h:Ar d):d.Values.length≤4611686018427387:=by have:=h.Values.1; omega
theorem Ar.w {d:AO}(h:Ar d):d.Weights.length≤4611686018427387:=by have:=h.Weights.1; omega
theorem Ar.wr {d:AO}(h:Ar d):IntKind.i64.wrap ((d.Values.length:Int) + (d.Weights.length:Int))=(d.Values.length:Int) + (d.Weights.length:Int):=by
 have:=h.v; have:=h.w; exact ZzZ (by omega) (by omega)
theorem Zik:(∀ d,(H8 d).length=6)∧(∀ d,(H8 d).map AV.ro=H8 d)∧(∀ x,(H8 x)[0]? = some (.int .i64 x.Op))∧(∀ x,(H8 x)[1]? = some (.int .i64 x.A))∧(∀ x,(H8 x)[2]? = some (.int .i64 x.B))∧(∀ x,(H8 x)[3]? = some (.int .i64 x.N))∧(∀ x,(H8 x)[4]? = some (.lst 1 (ints x.Values)))∧(∀ x,(H8 x)[5]? = some (.lst 1 (ints x.Weights))):=⟨Zw1,PQ,Z10,Z11,Z12,Z13,Z14,Z15⟩
theorem Zxg {C:Cfg}(hC:I8 C)(N:Nat)(hN:2≤N)(hp:HP)(d e:AO)(hd:Ar d)(he:Ar e):Za C N BM [.agg (H8 d),.agg (H8 e)] hp=some (.bool (Zzt d e),hp,none):=by
 obtain ⟨m,rfl⟩:∃ m,N=m + 1:=⟨N - 1,by omega⟩
 have q0:=DR hC m (by omega)
 refine ZlI (by rw [hC.T]; rfl) ?_
 generalize Za C m=K at *
 simp only [Zkd,EV,LD,BL,IFJ,reduceAdd,reduceLeDiff,Nat.reduceBEq,GI,q0,hd.v,hd.w,he.v,he.w,Zik,BA,Zzt]
theorem Zzw {C:Cfg}(hC:I8 C)(N:Nat)(hN:2≤N)(hp:HP)(d e:AO)(hd:Ar d)(he:Ar e):Za C N Zc0 [.agg (H8 d),.agg (H8 e)] hp=some (.bool (Zzt d e),hp,none):=by
 obtain ⟨m,rfl⟩:∃ m,N=m + 1:=⟨N - 1,by omega⟩
 have q0:=Zs0 hC m (by omega)
 refine Zwt (by rw [hC.T]; rfl) ?_
 generalize Za C m=K at *
 simp only [Ztq,EV,LD,BL,IFJ,reduceAdd,reduceLeDiff,Nat.reduceBEq,GI,q0,hd.v,hd.w,he.v,he.w,Zik,BA,Zzt]
theorem Zui {C:Cfg}(hC:I8 C)(N:Nat)(hN:1≤N)(hp:HP)(d:AO)(hd:Ar d):Za C N Zfg [.agg (H8 d)] hp=some (.bool (ZxP d),hp,none):=by
 obtain ⟨m,rfl⟩:∃ m,N=m + 1:=⟨N - 1,by omega⟩
 refine ZpX (by rw [hC.T]; rfl) ?_
 generalize Za C m=K at *
 simp only [Zf0,FM,Nj,EV,LD,BL,IFJ,reduceAdd,reduceLeDiff,Nat.reduceBEq,GI,hd.wr,Zik,BA,ZxP]
def Z7f (lo hi:Int)(x:Int):Bool:=decide (x < lo) || decide (hi < x)
def Z3Q {α:Type}(f:α→Bool):List α→Int→Int
 | [],_=>-1
 | x :: r,i=>if f x=true then i else Z3Q f r (i + 1)
theorem Z0N {α:Type}(f:α→Bool):∀ (l:List α) (i:Int),0≤i→decide (0≤Z3Q f l i)=l.any f
 | [],i,h=>by simp [Z3Q]
 | x :: r,i,h=>by
  have ih:=Z0N f r (i + 1) (by omega)
  cases hx:f x <;> simp [Z3Q,hx,h]
  simpa using ih
def ZfF (lo hi:Int)(l:List Int):Bool:=!(l.any (Z7f lo hi))
def ZpW (d:AO):Int :=
 if (!(ZxP d))=true then 1
 else if decide (d.Op=1)=true then (if (!(ZfF 0 1000000000 [d.A]))=true then 2 else 0)
 else if decide (d.Op=2)=true then (if (!(ZfF 0 1000000000 [d.A,d.B] && decide (d.A≤d.B)))=true then 2 else 0)
 else if decide (d.Op=4)=true then (if (!(ZfF 1 20 [d.N] && ZfF 0 1000000 [d.A,d.B] && decide (d.A≤d.B)))=true then 2 else 0)
 else if decide (d.Op=5)=true then (if (!(ZfF 1 1000 [d.A,d.B]))=true then 2 else 0)
 else if decide (d.Op=3)=true then
  (if decide ((d.Values.length:Int)≠(d.Weights.length:Int))=true then 8 else if decide ((d.Values.length:Int)=0)=true then 7 else if decide (20 < (d.Values.length:Int))=true then 6
   else if (!(ZfF 0 1000000000 d.Values && ZfF 1 1000 d.Weights))=true then 2 else 0)
 else 2
theorem Zqb {C:Cfg}(hC:I8 C)(N:Nat)(hN:1≤N)(hp:HP)(x lo hi:Int)(g g2:Nat)(tg tg2:TypeId)(hg:hp[g]? = some (.cells [.int .i64 lo] tg))(hg2:hp[g2]? = some (.cells [.int .i64 hi] tg2)):Za C N Zag [.int .i64 x,.ptr g 0,.ptr g2 0] hp=some (.bool (Z7f lo hi x),hp,none):=by
 obtain ⟨m,rfl⟩:∃ m,N=m + 1:=⟨N - 1,by omega⟩
 refine ZmV (by rw [hC.T]; rfl) ?_
 generalize Za C m=K at *
 simp only [Zhu,EV,LD,BL,IFJ,reduceAdd,reduceLeDiff,Nat.reduceBEq,GI,LG hg,LG hg2,Z7f,List.getElem?_cons_zero]
theorem ZnK {C:Cfg}(K:KT)(hp0:HP)(fv:AV)(f:Int→Bool)(l:List Int)(hl:l.length≤4611686018427387)(hf:∀ x ∈ l,Uo K fv [.int .i64 x] hp0=some (.bool (f x),hp0,none)):∀ (r q:List Int) (m:Nat),l=q ++ r→r.length < m →
  X3 C.G K C.L hp0 (JH C.G K C.L hp0) m (.lst 1 (ints l)) fv (.int .i64 (l.length:Int)) (.int .i64 (q.length:Int)) hp0 none=some (.int .i64 (Z3Q f r q.length),hp0,none)
 | _,_,0,_,h=>by omega
 | [],q,m + 1,h,_=>by
  have l0:=lp0 h
  simp only [X3,JH,EV,l0,Z3Q,IFJ]
 | x :: r,q,m + 1,h,hm=>by
  obtain ⟨a1,a2,a3,a4,a5⟩:=lp (fun x=>[.int .i64 x]) h hl
  have g1:(ints l)[q.length]? = some [.int .i64 x]:=a2
  have ih:=ZnK (C := C) K hp0 fv f l hl hf r (q ++ [x]) m a4 (by simpa using hm)
  have a6:((q ++ [x]).length:Int)=(q.length:Int) + 1:=by simp
  have hc:=hf x a5
  simp only [X3,EV,a1,a3,Qu,g1,hc,ih,IFJ,Z3Q]
  rw [a6]
theorem Zbn {C:Cfg}(hC:I8 C)(N:Nat)(hN:2≤N)(hp:HP)(l:List Int)(hl:l.length≤4611686018427387)(g:FuncId)(c:List AV)(f:Int→Bool)(hf:∀ x ∈ l,Za C (N - 2) g ([.int .i64 x] ++ c.map AV.nm) hp=some (.bool (f x),hp,none)) :
  Za C N IW [.lst 1 (ints l),.fn g [] c] hp=some (.bool (l.any f),hp,none):=by
 obtain ⟨m,rfl⟩:∃ m,N=m + 2:=⟨N - 2,by omega⟩
 refine ZaC (by rw [hC.T]; rfl) ?_
 have h1:Za C (m + 1) TU [.lst 1 (ints l),.fn g [] c] hp=some (.int .i64 (Z3Q f l 0),hp,none):=by
  refine ZbJ (by rw [hC.T]; rfl) ?_
  have h:=ZnK (C := C) (Za C m) hp (.fn g [] c) f l hl (fun x hx=>by rw [Zpj]; exact hf x hx) l [] C.L rfl (by have:=hC.L; omega)
  simp only [TY,EV,BA]
  exact h
 simp only [DI,EV,h1,Z0N f l 0 (by omega)]
theorem Zuj {C:Cfg}(hC:I8 C)(N:Nat)(hN:4≤N)(hp:HP)(lo hi:Int)(l:List Int)(hl:l.length≤4611686018427387):Za C N TS [.int .i64 lo,.int .i64 hi,.lst 1 (ints l)] hp=some (.bool (ZfF lo hi l),hp,none):=by
 obtain ⟨m,rfl⟩:∃ m,N=m + 1:=⟨N - 1,by omega⟩
 refine ZpY (by rw [hC.T]; rfl) ?_
 have q:=Zbn hC m (by omega) (hp ++ [.cells [.int .i64 lo] ZjK] ++ [.cells [.int .i64 hi] ZjK]) l hl Zag [.ptr hp.length 0,.ptr (hp ++ [Z5.cells [.int .i64 lo] ZjK]).length 0] (Z7f lo hi) fun x _=>Zqb hC (m - 2) (by omega) _ x lo hi _ _ _ _ (Du (Wj _ _) _) (Wj _ _)
 simp only [Zlr,EV,LD,Z5U,q,ZfF]
theorem l1 (x:Int):([[AV.int .i64 x]]:List (List AV))=ints [x]:=rfl
theorem l2 (x y:Int):([[AV.int .i64 x],[AV.int .i64 y]]:List (List AV))=ints [x,y]:=rfl
theorem lw1 (x:Int):([x].length≤4611686018427387)=True:=by simp
theorem lw2 (x y:Int):([x,y].length≤4611686018427387)=True:=by simp
theorem ZnI {C:Cfg}(hC:I8 C)(N:Nat)(hN:5≤N)(hp:HP)(d:AO)(hd:Ar d):Za C N MG [.agg (H8 d)] hp=some (.int .i64 (ZpW d),hp,none):=by
 obtain ⟨m,rfl⟩:∃ m,N=m + 1:=⟨N - 1,by omega⟩
 have q0:=Zui hC m (by omega)
 have q1:=Zuj hC m (by omega)
 refine Zso (by rw [hC.T]; rfl) ?_
 generalize Za C m=K at *
 simp only [ZnB,EV,LD,BL,IFJ,reduceAdd,reduceLeDiff,Nat.reduceBEq,GI,q0,q1,hd,hd.v,hd.w,Zik,BA,ZpW,LIT,l1 d.A,l1 d.N,l2 d.A d.B,lw1,lw2]
end Go.Proofs.YtlmfmmclnboglaaGreat
end
section
namespace Go.Proofs.YtlmfmmclnboglaaGreat
open Go Go.RowKit Go.Proofs.YtlmfmmclnboglaaGreat.Abs
open Nat (reduceAdd reduceLeDiff)
set_option maxRecDepth 100000
def Z7d (op:Int):Bool:=decide (22≤op) && decide (op≤24)
def Z2L (op:Int):Int :=
 if (decide (op=1) || decide (op=2) || decide (op=3) || decide (op=4))=true then 0
 else if (decide (5≤op) && decide (op≤8))=true then 1
 else if (decide (9≤op) && decide (op≤21))=true then 2
 else if (decide (22≤op) && decide (op≤26))=true then 0 else -1
def Z0S (code:Bool)(op:Int):Bool :=
 if decide (op=3)=true then !code else if decide (op=25)=true then code else if decide (op=26)=true then code else decide (0≤Z2L op)
def Zyv (code:Bool)(op:Int):Bool:=decide (op=3) || (Z7d op && !code)
def Z4c (code:Bool)(op:Int):Int×Int×Bool :=
 if decide (op=2)=true then (0,1,true) else if decide (op=25)=true then (0,15,true) else if decide (op=26)=true then (0,31,true) else if (Z7d op && code)=true then (0,63,true) else (0,0,false)
def ZzB (code:Bool)(e:Xw):Int :=
 if (!(Z0S code e.Op) || decide ((e.Kids.length:Int)≠Z2L e.Op) || (decide (e.Name≠[]) && !(Zyv code e.Op)))=true then 1
 else if decide (e.Op=1)=true then (if (!(inB e.N))=true then 2 else 0)
 else if (!(Z4c code e.Op).2.2 && decide (e.N≠0))=true then 1
 else if ((Z4c code e.Op).2.2 && (decide (e.N < (Z4c code e.Op).1) || decide ((Z4c code e.Op).2.1 < e.N)))=true then 2
 else if Zyv code e.Op=true then Zev e.Name else 0
theorem Df:(∀ d,(W9 d).length=4)∧(∀ d,(W9 d).map AV.ro=W9 d)∧(∀ x,(W9 x)[0]? = some (.int .i64 x.Op))∧(∀ x,(W9 x)[1]? = some (.str x.Name))∧(∀ x,(W9 x)[2]? = some (.int .i64 x.N))∧(∀ x,(W9 x)[3]? = some (.lst 4 (x.Kids.map W9))):=⟨DU,FU,Z16,Z17,Z18,Z19⟩
theorem Zt5 {x e:Xw}(h:x ∈ e.Kids):SizeOf.sizeOf x < SizeOf.sizeOf e:=by
 cases e
 have:=List.sizeOf_lt_of_mem h
 simp at *
 omega
theorem ZtR (e:Xw):0 < SizeOf.sizeOf e:=by cases e; simp; omega
theorem JE.k {e:Xw}(h:JE e):e.Kids.length≤4611686018427387:=by have:=h.Kids.1; omega
theorem JE.n {e:Xw}(h:JE e):e.Name.length≤140737488351232:=h.Name
theorem ONE:(∀ a:AV,[a].length=1)∧(∀ b:Bool,[AV.bool b].map AV.ro=[.bool b]):=⟨fun _=>rfl,fun _=>rfl⟩
theorem ZlM {C:Cfg}(hC:I8 C)(N:Nat)(hN:1≤N)(hp:HP)(op:Int):Za C N Zcm [.int .i64 op] hp=some (.bool (Z7d op),hp,none):=by
 obtain ⟨m,rfl⟩:∃ m,N=m + 1:=⟨N - 1,by omega⟩
 refine Zqw (by rw [hC.T]; rfl) ?_
 generalize Za C m=K at *
 simp only [Zlw,EV,LD,BL,IFJ,reduceAdd,reduceLeDiff,Nat.reduceBEq,GI,Z7d]
theorem Zqe {C:Cfg}(hC:I8 C)(N:Nat)(hN:1≤N)(hp:HP)(op:Int):Za C N Zc9 [.int .i64 op] hp=some (.int .i64 (Z2L op),hp,none):=by
 obtain ⟨m,rfl⟩:∃ m,N=m + 1:=⟨N - 1,by omega⟩
 refine Zus (by rw [hC.T]; rfl) ?_
 generalize Za C m=K at *
 simp only [ZpO,EV,LD,BL,IFJ,reduceAdd,reduceLeDiff,Nat.reduceBEq,GI,Z2L]
theorem Zk4 {C:Cfg}(hC:I8 C)(N:Nat)(hN:2≤N)(hp:HP)(code:Bool)(op:Int):Za C N FX [.agg [.bool code],.int .i64 op] hp=some (.bool (Z0S code op),hp,none):=by
 obtain ⟨m,rfl⟩:∃ m,N=m + 1:=⟨N - 1,by omega⟩
 have q0:=Zqe hC m (by omega)
 refine ZgF (by rw [hC.T]; rfl) ?_
 generalize Za C m=K at *
 simp only [Zda,EV,LD,BL,IFJ,reduceAdd,reduceLeDiff,Nat.reduceBEq,GI,q0,Z0S,GI,ONE]
theorem Zk5 {C:Cfg}(hC:I8 C)(N:Nat)(hN:2≤N)(hp:HP)(code:Bool)(op:Int):Za C N Pz [.agg [.bool code],.int .i64 op] hp=some (.bool (Zyv code op),hp,none):=by
 obtain ⟨m,rfl⟩:∃ m,N=m + 1:=⟨N - 1,by omega⟩
 have q0:=ZlM hC m (by omega)
 refine ZgG (by rw [hC.T]; rfl) ?_
 generalize Za C m=K at *
 simp only [Zdb,EV,LD,BL,IFJ,reduceAdd,reduceLeDiff,Nat.reduceBEq,GI,q0,Zyv,GI,ONE]
theorem ZhH {C:Cfg}(hC:I8 C)(N:Nat)(hN:2≤N)(hp:HP)(code:Bool)(op:Int):Za C N SY [.agg [.bool code],.int .i64 op] hp=some (.tup [.int .i64 (Z4c code op).1,.int .i64 (Z4c code op).2.1,.bool (Z4c code op).2.2],hp,none):=by
 obtain ⟨m,rfl⟩:∃ m,N=m + 1:=⟨N - 1,by omega⟩
 have q0:=ZlM hC m (by omega)
 refine Zfo (by rw [hC.T]; rfl) ?_
 generalize Za C m=K at *
 simp only [Zb9,EV,LD,BL,IFJ,reduceAdd,reduceLeDiff,Nat.reduceBEq,GI,q0,Z4c,GI,ONE,TUP]
 (repeat' split) <;> rfl
theorem ZlJ {C:Cfg}(hC:I8 C)(N:Nat)(hN:3≤N)(hp:HP)(code:Bool)(e:Xw)(he:JE e):Za C N Zaf [.agg [.bool code],.agg (W9 e)] hp=some (.int .i64 (ZzB code e),hp,none):=by
 obtain ⟨m,rfl⟩:∃ m,N=m + 1:=⟨N - 1,by omega⟩
 have q0:=Zk4 hC m (by omega)
 have q1:=Zqe hC m (by omega)
 have q2:=Zk5 hC m (by omega)
 have q3:=Zuo hC m (by omega)
 have q4:=ZhH hC m (by omega)
 have q5:=Zcw hC m (by omega)
 refine Zi5 (by rw [hC.T]; rfl) ?_
 generalize Za C m=K at *
 simp only [ZdH,EV,LD,BL,IFJ,reduceAdd,reduceLeDiff,Nat.reduceBEq,GI,q0,q1,q2,q3,q4,q5,he.n,Df,ZzB,GI,ONE,QC,EX]
mutual
def Zgn (code:Bool):Xw→Int
 | ⟨o,a,n,ks⟩=>if decide (ZzB code ⟨o,a,n,ks⟩≠0)=true then ZzB code ⟨o,a,n,ks⟩ else ZqK code ks
def ZqK (code:Bool):List Xw→Int
 | []=>0
 | x :: r=>if decide (Zgn code x≠0)=true then Zgn code x else ZqK code r
end
theorem Zt8 (code:Bool):∀ l:List Xw,ZqK code l=ZeP (Zgn code) l
 | []=>by rw [ZqK]; rfl
 | x :: r=>by rw [ZqK,Zt8 code r]; rfl
theorem Z1i (code:Bool)(e:Xw):Zgn code e=if decide (ZzB code e≠0)=true then ZzB code e else ZeP (Zgn code) e.Kids:=by
 cases e; rw [Zgn,Zt8]
mutual
def Z0c:Xw→Int
 | ⟨_,_,_,ks⟩=>Z0z ks 1
def Z0z:List Xw→Int→Int
 | [],n=>n
 | x :: r,n=>Z0z r (IntKind.i64.wrap (n + Z0c x))
end
theorem ZxX:∀ (l:List Xw) (n:Int),Z0z l n=sumW Z0c l n
 | [],n=>by rw [Z0z]; rfl
 | x :: r,n=>by rw [Z0z,ZxX r]; rfl
theorem Z4F (e:Xw):Z0c e=sumW Z0c e.Kids 1:=by cases e; rw [Z0c,ZxX]
mutual
def ZxZ:Xw→Int
 | ⟨_,_,_,ks⟩=>IntKind.i64.wrap (Z01 ks 0 + 1)
def Z01:List Xw→Int→Int
 | [],n=>n
 | x :: r,n=>Z01 r (if ZxZ x > n then ZxZ x else n)
end
theorem Zya:∀ (l:List Xw) (n:Int),Z01 l n=Z5C ZxZ l n
 | [],n=>by rw [Z01]; rfl
 | x :: r,n=>by rw [Z01,Zya r]; rfl
theorem Z4H (e:Xw):ZxZ e=IntKind.i64.wrap (Z5C ZxZ e.Kids 0 + 1):=by cases e; rw [ZxZ,Zya]
def Zz3 (a b:Xw):Bool:=decide (a.Op≠b.Op) || decide (a.Name≠b.Name) || decide (a.N≠b.N)
mutual
def ZeY:Xw→Xw→Bool
 | ⟨o,a,n,ks⟩,e=>if (Zz3 ⟨o,a,n,ks⟩ e || decide ((ks.length:Int)≠(e.Kids.length:Int)))=true then false else Zr8 ks e.Kids
def Zr8:List Xw→List Xw→Bool
 | x :: r,y :: s=>if (!(ZeY x y))=true then false else Zr8 r s
 | _,_=>true
end
theorem ZwE:∀ l m:List Xw,Zr8 l m=all2 ZeY l m
 | [],[]=>by rw [Zr8] <;> simp [all2]
 | [],y :: s=>by rw [Zr8] <;> simp [all2]
 | x :: r,[]=>by rw [Zr8] <;> simp [all2]
 | x :: r,y :: s=>by rw [Zr8,ZwE r s]; rfl
theorem ZuS (a b:Xw):ZeY a b=if (Zz3 a b || decide ((a.Kids.length:Int)≠(b.Kids.length:Int)))=true then false else all2 ZeY a.Kids b.Kids:=by
 cases a; rw [ZeY,ZwE]
section
variable {C:Cfg}(hp0:HP)
theorem ZhM (K:KT)(l:List Xw)(hl:l.length≤4611686018427387)(hK:∀ x ∈ l,∀ hp,K Eb [.agg (W9 x)] hp=some (.int .i64 (Z0c x),hp,none)):∀ (r q:List Xw) (m:Nat) (hp:HP) (n:Int),l=q ++ r→r.length < m→hp0.length≤hp.length →
  Lu C.G K C.L hp0 (Es C.G K C.L hp0) m (.int .i64 n) (.int .i64 n) (.lst 4 (l.map W9)) (.int .i64 (l.length:Int)) (.int .i64 (q.length:Int)) hp none=some (.int .i64 (sumW Z0c r n),hp0,none)
 | _,_,0,_,_,_,h,_=>by omega
 | [],q,m + 1,hp,n,h,_,hh=>by
  have l0:=lp0 h
  simp only [Lu,Es,EV,l0,sumW,IFJ]
 | x :: r,q,m + 1,hp,n,h,hm,hh=>by
  obtain ⟨a1,a2,a3,a4,a5⟩:=lp W9 h hl
  have ih:=ZhM K l hl hK r (q ++ [x]) m (hp ++ [.cells (W9 x) WS]) (IntKind.i64.wrap (n + Z0c x)) a4 (by simpa using hm) (by simp; omega)
  have hc:=hK x a5
  have st:=st_all hp0.length 4 hp [(.int .i64 0),(.str []),(.int .i64 0),(.own 4 [])] (W9 x) WS none (DU x) rfl hh
  simp only [Lu,EV,LD,Df,a1,a2,a3,Qu,st,hc,ih,IFJ,sumW]
theorem ZhL (K:KT)(l:List Xw)(hl:l.length≤4611686018427387)(hK:∀ x ∈ l,∀ hp,K Ea [.agg (W9 x)] hp=some (.int .i64 (ZxZ x),hp,none)):∀ (r q:List Xw) (m:Nat) (hp:HP) (n:Int),l=q ++ r→r.length < m→hp0.length≤hp.length →
  Lt C.G K C.L hp0 (Ep C.G K C.L hp0) m (.int .i64 n) (.lst 4 (l.map W9)) (.int .i64 (l.length:Int)) (.int .i64 (q.length:Int)) hp none=some (.int .i64 (IntKind.i64.wrap (Z5C ZxZ r n + 1)),hp0,none)
 | _,_,0,_,_,_,h,_=>by omega
 | [],q,m + 1,hp,n,h,_,hh=>by
  have l0:=lp0 h
  simp only [Lt,Ep,EV,l0,Z5C,IFJ]
 | x :: r,q,m + 1,hp,n,h,hm,hh=>by
  obtain ⟨a1,a2,a3,a4,a5⟩:=lp W9 h hl
  have ih:=ZhL K l hl hK r (q ++ [x]) m (hp ++ [.cells (W9 x) WS]) (if ZxZ x > n then ZxZ x else n) a4 (by simpa using hm) (by simp; omega)
  have hc:=hK x a5
  have st:=st_all hp0.length 4 hp [(.int .i64 0),(.str []),(.int .i64 0),(.own 4 [])] (W9 x) WS none (DU x) rfl hh
  simp only [Lt,EV,LD,Df,a1,a2,a3,Qu,st,hc,max2,ih,IFJ,Z5C]
theorem ZaQ (K:KT)(code:Bool)(g:Nat)(tg:TypeId)(l:List Xw)(hl:l.length≤4611686018427387)(hK:∀ x ∈ l,∀ hp,K GN [.agg [.bool code],.agg (W9 x)] hp=some (.int .i64 (Zgn code x),hp,none)):∀ (r q:List Xw) (m:Nat) (hp:HP),l=q ++ r→r.length < m→hp0.length≤hp.length→hp[g]? = some (.cells [.bool code] tg) →
  U2 C.G K C.L hp0 (IP C.G K C.L hp0) m (.ptr g 0) (.lst 4 (l.map W9)) (.int .i64 (l.length:Int)) (.int .i64 (q.length:Int)) hp none=some (.int .i64 (ZeP (Zgn code) r),hp0,none)
 | _,_,0,_,_,h,_,_=>by omega
 | [],q,m + 1,hp,h,_,hh,hg=>by
  have l0:=lp0 h
  simp only [U2,IP,EV,l0,ZeP,IFJ]
 | x :: r,q,m + 1,hp,h,hm,hh,hg=>by
  obtain ⟨a1,a2,a3,a4,a5⟩:=lp W9 h hl
  have ih:=ZaQ K code g tg l hl hK r (q ++ [x]) m (hp ++ [.cells (W9 x) WS]) a4 (by simpa using hm) (by simp; omega) (Du hg _)
  have hc:=hK x a5
  have st:=st_all hp0.length 4 hp [(.int .i64 0),(.str []),(.int .i64 0),(.own 4 [])] (W9 x) WS none (DU x) rfl hh
  simp only [U2,EV,LD,LG hg,ONE,Df,a1,a2,a3,Qu,st,hc,ih,IFJ,ZeP]
theorem ZjC (K:KT)(b:Xw)(g:Nat)(tg:TypeId)(l:List Xw)(hl:l.length≤4611686018427387)(hb:b.Kids.length≤4611686018427387)(hK:∀ x ∈ l,∀ y ∈ b.Kids,∀ hp,K KJ [.agg (W9 x),.agg (W9 y)] hp=some (.bool (ZeY x y),hp,none)):∀ (r q s p:List Xw) (m:Nat) (hp:HP),l=q ++ r→b.Kids=p ++ s→q.length=p.length→r.length=s.length→r.length < m→hp0.length≤hp.length→hp[g]? = some (.cells (W9 b) tg) →
  MO C.G K C.L hp0 (NQ C.G K C.L hp0) m (.ptr g 0) (.lst 4 (l.map W9)) (.int .i64 (l.length:Int)) (.int .i64 (q.length:Int)) hp none=some (.bool (all2 ZeY r s),hp0,none)
 | _,_,_,_,0,_,_,_,_,_,h,_,_=>by omega
 | [],q,s,p,m + 1,hp,h,_,_,_,_,hh,hg=>by
  have l0:=lp0 h
  simp only [MO,NQ,EV,l0,all2,IFJ]
 | x :: r,q,[],p,m + 1,hp,h,_,_,hs,_,hh,hg=>by simp at hs
 | x :: r,q,y :: s,p,m + 1,hp,h,h2,hq,hs,hm,hh,hg=>by
  obtain ⟨a1,a2,a3,a4,a5⟩:=lp W9 h hl
  obtain ⟨_,b2,_,b4,b5⟩:=lp W9 h2 hb
  rw [← hq] at b2
  have ih:=ZjC K b g tg l hl hb hK r (q ++ [x]) s (p ++ [y]) m (hp ++ [.cells (W9 x) WS]) a4 b4 (by simp [hq]) (by simpa using hs) (by simpa using hm) (by simp; omega) (Du hg _)
  have hc:=hK x a5 y b5
  have st:=st_all hp0.length 4 hp [(.int .i64 0),(.str []),(.int .i64 0),(.own 4 [])] (W9 x) WS none (DU x) rfl hh
  simp only [MO,EV,LD,LG hg,Df,a1,a2,b2,a3,Qu,st,QC,hc,ih,IFJ,all2]
theorem Zgk (K:KT)(a b:List Xw)(ha:a.length≤4611686018427387)(hb:b.length≤4611686018427387)(hp:HP)(hK:∀ x ∈ a,∀ y ∈ b,∀ hp,K Dy [.agg (W9 x),.agg (W9 y)] hp=some (.bool (ZeY x y),hp,none)):∀ (r q s p:List Xw) (m:Nat),a=q ++ r→b=p ++ s→q.length=p.length→r.length=s.length→r.length < m →
  Tz C.G K C.L hp0 (Nq C.G K C.L hp0) m (.lst 4 (a.map W9)) (.lst 4 (b.map W9)) (.int .i64 (q.length:Int)) hp none=some (.bool (all2 ZeY r s),hp0,none)
 | _,_,_,_,0,_,_,_,_,h=>by omega
 | [],q,s,p,m + 1,h,_,_,_,_=>by
  have l0:=lp0 h
  simp only [Tz,Nq,EV,LD,l0,all2,IFJ]
 | x :: r,q,[],p,m + 1,h,_,_,hs,_=>by simp at hs
 | x :: r,q,y :: s,p,m + 1,h,h2,hq,hs,hm=>by
  obtain ⟨a1,a2,a3,a4,a5⟩:=lp W9 h ha
  obtain ⟨_,b2,_,b4,b5⟩:=lp W9 h2 hb
  rw [← hq] at b2
  have ih:=Zgk K a b ha hb hp hK r (q ++ [x]) s (p ++ [y]) m a4 b4 (by simp [hq]) (by simpa using hs) (by simpa using hm)
  have hc:=hK x a5 y b5
  simp only [Tz,EV,LD,Df,a1,a2,b2,a3,Qu,QC,hc,ih,IFJ,all2]
end
theorem ZjB {C:Cfg}(hC:I8 C):∀ (k N:Nat) (hN:k + 1≤N) (e:Xw),SizeOf.sizeOf e≤k→JE e→∀ hp:HP,Za C N Eb [.agg (W9 e)] hp=some (.int .i64 (Z0c e),hp,none)
 | 0,_,_,e,he,_,_=>absurd he (by have:=ZtR e; omega)
 | k + 1,N,hN,e,he,ok,hp=>by
  obtain ⟨m,rfl⟩:∃ m,N=m + 1:=⟨N - 1,by omega⟩
  have hK:∀ x ∈ e.Kids,∀ hp,Za C m Eb [.agg (W9 x)] hp=some (.int .i64 (Z0c x),hp,none):=fun x hx hp=>ZjB hC k m (by omega) x (by have:=Zt5 hx; omega) (ok.Kids.2 x hx) hp
  refine Zs4 (by rw [hC.T]; rfl) ?_
  have hL:e.Kids.length < C.L:=by have:=hC.L; have:=ok.k; omega
  have h:=ZhM (C := C) hp (Za C m) e.Kids ok.k hK e.Kids [] C.L (hp ++ [.cells (W9 e) WS]) 1 rfl hL (by simp)
  simp only [List.length_nil,Int.natCast_zero] at h
  simp only [Zhw,EV,LD,BL,IFJ,Df,ok,ok.k,ok.n,h]
  rw [Z4F]
theorem Zv7 {C:Cfg}(hC:I8 C)(N:Nat)(hp:HP)(e:Xw)(hN:SizeOf.sizeOf e + 1≤N)(ok:JE e):Za C N Eb [.agg (W9 e)] hp=some (.int .i64 (Z0c e),hp,none):=ZjB hC _ N hN e (Nat.le_refl _) ok hp
theorem ZjA {C:Cfg}(hC:I8 C):∀ (k N:Nat) (hN:k + 1≤N) (e:Xw),SizeOf.sizeOf e≤k→JE e→∀ hp:HP,Za C N Ea [.agg (W9 e)] hp=some (.int .i64 (ZxZ e),hp,none)
 | 0,_,_,e,he,_,_=>absurd he (by have:=ZtR e; omega)
 | k + 1,N,hN,e,he,ok,hp=>by
  obtain ⟨m,rfl⟩:∃ m,N=m + 1:=⟨N - 1,by omega⟩
  have hK:∀ x ∈ e.Kids,∀ hp,Za C m Ea [.agg (W9 x)] hp=some (.int .i64 (ZxZ x),hp,none):=fun x hx hp=>ZjA hC k m (by omega) x (by have:=Zt5 hx; omega) (ok.Kids.2 x hx) hp
  refine Zs3 (by rw [hC.T]; rfl) ?_
  have hL:e.Kids.length < C.L:=by have:=hC.L; have:=ok.k; omega
  have h:=ZhL (C := C) hp (Za C m) e.Kids ok.k hK e.Kids [] C.L (hp ++ [.cells (W9 e) WS]) 0 rfl hL (by simp)
  simp only [List.length_nil,Int.natCast_zero] at h
  simp only [Zhv,EV,LD,BL,IFJ,Df,ok,ok.k,ok.n,h]
  rw [Z4H]
theorem Zv6 {C:Cfg}(hC:I8 C)(N:Nat)(hp:HP)(e:Xw)(hN:SizeOf.sizeOf e + 1≤N)(ok:JE e):Za C N Ea [.agg (W9 e)] hp=some (.int .i64 (ZxZ e),hp,none):=ZjA hC _ N hN e (Nat.le_refl _) ok hp
theorem ZbE {C:Cfg}(hC:I8 C)(code:Bool):∀ (k N:Nat) (hN:k + 4≤N) (e:Xw),SizeOf.sizeOf e≤k→JE e→∀ hp:HP,Za C N GN [.agg [.bool code],.agg (W9 e)] hp=some (.int .i64 (Zgn code e),hp,none)
 | 0,_,_,e,he,_,_=>absurd he (by have:=ZtR e; omega)
 | k + 1,N,hN,e,he,ok,hp=>by
  obtain ⟨m,rfl⟩:∃ m,N=m + 1:=⟨N - 1,by omega⟩
  have hK:∀ x ∈ e.Kids,∀ hp,Za C m GN [.agg [.bool code],.agg (W9 x)] hp=some (.int .i64 (Zgn code x),hp,none):=fun x hx hp=>ZbE hC code k m (by omega) x (by have:=Zt5 hx; omega) (ok.Kids.2 x hx) hp
  have q0:=ZlJ hC m (by omega)
  refine ZgH (by rw [hC.T]; rfl) ?_
  have hL:e.Kids.length < C.L:=by have:=hC.L; have:=ok.k; omega
  have h:=ZaQ (C := C) hp (Za C m) code hp.length Py e.Kids ok.k hK e.Kids [] C.L (hp ++ [.cells [.bool code] Py] ++ [.cells (W9 e) WS]) rfl hL (by simp) (Du (Wj _ _) _)
  simp only [List.length_nil,Int.natCast_zero] at h
  simp only [Cb,EV,LD,BL,IFJ,Df,ok,ok.k,ok.n,ONE,GI,q0,h]
  rw [Z1i]
theorem Zk6 {C:Cfg}(hC:I8 C)(code:Bool)(N:Nat)(hp:HP)(e:Xw)(hN:SizeOf.sizeOf e + 4≤N)(ok:JE e):Za C N GN [.agg [.bool code],.agg (W9 e)] hp=some (.int .i64 (Zgn code e),hp,none):=ZbE hC code _ N hN e (Nat.le_refl _) ok hp
theorem ZlL {C:Cfg}(hC:I8 C):∀ (k N:Nat) (hN:k + 1≤N) (e b:Xw),SizeOf.sizeOf e≤k→JE e→JE b→∀ hp:HP,Za C N KJ [.agg (W9 e),.agg (W9 b)] hp=some (.bool (ZeY e b),hp,none)
 | 0,_,_,e,_,he,_,_,_=>absurd he (by have:=ZtR e; omega)
 | k + 1,N,hN,e,b,he,ok,okb,hp=>by
  obtain ⟨m,rfl⟩:∃ m,N=m + 1:=⟨N - 1,by omega⟩
  have hK:∀ x ∈ e.Kids,∀ y ∈ b.Kids,∀ hp,Za C m KJ [.agg (W9 x),.agg (W9 y)] hp=some (.bool (ZeY x y),hp,none):=fun x hx y hy hp=>ZlL hC k m (by omega) x y (by have:=Zt5 hx; omega) (ok.Kids.2 x hx) (okb.Kids.2 y hy) hp
  refine ZlQ (by rw [hC.T]; rfl) ?_
  have hL:e.Kids.length < C.L:=by have:=hC.L; have:=ok.k; omega
  rw [ZuS]
  by_cases hlen:e.Kids.length=b.Kids.length
  ·have h:=ZjC (C := C) hp (Za C m) b (hp ++ [Z5.cells (W9 e) WS]).length WS e.Kids ok.k okb.k hK e.Kids [] b.Kids [] C.L (hp ++ [.cells (W9 e) WS] ++ [.cells (W9 b) WS]) rfl rfl rfl hlen hL (by simp) (Wj _ _)
   simp only [List.length_nil,Int.natCast_zero] at h
   simp only [Zbf,EV,LD,BL,IFJ,Df,Zz3,h]
   rfl
  ·have h2:decide ((e.Kids.length:Int)≠(b.Kids.length:Int))=true:=by simp only [decide_eq_true_eq]; omega
   simp only [Zbf,EV,LD,BL,IFJ,Df,Zz3,h2]
theorem Zxj {C:Cfg}(hC:I8 C)(N:Nat)(hp:HP)(e b:Xw)(hN:SizeOf.sizeOf e + 1≤N)(ok:JE e)(okb:JE b):Za C N KJ [.agg (W9 e),.agg (W9 b)] hp=some (.bool (ZeY e b),hp,none):=ZlL hC _ N hN e b (Nat.le_refl _) ok okb hp
theorem Zs1 {C:Cfg}(hC:I8 C)(m:Nat)(a b:List Xw)(ha:a.length≤4611686018427387)(hb:b.length≤4611686018427387)(hp:HP)(hK:∀ x ∈ a,∀ y ∈ b,∀ hp,Za C m Dy [.agg (W9 x),.agg (W9 y)] hp=some (.bool (ZeY x y),hp,none)):Za C (m + 1) Zfk [.lst 4 (a.map W9),.lst 4 (b.map W9)] hp=some (.bool (if decide ((a.length:Int)≠(b.length:Int))=true then false else all2 ZeY a b),hp,none):=by
 refine Zrf (by rw [hC.T]; rfl) ?_
 by_cases hlen:a.length=b.length
 ·have h:=Zgk (C := C) hp (Za C m) a b ha hb hp hK a [] b [] C.L rfl rfl rfl hlen (by have:=hC.L; omega)
  simp only [List.length_nil,Int.natCast_zero] at h
  simp only [Zcv,EV,LD,BL,IFJ,h]
 ·have h2:decide ((a.length:Int)≠(b.length:Int))=true:=by simp only [decide_eq_true_eq]; omega
  simp only [Zcv,EV,LD,BL,IFJ,h2]
theorem ZnM {C:Cfg}(hC:I8 C):∀ (k N:Nat) (hN:2 * k + 1≤N) (e b:Xw),SizeOf.sizeOf e≤k→JE e→JE b→∀ hp:HP,Za C N Dy [.agg (W9 e),.agg (W9 b)] hp=some (.bool (ZeY e b),hp,none)
 | 0,_,_,e,_,he,_,_,_=>absurd he (by have:=ZtR e; omega)
 | k + 1,N,hN,e,b,he,ok,okb,hp=>by
  obtain ⟨m,rfl⟩:∃ m,N=m + 2:=⟨N - 2,by omega⟩
  have hK:∀ x ∈ e.Kids,∀ y ∈ b.Kids,∀ hp,Za C m Dy [.agg (W9 x),.agg (W9 y)] hp=some (.bool (ZeY x y),hp,none):=fun x hx y hy hp=>ZnM hC k m (by omega) x y (by have:=Zt5 hx; omega) (ok.Kids.2 x hx) (okb.Kids.2 y hy) hp
  have h:=fun hp=>Zs1 hC m e.Kids b.Kids ok.k okb.k hp hK
  refine Zwu (by rw [hC.T]; rfl) ?_
  rw [ZuS]
  unfold Zz3
  simp only [Ztr,EV,LD,BL,IFJ,Df,h]
  cases (decide (e.Op≠b.Op) || decide (e.Name≠b.Name) || decide (e.N≠b.N)) <;> simp only [BL,IFJ]
theorem Zzx {C:Cfg}(hC:I8 C)(N:Nat)(hp:HP)(e b:Xw)(hN:2 * SizeOf.sizeOf e + 1≤N)(ok:JE e)(okb:JE b):Za C N Dy [.agg (W9 e),.agg (W9 b)] hp=some (.bool (ZeY e b),hp,none):=ZnM hC _ N hN e b (Nat.le_refl _) ok okb hp
def ZcY (code:Bool)(e:Xw):Int:=if decide (60 < Z0c e)=true then 6 else if decide (12 < ZxZ e)=true then 11 else Zgn code e
theorem Zk3 {C:Cfg}(hC:I8 C)(N:Nat)(hp:HP)(code:Bool)(e:Xw)(hN:SizeOf.sizeOf e + 5≤N)(ok:JE e):Za C N FW [.agg [.bool code],.agg (W9 e)] hp=some (.int .i64 (ZcY code e),hp,none):=by
 obtain ⟨m,rfl⟩:∃ m,N=m + 1:=⟨N - 1,by omega⟩
 have q0:=fun hp=>Zv7 hC m hp e (by omega) ok
 have q1:=fun hp=>Zv6 hC m hp e (by omega) ok
 have q2:=fun hp=>Zk6 hC code m hp e (by omega) ok
 refine ZgE (by rw [hC.T]; rfl) ?_
 simp only [ZcZ,EV,LD,BL,IFJ,Df,ok,ZcY,ONE,q0,q1,q2]
theorem ZhK {C:Cfg}(hC:I8 C)(N:Nat)(hp:HP)(e:Xw)(hN:SizeOf.sizeOf e + 6≤N)(ok:JE e):Za C N MH [.agg (W9 e)] hp=some (.int .i64 (ZcY false e),hp,none):=by
 obtain ⟨m,rfl⟩:∃ m,N=m + 1:=⟨N - 1,by omega⟩
 have q0:=fun hp=>Zk3 hC m hp false e (by omega) ok
 refine Zs2 (by rw [hC.T]; rfl) ?_
 simp only [ZnC,EV,LD,BL,IFJ,Df,ok,Z7p,q0]
end Go.Proofs.YtlmfmmclnboglaaGreat
end
section
namespace Go.Proofs.YtlmfmmclnboglaaGreat
open Go Go.RowKit Go.Proofs.YtlmfmmclnboglaaGreat.Abs
open Nat (reduceAdd reduceLeDiff)
set_option maxRecDepth 100000
structure ZxR where
 name:Bool
 of_:Bool
 e:Bool
 f:Bool
 args:Bool
 dist:Bool
 flag:Bool
 body:Bool
 other:Bool
 deriving DecidableEq
def Ce (u:ZxR):List AV:=[.bool u.name,.bool u.of_,.bool u.e,.bool u.f,.bool u.args,.bool u.dist,.bool u.flag,.bool u.body,.bool u.other]
theorem ZtP:(∀ u,(Ce u).length=9)∧(∀ u,(Ce u).map AV.ro=Ce u)∧(∀ u,(Ce u)[0]? = some (.bool u.name))∧(∀ u,(Ce u)[1]? = some (.bool u.of_))∧(∀ u,(Ce u)[2]? = some (.bool u.e))∧(∀ u,(Ce u)[3]? = some (.bool u.f))∧(∀ u,(Ce u)[4]? = some (.bool u.args))∧(∀ u,(Ce u)[5]? = some (.bool u.dist))∧(∀ u,(Ce u)[6]? = some (.bool u.flag))∧(∀ u,(Ce u)[7]? = some (.bool u.body))∧(∀ u,(Ce u)[8]? = some (.bool u.other))∧(∀ (bs:Nat) (hp:List Z5) (u:ZxR),ZhZ bs hp (.agg (Ce u))=some (.agg (Ce u)))∧(∀ u,AV.nm (.agg (Ce u))=.agg (Ce u)):=⟨fun _=>rfl,fun _=>rfl,fun _=>rfl,fun _=>rfl,fun _=>rfl,fun _=>rfl,fun _=>rfl,fun _=>rfl,fun _=>rfl,fun _=>rfl,fun _=>rfl,fun _ _ _=>rfl,fun _=>rfl⟩
def Z2i (op:Int):ZxR×Bool:=if decide (op=1)=true then (⟨true,false,true,false,false,false,false,false,false⟩,true) else if decide (op=7)=true then (⟨true,false,true,false,false,false,false,false,false⟩,true) else if decide (op=8)=true then (⟨true,false,true,false,false,false,false,false,false⟩,true) else if decide (op=12)=true then (⟨true,false,true,false,false,false,false,false,false⟩,true) else if decide (op=15)=true then (⟨true,false,true,false,false,false,false,false,false⟩,true) else if decide (op=16)=true then (⟨true,false,true,false,false,false,false,false,false⟩,true) else if decide (op=17)=true then (⟨true,false,true,false,false,false,false,false,false⟩,true) else if decide (op=2)=true then (⟨true,true,false,false,false,true,false,false,false⟩,true) else if decide (op=3)=true then (⟨false,false,true,false,false,false,false,true,true⟩,true) else if decide (op=4)=true then (⟨false,false,true,false,false,false,false,true,false⟩,true) else if decide (op=5)=true then (⟨false,false,true,false,false,false,false,false,false⟩,true) else if decide (op=6)=true then (⟨true,false,true,true,false,false,true,false,false⟩,true) else if decide (op=9)=true then (⟨true,true,false,false,false,false,false,false,false⟩,true) else if decide (op=10)=true then (⟨true,false,false,false,false,false,false,false,false⟩,true) else if decide (op=11)=true then (⟨true,false,false,false,false,false,false,false,false⟩,true) else if decide (op=13)=true then (⟨true,true,true,false,true,false,false,false,false⟩,true) else if decide (op=14)=true then (⟨true,false,true,false,true,false,false,false,false⟩,true) else if decide (op=18)=true then (⟨false,false,false,false,false,false,false,false,false⟩,true) else (⟨false,false,false,false,false,false,false,false,false⟩,false)
theorem Z7k:(fill [AV.bool false,AV.bool false,AV.bool false,AV.bool false,AV.bool false,AV.bool false,AV.bool false,AV.bool false,AV.bool false] []=some (Ce ⟨false,false,false,false,false,false,false,false,false⟩))∧(fill [AV.bool false,AV.bool false,AV.bool false,AV.bool false,AV.bool false,AV.bool false,AV.bool false,AV.bool false,AV.bool false] [(0,1,.bool true),(2,1,.bool true)]=some (Ce ⟨true,false,true,false,false,false,false,false,false⟩))∧(fill [AV.bool false,AV.bool false,AV.bool false,AV.bool false,AV.bool false,AV.bool false,AV.bool false,AV.bool false,AV.bool false] [(0,1,.bool true),(1,1,.bool true),(5,1,.bool true)]=some (Ce ⟨true,true,false,false,false,true,false,false,false⟩))∧(fill [AV.bool false,AV.bool false,AV.bool false,AV.bool false,AV.bool false,AV.bool false,AV.bool false,AV.bool false,AV.bool false] [(2,1,.bool true),(7,1,.bool true),(8,1,.bool true)]=some (Ce ⟨false,false,true,false,false,false,false,true,true⟩))∧(fill [AV.bool false,AV.bool false,AV.bool false,AV.bool false,AV.bool false,AV.bool false,AV.bool false,AV.bool false,AV.bool false] [(2,1,.bool true),(7,1,.bool true)]=some (Ce ⟨false,false,true,false,false,false,false,true,false⟩))∧(fill [AV.bool false,AV.bool false,AV.bool false,AV.bool false,AV.bool false,AV.bool false,AV.bool false,AV.bool false,AV.bool false] [(2,1,.bool true)]=some (Ce ⟨false,false,true,false,false,false,false,false,false⟩))∧(fill [AV.bool false,AV.bool false,AV.bool false,AV.bool false,AV.bool false,AV.bool false,AV.bool false,AV.bool false,AV.bool false] [(0,1,.bool true),(2,1,.bool true),(3,1,.bool true),(6,1,.bool true)]=some (Ce ⟨true,false,true,true,false,false,true,false,false⟩))∧(fill [AV.bool false,AV.bool false,AV.bool false,AV.bool false,AV.bool false,AV.bool false,AV.bool false,AV.bool false,AV.bool false] [(0,1,.bool true),(1,1,.bool true)]=some (Ce ⟨true,true,false,false,false,false,false,false,false⟩))∧(fill [AV.bool false,AV.bool false,AV.bool false,AV.bool false,AV.bool false,AV.bool false,AV.bool false,AV.bool false,AV.bool false] [(0,1,.bool true)]=some (Ce ⟨true,false,false,false,false,false,false,false,false⟩))∧(fill [AV.bool false,AV.bool false,AV.bool false,AV.bool false,AV.bool false,AV.bool false,AV.bool false,AV.bool false,AV.bool false] [(0,1,.bool true),(1,1,.bool true),(2,1,.bool true),(4,1,.bool true)]=some (Ce ⟨true,true,true,false,true,false,false,false,false⟩))∧(fill [AV.bool false,AV.bool false,AV.bool false,AV.bool false,AV.bool false,AV.bool false,AV.bool false,AV.bool false,AV.bool false] [(0,1,.bool true),(2,1,.bool true),(4,1,.bool true)]=some (Ce ⟨true,false,true,false,true,false,false,false,false⟩)):=⟨rfl,rfl,rfl,rfl,rfl,rfl,rfl,rfl,rfl,rfl,rfl⟩
theorem Z7Y:([AV.bool false,AV.bool false,AV.bool false,AV.bool false,AV.bool false,AV.bool false,AV.bool false,AV.bool false,AV.bool false]:List AV).length=9:=rfl
theorem Z7U (op:Int):1≤op∧op≤18→op=1∨op=2∨op=3∨op=4∨op=5∨op=6∨op=7∨op=8∨op=9∨op=10∨op=11∨op=12∨op=13∨op=14∨op=15∨op=16∨op=17∨op=18:=by omega
theorem Z57 (op:Int)(hp:HP):(if decide (op=1)=true then some (.tup [.agg (Ce ⟨true,false,true,false,false,false,false,false,false⟩),.bool true],hp,none) else if decide (op=7)=true then some (.tup [.agg (Ce ⟨true,false,true,false,false,false,false,false,false⟩),.bool true],hp,none) else if decide (op=8)=true then some (.tup [.agg (Ce ⟨true,false,true,false,false,false,false,false,false⟩),.bool true],hp,none) else if decide (op=12)=true then some (.tup [.agg (Ce ⟨true,false,true,false,false,false,false,false,false⟩),.bool true],hp,none) else if decide (op=15)=true then some (.tup [.agg (Ce ⟨true,false,true,false,false,false,false,false,false⟩),.bool true],hp,none) else if decide (op=16)=true then some (.tup [.agg (Ce ⟨true,false,true,false,false,false,false,false,false⟩),.bool true],hp,none) else if decide (op=17)=true then some (.tup [.agg (Ce ⟨true,false,true,false,false,false,false,false,false⟩),.bool true],hp,none) else if decide (op=2)=true then some (.tup [.agg (Ce ⟨true,true,false,false,false,true,false,false,false⟩),.bool true],hp,none) else if decide (op=3)=true then some (.tup [.agg (Ce ⟨false,false,true,false,false,false,false,true,true⟩),.bool true],hp,none) else if decide (op=4)=true then some (.tup [.agg (Ce ⟨false,false,true,false,false,false,false,true,false⟩),.bool true],hp,none) else if decide (op=5)=true then some (.tup [.agg (Ce ⟨false,false,true,false,false,false,false,false,false⟩),.bool true],hp,none) else if decide (op=6)=true then some (.tup [.agg (Ce ⟨true,false,true,true,false,false,true,false,false⟩),.bool true],hp,none) else if decide (op=9)=true then some (.tup [.agg (Ce ⟨true,true,false,false,false,false,false,false,false⟩),.bool true],hp,none) else if decide (op=10)=true then some (.tup [.agg (Ce ⟨true,false,false,false,false,false,false,false,false⟩),.bool true],hp,none) else if decide (op=11)=true then some (.tup [.agg (Ce ⟨true,false,false,false,false,false,false,false,false⟩),.bool true],hp,none) else if decide (op=13)=true then some (.tup [.agg (Ce ⟨true,true,true,false,true,false,false,false,false⟩),.bool true],hp,none) else if decide (op=14)=true then some (.tup [.agg (Ce ⟨true,false,true,false,true,false,false,false,false⟩),.bool true],hp,none) else if decide (op=18)=true then some (.tup [.agg (Ce ⟨false,false,false,false,false,false,false,false,false⟩),.bool true],hp,none) else some (.tup [.agg (Ce ⟨false,false,false,false,false,false,false,false,false⟩),.bool false],hp,none):KR)=some (.tup [.agg (Ce (Z2i op).1),.bool (Z2i op).2],hp,none):=by
 by_cases h:1≤op∧op≤18
 ·rcases Z7U op h with rfl | rfl | rfl | rfl | rfl | rfl | rfl | rfl | rfl | rfl | rfl | rfl | rfl | rfl | rfl | rfl | rfl | rfl <;> rfl
 ·have f:∀ k:Int,1≤k→k≤18→decide (op=k)=false:=fun k h1 h2=>by simp only [decide_eq_false_iff_not]; omega
  simp only [Z2i,f 1 (by omega) (by omega),f 2 (by omega) (by omega),f 3 (by omega) (by omega),f 4 (by omega) (by omega),f 5 (by omega) (by omega),f 6 (by omega) (by omega),f 7 (by omega) (by omega),f 8 (by omega) (by omega),f 9 (by omega) (by omega),f 10 (by omega) (by omega),f 11 (by omega) (by omega),f 12 (by omega) (by omega),f 13 (by omega) (by omega),f 14 (by omega) (by omega),f 15 (by omega) (by omega),f 16 (by omega) (by omega),f 17 (by omega) (by omega),f 18 (by omega) (by omega),IFJ]
theorem Zxm {C:Cfg}(hC:I8 C)(N:Nat)(hN:1≤N)(hp:HP)(op:Int):Za C N Zfn [.int .i64 op] hp=some (.tup [.agg (Ce (Z2i op).1),.bool (Z2i op).2],hp,none):=by
 obtain ⟨m,rfl⟩:∃ m,N=m + 1:=⟨N - 1,by omega⟩
 refine ZuW (by rw [hC.T]; rfl) ?_
 generalize Za C m=K at *
 have sts:∀ (u:ZxR),stV hp.length 9 (.ptr hp.length 0) (.agg (Ce u)) (hp ++ [.cells [AV.bool false,AV.bool false,AV.bool false,AV.bool false,AV.bool false,AV.bool false,AV.bool false,AV.bool false,AV.bool false] Dh]) none=some (hp ++ [.cells (Ce u) Dh],none):=fun u=>st_all hp.length 9 hp [AV.bool false,AV.bool false,AV.bool false,AV.bool false,AV.bool false,AV.bool false,AV.bool false,AV.bool false,AV.bool false] (Ce u) Dh none rfl rfl (Nat.le_refl _)
 simp only [Zk0,O6,Zby,BZ,EV,LD,BL,IFJ,reduceAdd,reduceLeDiff,Nat.reduceBEq,GI,Z7k,sts,ZtP,TUP]
 exact Z57 op hp
theorem Zir:(∀ d,(WE d).length=21)∧(∀ d,(WE d).map AV.ro=WE d)∧(∀ x,((WE x).drop 3).take 4=W9 x.E)∧(∀ x,((WE x).drop 7).take 4=W9 x.F)∧(∀ x,((WE x).drop 12).take 6=H8 x.Dist)∧(∀ x,(WE x)[0]? = some (.int .i64 x.Op))∧(∀ x,(WE x)[1]? = some (.str x.Name))∧(∀ x,(WE x)[2]? = some (.str x.Of))∧(∀ x,(WE x)[11]? = some (.lst 4 (x.Args.map W9)))∧(∀ x,(WE x)[18]? = some (.bool x.Flag))∧(∀ x,(WE x)[19]? = some (.lst 21 (x.Body.map WE)))∧(∀ x,(WE x)[20]? = some (.lst 21 (x.Else.map WE))):=⟨KI,ZuL,Zc6,Zc7,Ai,Z1J,Z1K,Z1L,ZyR,ZyS,ZyT,ZyU⟩
def Z0a (e:Xw):Bool:=decide (e.Op=0) && decide (e.Name=[]) && decide (e.N=0) && decide ((e.Kids.length:Int)=0)
def ZwR (d:AO):Bool:=decide (d.Op=0) && decide (d.A=0) && decide (d.B=0) && decide (d.N=0) && decide (d.Values=[]) && decide (d.Weights=[])
theorem zx1:([.int .i64 0,.str [],.int .i64 0,.own 4 []]:List AV).length=4∧([.int .i64 0,.str [],.int .i64 0,.own 4 []]:List AV).map AV.ro=[.int .i64 0,.str [],.int .i64 0,.lst 4 []]:=⟨rfl,rfl⟩
theorem zd1:([.int .i64 0,.int .i64 0,.int .i64 0,.int .i64 0,.own 1 [],.own 1 []]:List AV).length=6:=rfl
theorem GI2:(∀ (α:Type) (a b c d e:α) (l:List α),(a :: b :: c :: d :: e :: l)[4]? = some e)∧(∀ (α:Type) (a b c d e f:α) (l:List α),(a :: b :: c :: d :: e :: f :: l)[5]? = some f):=⟨fun _ _ _ _ _ _ _=>rfl,fun _ _ _ _ _ _ _ _=>rfl⟩
theorem Zo3 {C:Cfg}(hC:I8 C)(N:Nat)(hN:1≤N)(hp:HP)(e:Xw)(ok:JE e):Za C N KJ [.agg (W9 e),.agg [.int .i64 0,.str [],.int .i64 0,.own 4 []]] hp=some (.bool (Z0a e),hp,none):=by
 obtain ⟨m,rfl⟩:∃ m,N=m + 1:=⟨N - 1,by omega⟩
 refine ZlQ (by rw [hC.T]; rfl) ?_
 have n0:(([]:List (List AV)).length:Int)=0:=rfl
 obtain ⟨L,hL⟩:∃ L,C.L=L + 1:=⟨C.L - 1,by have:=hC.L; omega⟩
 by_cases hlen:e.Kids.length=0
 ·have h0:(e.Kids.length:Int)=0:=by omega
  have l0:decide ((0:Int) < 0)=false:=by decide
  simp only [Zbf,EV,LD,BL,IFJ,Df,zx1,GI,n0,h0,hL,MO,NQ,l0,Z0a,ne_eq,not_true_eq_false,decide_false,decide_true]
  by_cases h1:e.Op=0 <;> by_cases h2:e.Name=[] <;> by_cases h3:e.N=0 <;> simp [h1,h2,h3]
 ·have h0:¬ (e.Kids.length:Int)=0:=by omega
  simp only [Zbf,EV,LD,BL,IFJ,Df,zx1,GI,n0,h0,Z0a,ne_eq,not_false_eq_true,decide_true,decide_false]
theorem Zgh {C:Cfg}(hC:I8 C)(N:Nat)(hN:2≤N)(hp:HP)(d:AO)(hd:Ar d):Za C N BM [.agg (H8 d),.agg [.int .i64 0,.int .i64 0,.int .i64 0,.int .i64 0,.own 1 [],.own 1 []]] hp=some (.bool (ZwR d),hp,none):=by
 obtain ⟨m,rfl⟩:∃ m,N=m + 1:=⟨N - 1,by omega⟩
 have q1:∀ hp,Za C m VC [.lst 1 (ints d.Values),.lst 1 []] hp=some (.bool (decide (d.Values=[])),hp,none):=fun hp=>DR hC m (by omega) hp d.Values [] hd.v (by simp)
 have q2:∀ hp,Za C m VC [.lst 1 (ints d.Weights),.lst 1 []] hp=some (.bool (decide (d.Weights=[])),hp,none):=fun hp=>DR hC m (by omega) hp d.Weights [] hd.w (by simp)
 refine ZlI (by rw [hC.T]; rfl) ?_
 simp only [Zkd,EV,LD,BL,IFJ,Zik,zd1,GI,GI2,q1,q2,ZwR]
theorem Z58:fill [(.int .i64 0),(.str []),(.int .i64 0),(.own 4 [])] []=some [(.int .i64 0),(.str []),(.int .i64 0),(.own 4 [])]∧fill [(.int .i64 0),(.int .i64 0),(.int .i64 0),(.int .i64 0),(.own 1 []),(.own 1 [])] []=some [(.int .i64 0),(.int .i64 0),(.int .i64 0),(.int .i64 0),(.own 1 []),(.own 1 [])]:=⟨rfl,rfl⟩
def Z2D (s:YY)(u:ZxR):Bool :=
 (u.name || decide (s.Name=[])) && (u.of_ || decide (s.Of=[])) && (u.e || Z0a s.E) && (u.f || Z0a s.F) && (u.args || decide ((s.Args.length:Int)=0)) && (u.dist || ZwR s.Dist) && (u.flag || !s.Flag) && (u.body || decide ((s.Body.length:Int)=0)) && (u.other || decide ((s.Else.length:Int)=0))
theorem Zup {C:Cfg}(hC:I8 C)(N:Nat)(hN:2≤N)(hp:HP)(e:Xw)(ok:JE e):Za C N ET [.agg (W9 e)] hp=some (.bool (Z0a e),hp,none):=by
 obtain ⟨m,rfl⟩:∃ m,N=m + 1:=⟨N - 1,by omega⟩
 have q0:=Zo3 hC m (by omega)
 refine ZrE (by rw [hC.T]; rfl) ?_
 generalize Za C m=K at *
 simp only [ZlB,EV,LD,BL,IFJ,reduceAdd,reduceLeDiff,Nat.reduceBEq,GI,q0,ok,Df,Z58]
theorem Zxl {C:Cfg}(hC:I8 C)(N:Nat)(hN:3≤N)(hp:HP)(s:YY)(u:ZxR)(ok:XJ s):Za C N Zfm [.agg (WE s),.agg (Ce u)] hp=some (.bool (Z2D s u),hp,none):=by
 obtain ⟨m,rfl⟩:∃ m,N=m + 1:=⟨N - 1,by omega⟩
 have q0:=Zup hC m (by omega)
 have q1:=Zgh hC m (by omega)
 refine ZuU (by rw [hC.T]; rfl) ?_
 generalize Za C m=K at *
 have cvf:∀ (a:List AV) (h:HP),Uo K (.fn ET [] []) a h=K ET (a ++ []) h:=fun _ _=>rfl
 have apn:∀ l:List AV,l ++ []=l:=List.append_nil
 simp only [ZpU,EV,LD,BL,IFJ,reduceAdd,reduceLeDiff,Nat.reduceBEq,GI,q0,q1,ok.E,ok.F,ok.Dist,Zir,ZtP,Df,Zik,Z58,Z2D,LDP,cvf,apn]
end Go.Proofs.YtlmfmmclnboglaaGreat
end
section
namespace Go.Proofs.YtlmfmmclnboglaaGreat
open Go Go.RowKit Go.Proofs.YtlmfmmclnboglaaGreat.Abs
open Nat (reduceAdd reduceLeDiff)
set_option maxRecDepth 100000
def rPN (b:Bool)(s:List UInt8):List AV:=[.bool b,.str s]
def rPE (b:Bool)(e:Xw):List AV:=.bool b :: W9 e
theorem Z6G:(∀ b s,(rPN b s).length=2)∧(∀ b s,(rPN b s).map AV.ro=rPN b s)∧(∀ b s,(rPN b s)[0]? = some (.bool b))∧(∀ b s,(rPN b s)[1]? = some (.str s))∧(∀ b s,fill [(.bool false),(.str [])] [(0,1,.bool b),(1,1,.str s)]=some (rPN b s)):=⟨fun _ _=>rfl,fun _ _=>rfl,fun _ _=>rfl,fun _ _=>rfl,fun _ _=>rfl⟩
theorem ZuK (b:Bool)(e:Xw):(rPE b e).length=5:=by simp [rPE,DU]
theorem Z4p (b:Bool)(e:Xw):(rPE b e).map AV.ro=rPE b e:=by simp [rPE,FU,AV.ro]
theorem Z6F (b:Bool)(e:Xw):(rPE b e).all AV.noId1=true:=by rw [rPE,VL]; rfl
theorem Z3q (b:Bool)(e:Xw):fill [(.bool false),(.int .i64 0),(.str []),(.int .i64 0),(.own 4 [])] [(0,1,.bool b),(1,4,.agg (W9 e))]=some (rPE b e):=by rw [rPE,VL]; rfl
theorem Z72 (b:Bool)(e:Xw):((rPE b e).drop 1).take 4=W9 e:=by
 show (W9 e).take 4=W9 e
 rw [List.take_of_length_le (by rw [DU]; omega)]
theorem Z73:(∀ b s,(rPE b s).length=5)∧(∀ b s,(rPE b s).map AV.ro=rPE b s)∧(∀ b s,(rPE b s)[0]? = some (.bool b))∧(∀ b e,((rPE b e).drop 1).take 4=W9 e):=⟨ZuK,Z4p,fun _ _=>rfl,Z72⟩
theorem Z7v (t:TypeId)(a b:Bool)(x y:List UInt8)(hp:HP):ZoA t 2 [.agg (rPN a x),.agg (rPN b y)] hp=some (.own 2 [rPN a x,rPN b y],hp):=rfl
theorem Z7t (t:TypeId)(a b:Bool)(x y:Xw)(hp:HP):ZoA t 5 [.agg (rPE a x),.agg (rPE b y)] hp=some (.own 5 [rPE a x,rPE b y],hp):=by
 simp [ZoA,AV.cells,ZuK,Z4p,Z6F,-List.all_eq_true]
theorem nmE (e:Xw):AV.nm (.agg (W9 e))=.agg (W9 e):=ZyC e
def Z0g (s:YY)(u:ZxR):List Xw→Int
 | []=>if u.dist=true then ZpW s.Dist else 0
 | x :: r=>if decide (ZcY false x≠0)=true then ZcY false x else Z0g s u r
def Zy6 (s:YY)(u:ZxR):Int:=if decide (6 < (s.Args.length:Int))=true then 6 else Z0g s u s.Args
def Z1v (s:YY)(u:ZxR):Int:=if (!u.f)=true then Zy6 s u else if decide (ZcY false s.F≠0)=true then ZcY false s.F else Zy6 s u
def Zy7 (s:YY)(u:ZxR):Int:=if (!u.e)=true then Z1v s u else if decide (ZcY false s.E≠0)=true then ZcY false s.E else Z1v s u
def Zwr (s:YY)(u:ZxR):Int :=
 if (u.name && decide (Zev s.Name≠0))=true then Zev s.Name else if (u.of_ && decide (Zev s.Of≠0))=true then Zev s.Of else Zy7 s u
theorem XJ.a {s:YY}(h:XJ s):s.Args.length≤4611686018427387:=by have:=h.Args.1; omega
theorem iaI (k:Nat)(r:List (List AV)):Y4 (.slice k) (.lst k r) (.int .i64 0)=(r[0]?).map .ref∧Y4 (.slice k) (.lst k r) (.int .i64 1)=(r[1]?).map .ref:=⟨Qu k r 0,Qu k r 1⟩
theorem w01:IntKind.i64.wrap (0 + 1)=1∧IntKind.i64.wrap (1 + 1)=2∧decide ((0:Int) < 2)=true∧decide ((1:Int) < 2)=true∧decide ((2:Int) < 2)=false∧(∀ (α:Type) (a b:α),(([a,b].length:Nat):Int)=2):=⟨by decide,by decide,by decide,by decide,by decide,fun _ _ _=>rfl⟩
section
variable {C:Cfg}(hC:I8 C)(hp0:HP)(s:YY)(u:ZxR)(ok:XJ s)(g g2:Nat)(tg tg2:TypeId)(K:KT)
include ok
theorem ZhV (hX:∀ x ∈ s.Args,∀ hp,K MH [.agg (W9 x)] hp=some (.int .i64 (ZcY false x),hp,none))(hD:∀ hp,K MG [.agg (H8 s.Dist)] hp=some (.int .i64 (ZpW s.Dist),hp,none)):∀ (r q:List Xw) (m:Nat) (hp:HP),s.Args=q ++ r→r.length < m→hp0.length≤hp.length→hp[g]? = some (.cells (WE s) tg)→hp[g2]? = some (.cells (Ce u) tg2) →
  LK C.G K C.L hp0 (EE C.G K C.L hp0) m (.ptr g 0) (.ptr g2 0) (.lst 4 (s.Args.map W9)) (.int .i64 (s.Args.length:Int)) (.int .i64 (q.length:Int)) hp none=some (.int .i64 (Z0g s u r),hp0,none)
 | _,_,0,_,_,h,_,_,_=>by omega
 | [],q,m + 1,hp,h,_,hh,hg,hg2=>by
  have l0:=lp0 h
  simp only [LK,EE,CO,reduceAdd,reduceLeDiff,Nat.reduceBEq,l0,LG hg,LG hg2,LGP hg,Zir,ZtP,Zik,hD,Z0g]
 | x :: r,q,m + 1,hp,h,hm,hh,hg,hg2=>by
  obtain ⟨a1,a2,a3,a4,a5⟩:=lp W9 h ok.a
  have ih:=ZhV hX hD r (q ++ [x]) m (hp ++ [.cells (W9 x) WS]) a4 (by simpa using hm) (by simp; omega) (Du hg _) (Du hg2 _)
  have hc:=hX x a5
  have st:=st_all hp0.length 4 hp [(.int .i64 0),(.str []),(.int .i64 0),(.own 4 [])] (W9 x) WS none (DU x) rfl hh
  simp only [LK,CO,reduceAdd,reduceLeDiff,Nat.reduceBEq,Df,a1,a2,a3,Qu,st,hc,ih,Z0g]
include hC
theorem Zqn (hX:∀ x ∈ s.Args,∀ hp,K MH [.agg (W9 x)] hp=some (.int .i64 (ZcY false x),hp,none))(hD:∀ hp,K MG [.agg (H8 s.Dist)] hp=some (.int .i64 (ZpW s.Dist),hp,none))(hp:HP)(hh:hp0.length≤hp.length)(hg:hp[g]? = some (.cells (WE s) tg))(hg2:hp[g2]? = some (.cells (Ce u) tg2)) :
  DL C.G K C.L hp0 (.ptr g 0) (.ptr g2 0) hp none=some (.int .i64 (Zy6 s u),hp0,none):=by
 have h:=ZhV (C := C) hp0 s u ok g g2 tg tg2 K hX hD s.Args [] C.L hp rfl (by have:=hC.L; have:=ok.a; omega) hh hg hg2
 simp only [List.length_nil,Int.natCast_zero] at h
 simp only [DL,CO,reduceAdd,reduceLeDiff,Nat.reduceBEq,LG hg,Zir,h,Zy6]
theorem Zqp (hX:∀ x,(x=s.E∨x=s.F∨x ∈ s.Args)→∀ hp,K MH [.agg (W9 x)] hp=some (.int .i64 (ZcY false x),hp,none))(hD:∀ hp,K MG [.agg (H8 s.Dist)] hp=some (.int .i64 (ZpW s.Dist),hp,none))(m:Nat)(hp:HP)(hh:hp0.length≤hp.length)(hg:hp[g]? = some (.cells (WE s) tg))(hg2:hp[g2]? = some (.cells (Ce u) tg2)) :
  LJ C.G K C.L hp0 (DL C.G K C.L hp0) (m + 3) (.ptr g 0) (.ptr g2 0) (.lst 5 [rPE u.e s.E,rPE u.f s.F]) (.int .i64 2) (.int .i64 0) hp none=some (.int .i64 (Zy7 s u),hp0,none):=by
 have j:=fun hp h1 h2 h3=>Zqn hC hp0 s u ok g g2 tg tg2 K (fun x hx=>hX x (.inr (.inr hx))) hD hp h1 h2 h3
 have j1:=j (hp ++ [.cells (rPE u.e s.E) Xk] ++ [.cells (rPE u.f s.F) Xk]) (by simp; omega) (Du (Du hg _) _) (Du (Du hg2 _) _)
 have st1:=st_all hp0.length 5 hp [(.bool false),(.int .i64 0),(.str []),(.int .i64 0),(.own 4 [])] (rPE u.e s.E) Xk none (ZuK _ _) rfl hh
 have st2:=st_all hp0.length 5 (hp ++ [.cells (rPE u.e s.E) Xk]) [(.bool false),(.int .i64 0),(.str []),(.int .i64 0),(.own 4 [])] (rPE u.f s.F) Xk none (ZuK _ _) rfl (by simp; omega)
 have x1:=hX s.E (.inl rfl)
 have x2:=hX s.F (.inr (.inl rfl))
 simp only [LJ,CO,reduceAdd,reduceLeDiff,Nat.reduceBEq,Z73,Df,LDP,iaI,w01,st1,st2,x1,x2,j1,Zy7,Z1v]
theorem Zqm (hX:∀ x,(x=s.E∨x=s.F∨x ∈ s.Args)→∀ hp,K MH [.agg (W9 x)] hp=some (.int .i64 (ZcY false x),hp,none))(hD:∀ hp,K MG [.agg (H8 s.Dist)] hp=some (.int .i64 (ZpW s.Dist),hp,none))(hp:HP)(hh:hp0.length≤hp.length)(hg:hp[g]? = some (.cells (WE s) tg))(hg2:hp[g2]? = some (.cells (Ce u) tg2)) :
  DK C.G K C.L hp0 (.ptr g 0) (.ptr g2 0) hp none=some (.int .i64 (Zy7 s u),hp0,none):=by
 obtain ⟨L,hL⟩:∃ L,C.L=L + 3:=⟨C.L - 3,by have:=hC.L; omega⟩
 have h:=Zqp hC hp0 s u ok g g2 tg tg2 K hX hD L hp hh hg hg2
 rw [← hL] at h
 simp only [DK,CO,reduceAdd,reduceLeDiff,Nat.reduceBEq,LG hg,LG hg2,LGP hg,Zir,ZtP,Df,nmE,Z3q,Z7t,w01,h]
theorem Zqo (hX:∀ x,(x=s.E∨x=s.F∨x ∈ s.Args)→∀ hp,K MH [.agg (W9 x)] hp=some (.int .i64 (ZcY false x),hp,none))(hD:∀ hp,K MG [.agg (H8 s.Dist)] hp=some (.int .i64 (ZpW s.Dist),hp,none))
  (hN:∀ hp n,n.length≤140737488351232→K RF [.str n] hp=some (.int .i64 (Zev n),hp,none)) (m:Nat) (hp:HP) (hh:hp0.length≤hp.length) (hg:hp[g]? = some (.cells (WE s) tg)) (hg2:hp[g2]? = some (.cells (Ce u) tg2)) :
  DN C.G K C.L hp0 (DK C.G K C.L hp0) (m + 3) (.ptr g 0) (.ptr g2 0) (.lst 2 [rPN u.name s.Name,rPN u.of_ s.Of]) (.int .i64 2) (.int .i64 0) hp none=some (.int .i64 (Zwr s u),hp0,none):=by
 have j:=fun hp h1 h2 h3=>Zqm hC hp0 s u ok g g2 tg tg2 K hX hD hp h1 h2 h3
 have j1:=j (hp ++ [.cells (rPN u.name s.Name) Xc] ++ [.cells (rPN u.of_ s.Of) Xc]) (by simp; omega) (Du (Du hg _) _) (Du (Du hg2 _) _)
 have st1:=st_all hp0.length 2 hp [(.bool false),(.str [])] (rPN u.name s.Name) Xc none rfl rfl hh
 have st2:=st_all hp0.length 2 (hp ++ [.cells (rPN u.name s.Name) Xc]) [(.bool false),(.str [])] (rPN u.of_ s.Of) Xc none rfl rfl (by simp; omega)
 simp only [DN,CO,reduceAdd,reduceLeDiff,Nat.reduceBEq,Z6G,iaI,w01,st1,st2,hN,ok.Name,ok.Of,j1,Zwr]
end
theorem Z7B (s:YY):SizeOf.sizeOf s.E < SizeOf.sizeOf s∧SizeOf.sizeOf s.F < SizeOf.sizeOf s∧SizeOf.sizeOf s.Args < SizeOf.sizeOf s∧SizeOf.sizeOf s.Body < SizeOf.sizeOf s∧SizeOf.sizeOf s.Else < SizeOf.sizeOf s:=by
 cases s; simp; omega
theorem Z7V {s:YY}{x:Xw}(h:x ∈ s.Args):SizeOf.sizeOf x < SizeOf.sizeOf s:=by
 have:=List.sizeOf_lt_of_mem h
 have:=(Z7B s).2.2.1
 omega
theorem ZvG {C:Cfg}(hC:I8 C)(N:Nat)(hp:HP)(s:YY)(u:ZxR)(hN:SizeOf.sizeOf s + 8≤N)(ok:XJ s):Za C N Zd4 [.agg (WE s),.agg (Ce u)] hp=some (.int .i64 (Zwr s u),hp,none):=by
 obtain ⟨m,rfl⟩:∃ m,N=m + 1:=⟨N - 1,by omega⟩
 have z:=Z7B s
 have hX:∀ x,(x=s.E∨x=s.F∨x ∈ s.Args)→∀ hp,Za C m MH [.agg (W9 x)] hp=some (.int .i64 (ZcY false x),hp,none):=fun x hx hp=>by
  rcases hx with rfl | rfl | hx
  ·exact ZhK hC m hp s.E (by omega) ok.E
  ·exact ZhK hC m hp s.F (by omega) ok.F
  ·exact ZhK hC m hp x (by have:=Z7V hx; omega) (ok.Args.2 x hx)
 have hD:=fun hp=>ZnI hC m (by omega) hp s.Dist ok.Dist
 have hNm:=fun hp n h=>Zcw hC m (by omega) hp n h
 obtain ⟨L,hL⟩:∃ L,C.L=L + 3:=⟨C.L - 3,by have:=hC.L; omega⟩
 have h:=Zqo hC hp s u ok hp.length (hp ++ [Z5.cells (WE s) Xb]).length Xb Dh (Za C m) hX hD hNm L (hp ++ [.cells (WE s) Xb] ++ [.cells (Ce u) Dh]) (by simp) (Du (Wj _ _) _) (Wj _ _)
 rw [← hL] at h
 refine ZsY (by rw [hC.T]; rfl) ?_
 simp only [ZhG,CO,reduceAdd,reduceLeDiff,Nat.reduceBEq,Zir,ZtP,Z6G,Z7v,w01,h]
def Z67 (s:YY):Int:=if (!(Z2i s.Op).2 || !(Z2D s (Z2i s.Op).1))=true then 1 else Zwr s (Z2i s.Op).1
end Go.Proofs.YtlmfmmclnboglaaGreat
end
section
namespace Go.Proofs.YtlmfmmclnboglaaGreat
open Go Go.RowKit Go.Proofs.YtlmfmmclnboglaaGreat.Abs
open Nat (reduceAdd reduceLeDiff)
set_option maxRecDepth 100000
theorem zst:([(.int .i64 0),(.str []),(.str []),(.int .i64 0),(.str []),(.int .i64 0),(.own 4 []),(.int .i64 0),(.str []),(.int .i64 0),(.own 4 []),(.own 4 []),(.int .i64 0),(.int .i64 0),(.int .i64 0),(.int .i64 0),(.own 1 []),(.own 1 []),(.bool false),(.own 21 []),(.own 21 [])]:List AV).length=21:=rfl
mutual
def Z7a:YY→Int
 | ⟨_,_,_,_,_,_,_,_,b,e⟩=>IntKind.i64.wrap (Zkb b (b.length:Int) + Zkb e (e.length:Int))
def Zkb:List YY→Int→Int
 | [],n=>n
 | x :: r,n=>Zkb r (IntKind.i64.wrap (n + Z7a x))
end
theorem Z0y (s:YY):Z7a s=IntKind.i64.wrap (Zkb s.Body (s.Body.length:Int) + Zkb s.Else (s.Else.length:Int)):=by cases s; rw [Z7a]
def mx3 (a b c:Int):Int:=if c > (if b > a then b else a) then c else (if b > a then b else a)
theorem Z7w (a b c:Int):Z3V [.int .i64 a,.int .i64 b,.int .i64 c]=some (.int .i64 (mx3 a b c)):=rfl
mutual
def Z7b:YY→Int→Int
 | ⟨_,_,_,_,_,_,_,_,b,e⟩,n=>mx3 n (IntKind.i64.wrap (1 + Zk1 b 0)) (IntKind.i64.wrap (1 + Zk1 e 0))
def Zk1:List YY→Int→Int
 | [],n=>n
 | x :: r,n=>Zk1 r (Z7b x n)
end
theorem Z00 (s:YY)(n:Int):Z7b s n=mx3 n (IntKind.i64.wrap (1 + Zk1 s.Body 0)) (IntKind.i64.wrap (1 + Zk1 s.Else 0)):=by cases s; rw [Z7b]
mutual
def Z6Z:YY→Int
 | ⟨a,b,c,d,e,f,g,h,i,j⟩=>if decide (Z67 ⟨a,b,c,d,e,f,g,h,i,j⟩≠0)=true then Z67 ⟨a,b,c,d,e,f,g,h,i,j⟩ else if decide (Zht i≠0)=true then Zht i else Zht j
def Zht:List YY→Int
 | []=>0
 | x :: r=>if decide (Z6Z x≠0)=true then Z6Z x else Zht r
end
theorem Z4E (s:YY):Z6Z s=if decide (Z67 s≠0)=true then Z67 s else if decide (Zht s.Body≠0)=true then Zht s.Body else Zht s.Else:=by cases s; rw [Z6Z]
theorem Z4C (b:Bool)(p B E R:Int):(if b=true then 1 else if decide (p≠0)=true then p else if decide (B≠0)=true then B else if decide (E≠0)=true then E else R) =
  if decide ((if decide ((if b=true then 1 else p)≠0)=true then (if b=true then 1 else p) else if decide (B≠0)=true then B else E)≠0)=true then (if decide ((if b=true then 1 else p)≠0)=true then (if b=true then 1 else p) else if decide (B≠0)=true then B else E) else R:=by
 cases b <;> by_cases h1:p=0 <;> by_cases h2:B=0 <;> by_cases h3:E=0 <;> simp [h1,h2,h3]
theorem Z7h {s:YY}{l:List YY}(h:s ∈ l):SizeOf.sizeOf s < SizeOf.sizeOf l∧SizeOf.sizeOf s.Body < SizeOf.sizeOf l∧SizeOf.sizeOf s.Else < SizeOf.sizeOf l:=by
 have:=List.sizeOf_lt_of_mem h
 have:=Z7B s
 omega
def Z2l (l:List YY):Prop:=l.length≤4611686018427387∧∀ s ∈ l,XJ s
theorem XJ.b {s:YY}(h:XJ s):Z2l s.Body∧Z2l s.Else:=by
 have h1:=h.Body; have h2:=h.Else
 exact ⟨⟨by omega,h1.2⟩,by omega,h2.2⟩
theorem Z7C (l:List YY):0 < SizeOf.sizeOf l:=by cases l <;> simp <;> omega
section
variable {C:Cfg}(hp0:HP)(l:List YY)(hl:l.length≤4611686018427387)(K:KT)
include hl
theorem ZhS (hK:∀ x ∈ l,∀ hp,K MI [.lst 21 (x.Body.map WE)] hp=some (.int .i64 (Zkb x.Body x.Body.length),hp,none)∧K MI [.lst 21 (x.Else.map WE)] hp=some (.int .i64 (Zkb x.Else x.Else.length),hp,none)):∀ (r q:List YY) (m:Nat) (hp:HP) (n:Int),l=q ++ r→r.length < m→hp0.length≤hp.length →
  L9 C.G K C.L hp0 (E8 C.G K C.L hp0) m (.int .i64 n) (.int .i64 n) (.lst 21 (l.map WE)) (.int .i64 (l.length:Int)) (.int .i64 (q.length:Int)) hp none=some (.int .i64 (Zkb r n),hp0,none)
 | _,_,0,_,_,_,h,_=>by omega
 | [],q,m + 1,hp,n,h,_,hh=>by
  have l0:=lp0 h
  simp only [L9,E8,COe,reduceAdd,reduceLeDiff,Nat.reduceBEq,l0,Zkb]
 | x :: r,q,m + 1,hp,n,h,hm,hh=>by
  obtain ⟨a1,a2,a3,a4,a5⟩:=lp WE h hl
  have ih:=ZhS hK r (q ++ [x]) m (hp ++ [.cells (WE x) Xb]) (IntKind.i64.wrap (n + Z7a x)) a4 (by simpa using hm) (by simp; omega)
  have hc:=hK x a5 (hp ++ [.cells (WE x) Xb])
  rw [Z0y] at ih
  simp only [L9,CO,QC,reduceAdd,reduceLeDiff,Nat.reduceBEq,Zir,a1,a2,a3,Qu,STA hh,zst,hc,ih,Zkb,Z0y]
theorem ZhT (hK:∀ x ∈ l,∀ hp,K MJ [.lst 21 (x.Body.map WE)] hp=some (.int .i64 (Zk1 x.Body 0),hp,none)∧K MJ [.lst 21 (x.Else.map WE)] hp=some (.int .i64 (Zk1 x.Else 0),hp,none)):∀ (r q:List YY) (m:Nat) (hp:HP) (n:Int),l=q ++ r→r.length < m→hp0.length≤hp.length →
  LC C.G K C.L hp0 (EC C.G K C.L hp0) m (.int .i64 n) (.int .i64 n) (.lst 21 (l.map WE)) (.int .i64 (l.length:Int)) (.int .i64 (q.length:Int)) hp none=some (.int .i64 (Zk1 r n),hp0,none)
 | _,_,0,_,_,_,h,_=>by omega
 | [],q,m + 1,hp,n,h,_,hh=>by
  have l0:=lp0 h
  simp only [LC,EC,COe,reduceAdd,reduceLeDiff,Nat.reduceBEq,l0,Zk1]
 | x :: r,q,m + 1,hp,n,h,hm,hh=>by
  obtain ⟨a1,a2,a3,a4,a5⟩:=lp WE h hl
  have ih:=ZhT hK r (q ++ [x]) m (hp ++ [.cells (WE x) Xb]) (Z7b x n) a4 (by simpa using hm) (by simp; omega)
  have hc:=hK x a5 (hp ++ [.cells (WE x) Xb])
  rw [Z00] at ih
  simp only [LC,CO,QC,reduceAdd,reduceLeDiff,Nat.reduceBEq,Zir,a1,a2,a3,Qu,STA hh,zst,hc,Z7w,ih,Zk1,Z00]
theorem ZhU (hK:∀ x ∈ l,∀ hp,K MK [.lst 21 (x.Body.map WE)] hp=some (.int .i64 (Zht x.Body),hp,none)∧K MK [.lst 21 (x.Else.map WE)] hp=some (.int .i64 (Zht x.Else),hp,none))
  (hU:∀ hp op,K Zfn [.int .i64 op] hp=some (.tup [.agg (Ce (Z2i op).1),.bool (Z2i op).2],hp,none)) (hF:∀ x ∈ l,∀ u hp,K Zfm [.agg (WE x),.agg (Ce u)] hp=some (.bool (Z2D x u),hp,none)) (hP:∀ x ∈ l,∀ u hp,K Zd4 [.agg (WE x),.agg (Ce u)] hp=some (.int .i64 (Zwr x u),hp,none)):∀ (r q:List YY) (m:Nat) (hp:HP),l=q ++ r→r.length < m→hp0.length≤hp.length →
  LH C.G K C.L hp0 (ED C.G K C.L hp0) m (.lst 21 (l.map WE)) (.int .i64 (l.length:Int)) (.int .i64 (q.length:Int)) hp none=some (.int .i64 (Zht r),hp0,none)
 | _,_,0,_,_,h,_=>by omega
 | [],q,m + 1,hp,h,_,hh=>by
  have l0:=lp0 h
  simp only [LH,ED,COe,reduceAdd,reduceLeDiff,Nat.reduceBEq,l0,Zht]
 | x :: r,q,m + 1,hp,h,hm,hh=>by
  obtain ⟨a1,a2,a3,a4,a5⟩:=lp WE h hl
  have hh2:hp0.length≤(hp ++ [Z5.cells (WE x) Xb]).length:=by simp; omega
  have ih:=ZhU hK hU hF hP r (q ++ [x]) m (hp ++ [.cells (WE x) Xb] ++ [.cells (Ce (Z2i x.Op).1) Dh]) a4 (by simpa using hm) (by simp; omega)
  have hc:=fun hp=>hK x a5 hp
  have hf:=hF x a5
  have hp':=hP x a5
  simp only [LH,CO,QC,reduceAdd,reduceLeDiff,Nat.reduceBEq,Zir,ZtP,a1,a2,a3,Qu,STA hh,STA hh2,zst,Z7Y,hU,hf,hp',hc,ih,Zht]
  rw [Z4E]
  unfold Z67
  exact congrArg (fun v:Int=>(some (AV.int .i64 v,hp0,none):KR)) (Z4C _ _ _ _ _)
end
theorem Zep {C:Cfg}(hC:I8 C):∀ (k N:Nat) (hN:k + 1≤N) (l:List YY),SizeOf.sizeOf l≤k→Z2l l→∀ hp:HP,Za C N MI [.lst 21 (l.map WE)] hp=some (.int .i64 (Zkb l (l.length:Int)),hp,none)
 | 0,_,_,l,he,_,_=>absurd he (by have:=Z7C l; omega)
 | k + 1,N,hN,l,he,ok,hp=>by
  obtain ⟨m,rfl⟩:∃ m,N=m + 1:=⟨N - 1,by omega⟩
  have hK:∀ x ∈ l,∀ hp,Za C m MI [.lst 21 (x.Body.map WE)] hp=some (.int .i64 (Zkb x.Body (x.Body.length:Int)),hp,none)∧Za C m MI [.lst 21 (x.Else.map WE)] hp=some (.int .i64 (Zkb x.Else (x.Else.length:Int)),hp,none):=fun x hx hp=>by
   have:=Z7h hx
   have:=(ok.2 x hx).b
   exact ⟨Zep hC k m (by omega) x.Body (by omega) this.1 hp,Zep hC k m (by omega) x.Else (by omega) this.2 hp⟩
  have hL:l.length < C.L:=by have:=hC.L; have:=ok.1; omega
  have h:=ZhS (C := C) hp l ok.1 (Za C m) hK l [] C.L hp (l.length:Int) rfl hL (Nat.le_refl _)
  simp only [List.length_nil,Int.natCast_zero] at h
  refine ZsV (by rw [hC.T]; rfl) ?_
  simp only [ZhD,EV,LD,BL,IFJ,h]
theorem ZvD {C:Cfg}(hC:I8 C)(N:Nat)(hp:HP)(l:List YY)(hN:SizeOf.sizeOf l + 1≤N)(ok:Z2l l):Za C N MI [.lst 21 (l.map WE)] hp=some (.int .i64 (Zkb l (l.length:Int)),hp,none):=Zep hC _ N hN l (Nat.le_refl _) ok hp
theorem Zeq {C:Cfg}(hC:I8 C):∀ (k N:Nat) (hN:k + 1≤N) (l:List YY),SizeOf.sizeOf l≤k→Z2l l→∀ hp:HP,Za C N MJ [.lst 21 (l.map WE)] hp=some (.int .i64 (Zk1 l 0),hp,none)
 | 0,_,_,l,he,_,_=>absurd he (by have:=Z7C l; omega)
 | k + 1,N,hN,l,he,ok,hp=>by
  obtain ⟨m,rfl⟩:∃ m,N=m + 1:=⟨N - 1,by omega⟩
  have hK:∀ x ∈ l,∀ hp,Za C m MJ [.lst 21 (x.Body.map WE)] hp=some (.int .i64 (Zk1 x.Body 0),hp,none)∧Za C m MJ [.lst 21 (x.Else.map WE)] hp=some (.int .i64 (Zk1 x.Else 0),hp,none):=fun x hx hp=>by
   have:=Z7h hx
   have:=(ok.2 x hx).b
   exact ⟨Zeq hC k m (by omega) x.Body (by omega) this.1 hp,Zeq hC k m (by omega) x.Else (by omega) this.2 hp⟩
  have hL:l.length < C.L:=by have:=hC.L; have:=ok.1; omega
  have h:=ZhT (C := C) hp l ok.1 (Za C m) hK l [] C.L hp 0 rfl hL (Nat.le_refl _)
  simp only [List.length_nil,Int.natCast_zero] at h
  refine ZsW (by rw [hC.T]; rfl) ?_
  simp only [ZhE,EV,LD,BL,IFJ,h]
theorem ZvE {C:Cfg}(hC:I8 C)(N:Nat)(hp:HP)(l:List YY)(hN:SizeOf.sizeOf l + 1≤N)(ok:Z2l l):Za C N MJ [.lst 21 (l.map WE)] hp=some (.int .i64 (Zk1 l 0),hp,none):=Zeq hC _ N hN l (Nat.le_refl _) ok hp
theorem Zer {C:Cfg}(hC:I8 C):∀ (k N:Nat) (hN:k + 10≤N) (l:List YY),SizeOf.sizeOf l≤k→Z2l l→∀ hp:HP,Za C N MK [.lst 21 (l.map WE)] hp=some (.int .i64 (Zht l),hp,none)
 | 0,_,_,l,he,_,_=>absurd he (by have:=Z7C l; omega)
 | k + 1,N,hN,l,he,ok,hp=>by
  obtain ⟨m,rfl⟩:∃ m,N=m + 1:=⟨N - 1,by omega⟩
  have hK:∀ x ∈ l,∀ hp,Za C m MK [.lst 21 (x.Body.map WE)] hp=some (.int .i64 (Zht x.Body),hp,none)∧Za C m MK [.lst 21 (x.Else.map WE)] hp=some (.int .i64 (Zht x.Else),hp,none):=fun x hx hp=>by
   have:=Z7h hx
   have:=(ok.2 x hx).b
   exact ⟨Zer hC k m (by omega) x.Body (by omega) this.1 hp,Zer hC k m (by omega) x.Else (by omega) this.2 hp⟩
  have hU:=Zxm hC m (by omega)
  have hF:=fun x hx u hp=>Zxl hC m (by omega) hp x u (ok.2 x hx)
  have hP:=fun x hx u hp=>ZvG hC m hp x u (by have:=(Z7h hx).1; omega) (ok.2 x hx)
  have hL:l.length < C.L:=by have:=hC.L; have:=ok.1; omega
  have h:=ZhU (C := C) hp l ok.1 (Za C m) hK hU hF hP l [] C.L hp rfl hL (Nat.le_refl _)
  simp only [List.length_nil,Int.natCast_zero] at h
  refine ZsX (by rw [hC.T]; rfl) ?_
  simp only [ZhF,EV,LD,BL,IFJ,h]
theorem ZvF {C:Cfg}(hC:I8 C)(N:Nat)(hp:HP)(l:List YY)(hN:SizeOf.sizeOf l + 10≤N)(ok:Z2l l):Za C N MK [.lst 21 (l.map WE)] hp=some (.int .i64 (Zht l),hp,none):=Zer hC _ N hN l (Nat.le_refl _) ok hp
def Zv2 (l:List YY):Int:=if decide (200 < Zkb l (l.length:Int))=true then 6 else if decide (12 < Zk1 l 0)=true then 11 else Zht l
theorem ZvC {C:Cfg}(hC:I8 C)(N:Nat)(hp:HP)(l:List YY)(hN:SizeOf.sizeOf l + 13≤N)(ok:Z2l l):Za C N Zd3 [.lst 21 (l.map WE)] hp=some (.int .i64 (Zv2 l),hp,none):=by
 obtain ⟨m,rfl⟩:∃ m,N=m + 1:=⟨N - 1,by omega⟩
 have q1:=fun hp=>ZvD hC m hp l (by omega) ok
 have q2:=fun hp=>ZvE hC m hp l (by omega) ok
 have q3:=fun hp=>ZvF hC m hp l (by omega) ok
 refine ZsU (by rw [hC.T]; rfl) ?_
 simp only [ZnH,EV,LD,BL,IFJ,q1,q2,q3,Zv2]
end Go.Proofs.YtlmfmmclnboglaaGreat
end
section
namespace Go.Proofs.YtlmfmmclnboglaaGreat.Abs
open Go
def Upd (g:Nat)(es:List (AV×AV))(hp hp':List Z5):Prop:=hp.length≤hp'.length∧hp'[g]? = some (.map es)∧∀ i,i < hp.length→i≠g→hp'[i]? = hp[i]?
theorem Upd.refl {g:Nat}{es:List (AV×AV)}{hp:List Z5}(h:hp[g]? = some (.map es)):Upd g es hp hp:=⟨Nat.le_refl _,h,fun _ _ _=>rfl⟩
theorem Upd.trans {g:Nat}{e1 e2:List (AV×AV)}{a b c:List Z5}(h1:Upd g e1 a b)(h2:Upd g e2 b c):Upd g e2 a c :=
 ⟨Nat.le_trans h1.1 h2.1,h2.2.1,fun i hi hn=>(h2.2.2 i (by have:=h1.1; omega) hn).trans (h1.2.2 i hi hn)⟩
theorem Upd.app {g:Nat}{es:List (AV×AV)}{a b:List Z5}(h:Upd g es a b)(x:Z5):Upd g es a (b ++ [x]) :=
 ⟨by have:=h.1; simp; omega,Zt3 h.2.1 x,fun i hi hn=>by rw [List.getElem?_append_left (by have:=h.1; omega)]; exact h.2.2 i hi hn⟩
theorem Upd.off {g:Nat}{es:List (AV×AV)}{a c:List Z5}{x:Z5}(h:Upd g es (a ++ [x]) c):Upd g es a c :=
 ⟨by have:=h.1; simp at this; omega,h.2.1,fun i hi hn=>by rw [h.2.2 i (by simp; omega) hn,List.getElem?_append_left hi]⟩
theorem Upd.get {g:Nat}{es:List (AV×AV)}{a b:List Z5}(h:Upd g es a b){i:Nat}{o:Z5}(hi:a[i]? = some o)(hn:i≠g):b[i]? = some o:=by
 rw [h.2.2 i (List.getElem?_eq_some_iff.1 hi).1 hn]; exact hi
def Efs (g:Nat)(es0 es:List (AV×AV))(ef:Eff):Prop:=(ef=none∧es=es0)∨ef=some (g,0)
theorem Efs.refl (g:Nat)(es:List (AV×AV)):Efs g es es none:=.inl ⟨rfl,rfl⟩
theorem Efs.after {g bs:Nat}(hb:g < bs){a b c:List (AV×AV)}{ef ef':Eff}(h1:Efs g a b ef)(h2:Efs g b c ef'):Efs g a c (Zf bs ef ef'):=by
 rcases h1 with ⟨rfl,rfl⟩ | rfl <;> rcases h2 with ⟨rfl,rfl⟩ | rfl
 ·exact .inl ⟨rfl,rfl⟩
 ·right; simp [Zf,hb,Eff.or]
 ·right; rfl
 ·right; simp [Zf,hb,Eff.or]
theorem Efs.drop {g bs:Nat}(hb:bs≤g){b c:List (AV×AV)}{ef ef':Eff}(h:Efs g b c ef'):Zf bs ef ef'=ef:=by
 rcases h with ⟨rfl,rfl⟩ | rfl
 ·rfl
 ·simp only [Zf]; rw [if_neg (by omega)]
def Sc (g:Nat)(es0 es:List (AV×AV))(hp:List Z5)(e:Int)(r:KR):Prop:=∃ hp' ef,r=some (.int .i64 e,hp',ef)∧Upd g es hp hp'∧Efs g es0 es ef
theorem Sc.fin {g:Nat}{es0 es:List (AV×AV)}{hp0 hp:List Z5}{ef:Eff}(e:Int)(h0:hp0[g]? = some (.map es0))(hu:Upd g es hp0 hp)(he:Efs g es0 es ef):Sc g es0 es hp0 e (some (Vm false hp0 (.int .i64 e) hp ef)):=by
 have hg:g < hp0.length:=(List.getElem?_eq_some_iff.1 h0).1
 rcases he with ⟨rfl,rfl⟩ | rfl
 ·exact ⟨hp0,none,rfl,Upd.refl h0,Efs.refl _ _⟩
 ·have key:Vm false hp0 (.int .i64 e) hp (some (g,0))=if (hp.take hp0.length).all (Z5.under hp0.length)=true then (.int .i64 e,hp.take hp0.length,some (g,0)) else (.int .i64 e,hp,some (g,0)):=rfl
  rw [key]
  split
  ·refine ⟨_,_,rfl,⟨by have:=hu.1; simp; omega,?_,fun i hi hn=>?_⟩,.inr rfl⟩
   ·rw [List.getElem?_take_of_lt hg]; exact hu.2.1
   ·rw [List.getElem?_take_of_lt hi]; exact hu.2.2 i hi hn
  ·exact ⟨_,_,rfl,hu,.inr rfl⟩
def Sl (l:List (List UInt8)):List (AV×AV):=l.map fun s=>(.str s,.bool true)
def ZiQ (l:List (List UInt8×List UInt8)):List (AV×AV):=l.map fun s=>(.agg [.str s.1,.str s.2],.bool true)
theorem ZvT (s:List UInt8):∀ l,find (.one .str) (.str s) (Sl l)=some (if l.contains s then some (.bool true) else none)
 | []=>rfl
 | x :: l=>by
  have ih:=ZvT s l
  have e:Sl (x :: l)=(.str x,.bool true) :: Sl l:=rfl
  rw [e]
  simp only [find,Znd,TN]
  by_cases h:s=x
  ·subst h; simp
  ·have:(s == x)=false:=by simp [h]
   rw [this]
   simp only [ih,List.contains_cons,this,Bool.false_or]
theorem ZvZ {hp:List Z5}{g:Nat}{l:List (List UInt8)}(hg:hp[g]? = some (.map (Sl l)))(s:List UInt8):Zet hp (.one .str) (.bool false) (.map g) (.str s) false=some (.bool (l.contains s)):=by
 simp only [Zet,Zdm,hg,ZvT]
 cases l.contains s <;> simp
theorem Zzg (s:List UInt8):∀ l,l.contains s=false→update (.one .str) (.str s) (.bool true) (Sl l)=some (Sl (l ++ [s]))
 | [],_=>rfl
 | x :: l,h=>by
  rw [List.contains_cons,Bool.or_eq_false_iff] at h
  have ih:=Zzg s l h.2
  have e:Sl (x :: l)=(.str x,.bool true) :: Sl l:=rfl
  rw [e]
  simp only [update,Znd,TN,h.1,ih]
  rfl
theorem Z1f {hp:List Z5}{g bs:Nat}{l:List (List UInt8)}(hg:hp[g]? = some (.map (Sl l)))(s:List UInt8)(h:l.contains s=false)(ef:Eff):Zwc bs (.one .str) (.map g) (.str s) (.bool true) hp ef=some (hp.set g (.map (Sl (l ++ [s]))),Zd1 bs ef g 0):=by
 simp only [Zwc,hg,Zdm,AV.flat1,Bool.and_self,if_true,Zzg s l h]
theorem Zt0 (s:List UInt8×List UInt8):∀ l,find (.pair .str) (.agg [.str s.1,.str s.2]) (ZiQ l)=some (if l.contains s then some (.bool true) else none)
 | []=>rfl
 | x :: l=>by
  have ih:=Zt0 s l
  have e:ZiQ (x :: l)=(.agg [.str x.1,.str x.2],.bool true) :: ZiQ l:=rfl
  rw [e]
  simp only [find,Znd,TN]
  by_cases h:s=x
  ·subst h; simp
  ·have:(s == x)=false:=by simp [h]
   by_cases h1:s.1=x.1
   ·have h2:¬ s.2=x.2:=fun e=>h (Prod.ext h1 e)
    have b1:(s.1 == x.1)=true:=by simp [h1]
    have b2:(s.2 == x.2)=false:=by simp [h2]
    rw [b1]
    simp only [b2,ih,List.contains_cons,this,Bool.false_or]
   ·have b1:(s.1 == x.1)=false:=by simp [h1]
    rw [b1]
    simp only [ih,List.contains_cons,this,Bool.false_or]
theorem Zz7 {hp:List Z5}{g:Nat}{l:List (List UInt8×List UInt8)}(hg:hp[g]? = some (.map (ZiQ l)))(a b:List UInt8):Zet hp (.pair .str) (.bool false) (.map g) (.agg [.str a,.str b]) false=some (.bool (l.contains (a,b))):=by
 have:=Zt0 (a,b) l
 simp only at this
 simp only [Zet,Zdm,hg,this]
 cases l.contains (a,b) <;> simp
theorem ZwP (s:List UInt8×List UInt8):∀ l,l.contains s=false→update (.pair .str) (.agg [.str s.1,.str s.2]) (.bool true) (ZiQ l)=some (ZiQ (l ++ [s]))
 | [],_=>rfl
 | x :: l,h=>by
  rw [List.contains_cons,Bool.or_eq_false_iff] at h
  have ih:=ZwP s l h.2
  have e:ZiQ (x :: l)=(.agg [.str x.1,.str x.2],.bool true) :: ZiQ l:=rfl
  rw [e]
  have hne:¬ s=x:=by simpa using h.1
  by_cases h1:s.1=x.1
  ·have h2:¬ s.2=x.2:=fun e=>hne (Prod.ext h1 e)
   have b1:(s.1 == x.1)=true:=by simp [h1]
   have b2:(s.2 == x.2)=false:=by simp [h2]
   simp only [update,Znd,TN,b1,b2,ih]
   rfl
  ·have b1:(s.1 == x.1)=false:=by simp [h1]
   simp only [update,Znd,TN,b1,ih]
   rfl
theorem ZzA {hp:List Z5}{g bs:Nat}{l:List (List UInt8×List UInt8)}(hg:hp[g]? = some (.map (ZiQ l)))(a b:List UInt8)(h:l.contains (a,b)=false)(ef:Eff):Zwc bs (.pair .str) (.map g) (.agg [.str a,.str b]) (.bool true) hp ef=some (hp.set g (.map (ZiQ (l ++ [(a,b)]))),Zd1 bs ef g 0):=by
 have:=ZwP (a,b) l h
 simp only at this
 simp only [Zwc,hg,Zdm,AV.flat1,Bool.and_self,if_true,this]
theorem Upd.set {hp:List Z5}{g:Nat}{es es':List (AV×AV)}(hg:hp[g]? = some (.map es)):Upd g es' hp (hp.set g (.map es')) :=
 ⟨by simp,by rw [List.getElem?_set_self (List.getElem?_eq_some_iff.1 hg).1],fun i hi hn=>by rw [List.getElem?_set_ne (fun e=>hn e.symm)]⟩
def Ui {α σ:Type}(step:α→σ→Int×σ):List α→σ→Int×σ
 | [],s=>(0,s)
 | x :: r,s=>if decide ((step x s).1≠0)=true then step x s else Ui step r (step x s).2
def Z35 {σ:Type}:List (σ→Int×σ)→σ→Int×σ
 | [],s=>(0,s)
 | f :: r,s=>if decide ((f s).1≠0)=true then f s else Z35 r (f s).2
end Go.Proofs.YtlmfmmclnboglaaGreat.Abs
end
section
namespace Go.Proofs.YtlmfmmclnboglaaGreat
open Go Go.RowKit Go.Proofs.YtlmfmmclnboglaaGreat.Abs
open Nat (reduceAdd reduceLeDiff)
set_option maxRecDepth 100000
theorem Zpp:(∀ x,(X7 x).length=3)∧(∀ x,(X7 x).map AV.ro=X7 x)∧(∀ x,AV.nm (.agg (X7 x))=.agg (X7 x))∧(∀ x,(X7 x)[0]? = some (.str x.Name))∧(∀ x,(X7 x)[1]? = some (.int .i64 x.Ty))∧(∀ x,(X7 x)[2]? = some (.int .i64 x.N)):=⟨Zny,Zmh,ZwB,ZyW,ZyX,ZyY⟩
theorem Zw0:(∀ x,(Vg x).length=2)∧(∀ x,(Vg x).map AV.ro=Vg x)∧(∀ x,AV.nm (.agg (Vg x))=.agg (Vg x))∧(∀ x,(Vg x)[0]? = some (.int .i64 x.At_))∧(∀ x,(Vg x)[1]? = some (.int .i64 x.Units)):=⟨Zrk,Znx,ZtF,Zwy,Zwz⟩
theorem ZyD:(∀ x,(SB x).length=13)∧(∀ x,(SB x).map AV.ro=SB x)∧(∀ x,AV.nm (.agg (SB x))=.agg (SB x))∧(∀ x,(SB x)[0]? = some (.str x.Stream))∧(∀ x,((SB x).drop 1).take 6=H8 x.Up)∧(∀ x,((SB x).drop 7).take 6=H8 x.Down):=⟨ZzP,Zw4,Z1B,Z3o,Zw3,ZsT⟩
theorem Il:(∀ x,(Zh x).length=17)∧(∀ x,(Zh x).map AV.ro=Zh x)∧(∀ x,AV.nm (.agg (Zh x))=.agg (Zh x))∧(∀ x,(Zh x)[0]? = some (.str x.Name))∧(∀ x,(Zh x)[1]? = some (.int .i64 x.Units))∧(∀ x,(Zh x)[2]? = some (.lst 2 (x.Shift.map Vg)))∧(∀ x,(Zh x)[3]? = some (.int .i64 x.Cycle))∧(∀ x,(Zh x)[4]? = some (.str x.Fault.Stream))∧(∀ x,((Zh x).drop 4).take 13=SB x.Fault):=⟨X4,FV,Zgo,Zil,Zim,Zin,Zio,Zip,ZaT⟩
theorem ZbI:(∀ x,(Yt x).length=3)∧(∀ x,(Yt x).map AV.ro=Yt x)∧(∀ x,AV.nm (.agg (Yt x))=.agg (Yt x))∧(∀ x,(Yt x)[0]? = some (.str x.Name))∧(∀ x,(Yt x)[1]? = some (.int .i64 x.Room))∧(∀ x,(Yt x)[2]? = some (.int .i64 x.Policy)):=⟨Zbz,ZaB,Zmg,ZnU,ZnV,ZnW⟩
theorem Zf9:(∀ x,(YQ x).length=3)∧(∀ x,(YQ x).map AV.ro=YQ x)∧(∀ x,AV.nm (.agg (YQ x))=.agg (YQ x))∧(∀ x,(YQ x)[0]? = some (.str x.Name))∧(∀ x,(YQ x)[1]? = some (.int .i64 x.Length))∧(∀ x,(YQ x)[2]? = some (.int .i64 x.Step)):=⟨ZfA,ZdQ,ZnP,Zrh,Zri,Zrj⟩
theorem Zpo:(∀ x,(Vh x).length=2)∧(∀ x,(Vh x).map AV.ro=Vh x)∧(∀ x,AV.nm (.agg (Vh x))=.agg (Vh x))∧(∀ x,(Vh x)[0]? = some (.str x.Name))∧(∀ x,(Vh x)[1]? = some (.int .i64 x.Ty)):=⟨ZtH,Zrl,Zw5,ZyE,ZyF⟩
theorem Ag:(∀ x,(Y3 x).length=4)∧(∀ x,(Y3 x).map AV.ro=Y3 x)∧(∀ x,AV.nm (.agg (Y3 x))=.agg (Y3 x))∧(∀ x,(Y3 x)[0]? = some (.str x.Name))∧(∀ x,(Y3 x)[1]? = some (.lst 2 (x.Params.map Vh)))∧(∀ x,(Y3 x)[2]? = some (.lst 2 (x.Locals.map Vh)))∧(∀ x,(Y3 x)[3]? = some (.lst 21 (x.Body.map WE))):=⟨OU,ZfB,Zrs,ZtJ,ZtK,ZtL,ZtM⟩
theorem ZfC:(∀ x,(Xq x).length=5)∧(∀ x,(Xq x).map AV.ro=Xq x)∧(∀ x,AV.nm (.agg (Xq x))=.agg (Xq x))∧(∀ x,(Xq x)[0]? = some (.str x.Routine))∧(∀ x,(Xq x)[1]? = some (.lst 1 (ints x.Args)))∧(∀ x,(Xq x)[2]? = some (.int .i64 x.At_))∧(∀ x,(Xq x)[3]? = some (.int .i64 x.Every))∧(∀ x,(Xq x)[4]? = some (.int .i64 x.Until)):=⟨NS,Zr3,Zw9,ZyM,ZyN,ZyO,ZyP,ZyQ⟩
theorem ZuN:(∀ x,(Io x).length=3)∧(∀ x,(Io x).map AV.ro=Io x)∧(∀ x,AV.nm (.agg (Io x))=.agg (Io x))∧(∀ x,(Io x)[0]? = some (.int .i64 x.Coef))∧(∀ x,(Io x)[1]? = some (.str x.What))∧(∀ x,(Io x)[2]? = some (.str x.Name)):=⟨ZwA,ZuO,ZyV,Z1M,Z1N,Z1O⟩
theorem ZyG:(∀ x,(DV x).length=3)∧(∀ x,(DV x).map AV.ro=DV x)∧(∀ x,AV.nm (.agg (DV x))=.agg (DV x))∧(∀ x,(DV x)[0]? = some (.str x.Name))∧(∀ x,(DV x)[1]? = some (.lst 3 (x.Terms.map Io)))∧(∀ x,(DV x)[2]? = some (.int .i64 x.Total)):=⟨Zi0,ZxI,Z1D,Z4m,Z4n,Z4o⟩
theorem ZkM:(∀ x,(GH x).length=3)∧(∀ x,(GH x).map AV.ro=GH x)∧(∀ x,AV.nm (.agg (GH x))=.agg (GH x))∧(∀ x,(GH x)[0]? = some (.str x.From))∧(∀ x,(GH x)[1]? = some (.str x.To))∧(∀ x,(GH x)[2]? = some (.int .i64 x.Delay)):=⟨Zw6,ZuJ,ZyH,Z1E,Z1F,Z1G⟩
theorem XN:(∀ x,(Zk x).length=13)∧(∀ x,(Zk x).map AV.ro=Zk x)∧(∀ x,AV.nm (.agg (Zk x))=.agg (Zk x))∧(∀ x,(Zk x)[0]? = some (.str x.Name))∧(∀ x,(Zk x)[1]? = some (.lst 3 (x.Vars.map X7)))∧(∀ x,(Zk x)[2]? = some (.lst 17 (x.Resources.map Zh)))∧(∀ x,(Zk x)[3]? = some (.lst 3 (x.Stores.map Yt)))∧(∀ x,(Zk x)[4]? = some (.lst 3 (x.Belts.map YQ)))∧(∀ x,(Zk x)[5]? = some (.lst 1 (strs x.Queues)))∧(∀ x,(Zk x)[6]? = some (.lst 1 (strs x.Streams)))∧(∀ x,(Zk x)[7]? = some (.lst 1 (strs x.Tallies)))∧(∀ x,(Zk x)[8]? = some (.lst 1 (strs x.Levels)))∧(∀ x,(Zk x)[9]? = some (.lst 1 (strs x.Counts)))∧(∀ x,(Zk x)[10]? = some (.lst 4 (x.Routines.map Y3)))∧(∀ x,(Zk x)[11]? = some (.lst 5 (x.Starts.map Xq)))∧(∀ x,(Zk x)[12]? = some (.lst 3 (x.Laws.map DV))):=⟨Ah,Ziq,ZnT,Zrt,Zru,Zrv,Zrw,Zrx,Zry,Zrz,Zr0,Zr1,Zr2,ZnQ,ZnR,ZnS⟩
theorem SC:(∀ x,(Vz x).length=4)∧(∀ x,(Vz x).map AV.ro=Vz x)∧(∀ x,AV.nm (.agg (Vz x))=.agg (Vz x))∧(∀ x,(Vz x)[0]? = some (.str x.Name))∧(∀ x,(Vz x)[1]? = some (.lst 3 (x.Params.map X7)))∧(∀ x,(Vz x)[2]? = some (.lst 13 (x.Sites.map Zk)))∧(∀ x,(Vz x)[3]? = some (.lst 3 (x.Links.map GH))):=⟨ZtI,Zrm,Zw7,ZyI,ZyJ,ZyK,ZyL⟩
def Z6Q (s:Zo):Zi4:=⟨s.Name,s.Vars.map X7,s.Resources.map Zh,s.Stores.map Yt,s.Belts.map YQ,strs s.Queues,strs s.Streams,strs s.Tallies,strs s.Levels,strs s.Counts,s.Routines.map Y3,s.Starts.map Xq,s.Laws.map DV⟩
theorem ZzT {α:Type}{row:α→List AV}{W:Nat}(l:List α)(hl:l.length≤8796093022208)(h1:∀ x,(row x).length=W)(h2:∀ x,(row x).map AV.ro=row x)(h3:∀ x,row x=.str (nameOf (row x)) :: (row x).tail):Zmu W (l.map row) :=
 ⟨by simpa using hl,fun r hr=>by obtain ⟨x,_,rfl⟩:=List.mem_map.1 hr; exact ⟨h1 x,h2 x,h3 x⟩⟩
theorem ZwD (l:List (List UInt8))(hl:l.length≤8796093022208):Zmu 1 (strs l):=ZzT (row := fun x=>[.str x]) l hl (fun _=>rfl) (fun _=>rfl) (fun _=>rfl)
theorem Z2f {s:Zo}(h:YO s):ZkR (Z6Q s):=by
 have:=h.Vars.1; have:=h.Resources.1; have:=h.Stores.1; have:=h.Belts.1; have:=h.Queues.1; have:=h.Streams.1; have:=h.Tallies.1; have:=h.Levels.1; have:=h.Counts.1; have:=h.Routines.1; have:=h.Starts.1; have:=h.Laws.1
 exact ⟨ZzT _ (by omega) Zny Zmh (fun _=>rfl),ZzT _ (by omega) X4 FV (fun _=>rfl),ZzT _ (by omega) Zbz ZaB (fun _=>rfl),ZzT _ (by omega) ZfA ZdQ (fun _=>rfl),ZwD _ (by omega),ZwD _ (by omega),ZwD _ (by omega),ZwD _ (by omega),ZwD _ (by omega),ZzT _ (by omega) OU ZfB (fun _=>rfl),by simp [Z6Q]; omega,by simp [Z6Q]; omega⟩
theorem ZlR {α:Type}{row:α→List AV}{nm:α→List UInt8}(hn:∀ x,nameOf (row x)=nm x)(s:List UInt8):∀ (l:List α) (i:Nat),decide (0≤Sm (isN s) (l.map row) i)=(l.map nm).contains s
 | [],i=>rfl
 | x :: r,i=>by
  have ih:=ZlR hn s r (i + 1)
  simp only [List.map_cons,Sm,List.contains_cons,isN,hn]
  by_cases h:nm x=s
  ·have h':(s == nm x)=true:=by simp [h]
   simp [h,h']
  ·have h':(s == nm x)=false:=by simp; exact fun e=>h e.symm
   simp only [h,h',decide_false,Bool.false_eq_true,if_false,Bool.false_or]
   exact ih
theorem Zuu {α:Type}{row:α→List AV}{nm:α→List UInt8}(hn:∀ x,nameOf (row x)=nm x)(s:List UInt8)(l:List α):decide (Sm (isN s) (l.map row) 0 < 0)=!(l.map nm).contains s:=by
 rw [← ZlR hn s l 0,← decide_not]
 congr 1; apply propext; omega
theorem ZvS {α:Type}{row:α→List AV}{nm:α→List UInt8}(hn:∀ x,nameOf (row x)=nm x)(s:List UInt8):∀ (l:List α) (i:Nat),(l.find? (fun x=>decide (nm x=s))=none∧Sm (isN s) (l.map row) i=-1)∨∃ (k:Nat) (x:α),Sm (isN s) (l.map row) i=(i + k:Nat)∧l[k]? = some x∧l.find? (fun x=>decide (nm x=s))=some x
 | [],i=>.inl ⟨rfl,rfl⟩
 | x :: r,i=>by
  simp only [List.map_cons,Sm,isN,hn,List.find?_cons]
  by_cases h:nm x=s
  ·right
   exact ⟨0,x,by rw [decide_eq_true h]; rfl,rfl,by rw [decide_eq_true h]⟩
  ·simp only [h,decide_false,Bool.false_eq_true,if_false]
   rcases ZvS hn s r (i + 1) with ⟨h1,h2⟩ | ⟨k,y,h1,h2,h3⟩
   ·left; exact ⟨h1,by rw [← h2]⟩
   ·right
    refine ⟨k + 1,y,?_,by simpa using h2,h3⟩
    rw [h1]; congr 1; omega
theorem Z78 (s:List UInt8)(l:List (List UInt8)):decide (0≤Sm (isN s) (strs l) 0)=l.contains s∧decide (Sm (isN s) (strs l) 0 < 0)=!l.contains s:=by
 have h1:=ZlR (row := fun x:List UInt8=>[AV.str x]) (nm := id) (fun _=>rfl) s l 0
 have h2:=Zuu (row := fun x:List UInt8=>[AV.str x]) (nm := id) (fun _=>rfl) s l
 rw [List.map_id] at h1 h2
 exact ⟨h1,h2⟩
theorem Z77 (s:List UInt8)(l:List QJ):decide (0≤Sm (isN s) (l.map Y3) 0)=(l.map (·.Name)).contains s∧decide (Sm (isN s) (l.map Y3) 0 < 0)=!(l.map (·.Name)).contains s :=
 ⟨ZlR (nm := fun x:QJ=>x.Name) (fun _=>rfl) s l 0,Zuu (nm := fun x:QJ=>x.Name) (fun _=>rfl) s l⟩
theorem Bz {C:Cfg}(hC:I8 C)(N:Nat)(hN:2≤N)(hp:HP)(l:List (List UInt8))(s:List UInt8)(hl:l.length≤4611686018427387):Za C N U6 [.lst 1 (strs l),.str s] hp=some (.bool (l.contains s),hp,none):=by
 obtain ⟨m,rfl⟩:∃ m,N=m + 2:=⟨N - 2,by omega⟩
 have q:=fun hp=>Z4I hC m hp s (strs l) (by simpa [strs] using hl) (fun r hr=>by obtain ⟨x,_,rfl⟩:=List.mem_map.1 hr; rfl)
 refine Cf (by rw [hC.T]; rfl) ?_
 simp only [Bo,EV,LD,q,Z78]
theorem ZhN {C:Cfg}(hC:I8 C)(N:Nat)(hN:3≤N)(hp:HP)(d:Zo)(s:List UInt8)(hd:YO d):Za C N Ec [.agg (Zk d),.str s] hp=some (.int .i64 (Sm (isN s) (d.Routines.map Y3) 0),hp,none):=by
 obtain ⟨m,rfl⟩:∃ m,N=m + 3:=⟨N - 3,by omega⟩
 exact Zzv hC m hp (Z6Q d) s (Z2f hd)
def fitsT (t n:Int):Bool:=if decide (t=1)=true then inB n else if decide (t=2)=true then (decide (n=0) || decide (n=1)) else if decide (t=3)=true then btw n 0 1000000000 else false
theorem MQ {C:Cfg}(hC:I8 C)(N:Nat)(hN:1≤N)(hp:HP)(x lo hi:Int):Za C N Vu [.int .i64 x,.int .i64 lo,.int .i64 hi] hp=some (.bool (btw x lo hi),hp,none):=by
 obtain ⟨m,rfl⟩:∃ m,N=m + 1:=⟨N - 1,by omega⟩
 refine ZoM (by rw [hC.T]; rfl) ?_
 generalize Za C m=K at *
 simp only [Zj6,EV,LD,BL,IFJ,reduceAdd,reduceLeDiff,Nat.reduceBEq,GI,btw]
theorem ZlO {C:Cfg}(hC:I8 C)(N:Nat)(hN:1≤N)(hp:HP)(x:Int):Za C N Zai [.int .i64 x] hp=some (.bool (btw x 1 3),hp,none):=by
 obtain ⟨m,rfl⟩:∃ m,N=m + 1:=⟨N - 1,by omega⟩
 refine ZqG (by rw [hC.T]; rfl) ?_
 generalize Za C m=K at *
 simp only [Zlx,EV,LD,BL,IFJ,reduceAdd,reduceLeDiff,Nat.reduceBEq,GI,btw]
theorem ZnL {C:Cfg}(hC:I8 C)(N:Nat)(hN:2≤N)(hp:HP)(x n:Int):Za C N Zb1 [.int .i64 x,.int .i64 n] hp=some (.bool (fitsT x n),hp,none):=by
 obtain ⟨m,rfl⟩:∃ m,N=m + 1:=⟨N - 1,by omega⟩
 have q0:=Zuo hC m (by omega)
 have q1:=MQ hC m (by omega)
 refine Zs7 (by rw [hC.T]; rfl) ?_
 generalize Za C m=K at *
 simp only [ZnE,EV,LD,BL,IFJ,reduceAdd,reduceLeDiff,Nat.reduceBEq,GI,q0,q1,fitsT]
def Z5G (cyc:Int):Option Int→List Kq→Int
 | _,[]=>0
 | p,c :: r=>if (!(btw c.At_ 0 (cyc - 1)) || !(btw c.Units 0 1000))=true then 2 else if (p.isSome && decide (c.At_≤p.getD 0))=true then 12 else Z5G cyc (some c.At_) r
def Z6P (d:Zy):Int :=
 if decide ((d.Shift.length:Int)=0)=true then (if decide (d.Cycle≠0)=true then 1 else 0)
 else if decide (20 < (d.Shift.length:Int))=true then 6 else if (!(btw d.Cycle 1 1000000000))=true then 2 else Z5G d.Cycle none d.Shift
def Zq7 (q:List Kq):Option Int:=q.getLast?.map (·.At_)
theorem VF.s {d:Zy}(h:VF d):d.Shift.length≤4611686018427387:=by have:=h.Shift.1; omega
theorem Z5q (l q r:List Kq)(x:Kq)(h:l=q ++ x :: r)(hb:l.length≤4611686018427387) :
  (Zq7 q=none∧decide ((0:Int) < (q.length:Int))=false)∨∃ a:Kq,Zq7 q=some a.At_∧decide ((0:Int) < (q.length:Int))=true∧Y4 (.slice 2) (.lst 2 (l.map Vg)) (.int .i64 (IntKind.i64.wrap ((q.length:Int) - 1)))=some (.ref (Vg a)):=by
 rcases List.eq_nil_or_concat q with rfl | ⟨q',a,rfl⟩
 ·left; exact ⟨rfl,by decide⟩
 ·right
  refine ⟨a,by simp [Zq7],by simp <;> omega,?_⟩
  have hl:q'.length < 4611686018427387904:=by subst h; simp at hb; omega
  have e:IntKind.i64.wrap (((q'.concat a).length:Int) - 1)=(q'.length:Int):=by
   rw [ZzZ (by simp <;> omega) (by simp <;> omega)]; simp
  rw [e,Qu]
  subst h
  simp
theorem Zxx (q:List Kq)(x:Kq):Zq7 (q ++ [x])=some x.At_:=by simp [Zq7]
theorem Zdj {C:Cfg}(K:KT)(hp0:HP)(d:Zy)(hd:VF d)(hc:IntKind.i64.wrap (d.Cycle - 1)=d.Cycle - 1)(g:Nat)(tg:TypeId)(hW:∀ hp x lo hi,K Vu [.int .i64 x,.int .i64 lo,.int .i64 hi] hp=some (.bool (btw x lo hi),hp,none)):∀ (r q:List Kq) (m:Nat) (hp:HP),d.Shift=q ++ r→r.length < m→hp0.length≤hp.length→hp[g]? = some (.cells (Zh d) tg) →
  V8 C.G K C.L hp0 (GX C.G K C.L hp0) m (.ptr g 0) (.lst 2 (d.Shift.map Vg)) (.int .i64 (d.Shift.length:Int)) (.int .i64 (q.length:Int)) hp none=some (.int .i64 (Z5G d.Cycle (Zq7 q) r),hp0,none)
 | _,_,0,_,_,h,_,_=>by omega
 | [],q,m + 1,hp,h,_,hh,hg=>by
  have l0:=lp0 h
  simp only [V8,IX,GV,GX,COe,reduceAdd,reduceLeDiff,Nat.reduceBEq,LG hg,Il,l0,Z5G]
 | x :: r,q,m + 1,hp,h,hm,hh,hg=>by
  obtain ⟨a1,a2,a3,a4,a5⟩:=lp Vg h hd.s
  have ih:=Zdj (C := C) K hp0 d hd hc g tg hW r (q ++ [x]) m (hp ++ [.cells (Vg x) Zmo]) a4 (by simpa using hm) (by simp; omega) (Du hg _)
  rw [Zxx] at ih
  rcases Z5q d.Shift q r x h hd.s with ⟨p1,p2⟩ | ⟨a,p1,p2,p3⟩
  ·simp only [V8,IX,GV,GX,COe,reduceAdd,reduceLeDiff,Nat.reduceBEq,LG hg,Il,Zw0,STA hh,a1,a2,a3,Qu,hc,hW,p1,p2,ih,Z5G,Option.isSome_none,Option.isSome_some,Option.getD_some]
   cases btw x.At_ 0 (d.Cycle - 1) <;> simp only [BL,IFJ]
  ·simp only [V8,IX,GV,GX,COe,reduceAdd,reduceLeDiff,Nat.reduceBEq,LG hg,Il,Zw0,STA hh,a1,a2,a3,Qu,hc,hW,p1,p2,p3,ih,Z5G,Option.isSome_none,Option.isSome_some,Option.getD_some]
   cases btw x.At_ 0 (d.Cycle - 1) <;> simp only [BL,IFJ]
theorem Zo6 {C:Cfg}(hC:I8 C)(N:Nat)(hN:2≤N)(hp:HP)(d:Zy)(hd:VF d):Za C N ZbP [.agg (Zh d)] hp=some (.int .i64 (Z6P d),hp,none):=by
 obtain ⟨m,rfl⟩:∃ m,N=m + 1:=⟨N - 1,by omega⟩
 have q0:=MQ hC m (by omega)
 refine Zma (by rw [hC.T]; rfl) ?_
 by_cases hc:btw d.Cycle 1 1000000000=true
 ·have hcw:IntKind.i64.wrap (d.Cycle - 1)=d.Cycle - 1:=by
   simp only [btw,Bool.and_eq_true,decide_eq_true_eq] at hc
   exact ZzZ (by omega) (by omega)
  have h:=Zdj (C := C) (Za C m) hp d hd hcw hp.length Yj q0 d.Shift [] C.L (hp ++ [.cells (Zh d) Yj]) rfl (by have:=hC.L; have:=hd.s; omega) (by simp) (Wj _ _)
  simp only [List.length_nil,Int.natCast_zero] at h
  have e0:Zq7 []=none:=rfl
  rw [e0] at h
  simp only [FN,COe,reduceAdd,reduceLeDiff,Nat.reduceBEq,Il,Z6P,h,q0,hc]
  skip
 have hc:btw d.Cycle 1 1000000000=false:=by simpa using hc
 simp only [FN,EV,LD,BL,IFJ,reduceAdd,reduceLeDiff,Nat.reduceBEq,GI,q0,Il,Z6P,hc]
end Go.Proofs.YtlmfmmclnboglaaGreat
end
section
namespace Go.Proofs.YtlmfmmclnboglaaGreat
open Go Go.RowKit Go.Proofs.YtlmfmmclnboglaaGreat.Abs
open Nat (reduceAdd reduceLeDiff)
set_option maxRecDepth 100000
theorem YO.st {d:Zo}(h:YO d):d.Streams.length≤4611686018427387∧d.Counts.length≤4611686018427387∧d.Stores.length≤4611686018427387∧d.Routines.length≤4611686018427387:=by
 have:=h.Streams.1; have:=h.Counts.1; have:=h.Stores.1; have:=h.Routines.1; omega
def Z0B (d:Zo)(f:Zd5):Int :=
 if (decide (f.Stream=[]) && (!(ZwR f.Up) || !(ZwR f.Down)))=true then 1 else if decide (f.Stream=[])=true then 0 else if (!(d.Streams.contains f.Stream))=true then 5 else if decide (ZpW f.Up≠0)=true then ZpW f.Up else ZpW f.Down
def Z50 (s:Zo)(d:Zy):Int:=if (!(btw d.Units 0 1000))=true then 2 else if decide (Z6P d≠0)=true then Z6P d else Z0B s d.Fault
theorem Zo4 {C:Cfg}(hC:I8 C)(N:Nat)(hN:6≤N)(hp:HP)(d:Zo)(f:Zd5)(hd:YO d)(hf:ZwV f):Za C N ZbO [.agg (Zk d),.agg (SB f)] hp=some (.int .i64 (Z0B d f),hp,none):=by
 obtain ⟨m,rfl⟩:∃ m,N=m + 1:=⟨N - 1,by omega⟩
 have q0:=Zgh hC m (by omega)
 have q1:=Bz hC m (by omega)
 have q2:=ZnI hC m (by omega)
 refine ZlX (by rw [hC.T]; rfl) ?_
 generalize Za C m=K at *
 simp only [Zgf,EV,LD,BL,IFJ,reduceAdd,reduceLeDiff,Nat.reduceBEq,GI,q0,q1,q2,hd.st,hf.Up,hf.Down,hf.Stream,XN,ZyD,Zik,LDP,Z58,Z0B]
def ZwM (t:PY)(found:Bool):Int:=if (!found)=true then 5 else if (!(btw t.Coef (-1000) 1000) || decide (t.Coef=0))=true then 2 else 0
def ZzV (d:Zo)(t:PY):Int:=if decide (t.What=[99,114,101,97,116,101,100])=true then ZwM t ((d.Routines.map (·.Name)).contains t.Name) else if decide (t.What=[101,110,100,101,100])=true then ZwM t ((d.Routines.map (·.Name)).contains t.Name) else if decide (t.What=[105,110,115,105,100,101])=true then ZwM t ((d.Routines.map (·.Name)).contains t.Name) else if decide (t.What=[115,116,111,114,101,100])=true then ZwM t ((d.Stores.map (·.Name)).contains t.Name) else if decide (t.What=[101,110,116,101,114,101,100])=true then ZwM t ((d.Stores.map (·.Name)).contains t.Name) else if decide (t.What=[108,101,102,116])=true then ZwM t ((d.Stores.map (·.Name)).contains t.Name) else if decide (t.What=[99,111,117,110,116,101,100])=true then ZwM t (d.Counts.contains t.Name) else 1
theorem Zsz {C:Cfg}(hC:I8 C)(N:Nat)(hN:1≤N)(hp:HP)(x:Qr)(t:PY)(g:Nat)(tg:TypeId)(hg:hp[g]? = some (.cells (Io t) tg)):Za C N AP [.agg (Yt x),.ptr g 0] hp=some (.bool (decide (x.Name=t.Name)),hp,none):=by
 obtain ⟨m,rfl⟩:∃ m,N=m + 1:=⟨N - 1,by omega⟩
 refine ZoL (by rw [hC.T]; rfl) ?_
 simp only [Zj5,COe,reduceAdd,reduceLeDiff,Nat.reduceBEq,LG hg,ZbI,ZuN]
theorem Zqa {C:Cfg}(hC:I8 C)(N:Nat)(hN:3≤N)(hp:HP)(d:Zo)(hd:YO d)(t:PY)(g:Nat)(tg:TypeId)(hg:hp[g]? = some (.cells (Io t) tg)):Za C N V7 [.lst 3 (d.Stores.map Yt),.fn AP [] [.ptr g 0]] hp=some (.bool ((d.Stores.map (·.Name)).contains t.Name),hp,none):=by
 obtain ⟨m,rfl⟩:∃ m,N=m + 3:=⟨N - 3,by omega⟩
 have q:=Cc hC (m + 1) hp AP [.ptr g 0] (isN t.Name) (d.Stores.map Yt) (by simpa using hd.st.2.2.1) (fun r hr=>by obtain ⟨x,_,rfl⟩:=List.mem_map.1 hr; exact ⟨Zbz x,ZaB x⟩) (fun r hr=>by
  obtain ⟨x,_,rfl⟩:=List.mem_map.1 hr
  exact Zsz hC (m + 1) (by omega) hp x t g tg hg)
 refine MF (by rw [hC.T]; rfl) ?_
 simp only [UV,EV,q,ZlR (row := Yt) (nm := fun x:Qr=>x.Name) (fun _=>rfl)]
theorem ZvB {C:Cfg}(hC:I8 C)(N:Nat)(hN:4≤N)(hp:HP)(d:Zo)(t:PY)(hd:YO d):Za C N ZgC [.agg (Zk d),.agg (Io t)] hp=some (.int .i64 (ZzV d t),hp,none):=by
 obtain ⟨m,rfl⟩:∃ m,N=m + 1:=⟨N - 1,by omega⟩
 have q1:=MQ hC m (by omega)
 have q2:=ZhN hC m (by omega)
 have q3:=Bz hC m (by omega)
 have q4:=Zqa hC m (by omega) (hp ++ [.cells (Zk d) Zb] ++ [.cells (Io t) Ci]) d hd t (hp ++ [Z5.cells (Zk d) Zb]).length Ci (Wj _ _)
 refine ZsA (by rw [hC.T]; rfl) ?_
 simp only [Zh4,Et,Eu,Ia,COe,reduceAdd,reduceLeDiff,Nat.reduceBEq,XN,ZuN,q1,q2,q3,q4,hd,hd.st,Z77,ZzV,ZwM]
def Z2g (s:KY):Int:=if (!(btw s.At_ 0 1000000000) || !(btw s.Every 0 1000000000) || !(btw s.Until 0 1000000000) || (decide (s.Every=0) && decide (s.Until≠0)))=true then 2 else 0
def Z0h (tl:Int):List KD→List Int→Int
 | p :: ps,a :: ys=>if (!(fitsT p.Ty a))=true then 2 else Z0h tl ps ys
 | _,_=>tl
def Zmn (d:Zo)(s:KY):Int :=
 match d.Routines.find? (fun r=>decide (r.Name=s.Routine)) with
 | none=>5
 | some r=>if decide ((s.Args.length:Int)≠(r.Params.length:Int))=true then 8 else Z0h (Z2g s) r.Params s.Args
theorem Zak.a {s:KY}(h:Zak s):s.Args.length≤4611686018427387:=by have:=h.Args.1; omega
theorem PX.p {r:QJ}(h:PX r):r.Params.length≤4611686018427387∧r.Locals.length≤4611686018427387∧Z2l r.Body:=by
 have:=h.Params.1; have:=h.Locals.1; have:=h.Body
 exact ⟨by omega,by omega,by omega,this.2⟩
theorem Zgj {C:Cfg}(K:KT)(hp0 hp:HP)(s:KY)(hs:Zak s)(ps:List KD)(hps:ps.length≤4611686018427387)(g:Nat)(tg:TypeId)(hg:hp[g]? = some (.cells (Xq s) tg))(hW:∀ hp x lo hi,K Vu [.int .i64 x,.int .i64 lo,.int .i64 hi] hp=some (.bool (btw x lo hi),hp,none))(hF:∀ hp x n,K Zb1 [.int .i64 x,.int .i64 n] hp=some (.bool (fitsT x n),hp,none)):∀ (r1 q1:List KD) (r2 q2:List Int) (m:Nat),ps=q1 ++ r1→s.Args=q2 ++ r2→q1.length=q2.length→r1.length=r2.length→r1.length < m →
  Tu C.G K C.L hp0 (Nl C.G K C.L hp0) m (.ptr g 0) (.lst 2 (ps.map Vh)) (.lst 1 (ints s.Args)) (.int .i64 (s.Args.length:Int)) (.int .i64 (q1.length:Int)) hp none=some (.int .i64 (Z0h (Z2g s) r1 r2),hp0,none)
 | _,_,_,_,0,_,_,_,_,h=>by omega
 | [],q1,[],q2,m + 1,h1,h2,hq,_,_=>by
  have l0:=lp0 h1
  have l1:=lp0 h2
  rw [← hq] at l1
  simp only [Tu,Nl,COe,reduceAdd,reduceLeDiff,Nat.reduceBEq,LG hg,ZfC,l0,l1,hW,Z0h,Z2g]
  try rfl
 | [],q1,y :: r2,q2,m + 1,_,_,_,h,_=>by simp at h
 | x :: r1,q1,[],q2,m + 1,_,_,_,h,_=>by simp at h
 | x :: r1,q1,y :: r2,q2,m + 1,h1,h2,hq,hr,hm=>by
  obtain ⟨a1,a2,a3,a4,_⟩:=lp Vh h1 hps
  obtain ⟨b1,b2,_,b4,_⟩:=lp (fun x=>[.int .i64 x]) h2 hs.a
  rw [← hq] at b1 b2
  have g2:(ints s.Args)[q1.length]? = some [.int .i64 y]:=b2
  have ih:=Zgj (C := C) K hp0 hp s hs ps hps g tg hg hW hF r1 (q1 ++ [x]) r2 (q2 ++ [y]) m a4 b4 (by simp [hq]) (by simpa using hr) (by simpa using hm)
  simp only [Tu,COe,reduceAdd,reduceLeDiff,Nat.reduceBEq,LG hg,ZfC,Zpo,a1,a2,a3,b1,Qu,g2,hF,ih,Z0h]
theorem Zum {C:Cfg}(hC:I8 C)(N:Nat)(hN:5≤N)(hp:HP)(d:Zo)(s:KY)(hd:YO d)(hs:Zak s):Za C N Zfj [.agg (Zk d),.agg (Xq s)] hp=some (.int .i64 (Zmn d s),hp,none):=by
 obtain ⟨m,rfl⟩:∃ m,N=m + 1:=⟨N - 1,by omega⟩
 have q1:=MQ hC m (by omega)
 have q2:=ZnL hC m (by omega)
 have q3:=ZhN hC m (by omega)
 skip
 refine ZqI (by rw [hC.T]; rfl) ?_
 rcases ZvS (row := Y3) (nm := fun x:QJ=>x.Name) (fun _=>rfl) s.Routine d.Routines 0 with ⟨h1,h2⟩ | ⟨k,r,h1,h2,h3⟩
 ·simp only [Za0,COe,reduceAdd,reduceLeDiff,Nat.reduceBEq,XN,ZfC,q3,hd,h2,Zmn,h1]
  rfl
 ·have hr:=hd.Routines.2 r (List.mem_of_getElem? h2)
  rw [Nat.zero_add] at h1
  have h4:decide (((k:Nat):Int) < 0)=false:=by simp only [decide_eq_false_iff_not]; omega
  have h5:(d.Routines.map Y3)[k]? = some (Y3 r):=by rw [List.getElem?_map,h2]; rfl
  by_cases hlen:s.Args.length=r.Params.length
  ·have h:=Zgj (C := C) (Za C m) hp (hp ++ [.cells (Zk d) Zb] ++ [.cells (Xq s) XO]) s hs r.Params hr.p.1 (hp ++ [Z5.cells (Zk d) Zb]).length XO (Wj _ _) q1 q2 r.Params [] s.Args [] C.L rfl rfl rfl hlen.symm (by have:=hC.L; have:=hr.p.1; omega)
   simp only [List.length_nil,Int.natCast_zero] at h
   have h6:decide ((s.Args.length:Int)≠(r.Params.length:Int))=false:=by simp only [decide_eq_false_iff_not]; omega
   simp only [Za0,COe,reduceAdd,reduceLeDiff,Nat.reduceBEq,XN,ZfC,Ag,BA,q3,hd,h1,h4,Qu,h5,h6,h,Zmn,h3]
  ·have h6:decide ((s.Args.length:Int)≠(r.Params.length:Int))=true:=by simp only [decide_eq_true_eq]; omega
   simp only [Za0,COe,reduceAdd,reduceLeDiff,Nat.reduceBEq,XN,ZfC,Ag,BA,q3,hd,h1,h4,Qu,h5,h6,Zmn,h3]
end Go.Proofs.YtlmfmmclnboglaaGreat
end
section
namespace Go.Proofs.YtlmfmmclnboglaaGreat
open Go Go.RowKit Go.Proofs.YtlmfmmclnboglaaGreat.Abs
open Nat (reduceAdd reduceLeDiff)
set_option maxRecDepth 100000
abbrev Seen:=List (List UInt8)
def Jc (s:List UInt8)(seen:Seen):Int×Seen:=if decide (Zev s≠0)=true then (Zev s,seen) else if seen.contains s=true then (4,seen) else (0,seen ++ [s])
def PS (s:List UInt8)(rest:Int)(seen:Seen):Int×Seen:=if decide ((Jc s seen).1≠0)=true then Jc s seen else (rest,(Jc s seen).2)
def ZjL (v:Uy):Int:=if (!(btw v.Ty 1 3))=true then 1 else if (!(fitsT v.Ty v.N))=true then 2 else 0
def ZrF (x:Qr):Int:=if (!(btw x.Room 1 1000))=true then 2 else if (decide (x.Policy < 1) || decide (3 < x.Policy))=true then 1 else 0
def ZwY (x:Xn):Int:=if (!(btw x.Length 1 1000) || !(btw x.Step 1 1000))=true then 2 else 0
def JI {α σ:Type}(most:Int)(step:α→σ→Int×σ)(l:List α)(s:σ):Int×σ:=if decide (most < (l.length:Int))=true then (6,s) else Ui step l s
def ZvH {α:Type}(most:Int)(f:α→Int)(l:List α):Int:=if decide (most < (l.length:Int))=true then 6 else ZeP f l
def Does {σ:Type}(g:Nat)(es:σ→List (AV×AV))(s:σ)(hp:HP)(p:Int×σ)(r:KR):Prop:=Sc g (es s) (es p.2) hp p.1 r
theorem Zf4 {C:Cfg}(hC:I8 C)(N:Nat)(hN:3≤N)(hp:HP)(g:Nat)(seen:Seen)(s:List UInt8)(hg:hp[g]? = some (.map (Sl seen)))(hs:s.length≤140737488351232):Does g Sl seen hp (Jc s seen) (Za C N Qa [.map g,.str s] hp):=by
 obtain ⟨m,rfl⟩:∃ m,N=m + 1:=⟨N - 1,by omega⟩
 have q:=fun hp=>Zcw hC m (by omega) hp s hs
 have hlt:g < hp.length:=(List.getElem?_eq_some_iff.1 hg).1
 by_cases h1:Zev s=0
 ·by_cases h2:seen.contains s=true
  ·have e:Jc s seen=(4,seen):=by simp only [Jc,h1,h2]; rfl
   have k:Za C (m + 1) Qa [.map g,.str s] hp=some (.int .i64 4,hp,none):=by
    refine P7 (by rw [hC.T]; rfl) ?_
    simp only [Be,EV,q,h1,ZvZ hg,h2,ne_eq,not_true_eq_false,decide_false,IFJ]
   rw [e,k]
   exact ⟨hp,none,rfl,Upd.refl hg,Efs.refl _ _⟩
  ·have h2':seen.contains s=false:=by simpa using h2
   have e:Jc s seen=(0,seen ++ [s]):=by simp only [Jc,h1,h2']; rfl
   have k:Za C (m + 1) Qa [.map g,.str s] hp=some (Vm false hp (.int .i64 0) (hp.set g (.map (Sl (seen ++ [s])))) (some (g,0))):=by
    refine P7 (by rw [hC.T]; rfl) ?_
    have nt:Zd1 hp.length none g 0=some (g,0):=by simp [Zd1,hlt,Eff.or]
    simp only [Be,EV,q,h1,ZvZ hg,h2',Z1f hg s h2',nt,ne_eq,not_true_eq_false,decide_false,IFJ]
   rw [e,k]
   exact Sc.fin 0 hg (Upd.set hg) (.inr rfl)
 ·have e:Jc s seen=(Zev s,seen):=by simp [Jc,h1]
  have k:Za C (m + 1) Qa [.map g,.str s] hp=some (.int .i64 (Zev s),hp,none):=by
   refine P7 (by rw [hC.T]; rfl) ?_
   simp only [Be,EV,q,h1,ne_eq,not_false_eq_true,decide_true,IFJ]
  rw [e,k]
  exact ⟨hp,none,rfl,Upd.refl hg,Efs.refl _ _⟩
theorem ZhJ {C:Cfg}{σ:Type}(K:KT)(hp0:HP)(fv:AV)(l:List Uy)(hl:l.length≤4611686018427387)(step:Uy→σ→Int×σ)(es:σ→List (AV×AV))(g:Nat)(Good:σ→HP→Prop)(hG:∀ s hp x,Good s hp→Good s (hp ++ [x]))
  (hS:∀ x ∈ l,∀ s hp,Good s hp→Does g es s hp (step x s) (Uo K fv [.agg (X7 x)] hp)∧∀ hp',Upd g (es (step x s).2) hp hp'→Good (step x s).2 hp') (s0:σ) (h0:hp0[g]? = some (.map (es s0))):∀ (r q:List Uy) (m:Nat) (hp:HP) (s:σ) (ef:Eff),l=q ++ r→r.length < m→Upd g (es s) hp0 hp→Efs g (es s0) (es s) ef→Good s hp →
  Sc g (es s0) (es (Ui step r s).2) hp0 (Ui step r s).1 (Xx C.G K C.L hp0 (Ud C.G K C.L hp0) m fv (.lst 3 (l.map X7)) (.int .i64 (l.length:Int)) (.int .i64 (q.length:Int)) hp ef)
 | _,_,0,_,_,_,_,h,_,_,_=>by omega
 | [],q,m + 1,hp,s,ef,h,_,hu,he,_=>by
  have l0:=lp0 h
  have k:Xx C.G K C.L hp0 (Ud C.G K C.L hp0) (m + 1) fv (.lst 3 (l.map X7)) (.int .i64 (l.length:Int)) (.int .i64 (q.length:Int)) hp ef=some (Vm false hp0 (.int .i64 0) hp ef):=by
   simp only [Xx,Ud,EV,l0,IFJ]
  rw [k]
  exact Sc.fin 0 h0 hu he
 | x :: r,q,m + 1,hp,s,ef,h,hm,hu,he,hgd=>by
  obtain ⟨a1,a2,a3,a4,a5⟩:=lp X7 h hl
  have hlt:g < hp0.length:=(List.getElem?_eq_some_iff.1 h0).1
  obtain ⟨hS1,hS2⟩:=hS x a5 s (hp ++ [.cells (X7 x) ZbL]) (hG s hp _ hgd)
  obtain ⟨hp',ef',hc,hu',he'⟩:=hS1
  have hgd':=hS2 hp' hu'
  have hu2:=hu.trans hu'.off
  have he2:=he.after hlt he'
  by_cases hz:(step x s).1=0
  ·have ih:=ZhJ (C := C) K hp0 fv l hl step es g Good hG hS s0 h0 r (q ++ [x]) m hp' (step x s).2 (Zf hp0.length ef ef') a4 (by simpa using hm) hu2 he2 hgd'
   have e:Ui step (x :: r) s=Ui step r (step x s).2:=by simp [Ui,hz]
   rw [e]
   simp only [Xx,COe,reduceAdd,reduceLeDiff,Nat.reduceBEq,Zpp,STA hu.1,a1,a2,a3,Qu,hc,hz,ne_eq,not_true_eq_false]
   exact ih
  ·have e:Ui step (x :: r) s=step x s:=by simp [Ui,hz]
   rw [e]
   simp only [Xx,COe,reduceAdd,reduceLeDiff,Nat.reduceBEq,Zpp,STA hu.1,a1,a2,a3,Qu,hc,hz,ne_eq,not_false_eq_true]
   exact Sc.fin _ h0 hu2 he2
theorem Zv5 {C:Cfg}(hC:I8 C){σ:Type}(m:Nat)(hp:HP)(most:Int)(fv:AV)(hro:AV.ro fv=fv)(l:List Uy)(hl:l.length≤4611686018427387)(step:Uy→σ→Int×σ)(es:σ→List (AV×AV))(g:Nat)(Good:σ→HP→Prop)(hG:∀ s hp x,Good s hp→Good s (hp ++ [x]))
  (hS:∀ x ∈ l,∀ s hp,Good s hp→Does g es s hp (step x s) (Uo (Za C m) fv [.agg (X7 x)] hp)∧∀ hp',Upd g (es (step x s).2) hp hp'→Good (step x s).2 hp') (s:σ) (hg:hp[g]? = some (.map (es s))) (h0:Good s hp) :
  Does g es s hp (JI most step l s) (Za C (m + 1) TT [.lst 3 (l.map X7),.int .i64 most,fv] hp):=by
 have h:=ZhJ (C := C) (Za C m) hp fv l hl step es g Good hG hS s hg l [] C.L hp s none rfl (by have:=hC.L; omega) (Upd.refl hg) (Efs.refl _ _) h0
 simp only [List.length_nil,Int.natCast_zero] at h
 by_cases hz:most < (l.length:Int)
 ·have k:Za C (m + 1) TT [.lst 3 (l.map X7),.int .i64 most,fv] hp=some (.int .i64 6,hp,none):=by
   refine F7 (by rw [hC.T]; rfl) ?_
   simp only [TW,COe,reduceAdd,reduceLeDiff,Nat.reduceBEq,hz]
  have e:JI most step l s=(6,s):=by simp [JI,hz]
  rw [k,e]
  exact ⟨hp,none,rfl,Upd.refl hg,Efs.refl _ _⟩
 ·have e:JI most step l s=Ui step l s:=by simp [JI,hz]
  rw [e]
  obtain ⟨hp',ef,h1,h2,h3⟩:=h
  refine ⟨hp',ef,?_,h2,h3⟩
  refine F7 (by rw [hC.T]; rfl) ?_
  simp only [TW,COe,reduceAdd,reduceLeDiff,Nat.reduceBEq,hz,hro]
  exact h1
theorem ZaR {C:Cfg}{σ:Type}(K:KT)(hp0:HP)(fv:AV)(l:List Zy)(hl:l.length≤4611686018427387)(step:Zy→σ→Int×σ)(es:σ→List (AV×AV))(g:Nat)(Good:σ→HP→Prop)(hG:∀ s hp x,Good s hp→Good s (hp ++ [x]))
  (hS:∀ x ∈ l,∀ s hp,Good s hp→Does g es s hp (step x s) (Uo K fv [.agg (Zh x)] hp)∧∀ hp',Upd g (es (step x s).2) hp hp'→Good (step x s).2 hp') (s0:σ) (h0:hp0[g]? = some (.map (es s0))):∀ (r q:List Zy) (m:Nat) (hp:HP) (s:σ) (ef:Eff),l=q ++ r→r.length < m→Upd g (es s) hp0 hp→Efs g (es s0) (es s) ef→Good s hp →
  Sc g (es s0) (es (Ui step r s).2) hp0 (Ui step r s).1 (Qg C.G K C.L hp0 (XT C.G K C.L hp0) m fv (.lst 17 (l.map Zh)) (.int .i64 (l.length:Int)) (.int .i64 (q.length:Int)) hp ef)
 | _,_,0,_,_,_,_,h,_,_,_=>by omega
 | [],q,m + 1,hp,s,ef,h,_,hu,he,_=>by
  have l0:=lp0 h
  have k:Qg C.G K C.L hp0 (XT C.G K C.L hp0) (m + 1) fv (.lst 17 (l.map Zh)) (.int .i64 (l.length:Int)) (.int .i64 (q.length:Int)) hp ef=some (Vm false hp0 (.int .i64 0) hp ef):=by
   simp only [Qg,XT,EV,l0,IFJ]
  rw [k]
  exact Sc.fin 0 h0 hu he
 | x :: r,q,m + 1,hp,s,ef,h,hm,hu,he,hgd=>by
  obtain ⟨a1,a2,a3,a4,a5⟩:=lp Zh h hl
  have hlt:g < hp0.length:=(List.getElem?_eq_some_iff.1 h0).1
  obtain ⟨hS1,hS2⟩:=hS x a5 s (hp ++ [.cells (Zh x) Yj]) (hG s hp _ hgd)
  obtain ⟨hp',ef',hc,hu',he'⟩:=hS1
  have hgd':=hS2 hp' hu'
  have hu2:=hu.trans hu'.off
  have he2:=he.after hlt he'
  by_cases hz:(step x s).1=0
  ·have ih:=ZaR (C := C) K hp0 fv l hl step es g Good hG hS s0 h0 r (q ++ [x]) m hp' (step x s).2 (Zf hp0.length ef ef') a4 (by simpa using hm) hu2 he2 hgd'
   have e:Ui step (x :: r) s=Ui step r (step x s).2:=by simp [Ui,hz]
   rw [e]
   simp only [Qg,COe,reduceAdd,reduceLeDiff,Nat.reduceBEq,Il,STA hu.1,a1,a2,a3,Qu,hc,hz,ne_eq,not_true_eq_false]
   exact ih
  ·have e:Ui step (x :: r) s=step x s:=by simp [Ui,hz]
   rw [e]
   simp only [Qg,COe,reduceAdd,reduceLeDiff,Nat.reduceBEq,Il,STA hu.1,a1,a2,a3,Qu,hc,hz,ne_eq,not_false_eq_true]
   exact Sc.fin _ h0 hu2 he2
theorem Zk7 {C:Cfg}(hC:I8 C){σ:Type}(m:Nat)(hp:HP)(most:Int)(fv:AV)(hro:AV.ro fv=fv)(l:List Zy)(hl:l.length≤4611686018427387)(step:Zy→σ→Int×σ)(es:σ→List (AV×AV))(g:Nat)(Good:σ→HP→Prop)(hG:∀ s hp x,Good s hp→Good s (hp ++ [x]))
  (hS:∀ x ∈ l,∀ s hp,Good s hp→Does g es s hp (step x s) (Uo (Za C m) fv [.agg (Zh x)] hp)∧∀ hp',Upd g (es (step x s).2) hp hp'→Good (step x s).2 hp') (s:σ) (hg:hp[g]? = some (.map (es s))) (h0:Good s hp) :
  Does g es s hp (JI most step l s) (Za C (m + 1) KW [.lst 17 (l.map Zh),.int .i64 most,fv] hp):=by
 have h:=ZaR (C := C) (Za C m) hp fv l hl step es g Good hG hS s hg l [] C.L hp s none rfl (by have:=hC.L; omega) (Upd.refl hg) (Efs.refl _ _) h0
 simp only [List.length_nil,Int.natCast_zero] at h
 by_cases hz:most < (l.length:Int)
 ·have k:Za C (m + 1) KW [.lst 17 (l.map Zh),.int .i64 most,fv] hp=some (.int .i64 6,hp,none):=by
   refine Di (by rw [hC.T]; rfl) ?_
   simp only [Gg,COe,reduceAdd,reduceLeDiff,Nat.reduceBEq,hz]
  have e:JI most step l s=(6,s):=by simp [JI,hz]
  rw [k,e]
  exact ⟨hp,none,rfl,Upd.refl hg,Efs.refl _ _⟩
 ·have e:JI most step l s=Ui step l s:=by simp [JI,hz]
  rw [e]
  obtain ⟨hp',ef,h1,h2,h3⟩:=h
  refine ⟨hp',ef,?_,h2,h3⟩
  refine Di (by rw [hC.T]; rfl) ?_
  simp only [Gg,COe,reduceAdd,reduceLeDiff,Nat.reduceBEq,hz,hro]
  exact h1
theorem Zdi {C:Cfg}{σ:Type}(K:KT)(hp0:HP)(fv:AV)(l:List Qr)(hl:l.length≤4611686018427387)(step:Qr→σ→Int×σ)(es:σ→List (AV×AV))(g:Nat)(Good:σ→HP→Prop)(hG:∀ s hp x,Good s hp→Good s (hp ++ [x]))
  (hS:∀ x ∈ l,∀ s hp,Good s hp→Does g es s hp (step x s) (Uo K fv [.agg (Yt x)] hp)∧∀ hp',Upd g (es (step x s).2) hp hp'→Good (step x s).2 hp') (s0:σ) (h0:hp0[g]? = some (.map (es s0))):∀ (r q:List Qr) (m:Nat) (hp:HP) (s:σ) (ef:Eff),l=q ++ r→r.length < m→Upd g (es s) hp0 hp→Efs g (es s0) (es s) ef→Good s hp →
  Sc g (es s0) (es (Ui step r s).2) hp0 (Ui step r s).1 (Q5 C.G K C.L hp0 (VE C.G K C.L hp0) m fv (.lst 3 (l.map Yt)) (.int .i64 (l.length:Int)) (.int .i64 (q.length:Int)) hp ef)
 | _,_,0,_,_,_,_,h,_,_,_=>by omega
 | [],q,m + 1,hp,s,ef,h,_,hu,he,_=>by
  have l0:=lp0 h
  have k:Q5 C.G K C.L hp0 (VE C.G K C.L hp0) (m + 1) fv (.lst 3 (l.map Yt)) (.int .i64 (l.length:Int)) (.int .i64 (q.length:Int)) hp ef=some (Vm false hp0 (.int .i64 0) hp ef):=by
   simp only [Q5,VE,EV,l0,IFJ]
  rw [k]
  exact Sc.fin 0 h0 hu he
 | x :: r,q,m + 1,hp,s,ef,h,hm,hu,he,hgd=>by
  obtain ⟨a1,a2,a3,a4,a5⟩:=lp Yt h hl
  have hlt:g < hp0.length:=(List.getElem?_eq_some_iff.1 h0).1
  obtain ⟨hS1,hS2⟩:=hS x a5 s (hp ++ [.cells (Yt x) I4]) (hG s hp _ hgd)
  obtain ⟨hp',ef',hc,hu',he'⟩:=hS1
  have hgd':=hS2 hp' hu'
  have hu2:=hu.trans hu'.off
  have he2:=he.after hlt he'
  by_cases hz:(step x s).1=0
  ·have ih:=Zdi (C := C) K hp0 fv l hl step es g Good hG hS s0 h0 r (q ++ [x]) m hp' (step x s).2 (Zf hp0.length ef ef') a4 (by simpa using hm) hu2 he2 hgd'
   have e:Ui step (x :: r) s=Ui step r (step x s).2:=by simp [Ui,hz]
   rw [e]
   simp only [Q5,COe,reduceAdd,reduceLeDiff,Nat.reduceBEq,ZbI,STA hu.1,a1,a2,a3,Qu,hc,hz,ne_eq,not_true_eq_false]
   exact ih
  ·have e:Ui step (x :: r) s=step x s:=by simp [Ui,hz]
   rw [e]
   simp only [Q5,COe,reduceAdd,reduceLeDiff,Nat.reduceBEq,ZbI,STA hu.1,a1,a2,a3,Qu,hc,hz,ne_eq,not_false_eq_true]
   exact Sc.fin _ h0 hu2 he2
theorem Zo2 {C:Cfg}(hC:I8 C){σ:Type}(m:Nat)(hp:HP)(most:Int)(fv:AV)(hro:AV.ro fv=fv)(l:List Qr)(hl:l.length≤4611686018427387)(step:Qr→σ→Int×σ)(es:σ→List (AV×AV))(g:Nat)(Good:σ→HP→Prop)(hG:∀ s hp x,Good s hp→Good s (hp ++ [x]))
  (hS:∀ x ∈ l,∀ s hp,Good s hp→Does g es s hp (step x s) (Uo (Za C m) fv [.agg (Yt x)] hp)∧∀ hp',Upd g (es (step x s).2) hp hp'→Good (step x s).2 hp') (s:σ) (hg:hp[g]? = some (.map (es s))) (h0:Good s hp) :
  Does g es s hp (JI most step l s) (Za C (m + 1) H9 [.lst 3 (l.map Yt),.int .i64 most,fv] hp):=by
 have h:=Zdi (C := C) (Za C m) hp fv l hl step es g Good hG hS s hg l [] C.L hp s none rfl (by have:=hC.L; omega) (Upd.refl hg) (Efs.refl _ _) h0
 simp only [List.length_nil,Int.natCast_zero] at h
 by_cases hz:most < (l.length:Int)
 ·have k:Za C (m + 1) H9 [.lst 3 (l.map Yt),.int .i64 most,fv] hp=some (.int .i64 6,hp,none):=by
   refine N7 (by rw [hC.T]; rfl) ?_
   simp only [HY,COe,reduceAdd,reduceLeDiff,Nat.reduceBEq,hz]
  have e:JI most step l s=(6,s):=by simp [JI,hz]
  rw [k,e]
  exact ⟨hp,none,rfl,Upd.refl hg,Efs.refl _ _⟩
 ·have e:JI most step l s=Ui step l s:=by simp [JI,hz]
  rw [e]
  obtain ⟨hp',ef,h1,h2,h3⟩:=h
  refine ⟨hp',ef,?_,h2,h3⟩
  refine N7 (by rw [hC.T]; rfl) ?_
  simp only [HY,COe,reduceAdd,reduceLeDiff,Nat.reduceBEq,hz,hro]
  exact h1
theorem ZdI {C:Cfg}{σ:Type}(K:KT)(hp0:HP)(fv:AV)(l:List Xn)(hl:l.length≤4611686018427387)(step:Xn→σ→Int×σ)(es:σ→List (AV×AV))(g:Nat)(Good:σ→HP→Prop)(hG:∀ s hp x,Good s hp→Good s (hp ++ [x]))
  (hS:∀ x ∈ l,∀ s hp,Good s hp→Does g es s hp (step x s) (Uo K fv [.agg (YQ x)] hp)∧∀ hp',Upd g (es (step x s).2) hp hp'→Good (step x s).2 hp') (s0:σ) (h0:hp0[g]? = some (.map (es s0))):∀ (r q:List Xn) (m:Nat) (hp:HP) (s:σ) (ef:Eff),l=q ++ r→r.length < m→Upd g (es s) hp0 hp→Efs g (es s0) (es s) ef→Good s hp →
  Sc g (es s0) (es (Ui step r s).2) hp0 (Ui step r s).1 (QT C.G K C.L hp0 (VR C.G K C.L hp0) m fv (.lst 3 (l.map YQ)) (.int .i64 (l.length:Int)) (.int .i64 (q.length:Int)) hp ef)
 | _,_,0,_,_,_,_,h,_,_,_=>by omega
 | [],q,m + 1,hp,s,ef,h,_,hu,he,_=>by
  have l0:=lp0 h
  have k:QT C.G K C.L hp0 (VR C.G K C.L hp0) (m + 1) fv (.lst 3 (l.map YQ)) (.int .i64 (l.length:Int)) (.int .i64 (q.length:Int)) hp ef=some (Vm false hp0 (.int .i64 0) hp ef):=by
   simp only [QT,VR,EV,l0,IFJ]
  rw [k]
  exact Sc.fin 0 h0 hu he
 | x :: r,q,m + 1,hp,s,ef,h,hm,hu,he,hgd=>by
  obtain ⟨a1,a2,a3,a4,a5⟩:=lp YQ h hl
  have hlt:g < hp0.length:=(List.getElem?_eq_some_iff.1 h0).1
  obtain ⟨hS1,hS2⟩:=hS x a5 s (hp ++ [.cells (YQ x) LW]) (hG s hp _ hgd)
  obtain ⟨hp',ef',hc,hu',he'⟩:=hS1
  have hgd':=hS2 hp' hu'
  have hu2:=hu.trans hu'.off
  have he2:=he.after hlt he'
  by_cases hz:(step x s).1=0
  ·have ih:=ZdI (C := C) K hp0 fv l hl step es g Good hG hS s0 h0 r (q ++ [x]) m hp' (step x s).2 (Zf hp0.length ef ef') a4 (by simpa using hm) hu2 he2 hgd'
   have e:Ui step (x :: r) s=Ui step r (step x s).2:=by simp [Ui,hz]
   rw [e]
   simp only [QT,COe,reduceAdd,reduceLeDiff,Nat.reduceBEq,Zf9,STA hu.1,a1,a2,a3,Qu,hc,hz,ne_eq,not_true_eq_false]
   exact ih
  ·have e:Ui step (x :: r) s=step x s:=by simp [Ui,hz]
   rw [e]
   simp only [QT,COe,reduceAdd,reduceLeDiff,Nat.reduceBEq,Zf9,STA hu.1,a1,a2,a3,Qu,hc,hz,ne_eq,not_false_eq_true]
   exact Sc.fin _ h0 hu2 he2
theorem Zqc {C:Cfg}(hC:I8 C){σ:Type}(m:Nat)(hp:HP)(most:Int)(fv:AV)(hro:AV.ro fv=fv)(l:List Xn)(hl:l.length≤4611686018427387)(step:Xn→σ→Int×σ)(es:σ→List (AV×AV))(g:Nat)(Good:σ→HP→Prop)(hG:∀ s hp x,Good s hp→Good s (hp ++ [x]))
  (hS:∀ x ∈ l,∀ s hp,Good s hp→Does g es s hp (step x s) (Uo (Za C m) fv [.agg (YQ x)] hp)∧∀ hp',Upd g (es (step x s).2) hp hp'→Good (step x s).2 hp') (s:σ) (hg:hp[g]? = some (.map (es s))) (h0:Good s hp) :
  Does g es s hp (JI most step l s) (Za C (m + 1) IG [.lst 3 (l.map YQ),.int .i64 most,fv] hp):=by
 have h:=ZdI (C := C) (Za C m) hp fv l hl step es g Good hG hS s hg l [] C.L hp s none rfl (by have:=hC.L; omega) (Upd.refl hg) (Efs.refl _ _) h0
 simp only [List.length_nil,Int.natCast_zero] at h
 by_cases hz:most < (l.length:Int)
 ·have k:Za C (m + 1) IG [.lst 3 (l.map YQ),.int .i64 most,fv] hp=some (.int .i64 6,hp,none):=by
   refine Sz (by rw [hC.T]; rfl) ?_
   simp only [II,COe,reduceAdd,reduceLeDiff,Nat.reduceBEq,hz]
  have e:JI most step l s=(6,s):=by simp [JI,hz]
  rw [k,e]
  exact ⟨hp,none,rfl,Upd.refl hg,Efs.refl _ _⟩
 ·have e:JI most step l s=Ui step l s:=by simp [JI,hz]
  rw [e]
  obtain ⟨hp',ef,h1,h2,h3⟩:=h
  refine ⟨hp',ef,?_,h2,h3⟩
  refine Sz (by rw [hC.T]; rfl) ?_
  simp only [II,COe,reduceAdd,reduceLeDiff,Nat.reduceBEq,hz,hro]
  exact h1
theorem ZeN {C:Cfg}{σ:Type}(K:KT)(hp0:HP)(fv:AV)(l:List QJ)(hl:l.length≤4611686018427387)(step:QJ→σ→Int×σ)(es:σ→List (AV×AV))(g:Nat)(Good:σ→HP→Prop)(hG:∀ s hp x,Good s hp→Good s (hp ++ [x]))
  (hS:∀ x ∈ l,∀ s hp,Good s hp→Does g es s hp (step x s) (Uo K fv [.agg (Y3 x)] hp)∧∀ hp',Upd g (es (step x s).2) hp hp'→Good (step x s).2 hp') (s0:σ) (h0:hp0[g]? = some (.map (es s0))):∀ (r q:List QJ) (m:Nat) (hp:HP) (s:σ) (ef:Eff),l=q ++ r→r.length < m→Upd g (es s) hp0 hp→Efs g (es s0) (es s) ef→Good s hp →
  Sc g (es s0) (es (Ui step r s).2) hp0 (Ui step r s).1 (QZ C.G K C.L hp0 (Jo C.G K C.L hp0) m fv (.lst 4 (l.map Y3)) (.int .i64 (l.length:Int)) (.int .i64 (q.length:Int)) hp ef)
 | _,_,0,_,_,_,_,h,_,_,_=>by omega
 | [],q,m + 1,hp,s,ef,h,_,hu,he,_=>by
  have l0:=lp0 h
  have k:QZ C.G K C.L hp0 (Jo C.G K C.L hp0) (m + 1) fv (.lst 4 (l.map Y3)) (.int .i64 (l.length:Int)) (.int .i64 (q.length:Int)) hp ef=some (Vm false hp0 (.int .i64 0) hp ef):=by
   simp only [QZ,Jo,EV,l0,IFJ]
  rw [k]
  exact Sc.fin 0 h0 hu he
 | x :: r,q,m + 1,hp,s,ef,h,hm,hu,he,hgd=>by
  obtain ⟨a1,a2,a3,a4,a5⟩:=lp Y3 h hl
  have hlt:g < hp0.length:=(List.getElem?_eq_some_iff.1 h0).1
  obtain ⟨hS1,hS2⟩:=hS x a5 s (hp ++ [.cells (Y3 x) Wn]) (hG s hp _ hgd)
  obtain ⟨hp',ef',hc,hu',he'⟩:=hS1
  have hgd':=hS2 hp' hu'
  have hu2:=hu.trans hu'.off
  have he2:=he.after hlt he'
  by_cases hz:(step x s).1=0
  ·have ih:=ZeN (C := C) K hp0 fv l hl step es g Good hG hS s0 h0 r (q ++ [x]) m hp' (step x s).2 (Zf hp0.length ef ef') a4 (by simpa using hm) hu2 he2 hgd'
   have e:Ui step (x :: r) s=Ui step r (step x s).2:=by simp [Ui,hz]
   rw [e]
   simp only [QZ,COe,reduceAdd,reduceLeDiff,Nat.reduceBEq,Ag,STA hu.1,a1,a2,a3,Qu,hc,hz,ne_eq,not_true_eq_false]
   exact ih
  ·have e:Ui step (x :: r) s=step x s:=by simp [Ui,hz]
   rw [e]
   simp only [QZ,COe,reduceAdd,reduceLeDiff,Nat.reduceBEq,Ag,STA hu.1,a1,a2,a3,Qu,hc,hz,ne_eq,not_false_eq_true]
   exact Sc.fin _ h0 hu2 he2
theorem Zsp {C:Cfg}(hC:I8 C){σ:Type}(m:Nat)(hp:HP)(most:Int)(fv:AV)(hro:AV.ro fv=fv)(l:List QJ)(hl:l.length≤4611686018427387)(step:QJ→σ→Int×σ)(es:σ→List (AV×AV))(g:Nat)(Good:σ→HP→Prop)(hG:∀ s hp x,Good s hp→Good s (hp ++ [x]))
  (hS:∀ x ∈ l,∀ s hp,Good s hp→Does g es s hp (step x s) (Uo (Za C m) fv [.agg (Y3 x)] hp)∧∀ hp',Upd g (es (step x s).2) hp hp'→Good (step x s).2 hp') (s:σ) (hg:hp[g]? = some (.map (es s))) (h0:Good s hp) :
  Does g es s hp (JI most step l s) (Za C (m + 1) O3 [.lst 4 (l.map Y3),.int .i64 most,fv] hp):=by
 have h:=ZeN (C := C) (Za C m) hp fv l hl step es g Good hG hS s hg l [] C.L hp s none rfl (by have:=hC.L; omega) (Upd.refl hg) (Efs.refl _ _) h0
 simp only [List.length_nil,Int.natCast_zero] at h
 by_cases hz:most < (l.length:Int)
 ·have k:Za C (m + 1) O3 [.lst 4 (l.map Y3),.int .i64 most,fv] hp=some (.int .i64 6,hp,none):=by
   refine EG (by rw [hC.T]; rfl) ?_
   simp only [O4,COe,reduceAdd,reduceLeDiff,Nat.reduceBEq,hz]
  have e:JI most step l s=(6,s):=by simp [JI,hz]
  rw [k,e]
  exact ⟨hp,none,rfl,Upd.refl hg,Efs.refl _ _⟩
 ·have e:JI most step l s=Ui step l s:=by simp [JI,hz]
  rw [e]
  obtain ⟨hp',ef,h1,h2,h3⟩:=h
  refine ⟨hp',ef,?_,h2,h3⟩
  refine EG (by rw [hC.T]; rfl) ?_
  simp only [O4,COe,reduceAdd,reduceLeDiff,Nat.reduceBEq,hz,hro]
  exact h1
theorem ZlK {C:Cfg}{σ:Type}(K:KT)(hp0:HP)(fv:AV)(l:List Zc1)(hl:l.length≤4611686018427387)(step:Zc1→σ→Int×σ)(es:σ→List (AV×AV))(g:Nat)(Good:σ→HP→Prop)(hG:∀ s hp x,Good s hp→Good s (hp ++ [x]))
  (hS:∀ x ∈ l,∀ s hp,Good s hp→Does g es s hp (step x s) (Uo K fv [.agg (DV x)] hp)∧∀ hp',Upd g (es (step x s).2) hp hp'→Good (step x s).2 hp') (s0:σ) (h0:hp0[g]? = some (.map (es s0))):∀ (r q:List Zc1) (m:Nat) (hp:HP) (s:σ) (ef:Eff),l=q ++ r→r.length < m→Upd g (es s) hp0 hp→Efs g (es s0) (es s) ef→Good s hp →
  Sc g (es s0) (es (Ui step r s).2) hp0 (Ui step r s).1 (XR C.G K C.L hp0 (UG C.G K C.L hp0) m fv (.lst 3 (l.map DV)) (.int .i64 (l.length:Int)) (.int .i64 (q.length:Int)) hp ef)
 | _,_,0,_,_,_,_,h,_,_,_=>by omega
 | [],q,m + 1,hp,s,ef,h,_,hu,he,_=>by
  have l0:=lp0 h
  have k:XR C.G K C.L hp0 (UG C.G K C.L hp0) (m + 1) fv (.lst 3 (l.map DV)) (.int .i64 (l.length:Int)) (.int .i64 (q.length:Int)) hp ef=some (Vm false hp0 (.int .i64 0) hp ef):=by
   simp only [XR,UG,EV,l0,IFJ]
  rw [k]
  exact Sc.fin 0 h0 hu he
 | x :: r,q,m + 1,hp,s,ef,h,hm,hu,he,hgd=>by
  obtain ⟨a1,a2,a3,a4,a5⟩:=lp DV h hl
  have hlt:g < hp0.length:=(List.getElem?_eq_some_iff.1 h0).1
  obtain ⟨hS1,hS2⟩:=hS x a5 s (hp ++ [.cells (DV x) V5]) (hG s hp _ hgd)
  obtain ⟨hp',ef',hc,hu',he'⟩:=hS1
  have hgd':=hS2 hp' hu'
  have hu2:=hu.trans hu'.off
  have he2:=he.after hlt he'
  by_cases hz:(step x s).1=0
  ·have ih:=ZlK (C := C) K hp0 fv l hl step es g Good hG hS s0 h0 r (q ++ [x]) m hp' (step x s).2 (Zf hp0.length ef ef') a4 (by simpa using hm) hu2 he2 hgd'
   have e:Ui step (x :: r) s=Ui step r (step x s).2:=by simp [Ui,hz]
   rw [e]
   simp only [XR,COe,reduceAdd,reduceLeDiff,Nat.reduceBEq,ZyG,STA hu.1,a1,a2,a3,Qu,hc,hz,ne_eq,not_true_eq_false]
   exact ih
  ·have e:Ui step (x :: r) s=step x s:=by simp [Ui,hz]
   rw [e]
   simp only [XR,COe,reduceAdd,reduceLeDiff,Nat.reduceBEq,ZyG,STA hu.1,a1,a2,a3,Qu,hc,hz,ne_eq,not_false_eq_true]
   exact Sc.fin _ h0 hu2 he2
theorem Zzu {C:Cfg}(hC:I8 C){σ:Type}(m:Nat)(hp:HP)(most:Int)(fv:AV)(hro:AV.ro fv=fv)(l:List Zc1)(hl:l.length≤4611686018427387)(step:Zc1→σ→Int×σ)(es:σ→List (AV×AV))(g:Nat)(Good:σ→HP→Prop)(hG:∀ s hp x,Good s hp→Good s (hp ++ [x]))
  (hS:∀ x ∈ l,∀ s hp,Good s hp→Does g es s hp (step x s) (Uo (Za C m) fv [.agg (DV x)] hp)∧∀ hp',Upd g (es (step x s).2) hp hp'→Good (step x s).2 hp') (s:σ) (hg:hp[g]? = some (.map (es s))) (h0:Good s hp) :
  Does g es s hp (JI most step l s) (Za C (m + 1) RD [.lst 3 (l.map DV),.int .i64 most,fv] hp):=by
 have h:=ZlK (C := C) (Za C m) hp fv l hl step es g Good hG hS s hg l [] C.L hp s none rfl (by have:=hC.L; omega) (Upd.refl hg) (Efs.refl _ _) h0
 simp only [List.length_nil,Int.natCast_zero] at h
 by_cases hz:most < (l.length:Int)
 ·have k:Za C (m + 1) RD [.lst 3 (l.map DV),.int .i64 most,fv] hp=some (.int .i64 6,hp,none):=by
   refine Za8 (by rw [hC.T]; rfl) ?_
   simp only [Bf,COe,reduceAdd,reduceLeDiff,Nat.reduceBEq,hz]
  have e:JI most step l s=(6,s):=by simp [JI,hz]
  rw [k,e]
  exact ⟨hp,none,rfl,Upd.refl hg,Efs.refl _ _⟩
 ·have e:JI most step l s=Ui step l s:=by simp [JI,hz]
  rw [e]
  obtain ⟨hp',ef,h1,h2,h3⟩:=h
  refine ⟨hp',ef,?_,h2,h3⟩
  refine Za8 (by rw [hC.T]; rfl) ?_
  simp only [Bf,COe,reduceAdd,reduceLeDiff,Nat.reduceBEq,hz,hro]
  exact h1
theorem ZdJ {C:Cfg}{σ:Type}(K:KT)(hp0:HP)(fv:AV)(l:List Zo)(hl:l.length≤4611686018427387)(step:Zo→σ→Int×σ)(es:σ→List (AV×AV))(g:Nat)(Good:σ→HP→Prop)(hG:∀ s hp x,Good s hp→Good s (hp ++ [x]))
  (hS:∀ x ∈ l,∀ s hp,Good s hp→Does g es s hp (step x s) (Uo K fv [.agg (Zk x)] hp)∧∀ hp',Upd g (es (step x s).2) hp hp'→Good (step x s).2 hp') (s0:σ) (h0:hp0[g]? = some (.map (es s0))):∀ (r q:List Zo) (m:Nat) (hp:HP) (s:σ) (ef:Eff),l=q ++ r→r.length < m→Upd g (es s) hp0 hp→Efs g (es s0) (es s) ef→Good s hp →
  Sc g (es s0) (es (Ui step r s).2) hp0 (Ui step r s).1 (QU C.G K C.L hp0 (VS C.G K C.L hp0) m fv (.lst 13 (l.map Zk)) (.int .i64 (l.length:Int)) (.int .i64 (q.length:Int)) hp ef)
 | _,_,0,_,_,_,_,h,_,_,_=>by omega
 | [],q,m + 1,hp,s,ef,h,_,hu,he,_=>by
  have l0:=lp0 h
  have k:QU C.G K C.L hp0 (VS C.G K C.L hp0) (m + 1) fv (.lst 13 (l.map Zk)) (.int .i64 (l.length:Int)) (.int .i64 (q.length:Int)) hp ef=some (Vm false hp0 (.int .i64 0) hp ef):=by
   simp only [QU,VS,EV,l0,IFJ]
  rw [k]
  exact Sc.fin 0 h0 hu he
 | x :: r,q,m + 1,hp,s,ef,h,hm,hu,he,hgd=>by
  obtain ⟨a1,a2,a3,a4,a5⟩:=lp Zk h hl
  have hlt:g < hp0.length:=(List.getElem?_eq_some_iff.1 h0).1
  obtain ⟨hS1,hS2⟩:=hS x a5 s (hp ++ [.cells (Zk x) Zb]) (hG s hp _ hgd)
  obtain ⟨hp',ef',hc,hu',he'⟩:=hS1
  have hgd':=hS2 hp' hu'
  have hu2:=hu.trans hu'.off
  have he2:=he.after hlt he'
  by_cases hz:(step x s).1=0
  ·have ih:=ZdJ (C := C) K hp0 fv l hl step es g Good hG hS s0 h0 r (q ++ [x]) m hp' (step x s).2 (Zf hp0.length ef ef') a4 (by simpa using hm) hu2 he2 hgd'
   have e:Ui step (x :: r) s=Ui step r (step x s).2:=by simp [Ui,hz]
   rw [e]
   simp only [QU,COe,reduceAdd,reduceLeDiff,Nat.reduceBEq,XN,STA hu.1,a1,a2,a3,Qu,hc,hz,ne_eq,not_true_eq_false]
   exact ih
  ·have e:Ui step (x :: r) s=step x s:=by simp [Ui,hz]
   rw [e]
   simp only [QU,COe,reduceAdd,reduceLeDiff,Nat.reduceBEq,XN,STA hu.1,a1,a2,a3,Qu,hc,hz,ne_eq,not_false_eq_true]
   exact Sc.fin _ h0 hu2 he2
theorem Zqd {C:Cfg}(hC:I8 C){σ:Type}(m:Nat)(hp:HP)(most:Int)(fv:AV)(hro:AV.ro fv=fv)(l:List Zo)(hl:l.length≤4611686018427387)(step:Zo→σ→Int×σ)(es:σ→List (AV×AV))(g:Nat)(Good:σ→HP→Prop)(hG:∀ s hp x,Good s hp→Good s (hp ++ [x]))
  (hS:∀ x ∈ l,∀ s hp,Good s hp→Does g es s hp (step x s) (Uo (Za C m) fv [.agg (Zk x)] hp)∧∀ hp',Upd g (es (step x s).2) hp hp'→Good (step x s).2 hp') (s:σ) (hg:hp[g]? = some (.map (es s))) (h0:Good s hp) :
  Does g es s hp (JI most step l s) (Za C (m + 1) KC [.lst 13 (l.map Zk),.int .i64 most,fv] hp):=by
 have h:=ZdJ (C := C) (Za C m) hp fv l hl step es g Good hG hS s hg l [] C.L hp s none rfl (by have:=hC.L; omega) (Upd.refl hg) (Efs.refl _ _) h0
 simp only [List.length_nil,Int.natCast_zero] at h
 by_cases hz:most < (l.length:Int)
 ·have k:Za C (m + 1) KC [.lst 13 (l.map Zk),.int .i64 most,fv] hp=some (.int .i64 6,hp,none):=by
   refine S9 (by rw [hC.T]; rfl) ?_
   simp only [IJ,COe,reduceAdd,reduceLeDiff,Nat.reduceBEq,hz]
  have e:JI most step l s=(6,s):=by simp [JI,hz]
  rw [k,e]
  exact ⟨hp,none,rfl,Upd.refl hg,Efs.refl _ _⟩
 ·have e:JI most step l s=Ui step l s:=by simp [JI,hz]
  rw [e]
  obtain ⟨hp',ef,h1,h2,h3⟩:=h
  refine ⟨hp',ef,?_,h2,h3⟩
  refine S9 (by rw [hC.T]; rfl) ?_
  simp only [IJ,COe,reduceAdd,reduceLeDiff,Nat.reduceBEq,hz,hro]
  exact h1
theorem Zj8 {C:Cfg}{σ:Type}(K:KT)(hp0:HP)(fv:AV)(l:List EU)(hl:l.length≤4611686018427387)(step:EU→σ→Int×σ)(es:σ→List (AV×AV))(g:Nat)(Good:σ→HP→Prop)(hG:∀ s hp x,Good s hp→Good s (hp ++ [x]))
  (hS:∀ x ∈ l,∀ s hp,Good s hp→Does g es s hp (step x s) (Uo K fv [.agg (GH x)] hp)∧∀ hp',Upd g (es (step x s).2) hp hp'→Good (step x s).2 hp') (s0:σ) (h0:hp0[g]? = some (.map (es s0))):∀ (r q:List EU) (m:Nat) (hp:HP) (s:σ) (ef:Eff),l=q ++ r→r.length < m→Upd g (es s) hp0 hp→Efs g (es s0) (es s) ef→Good s hp →
  Sc g (es s0) (es (Ui step r s).2) hp0 (Ui step r s).1 (X8 C.G K C.L hp0 (Ur C.G K C.L hp0) m fv (.lst 3 (l.map GH)) (.int .i64 (l.length:Int)) (.int .i64 (q.length:Int)) hp ef)
 | _,_,0,_,_,_,_,h,_,_,_=>by omega
 | [],q,m + 1,hp,s,ef,h,_,hu,he,_=>by
  have l0:=lp0 h
  have k:X8 C.G K C.L hp0 (Ur C.G K C.L hp0) (m + 1) fv (.lst 3 (l.map GH)) (.int .i64 (l.length:Int)) (.int .i64 (q.length:Int)) hp ef=some (Vm false hp0 (.int .i64 0) hp ef):=by
   simp only [X8,Ur,EV,l0,IFJ]
  rw [k]
  exact Sc.fin 0 h0 hu he
 | x :: r,q,m + 1,hp,s,ef,h,hm,hu,he,hgd=>by
  obtain ⟨a1,a2,a3,a4,a5⟩:=lp GH h hl
  have hlt:g < hp0.length:=(List.getElem?_eq_some_iff.1 h0).1
  obtain ⟨hS1,hS2⟩:=hS x a5 s (hp ++ [.cells (GH x) EM]) (hG s hp _ hgd)
  obtain ⟨hp',ef',hc,hu',he'⟩:=hS1
  have hgd':=hS2 hp' hu'
  have hu2:=hu.trans hu'.off
  have he2:=he.after hlt he'
  by_cases hz:(step x s).1=0
  ·have ih:=Zj8 (C := C) K hp0 fv l hl step es g Good hG hS s0 h0 r (q ++ [x]) m hp' (step x s).2 (Zf hp0.length ef ef') a4 (by simpa using hm) hu2 he2 hgd'
   have e:Ui step (x :: r) s=Ui step r (step x s).2:=by simp [Ui,hz]
   rw [e]
   simp only [X8,COe,reduceAdd,reduceLeDiff,Nat.reduceBEq,ZkM,STA hu.1,a1,a2,a3,Qu,hc,hz,ne_eq,not_true_eq_false]
   exact ih
  ·have e:Ui step (x :: r) s=step x s:=by simp [Ui,hz]
   rw [e]
   simp only [X8,COe,reduceAdd,reduceLeDiff,Nat.reduceBEq,ZkM,STA hu.1,a1,a2,a3,Qu,hc,hz,ne_eq,not_false_eq_true]
   exact Sc.fin _ h0 hu2 he2
theorem Zxh {C:Cfg}(hC:I8 C){σ:Type}(m:Nat)(hp:HP)(most:Int)(fv:AV)(hro:AV.ro fv=fv)(l:List EU)(hl:l.length≤4611686018427387)(step:EU→σ→Int×σ)(es:σ→List (AV×AV))(g:Nat)(Good:σ→HP→Prop)(hG:∀ s hp x,Good s hp→Good s (hp ++ [x]))
  (hS:∀ x ∈ l,∀ s hp,Good s hp→Does g es s hp (step x s) (Uo (Za C m) fv [.agg (GH x)] hp)∧∀ hp',Upd g (es (step x s).2) hp hp'→Good (step x s).2 hp') (s:σ) (hg:hp[g]? = some (.map (es s))) (h0:Good s hp) :
  Does g es s hp (JI most step l s) (Za C (m + 1) LX [.lst 3 (l.map GH),.int .i64 most,fv] hp):=by
 have h:=Zj8 (C := C) (Za C m) hp fv l hl step es g Good hG hS s hg l [] C.L hp s none rfl (by have:=hC.L; omega) (Upd.refl hg) (Efs.refl _ _) h0
 simp only [List.length_nil,Int.natCast_zero] at h
 by_cases hz:most < (l.length:Int)
 ·have k:Za C (m + 1) LX [.lst 3 (l.map GH),.int .i64 most,fv] hp=some (.int .i64 6,hp,none):=by
   refine CP (by rw [hC.T]; rfl) ?_
   simp only [LY,COe,reduceAdd,reduceLeDiff,Nat.reduceBEq,hz]
  have e:JI most step l s=(6,s):=by simp [JI,hz]
  rw [k,e]
  exact ⟨hp,none,rfl,Upd.refl hg,Efs.refl _ _⟩
 ·have e:JI most step l s=Ui step l s:=by simp [JI,hz]
  rw [e]
  obtain ⟨hp',ef,h1,h2,h3⟩:=h
  refine ⟨hp',ef,?_,h2,h3⟩
  refine CP (by rw [hC.T]; rfl) ?_
  simp only [LY,COe,reduceAdd,reduceLeDiff,Nat.reduceBEq,hz,hro]
  exact h1
theorem Zgi {C:Cfg}{σ:Type}(K:KT)(hp0:HP)(fv:AV)(l:List (List UInt8))(hl:l.length≤4611686018427387)(step:List UInt8→σ→Int×σ)(es:σ→List (AV×AV))(g:Nat)(Good:σ→HP→Prop)
  (hS:∀ x ∈ l,∀ s hp,Good s hp→Does g es s hp (step x s) (Uo K fv [.str x] hp)∧∀ hp',Upd g (es (step x s).2) hp hp'→Good (step x s).2 hp') (s0:σ) (h0:hp0[g]? = some (.map (es s0))):∀ (r q:List (List UInt8)) (m:Nat) (hp:HP) (s:σ) (ef:Eff),l=q ++ r→r.length < m→Upd g (es s) hp0 hp→Efs g (es s0) (es s) ef→Good s hp →
  Sc g (es s0) (es (Ui step r s).2) hp0 (Ui step r s).1 (Vq C.G K C.L hp0 (Ky C.G K C.L hp0) m fv (.lst 1 (strs l)) (.int .i64 (l.length:Int)) (.int .i64 (q.length:Int)) hp ef)
 | _,_,0,_,_,_,_,h,_,_,_=>by omega
 | [],q,m + 1,hp,s,ef,h,_,hu,he,_=>by
  have l0:=lp0 h
  have k:Vq C.G K C.L hp0 (Ky C.G K C.L hp0) (m + 1) fv (.lst 1 (strs l)) (.int .i64 (l.length:Int)) (.int .i64 (q.length:Int)) hp ef=some (Vm false hp0 (.int .i64 0) hp ef):=by
   simp only [Vq,Ky,EV,l0,IFJ]
  rw [k]
  exact Sc.fin 0 h0 hu he
 | x :: r,q,m + 1,hp,s,ef,h,hm,hu,he,hgd=>by
  obtain ⟨a1,a2,a3,a4,a5⟩:=lp (fun x:List UInt8=>[.str x]) h hl
  have g1:(strs l)[q.length]? = some [.str x]:=a2
  have hlt:g < hp0.length:=(List.getElem?_eq_some_iff.1 h0).1
  obtain ⟨hS1,hS2⟩:=hS x a5 s hp hgd
  obtain ⟨hp',ef',hc,hu',he'⟩:=hS1
  have hgd':=hS2 hp' hu'
  have hu2:=hu.trans hu'
  have he2:=he.after hlt he'
  by_cases hz:(step x s).1=0
  ·have ih:=Zgi (C := C) K hp0 fv l hl step es g Good hS s0 h0 r (q ++ [x]) m hp' (step x s).2 (Zf hp0.length ef ef') a4 (by simpa using hm) hu2 he2 hgd'
   have e:Ui step (x :: r) s=Ui step r (step x s).2:=by simp [Ui,hz]
   rw [e]
   simp only [Vq,COe,reduceAdd,reduceLeDiff,Nat.reduceBEq,a1,g1,a3,Qu,hc,hz,ne_eq,not_true_eq_false]
   exact ih
  ·have e:Ui step (x :: r) s=step x s:=by simp [Ui,hz]
   rw [e]
   simp only [Vq,COe,reduceAdd,reduceLeDiff,Nat.reduceBEq,a1,g1,a3,Qu,hc,hz,ne_eq,not_false_eq_true]
   exact Sc.fin _ h0 hu2 he2
theorem Zuk {C:Cfg}(hC:I8 C){σ:Type}(m:Nat)(hp:HP)(most:Int)(fv:AV)(hro:AV.ro fv=fv)(l:List (List UInt8))(hl:l.length≤4611686018427387)(step:List UInt8→σ→Int×σ)(es:σ→List (AV×AV))(g:Nat)(Good:σ→HP→Prop)
  (hS:∀ x ∈ l,∀ s hp,Good s hp→Does g es s hp (step x s) (Uo (Za C m) fv [.str x] hp)∧∀ hp',Upd g (es (step x s).2) hp hp'→Good (step x s).2 hp') (s:σ) (hg:hp[g]? = some (.map (es s))) (h0:Good s hp) :
  Does g es s hp (JI most step l s) (Za C (m + 1) Dn [.lst 1 (strs l),.int .i64 most,fv] hp):=by
 have h:=Zgi (C := C) (Za C m) hp fv l hl step es g Good hS s hg l [] C.L hp s none rfl (by have:=hC.L; omega) (Upd.refl hg) (Efs.refl _ _) h0
 simp only [List.length_nil,Int.natCast_zero] at h
 by_cases hz:most < (l.length:Int)
 ·have k:Za C (m + 1) Dn [.lst 1 (strs l),.int .i64 most,fv] hp=some (.int .i64 6,hp,none):=by
   refine ZaS (by rw [hC.T]; rfl) ?_
   simp only [Dq,COe,reduceAdd,reduceLeDiff,Nat.reduceBEq,Zzf,hz]
  have e:JI most step l s=(6,s):=by simp [JI,hz]
  rw [k,e]
  exact ⟨hp,none,rfl,Upd.refl hg,Efs.refl _ _⟩
 ·have e:JI most step l s=Ui step l s:=by simp [JI,hz]
  rw [e]
  obtain ⟨hp',ef,h1,h2,h3⟩:=h
  refine ⟨hp',ef,?_,h2,h3⟩
  refine ZaS (by rw [hC.T]; rfl) ?_
  simp only [Dq,COe,reduceAdd,reduceLeDiff,Nat.reduceBEq,Zzf,hz,hro]
  exact h1
theorem ZhI {C:Cfg}(K:KT)(hp0:HP)(fv:AV)(l:List KY)(hl:l.length≤4611686018427387)(f:KY→Int)(Good:HP→Prop)(hG:∀ hp x,Good hp→Good (hp ++ [x]))(hS:∀ x ∈ l,∀ hp,Good hp→Uo K fv [.agg (Xq x)] hp=some (.int .i64 (f x),hp,none)):∀ (r q:List KY) (m:Nat) (hp:HP),l=q ++ r→r.length < m→hp0.length≤hp.length→Good hp →
  VM C.G K C.L hp0 (KG C.G K C.L hp0) m fv (.lst 5 (l.map Xq)) (.int .i64 (l.length:Int)) (.int .i64 (q.length:Int)) hp none=some (.int .i64 (ZeP f r),hp0,none)
 | _,_,0,_,_,h,_,_=>by omega
 | [],q,m + 1,hp,h,_,hh,_=>by
  have l0:=lp0 h
  simp only [VM,KG,EV,l0,ZeP,IFJ]
 | x :: r,q,m + 1,hp,h,hm,hh,hgd=>by
  obtain ⟨a1,a2,a3,a4,a5⟩:=lp Xq h hl
  have hc:=hS x a5 (hp ++ [.cells (Xq x) XO]) (hG hp _ hgd)
  have ih:=ZhI (C := C) K hp0 fv l hl f Good hG hS r (q ++ [x]) m (hp ++ [.cells (Xq x) XO]) a4 (by simpa using hm) (by simp; omega) (hG hp _ hgd)
  simp only [VM,COe,reduceAdd,reduceLeDiff,Nat.reduceBEq,ZfC,STA hh,a1,a2,a3,Qu,hc,ih,ZeP]
theorem Zv4 {C:Cfg}(hC:I8 C)(m:Nat)(hp:HP)(most:Int)(fv:AV)(hro:AV.ro fv=fv)(l:List KY)(hl:l.length≤4611686018427387)(f:KY→Int)(Good:HP→Prop)(hG:∀ hp x,Good hp→Good (hp ++ [x]))(hS:∀ x ∈ l,∀ hp,Good hp→Uo (Za C m) fv [.agg (Xq x)] hp=some (.int .i64 (f x),hp,none))(h0:Good hp) :
  Za C (m + 1) P6 [.lst 5 (l.map Xq),.int .i64 most,fv] hp=some (.int .i64 (ZvH most f l),hp,none):=by
 have h:=ZhI (C := C) (Za C m) hp fv l hl f Good hG hS l [] C.L hp rfl (by have:=hC.L; omega) (Nat.le_refl _) h0
 simp only [List.length_nil,Int.natCast_zero] at h
 refine Zeu (by rw [hC.T]; rfl) ?_
 simp only [PE,COe,reduceAdd,reduceLeDiff,Nat.reduceBEq,hro,h,ZvH]
theorem Zj9 {C:Cfg}(K:KT)(hp0:HP)(fv:AV)(l:List PY)(hl:l.length≤4611686018427387)(f:PY→Int)(Good:HP→Prop)(hG:∀ hp x,Good hp→Good (hp ++ [x]))(hS:∀ x ∈ l,∀ hp,Good hp→Uo K fv [.agg (Io x)] hp=some (.int .i64 (f x),hp,none)):∀ (r q:List PY) (m:Nat) (hp:HP),l=q ++ r→r.length < m→hp0.length≤hp.length→Good hp →
  Ji C.G K C.L hp0 (Gy C.G K C.L hp0) m fv (.lst 3 (l.map Io)) (.int .i64 (l.length:Int)) (.int .i64 (q.length:Int)) hp none=some (.int .i64 (ZeP f r),hp0,none)
 | _,_,0,_,_,h,_,_=>by omega
 | [],q,m + 1,hp,h,_,hh,_=>by
  have l0:=lp0 h
  simp only [Ji,Gy,EV,l0,ZeP,IFJ]
 | x :: r,q,m + 1,hp,h,hm,hh,hgd=>by
  obtain ⟨a1,a2,a3,a4,a5⟩:=lp Io h hl
  have hc:=hS x a5 (hp ++ [.cells (Io x) Ci]) (hG hp _ hgd)
  have ih:=Zj9 (C := C) K hp0 fv l hl f Good hG hS r (q ++ [x]) m (hp ++ [.cells (Io x) Ci]) a4 (by simpa using hm) (by simp; omega) (hG hp _ hgd)
  simp only [Ji,COe,reduceAdd,reduceLeDiff,Nat.reduceBEq,ZuN,STA hh,a1,a2,a3,Qu,hc,ih,ZeP]
theorem Zxi {C:Cfg}(hC:I8 C)(m:Nat)(hp:HP)(most:Int)(fv:AV)(hro:AV.ro fv=fv)(l:List PY)(hl:l.length≤4611686018427387)(f:PY→Int)(Good:HP→Prop)(hG:∀ hp x,Good hp→Good (hp ++ [x]))(hS:∀ x ∈ l,∀ hp,Good hp→Uo (Za C m) fv [.agg (Io x)] hp=some (.int .i64 (f x),hp,none))(h0:Good hp) :
  Za C (m + 1) NU [.lst 3 (l.map Io),.int .i64 most,fv] hp=some (.int .i64 (ZvH most f l),hp,none):=by
 have h:=Zj9 (C := C) (Za C m) hp fv l hl f Good hG hS l [] C.L hp rfl (by have:=hC.L; omega) (Nat.le_refl _) h0
 simp only [List.length_nil,Int.natCast_zero] at h
 refine ZeU (by rw [hC.T]; rfl) ?_
 simp only [Si,COe,reduceAdd,reduceLeDiff,Nat.reduceBEq,hro,h,ZvH]
end Go.Proofs.YtlmfmmclnboglaaGreat
end
section
namespace Go.Proofs.YtlmfmmclnboglaaGreat
open Go Go.RowKit Go.Proofs.YtlmfmmclnboglaaGreat.Abs
open Nat (reduceAdd reduceLeDiff)
set_option maxRecDepth 100000
theorem IFK:(∀ (c:Prop) [Decidable c] (h0 h:HP) (k:IntKind) (a b:Int) (e:Eff),(if c then (some (Vm false h0 (.int k a) h e):KR) else some (Vm false h0 (.int k b) h e))=some (Vm false h0 (.int k (if c then a else b)) h e))∧(∀ (bs:Nat) (ef:Eff),Zf bs ef none=ef):=⟨fun c _ h0 h k a b e=>by split <;> rfl,fun _ _=>rfl⟩
theorem ZfE {s:List UInt8}{seen:Seen}(h:(Jc s seen).1=0)(rest:Int):PS s rest seen=(rest,(Jc s seen).2):=by simp [PS,h]
theorem Ziv {s:List UInt8}{seen:Seen}(h:¬ (Jc s seen).1=0)(rest:Int):PS s rest seen=Jc s seen:=by simp [PS,h]
theorem Z7u (e:TypeId)(a b:List (List AV))(hp:HP):ZoA e 1 [.lst 2 a,.lst 2 b] hp=some (.own 1 [[.lst 2 a],[.lst 2 b]],hp):=rfl
theorem Z7E (l:List KD)(a:List (List AV))(hp:HP)(h:a.length + l.length≤1000):Z0b 2 24 (.own 2 a) (.lst 2 (l.map Vh)) hp=some (.own 2 (a ++ l.map Vh)):=by
 have h1:((l.map Vh).all (·.all AV.noId1))=true:=by
  rw [List.all_eq_true]; intro x hx; obtain ⟨y,_,rfl⟩:=List.mem_map.1 hx; rfl
 have h2:(a.length + (l.map Vh).length) * 24≤140737488355328:=by simp; omega
 simp only [Z0b,rowsOf,h1,h2,and_self,if_true]
theorem Z5Z {C:Cfg}(hC:I8 C)(N:Nat)(hN:1≤N)(hp:HP)(n:Int)(h0:0≤n)(h1:n≤1000):Za C N Ug [.own 2 [],.int .i64 n] hp=some (.own 2 [],hp,none):=by
 obtain ⟨m,rfl⟩:∃ m,N=m + 1:=⟨N - 1,by omega⟩
 obtain ⟨g1,g2⟩:=hC.G n hp h0 h1
 simp only [Za,g1,g2]
theorem Z24 {C:Cfg}(hC:I8 C)(N:Nat)(hN:2≤N)(hp:HP)(a b:List KD)(h:a.length + b.length≤1000):Za C N KN [.lst 1 [[.lst 2 (a.map Vh)],[.lst 2 (b.map Vh)]]] hp=some (.own 2 ((a ++ b).map Vh),hp,none):=by
 obtain ⟨m,rfl⟩:∃ m,N=m + 1:=⟨N - 1,by omega⟩
 refine EK (by rw [hC.T]; rfl) ?_
 obtain ⟨L,hL⟩:∃ L,C.L=L + 3:=⟨C.L - 3,by have:=hC.L; omega⟩
 have w1:IntKind.i64.wrap (0 + (a.length:Int))=a.length:=by rw [ZzZ (by omega) (by omega)]; omega
 have w2:IntKind.i64.wrap ((a.length:Int) + (b.length:Int))=(a.length:Int) + b.length:=ZzZ (by omega) (by omega)
 have n1:decide ((a.length:Int) < 0)=false:=by simp only [decide_eq_false_iff_not]; omega
 have n2:decide ((a.length:Int) + (b.length:Int) < 0)=false:=by simp only [decide_eq_false_iff_not]; omega
 have q:=Z5Z hC m (by omega) hp ((a.length:Int) + b.length) (by omega) (by omega)
 have p1:=Z7E a [] hp (by simp; omega)
 have p2:=Z7E b (a.map Vh) hp (by simp; omega)
 rw [List.nil_append] at p1
 simp only [KP,X5,VJ,X6,VK,hL,CO,iaI,w01,w1,w2,n1,n2,q,p1,p2,List.map_append]
theorem Z4N {C:Cfg}(hC:I8 C)(N:Nat)(hN:5≤N)(hp:HP)(g:Nat)(seen:Seen)(v:Uy)(hg:hp[g]? = some (.map (Sl seen)))(ok:ZcD v):Does g Sl seen hp (PS v.Name (ZjL v) seen) (Za C N Ha [.map g,.agg (X7 v)] hp):=by
 obtain ⟨m,rfl⟩:∃ m,N=m + 1:=⟨N - 1,by omega⟩
 have q1:=ZlO hC m (by omega)
 have q2:=ZnL hC m (by omega)
 have hlt:g < hp.length:=(List.getElem?_eq_some_iff.1 hg).1
 obtain ⟨h1,f1,q,u,e⟩:=Zf4 hC m (by omega) (hp ++ [.cells (X7 v) ZbL]) g seen v.Name (Zt3 hg _) ok.Name
 have c1:=u.get (Wj hp (.cells (X7 v) ZbL)) (by omega)
 have e1:Efs g (Sl seen) (Sl (Jc v.Name seen).2) (Zf hp.length none f1):=(Efs.refl _ _).after hlt e
 by_cases hz:(Jc v.Name seen).1=0
 ·rw [hz] at q
  have k:Za C (m + 1) Ha [.map g,.agg (X7 v)] hp=some (Vm false hp (.int .i64 (ZjL v)) h1 (Zf hp.length none f1)):=by
   refine Zal (by rw [hC.T]; rfl) ?_
   simp only [Eo,EV,LD,BL,IFJ,IFK,GI,QC,reduceAdd,reduceLeDiff,Nat.reduceBEq,List.length_cons,List.length_nil,Zpp,q,LG c1,q1,q2,ZjL,ne_eq,not_true_eq_false]
  rw [k,ZfE hz]
  exact Sc.fin _ hg u.off e1
 ·have k:Za C (m + 1) Ha [.map g,.agg (X7 v)] hp=some (Vm false hp (.int .i64 (Jc v.Name seen).1) h1 (Zf hp.length none f1)):=by
   refine Zal (by rw [hC.T]; rfl) ?_
   simp only [Eo,EV,LD,BL,IFJ,IFK,GI,QC,reduceAdd,reduceLeDiff,Nat.reduceBEq,List.length_cons,List.length_nil,Zpp,q,hz,ne_eq,not_false_eq_true]
  rw [k,Ziv hz]
  exact Sc.fin _ hg u.off e1
theorem Z0n (K:KT)(f:FuncId)(a:List AV)(g:Nat)(hp:HP):Uo K (.fn f [.map g] []) a hp=K f (.map g :: a) hp:=by
 show K f ([AV.nm (.map g)] ++ a ++ []) hp=_
 simp [AV.nm]
theorem Zfz (K:KT)(f:FuncId)(a c:List AV)(hp:HP):Uo K (.fn f [] c) a hp=K f (a ++ c.map AV.nm) hp:=rfl
def Z5H (g:Nat)(s:Seen)(hp:HP):Prop:=hp[g]? = some (.map (Sl s))
theorem Zyd {C:Cfg}(hC:I8 C)(N:Nat)(hN:7≤N)(hp:HP)(g:Nat)(seen:Seen)(l:List Uy)(hg:hp[g]? = some (.map (Sl seen)))(hl:l.length≤4611686018427387)(ok:∀ v ∈ l,ZcD v):Does g Sl seen hp (JI 32 (fun v=>PS v.Name (ZjL v)) l seen) (Za C N Gp [.map g,.lst 3 (l.map X7)] hp):=by
 obtain ⟨m,rfl⟩:∃ m,N=m + 2:=⟨N - 2,by omega⟩
 obtain ⟨hp',ef,q,u,e⟩:=Zv5 hC m hp 32 (.fn Ha [.map g] []) rfl l hl (fun v=>PS v.Name (ZjL v)) Sl g (Z5H g) (fun s hp x h=>Zt3 h x) (fun x hx s hp h=>⟨by rw [Z0n]; exact Z4N hC m (by omega) hp g s x h (ok x hx),fun hp' hu=>hu.2.1⟩) seen hg hg
 have hlt:g < hp.length:=(List.getElem?_eq_some_iff.1 hg).1
 have k:Za C (m + 1 + 1) Gp [.map g,.lst 3 (l.map X7)] hp=some (Vm false hp (.int .i64 (JI 32 (fun v:Uy=>PS v.Name (ZjL v)) l seen).1) hp' (Zf hp.length none ef)):=by
  refine Zex (by rw [hC.T]; rfl) ?_
  simp only [ZaP,EV,q]
 rw [k]
 exact Sc.fin _ hg u ((Efs.refl _ _).after hlt e)
structure SI (g gs gd gp:Nat)(d:Zo)(s:Seen)(hp:HP):Prop where
 m:hp[g]? = some (.map (Sl s))
 c:hp[gs]? = some (.cells [.map g] V3)
 d:hp[gd]? = some (.cells (Zk d) Zb)
 p:hp[gp]? = some (.cells [.fn XZ [] [.ptr gs 0]] Ue)
 n1:gs≠g
 n2:gd≠g
 n3:gp≠g
theorem SI.app {g gs gd gp:Nat}{d:Zo}{s:Seen}{hp:HP}(h:SI g gs gd gp d s hp)(x:Z5):SI g gs gd gp d s (hp ++ [x]):=⟨Zt3 h.m x,Du h.c x,Du h.d x,Du h.p x,h.n1,h.n2,h.n3⟩
theorem SI.upd {g gs gd gp:Nat}{d:Zo}{s s':Seen}{hp hp':HP}(h:SI g gs gd gp d s hp)(u:Upd g (Sl s') hp hp'):SI g gs gd gp d s' hp':=⟨u.2.1,u.get h.c h.n1,u.get h.d h.n2,u.get h.p h.n3,h.n1,h.n2,h.n3⟩
theorem Zo7 {C:Cfg}(hC:I8 C)(N:Nat)(hp:HP)(g gs gd gp:Nat)(d:Zo)(seen:Seen)(hd:YO d)(v:Zy)(hi:SI g gs gd gp d seen hp)(ok:VF v)(hN:8≤N):Does g Sl seen hp (PS v.Name (Z50 d v) seen) (Za C N Rq [.agg (Zh v),.ptr gs 0,.ptr gd 0] hp):=by
 obtain ⟨m,rfl⟩:∃ m,N=m + 1:=⟨N - 1,by omega⟩
 have p0:=MQ hC m (by omega)
 have p1:=Zo6 hC m (by omega)
 have p2:=Zo4 hC m (by omega)
 have hlt:g < hp.length:=(List.getElem?_eq_some_iff.1 hi.m).1
 have cs:=Du hi.c (.cells (Zh v) Yj)
 obtain ⟨h1,f1,q,u,e⟩:=Zf4 hC m (by omega) (hp ++ [.cells (Zh v) Yj]) g seen v.Name (Zt3 hi.m _) ok.Name
 have c1:=u.get (Wj hp (.cells (Zh v) Yj)) (by omega)
 have cd:=u.get (Du hi.d (.cells (Zh v) Yj)) hi.n2
 have e1:Efs g (Sl seen) (Sl (Jc v.Name seen).2) (Zf hp.length none f1):=(Efs.refl _ _).after hlt e
 by_cases hz:(Jc v.Name seen).1=0
 ·rw [hz] at q
  have k:Za C (m + 1) Rq [.agg (Zh v),.ptr gs 0,.ptr gd 0] hp=some (Vm false hp (.int .i64 (Z50 d v)) h1 (Zf hp.length none f1)):=by
   refine ZdN (by rw [hC.T]; rfl) ?_
   simp only [Zca,EV,LD,BL,IFJ,IFK,GI,QC,reduceAdd,reduceLeDiff,Nat.reduceBEq,List.length_cons,List.length_nil,Il,LG cs,q,LG c1,LG cd,LGP c1,p0,p1,p2,ok,hd,ok.Fault,XN,ZyD,Z50,ne_eq,not_true_eq_false]
  rw [k,ZfE hz]
  exact Sc.fin _ hi.m u.off e1
 ·have k:Za C (m + 1) Rq [.agg (Zh v),.ptr gs 0,.ptr gd 0] hp=some (Vm false hp (.int .i64 (Jc v.Name seen).1) h1 (Zf hp.length none f1)):=by
   refine ZdN (by rw [hC.T]; rfl) ?_
   simp only [Zca,EV,LD,BL,IFJ,IFK,GI,QC,reduceAdd,reduceLeDiff,Nat.reduceBEq,List.length_cons,List.length_nil,Il,LG cs,q,hz,ne_eq,not_false_eq_true]
  rw [k,Ziv hz]
  exact Sc.fin _ hi.m u.off e1
theorem Zo8 {C:Cfg}(hC:I8 C)(N:Nat)(hp:HP)(g gs gd gp:Nat)(d:Zo)(seen:Seen)(hd:YO d)(v:Qr)(hi:SI g gs gd gp d seen hp)(ok:ZaV v)(hN:5≤N):Does g Sl seen hp (PS v.Name (ZrF v) seen) (Za C N Rt [.agg (Yt v),.ptr gs 0] hp):=by
 obtain ⟨m,rfl⟩:∃ m,N=m + 1:=⟨N - 1,by omega⟩
 have p0:=MQ hC m (by omega)
 have hlt:g < hp.length:=(List.getElem?_eq_some_iff.1 hi.m).1
 have cs:=Du hi.c (.cells (Yt v) I4)
 obtain ⟨h1,f1,q,u,e⟩:=Zf4 hC m (by omega) (hp ++ [.cells (Yt v) I4]) g seen v.Name (Zt3 hi.m _) ok.Name
 have c1:=u.get (Wj hp (.cells (Yt v) I4)) (by omega)
 have cd:=u.get (Du hi.d (.cells (Yt v) I4)) hi.n2
 have e1:Efs g (Sl seen) (Sl (Jc v.Name seen).2) (Zf hp.length none f1):=(Efs.refl _ _).after hlt e
 by_cases hz:(Jc v.Name seen).1=0
 ·rw [hz] at q
  have k:Za C (m + 1) Rt [.agg (Yt v),.ptr gs 0] hp=some (Vm false hp (.int .i64 (ZrF v)) h1 (Zf hp.length none f1)):=by
   refine ZdO (by rw [hC.T]; rfl) ?_
   simp only [Zcb,EV,LD,BL,IFJ,IFK,GI,QC,reduceAdd,reduceLeDiff,Nat.reduceBEq,List.length_cons,List.length_nil,ZbI,LG cs,q,LG c1,LG cd,LGP c1,p0,ZrF,ne_eq,not_true_eq_false]
  rw [k,ZfE hz]
  exact Sc.fin _ hi.m u.off e1
 ·have k:Za C (m + 1) Rt [.agg (Yt v),.ptr gs 0] hp=some (Vm false hp (.int .i64 (Jc v.Name seen).1) h1 (Zf hp.length none f1)):=by
   refine ZdO (by rw [hC.T]; rfl) ?_
   simp only [Zcb,EV,LD,BL,IFJ,IFK,GI,QC,reduceAdd,reduceLeDiff,Nat.reduceBEq,List.length_cons,List.length_nil,ZbI,LG cs,q,hz,ne_eq,not_false_eq_true]
  rw [k,Ziv hz]
  exact Sc.fin _ hi.m u.off e1
theorem Zo9 {C:Cfg}(hC:I8 C)(N:Nat)(hp:HP)(g gs gd gp:Nat)(d:Zo)(seen:Seen)(hd:YO d)(v:Xn)(hi:SI g gs gd gp d seen hp)(ok:Zc2 v)(hN:5≤N):Does g Sl seen hp (PS v.Name (ZwY v) seen) (Za C N Ru [.agg (YQ v),.ptr gs 0] hp):=by
 obtain ⟨m,rfl⟩:∃ m,N=m + 1:=⟨N - 1,by omega⟩
 have p0:=MQ hC m (by omega)
 have hlt:g < hp.length:=(List.getElem?_eq_some_iff.1 hi.m).1
 have cs:=Du hi.c (.cells (YQ v) LW)
 obtain ⟨h1,f1,q,u,e⟩:=Zf4 hC m (by omega) (hp ++ [.cells (YQ v) LW]) g seen v.Name (Zt3 hi.m _) ok.Name
 have c1:=u.get (Wj hp (.cells (YQ v) LW)) (by omega)
 have cd:=u.get (Du hi.d (.cells (YQ v) LW)) hi.n2
 have e1:Efs g (Sl seen) (Sl (Jc v.Name seen).2) (Zf hp.length none f1):=(Efs.refl _ _).after hlt e
 by_cases hz:(Jc v.Name seen).1=0
 ·rw [hz] at q
  have k:Za C (m + 1) Ru [.agg (YQ v),.ptr gs 0] hp=some (Vm false hp (.int .i64 (ZwY v)) h1 (Zf hp.length none f1)):=by
   refine ZdP (by rw [hC.T]; rfl) ?_
   simp only [Zcc,EV,LD,BL,IFJ,IFK,GI,QC,reduceAdd,reduceLeDiff,Nat.reduceBEq,List.length_cons,List.length_nil,Zf9,LG cs,q,LG c1,LG cd,LGP c1,p0,ZwY,ne_eq,not_true_eq_false]
  rw [k,ZfE hz]
  exact Sc.fin _ hi.m u.off e1
 ·have k:Za C (m + 1) Ru [.agg (YQ v),.ptr gs 0] hp=some (Vm false hp (.int .i64 (Jc v.Name seen).1) h1 (Zf hp.length none f1)):=by
   refine ZdP (by rw [hC.T]; rfl) ?_
   simp only [Zcc,EV,LD,BL,IFJ,IFK,GI,QC,reduceAdd,reduceLeDiff,Nat.reduceBEq,List.length_cons,List.length_nil,Zf9,LG cs,q,hz,ne_eq,not_false_eq_true]
  rw [k,Ziv hz]
  exact Sc.fin _ hi.m u.off e1
def Zqx (f:KD):Int:=if (!(btw f.Ty 1 3))=true then 1 else 0
def Zce (l:List KD)(s:Seen):Int×Seen:=Ui (fun f:KD=>PS f.Name (Zqx f)) l s
def Zcz (r:QJ):Int :=
 if (decide (6 < (r.Params.length:Int)) || decide (16 < (r.Params.length:Int) + (r.Locals.length:Int)))=true then 6
 else if decide ((Zce (r.Params ++ r.Locals) []).1≠0)=true then (Zce (r.Params ++ r.Locals) []).1 else Zv2 r.Body
theorem ZdK {C:Cfg}(K:KT)(hp0:HP)(r0:QJ)(fs:List KD)(hl:fs.length≤4611686018427387)(g g1:Nat)(tg1:TypeId)(hgb:hp0.length≤g)(hne:g1≠g)(hE:∀ hp seen s,hp[g]? = some (.map (Sl seen))→s.length≤140737488351232→Does g Sl seen hp (Jc s seen) (K Qa [.map g,.str s] hp))
  (hW:∀ hp x,K Zai [.int .i64 x] hp=some (.bool (btw x 1 3),hp,none)) (hB:∀ hp,K Zd3 [.lst 21 (r0.Body.map WE)] hp=some (.int .i64 (Zv2 r0.Body),hp,none)) (okn:∀ f ∈ fs,ZdY f):∀ (r q:List KD) (m:Nat) (hp:HP) (seen:Seen),fs=q ++ r→r.length < m→hp0.length≤hp.length→hp[g]? = some (.map (Sl seen))→hp[g1]? = some (.cells (Y3 r0) tg1) →
  U7 C.G K C.L hp0 (Bg C.G K C.L hp0) m (.ptr g1 0) (.map g) (.lst 2 (fs.map Vh)) (.int .i64 (fs.length:Int)) (.int .i64 (q.length:Int)) hp none=some (.int .i64 (if decide ((Zce r seen).1≠0)=true then (Zce r seen).1 else Zv2 r0.Body),hp0,none)
 | _,_,0,_,_,_,h,_,_,_=>by omega
 | [],q,m + 1,hp,seen,h,_,hh,hg,hg1=>by
  have l0:=lp0 h
  simp only [U7,Bg,EV,LD,BL,IFJ,IFK,GI,QC,reduceAdd,reduceLeDiff,Nat.reduceBEq,List.length_cons,List.length_nil,l0,LG hg1,Ag,hB,Zce,Ui,ne_eq,not_true_eq_false]
 | x :: r,q,m + 1,hp,seen,h,hm,hh,hg,hg1=>by
  obtain ⟨a1,a2,a3,a4,a5⟩:=lp Vh h hl
  have hlt:g < hp.length:=(List.getElem?_eq_some_iff.1 hg).1
  obtain ⟨h1,f1,qe,u,e⟩:=hE (hp ++ [.cells (Vh x) Ziu]) seen x.Name (Zt3 hg _) (okn x a5).Name
  have dr:Zf hp0.length none f1=none:=e.drop hgb
  have c1:=u.get (Wj hp (.cells (Vh x) Ziu)) (by omega)
  by_cases hz:(Jc x.Name seen).1=0
  ·rw [hz] at qe
   by_cases hf:Zqx x=0
   ·have ih:=ZdK (C := C) K hp0 r0 fs hl g g1 tg1 hgb hne hE hW hB okn r (q ++ [x]) m h1 (Jc x.Name seen).2 a4 (by simpa using hm) (by have:=u.1; simp at this; omega) u.2.1 (u.get (Du hg1 _) hne)
    have e1:Zce (x :: r) seen=Zce r (Jc x.Name seen).2:=by simp [Zce,Ui,ZfE hz,hf]
    rw [e1]
    have hb:btw x.Ty 1 3=true:=by
     unfold Zqx at hf; cases hb:btw x.Ty 1 3
     ·rw [hb] at hf; exact absurd hf (by decide)
     ·rfl
    simp only [U7,EV,LD,BL,IFJ,IFK,GI,QC,reduceAdd,reduceLeDiff,Nat.reduceBEq,List.length_cons,List.length_nil,Zpo,STA hh,a1,a2,a3,Qu,qe,dr,LG c1,hW,hb,ne_eq,not_true_eq_false]
    exact ih
   ·have e1:Zce (x :: r) seen=(Zqx x,(Jc x.Name seen).2):=by simp [Zce,Ui,ZfE hz,hf]
    have hb:btw x.Ty 1 3=false:=by
     unfold Zqx at hf; cases hb:btw x.Ty 1 3
     ·rfl
     ·rw [hb] at hf; exact absurd rfl hf
    have e2:Zqx x=1:=by unfold Zqx; rw [hb]; rfl
    rw [e1]
    simp only [U7,EV,LD,BL,IFJ,IFK,GI,QC,reduceAdd,reduceLeDiff,Nat.reduceBEq,List.length_cons,List.length_nil,Zpo,STA hh,a1,a2,a3,Qu,qe,dr,LG c1,hW,hb,e2,ne_eq,not_true_eq_false]
    rfl
  ·have e1:Zce (x :: r) seen=Jc x.Name seen:=by simp [Zce,Ui,Ziv hz,hz]
   rw [e1]
   simp only [U7,EV,LD,BL,IFJ,IFK,GI,QC,reduceAdd,reduceLeDiff,Nat.reduceBEq,List.length_cons,List.length_nil,Zpo,STA hh,a1,a2,a3,Qu,qe,dr,hz,ne_eq,not_false_eq_true]
theorem Zqh {C:Cfg}(hC:I8 C)(N:Nat)(hp:HP)(r:QJ)(hN:SizeOf.sizeOf r.Body + 15≤N)(ok:PX r):Za C N ZcA [.agg (Y3 r)] hp=some (.int .i64 (Zcz r),hp,none):=by
 obtain ⟨m,rfl⟩:∃ m,N=m + 1:=⟨N - 1,by omega⟩
 have hb:=ok.p
 have q1:=fun hp=>ZvC hC m hp r.Body (by omega) hb.2.2
 have q2:=ZlO hC m (by omega)
 have wr:IntKind.i64.wrap ((r.Params.length:Int) + (r.Locals.length:Int))=(r.Params.length:Int) + (r.Locals.length:Int):=ZzZ (by omega) (by omega)
 refine Znh (by rw [hC.T]; rfl) ?_
 by_cases hc:(decide (6 < (r.Params.length:Int)) || decide (16 < (r.Params.length:Int) + (r.Locals.length:Int)))=true
 ·simp only [Zaz,EV,LD,BL,IFJ,IFK,GI,QC,reduceAdd,reduceLeDiff,Nat.reduceBEq,List.length_cons,List.length_nil,Ag,wr,Zcz,hc]
 ·have hc':(decide (6 < (r.Params.length:Int)) || decide (16 < (r.Params.length:Int) + (r.Locals.length:Int)))=false:=by simpa using hc
  have hsm:r.Params.length + r.Locals.length≤16:=by simp only [Bool.or_eq_false_iff,decide_eq_false_iff_not] at hc'; omega
  have q3:=fun hp=>Z24 hC m (by omega) hp r.Params r.Locals (by omega)
  have h:=ZdK (C := C) (Za C m) hp r (r.Params ++ r.Locals) (by simp; omega) (hp ++ [Z5.cells (Y3 r) Wn]).length hp.length Wn (by simp) (by simp) (fun hp seen s hg hs=>Zf4 hC m (by omega) hp _ seen s hg hs) q2 q1 (fun f hf=>by
   rcases List.mem_append.1 hf with hf | hf
   ·exact ok.Params.2 f hf
   ·exact ok.Locals.2 f hf) (r.Params ++ r.Locals) [] C.L (hp ++ [.cells (Y3 r) Wn] ++ [.map []]) [] rfl (by have:=hC.L; simp; omega) (by simp <;> omega) (Wj _ _) (Du (Wj _ _) _)
  simp only [List.length_nil,Int.natCast_zero] at h
  simp only [Zaz,EV,LD,BL,IFJ,IFK,GI,QC,reduceAdd,reduceLeDiff,Nat.reduceBEq,List.length_cons,List.length_nil,Ag,wr,Zcz,hc',Z7u,q3,h]
theorem ZmX {C:Cfg}(hC:I8 C)(N:Nat)(hp:HP)(g gs gd gp:Nat)(d:Zo)(seen:Seen)(hd:YO d)(v:QJ)(hi:SI g gs gd gp d seen hp)(ok:PX v)(hN:SizeOf.sizeOf v.Body + 16≤N):Does g Sl seen hp (PS v.Name (Zcz v) seen) (Za C N MZ [.agg (Y3 v),.ptr gs 0] hp):=by
 obtain ⟨m,rfl⟩:∃ m,N=m + 1:=⟨N - 1,by omega⟩
 have p0:=fun hp=>Zqh hC m hp v (by omega) ok
 have hlt:g < hp.length:=(List.getElem?_eq_some_iff.1 hi.m).1
 have cs:=Du hi.c (.cells (Y3 v) Wn)
 obtain ⟨h1,f1,q,u,e⟩:=Zf4 hC m (by omega) (hp ++ [.cells (Y3 v) Wn]) g seen v.Name (Zt3 hi.m _) ok.Name
 have c1:=u.get (Wj hp (.cells (Y3 v) Wn)) (by omega)
 have cd:=u.get (Du hi.d (.cells (Y3 v) Wn)) hi.n2
 have e1:Efs g (Sl seen) (Sl (Jc v.Name seen).2) (Zf hp.length none f1):=(Efs.refl _ _).after hlt e
 by_cases hz:(Jc v.Name seen).1=0
 ·rw [hz] at q
  have k:Za C (m + 1) MZ [.agg (Y3 v),.ptr gs 0] hp=some (Vm false hp (.int .i64 (Zcz v)) h1 (Zf hp.length none f1)):=by
   refine Zdo (by rw [hC.T]; rfl) ?_
   simp only [Zbj,EV,LD,BL,IFJ,IFK,GI,QC,reduceAdd,reduceLeDiff,Nat.reduceBEq,List.length_cons,List.length_nil,Ag,LG cs,q,LG c1,LG cd,LGP c1,p0,ne_eq,not_true_eq_false]
  rw [k,ZfE hz]
  exact Sc.fin _ hi.m u.off e1
 ·have k:Za C (m + 1) MZ [.agg (Y3 v),.ptr gs 0] hp=some (Vm false hp (.int .i64 (Jc v.Name seen).1) h1 (Zf hp.length none f1)):=by
   refine Zdo (by rw [hC.T]; rfl) ?_
   simp only [Zbj,EV,LD,BL,IFJ,IFK,GI,QC,reduceAdd,reduceLeDiff,Nat.reduceBEq,List.length_cons,List.length_nil,Ag,LG cs,q,hz,ne_eq,not_false_eq_true]
  rw [k,Ziv hz]
  exact Sc.fin _ hi.m u.off e1
def Z6m (d:Zo)(l:Zc1):Int :=
 if decide ((l.Terms.length:Int)=0)=true then 7 else if decide (ZvH 8 (ZzV d) l.Terms≠0)=true then ZvH 8 (ZzV d) l.Terms else if (!(inB l.Total))=true then 2 else 0
structure SL (g gs gd:Nat)(d:Zo)(s:Seen)(hp:HP):Prop where
 m:hp[g]? = some (.map (Sl s))
 c:hp[gs]? = some (.cells [.map g] V3)
 d:hp[gd]? = some (.cells (Zk d) Zb)
 n1:gs≠g
 n2:gd≠g
theorem SL.app {g gs gd:Nat}{d:Zo}{s:Seen}{hp:HP}(h:SL g gs gd d s hp)(x:Z5):SL g gs gd d s (hp ++ [x]):=⟨Zt3 h.m x,Du h.c x,Du h.d x,h.n1,h.n2⟩
theorem SL.upd {g gs gd:Nat}{d:Zo}{s s':Seen}{hp hp':HP}(h:SL g gs gd d s hp)(u:Upd g (Sl s') hp hp'):SL g gs gd d s' hp':=⟨u.2.1,u.get h.c h.n1,u.get h.d h.n2,h.n1,h.n2⟩
theorem ZjO.t {l:Zc1}(h:ZjO l):l.Terms.length≤4611686018427387:=by have:=h.Terms.1; omega
theorem Zo5 {C:Cfg}(hC:I8 C)(N:Nat)(hN:5≤N)(hp:HP)(d:Zo)(t:PY)(gd:Nat)(tg:TypeId)(hg:hp[gd]? = some (.cells (Zk d) tg))(hd:YO d):Za C N FH [.agg (Io t),.ptr gd 0] hp=some (.int .i64 (ZzV d t),hp,none):=by
 obtain ⟨m,rfl⟩:∃ m,N=m + 1:=⟨N - 1,by omega⟩
 have q:=ZvB hC m (by omega)
 refine ZlY (by rw [hC.T]; rfl) ?_
 simp only [Zgg,EV,LD,BL,IFJ,IFK,GI,QC,reduceAdd,reduceLeDiff,Nat.reduceBEq,List.length_cons,List.length_nil,LG hg,XN,ZuN,q,hd]
theorem Zsq {C:Cfg}(hC:I8 C)(N:Nat)(hp:HP)(g gs gd gp:Nat)(d:Zo)(seen:Seen)(hd:YO d)(v:Zc1)(hi:SL g gs gd d seen hp)(ok:ZjO v)(hN:8≤N):Does g Sl seen hp (PS v.Name (Z6m d v) seen) (Za C N NF [.agg (DV v),.ptr gs 0,.ptr gd 0] hp):=by
 obtain ⟨m,rfl⟩:∃ m,N=m + 1:=⟨N - 1,by omega⟩
 obtain ⟨m,rfl⟩:∃ m',m=m' + 1:=⟨m - 1,by omega⟩
 have p0:=Zuo hC (m + 1) (by omega)
 have hlt:g < hp.length:=(List.getElem?_eq_some_iff.1 hi.m).1
 have cs:=Du hi.c (.cells (DV v) V5)
 obtain ⟨h1,f1,q,u,e⟩:=Zf4 hC (m + 1) (by omega) (hp ++ [.cells (DV v) V5]) g seen v.Name (Zt3 hi.m _) ok.Name
 have c1:=u.get (Wj hp (.cells (DV v) V5)) (by omega)
 have cd:=u.get (Du hi.d (.cells (DV v) V5)) hi.n2
 have e1:Efs g (Sl seen) (Sl (Jc v.Name seen).2) (Zf hp.length none f1):=(Efs.refl _ _).after hlt e
 have tm:=Zxi hC m h1 8 (.fn FH [] [.ptr gd 0]) rfl v.Terms ok.t (ZzV d) (fun hp=>hp[gd]? = some (.cells (Zk d) Zb)) (fun hp x h=>Du h x) (fun x hx hp h=>by rw [Zfz]; exact Zo5 hC m (by omega) hp d x gd _ h hd) cd
 by_cases hz:(Jc v.Name seen).1=0
 ·rw [hz] at q
  have k:Za C (m + 1 + 1) NF [.agg (DV v),.ptr gs 0,.ptr gd 0] hp=some (Vm false hp (.int .i64 (Z6m d v)) h1 (Zf hp.length none f1)):=by
   refine Zgl (by rw [hC.T]; rfl) ?_
   simp only [Zeo,EV,LD,BL,IFJ,IFK,GI,QC,reduceAdd,reduceLeDiff,Nat.reduceBEq,List.length_cons,List.length_nil,ZyG,LG cs,q,LG c1,LG cd,LGP c1,p0,tm,Z6m,ne_eq,not_true_eq_false]
  rw [k,ZfE hz]
  exact Sc.fin _ hi.m u.off e1
 ·have k:Za C (m + 1 + 1) NF [.agg (DV v),.ptr gs 0,.ptr gd 0] hp=some (Vm false hp (.int .i64 (Jc v.Name seen).1) h1 (Zf hp.length none f1)):=by
   refine Zgl (by rw [hC.T]; rfl) ?_
   simp only [Zeo,EV,LD,BL,IFJ,IFK,GI,QC,reduceAdd,reduceLeDiff,Nat.reduceBEq,List.length_cons,List.length_nil,ZyG,LG cs,q,hz,ne_eq,not_false_eq_true]
  rw [k,Ziv hz]
  exact Sc.fin _ hi.m u.off e1
def Z2M (d:Zo):Int:=(JI 32 (fun l:Zc1=>PS l.Name (Z6m d l)) d.Laws []).1
theorem YO.l2 {d:Zo}(h:YO d):d.Vars.length≤4611686018427387∧d.Resources.length≤4611686018427387∧d.Belts.length≤4611686018427387∧d.Queues.length≤4611686018427387∧d.Tallies.length≤4611686018427387∧d.Levels.length≤4611686018427387∧d.Starts.length≤4611686018427387∧d.Laws.length≤4611686018427387:=by
 have:=h.Vars.1; have:=h.Resources.1; have:=h.Belts.1; have:=h.Queues.1; have:=h.Tallies.1; have:=h.Levels.1; have:=h.Starts.1; have:=h.Laws.1; omega
theorem Zv9 {C:Cfg}(hC:I8 C)(N:Nat)(hN:10≤N)(hp:HP)(d:Zo)(hd:YO d):Za C N ZgA [.agg (Zk d)] hp=some (.int .i64 (Z2M d),hp,none):=by
 obtain ⟨m,rfl⟩:∃ m,N=m + 2:=⟨N - 2,by omega⟩
 have st:=ZrG hp.length (hp ++ [Z5.cells (Zk d) Zb] ++ [Z5.map []]) .nilm (.map (hp ++ [Z5.cells (Zk d) Zb]).length) V3 none rfl (by simp <;> omega)
 have hi:SL (hp ++ [Z5.cells (Zk d) Zb]).length (hp ++ [Z5.cells (Zk d) Zb] ++ [Z5.map []]).length hp.length d [] (hp ++ [Z5.cells (Zk d) Zb] ++ [.map []] ++ [.cells [.map (hp ++ [Z5.cells (Zk d) Zb]).length] V3]) :=
  ⟨Zt3 (Wj _ _) _,Wj _ _,Du (Du (Wj _ _) _) _,by simp,by simp⟩
 obtain ⟨hp',ef,q,u,e⟩:=Zzu hC m _ 32 (.fn NF [] [.ptr (hp ++ [Z5.cells (Zk d) Zb] ++ [Z5.map []]).length 0,.ptr hp.length 0]) rfl d.Laws hd.l2.2.2.2.2.2.2.2 (fun l=>PS l.Name (Z6m d l)) Sl _ (SL _ _ _ d) (fun s hp x h=>h.app x)
  (fun x hx s hp h=>⟨by rw [Zfz]; exact Zsq hC m hp _ _ _ 0 d s hd x h (hd.Laws.2 x hx) (by omega),fun hp' hu=>h.upd hu⟩) [] hi.m hi
 have dr:=e.drop (bs := hp.length) (ef := none) (by simp)
 refine Zs8 (by rw [hC.T]; rfl) ?_
 simp only [ZnF,EV,LD,BL,IFJ,IFK,GI,QC,reduceAdd,reduceLeDiff,Nat.reduceBEq,List.length_cons,List.length_nil,XN,st,q,dr,Z2M]
end Go.Proofs.YtlmfmmclnboglaaGreat
end
section
namespace Go.Proofs.YtlmfmmclnboglaaGreat
open Go Go.RowKit Go.Proofs.YtlmfmmclnboglaaGreat.Abs
open Nat (reduceAdd reduceLeDiff)
set_option maxRecDepth 100000
abbrev Step:=Seen→Int×Seen
def ZrA (d:Zo):List Step:=[JI 32 (fun v:Uy=>PS v.Name (ZjL v)) d.Vars,JI 32 (fun v:Zy=>PS v.Name (Z50 d v)) d.Resources,JI 32 (fun v:Qr=>PS v.Name (ZrF v)) d.Stores,JI 32 (fun v:Xn=>PS v.Name (ZwY v)) d.Belts,JI 32 Jc d.Queues,JI 32 Jc d.Streams,JI 32 Jc d.Tallies,JI 32 Jc d.Levels,JI 32 Jc d.Counts,
 JI 16 (fun v:QJ=>PS v.Name (Zcz v)) d.Routines,fun s=>(ZvH 32 (Zmn d) d.Starts,s),fun s=>(Z2M d,s)]
def ZzU (d:Zo):Int:=(Z35 (ZrA d) []).1
theorem F6 {C:Cfg}(hC:I8 C)(N:Nat)(hN:5≤N)(hp:HP)(g gs:Nat)(seen:Seen)(l:List (List UInt8))(hl:l.length≤4611686018427387)(ok:∀ x ∈ l,x.length≤140737488351232)(hm:hp[g]? = some (.map (Sl seen)))(hc:hp[gs]? = some (.cells [.map g] V3)) :
  Does g Sl seen hp (JI 32 Jc l seen) (Za C N XZ [.lst 1 (strs l),.ptr gs 0] hp):=by
 obtain ⟨m,rfl⟩:∃ m,N=m + 2:=⟨N - 2,by omega⟩
 obtain ⟨hp',ef,q,u,e⟩:=Zuk hC m hp 32 (.fn Qa [.map g] []) rfl l hl Jc Sl g (Z5H g) (fun x hx s hp h=>⟨by rw [Z0n]; exact Zf4 hC m (by omega) hp g s x h (ok x hx),fun hp' hu=>hu.2.1⟩) seen hm hm
 have hlt:g < hp.length:=(List.getElem?_eq_some_iff.1 hm).1
 have k:Za C (m + 1 + 1) XZ [.lst 1 (strs l),.ptr gs 0] hp=some (Vm false hp (.int .i64 (JI 32 Jc l seen).1) hp' (Zf hp.length none ef)):=by
  refine ZoC (by rw [hC.T]; rfl) ?_
  simp only [Zjw,EV,LD,BL,IFJ,IFK,GI,QC,reduceAdd,reduceLeDiff,Nat.reduceBEq,List.length_cons,List.length_nil,LG hc,q]
 rw [k]
 exact Sc.fin _ hm u ((Efs.refl _ _).after hlt e)
theorem Zsr {C:Cfg}(hC:I8 C)(N:Nat)(hN:8≤N)(hp:HP)(g gs gd gp:Nat)(d:Zo)(seen:Seen)(hd:YO d)(hi:SI g gs gd gp d seen hp):Does g Sl seen hp (JI 32 (fun v:Uy=>PS v.Name (ZjL v)) d.Vars seen) (Za C N NG [.ptr gs 0,.ptr gd 0] hp):=by
 obtain ⟨m,rfl⟩:∃ m,N=m + 1:=⟨N - 1,by omega⟩
 obtain ⟨hp',ef,q,u,e⟩:=Zyd hC m (by omega) hp g seen d.Vars hi.m hd.l2.1 hd.Vars.2
 have hlt:g < hp.length:=(List.getElem?_eq_some_iff.1 hi.m).1
 have k:Za C (m + 1) NG [.ptr gs 0,.ptr gd 0] hp=some (Vm false hp (.int .i64 (JI 32 (fun v:Uy=>PS v.Name (ZjL v)) d.Vars seen).1) hp' (Zf hp.length none ef)):=by
  refine ZoD (by rw [hC.T]; rfl) ?_
  simp only [Zjx,EV,LD,BL,IFJ,IFK,GI,QC,reduceAdd,reduceLeDiff,Nat.reduceBEq,List.length_cons,List.length_nil,LG hi.c,LG hi.d,XN,q]
 rw [k]
 exact Sc.fin _ hi.m u ((Efs.refl _ _).after hlt e)
theorem Zss {C:Cfg}(hC:I8 C)(N:Nat)(hp:HP)(g gs gd gp:Nat)(d:Zo)(seen:Seen)(hN:10≤N)(hd:YO d)(hi:SI g gs gd gp d seen hp):Does g Sl seen hp (JI 32 (fun v:Zy=>PS v.Name (Z50 d v)) d.Resources seen) (Za C N NH [.ptr gd 0,.ptr gs 0] hp):=by
 obtain ⟨m,rfl⟩:∃ m,N=m + 2:=⟨N - 2,by omega⟩
 obtain ⟨hp',ef,q,u,e⟩:=Zk7 hC m hp 32 (.fn Rq [] [.ptr gs 0,.ptr gd 0]) rfl d.Resources hd.l2.2.1 (fun v:Zy=>PS v.Name (Z50 d v)) Sl g (SI g gs gd gp d) (fun s hp x h=>h.app x) (fun x hx s hp h=>⟨by rw [Zfz]; exact Zo7 hC m hp g gs gd gp d s hd x h (hd.Resources.2 x hx) (by omega),fun hp' hu=>h.upd hu⟩) seen hi.m hi
 have hlt:g < hp.length:=(List.getElem?_eq_some_iff.1 hi.m).1
 have k:Za C (m + 1 + 1) NH [.ptr gd 0,.ptr gs 0] hp=some (Vm false hp (.int .i64 (JI 32 (fun v:Zy=>PS v.Name (Z50 d v)) d.Resources seen).1) hp' (Zf hp.length none ef)):=by
  refine ZoE (by rw [hC.T]; rfl) ?_
  simp only [Zjy,EV,LD,BL,IFJ,IFK,GI,QC,reduceAdd,reduceLeDiff,Nat.reduceBEq,List.length_cons,List.length_nil,LG hi.d,XN,q]
 rw [k]
 exact Sc.fin _ hi.m u ((Efs.refl _ _).after hlt e)
theorem Zst {C:Cfg}(hC:I8 C)(N:Nat)(hp:HP)(g gs gd gp:Nat)(d:Zo)(seen:Seen)(hN:10≤N)(hd:YO d)(hi:SI g gs gd gp d seen hp):Does g Sl seen hp (JI 32 (fun v:Qr=>PS v.Name (ZrF v)) d.Stores seen) (Za C N NI [.ptr gd 0,.ptr gs 0] hp):=by
 obtain ⟨m,rfl⟩:∃ m,N=m + 2:=⟨N - 2,by omega⟩
 obtain ⟨hp',ef,q,u,e⟩:=Zo2 hC m hp 32 (.fn Rt [] [.ptr gs 0]) rfl d.Stores hd.st.2.2.1 (fun v:Qr=>PS v.Name (ZrF v)) Sl g (SI g gs gd gp d) (fun s hp x h=>h.app x) (fun x hx s hp h=>⟨by rw [Zfz]; exact Zo8 hC m hp g gs gd gp d s hd x h (hd.Stores.2 x hx) (by omega),fun hp' hu=>h.upd hu⟩) seen hi.m hi
 have hlt:g < hp.length:=(List.getElem?_eq_some_iff.1 hi.m).1
 have k:Za C (m + 1 + 1) NI [.ptr gd 0,.ptr gs 0] hp=some (Vm false hp (.int .i64 (JI 32 (fun v:Qr=>PS v.Name (ZrF v)) d.Stores seen).1) hp' (Zf hp.length none ef)):=by
  refine ZoF (by rw [hC.T]; rfl) ?_
  simp only [Zjz,EV,LD,BL,IFJ,IFK,GI,QC,reduceAdd,reduceLeDiff,Nat.reduceBEq,List.length_cons,List.length_nil,LG hi.d,XN,q]
 rw [k]
 exact Sc.fin _ hi.m u ((Efs.refl _ _).after hlt e)
theorem Zsu {C:Cfg}(hC:I8 C)(N:Nat)(hp:HP)(g gs gd gp:Nat)(d:Zo)(seen:Seen)(hN:10≤N)(hd:YO d)(hi:SI g gs gd gp d seen hp):Does g Sl seen hp (JI 32 (fun v:Xn=>PS v.Name (ZwY v)) d.Belts seen) (Za C N NJ [.ptr gd 0,.ptr gs 0] hp):=by
 obtain ⟨m,rfl⟩:∃ m,N=m + 2:=⟨N - 2,by omega⟩
 obtain ⟨hp',ef,q,u,e⟩:=Zqc hC m hp 32 (.fn Ru [] [.ptr gs 0]) rfl d.Belts hd.l2.2.2.1 (fun v:Xn=>PS v.Name (ZwY v)) Sl g (SI g gs gd gp d) (fun s hp x h=>h.app x) (fun x hx s hp h=>⟨by rw [Zfz]; exact Zo9 hC m hp g gs gd gp d s hd x h (hd.Belts.2 x hx) (by omega),fun hp' hu=>h.upd hu⟩) seen hi.m hi
 have hlt:g < hp.length:=(List.getElem?_eq_some_iff.1 hi.m).1
 have k:Za C (m + 1 + 1) NJ [.ptr gd 0,.ptr gs 0] hp=some (Vm false hp (.int .i64 (JI 32 (fun v:Xn=>PS v.Name (ZwY v)) d.Belts seen).1) hp' (Zf hp.length none ef)):=by
  refine ZoG (by rw [hC.T]; rfl) ?_
  simp only [Zj0,EV,LD,BL,IFJ,IFK,GI,QC,reduceAdd,reduceLeDiff,Nat.reduceBEq,List.length_cons,List.length_nil,LG hi.d,XN,q]
 rw [k]
 exact Sc.fin _ hi.m u ((Efs.refl _ _).after hlt e)
theorem Z7X {d:Zo}{r:QJ}(h:r ∈ d.Routines):SizeOf.sizeOf r.Body < SizeOf.sizeOf d:=by
 have h1:=List.sizeOf_lt_of_mem h
 have h2:SizeOf.sizeOf r.Body < SizeOf.sizeOf r:=by cases r; simp; omega
 have h3:SizeOf.sizeOf d.Routines < SizeOf.sizeOf d:=by cases d; simp; omega
 omega
theorem Zqj {C:Cfg}(hC:I8 C)(N:Nat)(hp:HP)(g gs gd gp:Nat)(d:Zo)(seen:Seen)(hN:SizeOf.sizeOf d + 20≤N)(hd:YO d)(hi:SI g gs gd gp d seen hp):Does g Sl seen hp (JI 16 (fun v:QJ=>PS v.Name (Zcz v)) d.Routines seen) (Za C N Dx [.ptr gd 0,.ptr gs 0] hp):=by
 obtain ⟨m,rfl⟩:∃ m,N=m + 2:=⟨N - 2,by omega⟩
 obtain ⟨hp',ef,q,u,e⟩:=Zsp hC m hp 16 (.fn MZ [] [.ptr gs 0]) rfl d.Routines hd.st.2.2.2 (fun v:QJ=>PS v.Name (Zcz v)) Sl g (SI g gs gd gp d) (fun s hp x h=>h.app x) (fun x hx s hp h=>⟨by rw [Zfz]; exact ZmX hC m hp g gs gd gp d s hd x h (hd.Routines.2 x hx) (by have:=Z7X hx; omega),fun hp' hu=>h.upd hu⟩) seen hi.m hi
 have hlt:g < hp.length:=(List.getElem?_eq_some_iff.1 hi.m).1
 have k:Za C (m + 1 + 1) Dx [.ptr gd 0,.ptr gs 0] hp=some (Vm false hp (.int .i64 (JI 16 (fun v:QJ=>PS v.Name (Zcz v)) d.Routines seen).1) hp' (Zf hp.length none ef)):=by
  refine Znk (by rw [hC.T]; rfl) ?_
  simp only [Zh1,EV,LD,BL,IFJ,IFK,GI,QC,reduceAdd,reduceLeDiff,Nat.reduceBEq,List.length_cons,List.length_nil,LG hi.d,XN,q]
 rw [k]
 exact Sc.fin _ hi.m u ((Efs.refl _ _).after hlt e)
theorem Zsv {C:Cfg}(hC:I8 C)(N:Nat)(hN:7≤N)(hp:HP)(g gs gd gp:Nat)(d:Zo)(seen:Seen)(hd:YO d)(hi:SI g gs gd gp d seen hp):Does g Sl seen hp (JI 32 Jc d.Queues seen) (Za C N NK [.ptr gp 0,.ptr gd 0] hp):=by
 obtain ⟨m,rfl⟩:∃ m,N=m + 1:=⟨N - 1,by omega⟩
 obtain ⟨hp',ef,q,u,e⟩:=F6 hC m (by omega) hp g gs seen d.Queues hd.l2.2.2.2.1 hd.Queues.2 hi.m hi.c
 have hlt:g < hp.length:=(List.getElem?_eq_some_iff.1 hi.m).1
 have cv:Uo (Za C m) (.fn XZ [] [.ptr gs 0]) [.lst 1 (strs d.Queues)] hp=Za C m XZ [.lst 1 (strs d.Queues),.ptr gs 0] hp:=rfl
 have k:Za C (m + 1) NK [.ptr gp 0,.ptr gd 0] hp=some (Vm false hp (.int .i64 (JI 32 Jc d.Queues seen).1) hp' (Zf hp.length none ef)):=by
  refine ZoH (by rw [hC.T]; rfl) ?_
  simp only [Zj1,EV,LD,BL,IFJ,IFK,GI,QC,reduceAdd,reduceLeDiff,Nat.reduceBEq,List.length_cons,List.length_nil,LG hi.p,LG hi.d,XN,cv,q]
 rw [k]
 exact Sc.fin _ hi.m u ((Efs.refl _ _).after hlt e)
theorem Zsw {C:Cfg}(hC:I8 C)(N:Nat)(hN:7≤N)(hp:HP)(g gs gd gp:Nat)(d:Zo)(seen:Seen)(hd:YO d)(hi:SI g gs gd gp d seen hp):Does g Sl seen hp (JI 32 Jc d.Streams seen) (Za C N NL [.ptr gp 0,.ptr gd 0] hp):=by
 obtain ⟨m,rfl⟩:∃ m,N=m + 1:=⟨N - 1,by omega⟩
 obtain ⟨hp',ef,q,u,e⟩:=F6 hC m (by omega) hp g gs seen d.Streams hd.st.1 hd.Streams.2 hi.m hi.c
 have hlt:g < hp.length:=(List.getElem?_eq_some_iff.1 hi.m).1
 have cv:Uo (Za C m) (.fn XZ [] [.ptr gs 0]) [.lst 1 (strs d.Streams)] hp=Za C m XZ [.lst 1 (strs d.Streams),.ptr gs 0] hp:=rfl
 have k:Za C (m + 1) NL [.ptr gp 0,.ptr gd 0] hp=some (Vm false hp (.int .i64 (JI 32 Jc d.Streams seen).1) hp' (Zf hp.length none ef)):=by
  refine ZoI (by rw [hC.T]; rfl) ?_
  simp only [Zj2,EV,LD,BL,IFJ,IFK,GI,QC,reduceAdd,reduceLeDiff,Nat.reduceBEq,List.length_cons,List.length_nil,LG hi.p,LG hi.d,XN,cv,q]
 rw [k]
 exact Sc.fin _ hi.m u ((Efs.refl _ _).after hlt e)
theorem Zsx {C:Cfg}(hC:I8 C)(N:Nat)(hN:7≤N)(hp:HP)(g gs gd gp:Nat)(d:Zo)(seen:Seen)(hd:YO d)(hi:SI g gs gd gp d seen hp):Does g Sl seen hp (JI 32 Jc d.Tallies seen) (Za C N NM [.ptr gp 0,.ptr gd 0] hp):=by
 obtain ⟨m,rfl⟩:∃ m,N=m + 1:=⟨N - 1,by omega⟩
 obtain ⟨hp',ef,q,u,e⟩:=F6 hC m (by omega) hp g gs seen d.Tallies hd.l2.2.2.2.2.1 hd.Tallies.2 hi.m hi.c
 have hlt:g < hp.length:=(List.getElem?_eq_some_iff.1 hi.m).1
 have cv:Uo (Za C m) (.fn XZ [] [.ptr gs 0]) [.lst 1 (strs d.Tallies)] hp=Za C m XZ [.lst 1 (strs d.Tallies),.ptr gs 0] hp:=rfl
 have k:Za C (m + 1) NM [.ptr gp 0,.ptr gd 0] hp=some (Vm false hp (.int .i64 (JI 32 Jc d.Tallies seen).1) hp' (Zf hp.length none ef)):=by
  refine ZoJ (by rw [hC.T]; rfl) ?_
  simp only [Zj3,EV,LD,BL,IFJ,IFK,GI,QC,reduceAdd,reduceLeDiff,Nat.reduceBEq,List.length_cons,List.length_nil,LG hi.p,LG hi.d,XN,cv,q]
 rw [k]
 exact Sc.fin _ hi.m u ((Efs.refl _ _).after hlt e)
theorem Zsy {C:Cfg}(hC:I8 C)(N:Nat)(hN:7≤N)(hp:HP)(g gs gd gp:Nat)(d:Zo)(seen:Seen)(hd:YO d)(hi:SI g gs gd gp d seen hp):Does g Sl seen hp (JI 32 Jc d.Levels seen) (Za C N NP [.ptr gp 0,.ptr gd 0] hp):=by
 obtain ⟨m,rfl⟩:∃ m,N=m + 1:=⟨N - 1,by omega⟩
 obtain ⟨hp',ef,q,u,e⟩:=F6 hC m (by omega) hp g gs seen d.Levels hd.l2.2.2.2.2.2.1 hd.Levels.2 hi.m hi.c
 have hlt:g < hp.length:=(List.getElem?_eq_some_iff.1 hi.m).1
 have cv:Uo (Za C m) (.fn XZ [] [.ptr gs 0]) [.lst 1 (strs d.Levels)] hp=Za C m XZ [.lst 1 (strs d.Levels),.ptr gs 0] hp:=rfl
 have k:Za C (m + 1) NP [.ptr gp 0,.ptr gd 0] hp=some (Vm false hp (.int .i64 (JI 32 Jc d.Levels seen).1) hp' (Zf hp.length none ef)):=by
  refine ZoK (by rw [hC.T]; rfl) ?_
  simp only [Zj4,EV,LD,BL,IFJ,IFK,GI,QC,reduceAdd,reduceLeDiff,Nat.reduceBEq,List.length_cons,List.length_nil,LG hi.p,LG hi.d,XN,cv,q]
 rw [k]
 exact Sc.fin _ hi.m u ((Efs.refl _ _).after hlt e)
theorem Zqi {C:Cfg}(hC:I8 C)(N:Nat)(hN:7≤N)(hp:HP)(g gs gd gp:Nat)(d:Zo)(seen:Seen)(hd:YO d)(hi:SI g gs gd gp d seen hp):Does g Sl seen hp (JI 32 Jc d.Counts seen) (Za C N Dw [.ptr gp 0,.ptr gd 0] hp):=by
 obtain ⟨m,rfl⟩:∃ m,N=m + 1:=⟨N - 1,by omega⟩
 obtain ⟨hp',ef,q,u,e⟩:=F6 hC m (by omega) hp g gs seen d.Counts hd.st.2.1 hd.Counts.2 hi.m hi.c
 have hlt:g < hp.length:=(List.getElem?_eq_some_iff.1 hi.m).1
 have cv:Uo (Za C m) (.fn XZ [] [.ptr gs 0]) [.lst 1 (strs d.Counts)] hp=Za C m XZ [.lst 1 (strs d.Counts),.ptr gs 0] hp:=rfl
 have k:Za C (m + 1) Dw [.ptr gp 0,.ptr gd 0] hp=some (Vm false hp (.int .i64 (JI 32 Jc d.Counts seen).1) hp' (Zf hp.length none ef)):=by
  refine Znj (by rw [hC.T]; rfl) ?_
  simp only [Zh0,EV,LD,BL,IFJ,IFK,GI,QC,reduceAdd,reduceLeDiff,Nat.reduceBEq,List.length_cons,List.length_nil,LG hi.p,LG hi.d,XN,cv,q]
 rw [k]
 exact Sc.fin _ hi.m u ((Efs.refl _ _).after hlt e)
theorem ZmY {C:Cfg}(hC:I8 C)(N:Nat)(hN:6≤N)(hp:HP)(d:Zo)(t:KY)(gd:Nat)(tg:TypeId)(hg:hp[gd]? = some (.cells (Zk d) tg))(hd:YO d)(ht:Zak t):Za C N ER [.agg (Xq t),.ptr gd 0] hp=some (.int .i64 (Zmn d t),hp,none):=by
 obtain ⟨m,rfl⟩:∃ m,N=m + 1:=⟨N - 1,by omega⟩
 have q:=fun hp=>Zum hC m (by omega) hp d t hd ht
 refine ZkF (by rw [hC.T]; rfl) ?_
 simp only [ZeI,EV,LD,BL,IFJ,IFK,GI,QC,reduceAdd,reduceLeDiff,Nat.reduceBEq,List.length_cons,List.length_nil,LG hg,XN,ZfC,q]
theorem Zqk {C:Cfg}(hC:I8 C)(N:Nat)(hN:8≤N)(hp:HP)(gd:Nat)(d:Zo)(hd:YO d)(hi:hp[gd]? = some (.cells (Zk d) Zb)):Za C N Ee [.ptr gd 0] hp=some (.int .i64 (ZvH 32 (Zmn d) d.Starts),hp,none):=by
 obtain ⟨m,rfl⟩:∃ m,N=m + 2:=⟨N - 2,by omega⟩
 have q:=Zv4 hC m hp 32 (.fn ER [] [.ptr gd 0]) rfl d.Starts hd.l2.2.2.2.2.2.2.1 (Zmn d) (fun hp=>hp[gd]? = some (.cells (Zk d) Zb)) (fun hp x h=>Du h x) (fun x hx hp h=>by rw [Zfz]; exact ZmY hC m (by omega) hp d x gd _ h hd (hd.Starts.2 x hx)) hi
 refine Znl (by rw [hC.T]; rfl) ?_
 simp only [Zh2,EV,LD,BL,IFJ,IFK,GI,QC,reduceAdd,reduceLeDiff,Nat.reduceBEq,List.length_cons,List.length_nil,LG hi,XN,q]
theorem Zql {C:Cfg}(hC:I8 C)(N:Nat)(hN:12≤N)(hp:HP)(gd:Nat)(d:Zo)(hd:YO d)(hi:hp[gd]? = some (.cells (Zk d) Zb)):Za C N Ef [.ptr gd 0] hp=some (.int .i64 (Z2M d),hp,none):=by
 obtain ⟨m,rfl⟩:∃ m,N=m + 1:=⟨N - 1,by omega⟩
 have q:=fun hp=>Zv9 hC m (by omega) hp d hd
 refine Znm (by rw [hC.T]; rfl) ?_
 simp only [Zh3,EV,LD,BL,IFJ,IFK,GI,QC,reduceAdd,reduceLeDiff,Nat.reduceBEq,List.length_cons,List.length_nil,LG hi,XN,q]
theorem Ztu {C:Cfg}{σ:Type}(K:KT)(hp0:HP)(fs:List AV)(hro:∀ f ∈ fs,AV.ro f=f)(hfl:fs.length≤1000)(ga:Nat)(ta:TypeId)(steps:List (σ→Int×σ))(hlen:steps.length=fs.length)(es:σ→List (AV×AV))(g:Nat)(Good:σ→HP→Prop)(hGa:∀ s hp,Good s hp→hp[ga]? = some (.cells fs ta))
  (hS:∀ (i:Nat) (f:AV) (st:σ→Int×σ),fs[i]? = some f→steps[i]? = some st→∀ s hp,Good s hp→Does g es s hp (st s) (Uo K f [] hp)∧∀ hp',Upd g (es (st s).2) hp hp'→Good (st s).2 hp') (s0:σ) (h0:hp0[g]? = some (.map (es s0))):∀ (m i:Nat) (hp:HP) (s:σ) (ef:Eff),fs.length < m + i→i≤fs.length→Upd g (es s) hp0 hp→Efs g (es s0) (es s) ef→Good s hp →
  Sc g (es s0) (es (Z35 (steps.drop i) s).2) hp0 (Z35 (steps.drop i) s).1 (G6 C.G K C.L hp0 (Ry C.G K C.L hp0) m (.arr ga 0 fs.length 1) (.int .i64 (fs.length:Int)) (.int .i64 (i:Int)) hp ef)
 | 0,i,_,_,_,h,h2,_,_,_=>by omega
 | m + 1,i,hp,s,ef,h,h2,hu,he,hgd=>by
  have hlt:g < hp0.length:=(List.getElem?_eq_some_iff.1 h0).1
  by_cases hi:i=fs.length
  ·subst hi
   have l0:decide ((fs.length:Int) < (fs.length:Int))=false:=by simp
   have k:G6 C.G K C.L hp0 (Ry C.G K C.L hp0) (m + 1) (.arr ga 0 fs.length 1) (.int .i64 (fs.length:Int)) (.int .i64 (fs.length:Int)) hp ef=some (Vm false hp0 (.int .i64 0) hp ef):=by
    simp only [G6,Ry,EV,l0,IFJ]
   have e:steps.drop fs.length=[]:=by rw [← hlen]; simp
   rw [k,e]
   exact Sc.fin 0 h0 hu he
  ·have hi2:i < fs.length:=by omega
   have hi3:i < steps.length:=by omega
   have l0:decide ((i:Int) < (fs.length:Int))=true:=by simp only [decide_eq_true_eq]; omega
   have a1:Y4 (.slice 1) (.arr ga 0 fs.length 1) (.int .i64 (i:Int))=some (.ptr ga i):=by rw [Zq5 _ _ _ _ hi2,Nat.mul_one]
   have a2:Qn hp (.ptr ga i)=some fs[i]:=by
    rw [IB (hGa s hp hgd),List.getElem?_eq_getElem hi2,Option.map_some,hro _ (List.getElem_mem hi2)]
   have a3:IntKind.i64.wrap ((i:Int) + 1)=((i + 1:Nat):Int):=SE i (by omega)
   obtain ⟨hS1,hS2⟩:=hS i fs[i] steps[i] (List.getElem?_eq_getElem hi2) (List.getElem?_eq_getElem hi3) s hp hgd
   obtain ⟨hp',ef',hc,hu',he'⟩:=hS1
   have hu2:=hu.trans hu'
   have he2:=he.after hlt he'
   rw [List.drop_eq_getElem_cons hi3]
   by_cases hz:(steps[i] s).1=0
   ·have ih:=Ztu (C := C) K hp0 fs hro hfl ga ta steps hlen es g Good hGa hS s0 h0 m (i + 1) hp' (steps[i] s).2 (Zf hp0.length ef ef') (by omega) (by omega) hu2 he2 (hS2 hp' hu')
    have e:Z35 (steps[i] :: steps.drop (i + 1)) s=Z35 (steps.drop (i + 1)) (steps[i] s).2:=by simp [Z35,hz]
    rw [e]
    simp only [G6,EV,LD,BL,IFJ,IFK,GI,QC,reduceAdd,reduceLeDiff,Nat.reduceBEq,List.length_cons,List.length_nil,l0,a1,a2,a3,hc,hz,ne_eq,not_true_eq_false]
    exact ih
   ·have e:Z35 (steps[i] :: steps.drop (i + 1)) s=steps[i] s:=by simp [Z35,hz]
    rw [e]
    simp only [G6,EV,LD,BL,IFJ,IFK,GI,QC,reduceAdd,reduceLeDiff,Nat.reduceBEq,List.length_cons,List.length_nil,l0,a1,a2,a3,hc,hz,ne_eq,not_false_eq_true]
    exact Sc.fin _ h0 hu2 he2
def Zew (gs gd gp:Nat):List AV:=[.fn NG [] [.ptr gs 0,.ptr gd 0],.fn NH [] [.ptr gd 0,.ptr gs 0],.fn NI [] [.ptr gd 0,.ptr gs 0],.fn NJ [] [.ptr gd 0,.ptr gs 0],.fn NK [] [.ptr gp 0,.ptr gd 0],.fn NL [] [.ptr gp 0,.ptr gd 0],.fn NM [] [.ptr gp 0,.ptr gd 0],.fn NP [] [.ptr gp 0,.ptr gd 0],.fn Dw [] [.ptr gp 0,.ptr gd 0],.fn Dx [] [.ptr gd 0,.ptr gs 0],.fn Ee [] [.ptr gd 0],.fn Ef [] [.ptr gd 0]]
theorem Z2P (t:TypeId)(gs gd gp:Nat)(hp:HP):ZoA t 1 [.fn NG [] [.ptr gs 0,.ptr gd 0],.fn NH [] [.ptr gd 0,.ptr gs 0],.fn NI [] [.ptr gd 0,.ptr gs 0],.fn NJ [] [.ptr gd 0,.ptr gs 0],.fn NK [] [.ptr gp 0,.ptr gd 0],.fn NL [] [.ptr gp 0,.ptr gd 0],.fn NM [] [.ptr gp 0,.ptr gd 0],.fn NP [] [.ptr gp 0,.ptr gd 0],.fn Dw [] [.ptr gp 0,.ptr gd 0],.fn Dx [] [.ptr gd 0,.ptr gs 0],.fn Ee [] [.ptr gd 0],.fn Ef [] [.ptr gd 0]] hp=some (.arr hp.length 0 12 1,hp ++ [.cells (Zew gs gd gp) t]):=rfl
structure SF (g gs gd gp ga:Nat)(d:Zo)(ta:TypeId)(s:Seen)(hp:HP):Prop where
 i:SI g gs gd gp d s hp
 a:hp[ga]? = some (.cells (Zew gs gd gp) ta)
 n:ga≠g
theorem Zv3 {g:Nat}{s:Seen}{hp:HP}{e:Int}{r:KR}(hm:hp[g]? = some (.map (Sl s)))(h:r=some (.int .i64 e,hp,none)):Does g Sl s hp (e,s) r:=⟨hp,none,h,Upd.refl hm,Efs.refl _ _⟩
theorem Z2d {C:Cfg}(hC:I8 C)(m:Nat)(g gs gd gp:Nat)(d:Zo)(hd:YO d)(hm:SizeOf.sizeOf d + 20≤m):∀ (i:Nat) (f:AV) (st:Step),(Zew gs gd gp)[i]? = some f→(ZrA d)[i]? = some st→∀ s hp,SI g gs gd gp d s hp→Does g Sl s hp (st s) (Uo (Za C m) f [] hp):=by
 intro i f st hf hst s hp h
 match i,hf,hst with
 | 0,hf,hst=>cases hf; cases hst; exact Zsr hC m (by omega) hp g gs gd gp d s hd h
 | 1,hf,hst=>cases hf; cases hst; exact Zss hC m hp g gs gd gp d s (by omega) hd h
 | 2,hf,hst=>cases hf; cases hst; exact Zst hC m hp g gs gd gp d s (by omega) hd h
 | 3,hf,hst=>cases hf; cases hst; exact Zsu hC m hp g gs gd gp d s (by omega) hd h
 | 4,hf,hst=>cases hf; cases hst; exact Zsv hC m (by omega) hp g gs gd gp d s hd h
 | 5,hf,hst=>cases hf; cases hst; exact Zsw hC m (by omega) hp g gs gd gp d s hd h
 | 6,hf,hst=>cases hf; cases hst; exact Zsx hC m (by omega) hp g gs gd gp d s hd h
 | 7,hf,hst=>cases hf; cases hst; exact Zsy hC m (by omega) hp g gs gd gp d s hd h
 | 8,hf,hst=>cases hf; cases hst; exact Zqi hC m (by omega) hp g gs gd gp d s hd h
 | 9,hf,hst=>cases hf; cases hst; exact Zqj hC m hp g gs gd gp d s (by omega) hd h
 | 10,hf,hst=>cases hf; cases hst; exact Zv3 h.m (Zqk hC m (by omega) hp gd d hd h.d)
 | 11,hf,hst=>cases hf; cases hst; exact Zv3 h.m (Zql hC m (by omega) hp gd d hd h.d)
 | i + 12,hf,hst=>simp [Zew] at hf
theorem ZvA {C:Cfg}(hC:I8 C)(N:Nat)(hp:HP)(d:Zo)(hN:SizeOf.sizeOf d + 22≤N)(hd:YO d):Za C N ZgB [.agg (Zk d)] hp=some (.int .i64 (ZzU d),hp,none):=by
 obtain ⟨m,rfl⟩:∃ m,N=m + 2:=⟨N - 2,by omega⟩
 generalize hh0:hp ++ [Z5.cells (Zk d) Zb]=h0
 generalize hh1:h0 ++ [Z5.map []]=h1
 generalize hh2:h1 ++ [Z5.cells [.map h0.length] V3]=h2
 generalize hh3:h2 ++ [Z5.cells [.fn XZ [] [.ptr h1.length 0]] Ue]=h3
 generalize hh4:h3 ++ [Z5.cells (Zew h1.length hp.length h2.length) Oh]=h4
 have l0:h0.length=hp.length + 1:=by rw [← hh0]; simp
 have l1:h1.length=hp.length + 2:=by rw [← hh1]; simp [l0]
 have l2:h2.length=hp.length + 3:=by rw [← hh2]; simp [l1]
 have l3:h3.length=hp.length + 4:=by rw [← hh3]; simp [l2]
 have gd0:h0[hp.length]? = some (.cells (Zk d) Zb):=by rw [← hh0]; exact Wj _ _
 have gm1:h1[h0.length]? = some (.map (Sl [])):=by rw [← hh1]; exact Wj _ _
 have gc2:h2[h1.length]? = some (.cells [.map h0.length] V3):=by rw [← hh2]; exact Wj _ _
 have gp3:h3[h2.length]? = some (.cells [.fn XZ [] [.ptr h1.length 0]] Ue):=by rw [← hh3]; exact Wj _ _
 have gd1:h1[hp.length]? = some (.cells (Zk d) Zb):=by rw [← hh1]; exact Du gd0 _
 have gd2:h2[hp.length]? = some (.cells (Zk d) Zb):=by rw [← hh2]; exact Du gd1 _
 have gd3:h3[hp.length]? = some (.cells (Zk d) Zb):=by rw [← hh3]; exact Du gd2 _
 have gm2:h2[h0.length]? = some (.map (Sl [])):=by rw [← hh2]; exact Zt3 gm1 _
 have gm3:h3[h0.length]? = some (.map (Sl [])):=by rw [← hh3]; exact Zt3 gm2 _
 have gc3:h3[h1.length]? = some (.cells [.map h0.length] V3):=by rw [← hh3]; exact Du gc2 _
 have hSI:SI h0.length h1.length hp.length h2.length d [] h4:=by
  rw [← hh4]
  exact ⟨Zt3 gm3 _,Du gc3 _,Du gd3 _,Du gp3 _,by omega,by omega,by omega⟩
 have hga:h4[h3.length]? = some (.cells (Zew h1.length hp.length h2.length) Oh):=by rw [← hh4]; exact Wj _ _
 have h:=Ztu (C := C) (Za C m) h4 (Zew h1.length hp.length h2.length) (fun f hf=>by
   simp only [Zew,List.mem_cons,List.not_mem_nil,or_false] at hf
   rcases hf with rfl | rfl | rfl | rfl | rfl | rfl | rfl | rfl | rfl | rfl | rfl | rfl <;> rfl) (by simp [Zew]) h3.length Oh (ZrA d) rfl Sl h0.length (SF h0.length h1.length hp.length h2.length h3.length d Oh) (fun s hp h=>h.a)
  (fun i f st hf hst s hp h=>⟨Z2d hC m _ _ _ _ d hd (by omega) i f st hf hst s hp h.i,fun hp' hu=>⟨h.i.upd hu,hu.get h.a h.n,h.n⟩⟩) [] hSI.m C.L 0 h4 [] none (by have:=hC.L; simp [Zew]; omega) (by omega) (Upd.refl hSI.m) (Efs.refl _ _) ⟨hSI,hga,by omega⟩
 obtain ⟨hp',ef,q,u,e⟩:=h
 have dr:=e.drop (bs := hp.length) (ef := none) (by omega)
 have fr:Za C (m + 1) Zfh [.arr h3.length 0 12 1] h4=some (.int .i64 (ZzU d),hp',ef):=by
  refine ZqF (by rw [hC.T]; rfl) ?_
  have ll:ZO h4 .slice (.arr h3.length 0 12 1)=some (.int .i64 12):=rfl
  have ra:AV.ro (.arr h3.length 0 12 1)=.arr h3.length 0 12 1:=rfl
  simp only [Zf2,EV,ra,ll]
  exact q
 have st1:Zph hp.length (.ptr h1.length 0) (.map h0.length) (h1 ++ [.cells [.nilm] V3]) none=some (h2,none):=by rw [← hh2]; exact ZrG hp.length h1 .nilm (.map h0.length) V3 none rfl (by omega)
 have st2:Zph hp.length (.ptr h2.length 0) (.fn XZ [] [.ptr h1.length 0]) (h2 ++ [.cells [.nilf] Ue]) none=some (h3,none):=by rw [← hh3]; exact ZrG hp.length h2 .nilf _ Ue none rfl (by omega)
 have lt:=Z2P Oh h1.length hp.length h2.length h3
 rw [hh4] at lt
 have ra:AV.ro (.arr h3.length 0 12 1)=.arr h3.length 0 12 1:=rfl
 refine Zs9 (by rw [hC.T]; rfl) ?_
 simp only [ZnG,EV,LD,XN,hh0,hh1,st1,st2,lt,ra,fr,dr]
end Go.Proofs.YtlmfmmclnboglaaGreat
end
section
namespace Go.Proofs.YtlmfmmclnboglaaGreat
open Go Go.RowKit Go.Proofs.YtlmfmmclnboglaaGreat.Abs
open Nat (reduceAdd reduceLeDiff)
set_option maxRecDepth 100000
def Z2m (m:JD):Mdl:=⟨m.Name,m.Params.map X7,m.Sites.map Z6Q,m.Links.map GH⟩
theorem Zyu (m:JD):mrow (Z2m m)=Vz m:=by
 simp only [mrow,Z2m,Vz,List.map_map]; rfl
theorem Z1e {m:JD}(h:Lp m):Z2p (Z2m m):=by
 have h1:=h.Params.1; have h2:=h.Sites.1; have h3:=h.Links.1
 exact ⟨by simp [Z2m]; omega,by simp [Z2m]; omega,fun s hs=>by obtain ⟨x,hx,rfl⟩:=List.mem_map.1 hs; exact Z2f (h.Sites.2 x hx),by simp [Z2m]; omega,fun r hr=>by obtain ⟨x,hx,rfl⟩:=List.mem_map.1 hr; exact ⟨x.From,x.To,x.Delay,rfl⟩⟩
theorem Z36 (name:List UInt8)(m:JD):Z52 name (Z2m m)=Sm (isN name) (m.Sites.map Zk) 0:=by
 simp only [Z52,Z2m,List.map_map]; rfl
theorem Z2c (s:List UInt8)(l:List Zo):decide (Sm (isN s) (l.map Zk) 0 < 0)=!(l.map (·.Name)).contains s:=Zuu (row := Zk) (nm := fun x:Zo=>x.Name) (fun _=>rfl) s l
theorem Zv8 {C:Cfg}(hC:I8 C)(N:Nat)(hN:3≤N)(hp:HP)(m:JD)(s:List UInt8)(hm:Lp m):Za C N Zb0 [.agg (Vz m),.str s] hp=some (.int .i64 (Sm (isN s) (m.Sites.map Zk) 0),hp,none):=by
 obtain ⟨n,rfl⟩:∃ n,N=n + 3:=⟨N - 3,by omega⟩
 have h:=Z4K hC n hp (Z2m m) s (Z1e hm)
 rw [Zyu,Z36] at h
 exact h
abbrev Zzj:=List (List UInt8×List UInt8)
def Z2O (m:JD)(l:EU)(s:Zzj):Int×Zzj :=
 if (!(m.Sites.map (·.Name)).contains l.From || !(m.Sites.map (·.Name)).contains l.To)=true then (5,s)
 else if decide (l.From=l.To)=true then (1,s) else if (!(btw l.Delay 1 1000000000))=true then (2,s) else if s.contains (l.From,l.To)=true then (4,s) else (0,s ++ [(l.From,l.To)])
def Z0X (m:JD):Int:=(JI 32 (Z2O m) m.Links []).1
structure LI (g gs gm:Nat)(mo:JD)(s:Zzj)(hp:HP):Prop where
 m:hp[g]? = some (.map (ZiQ s))
 c:hp[gs]? = some (.cells [.map g] OX)
 d:hp[gm]? = some (.cells (Vz mo) Yo)
 n1:gs≠g
 n2:gm≠g
theorem LI.app {g gs gm:Nat}{m:JD}{s:Zzj}{hp:HP}(h:LI g gs gm m s hp)(x:Z5):LI g gs gm m s (hp ++ [x]):=⟨Zt3 h.m x,Du h.c x,Du h.d x,h.n1,h.n2⟩
theorem LI.upd {g gs gm:Nat}{m:JD}{s s':Zzj}{hp hp':HP}(h:LI g gs gm m s hp)(u:Upd g (ZiQ s') hp hp'):LI g gs gm m s' hp':=⟨u.2.1,u.get h.c h.n1,u.get h.d h.n2,h.n1,h.n2⟩
theorem ZvQ (a b:List UInt8):fill [(.str []),(.str [])] [(0,1,.str a),(1,1,.str b)]=some [.str a,.str b]:=rfl
theorem Zqg {C:Cfg}(hC:I8 C)(N:Nat)(hN:4≤N)(hp:HP)(g gs gm:Nat)(m0:JD)(s:Zzj)(hm:Lp m0)(v:EU)(hi:LI g gs gm m0 s hp):Does g ZiQ s hp (Z2O m0 v s) (Za C N Ed [.agg (GH v),.ptr gm 0,.ptr gs 0] hp):=by
 obtain ⟨m,rfl⟩:∃ m,N=m + 1:=⟨N - 1,by omega⟩
 have p1:=Zv8 hC m (by omega)
 have p2:=MQ hC m (by omega)
 have hlt:g < hp.length:=(List.getElem?_eq_some_iff.1 hi.m).1
 have i1:=(hi.app (.cells (GH v) EM)).app (.cells [.str v.From,.str v.To] ZbK)
 have st:=st_all hp.length 2 (hp ++ [Z5.cells (GH v) EM]) [(.str []),(.str [])] [.str v.From,.str v.To] ZbK none rfl rfl (by simp)
 have l2:Zt (hp ++ [.cells (GH v) EM] ++ [.cells [.str v.From,.str v.To] ZbK]) 2 (.ptr (hp ++ [Z5.cells (GH v) EM]).length 0)=some (.agg [.str v.From,.str v.To]):=Zf8 (Wj _ _) 2 rfl rfl
 have run:∀ r,L6 C.G (Za C m) C.L (.agg (GH v)) (.ptr gm 0) (.ptr gs 0) hp=some r→Za C (m + 1) Ed [.agg (GH v),.ptr gm 0,.ptr gs 0] hp=some r:=fun r h=>Zng (by rw [hC.T]; rfl) h
 unfold Z2O
 rcases Bool.eq_false_or_eq_true (!(m0.Sites.map (·.Name)).contains v.From || !(m0.Sites.map (·.Name)).contains v.To) with b1 | b1
 ·rw [if_pos b1,run (.int .i64 5,hp,none) (by
   simp only [L6,EV,LD,BL,IFJ,IFK,GI,QC,reduceAdd,reduceLeDiff,Nat.reduceBEq,List.length_cons,List.length_nil,ZkM,SC,ZvQ,l2,st,LG i1.c,LG i1.d,p1,p2,hm,Z2c,b1])]
  exact ⟨hp,none,rfl,Upd.refl hi.m,Efs.refl _ _⟩
 rw [if_neg (by rw [b1]; decide)]
 by_cases b2:v.From=v.To
 ·rw [if_pos (by simp [b2]),run (.int .i64 1,hp,none) (by
   simp only [L6,EV,LD,BL,IFJ,IFK,GI,QC,reduceAdd,reduceLeDiff,Nat.reduceBEq,List.length_cons,List.length_nil,ZkM,SC,ZvQ,l2,st,LG i1.c,LG i1.d,p1,p2,hm,Z2c,b1]
   simp only [b2,decide_true,IFJ])]
  exact ⟨hp,none,rfl,Upd.refl hi.m,Efs.refl _ _⟩
 rw [if_neg (by simp [b2])]
 rcases Bool.eq_false_or_eq_true (!(btw v.Delay 1 1000000000)) with b3 | b3
 ·rw [if_pos b3,run (.int .i64 2,hp,none) (by
   simp only [L6,EV,LD,BL,IFJ,IFK,GI,QC,reduceAdd,reduceLeDiff,Nat.reduceBEq,List.length_cons,List.length_nil,ZkM,SC,ZvQ,l2,st,LG i1.c,LG i1.d,p1,p2,hm,Z2c,b1,b2,b3])]
  exact ⟨hp,none,rfl,Upd.refl hi.m,Efs.refl _ _⟩
 rw [if_neg (by rw [b3]; decide)]
 have lk:=Zz7 i1.m v.From v.To
 rcases Bool.eq_false_or_eq_true (s.contains (v.From,v.To)) with b4 | b4
 ·rw [if_pos b4,run (.int .i64 4,hp,none) (by
   simp only [L6,EV,LD,BL,IFJ,IFK,GI,QC,reduceAdd,reduceLeDiff,Nat.reduceBEq,List.length_cons,List.length_nil,ZkM,SC,ZvQ,l2,st,LG i1.c,LG i1.d,p1,p2,hm,Z2c,b1,b2,b3,lk,b4])]
  exact ⟨hp,none,rfl,Upd.refl hi.m,Efs.refl _ _⟩
 rw [if_neg (by rw [b4]; decide)]
 have mu:=ZzA (bs := hp.length) i1.m v.From v.To b4 none
 have nt:Zd1 hp.length none g 0=some (g,0):=by simp [Zd1,hlt,Eff.or]
 rw [nt] at mu
 rw [run (Vm false hp (.int .i64 0) ((hp ++ [Z5.cells (GH v) EM] ++ [Z5.cells [.str v.From,.str v.To] ZbK]).set g (.map (ZiQ (s ++ [(v.From,v.To)])))) (some (g,0))) (by
   simp only [L6,EV,LD,BL,IFJ,IFK,GI,QC,reduceAdd,reduceLeDiff,Nat.reduceBEq,List.length_cons,List.length_nil,ZkM,SC,ZvQ,l2,st,LG i1.c,LG i1.d,p1,p2,hm,Z2c,b1,b2,b3,lk,b4,mu])]
 exact Sc.fin 0 hi.m (Upd.set i1.m).off.off (.inr rfl)
theorem Lp.l {m:JD}(h:Lp m):m.Params.length≤4611686018427387∧m.Sites.length≤4611686018427387∧m.Links.length≤4611686018427387:=by
 have:=h.Params.1; have:=h.Sites.1; have:=h.Links.1; omega
theorem Zul {C:Cfg}(hC:I8 C)(N:Nat)(hN:6≤N)(hp:HP)(m0:JD)(hm:Lp m0):Za C N Zfi [.agg (Vz m0)] hp=some (.int .i64 (Z0X m0),hp,none):=by
 obtain ⟨m,rfl⟩:∃ m,N=m + 2:=⟨N - 2,by omega⟩
 generalize hh0:hp ++ [Z5.cells (Vz m0) Yo]=h0
 generalize hh1:h0 ++ [Z5.map []]=h1
 generalize hh2:h1 ++ [Z5.cells [.map h0.length] OX]=h2
 have l0:h0.length=hp.length + 1:=by rw [← hh0]; simp
 have l1:h1.length=hp.length + 2:=by rw [← hh1]; simp [l0]
 have gd0:h0[hp.length]? = some (.cells (Vz m0) Yo):=by rw [← hh0]; exact Wj _ _
 have gm1:h1[h0.length]? = some (.map (ZiQ [])):=by rw [← hh1]; exact Wj _ _
 have gd1:h1[hp.length]? = some (.cells (Vz m0) Yo):=by rw [← hh1]; exact Du gd0 _
 have hi:LI h0.length h1.length hp.length m0 [] h2:=by
  rw [← hh2]; exact ⟨Zt3 gm1 _,Wj _ _,Du gd1 _,by omega,by omega⟩
 obtain ⟨hp',ef,q,u,e⟩:=Zxh hC m h2 32 (.fn Ed [] [.ptr hp.length 0,.ptr h1.length 0]) rfl m0.Links hm.l.2.2 (Z2O m0) ZiQ h0.length (LI h0.length h1.length hp.length m0) (fun s hp x h=>h.app x)
  (fun x hx s hp h=>⟨by rw [Zfz]; exact Zqg hC m (by omega) hp _ _ _ m0 s hm x h,fun hp' hu=>h.upd hu⟩) [] hi.m hi
 have dr:=e.drop (bs := hp.length) (ef := none) (by omega)
 have st1:Zph hp.length (.ptr h1.length 0) (.map h0.length) (h1 ++ [.cells [.nilm] OX]) none=some (h2,none):=by rw [← hh2]; exact ZrG hp.length h1 .nilm (.map h0.length) OX none rfl (by omega)
 refine ZqH (by rw [hC.T]; rfl) ?_
 simp only [Zly,EV,LD,GI,SC,hh0,hh1,st1,LG hi.d,q,dr,Z0X]
def Zvb (l:List Uy):Int:=(JI 32 (fun v:Uy=>PS v.Name (ZjL v)) l []).1
def Z2e (m:JD):Int:=(JI 16 (fun d:Zo=>PS d.Name (ZzU d)) m.Sites []).1
def Zwb (m:JD):Int :=
 if decide (Zev m.Name≠0)=true then Zev m.Name else if decide (Zvb m.Params≠0)=true then Zvb m.Params else if decide ((m.Sites.length:Int)=0)=true then 7 else if decide (Z2e m≠0)=true then Z2e m else Z0X m
structure CI (g gs:Nat)(s:Seen)(hp:HP):Prop where
 m:hp[g]? = some (.map (Sl s))
 c:hp[gs]? = some (.cells [.map g] V3)
 n1:gs≠g
theorem CI.app {g gs:Nat}{s:Seen}{hp:HP}(h:CI g gs s hp)(x:Z5):CI g gs s (hp ++ [x]):=⟨Zt3 h.m x,Du h.c x,h.n1⟩
theorem CI.upd {g gs:Nat}{s s':Seen}{hp hp':HP}(h:CI g gs s hp)(u:Upd g (Sl s') hp hp'):CI g gs s' hp':=⟨u.2.1,u.get h.c h.n1,h.n1⟩
theorem Zqf {C:Cfg}(hC:I8 C)(N:Nat)(hp:HP)(g gs:Nat)(seen:Seen)(v:Zo)(hi:CI g gs seen hp)(ok:YO v)(hN:SizeOf.sizeOf v + 24≤N):Does g Sl seen hp (PS v.Name (ZzU v) seen) (Za C N Lh [.agg (Zk v),.ptr gs 0] hp):=by
 obtain ⟨m,rfl⟩:∃ m,N=m + 1:=⟨N - 1,by omega⟩
 have p0:=fun hp=>ZvA hC m hp v (by omega) ok
 have hlt:g < hp.length:=(List.getElem?_eq_some_iff.1 hi.m).1
 have cs:=Du hi.c (.cells (Zk v) Zb)
 obtain ⟨h1,f1,q,u,e⟩:=Zf4 hC m (by omega) (hp ++ [.cells (Zk v) Zb]) g seen v.Name (Zt3 hi.m _) ok.Name
 have c1:=u.get (Wj hp (.cells (Zk v) Zb)) (by omega)
 have e1:Efs g (Sl seen) (Sl (Jc v.Name seen).2) (Zf hp.length none f1):=(Efs.refl _ _).after hlt e
 by_cases hz:(Jc v.Name seen).1=0
 ·rw [hz] at q
  have k:Za C (m + 1) Lh [.agg (Zk v),.ptr gs 0] hp=some (Vm false hp (.int .i64 (ZzU v)) h1 (Zf hp.length none f1)):=by
   refine ZeT (by rw [hC.T]; rfl) ?_
   simp only [Zdc,EV,LD,BL,IFJ,IFK,GI,QC,reduceAdd,reduceLeDiff,Nat.reduceBEq,List.length_cons,List.length_nil,XN,LG cs,q,LG c1,p0,ne_eq,not_true_eq_false]
  rw [k,ZfE hz]
  exact Sc.fin _ hi.m u.off e1
 ·have k:Za C (m + 1) Lh [.agg (Zk v),.ptr gs 0] hp=some (Vm false hp (.int .i64 (Jc v.Name seen).1) h1 (Zf hp.length none f1)):=by
   refine ZeT (by rw [hC.T]; rfl) ?_
   simp only [Zdc,EV,LD,BL,IFJ,IFK,GI,QC,reduceAdd,reduceLeDiff,Nat.reduceBEq,List.length_cons,List.length_nil,XN,LG cs,q,hz,ne_eq,not_false_eq_true]
  rw [k,Ziv hz]
  exact Sc.fin _ hi.m u.off e1
theorem Z7W {m:JD}{d:Zo}(h:d ∈ m.Sites):SizeOf.sizeOf d < SizeOf.sizeOf m:=by
 have h1:=List.sizeOf_lt_of_mem h
 have h3:SizeOf.sizeOf m.Sites < SizeOf.sizeOf m:=by cases m; simp; omega
 omega
theorem ZlN {C:Cfg}(hC:I8 C)(N:Nat)(hp:HP)(m0:JD)(hN:SizeOf.sizeOf m0 + 26≤N)(hm:Lp m0):Za C N Zcn [.agg (Vz m0)] hp=some (.int .i64 (Zwb m0),hp,none):=by
 obtain ⟨m,rfl⟩:∃ m,N=m + 2:=⟨N - 2,by omega⟩
 have p1:=Zcw hC (m + 1) (by omega)
 have p2:=fun hp=>Zul hC (m + 1) (by omega) hp m0 hm
 refine ZqE (by rw [hC.T]; rfl) ?_
 by_cases b1:Zev m0.Name=0
 case neg =>
  simp only [Zav,EV,LD,BL,IFJ,IFK,GI,QC,reduceAdd,reduceLeDiff,Nat.reduceBEq,List.length_cons,List.length_nil,SC,p1,hm.Name,Zwb,b1,ne_eq,not_false_eq_true]
 generalize hh0:hp ++ [Z5.cells (Vz m0) Yo]=h0
 have l0:h0.length=hp.length + 1:=by rw [← hh0]; simp
 have gd0:h0[hp.length]? = some (.cells (Vz m0) Yo):=by rw [← hh0]; exact Wj _ _
 obtain ⟨h1,f1,q1,u1,e1⟩:=Zyd hC (m + 1) (by omega) (h0 ++ [.map []]) h0.length [] m0.Params (Wj _ _) hm.l.1 hm.Params.2
 have dr1:=e1.drop (bs := hp.length) (ef := none) (by omega)
 have gd1:=u1.get (Du gd0 _) (by omega)
 have q1':Za C (m + 1) Gp [.map h0.length,.lst 3 (m0.Params.map X7)] (h0 ++ [.map []])=some (.int .i64 (Zvb m0.Params),h1,f1):=q1
 by_cases b2:Zvb m0.Params=0
 case neg =>
  simp only [Zav,CO,SC,hh0,LG gd0,p1,hm.Name,q1',dr1,Zwb,b1,b2,ne_eq,not_true_eq_false,not_false_eq_true]
 by_cases b3:m0.Sites.length=0
 ·have b3':decide ((m0.Sites.length:Int)=0)=true:=by simp [b3]
  simp only [Zav,CO,SC,hh0,LG gd0,LG gd1,p1,hm.Name,q1',dr1,Zwb,b1,b2,b3',ne_eq,not_true_eq_false]
 have b3':decide ((m0.Sites.length:Int)=0)=false:=by simp only [decide_eq_false_iff_not]; omega
 have hh1:hp.length < h1.length:=(List.getElem?_eq_some_iff.1 gd1).1
 generalize hk1:h1 ++ [Z5.map []]=k1
 generalize hk2:k1 ++ [Z5.cells [.map h1.length] V3]=k2
 have lk1:k1.length=h1.length + 1:=by rw [← hk1]; simp
 have gk1:k1[h1.length]? = some (.map (Sl [])):=by rw [← hk1]; exact Wj _ _
 have gd2:k1[hp.length]? = some (.cells (Vz m0) Yo):=by rw [← hk1]; exact Du gd1 _
 have gd3:k2[hp.length]? = some (.cells (Vz m0) Yo):=by rw [← hk2]; exact Du gd2 _
 have hi:CI h1.length k1.length [] k2:=by
  rw [← hk2]; exact ⟨Zt3 gk1 _,Wj _ _,by omega⟩
 obtain ⟨h3,f3,q3,u3,e3⟩:=Zqd hC m k2 16 (.fn Lh [] [.ptr k1.length 0]) rfl m0.Sites hm.l.2.1 (fun d:Zo=>PS d.Name (ZzU d)) Sl h1.length (CI h1.length k1.length) (fun s hp x h=>h.app x)
  (fun x hx s hp h=>⟨by rw [Zfz]; exact Zqf hC m hp _ _ s x h (hm.Sites.2 x hx) (by have:=Z7W hx; omega),fun hp' hu=>h.upd hu⟩) [] hi.m hi
 have q3':Za C (m + 1) KC [.lst 13 (m0.Sites.map Zk),.int .i64 16,.fn Lh [] [.ptr k1.length 0]] k2=some (.int .i64 (Z2e m0),h3,f3):=q3
 have dr3:=e3.drop (bs := hp.length) (ef := none) (by omega)
 have gd4:=u3.get gd3 (by omega)
 have st1:Zph hp.length (.ptr k1.length 0) (.map h1.length) (k1 ++ [.cells [.nilm] V3]) none=some (k2,none):=by rw [← hk2]; exact ZrG hp.length k1 .nilm (.map h1.length) V3 none rfl (by omega)
 simp only [Zav,CO,SC,hh0,LG gd0,LG gd1,hk1,st1,LG gd3,LG gd4,p1,p2,hm.Name,q1',dr1,q3',dr3,Zwb,b1,b2,b3',ne_eq,not_true_eq_false]
end Go.Proofs.YtlmfmmclnboglaaGreat
end
section
namespace Go.Proofs.YtlmfmmclnboglaaGreat
open Go Go.RowKit Go.Proofs.YtlmfmmclnboglaaGreat.Abs
open Nat (reduceAdd reduceLeDiff)
set_option maxRecDepth 100000
theorem kd (k:Nat):(∀ j:Nat,k=j→decide (((k:Nat):Int)=(j:Int))=true)∧(∀ j:Nat,k≠j→decide (((k:Nat):Int)=(j:Int))=false):=⟨fun j h=>by simp [h],fun j h=>by simp only [decide_eq_false_iff_not]; omega⟩
end Go.Proofs.YtlmfmmclnboglaaGreat
end
section
namespace Go.Proofs.YtlmfmmclnboglaaGreat
open Go Go.RowKit Go.Proofs.YtlmfmmclnboglaaGreat.Abs
open Nat (reduceAdd reduceLeDiff)
set_option maxRecDepth 100000
noncomputable def eqv {α:Type}(a b:α):Bool:=@decide (a=b) (Classical.propDecidable _)
theorem Oa {α:Type}{a b:α}:eqv a b=true↔a=b:=by unfold eqv; simp
theorem X9 {α:Type}{a b:α}(i:Decidable (a=b)):@decide (a=b) i=eqv a b:=by
 rw [Bool.eq_iff_iff,Oa]; simp
theorem Ju {α:Type}{a b:α}(i:Decidable (a≠b)):@decide (a≠b) i=!eqv a b:=by
 rw [Bool.eq_iff_iff]; simp [← Bool.not_eq_true,Oa]
theorem Zf7 {α:Type}(a:α):eqv a a=true:=Oa.2 rfl
theorem Z2B {α:Type}(a b:α):eqv a b=eqv b a:=by
 rw [Bool.eq_iff_iff,Oa,Oa]; exact eq_comm
theorem Z07 {α:Type}{a b:α}(h:a≠b):eqv a b=false:=by
 rw [← Bool.not_eq_true,Oa]; exact h
theorem Zpk {α:Type}(x y:α)(l m:List α):eqv (x :: l) (y :: m)=(eqv x y && eqv l m):=by
 rw [Bool.eq_iff_iff,Bool.and_eq_true,Oa,Oa,Oa,List.cons.injEq]
theorem ZhY {α:Type}{l m:List α}(h:l.length≠m.length):eqv l m=false:=Z07 fun e=>h (by rw [e])
theorem eqB (a b:Bool):(a == b)=eqv a b:=by cases a <;> cases b <;> simp [eqv]
theorem Z06 (a b:Uy):eqv a b=(eqv a.Name b.Name && (eqv a.Ty b.Ty && (eqv a.N b.N))):=by
 rw [Bool.eq_iff_iff]; simp only [Bool.and_eq_true,Oa]; cases a; cases b; simp only [Uy.mk.injEq,and_assoc]
theorem Zz0 (a b:Kq):eqv a b=(eqv a.At_ b.At_ && (eqv a.Units b.Units)):=by
 rw [Bool.eq_iff_iff]; simp only [Bool.and_eq_true,Oa]; cases a; cases b; simp only [Kq.mk.injEq,and_assoc]
theorem Z27 (a b:AO):eqv a b=(eqv a.Op b.Op && (eqv a.A b.A && (eqv a.B b.B && (eqv a.N b.N && (eqv a.Values b.Values && (eqv a.Weights b.Weights)))))):=by
 rw [Bool.eq_iff_iff]; simp only [Bool.and_eq_true,Oa]; cases a; cases b; simp only [AO.mk.injEq,and_assoc]
theorem Zqr (a b:Zd5):eqv a b=(eqv a.Stream b.Stream && (eqv a.Up b.Up && (eqv a.Down b.Down))):=by
 rw [Bool.eq_iff_iff]; simp only [Bool.and_eq_true,Oa]; cases a; cases b; simp only [Zd5.mk.injEq,and_assoc]
theorem Zcd (a b:Zy):eqv a b=(eqv a.Name b.Name && (eqv a.Units b.Units && (eqv a.Shift b.Shift && (eqv a.Cycle b.Cycle && (eqv a.Fault b.Fault))))):=by
 rw [Bool.eq_iff_iff]; simp only [Bool.and_eq_true,Oa]; cases a; cases b; simp only [Zy.mk.injEq,and_assoc]
theorem Zur (a b:Qr):eqv a b=(eqv a.Name b.Name && (eqv a.Room b.Room && (eqv a.Policy b.Policy))):=by
 rw [Bool.eq_iff_iff]; simp only [Bool.and_eq_true,Oa]; cases a; cases b; simp only [Qr.mk.injEq,and_assoc]
theorem ZvL (a b:Xn):eqv a b=(eqv a.Name b.Name && (eqv a.Length b.Length && (eqv a.Step b.Step))):=by
 rw [Bool.eq_iff_iff]; simp only [Bool.and_eq_true,Oa]; cases a; cases b; simp only [Xn.mk.injEq,and_assoc]
theorem Z05 (a b:KD):eqv a b=(eqv a.Name b.Name && (eqv a.Ty b.Ty)):=by
 rw [Bool.eq_iff_iff]; simp only [Bool.and_eq_true,Oa]; cases a; cases b; simp only [KD.mk.injEq,and_assoc]
theorem Z28 (a b:Xw):eqv a b=(eqv a.Op b.Op && (eqv a.Name b.Name && (eqv a.N b.N && (eqv a.Kids b.Kids)))):=by
 rw [Bool.eq_iff_iff]; simp only [Bool.and_eq_true,Oa]; cases a; cases b; simp only [Xw.mk.injEq,and_assoc]
theorem Zye (a b:YY):eqv a b=(eqv a.Op b.Op && (eqv a.Name b.Name && (eqv a.Of b.Of && (eqv a.E b.E && (eqv a.F b.F && (eqv a.Args b.Args && (eqv a.Dist b.Dist && (eqv a.Flag b.Flag && (eqv a.Body b.Body && (eqv a.Else b.Else)))))))))):=by
 rw [Bool.eq_iff_iff]; simp only [Bool.and_eq_true,Oa]; cases a; cases b; simp only [YY.mk.injEq,and_assoc]
theorem Zqt (a b:QJ):eqv a b=(eqv a.Name b.Name && (eqv a.Params b.Params && (eqv a.Locals b.Locals && (eqv a.Body b.Body)))):=by
 rw [Bool.eq_iff_iff]; simp only [Bool.and_eq_true,Oa]; cases a; cases b; simp only [QJ.mk.injEq,and_assoc]
theorem ZvM (a b:KY):eqv a b=(eqv a.Routine b.Routine && (eqv a.Args b.Args && (eqv a.At_ b.At_ && (eqv a.Every b.Every && (eqv a.Until b.Until))))):=by
 rw [Bool.eq_iff_iff]; simp only [Bool.and_eq_true,Oa]; cases a; cases b; simp only [KY.mk.injEq,and_assoc]
theorem Z2A (a b:PY):eqv a b=(eqv a.Coef b.Coef && (eqv a.What b.What && (eqv a.Name b.Name))):=by
 rw [Bool.eq_iff_iff]; simp only [Bool.and_eq_true,Oa]; cases a; cases b; simp only [PY.mk.injEq,and_assoc]
theorem Zxn (a b:Zc1):eqv a b=(eqv a.Name b.Name && (eqv a.Terms b.Terms && (eqv a.Total b.Total))):=by
 rw [Bool.eq_iff_iff]; simp only [Bool.and_eq_true,Oa]; cases a; cases b; simp only [Zc1.mk.injEq,and_assoc]
theorem ZhX (a b:Zo):eqv a b=(eqv a.Name b.Name && (eqv a.Vars b.Vars && (eqv a.Resources b.Resources && (eqv a.Stores b.Stores && (eqv a.Belts b.Belts && (eqv a.Queues b.Queues && (eqv a.Streams b.Streams && (eqv a.Tallies b.Tallies && (eqv a.Levels b.Levels && (eqv a.Counts b.Counts && (eqv a.Routines b.Routines && (eqv a.Starts b.Starts && (eqv a.Laws b.Laws))))))))))))):=by
 rw [Bool.eq_iff_iff]; simp only [Bool.and_eq_true,Oa]; cases a; cases b; simp only [Zo.mk.injEq,and_assoc]
theorem Z29 (a b:EU):eqv a b=(eqv a.From b.From && (eqv a.To b.To && (eqv a.Delay b.Delay))):=by
 rw [Bool.eq_iff_iff]; simp only [Bool.and_eq_true,Oa]; cases a; cases b; simp only [EU.mk.injEq,and_assoc]
theorem Zqs (a b:JD):eqv a b=(eqv a.Name b.Name && (eqv a.Params b.Params && (eqv a.Sites b.Sites && (eqv a.Links b.Links)))):=by
 rw [Bool.eq_iff_iff]; simp only [Bool.and_eq_true,Oa]; cases a; cases b; simp only [JD.mk.injEq,and_assoc]
theorem Zcg (a b:Uy):U5 [.str,.int,.int] (X7 a) (X7 b)=some (eqv a b):=by
 simp only [EV,X7,X9,Z06,eqB,BL]
theorem FO (a b:Kq):U5 [.int,.int] (Vg a) (Vg b)=some (eqv a b):=by
 simp only [EV,Vg,X9,Zz0,eqB,BL]
theorem WB (a b:Qr):U5 [.str,.int,.int] (Yt a) (Yt b)=some (eqv a b):=by
 simp only [EV,Yt,X9,Zur,eqB,BL]
theorem Qo (a b:Xn):U5 [.str,.int,.int] (YQ a) (YQ b)=some (eqv a b):=by
 simp only [EV,YQ,X9,ZvL,eqB,BL]
theorem Zcf (a b:KD):U5 [.str,.int] (Vh a) (Vh b)=some (eqv a b):=by
 simp only [EV,Vh,X9,Z05,eqB,BL]
theorem Zgm (a b:PY):U5 [.int,.str,.str] (Io a) (Io b)=some (eqv a b):=by
 simp only [EV,Io,X9,Z2A,eqB,BL]
theorem ZbG (a b:EU):U5 [.str,.str,.int] (GH a) (GH b)=some (eqv a b):=by
 simp only [EV,GH,X9,Z29,eqB,BL]
end Go.Proofs.YtlmfmmclnboglaaGreat
end
section
namespace Go.Proofs.YtlmfmmclnboglaaGreat
open Go Go.RowKit Go.Proofs.YtlmfmmclnboglaaGreat.Abs
open Nat (reduceAdd reduceLeDiff)
set_option maxRecDepth 100000
def Jp {α β:Type}(o:Option α)(k:α→Option β):Option β :=
 match o with
 | some v=>k v
 | none=>none
theorem Zj {α β:Type}(v:α)(k:α→Option β):Jp (some v) k=k v:=by simp [Jp]
theorem WT {α β:Type}(k:α→Option β):Jp none k=none:=by simp [Jp]
def PN {α:Type}(l:List α)(i:Int):Option α:=if 0≤i then l[i.toNat]? else none
theorem WJ {α:Type}{l:List α}{i:Int}{x:α}(h:PN l i=some x):x ∈ l:=by
 unfold PN at h
 split at h
 ·exact List.mem_of_getElem? h
 ·cases h
theorem MR {α:Type}{row:α→List AV}{l:List α}{i:Int}{x:α}{k:Nat}(h:PN l i=some x){ik:IntKind}:Y4 (.slice k) (.lst k (l.map row)) (.int ik i)=some (.ref (row x)):=by
 unfold PN at h
 split at h
 ·rename_i h0; simp [Y4,h0,h]
 ·cases h
section
variable {hp:HP}{g:Nat}{cs:List AV}{t:TypeId}
theorem Ti (hg:hp[g]? = some (.cells cs t)){n o:Nat}{d:List AV}(h1:o + n≤cs.length)(h2:(cs.drop o).take n=d)(h3:d.map AV.ro=d):Zt hp n (.ptr g o)=some (.agg d):=by
 rw [Zib hg n o h1,h2,h3]
theorem DW {bs n o:Nat}{v:AV}{cs':List AV}(hg:hp[g]? = some (.cells cs t))(h1:v.cells.length=n)(h2:o + n≤cs.length)(h3:v.laid=true)(h4:bs≤g)(h5:splice cs o v.cells=cs'):stV bs n (.ptr g o) v hp none=some (hp.set g (.cells cs' t),none):=by
 have:Zd1 bs none g 0=none:=by simp [Zd1]; omega
 simp only [stV,hg,h1,h2,h3,h5,this,and_self,if_true]
theorem set_self {x:Z5}(hg:hp[g]? = some x)(y:Z5):(hp.set g y)[g]? = some y:=by
 have:=(List.getElem?_eq_some_iff.1 hg).1
 simp [this]
theorem Z2b {f:Nat}{x:Z5}(hf:hp[f]? = some x)(h:f≠g)(y:Z5):(hp.set g y)[f]? = some x:=by
 rw [List.getElem?_set_ne (by omega)]; exact hf
end
theorem mkH (h:HP)(x:Z5):∃ k,h ++ [x]=k∧k[h.length]? = some x∧k.length=h.length + 1:=⟨_,rfl,Wj ..,by simp⟩
theorem seH {h:HP}{g:Nat}{x:Z5}(hg:h[g]? = some x)(y:Z5):∃ k,h.set g y=k∧k[g]? = some y∧k.length=h.length:=⟨_,rfl,set_self hg y,by simp⟩
theorem keA {h k:HP}{g:Nat}{cs:List AV}{t:TypeId}{x:Z5}(e:h ++ [x]=k)(hg:h[g]? = some (.cells cs t)):k[g]? = some (.cells cs t):=by rw [← e]; exact Du hg x
theorem keS {h k:HP}{f g:Nat}{x y:Z5}(e:h.set g y=k)(hf:h[f]? = some x)(n:f≠g):k[f]? = some x:=by rw [← e]; exact Z2b hf n y
abbrev OkL {α:Type}(b:Nat)(P:α→Prop)(l:List α):Prop:=l.length * b≤140737488351232∧∀ y ∈ l,P y
abbrev HkB (o:HP)(k:HP→Eff→KR)(t:Option Bool):Prop:=∀ (hp:HP),o.length≤hp.length→∀ res,t=some res→k hp none=some (.bool res,o,none)
theorem exM (hp:HP){N:Nat}(h:1≤N):∃ M,N=M + 1∧hp.length≤hp.length:=⟨N - 1,by omega,Nat.le_refl _⟩
theorem UH {c d:List AV}{n:Nat}(h1:d.length=n)(h2:c.length=n):splice c 0 d=d:=by simp [splice,h1,← h2]
theorem Z6g:ints []=[]:=rfl
theorem Z6R:strs []=[]:=rfl
theorem Z7r (l:List Int):(ints l).length=l.length:=by simp [ints]
theorem Z79 (l:List (List UInt8)):(strs l).length=l.length:=by simp [strs]
theorem Z7T (hp0:HP)(c:List AV)(hp:HP)(h:c.all AV.noId1=true)(h2:c.map AV.ro=c):Vm false hp0 (.agg c) hp none=(.agg c,hp0,none):=by
 refine Z0D ?_
 have:∀ (d:List AV),d.all AV.noId1=true→d.map AV.ro=d→d.mapM (Zyk hp0.length hp 4)=some d:=by
  intro d
  induction d with
  | nil=>intros; rfl
  | cons a l ih =>
   intro h1 h2
   simp only [List.all_cons,Bool.and_eq_true] at h1
   simp only [List.map_cons,List.cons.injEq] at h2
   have e1:Zyk hp0.length hp 4 a=some a:=by
    rw [show some a=some a.ro from by rw [h2.1]]
    cases a with
    | fn f x y =>
     have:=h1.1
     simp only [AV.noId1] at this
     simp only [Zyk,this,if_true]
     simp only [Bool.and_eq_true,List.isEmpty_iff] at this
     rw [this.1,this.2]; rfl
    | _=>first | rfl | (simp [AV.noId1] at h1)
   rw [List.mapM_cons,e1,ih h1.2 h2.2]; rfl
 rw [frz,ZhZ,this c h h2]; rfl
 all_goals simp
theorem Z7q (bs:Nat)(hp:HP)(c:List AV)(h:c.all AV.noId1=true)(h2:c.map AV.ro=c):ZhZ bs hp (.agg c)=some (.agg c):=by
 have:∀ (d:List AV),d.all AV.noId1=true→d.map AV.ro=d→d.mapM (Zyk bs hp 4)=some d:=by
  intro d
  induction d with
  | nil=>intros; rfl
  | cons a l ih =>
   intro h1 h2
   simp only [List.all_cons,Bool.and_eq_true] at h1
   simp only [List.map_cons,List.cons.injEq] at h2
   have e1:Zyk bs hp 4 a=some a:=by
    rw [show some a=some a.ro from by rw [h2.1]]
    cases a with
    | fn f x y =>
     have:=h1.1
     simp only [AV.noId1] at this
     simp only [Zyk,this,if_true]
     simp only [Bool.and_eq_true,List.isEmpty_iff] at this
     rw [this.1,this.2]; rfl
    | _=>first | rfl | (simp [AV.noId1] at h1)
   rw [List.mapM_cons,e1,ih h1.2 h2.2]; rfl
 rw [ZhZ,this c h h2]; rfl
theorem Z2E (bs:Nat)(hp:HP)(k:Nat)(r:List (List AV)):ZhZ bs hp (.own k r)=some (.lst k r):=rfl
theorem Z1P (x:Uy):(X7 x).all AV.noId1=true:=by rfl
def FQ:=And.intro Zny <| And.intro Zmh <| And.intro ZwB <| And.intro ZyW <| And.intro ZyX <| And.intro ZyY <| Z1P
theorem ZzO (x:Kq):(Vg x).all AV.noId1=true:=by rfl
def N8:=And.intro Zrk <| And.intro Znx <| And.intro ZtF <| And.intro Zwy <| And.intro Zwz <| ZzO
theorem ZuI (x:AO):(H8 x).all AV.noId1=true:=by rfl
def Dc:=And.intro Zw1 <| And.intro PQ <| And.intro Z3n <| And.intro Z10 <| And.intro Z11 <| And.intro Z12 <| And.intro Z13 <| And.intro Z14 <| And.intro Z15 <| ZuI
theorem Z1A (x:Zd5):(SB x).all AV.noId1=true:=by simp only [SB,List.all_append,ZuI]; rfl
theorem Zpg (x:Zy):(Zh x).all AV.noId1=true:=by simp only [Zh,List.all_append,Z1A]; rfl
def ZL:=And.intro X4 <| And.intro FV <| And.intro Zgo <| And.intro Zil <| And.intro Zim <| And.intro Zin <| And.intro Zio <| And.intro Zip <| And.intro Zrn <| And.intro Zro <| And.intro Zrp <| And.intro Zrq <| And.intro Zrr <| And.intro ZoZ <| And.intro Zpa <| And.intro Zpb <| And.intro Zpc <| And.intro Zpd <| And.intro Zpe <| And.intro Zpf <| And.intro ZaT <| Zpg
theorem ZuM (x:Qr):(Yt x).all AV.noId1=true:=by rfl
def YU:=And.intro Zbz <| And.intro ZaB <| And.intro Zmg <| And.intro ZnU <| And.intro ZnV <| And.intro ZnW <| ZuM
theorem Zwx (x:Xn):(YQ x).all AV.noId1=true:=by rfl
def WC:=And.intro ZfA <| And.intro ZdQ <| And.intro ZnP <| And.intro Zrh <| And.intro Zri <| And.intro Zrj <| Zwx
theorem Z1C (x:KD):(Vh x).all AV.noId1=true:=by rfl
def FP:=And.intro ZtH <| And.intro Zrl <| And.intro Zw5 <| And.intro ZyE <| And.intro ZyF <| Z1C
theorem ZyB (x:Xw):(W9 x).all AV.noId1=true:=by rw [VL]; rfl
def TB:=And.intro DU <| And.intro FU <| And.intro ZyC <| And.intro Z16 <| And.intro Z17 <| And.intro Z18 <| And.intro Z19 <| ZyB
theorem Z3y (x:YY):(WE x).all AV.noId1=true:=by rw [Vf]; simp only [List.all_append,ZuI,ZyB]; rfl
theorem ZwK (x:YY):SizeOf.sizeOf x.E < SizeOf.sizeOf x:=by cases x; simp; try omega
theorem ZwL (x:YY):SizeOf.sizeOf x.F < SizeOf.sizeOf x:=by cases x; simp; try omega
theorem ZnZ (x:YY):SizeOf.sizeOf x.Args < SizeOf.sizeOf x:=by cases x; simp; try omega
theorem ZdR (x:YY):SizeOf.sizeOf x.Body < SizeOf.sizeOf x:=by cases x; simp; try omega
theorem ZdS (x:YY):SizeOf.sizeOf x.Else < SizeOf.sizeOf x:=by cases x; simp; try omega
def DT:=And.intro KI <| And.intro ZuL <| And.intro Z3z <| And.intro Z1J <| And.intro Z1K <| And.intro Z1L <| And.intro Z5s <| And.intro Z5t <| And.intro Z5u <| And.intro Z5v <| And.intro Z5w <| And.intro Z5x <| And.intro Z5y <| And.intro Z3r <| And.intro ZyR <| And.intro Z3s <| And.intro Z3t <| And.intro Z3u <| And.intro Z3v <| And.intro Z3w <| And.intro Z3x <| And.intro ZyS <| And.intro ZyT <| And.intro ZyU <| And.intro Zc6 <| And.intro Zc7 <| And.intro Ai <| Z3y
theorem ZxJ (x:QJ):(Y3 x).all AV.noId1=true:=by rfl
theorem Zit (x:QJ):SizeOf.sizeOf x.Body < SizeOf.sizeOf x:=by cases x; simp; try omega
def WV:=And.intro OU <| And.intro ZfB <| And.intro Zrs <| And.intro ZtJ <| And.intro ZtK <| And.intro ZtL <| And.intro ZtM <| ZxJ
theorem Z1I (x:KY):(Xq x).all AV.noId1=true:=by rfl
def XB:=And.intro NS <| And.intro Zr3 <| And.intro Zw9 <| And.intro ZyM <| And.intro ZyN <| And.intro ZyO <| And.intro ZyP <| And.intro ZyQ <| Z1I
theorem Z30 (x:PY):(Io x).all AV.noId1=true:=by rfl
def Zch:=And.intro ZwA <| And.intro ZuO <| And.intro ZyV <| And.intro Z1M <| And.intro Z1N <| And.intro Z1O <| Z30
theorem Z5r (x:Zc1):(DV x).all AV.noId1=true:=by rfl
def UA:=And.intro Zi0 <| And.intro ZxI <| And.intro Z1D <| And.intro Z4m <| And.intro Z4n <| And.intro Z4o <| Z5r
theorem Zw8 (x:Zo):(Zk x).all AV.noId1=true:=by rfl
theorem Zcl (x:Zo):SizeOf.sizeOf x.Routines < SizeOf.sizeOf x:=by cases x; simp; try omega
def ZY:=And.intro Ah <| And.intro Ziq <| And.intro ZnT <| And.intro Zrt <| And.intro Zru <| And.intro Zrv <| And.intro Zrw <| And.intro Zrx <| And.intro Zry <| And.intro Zrz <| And.intro Zr0 <| And.intro Zr1 <| And.intro Zr2 <| And.intro ZnQ <| And.intro ZnR <| And.intro ZnS <| Zw8
theorem Z3p (x:EU):(GH x).all AV.noId1=true:=by rfl
def EI:=And.intro Zw6 <| And.intro ZuJ <| And.intro ZyH <| And.intro Z1E <| And.intro Z1F <| And.intro Z1G <| Z3p
theorem Z1H (x:JD):(Vz x).all AV.noId1=true:=by rfl
theorem ZjJ (x:JD):SizeOf.sizeOf x.Sites < SizeOf.sizeOf x:=by cases x; simp; try omega
def PP:=And.intro ZtI <| And.intro Zrm <| And.intro Zw7 <| And.intro ZyI <| And.intro ZyJ <| And.intro ZyK <| And.intro ZyL <| Z1H
theorem Z7S:(∀ (hp0:HP) (c:List AV) (hp:HP),c.all AV.noId1=true→c.map AV.ro=c→Vm false hp0 (.agg c) hp none=(.agg c,hp0,none))∧(∀ (bs:Nat) (hp:HP) (c:List AV),c.all AV.noId1=true→c.map AV.ro=c→ZhZ bs hp (.agg c)=some (.agg c))∧(∀ (bs:Nat) (hp:HP) (k:Nat) (r:List (List AV)),ZhZ bs hp (.own k r)=some (.lst k r)):=⟨Z7T,Z7q,Z2E⟩
def NIL:=And.intro @List.length_nil.{0} <| And.intro Int.natCast_zero <| And.intro @List.map_nil.{0,0} <| And.intro Z6g Z6R
def COL:=And.intro @EV <| And.intro @LD <| And.intro @BL <| And.intro @IFJ <| And.intro @GI <| And.intro @QC <| And.intro @EX <| And.intro @TUP <| And.intro @LIT <| And.intro @Z7S <| And.intro @Z5U <| And.intro @eqB <| And.intro @Z6g <| And.intro @Z6R <| And.intro @Z7r <| And.intro @Z79 <| And.intro @List.length_cons.{0} <| And.intro @List.length_nil.{0} <| @List.map_nil.{0,0}
end Go.Proofs.YtlmfmmclnboglaaGreat
end
section
namespace Go.Proofs.YtlmfmmclnboglaaGreat
open Go Go.RowKit Go.Proofs.YtlmfmmclnboglaaGreat.Abs
open Nat (reduceAdd reduceLeDiff)
set_option maxRecDepth 100000
theorem Z5A {b c:Bool}:(if b=true then some c else some false)=some (b && c):=by cases b <;> rfl
theorem Z7c {b c:Bool}:(if b=true then some false else some c)=some (!b && c):=by cases b <;> rfl
theorem Zuw {α:Type}(l:List α)(n:Nat):PN l (n:Int)=l[n]?:=by simp [PN]
theorem Z3G {α:Type}(f:α→α→Option Bool)(lp:Option Bool→List α→List α→Option Bool)(x1:List α)(hn:∀ k q,lp k [] q=k)(hc:∀ k x r q,lp k (x :: r) q=Jp (PN x1 (q.length:Int)) fun y=>Jp (f x y) fun v=>if (!v)=true then some false else lp k r (q ++ [x])) :
  ∀ (r1 r2 q1 q2:List α),x1=q2 ++ r2→q1.length=q2.length→r1.length=r2.length→(∀ x ∈ r1,∀ y ∈ r2,f x y=some (eqv x y))→lp (some true) r1 q1=some (eqv r1 r2)
 | [],[],q1,q2,_,_,_,_=>by rw [hn,Zf7]
 | [],_ :: _,_,_,_,_,h,_=>by simp at h
 | _ :: _,[],_,_,_,_,h,_=>by simp at h
 | x :: r1,y :: r2,q1,q2,h1,h2,h3,h4=>by
  have e1:PN x1 (q1.length:Int)=some y:=by rw [Zuw,h1,h2]; simp
  rw [hc,e1,Zj,h4 x (List.mem_cons_self ..) y (List.mem_cons_self ..),Zj,Zpk]
  have ih:=Z3G f lp x1 hn hc r1 r2 (q1 ++ [x]) (q2 ++ [y]) (by simp [h1]) (by simp [h2]) (by simpa using h3) (fun a ha b hb=>h4 a (List.mem_cons_of_mem _ ha) b (List.mem_cons_of_mem _ hb))
  rw [ih]
  cases eqv x y <;> simp
theorem Z7o {α:Type}(f:α→α→Option Bool)(lp:Option Bool→List α→List α→Option Bool)(x0 x1:List α)(hn:∀ k q,lp k [] q=k)(hc:∀ k x r q,lp k (x :: r) q=Jp (PN x1 (q.length:Int)) fun y=>Jp (f x y) fun v=>if (!v)=true then some false else lp k r (q ++ [x]))(h:∀ x ∈ x0,∀ y ∈ x1,f x y=some (eqv x y)) :
  (if decide ((x0.length:Int)≠(x1.length:Int))=true then some false else lp (some true) x0 [])=some (eqv x0 x1):=by
 by_cases hl:x0.length=x1.length
 ·rw [if_neg (by simp [hl]),Z3G f lp x1 hn hc x0 x1 [] [] rfl rfl hl h]
 ·rw [if_pos (by simp only [decide_eq_true_eq]; omega),ZhY hl]
theorem Z04 {α:Type}(lp:List α→List α→Option Bool)(x1:List α)(k:Option Bool)(hn:∀ q,lp [] q=k)(hc:∀ x y r q,PN x1 (q.length:Int)=some y→lp (x :: r) q=if eqv x y=true then lp r (q ++ [x]) else some false) :
  ∀ (r1 r2 q1 q2:List α),x1=q2 ++ r2→q1.length=q2.length→r1.length=r2.length→lp r1 q1=if eqv r1 r2=true then k else some false
 | [],[],q1,q2,_,_,_=>by rw [hn,Zf7]; rfl
 | [],_ :: _,_,_,_,_,h=>by simp at h
 | _ :: _,[],_,_,_,_,h=>by simp at h
 | x :: r1,y :: r2,q1,q2,h1,h2,h3=>by
  have e1:PN x1 (q1.length:Int)=some y:=by rw [Zuw,h1,h2]; simp
  have ih:=Z04 lp x1 k hn hc r1 r2 (q1 ++ [x]) (q2 ++ [y]) (by simp [h1]) (by simp [h2]) (by simpa using h3)
  rw [hc x y r1 q1 e1,ih,Zpk]
  cases eqv x y <;> simp
theorem ZhW {α:Type}(lp:List α→List α→Option Bool)(x0 x1:List α)(k:Option Bool)(hn:∀ q,lp [] q=k)(hc:∀ x y r q,PN x1 (q.length:Int)=some y→lp (x :: r) q=if eqv x y=true then lp r (q ++ [x]) else some false)(hl:x0.length=x1.length):lp x0 []=if eqv x0 x1=true then k else some false :=
 Z04 lp x1 k hn hc x0 x1 [] [] rfl rfl hl
theorem CJ {α:Type}(lp:List α→List α→Option Bool)(x0 x1:List α)(hn:∀ q,lp [] q=some true)(hc:∀ x y r q,PN x1 (q.length:Int)=some y→lp (x :: r) q=if eqv x y=true then lp r (q ++ [x]) else some false) :
  (if decide ((x0.length:Int)≠(x1.length:Int))=true then some false else lp x0 [])=some (eqv x0 x1):=by
 by_cases hl:x0.length=x1.length
 ·rw [if_neg (by simp [hl]),ZhW lp x0 x1 _ hn hc hl]
  cases eqv x0 x1 <;> rfl
 ·rw [if_pos (by simp only [decide_eq_true_eq]; omega),ZhY hl]
theorem ZjG {α:Type}{l m:List α}:(decide ((l.length:Int)≠(m.length:Int)))=!(decide (l.length=m.length)):=by
 by_cases h:l.length=m.length
 ·simp [h]
 ·have:(l.length:Int)≠(m.length:Int):=by omega
  simp [h,this]
theorem Z02 (a b:AO):Zzt a b=eqv a b:=by
 simp only [Zzt,Z27,X9,Bool.and_assoc]
theorem Z3E {α:Type}(f:α→α→Bool):∀ (l m:List α),l.length=m.length→(∀ x ∈ l,∀ y ∈ m,f x y=eqv x y)→all2 f l m=eqv l m
 | [],[],_,_=>by simp [all2,Zf7]
 | [],_ :: _,h,_=>by simp at h
 | _ :: _,[],h,_=>by simp at h
 | x :: l,y :: m,h,hf=>by
  rw [all2,hf x (List.mem_cons_self ..) y (List.mem_cons_self ..),Zpk,Z3E f l m (by simpa using h) (fun a ha b hb=>hf a (List.mem_cons_of_mem _ ha) b (List.mem_cons_of_mem _ hb))]
  cases eqv x y <;> simp
theorem Z1W:∀ (k:Nat) (a b:Xw),SizeOf.sizeOf a≤k→ZeY a b=eqv a b
 | 0,a,_,h=>absurd h (by have:=ZtR a; omega)
 | k + 1,a,b,h=>by
  rw [ZuS,Zz3,Z28]
  by_cases hl:a.Kids.length=b.Kids.length
  ·have h1:decide ((a.Kids.length:Int)≠(b.Kids.length:Int))=false:=by simp only [decide_eq_false_iff_not]; omega
   rw [h1,Z3E ZeY a.Kids b.Kids hl (fun x hx y hy=>Z1W k x y (by have:=Zt5 hx; omega))]
   simp only [Ju]
   cases eqv a.Op b.Op <;> cases eqv a.Name b.Name <;> cases eqv a.N b.N <;> simp
  ·have h1:decide ((a.Kids.length:Int)≠(b.Kids.length:Int))=true:=by simp only [decide_eq_true_eq]; omega
   rw [h1,ZhY hl]; simp
theorem Z1X (a b:Xw):ZeY a b=eqv a b:=Z1W _ a b (Nat.le_refl _)
end Go.Proofs.YtlmfmmclnboglaaGreat
end
section
namespace Go.Proofs.YtlmfmmclnboglaaGreat
open Go Go.RowKit Go.Proofs.YtlmfmmclnboglaaGreat.Abs
open Nat (reduceAdd reduceLeDiff)
set_option maxRecDepth 100000
set_option maxHeartbeats 0
structure Sr (C:Cfg):Prop extends I8 C where
 AW:∀ (N:Nat) (hp:HP),1≤N→Za C N P5 [] hp=some (.bool true,hp,none)
theorem Zf3 {C:Cfg}(hC:I8 C)(N:Nat)(hN:2≤N)(hp:HP)(d e:AO)(hd:Ar d)(he:Ar e):Za C N BM [.agg (H8 d),.agg (H8 e)] hp=some (.bool (eqv d e),hp,none):=by rw [Zxg hC N hN hp d e hd he,Z02]
theorem ZhQ {C:Cfg}(hC:I8 C)(N:Nat)(hN:2≤N)(hp:HP)(d e:AO)(hd:Ar d)(he:Ar e):Za C N Zc0 [.agg (H8 d),.agg (H8 e)] hp=some (.bool (eqv d e),hp,none):=by rw [Zzw hC N hN hp d e hd he,Z02]
theorem Zf5 {C:Cfg}(hC:I8 C)(N:Nat)(hp:HP)(e b:Xw)(hN:SizeOf.sizeOf e + 1≤N)(ok:JE e)(okb:JE b):Za C N KJ [.agg (W9 e),.agg (W9 b)] hp=some (.bool (eqv e b),hp,none):=by rw [Zxj hC N hp e b hN ok okb,Z1X]
theorem ZhR {C:Cfg}(hC:I8 C)(N:Nat)(hp:HP)(e b:Xw)(hN:2 * SizeOf.sizeOf e + 1≤N)(ok:JE e)(okb:JE b):Za C N Dy [.agg (W9 e),.agg (W9 b)] hp=some (.bool (eqv e b),hp,none):=by rw [Zzx hC N hp e b hN ok okb,Z1X]
noncomputable def Zw (x1:List Xw)(k0T:Option Bool):List Xw→List Xw→Option Bool
 | [],q0=>k0T
 | x0 :: r0,q0=>Jp (PN x1 (q0.length:Int)) fun y2=>if (!(eqv x0 y2))=true then some false else (Zw x1 k0T r0) (q0 ++ [x0])
theorem Vj {C:Cfg}(hC:Sr C)(M:Nat)(x0:List Xw)(x1:List Xw)(hM:SizeOf.sizeOf x0 + 1≤M)(hp0:HP)(okx0:OkL 56 JE x0)(okx1:OkL 56 JE x1)(hb:x0.length≤4611686018427387)(k0:HP→Eff→KR)(k0T:Option Bool)(hk0:HkB hp0 k0 k0T):∀ (r6 q6:List Xw) (m:Nat) (hp:HP),x0=q6 ++ r6→r6.length < m→hp0.length≤hp.length→∀ res,Zw x1 k0T r6 q6=some res→Yd C.G (Za C M) C.L hp0 k0 m (.lst 4 (x1.map W9)) (.fn KJ [] []) (.lst 4 (x0.map W9)) (.int .i64 (x0.length:Int)) (.int .i64 (q6.length:Int)) hp none=some ((AV.bool res),hp0,none)
 | _,_,0,_,_,h,_,_,_=>by omega
 | [],q6,m + 1,hp,h,hr,hh,res,hres=>by
  have l0:=lp0 h
  simp only [Zw,IFJ] at hres
  have hx:=hk0  hp (by omega) res hres
  simp only [Yd,COL,TB,reduceAdd,reduceLeDiff,Nat.reduceBEq,l0,hx]
  try rfl
 | x6 :: r6,q6,m + 1,hp,h,hr,hh,res,hres=>by
  obtain ⟨a1,-,a3,a4,a5⟩:=lp (W9) h hb
  have me6:=a5
  have a2:(x0.map W9)[q6.length]? = some (W9 x6):=(lp (W9) h hb).2.1
  have okx6:=(okx0).2 _ a5
  have ix6:Y4 (.slice 4) (.lst 4 (x0.map W9)) (.int .i64 (q6.length:Int))=some (.ref (W9 x6)):=by rw [Qu,a2]; rfl
  obtain ⟨h7,hh7,g8,l9⟩:=mkH hp (Z5.cells [(.int .i64 0),(.str []),(.int .i64 0),(.own 4 [])] WS)
  obtain ⟨h10,hh10,g11,l12⟩:=seH g8 (Z5.cells (W9 x6) WS)
  have e13:stV hp0.length 4 (.ptr hp.length 0) (.agg (W9 x6)) h7 none=some (h10,none):=by rw [← hh10]; exact DW g8 (by first | rfl | exact DU _) (by simp) rfl (by omega) (by rw [Gx]; exact UH (by exact DU _) (by rfl))
  cases q15:PN x1 (q6.length:Int) with
  | none =>
   simp only [Zw,IFJ,WT,q15] at hres; cases hres
  | some y14 =>
   have y14e:Y4 (.slice 4) (.lst 4 (x1.map W9)) (.int .i64 (q6.length:Int))=some (.ref (W9 y14)):=MR (row := W9) q15
   have oky14:=(okx1).2 _ (WJ q15)
   have memy14:=WJ q15
   obtain ⟨h16,hh16,g17,l18⟩:=mkH h10 (Z5.cells [(.int .i64 0),(.str []),(.int .i64 0),(.own 4 [])] WS)
   have g19:=keA hh16 g11
   obtain ⟨h20,hh20,g21,l22⟩:=seH g17 (Z5.cells (W9 y14) WS)
   have g23:=keS hh20 g19 (by omega)
   have e24:stV hp0.length 4 (.ptr h10.length 0) (.agg (W9 y14)) h16 none=some (h20,none):=by rw [← hh20]; exact DW g17 (by first | rfl | exact DU _) (by simp) rfl (by omega) (by rw [Gx]; exact UH (by exact DU _) (by rfl))
   have e25:Uo (Za C M) (.fn KJ [] []) [(.agg (W9 x6)),(.agg (W9 y14))] h20=Za C M KJ [(.agg (W9 x6)),(.agg (W9 y14))] h20:=rfl
   have c26:=fun hp:HP=>Zf5 hC.toI8 M hp x6 y14 (by have:=List.sizeOf_lt_of_mem me6; omega) okx6 oky14
   rcases Bool.eq_false_or_eq_true ((!(eqv x6 y14))) with b27 | b27
   ·simp only [Zw,IFJ,q15,Zj,b27] at hres
    cases hres
    simp only [Yd,COL,TB,reduceAdd,reduceLeDiff,Nat.reduceBEq,a1,a3,ix6,hh7,e13,y14e,hh16,e24,LG g23,LG g21,e25,c26,b27]
    try rfl
   ·simp only [Zw,IFJ,q15,Zj,b27] at hres
    have hx:=Vj hC M x0 x1 hM hp0 okx0 okx1 hb k0 k0T hk0 r6 (q6 ++ [x6]) m h20 a4 (by simpa using hr) (by omega) res hres
    simp only [Yd,COL,TB,reduceAdd,reduceLeDiff,Nat.reduceBEq,a1,a3,ix6,hh7,e13,y14e,hh16,e24,LG g23,LG g21,e25,c26,b27,hx]
    try rfl
def Yu:Option Bool :=
 some true
noncomputable def Yx (x0:List Xw)(x1:List Xw):Option Bool :=
 if (decide ((x0.length:Int)≠(x1.length:Int)))=true then some false else Zw x1 (Yu) x0 []
theorem GK {C:Cfg}(hC:Sr C)(N:Nat)(x0:List Xw)(x1:List Xw)(hN:SizeOf.sizeOf x0 + 2≤N)(hp0:HP)(okx0:OkL 56 JE x0)(okx1:OkL 56 JE x1){res}(hres:Yx x0 x1=some res):Za C N XG [(.lst 4 (x0.map W9)),(.lst 4 (x1.map W9)),(.fn KJ [] [])] hp0=some ((AV.bool res),hp0,none):=by
 obtain ⟨M,rfl,hh⟩:=exM hp0 (by omega:1≤N)
 refine Oc (by rw [hC.T]; rfl) ?_
 rcases Bool.eq_false_or_eq_true ((decide ((x0.length:Int)≠(x1.length:Int)))) with b2 | b2
 ·simp only [Yx,IFJ,b2] at hres
  cases hres
  simp only [WL,Yc,COL,TB,reduceAdd,reduceLeDiff,Nat.reduceBEq,b2]
  try rfl
 ·simp only [Yx,IFJ,b2] at hres
  have hk3:∀ (hp3:HP),hp0.length≤hp3.length→∀ res,Yu=some res→(Yc C.G (Za C M) C.L hp0) hp3 none=some ((AV.bool res),hp0,none):=by
   intro hp3 hh3  res hres
   simp only [Yu,IFJ] at hres
   cases hres
   simp only [WL,Yc,COL,TB,reduceAdd,reduceLeDiff,Nat.reduceBEq,b2]
   try rfl
  have hb':x0.length≤4611686018427387:=(by have:=(okx0).1; omega)
  have hx:=Vj hC M x0 x1 (by omega) hp0 okx0 okx1 hb' (Yc C.G (Za C M) C.L hp0) (Yu) hk3 x0 [] C.L hp0 rfl (by have:=hC.L; omega) (by omega) res hres
  try simp only [NIL] at hx
  simp only [WL,Yc,COL,TB,reduceAdd,reduceLeDiff,Nat.reduceBEq,b2,hx]
  try rfl
noncomputable def Ov (r_stmt_Same:(List YY)→(List YY)→Option Bool)(x0:YY)(x1:YY):Option Bool :=
 if (((((((decide (x0.Op=x1.Op)) && (decide (x0.Name=x1.Name))) && (decide (x0.Of=x1.Of))) && (eqv x0.Flag x1.Flag)) && (eqv x0.E x1.E)) && (eqv x0.F x1.F)) && (eqv x0.Dist x1.Dist))=true then (Jp ((Yx x0.Args x1.Args)) fun v2=>if v2=true then (Jp ((r_stmt_Same x0.Body x1.Body)) fun v3=>if v3=true then (Jp ((r_stmt_Same x0.Else x1.Else)) fun v4=>some v4) else some false) else some false) else some false
theorem ZxO {C:Cfg}(hC:Sr C)(kr:Nat)(r_stmt_Same:(List YY)→(List YY)→Option Bool)(hr_stmt_Same:∀ (N:Nat) (a0:List YY) (a1:List YY),kr + 1 * SizeOf.sizeOf a0≤N→∀ (hp:HP),(OkL 312 XJ a0)→(OkL 312 XJ a1)→∀ {res},r_stmt_Same a0 a1=some res→Za C N Lm [(.lst 21 (a0.map WE)),(.lst 21 (a1.map WE))] hp=some ((AV.bool res),hp,none))(N:Nat)(x0:YY)(x1:YY)(hN:SizeOf.sizeOf x0 + kr + 3≤N)(hp0:HP)(okx0:XJ x0)(okx1:XJ x1){res}(hres:Ov r_stmt_Same x0 x1=some res):Za C N FY [(.agg (WE x0)),(.agg (WE x1))] hp0=some ((AV.bool res),hp0,none):=by
 obtain ⟨M,rfl,hh⟩:=exM hp0 (by omega:1≤N)
 refine ZuV (by rw [hC.T]; rfl) ?_
 obtain ⟨h2,hh2,g3,l4⟩:=mkH hp0 (Z5.cells (WE x0) Xb)
 obtain ⟨h5,hh5,g6,l7⟩:=mkH h2 (Z5.cells (WE x1) Xb)
 have g8:=keA hh5 g3
 have e9:Zt h5 4 (.ptr hp0.length 3)=some (.agg (W9 x0.E)):=Ti g8 (by rw [KI]; omega) (by first | exact Zc6 _ | rfl | (simp only [Vf]; rfl)) (by exact FU _)
 have e10:Zt h5 4 (.ptr h2.length 3)=some (.agg (W9 x1.E)):=Ti g6 (by rw [KI]; omega) (by first | exact Zc6 _ | rfl | (simp only [Vf]; rfl)) (by exact FU _)
 have c11:=fun hp:HP=>Zf5 hC.toI8 M hp x0.E x1.E (by have:=ZwK x0; omega) okx0.E okx1.E
 have e12:Zt h5 4 (.ptr hp0.length 7)=some (.agg (W9 x0.F)):=Ti g8 (by rw [KI]; omega) (by first | exact Zc7 _ | rfl | (simp only [Vf]; rfl)) (by exact FU _)
 have e13:Zt h5 4 (.ptr h2.length 7)=some (.agg (W9 x1.F)):=Ti g6 (by rw [KI]; omega) (by first | exact Zc7 _ | rfl | (simp only [Vf]; rfl)) (by exact FU _)
 have c14:=fun hp:HP=>Zf5 hC.toI8 M hp x0.F x1.F (by have:=ZwL x0; omega) okx0.F okx1.F
 have e15:Zt h5 6 (.ptr hp0.length 12)=some (.agg (H8 x0.Dist)):=Ti g8 (by rw [KI]; omega) (by first | exact Ai _ | rfl | (simp only [Vf]; rfl)) (by exact PQ _)
 have e16:Zt h5 6 (.ptr h2.length 12)=some (.agg (H8 x1.Dist)):=Ti g6 (by rw [KI]; omega) (by first | exact Ai _ | rfl | (simp only [Vf]; rfl)) (by exact PQ _)
 have c17:=fun hp:HP=>Zf3 hC.toI8 M (by omega) hp x0.Dist x1.Dist okx0.Dist okx1.Dist
 rcases Bool.eq_false_or_eq_true ((((((((decide (x0.Op=x1.Op)) && (decide (x0.Name=x1.Name))) && (decide (x0.Of=x1.Of))) && (eqv x0.Flag x1.Flag)) && (eqv x0.E x1.E)) && (eqv x0.F x1.F)) && (eqv x0.Dist x1.Dist))) with b18 | b18
 ·cases q21:(Yx x0.Args x1.Args) with
  | none =>
   simp only [Ov,IFJ,WT,b18,q21] at hres; cases hres
  | some v20 =>
   have c19:=fun hp:HP=>GK hC M x0.Args x1.Args (by have:=ZnZ x0; omega) hp okx0.Args okx1.Args q21
   rcases Bool.eq_false_or_eq_true (v20) with b22 | b22
   ·cases q25:(r_stmt_Same x0.Body x1.Body) with
    | none =>
     simp only [Ov,IFJ,WT,b18,q21,Zj,b22,q25] at hres; cases hres
    | some v24 =>
     have c23:=fun hp:HP=>(hr_stmt_Same) M x0.Body x1.Body (by have:=ZdR x0; omega) hp okx0.Body okx1.Body q25
     rcases Bool.eq_false_or_eq_true (v24) with b26 | b26
     ·cases q29:(r_stmt_Same x0.Else x1.Else) with
      | none =>
       simp only [Ov,IFJ,WT,b18,q21,Zj,b22,q25,Zj,b26,q29] at hres; cases hres
      | some v28 =>
       have c27:=fun hp:HP=>(hr_stmt_Same) M x0.Else x1.Else (by have:=ZdS x0; omega) hp okx0.Else okx1.Else q29
       simp only [Ov,IFJ,b18,q21,Zj,b22,q25,b26,q29] at hres
       cases hres
       simp only [Zdh,COL,Dc,TB,DT,reduceAdd,reduceLeDiff,Nat.reduceBEq,hh2,hh5,LG g8,LG g6,e9,e10,c11,e12,e13,c14,e15,e16,c17,b18,c19,b22,c23,b26,c27]
       try rfl
     ·simp only [Ov,IFJ,b18,q21,Zj,b22,q25,b26] at hres
      cases hres
      simp only [Zdh,COL,Dc,TB,DT,reduceAdd,reduceLeDiff,Nat.reduceBEq,hh2,hh5,LG g8,LG g6,e9,e10,c11,e12,e13,c14,e15,e16,c17,b18,c19,b22,c23,b26]
      try rfl
   ·simp only [Ov,IFJ,b18,q21,Zj,b22] at hres
    cases hres
    simp only [Zdh,COL,Dc,TB,DT,reduceAdd,reduceLeDiff,Nat.reduceBEq,hh2,hh5,LG g8,LG g6,e9,e10,c11,e12,e13,c14,e15,e16,c17,b18,c19,b22]
    try rfl
 ·simp only [Ov,IFJ,b18] at hres
  cases hres
  simp only [Zdh,COL,Dc,TB,DT,reduceAdd,reduceLeDiff,Nat.reduceBEq,hh2,hh5,LG g8,LG g6,e9,e10,c11,e12,e13,c14,e15,e16,c17,b18]
  try rfl
noncomputable def Z4 (r_stmt_Same:(List YY)→(List YY)→Option Bool)(x1:List YY)(k0T:Option Bool):List YY→List YY→Option Bool
 | [],q0=>k0T
 | x0 :: r0,q0=>Jp (PN x1 (q0.length:Int)) fun y2=>Jp ((Ov r_stmt_Same x0 y2)) fun v3=>if (!v3)=true then some false else (Z4 r_stmt_Same x1 k0T r0) (q0 ++ [x0])
theorem Vl {C:Cfg}(hC:Sr C)(kr:Nat)(r_stmt_Same:(List YY)→(List YY)→Option Bool)(hr_stmt_Same:∀ (N:Nat) (a0:List YY) (a1:List YY),kr + 1 * SizeOf.sizeOf a0≤N→∀ (hp:HP),(OkL 312 XJ a0)→(OkL 312 XJ a1)→∀ {res},r_stmt_Same a0 a1=some res→Za C N Lm [(.lst 21 (a0.map WE)),(.lst 21 (a1.map WE))] hp=some ((AV.bool res),hp,none))(M:Nat)(x0:List YY)(x1:List YY)(hM:SizeOf.sizeOf x0 + kr + 3≤M)(hp0:HP)(okx0:OkL 312 XJ x0)(okx1:OkL 312 XJ x1)(hb:x0.length≤4611686018427387)(k0:HP→Eff→KR)(k0T:Option Bool)(hk0:HkB hp0 k0 k0T):∀ (r6 q6:List YY) (m:Nat) (hp:HP),x0=q6 ++ r6→r6.length < m→hp0.length≤hp.length→∀ res,Z4 r_stmt_Same x1 k0T r6 q6=some res→Yf C.G (Za C M) C.L hp0 k0 m (.lst 21 (x1.map WE)) (.fn FY [] []) (.lst 21 (x0.map WE)) (.int .i64 (x0.length:Int)) (.int .i64 (q6.length:Int)) hp none=some ((AV.bool res),hp0,none)
 | _,_,0,_,_,h,_,_,_=>by omega
 | [],q6,m + 1,hp,h,hr,hh,res,hres=>by
  have l0:=lp0 h
  simp only [Z4,IFJ] at hres
  have hx:=hk0  hp (by omega) res hres
  simp only [Yf,COL,DT,reduceAdd,reduceLeDiff,Nat.reduceBEq,l0,hx]
  try rfl
 | x6 :: r6,q6,m + 1,hp,h,hr,hh,res,hres=>by
  obtain ⟨a1,-,a3,a4,a5⟩:=lp (WE) h hb
  have me6:=a5
  have a2:(x0.map WE)[q6.length]? = some (WE x6):=(lp (WE) h hb).2.1
  have okx6:=(okx0).2 _ a5
  have ix6:Y4 (.slice 21) (.lst 21 (x0.map WE)) (.int .i64 (q6.length:Int))=some (.ref (WE x6)):=by rw [Qu,a2]; rfl
  obtain ⟨h7,hh7,g8,l9⟩:=mkH hp (Z5.cells [(.int .i64 0),(.str []),(.str []),(.int .i64 0),(.str []),(.int .i64 0),(.own 4 []),(.int .i64 0),(.str []),(.int .i64 0),(.own 4 []),(.own 4 []),(.int .i64 0),(.int .i64 0),(.int .i64 0),(.int .i64 0),(.own 1 []),(.own 1 []),(.bool false),(.own 21 []),(.own 21 [])] Xb)
  obtain ⟨h10,hh10,g11,l12⟩:=seH g8 (Z5.cells (WE x6) Xb)
  have e13:stV hp0.length 21 (.ptr hp.length 0) (.agg (WE x6)) h7 none=some (h10,none):=by rw [← hh10]; exact DW g8 (by first | rfl | exact KI _) (by simp) rfl (by omega) (by rw [Gx]; exact UH (by exact KI _) (by rfl))
  cases q15:PN x1 (q6.length:Int) with
  | none =>
   simp only [Z4,IFJ,WT,q15] at hres; cases hres
  | some y14 =>
   have y14e:Y4 (.slice 21) (.lst 21 (x1.map WE)) (.int .i64 (q6.length:Int))=some (.ref (WE y14)):=MR (row := WE) q15
   have oky14:=(okx1).2 _ (WJ q15)
   have memy14:=WJ q15
   obtain ⟨h16,hh16,g17,l18⟩:=mkH h10 (Z5.cells [(.int .i64 0),(.str []),(.str []),(.int .i64 0),(.str []),(.int .i64 0),(.own 4 []),(.int .i64 0),(.str []),(.int .i64 0),(.own 4 []),(.own 4 []),(.int .i64 0),(.int .i64 0),(.int .i64 0),(.int .i64 0),(.own 1 []),(.own 1 []),(.bool false),(.own 21 []),(.own 21 [])] Xb)
   have g19:=keA hh16 g11
   obtain ⟨h20,hh20,g21,l22⟩:=seH g17 (Z5.cells (WE y14) Xb)
   have g23:=keS hh20 g19 (by omega)
   have e24:stV hp0.length 21 (.ptr h10.length 0) (.agg (WE y14)) h16 none=some (h20,none):=by rw [← hh20]; exact DW g17 (by first | rfl | exact KI _) (by simp) rfl (by omega) (by rw [Gx]; exact UH (by exact KI _) (by rfl))
   have e25:Uo (Za C M) (.fn FY [] []) [(.agg (WE x6)),(.agg (WE y14))] h20=Za C M FY [(.agg (WE x6)),(.agg (WE y14))] h20:=rfl
   cases q28:(Ov r_stmt_Same x6 y14) with
   | none =>
    simp only [Z4,IFJ,WT,q15,Zj,q28] at hres; cases hres
   | some v27 =>
    have c26:=fun hp:HP=>ZxO hC kr r_stmt_Same hr_stmt_Same M x6 y14 (by have:=List.sizeOf_lt_of_mem me6; omega) hp okx6 oky14 q28
    rcases Bool.eq_false_or_eq_true ((!v27)) with b29 | b29
    ·simp only [Z4,IFJ,q15,Zj,q28,b29] at hres
     cases hres
     simp only [Yf,COL,DT,reduceAdd,reduceLeDiff,Nat.reduceBEq,a1,a3,ix6,hh7,e13,y14e,hh16,e24,LG g23,LG g21,e25,c26,b29]
     try rfl
    ·simp only [Z4,IFJ,q15,Zj,q28,b29] at hres
     have hx:=Vl hC kr r_stmt_Same hr_stmt_Same M x0 x1 hM hp0 okx0 okx1 hb k0 k0T hk0 r6 (q6 ++ [x6]) m h20 a4 (by simpa using hr) (by omega) res hres
     simp only [Yf,COL,DT,reduceAdd,reduceLeDiff,Nat.reduceBEq,a1,a3,ix6,hh7,e13,y14e,hh16,e24,LG g23,LG g21,e25,c26,b29,hx]
     try rfl
def WA:Option Bool :=
 some true
noncomputable def Yz (r_stmt_Same:(List YY)→(List YY)→Option Bool)(x0:List YY)(x1:List YY):Option Bool :=
 if (decide ((x0.length:Int)≠(x1.length:Int)))=true then some false else Z4 r_stmt_Same x1 (WA) x0 []
theorem GM {C:Cfg}(hC:Sr C)(kr:Nat)(r_stmt_Same:(List YY)→(List YY)→Option Bool)(hr_stmt_Same:∀ (N:Nat) (a0:List YY) (a1:List YY),kr + 1 * SizeOf.sizeOf a0≤N→∀ (hp:HP),(OkL 312 XJ a0)→(OkL 312 XJ a1)→∀ {res},r_stmt_Same a0 a1=some res→Za C N Lm [(.lst 21 (a0.map WE)),(.lst 21 (a1.map WE))] hp=some ((AV.bool res),hp,none))(N:Nat)(x0:List YY)(x1:List YY)(hN:SizeOf.sizeOf x0 + kr + 4≤N)(hp0:HP)(okx0:OkL 312 XJ x0)(okx1:OkL 312 XJ x1){res}(hres:Yz r_stmt_Same x0 x1=some res):Za C N XH [(.lst 21 (x0.map WE)),(.lst 21 (x1.map WE)),(.fn FY [] [])] hp0=some ((AV.bool res),hp0,none):=by
 obtain ⟨M,rfl,hh⟩:=exM hp0 (by omega:1≤N)
 refine Oe (by rw [hC.T]; rfl) ?_
 rcases Bool.eq_false_or_eq_true ((decide ((x0.length:Int)≠(x1.length:Int)))) with b2 | b2
 ·simp only [Yz,IFJ,b2] at hres
  cases hres
  simp only [WM,Ye,COL,DT,reduceAdd,reduceLeDiff,Nat.reduceBEq,b2]
  try rfl
 ·simp only [Yz,IFJ,b2] at hres
  have hk3:∀ (hp3:HP),hp0.length≤hp3.length→∀ res,WA=some res→(Ye C.G (Za C M) C.L hp0) hp3 none=some ((AV.bool res),hp0,none):=by
   intro hp3 hh3  res hres
   simp only [WA,IFJ] at hres
   cases hres
   simp only [WM,Ye,COL,DT,reduceAdd,reduceLeDiff,Nat.reduceBEq,b2]
   try rfl
  have hb':x0.length≤4611686018427387:=(by have:=(okx0).1; omega)
  have hx:=Vl hC kr r_stmt_Same hr_stmt_Same M x0 x1 (by omega) hp0 okx0 okx1 hb' (Ye C.G (Za C M) C.L hp0) (WA) hk3 x0 [] C.L hp0 rfl (by have:=hC.L; omega) (by omega) res hres
  try simp only [NIL] at hx
  simp only [WM,Ye,COL,DT,reduceAdd,reduceLeDiff,Nat.reduceBEq,b2,hx]
  try rfl
noncomputable def Zdu (r_stmt_Same:(List YY)→(List YY)→Option Bool)(x0:List YY)(x1:List YY):Option Bool :=
 Jp ((Yz r_stmt_Same x0 x1)) fun v2=>some v2
theorem ZxN {C:Cfg}(hC:Sr C)(kr:Nat)(r_stmt_Same:(List YY)→(List YY)→Option Bool)(hr_stmt_Same:∀ (N:Nat) (a0:List YY) (a1:List YY),kr + 1 * SizeOf.sizeOf a0≤N→∀ (hp:HP),(OkL 312 XJ a0)→(OkL 312 XJ a1)→∀ {res},r_stmt_Same a0 a1=some res→Za C N Lm [(.lst 21 (a0.map WE)),(.lst 21 (a1.map WE))] hp=some ((AV.bool res),hp,none))(N:Nat)(x0:List YY)(x1:List YY)(hN:SizeOf.sizeOf x0 + kr + 5≤N)(hp0:HP)(okx0:OkL 312 XJ x0)(okx1:OkL 312 XJ x1){res}(hres:Zdu r_stmt_Same x0 x1=some res):Za C N Lm [(.lst 21 (x0.map WE)),(.lst 21 (x1.map WE))] hp0=some ((AV.bool res),hp0,none):=by
 obtain ⟨M,rfl,hh⟩:=exM hp0 (by omega:1≤N)
 refine ZuT (by rw [hC.T]; rfl) ?_
 cases q4:(Yz r_stmt_Same x0 x1) with
 | none =>
  simp only [Zdu,IFJ,WT,q4] at hres; cases hres
 | some v3 =>
  have c2:=fun hp:HP=>GM hC kr r_stmt_Same hr_stmt_Same M x0 x1 (by omega) hp okx0 okx1 q4
  simp only [Zdu,IFJ,q4,Zj] at hres
  cases hres
  simp only [ZpS,COL,DT,reduceAdd,reduceLeDiff,Nat.reduceBEq,c2]
  try rfl
noncomputable def Eh:Nat→(List YY)→(List YY)→Option Bool
 | 0,_,_=>none
 | n + 1,x0,x1=>Zdu (Eh n) x0 x1
theorem ZrN {C:Cfg}(hC:Sr C):∀ (n:Nat),(∀ (N:Nat) (a0:List YY) (a1:List YY),n * 5 + 1 * SizeOf.sizeOf a0≤N→∀ (hp:HP),(OkL 312 XJ a0)→(OkL 312 XJ a1)→∀ {res},Eh n a0 a1=some res→Za C N Lm [(.lst 21 (a0.map WE)),(.lst 21 (a1.map WE))] hp=some ((AV.bool res),hp,none))
 | 0=>fun N a0 a1 _ hp _ _ _ h=>by simp [Eh] at h
 | n + 1=>fun N a0 a1 hN hp o0 o1 _ h=>ZxN hC (n * 5) (Eh n) (ZrN hC n) N a0 a1 (by omega) hp o0 o1 (by simpa only [Eh] using h)
noncomputable def JO (x1:List Xw)(k0T:Option Bool):List Xw→List Xw→Option Bool
 | [],q0=>k0T
 | x0 :: r0,q0=>Jp (PN x1 (q0.length:Int)) fun y2=>if (!(eqv x0 y2))=true then some false else (JO x1 k0T r0) (q0 ++ [x0])
theorem ZdT {C:Cfg}(hC:Sr C)(M:Nat)(x0:List Xw)(x1:List Xw)(hM:2 * SizeOf.sizeOf x0 + 1≤M)(hp0:HP)(okx0:OkL 56 JE x0)(okx1:OkL 56 JE x1)(hb:x0.length≤4611686018427387)(k0:HP→Eff→KR)(k0T:Option Bool)(hk0:HkB hp0 k0 k0T):∀ (r6 q6:List Xw) (m:Nat) (hp:HP),x0=q6 ++ r6→r6.length < m→hp0.length≤hp.length→∀ res,JO x1 k0T r6 q6=some res→Gi C.G (Za C M) C.L hp0 k0 m (.lst 4 (x0.map W9)) (.lst 4 (x1.map W9)) (.int .i64 (q6.length:Int)) hp none=some ((AV.bool res),hp0,none)
 | _,_,0,_,_,h,_,_,_=>by omega
 | [],q6,m + 1,hp,h,hr,hh,res,hres=>by
  have l0:=lp0 h
  simp only [JO,IFJ] at hres
  have hx:=hk0  hp (by omega) res hres
  simp only [Gi,COL,TB,reduceAdd,reduceLeDiff,Nat.reduceBEq,l0,hx]
  try rfl
 | x6 :: r6,q6,m + 1,hp,h,hr,hh,res,hres=>by
  obtain ⟨a1,-,a3,a4,a5⟩:=lp (W9) h hb
  have me6:=a5
  have a2:(x0.map W9)[q6.length]? = some (W9 x6):=(lp (W9) h hb).2.1
  have okx6:=(okx0).2 _ a5
  have ix6:Y4 (.slice 4) (.lst 4 (x0.map W9)) (.int .i64 (q6.length:Int))=some (.ref (W9 x6)):=by rw [Qu,a2]; rfl
  cases q8:PN x1 (q6.length:Int) with
  | none =>
   simp only [JO,IFJ,WT,q8] at hres; cases hres
  | some y7 =>
   have y7e:Y4 (.slice 4) (.lst 4 (x1.map W9)) (.int .i64 (q6.length:Int))=some (.ref (W9 y7)):=MR (row := W9) q8
   have oky7:=(okx1).2 _ (WJ q8)
   have memy7:=WJ q8
   have c9:=fun hp:HP=>ZhR hC.toI8 M hp x6 y7 (by have:=List.sizeOf_lt_of_mem me6; omega) okx6 oky7
   rcases Bool.eq_false_or_eq_true ((!(eqv x6 y7))) with b10 | b10
   ·simp only [JO,IFJ,q8,Zj,b10] at hres
    cases hres
    simp only [Gi,COL,TB,reduceAdd,reduceLeDiff,Nat.reduceBEq,a1,a3,ix6,y7e,c9,b10]
    try rfl
   ·simp only [JO,IFJ,q8,Zj,b10] at hres
    have hx:=ZdT hC M x0 x1 hM hp0 okx0 okx1 hb k0 k0T hk0 r6 (q6 ++ [x6]) m hp a4 (by simpa using hr) (by omega) res hres
    simp only [Gi,COL,TB,reduceAdd,reduceLeDiff,Nat.reduceBEq,a1,a3,ix6,y7e,c9,b10,hx]
    try rfl
def Tm:Option Bool :=
 some true
noncomputable def DX (x0:List Xw)(x1:List Xw):Option Bool :=
 if (decide ((x0.length:Int)≠(x1.length:Int)))=true then some false else JO x1 (Tm) x0 []
theorem ZrK {C:Cfg}(hC:Sr C)(N:Nat)(x0:List Xw)(x1:List Xw)(hN:2 * SizeOf.sizeOf x0 + 2≤N)(hp0:HP)(okx0:OkL 56 JE x0)(okx1:OkL 56 JE x1){res}(hres:DX x0 x1=some res):Za C N ZcC [(.lst 4 (x0.map W9)),(.lst 4 (x1.map W9))] hp0=some ((AV.bool res),hp0,none):=by
 obtain ⟨M,rfl,hh⟩:=exM hp0 (by omega:1≤N)
 refine Znv (by rw [hC.T]; rfl) ?_
 rcases Bool.eq_false_or_eq_true ((decide ((x0.length:Int)≠(x1.length:Int)))) with b2 | b2
 ·simp only [DX,IFJ,b2] at hres
  cases hres
  simp only [Ew,Gh,COL,TB,reduceAdd,reduceLeDiff,Nat.reduceBEq,b2]
  try rfl
 ·simp only [DX,IFJ,b2] at hres
  have hk3:∀ (hp3:HP),hp0.length≤hp3.length→∀ res,Tm=some res→(Gh C.G (Za C M) C.L hp0) hp3 none=some ((AV.bool res),hp0,none):=by
   intro hp3 hh3  res hres
   simp only [Tm,IFJ] at hres
   cases hres
   simp only [Ew,Gh,COL,TB,reduceAdd,reduceLeDiff,Nat.reduceBEq,b2]
   try rfl
  have hb':x0.length≤4611686018427387:=(by have:=(okx0).1; omega)
  have hx:=ZdT hC M x0 x1 (by omega) hp0 okx0 okx1 hb' (Gh C.G (Za C M) C.L hp0) (Tm) hk3 x0 [] C.L hp0 rfl (by have:=hC.L; omega) (by omega) res hres
  try simp only [NIL] at hx
  simp only [Ew,Gh,COL,TB,reduceAdd,reduceLeDiff,Nat.reduceBEq,b2,hx]
  try rfl
noncomputable def JB (r_r10_Same:(List YY)→(List YY)→Option Bool)(x1:List YY)(k0T:Option Bool):List YY→List YY→Option Bool
 | [],q0=>k0T
 | x0 :: r0,q0=>Jp (PN x1 (q0.length:Int)) fun y2=>if ((((((decide (x0.Op≠y2.Op)) || (decide (x0.Name≠y2.Name))) || (decide (x0.Of≠y2.Of))) || (!(eqv x0.Flag y2.Flag))) || (!(eqv x0.E y2.E))) || (!(eqv x0.F y2.F)))=true then some false else Jp ((DX x0.Args y2.Args)) fun v3=>if ((!v3) || (!(eqv x0.Dist y2.Dist)))=true then some false else Jp ((r_r10_Same x0.Body y2.Body)) fun v4=>if (!v4)=true then some false else Jp ((r_r10_Same x0.Else y2.Else)) fun v5=>if (!v5)=true then some false else (JB r_r10_Same x1 k0T r0) (q0 ++ [x0])
theorem Zmp {C:Cfg}(hC:Sr C)(kr:Nat)(r_r10_Same:(List YY)→(List YY)→Option Bool)(hr_r10_Same:∀ (N:Nat) (a0:List YY) (a1:List YY),kr + 2 * SizeOf.sizeOf a0≤N→∀ (hp:HP),(OkL 312 XJ a0)→(OkL 312 XJ a1)→∀ {res},r_r10_Same a0 a1=some res→Za C N ES [(.lst 21 (a0.map WE)),(.lst 21 (a1.map WE))] hp=some ((AV.bool res),hp,none))(M:Nat)(x0:List YY)(x1:List YY)(hM:2 * SizeOf.sizeOf x0 + kr + 2≤M)(hp0:HP)(okx0:OkL 312 XJ x0)(okx1:OkL 312 XJ x1)(hb:x0.length≤4611686018427387)(k0:HP→Eff→KR)(k0T:Option Bool)(hk0:HkB hp0 k0 k0T):∀ (r6 q6:List YY) (m:Nat) (hp:HP),x0=q6 ++ r6→r6.length < m→hp0.length≤hp.length→∀ res,JB r_r10_Same x1 k0T r6 q6=some res→Ib C.G (Za C M) C.L hp0 k0 m (.lst 21 (x0.map WE)) (.lst 21 (x1.map WE)) (.int .i64 (q6.length:Int)) hp none=some ((AV.bool res),hp0,none)
 | _,_,0,_,_,h,_,_,_=>by omega
 | [],q6,m + 1,hp,h,hr,hh,res,hres=>by
  have l0:=lp0 h
  simp only [JB,IFJ] at hres
  have hx:=hk0  hp (by omega) res hres
  simp only [Ib,COL,Dc,TB,DT,reduceAdd,reduceLeDiff,Nat.reduceBEq,l0,hx]
  try rfl
 | x6 :: r6,q6,m + 1,hp,h,hr,hh,res,hres=>by
  obtain ⟨a1,-,a3,a4,a5⟩:=lp (WE) h hb
  have me6:=a5
  have a2:(x0.map WE)[q6.length]? = some (WE x6):=(lp (WE) h hb).2.1
  have okx6:=(okx0).2 _ a5
  have ix6:Y4 (.slice 21) (.lst 21 (x0.map WE)) (.int .i64 (q6.length:Int))=some (.ref (WE x6)):=by rw [Qu,a2]; rfl
  cases q8:PN x1 (q6.length:Int) with
  | none =>
   simp only [JB,IFJ,WT,q8] at hres; cases hres
  | some y7 =>
   have y7e:Y4 (.slice 21) (.lst 21 (x1.map WE)) (.int .i64 (q6.length:Int))=some (.ref (WE y7)):=MR (row := WE) q8
   have oky7:=(okx1).2 _ (WJ q8)
   have memy7:=WJ q8
   obtain ⟨h9,hh9,g10,l11⟩:=mkH hp (Z5.cells [(.int .i64 0),(.str []),(.str []),(.int .i64 0),(.str []),(.int .i64 0),(.own 4 []),(.int .i64 0),(.str []),(.int .i64 0),(.own 4 []),(.own 4 []),(.int .i64 0),(.int .i64 0),(.int .i64 0),(.int .i64 0),(.own 1 []),(.own 1 []),(.bool false),(.own 21 []),(.own 21 [])] Xb)
   obtain ⟨h12,hh12,g13,l14⟩:=mkH h9 (Z5.cells [(.int .i64 0),(.str []),(.str []),(.int .i64 0),(.str []),(.int .i64 0),(.own 4 []),(.int .i64 0),(.str []),(.int .i64 0),(.own 4 []),(.own 4 []),(.int .i64 0),(.int .i64 0),(.int .i64 0),(.int .i64 0),(.own 1 []),(.own 1 []),(.bool false),(.own 21 []),(.own 21 [])] Xb)
   have g15:=keA hh12 g10
   obtain ⟨h16,hh16,g17,l18⟩:=seH g15 (Z5.cells (WE x6) Xb)
   have g19:=keS hh16 g13 (by omega)
   have e20:stV hp0.length 21 (.ptr hp.length 0) (.agg (WE x6)) h12 none=some (h16,none):=by rw [← hh16]; exact DW g15 (by first | rfl | exact KI _) (by simp) rfl (by omega) (by rw [Gx]; exact UH (by exact KI _) (by rfl))
   obtain ⟨h21,hh21,g22,l23⟩:=seH g19 (Z5.cells (WE y7) Xb)
   have g24:=keS hh21 g17 (by omega)
   have e25:stV hp0.length 21 (.ptr h9.length 0) (.agg (WE y7)) h16 none=some (h21,none):=by rw [← hh21]; exact DW g19 (by first | rfl | exact KI _) (by simp) rfl (by omega) (by rw [Gx]; exact UH (by exact KI _) (by rfl))
   have e26:Zt h21 4 (.ptr hp.length 3)=some (.agg (W9 x6.E)):=Ti g24 (by rw [KI]; omega) (by first | exact Zc6 _ | rfl | (simp only [Vf]; rfl)) (by exact FU _)
   have e27:Zt h21 4 (.ptr h9.length 3)=some (.agg (W9 y7.E)):=Ti g22 (by rw [KI]; omega) (by first | exact Zc6 _ | rfl | (simp only [Vf]; rfl)) (by exact FU _)
   have c28:=fun hp:HP=>ZhR hC.toI8 M hp x6.E y7.E (by have:=List.sizeOf_lt_of_mem me6; have:=ZwK x6; omega) okx6.E oky7.E
   have e29:Zt h21 4 (.ptr hp.length 7)=some (.agg (W9 x6.F)):=Ti g24 (by rw [KI]; omega) (by first | exact Zc7 _ | rfl | (simp only [Vf]; rfl)) (by exact FU _)
   have e30:Zt h21 4 (.ptr h9.length 7)=some (.agg (W9 y7.F)):=Ti g22 (by rw [KI]; omega) (by first | exact Zc7 _ | rfl | (simp only [Vf]; rfl)) (by exact FU _)
   have c31:=fun hp:HP=>ZhR hC.toI8 M hp x6.F y7.F (by have:=List.sizeOf_lt_of_mem me6; have:=ZwL x6; omega) okx6.F oky7.F
   rcases Bool.eq_false_or_eq_true (((((((decide (x6.Op≠y7.Op)) || (decide (x6.Name≠y7.Name))) || (decide (x6.Of≠y7.Of))) || (!(eqv x6.Flag y7.Flag))) || (!(eqv x6.E y7.E))) || (!(eqv x6.F y7.F)))) with b32 | b32
   ·simp only [JB,IFJ,q8,Zj,b32] at hres
    cases hres
    simp only [Ib,COL,Dc,TB,DT,reduceAdd,reduceLeDiff,Nat.reduceBEq,a1,a3,ix6,y7e,hh9,hh12,e20,e25,LG g24,LG g22,e26,e27,c28,e29,e30,c31,b32]
    try rfl
   ·cases q35:(DX x6.Args y7.Args) with
    | none =>
     simp only [JB,IFJ,WT,q8,Zj,b32,q35] at hres; cases hres
    | some v34 =>
     have c33:=fun hp:HP=>ZrK hC M x6.Args y7.Args (by have:=List.sizeOf_lt_of_mem me6; have:=ZnZ x6; omega) hp okx6.Args oky7.Args q35
     have e36:Zt h21 6 (.ptr hp.length 12)=some (.agg (H8 x6.Dist)):=Ti g24 (by rw [KI]; omega) (by first | exact Ai _ | rfl | (simp only [Vf]; rfl)) (by exact PQ _)
     have e37:Zt h21 6 (.ptr h9.length 12)=some (.agg (H8 y7.Dist)):=Ti g22 (by rw [KI]; omega) (by first | exact Ai _ | rfl | (simp only [Vf]; rfl)) (by exact PQ _)
     have c38:=fun hp:HP=>ZhQ hC.toI8 M (by omega) hp x6.Dist y7.Dist okx6.Dist oky7.Dist
     rcases Bool.eq_false_or_eq_true (((!v34) || (!(eqv x6.Dist y7.Dist)))) with b39 | b39
     ·simp only [JB,IFJ,q8,Zj,b32,q35,b39] at hres
      cases hres
      simp only [Ib,COL,Dc,TB,DT,reduceAdd,reduceLeDiff,Nat.reduceBEq,a1,a3,ix6,y7e,hh9,hh12,e20,e25,LG g24,LG g22,e26,e27,c28,e29,e30,c31,b32,c33,e36,e37,c38,b39]
      try rfl
     ·cases q42:(r_r10_Same x6.Body y7.Body) with
      | none =>
       simp only [JB,IFJ,WT,q8,Zj,b32,q35,Zj,b39,q42] at hres; cases hres
      | some v41 =>
       have c40:=fun hp:HP=>(hr_r10_Same) M x6.Body y7.Body (by have:=List.sizeOf_lt_of_mem me6; have:=ZdR x6; omega) hp okx6.Body oky7.Body q42
       rcases Bool.eq_false_or_eq_true ((!v41)) with b43 | b43
       ·simp only [JB,IFJ,q8,Zj,b32,q35,b39,q42,b43] at hres
        cases hres
        simp only [Ib,COL,Dc,TB,DT,reduceAdd,reduceLeDiff,Nat.reduceBEq,a1,a3,ix6,y7e,hh9,hh12,e20,e25,LG g24,LG g22,e26,e27,c28,e29,e30,c31,b32,c33,e36,e37,c38,b39,c40,b43]
        try rfl
       ·cases q46:(r_r10_Same x6.Else y7.Else) with
        | none =>
         simp only [JB,IFJ,WT,q8,Zj,b32,q35,Zj,b39,q42,Zj,b43,q46] at hres; cases hres
        | some v45 =>
         have c44:=fun hp:HP=>(hr_r10_Same) M x6.Else y7.Else (by have:=List.sizeOf_lt_of_mem me6; have:=ZdS x6; omega) hp okx6.Else oky7.Else q46
         rcases Bool.eq_false_or_eq_true ((!v45)) with b47 | b47
         ·simp only [JB,IFJ,q8,Zj,b32,q35,b39,q42,b43,q46,b47] at hres
          cases hres
          simp only [Ib,COL,Dc,TB,DT,reduceAdd,reduceLeDiff,Nat.reduceBEq,a1,a3,ix6,y7e,hh9,hh12,e20,e25,LG g24,LG g22,e26,e27,c28,e29,e30,c31,b32,c33,e36,e37,c38,b39,c40,b43,c44,b47]
          try rfl
         ·simp only [JB,IFJ,q8,Zj,b32,q35,b39,q42,b43,q46,b47] at hres
          have hx:=Zmp hC kr r_r10_Same hr_r10_Same M x0 x1 hM hp0 okx0 okx1 hb k0 k0T hk0 r6 (q6 ++ [x6]) m h21 a4 (by simpa using hr) (by omega) res hres
          simp only [Ib,COL,Dc,TB,DT,reduceAdd,reduceLeDiff,Nat.reduceBEq,a1,a3,ix6,y7e,hh9,hh12,e20,e25,LG g24,LG g22,e26,e27,c28,e29,e30,c31,b32,c33,e36,e37,c38,b39,c40,b43,c44,b47,hx]
          try rfl
def PT:Option Bool :=
 some true
noncomputable def Zc8 (r_r10_Same:(List YY)→(List YY)→Option Bool)(x0:List YY)(x1:List YY):Option Bool :=
 if (decide ((x0.length:Int)≠(x1.length:Int)))=true then some false else JB r_r10_Same x1 (PT) x0 []
theorem ZzX {C:Cfg}(hC:Sr C)(kr:Nat)(r_r10_Same:(List YY)→(List YY)→Option Bool)(hr_r10_Same:∀ (N:Nat) (a0:List YY) (a1:List YY),kr + 2 * SizeOf.sizeOf a0≤N→∀ (hp:HP),(OkL 312 XJ a0)→(OkL 312 XJ a1)→∀ {res},r_r10_Same a0 a1=some res→Za C N ES [(.lst 21 (a0.map WE)),(.lst 21 (a1.map WE))] hp=some ((AV.bool res),hp,none))(N:Nat)(x0:List YY)(x1:List YY)(hN:2 * SizeOf.sizeOf x0 + kr + 3≤N)(hp0:HP)(okx0:OkL 312 XJ x0)(okx1:OkL 312 XJ x1){res}(hres:Zc8 r_r10_Same x0 x1=some res):Za C N ES [(.lst 21 (x0.map WE)),(.lst 21 (x1.map WE))] hp0=some ((AV.bool res),hp0,none):=by
 obtain ⟨M,rfl,hh⟩:=exM hp0 (by omega:1≤N)
 refine Zwv (by rw [hC.T]; rfl) ?_
 rcases Bool.eq_false_or_eq_true ((decide ((x0.length:Int)≠(x1.length:Int)))) with b2 | b2
 ·simp only [Zc8,IFJ,b2] at hres
  cases hres
  simp only [ZeJ,Bh,COL,Dc,TB,DT,reduceAdd,reduceLeDiff,Nat.reduceBEq,b2]
  try rfl
 ·simp only [Zc8,IFJ,b2] at hres
  have hk3:∀ (hp3:HP),hp0.length≤hp3.length→∀ res,PT=some res→(Bh C.G (Za C M) C.L hp0) hp3 none=some ((AV.bool res),hp0,none):=by
   intro hp3 hh3  res hres
   simp only [PT,IFJ] at hres
   cases hres
   simp only [ZeJ,Bh,COL,Dc,TB,DT,reduceAdd,reduceLeDiff,Nat.reduceBEq,b2]
   try rfl
  have hb':x0.length≤4611686018427387:=(by have:=(okx0).1; omega)
  have hx:=Zmp hC kr r_r10_Same hr_r10_Same M x0 x1 (by omega) hp0 okx0 okx1 hb' (Bh C.G (Za C M) C.L hp0) (PT) hk3 x0 [] C.L hp0 rfl (by have:=hC.L; omega) (by omega) res hres
  try simp only [NIL] at hx
  simp only [ZeJ,Bh,COL,Dc,TB,DT,reduceAdd,reduceLeDiff,Nat.reduceBEq,b2,hx]
  try rfl
noncomputable def Dz:Nat→(List YY)→(List YY)→Option Bool
 | 0,_,_=>none
 | n + 1,x0,x1=>Zc8 (Dz n) x0 x1
theorem ZtT {C:Cfg}(hC:Sr C):∀ (n:Nat),(∀ (N:Nat) (a0:List YY) (a1:List YY),n * 3 + 2 * SizeOf.sizeOf a0≤N→∀ (hp:HP),(OkL 312 XJ a0)→(OkL 312 XJ a1)→∀ {res},Dz n a0 a1=some res→Za C N ES [(.lst 21 (a0.map WE)),(.lst 21 (a1.map WE))] hp=some ((AV.bool res),hp,none))
 | 0=>fun N a0 a1 _ hp _ _ _ h=>by simp [Dz] at h
 | n + 1=>fun N a0 a1 hN hp o0 o1 _ h=>ZzX hC (n * 3) (Dz n) (ZtT hC n) N a0 a1 (by omega) hp o0 o1 (by simpa only [Dz] using h)
end Go.Proofs.YtlmfmmclnboglaaGreat
end
