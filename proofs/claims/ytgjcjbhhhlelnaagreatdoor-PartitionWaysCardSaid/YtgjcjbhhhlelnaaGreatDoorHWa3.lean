import Derived.Test.YtgjcjbhhhlelnaaGreatDoorHWa2
set_option linter.all false
section
namespace Go.Proofs.YtgjcjbhhhlelnaaGreatDoor.Abs
open Go Go.RowKit
def AV.apart:AV→Bool
 | .agg cs=>cs.all AV.noId1
 | v=>v.noId1
theorem Rep.still' {Γ:ZF}{w:World}{x:AV}{v:Value}(h:Rep Γ w x v)(hx:x.apart=true):Rep still w x v:=by
 have hf:Yu Γ w still w:=fun b o v _ h2=>⟨trivial,h2⟩
 cases h with
 | agg cells cv hs h1 hn hr =>
  simp only [AV.apart,List.all_eq_true] at hx
  exact .agg cells cv hs h1 hn fun j c hc=>(hr j c hc).noId hf (hx c (List.mem_of_getElem? hc))
 | undef=>cases hx
 | tup=>cases hx
 | arr=>cases hx
 | ptr=>cases hx
 | map=>cases hx
 | bool b=>exact .bool b
 | int k n=>exact .int k n
 | str s=>exact .str s
 | nilp=>exact .nilp
 | nilf=>exact .nilf
 | nilm=>exact .nilm
 | nili=>exact .nili
 | nils k=>exact .nils k
 | lstNil k=>exact .lstNil k
 | lstE k A cap=>exact .lstE k A cap
 | lst k rows b o cap cv hlen hk hc hr=>exact (Rep.lst k rows b o cap cv hlen hk hc hr).noId hf rfl
 | own k rows v h=>exact (Rep.own k rows v h).noId hf rfl
 | ref cells b o cv hc hr=>exact (Rep.ref cells b o cv hc hr).noId hf rfl
 | fn f fst caps fv cv hs1 hr1 hs hr=>exact (Rep.fn f fst caps fv cv hs1 hr1 hs hr).noId hf hx
theorem ZqN {P:Program}{W:World}{C:Cfg}(h:ZgD P W C){n:Nat}{f:FuncId}{avs:List AV}{v:AV}{hp:List Zm}{e:Eff}(hev:Zv C n f avs []=some (v,hp,e))(hv:v.flat1=true){args:Array Value}
  (hs:args.size=avs.length) (hr:∀ (j:Nat) (x:AV),avs[j]? = some x→Rep still W x (args.getD j Go.undef)∧∀ k r,x≠.own k r) :
  Calls P f args W fun e W'=>∃ cv,e=.returned cv∧Below W.heap.size W W'∧Rep still W' v cv:=by
 obtain ⟨_,hw⟩:=PX h n f avs [] _ _ _ hev still W args (ZlZ W) ZeZ hs fun j x hx=>⟨(hr j x hx).1,.of_ne (hr j x hx).2⟩
 refine hw.mono fun en W' ⟨cv,hv',Γ',r1,r2,_,r4,_⟩=>?_
 subst hv'
 exact ⟨cv,rfl,⟨r4.os,r4.tape,r4.output,r4.size,fun b hb=>(r4.keep b hb trivial).2⟩,Ro r2 hv⟩
theorem ZfO {P:Program}{W0:World}{C:Cfg}(hC:∀ W,ZgD P W C){n:Nat}{f:FuncId}{args:List AV}{v:AV}{hp:List Zm}{e:Eff}(hev:Zv C n f args []=some (v,hp,e))(hv:v.flat1=true)
  (ha:args.all AV.apart=true) (ho:args.all (fun x=>!Zcm x)=true) {fn:Func} {c:Code} (hf:P.funcs[f]? = some fn) (hn:(fn.name == "runtime.NumGoroutine")=false) (hb:fn.body=some c):ZaT P W0 f args v:=by
 refine ⟨fun k r h=>(by subst h; cases hv),fun Γ w xs _ _ hs hx=>?_⟩
 refine Af hf hn hb ((ZqN (hC w) hev hv hs fun j x hj=>⟨(hx j x hj).still' (List.all_eq_true.1 ha x (List.mem_of_getElem? hj)),fun k r e=>?_⟩).mono ?_)
 ·have:=List.all_eq_true.1 ho x (List.mem_of_getElem? hj)
  rw [e] at this
  cases this
 ·rintro e w' ⟨cv,rfl,hb',hr⟩
  exact ⟨cv,rfl,hb',Ro hr hv⟩
def allEq {α:Type}(f:α→α→Bool):List α→List α→Bool
 | [],[]=>true
 | a :: l,b :: m=>f a b && allEq f l m
 | _,_=>false
theorem ZaU {α:Type}{f:α→α→Bool}(hf:∀ a b,f a b=true→a=b):∀ {l m:List α},allEq f l m=true→l=m
 | [],[],_=>rfl
 | a :: l,b :: m,h=>by
  simp only [allEq,Bool.and_eq_true] at h
  rw [hf a b h.1,ZaU hf h.2]
 | [],_ :: _,h=>by cases h
 | _ :: _,[],h=>by cases h
def eqA:Nat→AV→AV→Bool
 | n + 1,.str a,.str b=>a == b
 | n + 1,.int k a,.int l b=>decide (k=l) && decide (a=b)
 | n + 1,.bool a,.bool b=>a == b
 | n + 1,.lst k r,.lst l q=>k == l && allEq (allEq (eqA n)) r q
 | n + 1,.agg r,.agg q=>allEq (eqA n) r q
 | _,_,_=>false
theorem Zwm:∀ (n:Nat) (a b:AV),eqA n a b=true→a=b:=by
 intro n
 induction n with
 | zero=>intro a b h; unfold eqA at h; cases h
 | succ n ih =>
  intro a b h
  cases a <;> cases b <;> simp only [eqA,Bool.false_eq_true,Bool.and_eq_true,decide_eq_true_eq,beq_iff_eq] at h
  case bool.bool=>rw [h]
  case int.int=>rw [h.1,h.2]
  case str.str=>rw [h]
  case lst.lst=>rw [h.1,ZaU (fun x y hxy=>ZaU ih hxy) h.2]
  case agg.agg=>rw [ZaU ih h]
end Go.Proofs.YtgjcjbhhhlelnaaGreatDoor.Abs
end
section
namespace Go.Proofs.YtgjcjbhhhlelnaaGreatDoor.Abs
open Go
theorem EV :
  (∀ {α β:Type} (x:α) (f:α→β),Option.map f (some x)=some (f x)) ∧
  (∀ {α:Type} (v:α) (k:α→KR),YV (some v) k=k v) ∧
  (∀ {α β:Type} (a:α) (b:β) (k:α→β→KR),Zd0 (some (a,b)) k=k a b) ∧
  (∀ {α β γ:Type} (a:α) (b:β) (c:γ) (k:α→β→γ→KR),Ik (some (a,b,c)) k=k a b c) ∧
  (∀ (b:Bool) (x y:KR),ifK (.bool b) x y=if b=true then x else y) ∧
  (∀ (x:KR) (hp:List Zm) (ef:Eff) (k:AV→List Zm→Eff→KR),Pn (some true) x hp ef k=Ik x k) ∧
  (∀ (x:KR) (hp:List Zm) (ef:Eff) (k:AV→List Zm→Eff→KR),Pn (some false) x hp ef k=k .undef hp ef) ∧
  (∀ (b:Bool),Pm true (.bool b)=some b) ∧
  (∀ (b:Bool),Pm false (.bool b)=some (!b)) ∧
  (∀ (a b:AV),ZdK (.bool true) a b=some a) ∧
  (∀ (a b:AV),ZdK (.bool false) a b=some b) ∧
  (∀ (v:AV),gif true v=v) ∧
  (∀ (b:Bool) (v:AV) (hp:List Zm) (ef:Eff) (k:AV→List Zm→Eff→KR),Pn (some b) (some (v,hp,ef)) hp ef k=k (gif b v) hp ef) ∧
  (∀ (b:Bool) (v:AV),AV.ro (gif b v)=gif b (AV.ro v)) ∧
  (∀ (b c:Bool),ZdK (.bool b) (gif b (.bool c)) (.bool false)=some (.bool (b && c))) ∧
  (∀ (b c:Bool),ZdK (.bool b) (.bool true) (gif (!b) (.bool c))=some (.bool (b || c))) ∧
  (∀ (b c:Bool) (hp:List Zm) (ef:Eff) (k:AV→List Zm→Eff→KR),Zf1 (.bool b) true (some (.bool c,hp,ef)) (some (.bool false)) hp ef k=k (.bool (b && c)) hp ef) ∧
  (∀ (b c:Bool) (hp:List Zm) (ef:Eff) (k:AV→List Zm→Eff→KR),Zf1 (.bool b) false (some (.bool c,hp,ef)) (some (.bool true)) hp ef k=k (.bool (b || c)) hp ef) ∧
  (∀ (x:KR) (o:Option AV) (hp:List Zm) (ef:Eff) (k:AV→List Zm→Eff→KR),Zf1 (.bool true) true x o hp ef k=Ik x k) ∧
  (∀ (x:KR) (v:AV) (hp:List Zm) (ef:Eff) (k:AV→List Zm→Eff→KR),Zf1 (.bool false) true x (some v) hp ef k=k v hp ef) ∧
  (∀ (x:KR) (v:AV) (hp:List Zm) (ef:Eff) (k:AV→List Zm→Eff→KR),Zf1 (.bool true) false x (some v) hp ef k=k v hp ef) ∧
  (∀ (x:KR) (o:Option AV) (hp:List Zm) (ef:Eff) (k:AV→List Zm→Eff→KR),Zf1 (.bool false) false x o hp ef k=Ik x k) ∧
  (∀ {α:Type} (x:α) (k:α→KR),ZvG x k=k x) ∧
  (∀ (b:Bool),AV.ro (.bool b)=.bool b) ∧
  (∀ (k:IntKind) (n:Int),AV.ro (.int k n)=.int k n) ∧
  (∀ (s:List UInt8),AV.ro (.str s)=.str s) ∧
  (∀ (k:Nat) (r:List (List AV)),AV.ro (.lst k r)=.lst k r) ∧
  (∀ (k:Nat) (r:List (List AV)),AV.ro (.own k r)=.lst k r) ∧
  (∀ (c:List AV),AV.ro (.agg c)=.agg c) ∧
  (∀ (c:List AV),AV.ro (.tup c)=.tup c) ∧
  (∀ (g o:Nat),AV.ro (.ptr g o)=.ptr g o) ∧
  (∀ (g:Nat),AV.ro (.map g)=.map g) ∧
  (∀ (c:List AV),AV.ro (.ref c)=.ref c) ∧
  (∀ (f:FuncId) (a c:List AV),AV.ro (.fn f a c)=.fn f a c) ∧
  (AV.ro .undef=.undef) ∧
  (∀ (b:Bool),AV.nm (.bool b)=.bool b) ∧
  (∀ (k:IntKind) (n:Int),AV.nm (.int k n)=.int k n) ∧
  (∀ (s:List UInt8),AV.nm (.str s)=.str s) ∧
  (∀ (k:Nat) (r:List (List AV)),AV.nm (.lst k r)=.lst k r) ∧
  (∀ (k:Nat) (r:List (List AV)),AV.nm (.own k r)=.lst k r) ∧
  (∀ (c:List AV),AV.nm (.agg c)=.agg (c.map AV.ro)) ∧
  (∀ (g o:Nat),AV.nm (.ptr g o)=.ptr g o) ∧
  (∀ (g:Nat),AV.nm (.map g)=.map g) ∧
  (∀ (f:FuncId) (a c:List AV),AV.nm (.fn f a c)=.fn f a c) ∧
  (∀ (k:IntKind) (a b:Int),ZM .add .prim (.int k a) (.int k b)=some (.int k (k.wrap (a + b)))) ∧
  (∀ (k:IntKind) (a b:Int),ZM .sub .prim (.int k a) (.int k b)=some (.int k (k.wrap (a - b)))) ∧
  (∀ (k:IntKind) (a b:Int),ZM .mul .prim (.int k a) (.int k b)=some (.int k (k.wrap (a * b)))) ∧
  (∀ (k:IntKind) (a b:Int),ZM .eql .prim (.int k a) (.int k b)=some (.bool (decide (a=b)))) ∧
  (∀ (k:IntKind) (a b:Int),ZM .neq .prim (.int k a) (.int k b)=some (.bool (decide (a≠b)))) ∧
  (∀ (k:IntKind) (a b:Int),ZM .lss .prim (.int k a) (.int k b)=some (.bool (decide (a < b)))) ∧
  (∀ (k:IntKind) (a b:Int),ZM .leq .prim (.int k a) (.int k b)=some (.bool (decide (a≤b)))) ∧
  (∀ (k:IntKind) (a b:Int),ZM .gtr .prim (.int k a) (.int k b)=some (.bool (decide (b < a)))) ∧
  (∀ (k:IntKind) (a b:Int),ZM .geq .prim (.int k a) (.int k b)=some (.bool (decide (b≤a)))) ∧
  (∀ (a b:List UInt8),ZM .eql .prim (.str a) (.str b)=some (.bool (decide (a=b)))) ∧
  (∀ (a b:List UInt8),ZM .neq .prim (.str a) (.str b)=some (.bool (decide (a≠b)))) ∧
  (∀ (ks:List CK) (k:IntKind) (x y:Int) (l m:List AV),Yj (.int :: ks) (.int k x :: l) (.int k y :: m)=if x=y then Yj ks l m else some false) ∧
  (∀ (ks:List CK) (x y:List UInt8) (l m:List AV),Yj (.str :: ks) (.str x :: l) (.str y :: m)=if x=y then Yj ks l m else some false) ∧
  (∀ (ks:List CK) (x y:Bool) (l m:List AV),Yj (.bool :: ks) (.bool x :: l) (.bool y :: m)=if x=y then Yj ks l m else some false) ∧
  (Yj [] [] []=some true) ∧
  (∀ (p:Prop) [Decidable p] (b:Bool),(if p then some b else some false)=some (decide p && b)) ∧
  (∀ (ks:List CK) (a b:List AV),ZM .eql (.struct ks) (.agg a) (.agg b)=(Yj ks a b).map .bool) ∧
  (∀ (ks:List CK) (a b:List AV),ZM .neq (.struct ks) (.agg a) (.agg b)=(Yj ks a b).map fun b=>.bool (!b)) ∧
  (∀ (a b:Bool),ZM .eql .bool (.bool a) (.bool b)=some (.bool (a == b))) ∧
  (∀ (a b:Bool),ZM .neq .bool (.bool a) (.bool b)=some (.bool (!(a == b)))) ∧
  (∀ (b:Bool),Zdn .not (.bool b)=some (.bool (!b))) ∧
  (∀ (k:IntKind) (n:Int),Zdn .neg (.int k n)=some (.int k (k.wrap (0 - n)))) ∧
  (∀ (hp:List Zm) (s:List UInt8),Xf hp .str (.str s)=some (.int .i64 s.length)) ∧
  (∀ (hp:List Zm) (k:Nat) (r:List (List AV)),Xf hp .slice (.lst k r)=some (.int .i64 r.length)) ∧
  (∀ (hp:List Zm) (k k':IntKind) (n:Int),XD hp (.int k) (.int k' n)=some (.int k (k.wrap n))) ∧
  (∀ (l:List AV) (i:Nat),XW (.tup l) i=(l[i]?).map AV.ro) ∧
  (∀ (bs:Nat) (ef:Eff),Gy bs ef none=ef) ∧
  (∀ (hp0:List Zm) (b:Bool) (hp:List Zm),ZdB false hp0 (.bool b) hp none=(.bool b,hp0,none)) ∧
  (∀ (hp0:List Zm) (k:IntKind) (n:Int) (hp:List Zm),ZdB false hp0 (.int k n) hp none=(.int k n,hp0,none)) ∧
  (∀ (hp0:List Zm) (s:List UInt8) (hp:List Zm),ZdB false hp0 (.str s) hp none=(.str s,hp0,none)) ∧
  (∀ (hp0:List Zm) (k:Nat) (r:List (List AV)) (hp:List Zm),ZdB false hp0 (.lst k r) hp none=(.lst k r,hp0,none)) ∧
  (∀ (hp0:List Zm) (k:Nat) (r:List (List AV)) (hp:List Zm),ZdB false hp0 (.own k r) hp none=(.own k r,hp0,none)) ∧
  (∀ (bs:Nat) (hp:List Zm) (k:IntKind) (n:Int),Zg8 bs hp (.int k n)=some (.int k n)) ∧
  (∀ (bs:Nat) (hp:List Zm) (s:List UInt8),Zg8 bs hp (.str s)=some (.str s)) ∧
  (∀ (bs:Nat) (hp:List Zm) (b:Bool),Zg8 bs hp (.bool b)=some (.bool b)) ∧
  (∀ (bs:Nat) (hp:List Zm) (k:Nat) (r:List (List AV)),Zg8 bs hp (.lst k r)=some (.lst k r)) ∧
  (∀ (o:Nat) (c:List AV),KD o (.ref c)=some (.ref (c.drop o))) ∧
  (∀ (o g p:Nat),KD o (.ptr g p)=some (.ptr g (p + o))) ∧
  (∀ (hp:List Zm) (c:AV) (l:List AV),Y1 hp (.ref (c :: l))=some c.ro) :=
 ⟨fun x f=>rfl,@Zxx,@Zxv,@Zxw,@ZyZ,@Zro,@Zrn,@ZoI,@ZoH,@Zve,@Zvd,@ZyN,@Zjk,@ZxO,@Zsi,@Zsj,@Zuc,@Zwx,@Zwz,@Zww,@Zwy,@Zwv,@ZwH,@Zvn,@ZxQ,@Zyb,@ZxU,@ZxY,@ZxM,@Zyc,@ZxZ,@ZxV,@Zya,@ZzJ,Zsz,@Zux,@Zxa,@Zxe,@Zxb,@Zpp,@ZwZ,@Zxd,@Zxc,@Zzz,@Zy7,@ZyD,@ZyA,@Z0i,@Z0n,@Z0m,@Z0l,@Z0k,@Z0j,@Z0w,@Z0x,@ZzA,@ZzC,@ZxJ,ZzB,@Z0v,@Zy9,@ZyC,@Zy8,@ZyB,@ZzQ,@ZzP,@Zzk,@Zzf,@ZyI,@ZzW,@Zmj,@ZqY,@ZtV,@ZtY,@ZtW,@ZtX,@Zri,@Zrk,@ZoA,@Zrj,@Zwq,@Zwp,@Zun⟩
theorem BL:(!true)=false∧(!false)=true∧(∀ b:Bool,(b && true)=b)∧(∀ b:Bool,(true && b)=b)∧(∀ b:Bool,(b && false)=false)∧(∀ b:Bool,(false && b)=false)∧(∀ b:Bool,(b || true)=true)∧(∀ b:Bool,(true || b)=true)∧(∀ b:Bool,(b || false)=b)∧(∀ b:Bool,(false || b)=b)∧(∀ b:Bool,(!!b)=b):=by
 refine ⟨rfl,rfl,?_,?_,?_,?_,?_,?_,?_,?_,?_⟩ <;> intro b <;> cases b <;> rfl
theorem ifI (c:Prop)[Decidable c](k:IntKind)(a b:Int)(hp:List Zm)(e:Eff):(if c then some (AV.int k a,hp,e) else some (AV.int k b,hp,e))=some (AV.int k (if c then a else b),hp,e):=by split <;> rfl
theorem ifB (c:Prop)[Decidable c](a b:Bool)(hp:List Zm)(e:Eff):(if c then some (AV.bool a,hp,e) else some (AV.bool b,hp,e))=some (AV.bool (if c then a else b),hp,e):=by split <;> rfl
theorem ifS (c:Prop)[Decidable c](a b:List UInt8)(hp:List Zm)(e:Eff):(if c then some (AV.str a,hp,e) else some (AV.str b,hp,e))=some (AV.str (if c then a else b),hp,e):=by split <;> rfl
theorem IFJ:(∀ (c:Prop) [Decidable c] (k:IntKind) (a b:Int) (hp:List Zm) (e:Eff),(if c then some (AV.int k a,hp,e) else some (AV.int k b,hp,e))=some (AV.int k (if c then a else b),hp,e)) ∧
  (∀ (c:Prop) [Decidable c] (a b:Bool) (hp:List Zm) (e:Eff),(if c then some (AV.bool a,hp,e) else some (AV.bool b,hp,e))=some (AV.bool (if c then a else b),hp,e)) ∧
  (∀ (c:Prop) [Decidable c] (a b:List UInt8) (hp:List Zm) (e:Eff),(if c then some (AV.str a,hp,e) else some (AV.str b,hp,e))=some (AV.str (if c then a else b),hp,e)) ∧
  (∀ {α:Type} (c:Prop) [Decidable c] (a b d:α),(if c then (if c then a else b) else d)=if c then a else d)∧(∀ {α:Type} (c:Prop) [Decidable c] (a b d:α),(if c then a else (if c then b else d))=if c then a else d)∧(∀ {α:Type} (a b:α),(if true=true then a else b)=a)∧(∀ {α:Type} (a b:α),(if false=true then a else b)=b)∧(∀ {α:Type} (a b:α),(if True then a else b)=a)∧(∀ {α:Type} (a b:α),(if False then a else b)=b)∧(∀ (i:Decidable True),@decide True i=true)∧(∀ (i:Decidable False),@decide False i=false):=⟨ifI,ifB,ifS,fun c _ a b d=>by split <;> rfl,fun c _ a b d=>by split <;> rfl,fun _ _=>rfl,fun _ _=>rfl,fun _ _=>rfl,fun _ _=>rfl,fun i=>by cases i <;> simp,fun i=>by cases i <;> simp⟩
section
variable {hp:List Zm}{g:Nat}{cs:List AV}{t:TypeId}
theorem Zqy (h:hp[g]? = some (.cells cs t))(x:Zm):(hp ++ [x])[g]? = some (.cells cs t):=by rw [List.getElem?_append_left (List.getElem?_eq_some_iff.1 h).1]; exact h
theorem getM {es:List (AV×AV)}(h:hp[g]? = some (.map es))(x:Zm):(hp ++ [x])[g]? = some (.map es):=by rw [List.getElem?_append_left (List.getElem?_eq_some_iff.1 h).1]; exact h
end
theorem st_all (bs n:Nat)(h:List Zm)(cs c:List AV)(t:TypeId)(ef:Eff)(h1:c.length=n)(h2:cs.length=n)(h4:bs≤h.length):stV bs n (.ptr h.length 0) (.agg c) (h ++ [.cells cs t]) ef=some (h ++ [.cells c t],ef):=by
 rw [Zs3 bs n h cs t 0 (.agg c) ef h1 (by omega) rfl h4]
 have:splice cs 0 c=c:=by simp [splice,h1,← h2]
 rw [Zon,this]
theorem ZnU (n:Nat)(c:List AV)(h:c.length=n):ZsJ n (.agg c)=some c:=ZtB n c h
def Zyv (x:KR)(hp:List Zm):KR :=
 match x with
 | some (v,_,none)=>if v.flat then some (v,hp,none) else none
 | _=>none
theorem QC :
  (∀ (K:FuncId→List AV→List Zm→KR) (f:FuncId) (a:List AV) (hp:List Zm),Wj K f a hp=Zyv (K f a hp) hp) ∧
  (∀ (b:Bool) (h hp:List Zm),Zyv (some (.bool b,h,none)) hp=some (.bool b,hp,none)) ∧
  (∀ (k:IntKind) (x:Int) (h hp:List Zm),Zyv (some (.int k x,h,none)) hp=some (.int k x,hp,none)) ∧
  (∀ (s:List UInt8) (h hp:List Zm),Zyv (some (.str s,h,none)) hp=some (.str s,hp,none)) :=
 ⟨fun _ _ _ _=>rfl,fun _ _ _=>rfl,fun _ _ _ _=>rfl,fun _ _ _=>rfl⟩
theorem lp {α:Type}(row:α→List AV){l q r:List α}{x:α}(h:l=q ++ x :: r)(hb:l.length≤4611686018427387) :
  decide ((q.length:Int) < (l.length:Int))=true∧(l.map row)[q.length]? = some (row x)∧IntKind.i64.wrap ((q.length:Int) + 1)=((q ++ [x]).length:Int)∧l=(q ++ [x]) ++ r∧x ∈ l:=by
 subst h
 refine ⟨?_,?_,?_,by simp,by simp⟩
 ·simp only [List.length_append,List.length_cons,decide_eq_true_eq]; omega
 ·simp
 ·have:q.length < 4611686018427387904:=by simp at hb; omega
  rw [Dh _ this]; simp
def Yh {α:Type}(f:α→Int):List α→Int
 | []=>0
 | x :: r=>if decide (f x≠0)=true then f x else Yh f r
def all2 {α:Type}(f:α→α→Bool):List α→List α→Bool
 | x :: r,y :: s=>if (!(f x y))=true then false else all2 f r s
 | _,_=>true
def Zr6 {α:Type}(f:α→Int):List α→Int→Int
 | [],n=>n
 | x :: r,n=>Zr6 f r (if f x > n then f x else n)
theorem fuel {C:Cfg}{N d:Nat}(h:d + 1≤N):∃ m,N=m + 1∧d≤m:=⟨N - 1,by omega,by omega⟩
theorem LIT :
  (∀ (e:TypeId) (k:IntKind) (x:Int) (hp:List Zm),ZvI e 1 [.int k x] hp=some (.own 1 [[.int k x]],hp))∧(∀ (e:TypeId) (k l:IntKind) (x y:Int) (hp:List Zm),ZvI e 1 [.int k x,.int l y] hp=some (.own 1 [[.int k x],[.int l y]],hp)) ∧
  (∀ (e:TypeId) (s:List UInt8) (hp:List Zm),ZvI e 1 [.str s] hp=some (.own 1 [[.str s]],hp)) :=
 ⟨fun _ _ _ _=>rfl,fun _ _ _ _ _ _=>rfl,fun _ _ _=>rfl⟩
theorem EX:(∀ (a:AV) (l:List AV),XW (.tup (a :: l)) 0=some a.ro)∧(∀ (a b:AV) (l:List AV),XW (.tup (a :: b :: l)) 1=some b.ro)∧(∀ (a b c:AV) (l:List AV),XW (.tup (a :: b :: c :: l)) 2=some c.ro)∧(∀ (a b c d:AV) (l:List AV),XW (.tup (a :: b :: c :: d :: l)) 3=some d.ro)∧(∀ (a b c d e:AV) (l:List AV),XW (.tup (a :: b :: c :: d :: e :: l)) 4=some e.ro) :=
 ⟨fun _ _=>rfl,fun _ _ _=>rfl,fun _ _ _ _=>rfl,fun _ _ _ _ _=>rfl,fun _ _ _ _ _ _=>rfl⟩
def sumW {α:Type}(f:α→Int):List α→Int→Int
 | [],n=>n
 | x :: r,n=>sumW f r (IntKind.i64.wrap (n + f x))
theorem max2 (a b:Int):Zut [.int .i64 a,.int .i64 b]=some (.int .i64 (if b > a then b else a)):=rfl
theorem min2 (a b:Int):Zuu [.int .i64 a,.int .i64 b]=some (.int .i64 (if b < a then b else a)):=rfl
theorem GI:(∀ (α:Type) (a:α) (l:List α),(a :: l)[0]? = some a)∧(∀ (α:Type) (a b:α) (l:List α),(a :: b :: l)[1]? = some b)∧(∀ (α:Type) (a b c:α) (l:List α),(a :: b :: c :: l)[2]? = some c)∧(∀ (α:Type) (a b c d:α) (l:List α),(a :: b :: c :: d :: l)[3]? = some d):=⟨fun _ _ _=>rfl,fun _ _ _ _=>rfl,fun _ _ _ _ _=>rfl,fun _ _ _ _ _ _=>rfl⟩
end Go.Proofs.YtgjcjbhhhlelnaaGreatDoor.Abs
end
