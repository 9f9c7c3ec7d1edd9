import Derived.Test.YtgjcjbhhhlelnaaGreatDoorHEv16
set_option linter.all false
section
namespace Go.Proofs.YtgjcjbhhhlelnaaGreatDoor
open Go Go.RowKit Go.Shelf Go.Proofs.YtgjcjbhhhlelnaaGreatDoor.Abs Go.Proofs.YtgjcjbhhhlelnaaGreatDoor.Tl
set_option maxRecDepth 100000
abbrev Tryz.grow_ren:Ren:=⟨fun | 4=>171 | n=>n,fun | 22=>91 | 25=>194 | n=>n,fun | n=>n⟩
theorem Tryz.grow_lays:Lays8.n4 Tryz.prog Tryz.grow_ren where
 mixed:=by kernel_rfl
 f4:=⟨ "slices.Grow[[]simulator/api.Field,simulator/api.Field]",by decide,Tryz.func171.trans (congrArg some (by kernel_rfl))⟩
 t0:=Tryz.underlying0
 a0:=Tryz.isAgg0
 z0:=Tryz.sizeOf0
 v0:=Tryz.zeroValue0
 t3:=Tryz.underlying3
 a3:=Tryz.isAgg3
 z3:=Tryz.sizeOf3
 v3:=Tryz.zeroValue3
 t4:=Tryz.underlying4
 a4:=Tryz.isAgg4
 z4:=Tryz.sizeOf4
 v4:=Tryz.zeroValue4
 t9:=Tryz.underlying9
 a9:=Tryz.isAgg9
 z9:=Tryz.sizeOf9
 v9:=Tryz.zeroValue9
 t20:=Tryz.underlying20
 a20:=Tryz.isAgg20
 z20:=Tryz.sizeOf20
 v20:=Tryz.zeroValue20
 t22:=Tryz.underlying91
 a22:=Tryz.isAgg91
 z22:=Tryz.sizeOf91
 v22:=Tryz.zeroValue91
theorem Zwq (W0:World):Yc Tryz.prog W0 (ZnZ 171 2 24):=by
 obtain ⟨i,h1,h2⟩:∃ i:TypeInfo,Tryz.prog.info? 194=some i∧i.size=2∧i.bytes=24∧∃ z,i.zero=some z∧z.cells.size=2:=⟨_,rfl,rfl,rfl,_,rfl,rfl⟩
 obtain ⟨h2,h3,z,h4,h5⟩:=h2
 have:=Zoa (W0 := W0) Tryz.grow_lays (i0 := i) (z := z) h1 h4 (by rw [h5,h2]) (by omega)
 rw [h2,h3] at this
 exact this
def orK (f:FuncId)(args:List AV):Option AV:=if f=Oo then (match args with | []=>some (.bool true) | _=>none) else none
theorem ZwA (W0:World):∀ f args v,orK f args=some v→Za6 Tryz.prog W0 f args v:=by
 intro f args v h
 unfold orK at h
 split at h
 ·rename_i e; subst e
  split at h <;> cases h
  refine ⟨fun _ _ h=>(by cases h),fun Γ w xs hb hΓ hs hx=>?_⟩
  have hxs:xs=#[]:=Array.eq_empty_of_size_eq_zero hs
  subst hxs
  refine Ez Tryz.func10 (by kernel_rfl) rfl ((ZsY w).mono ?_)
  rintro e w' ⟨rfl,hb'⟩
  exact ⟨_,rfl,hb',.bool true⟩
 ·cases h
noncomputable def ZyV:Cfg:=⟨fun _=>none,fun f=>(ZuG.find? (·.1 == f)).map (·.2),fun _ _ _=>none,64⟩
theorem ZsJ (W0:World):Zdk Tryz.prog W0 ZyV where
 mixed:=by kernel_rfl
 globals:=fun g cells h=>by cases h
 table:=fun f af h=>by
  have h:(ZuG.find? (·.1 == f)).map (·.2)=some af:=h
  obtain ⟨p,hp,rfl⟩:=Option.map_eq_some_iff.1 h
  have hf:=List.find?_some hp
  have:p.1=f:=by simpa using hf
  subst this
  exact ZjZ p (List.mem_of_find?_eq_some hp)
 oracle:=fun _ _ _ _ _ _ h=>by cases h
noncomputable def O1 (f:FuncId)(args:List AV)(hp:List Zl):Option (AV×List Zl×Eff):=if f=Oo then (orK f args).map fun v=>(v,hp,none) else if f=Ij then Z5 ZyV 8 f args hp else ZnZ 171 2 24 f args hp
theorem ZxG (W0:World):Yc Tryz.prog W0 O1:=by
 intro f args hp v hp' e ho Γ w xs hr ht hs hx
 unfold O1 at ho
 split at ho
 ·exact Gx (ZwA W0) f args hp v hp' e ho Γ w xs hr ht hs hx
 ·split at ho
  ·exact O3 (ZsJ W0) 8 f args hp v hp' e ho Γ w xs hr ht hs hx
  ·exact Zwq W0 f args hp v hp' e ho Γ w xs hr ht hs hx
noncomputable def C1 (L:Nat):Cfg:=⟨GF,cT,O1,L + 64⟩
theorem ZxD {W0:World}(hG:GOk GF W0)(L:Nat):Zdk Tryz.prog W0 (C1 L) where
 mixed:=by kernel_rfl
 globals:=hG
 table:=fun f af h=>by
  have h:(tab.find? (·.1 == f)).map (·.2)=some af:=h
  obtain ⟨p,hp,rfl⟩:=Option.map_eq_some_iff.1 h
  have hf:=List.find?_some hp
  have:p.1=f:=by simpa using hf
  subst this
  exact ZsD p (List.mem_of_find?_eq_some hp)
 oracle:=ZxG W0
theorem ZxC (L:Nat):St (C1 L) L where
 L:=rfl
 G:=ZyN
 T:=fun f a h=>h
 grow:=fun m n hp h1 h2=>by
  show ZnZ 171 2 24 171 [.own 2 [],.int .i64 n] hp=_
  have a:(2:Nat)=2∧0≤n∧n.toNat * 24≤140737488355328∧n.toNat≤140737488355328:=⟨rfl,h1,by omega,by omega⟩
  show (if (2:Nat)=2∧0≤n∧n.toNat * 24≤140737488355328∧n.toNat≤140737488355328 then some (AV.own 2 [],hp,none) else none)=(some (AV.own 2 [],hp,none):Option (AV×List Zl×Eff))
  rw [if_pos a]
 awake:=fun m hp=>rfl
theorem Zt7 {C:Cfg}{f:FuncId}{sig:List SD}{q:RTy tT sig→Option Bool}(h:Jj C ⟨f,sig,fun x=>.par ((.one .bool:RD).Ty tT) (q x) ((.one .bool:RD).tv tT)⟩)(x:RTy tT sig)(avs:List AV)(hl:LR [] (tvL tT sig x) avs)(hq:q x=some true):∃ n,Z5 C n f avs []=some (.bool true,[],none):=by
 obtain ⟨a,h1,n,h2⟩:=h x [] avs hl true hq
 have h3:=h1 []
 have:a=.bool true:=by
  cases h3 with | av v a h =>
   rcases h with h | h
   ·exact h
   ·cases a <;> cases h; rfl
 subst this
 exact ⟨n,h2 n (Nat.le_refl _)⟩
theorem Zwd {k:Nat}(x:tT.D k){l:List (TV tT)}{cs:List AV}(h:LR [] l cs):LR [] (.row k x :: l) (.agg (tT.row k x) :: cs):=.cons _ _ (.row k x _ (Q7.ro k x)) _ _ h
theorem Zqh {H:Type}{c0:List AV}{d0:DataW H}(S0:RZ Tryz.prog 25 c0 d0)(x:Int)(b:0≤x∧x≤255)(v0:Value)(w:World)(hG:GOk GF w)(hR0:Rep still w (.agg c0) v0) :
  Calls Tryz.prog MI #[v0,.int .u8 x] w fun e w'=>e=.returned (.bool true)∧Below w.heap.size w w':=by
 obtain ⟨p,rfl,hp⟩:=Zmg S0.of
 obtain ⟨n,hn⟩:=Zt7 (MS (ZxC (1000 + 2 * SizeOf.sizeOf p))) (p,x,()) [.agg (Vh p),.int .u8 x] (Zwd (k := 19) p (.cons _ _ (.av _ _ (.inl rfl)) _ _ .nil)) (BN _ (by omega) p hp (by omega) x b.1 b.2)
 refine ZvV (ZxD hG _) hn rfl fun j x hx=>?_
 match j,hx with
 | 0,hx=>cases hx; exact ⟨hR0,fun k r e=>by cases e⟩
 | 1,hx=>cases hx; exact ⟨.int _ _,fun k r e=>by cases e⟩
end Go.Proofs.YtgjcjbhhhlelnaaGreatDoor
end
