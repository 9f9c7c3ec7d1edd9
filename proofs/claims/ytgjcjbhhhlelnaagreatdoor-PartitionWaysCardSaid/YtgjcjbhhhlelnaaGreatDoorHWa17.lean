import Derived.Test.YtgjcjbhhhlelnaaGreatDoorHWa16
set_option linter.all false
section
namespace Go.Proofs.YtgjcjbhhhlelnaaGreatDoor
open Go Go.RowKit Go.Shelf Go.Proofs.YtgjcjbhhhlelnaaGreatDoor.Abs Go.Proofs.YtgjcjbhhhlelnaaGreatDoor.Tl
set_option maxRecDepth 100000
abbrev Tryz.grow_ren:Ren:=⟨fun | 4=>171 | n=>n,fun | 22=>91 | 25=>194 | n=>n,fun | n=>n⟩
theorem Tryz.grow_lays:Lays8.n4 Tryz.prog Tryz.grow_ren where
 mixed:=by kernel_rfl
 f4:=⟨ "slices.Grow[[]simulator/api.Field,simulator/api.Field]",by decide,Tryz.func171.trans (congrArg some (by kernel_rfl))⟩
 t0:=Tryz.underlying0
 a0:=Tryz.isAgg0
 z0:=Tryz.sizeOf0
 v0:=Tryz.zeroValue0
 t3:=Tryz.underlying3
 a3:=Tryz.isAgg3
 z3:=Tryz.sizeOf3
 v3:=Tryz.zeroValue3
 t4:=Tryz.underlying4
 a4:=Tryz.isAgg4
 z4:=Tryz.sizeOf4
 v4:=Tryz.zeroValue4
 t9:=Tryz.underlying9
 a9:=Tryz.isAgg9
 z9:=Tryz.sizeOf9
 v9:=Tryz.zeroValue9
 t20:=Tryz.underlying20
 a20:=Tryz.isAgg20
 z20:=Tryz.sizeOf20
 v20:=Tryz.zeroValue20
 t22:=Tryz.underlying91
 a22:=Tryz.isAgg91
 z22:=Tryz.sizeOf91
 v22:=Tryz.zeroValue91
theorem Zxf (W0:World):Y8 Tryz.prog W0 (ZoE 171 2 24):=by
 obtain ⟨i,h1,h2⟩:∃ i:TypeInfo,Tryz.prog.info? 194=some i∧i.size=2∧i.bytes=24∧∃ z,i.zero=some z∧z.cells.size=2:=⟨_,rfl,rfl,rfl,_,rfl,rfl⟩
 obtain ⟨h2,h3,z,h4,h5⟩:=h2
 have:=ZoF (W0 := W0) Tryz.grow_lays (i0 := i) (z := z) h1 h4 (by rw [h5,h2]) (by omega)
 rw [h2,h3] at this
 exact this
def orK (f:FuncId)(args:List AV):Option AV:=if f=Ky then (match args with | []=>some (.bool true) | _=>none) else none
theorem Zxy (W0:World):∀ f args v,orK f args=some v→ZaT Tryz.prog W0 f args v:=by
 intro f args v h
 unfold orK at h
 split at h
 ·rename_i e; subst e
  split at h <;> cases h
  refine ⟨fun _ _ h=>(by cases h),fun Γ w xs hb hΓ hs hx=>?_⟩
  have hxs:xs=#[]:=Array.eq_empty_of_size_eq_zero hs
  subst hxs
  refine Af Tryz.func10 (by kernel_rfl) rfl ((ZtD w).mono ?_)
  rintro e w' ⟨rfl,hb'⟩
  exact ⟨_,rfl,hb',.bool true⟩
 ·cases h
noncomputable def O1 (f:FuncId)(args:List AV)(hp:List Zm):Option (AV×List Zm×Eff):=if f=Ky then (orK f args).map fun v=>(v,hp,none) else if f=ZC then Zv ZaR 8 f args hp else ZoE 171 2 24 f args hp
theorem Zy5 (W0:World):Y8 Tryz.prog W0 O1:=by
 intro f args hp v hp' e ho Γ w xs hr ht hs hx
 unfold O1 at ho
 split at ho
 ·exact Ha (Zxy W0) f args hp v hp' e ho Γ w xs hr ht hs hx
 ·split at ho
  ·exact PX (Zty W0) 8 f args hp v hp' e ho Γ w xs hr ht hs hx
  ·exact Zxf W0 f args hp v hp' e ho Γ w xs hr ht hs hx
noncomputable def C1 (L:Nat):Cfg:=⟨GF,cT,O1,L + 64⟩
theorem Zy2 {W0:World}(hG:GOk GF W0)(L:Nat):ZgD Tryz.prog W0 (C1 L) where
 mixed:=by kernel_rfl
 globals:=hG
 table:=fun f af h=>by
  have h:(tab.find? (·.1 == f)).map (·.2)=some af:=h
  obtain ⟨p,hp,rfl⟩:=Option.map_eq_some_iff.1 h
  have hf:=List.find?_some hp
  have:p.1=f:=by simpa using hf
  subst this
  exact Zts p (List.mem_of_find?_eq_some hp)
 oracle:=Zy5 W0
theorem Zo1 {C:Cfg}{f:FuncId}{args:List AV}{hp:List Zm}{m:Nat}(h:C.T f=none):Zv C (m + 1) f args hp=C.O f args hp:=by rw [Zv,h]
theorem ZvT (args:List AV)(hp:List Zm):O1 ZC args hp=Zv ZaR 8 ZC args hp:=by
 rw [O1,if_neg (by decide),if_pos rfl]
theorem Z0g (L:Nat):(C1 L).O=O1:=rfl
theorem ZvS (L:Nat):(C1 L).T ZC=none:=by kernel_rfl
theorem Zz0 (L m n:Nat)(hp:List Zm)(h1:1≤n)(h2:n≤16):Zv (C1 L) (m + 1) ZC [.lst 1 [[.int .i64 (-1)]],.int .i64 n] hp=some (.arr hp.length 0 n 1,hp ++ [.cells ((List.replicate n (-1)).map (AV.int .i64)) XK],none):=by
 rw [Zo1 (ZvS L),Z0g,ZvT]
 exact ZsB hp n h1 h2
theorem Zy1 (L:Nat):St (C1 L) L where
 L:=rfl
 G:=ZzN
 T:=fun f a h=>h
 grow:=fun m n hp h1 h2=>by
  show ZoE 171 2 24 171 [.own 2 [],.int .i64 n] hp=_
  have a:(2:Nat)=2∧0≤n∧n.toNat * 24≤140737488355328∧n.toNat≤140737488355328:=⟨rfl,h1,by omega,by omega⟩
  show (if (2:Nat)=2∧0≤n∧n.toNat * 24≤140737488355328∧n.toNat≤140737488355328 then some (AV.own 2 [],hp,none) else none)=(some (AV.own 2 [],hp,none):Option (AV×List Zm×Eff))
  rw [if_pos a]
 awake:=fun m hp=>rfl
 rep:=fun m n hp h1 h2=>Zz0 L m n hp h1 h2
theorem Zum {C:Cfg}{f:FuncId}{sig:List SD}{q:RTy tT sig→Option Bool}(h:J5 C ⟨f,sig,fun x=>.par ((.one .bool:RD).Ty tT) (q x) ((.one .bool:RD).tv tT)⟩)(x:RTy tT sig)(avs:List AV)(hl:LR [] (tvL tT sig x) avs)(hq:q x=some true):∃ n,Zv C n f avs []=some (.bool true,[],none):=by
 obtain ⟨a,h1,n,h2⟩:=h x [] avs hl true hq
 have h3:=h1 []
 have:a=.bool true:=by
  cases h3 with | av v a h =>
   rcases h with h | h
   ·exact h
   ·cases a <;> cases h; rfl
 subst this
 exact ⟨n,h2 n (Nat.le_refl _)⟩
theorem ZwN {k:Nat}(x:tT.D k){l:List (TV tT)}{cs:List AV}(h:LR [] l cs):LR [] (.row k x :: l) (.agg (tT.row k x) :: cs):=.cons _ _ (.row k x _ (QM.ro k x)) _ _ h
end Go.Proofs.YtgjcjbhhhlelnaaGreatDoor
end
