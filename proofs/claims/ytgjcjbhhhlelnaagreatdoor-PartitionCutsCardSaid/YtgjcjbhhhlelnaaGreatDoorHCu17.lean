import Derived.Test.YtgjcjbhhhlelnaaGreatDoorHCu16
set_option linter.all false
section
namespace Go.Proofs.YtgjcjbhhhlelnaaGreatDoor
open Go Go.RowKit Go.Shelf Go.Proofs.YtgjcjbhhhlelnaaGreatDoor.Abs Go.Proofs.YtgjcjbhhhlelnaaGreatDoor.Tl
set_option maxRecDepth 100000
abbrev Tryz.grow_ren:Ren:=⟨fun | 4=>171 | n=>n,fun | 22=>91 | 25=>194 | n=>n,fun | n=>n⟩
theorem Tryz.grow_lays:Lays8.n4 Tryz.prog Tryz.grow_ren where
 mixed:=by kernel_rfl
 f4:=⟨ "slices.Grow[[]simulator/api.Field,simulator/api.Field]",by decide,Tryz.func171.trans (congrArg some (by kernel_rfl))⟩
 t0:=Tryz.underlying0
 a0:=Tryz.isAgg0
 z0:=Tryz.sizeOf0
 v0:=Tryz.zeroValue0
 t3:=Tryz.underlying3
 a3:=Tryz.isAgg3
 z3:=Tryz.sizeOf3
 v3:=Tryz.zeroValue3
 t4:=Tryz.underlying4
 a4:=Tryz.isAgg4
 z4:=Tryz.sizeOf4
 v4:=Tryz.zeroValue4
 t9:=Tryz.underlying9
 a9:=Tryz.isAgg9
 z9:=Tryz.sizeOf9
 v9:=Tryz.zeroValue9
 t20:=Tryz.underlying20
 a20:=Tryz.isAgg20
 z20:=Tryz.sizeOf20
 v20:=Tryz.zeroValue20
 t22:=Tryz.underlying91
 a22:=Tryz.isAgg91
 z22:=Tryz.sizeOf91
 v22:=Tryz.zeroValue91
theorem Zy0 (W0:World):Yd Tryz.prog W0 (Zqg 171 2 24):=by
 obtain ⟨i,h1,h2⟩:∃ i:TypeInfo,Tryz.prog.info? 194=some i∧i.size=2∧i.bytes=24∧∃ z,i.zero=some z∧z.cells.size=2:=⟨_,rfl,rfl,rfl,_,rfl,rfl⟩
 obtain ⟨h2,h3,z,h4,h5⟩:=h2
 have:=Zqh (W0 := W0) Tryz.grow_lays (i0 := i) (z := z) h1 h4 (by rw [h5,h2]) (by omega)
 rw [h2,h3] at this
 exact this
def orK (f:FuncId)(args:List AV):Option AV:=if f=OV then (match args with | []=>some (.bool true) | _=>none) else none
theorem ZyK (W0:World):∀ f args v,orK f args=some v→ZbI Tryz.prog W0 f args v:=by
 intro f args v h
 unfold orK at h
 split at h
 ·rename_i e; subst e
  split at h <;> cases h
  refine ⟨fun _ _ h=>(by cases h),fun Γ w xs hb hΓ hs hx=>?_⟩
  have hxs:xs=#[]:=Array.eq_empty_of_size_eq_zero hs
  subst hxs
  refine F9 Tryz.func10 (by kernel_rfl) rfl ((Zvh w).mono ?_)
  rintro e w' ⟨rfl,hb'⟩
  exact ⟨_,rfl,hb',.bool true⟩
 ·cases h
noncomputable def Z1g:Cfg:=⟨fun _=>none,fun f=>(ZwR.find? (·.1 == f)).map (·.2),fun _ _ _=>none,64⟩
theorem ZuU (W0:World):ZeH Tryz.prog W0 Z1g where
 mixed:=by kernel_rfl
 globals:=fun g cells h=>by cases h
 table:=fun f af h=>by
  have h:(ZwR.find? (·.1 == f)).map (·.2)=some af:=h
  obtain ⟨p,hp,rfl⟩:=Option.map_eq_some_iff.1 h
  have hf:=List.find?_some hp
  have:p.1=f:=by simpa using hf
  subst this
  exact Zmo p (List.mem_of_find?_eq_some hp)
 oracle:=fun _ _ _ _ _ _ h=>by cases h
noncomputable def O1 (f:FuncId)(args:List AV)(hp:List Zn):Option (AV×List Zn×Eff):=if f=OV then (orK f args).map fun v=>(v,hp,none) else if f=IP then Z7 Z1g 8 f args hp else Zqg 171 2 24 f args hp
theorem ZzP (W0:World):Yd Tryz.prog W0 O1:=by
 intro f args hp v hp' e ho Γ w xs hr ht hs hx
 unfold O1 at ho
 split at ho
 ·exact Ho (ZyK W0) f args hp v hp' e ho Γ w xs hr ht hs hx
 ·split at ho
  ·exact Tq (ZuU W0) 8 f args hp v hp' e ho Γ w xs hr ht hs hx
  ·exact Zy0 W0 f args hp v hp' e ho Γ w xs hr ht hs hx
noncomputable def C1 (L:Nat):Cfg:=⟨GF,cT,O1,L + 64⟩
theorem ZzM {W0:World}(hG:GOk GF W0)(L:Nat):ZeH Tryz.prog W0 (C1 L) where
 mixed:=by kernel_rfl
 globals:=hG
 table:=fun f af h=>by
  have h:(tab.find? (·.1 == f)).map (·.2)=some af:=h
  obtain ⟨p,hp,rfl⟩:=Option.map_eq_some_iff.1 h
  have hf:=List.find?_some hp
  have:p.1=f:=by simpa using hf
  subst this
  exact ZuO p (List.mem_of_find?_eq_some hp)
 oracle:=ZzP W0
theorem ZzL (L:Nat):St (C1 L) L where
 L:=rfl
 G:=Z0X
 T:=fun f a h=>h
 grow:=fun m n hp h1 h2=>by
  show Zqg 171 2 24 171 [.own 2 [],.int .i64 n] hp=_
  have a:(2:Nat)=2∧0≤n∧n.toNat * 24≤140737488355328∧n.toNat≤140737488355328:=⟨rfl,h1,by omega,by omega⟩
  show (if (2:Nat)=2∧0≤n∧n.toNat * 24≤140737488355328∧n.toNat≤140737488355328 then some (AV.own 2 [],hp,none) else none)=(some (AV.own 2 [],hp,none):Option (AV×List Zn×Eff))
  rw [if_pos a]
 awake:=fun m hp=>rfl
theorem ZvJ {C:Cfg}{f:FuncId}{sig:List SD}{q:RTy tT sig→Option Bool}(h:Qs C ⟨f,sig,fun x=>.par ((.one .bool:RD).Ty tT) (q x) ((.one .bool:RD).tv tT)⟩)(x:RTy tT sig)(avs:List AV)(hl:LR [] (tvL tT sig x) avs)(hq:q x=some true):∃ n,Z7 C n f avs []=some (.bool true,[],none):=by
 obtain ⟨a,h1,n,h2⟩:=h x [] avs hl true hq
 have h3:=h1 []
 have:a=.bool true:=by
  cases h3 with | av v a h =>
   rcases h with h | h
   ·exact h
   ·cases a <;> cases h; rfl
 subst this
 exact ⟨n,h2 n (Nat.le_refl _)⟩
theorem Zyo {k:Nat}(x:tT.D k){l:List (TV tT)}{cs:List AV}(h:LR [] l cs):LR [] (.row k x :: l) (.agg (tT.row k x) :: cs):=.cons _ _ (.row k x _ (Yv.ro k x)) _ _ h
theorem ZvG {H:Type}{r:List (List AV)}{d:DataW H}(S:LM Tryz.prog 26 [.lst 1 r] d):∃ l:List Int,r=l.map fun x=>[.int .i64 x]:=by
 obtain ⟨rows,e,_,D,h,_⟩:=S.toSlice Tryz.underlying26
 have e':r=rows:=by injection e with e _; injection e
 subst e'
 have:∀ m:List (List AV),(∀ x ∈ m,∃ n:Int,x=[.int .i64 n])→∃ l:List Int,m=l.map fun x=>[.int .i64 x]:=by
  intro m
  induction m with
  | nil=>exact fun _=>⟨[],rfl⟩
  | cons a m ih =>
   intro hm
   obtain ⟨n,rfl⟩:=hm a (List.mem_cons_self ..)
   obtain ⟨l,rfl⟩:=ih fun x hx=>hm x (List.mem_cons_of_mem _ hx)
   exact ⟨n :: l,rfl⟩
 refine this r fun x hx=>?_
 obtain ⟨i,hi⟩:=List.mem_iff_getElem?.1 hx
 obtain ⟨n,e,_⟩:=(h i x hi).toI64 Tryz.underlying3
 exact ⟨n,e⟩
theorem ZvP (l:List Int){m:List (TV tT)}{cs:List AV}(h:LR [] m cs):LR [] ((.lst 1 (.int .i64) l:TV tT) :: m) (.lst 1 (l.map fun x=>[.int .i64 x]) :: cs):=.cons _ _ (.lst 1 (.int .i64) l _ rfl) _ _ h
theorem Zo1 (L:Nat)(h1:1000≤L)(p:Zk)(h:Ux p)(hL:2 * SizeOf.sizeOf p≤L)(l:List Int):QC L (p,l,())=some true:=by
 by_cases hf:(decide ((p.2.length:Int)≤20) && decide ((p.3.length:Int)≤40) && decide ((l.length:Int)≤40))=true
 ·have hf':=hf
  simp only [Bool.and_eq_true,decide_eq_true_eq] at hf'
  obtain ⟨⟨f1,f2⟩,f3⟩:=hf'
  exact Sl L h1 p h hL l (by omega) (by omega)
 ·rw [U8,ZdA,Zx]
  rw [Bool.not_eq_true] at hf
  rw [hf]; rfl
theorem Zvi {H:Type}{c0:List AV}{d0:DataW H}{r1:List (List AV)}{d1:DataW H}(S0:LM Tryz.prog 25 c0 d0)(S1:LM Tryz.prog 26 [.lst 1 r1] d1)(v0 v1:Value)(w:World)(hG:GOk GF w)(hR0:Rep still w (.agg c0) v0)(hR1:Rep still w (.lst 1 r1) v1) :
  Calls Tryz.prog LW #[v0,v1] w fun e w'=>e=.returned (.bool true)∧Below w.heap.size w w':=by
 obtain ⟨p,rfl,hp⟩:=Zom S0.of
 obtain ⟨l,rfl⟩:=ZvG S1
 obtain ⟨n,hn⟩:=ZvJ (Bq (ZzL (1000 + 2 * SizeOf.sizeOf p))) (p,l,()) _ (Zyo (k := 19) p (ZvP l .nil)) (Zo1 _ (by omega) p hp (by omega) l)
 refine Zyg (ZzM hG _) hn rfl fun j x hx=>?_
 match j,hx with
 | 0,hx=>cases hx; exact ⟨hR0,fun k r e=>by cases e⟩
 | 1,hx=>cases hx; exact ⟨hR1,fun k r e=>by cases e⟩
end Go.Proofs.YtgjcjbhhhlelnaaGreatDoor
end
