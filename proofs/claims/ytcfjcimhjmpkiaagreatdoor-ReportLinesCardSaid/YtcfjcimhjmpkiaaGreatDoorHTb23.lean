import Derived.Test.YtcfjcimhjmpkiaaGreatDoorHTb22
set_option linter.all false
section
namespace Go.Proofs.YtcfjcimhjmpkiaaGreatDoor
open Go Go.RowKit Go.Shelf Go.Proofs.YtcfjcimhjmpkiaaGreatDoor.Abs Go.Proofs.YtcfjcimhjmpkiaaGreatDoor.Tl
set_option maxRecDepth 100000
def NI (f:FuncId)(args:List AV):Option AV:=if f=WC then (match args with | []=>some (.bool true) | _=>none) else none
theorem Dh {W0:World}(hL:Num.Laid W0):∀ f args v,NI f args=some v→OracleOk Tryz.prog W0 f args v:=by
 intro f args v h
 unfold NI at h
 split at h
 ·rename_i e; subst e
  split at h <;> cases h
  refine ⟨fun _ _ h=>(by cases h),fun Γ w xs hb hΓ hs hx=>?_⟩
  have hxs:xs=#[]:=Array.eq_empty_of_size_eq_zero hs
  subst hxs
  refine went_of_calls Tryz.func12 (by kernel_rfl) rfl ((LJ (hL.below hb)).mono ?_)
  rintro e w' ⟨rfl,hb'⟩
  exact ⟨_,rfl,hb',.bool true⟩
 ·cases h
noncomputable def O6 (f:FuncId)(args:List AV)(hp:List AObj):Option (AV×List AObj×Eff) :=
 if f=12 then (NI f args).map fun v=>(v,hp,none)
 else if f=37 then NZ f args hp
 else if f=39 then Ll f args hp
 else (NL f args).map fun v=>(v,hp,none)
theorem DT {W0:World}(hL:Num.Laid W0):CallSpec Tryz.prog W0 O6:=by
 intro f args hp v hp' e ho Γ w xs hr ht hs hx
 unfold O6 at ho
 split at ho
 ·exact spec_of_oracles (Dh hL) f args hp v hp' e ho Γ w xs hr ht hs hx
 split at ho
 ·exact Lt W0 f args hp v hp' e ho Γ w xs hr ht hs hx
 split at ho
 ·exact OJ W0 f args hp v hp' e ho Γ w xs hr ht hs hx
 ·exact spec_of_oracles (Ld W0) f args hp v hp' e ho Γ w xs hr ht hs hx
noncomputable def C6 (L:Nat):Cfg:=⟨fun _=>none,cT,O6,L + 64⟩
theorem DR {W0:World}(hL:Num.Laid W0)(L:Nat):CfgOk Tryz.prog W0 (C6 L) where
 mixed:=by kernel_rfl
 globals:=fun g cells h=>by cases h
 table:=fun f af h=>by
  have h:(tab.find? (·.1 == f)).map (·.2)=some af:=h
  obtain ⟨p,hp,rfl⟩:=Option.map_eq_some_iff.1 h
  have hf:=List.find?_some hp
  have:p.1=f:=by simpa using hf
  subst this
  exact Lp p (List.mem_of_find?_eq_some hp)
 oracle:=DT hL
theorem Bg {L n:Nat}{f:FuncId}{args:List AV}{hp:List AObj}(h:(cT f).isNone=true):evalCall (C6 L) (n + 1) f args hp=O6 f args hp:=by
 rw [evalCall]
 show (match cT f with | some fn=>_ | none=>O6 f args hp)=_
 rw [Option.isNone_iff_eq_none.1 h]
theorem Bj {L:Nat}(hb:10000≤L):St (C6 L) L where
 L:=rfl
 big:=by show 10064≤L + 64; omega
 G:=fun g c h=>by cases h
 T:=fun f a h=>h
 awake:=fun m hp=>by rw [Bg (by kernel_rfl)]; rfl
 rep:=fun m s n hp h1 h2 h3=>by
  rw [Bg (by kernel_rfl)]
  show Option.map (fun v=>(v,hp,none)) (if 0≤n∧n≤9223372036854775807∧s.length * n.toNat≤140737488355328 then some (AV.str (Lib.repeatL s n.toNat)) else none)=_
  rw [if_pos ⟨h1,h2,h3⟩]; rfl
 ws0:=fun m p s hp h hs=>by
  rw [Bg (by kernel_rfl)]
  show NZ 37 [.ptr p 0,.str s] hp=_
  have hb:I5 hp[p]? = some ([],85,[]):=by rw [h]; rfl
  simp only [NZ,if_true,hb,List.length_nil,Nat.zero_add,if_pos hs,List.nil_append]
 ws1:=fun m p l s hp h hs=>by
  rw [Bg (by kernel_rfl)]
  show NZ 37 [.ptr p 0,.str s] hp=_
  have hb:I5 hp[p]? = some (l,85,[]):=by rw [h]; rfl
  simp only [NZ,if_true,hb,if_pos hs]
 sb0:=fun m p hp h=>by
  rw [Bg (by kernel_rfl)]
  show Ll 39 [.ptr p 0] hp=_
  simp only [Ll,if_true,h]
 sb1:=fun m p l hp h hl=>by
  rw [Bg (by kernel_rfl)]
  show Ll 39 [.ptr p 0] hp=_
  simp only [Ll,if_true,h,DN,List.all_nil,ne_eq,hl,not_false_eq_true,and_self]
theorem Oh {C:Cfg}{f:FuncId}{sig:List SD}{q:Nh tT sig→Option Bool}(h:Ur C ⟨f,sig,fun x=>.par ((.one .bool:RD).Ty tT) (q x) ((.one .bool:RD).tv tT)⟩)(x:Nh tT sig)(avs:List AV)(hl:LR [] (NV tT sig x) avs)(hq:q x=some true):∃ n,evalCall C n f avs []=some (.bool true,[],none):=by
 obtain ⟨a,h1,n,h2⟩:=h x [] avs hl true hq
 have h3:=h1 []
 have:a=.bool true:=by
  cases h3 with | av v a h =>
   rcases h with h | h
   ·exact h
   ·cases a <;> cases h; rfl
 subst this
 exact ⟨n,h2 n (Nat.le_refl _)⟩
def NF:List TypeId:=[32,37,9]
theorem PT:Rz Tryz.prog NF=true:=by kernel_rfl
theorem Gg {α:Type}{r:α→List AV}:∀ {rows:List (List AV)},(∀ c ∈ rows,∃ x,c=r x)→∃ l:List α,rows=l.map r
 | [],_=>⟨[],rfl⟩
 | c :: rows,h=>by
  obtain ⟨x,e⟩:=h c (List.mem_cons_self ..)
  obtain ⟨l,e'⟩:=Gg fun c hc=>h c (List.mem_cons_of_mem _ hc)
  exact ⟨x :: l,by rw [e,e']; rfl⟩
theorem GY {c0:List (List AV)}(h:Of Tryz.prog 32 [.lst 1 c0]):∃ l:List (List (List UInt8)),c0=l.map fun r=>[MB r]:=by
 obtain ⟨rows,e0,_,hm⟩:=h.toSlice Tryz.underlying32
 rw [show Tryz.prog.cellsOf 37=1 from by kernel_rfl] at e0
 injection e0 with e1 _
 injection e1 with _ e2
 subst e2
 refine Gg fun r hr=>?_
 obtain ⟨rows2,e3,_,hm2⟩:=(hm r hr).toSlice Tryz.underlying37
 rw [show Tryz.prog.cellsOf 9=1 from by kernel_rfl] at e3
 obtain ⟨l,e4⟩:=Gg (r := fun s:List UInt8=>[AV.str s]) fun c hc=>by
  obtain ⟨s,e,_⟩:=(hm2 c hc).toStr Tryz.underlying9
  exact ⟨s,e⟩
 exact ⟨l,by rw [e3,e4]⟩
theorem Hy {l:List (List (List UInt8))}{f:FuncId}{n L:Nat}{v0:Value}{W:World}(hL:Num.Laid W)(R0:Rep still W (lv l) v0)(hn:evalCall (C6 L) n f [lv l] []=some (.bool true,[],none)) :
  Calls Tryz.prog f #[v0] W fun e W'=>e=.returned (.bool true)∧Below W.heap.size W W':=by
 refine law_of (DR hL _) hn rfl fun j y hy=>?_
 match j,hy with
 | 0,hy=>cases hy; exact ⟨R0,fun k r e=>by cases e⟩
theorem Tf {H:Type}{c0:List (List AV)}{d0:DataW H}(S0:XQ Tryz.prog 32 [.lst 1 c0] d0)(v0:Value)(W:World)(hL:Num.Laid W)(R0:Rep still W (.lst 1 c0) v0) :
  Calls Tryz.prog Ql #[v0] W fun e W'=>e=.returned (.bool true)∧Below W.heap.size W W':=by
 obtain ⟨l,rfl⟩:=GY S0.of
 obtain ⟨n,hn⟩:=Oh (Q7 (Bj (L := 20000) (by decide))) (l,()) [lv l] (.cons _ _ (VR.lst (T := tT) 1 (.lst 1 .str) l _ rfl) _ _ .nil) (Gl (by decide) l)
 exact Hy hL R0 hn
theorem LK {H:Type}{c0:List (List AV)}{d0:DataW H}(S0:XQ Tryz.prog 32 [.lst 1 c0] d0)(v0:Value)(W:World)(hL:Num.Laid W)(R0:Rep still W (.lst 1 c0) v0) :
  Calls Tryz.prog QW #[v0] W fun e W'=>e=.returned (.bool true)∧Below W.heap.size W W':=by
 obtain ⟨l,rfl⟩:=GY S0.of
 obtain ⟨n,hn⟩:=Oh (Xg (Bj (L := 200000) (by decide))) (l,()) [lv l] (.cons _ _ (VR.lst (T := tT) 1 (.lst 1 .str) l _ rfl) _ _ .nil) (Ih (by decide) l)
 exact Hy hL R0 hn
end Go.Proofs.YtcfjcimhjmpkiaaGreatDoor
end
