import Derived.Test.YtbcfddaocfpckaaGreatDoorHSt17
set_option linter.all false
section
namespace Go.Proofs.YtbcfddaocfpckaaGreatDoor
open Go Go.RowKit Go.Shelf Go.Proofs.YtbcfddaocfpckaaGreatDoor.Abs Go.Proofs.YtbcfddaocfpckaaGreatDoor.Tl
set_option maxRecDepth 100000
abbrev Tryz.grow_ren:Ren:=⟨fun | 4=>302 | n=>n,fun | 22=>87 | 25=>244 | n=>n,fun | n=>n⟩
theorem Tryz.grow_lays:Lays8.n4 Tryz.prog Tryz.grow_ren where
 mixed:=by kernel_rfl
 f4:=⟨ "slices.Grow[[]simulator/api.Field,simulator/api.Field]",by decide,Tryz.func302.trans (congrArg some (by kernel_rfl))⟩
 t0:=Tryz.underlying0
 a0:=Tryz.isAgg0
 z0:=Tryz.sizeOf0
 v0:=Tryz.zeroValue0
 t3:=Tryz.underlying3
 a3:=Tryz.isAgg3
 z3:=Tryz.sizeOf3
 v3:=Tryz.zeroValue3
 t4:=Tryz.underlying4
 a4:=Tryz.isAgg4
 z4:=Tryz.sizeOf4
 v4:=Tryz.zeroValue4
 t9:=Tryz.underlying9
 a9:=Tryz.isAgg9
 z9:=Tryz.sizeOf9
 v9:=Tryz.zeroValue9
 t20:=Tryz.underlying20
 a20:=Tryz.isAgg20
 z20:=Tryz.sizeOf20
 v20:=Tryz.zeroValue20
 t22:=Tryz.underlying87
 a22:=Tryz.isAgg87
 z22:=Tryz.sizeOf87
 v22:=Tryz.zeroValue87
theorem ZdU (W0:World):CallSpec Tryz.prog W0 (ZbB 302 2 24):=by
 obtain ⟨i,h1,h2⟩:∃ i:TypeInfo,Tryz.prog.info? 244=some i∧i.size=2∧i.bytes=24∧∃ z,i.zero=some z∧z.cells.size=2:=⟨_,rfl,rfl,rfl,_,rfl,rfl⟩
 obtain ⟨h2,h3,z,h4,h5⟩:=h2
 have:=ZaH (W0 := W0) Tryz.grow_lays (i0 := i) (z := z) h1 h4 (by rw [h5,h2]) (by omega)
 rw [h2,h3] at this
 exact this
def orK (f:FuncId)(args:List AV):Option AV:=if f=XX then (match args with | []=>some (.bool true) | _=>none) else none
theorem ZdW {W0:World}(hL:Num.Laid W0):∀ f args v,orK f args=some v→OracleOk Tryz.prog W0 f args v:=by
 intro f args v h
 unfold orK at h
 split at h
 ·rename_i e; subst e
  split at h <;> cases h
  refine ⟨fun _ _ h=>(by cases h),fun Γ w xs hb hΓ hs hx=>?_⟩
  have hxs:xs=#[]:=Array.eq_empty_of_size_eq_zero hs
  subst hxs
  refine went_of_calls Tryz.func11 (by kernel_rfl) rfl ((ZcG (hL.below hb)).mono ?_)
  rintro e w' ⟨rfl,hb'⟩
  exact ⟨_,rfl,hb',.bool true⟩
 ·cases h
def orT (f:FuncId)(args:List AV):Option AV:=if f=44∨f=49 then (match args with
 | [.int .i64 n]=>if -9223372036854775808≤n∧n≤9223372036854775807 then some (.str (Lib.itoa n)) else none
 | _=>none) else none
theorem ZdY {W0:World}(hL:Num.Laid W0):∀ f args v,orT f args=some v→OracleOk Tryz.prog W0 f args v:=by
 intro f args v h
 unfold orT at h
 split at h
 ·rename_i e
  split at h
  ·rename_i n
   split at h <;> cases h
   rename_i hn
   refine ⟨fun _ _ h=>(by cases h),fun Γ w xs hb hΓ hs hx=>?_⟩
   obtain ⟨x,rfl⟩:=xs1 hs
   obtain rfl:x=_:=EE (hx 0 _ rfl)
   rcases e with rfl | rfl
   ·refine went_of_calls Tryz.func44 (by kernel_rfl) rfl ((Num.c_text n hn.1 hn.2 w (hL.below hb)).mono ?_)
    rintro e w' ⟨rfl,hb'⟩
    exact ⟨_,rfl,hb',.str _⟩
   ·refine went_of_calls Tryz.func49 (by kernel_rfl) rfl ((Num.c_rtext _ n w (Nat.le_refl _) hn.1 hn.2).mono ?_)
    rintro e w' ⟨rfl,rfl⟩
    exact ⟨_,rfl,Below.refl _ _,.str _⟩
  ·cases h
 ·cases h
noncomputable def O3 (f:FuncId)(args:List AV)(hp:List AObj):Option (AV×List AObj×Eff) :=
 if f=11 then (orK f args).map fun v=>(v,hp,none)
 else if f=93 then wsO f args hp
 else if f=81 then Zc5 f args hp
 else if f=80 then Zcv f args hp
 else if f=95 then (orJ f args).map fun v=>(v,hp,none)
 else if f=94 then (orR f args).map fun v=>(v,hp,none)
 else if f=44∨f=49 then (orT f args).map fun v=>(v,hp,none)
 else ZbB 302 2 24 f args hp
theorem ZeT {W0:World}(hL:Num.Laid W0):CallSpec Tryz.prog W0 O3:=by
 intro f args hp v hp' e ho Γ w xs hr ht hs hx
 unfold O3 at ho
 split at ho
 ·exact spec_of_oracles (ZdW hL) f args hp v hp' e ho Γ w xs hr ht hs hx
 split at ho
 ·exact ZcA W0 f args hp v hp' e ho Γ w xs hr ht hs hx
 split at ho
 ·exact Zbm W0 f args hp v hp' e ho Γ w xs hr ht hs hx
 split at ho
 ·exact ZaP W0 f args hp v hp' e ho Γ w xs hr ht hs hx
 split at ho
 ·exact spec_of_oracles (Zcy W0) f args hp v hp' e ho Γ w xs hr ht hs hx
 split at ho
 ·exact spec_of_oracles (Zcz W0) f args hp v hp' e ho Γ w xs hr ht hs hx
 split at ho
 ·exact spec_of_oracles (ZdY hL) f args hp v hp' e ho Γ w xs hr ht hs hx
 ·exact ZdU W0 f args hp v hp' e ho Γ w xs hr ht hs hx
noncomputable def C3 (L:Nat):Cfg:=⟨GF,cT,O3,L + 64⟩
theorem ZeR {W0:World}(hG:GOk GF W0)(hL:Num.Laid W0)(L:Nat):CfgOk Tryz.prog W0 (C3 L) where
 mixed:=by kernel_rfl
 globals:=hG
 table:=fun f af h=>by
  have h:(tab.find? (·.1 == f)).map (·.2)=some af:=h
  obtain ⟨p,hp,rfl⟩:=Option.map_eq_some_iff.1 h
  have hf:=List.find?_some hp
  have:p.1=f:=by simpa using hf
  subst this
  exact Zc6 p (List.mem_of_find?_eq_some hp)
 oracle:=ZeT hL
theorem Zav {L n:Nat}{f:FuncId}{args:List AV}{hp:List AObj}(h:(cT f).isNone=true):evalCall (C3 L) (n + 1) f args hp=O3 f args hp:=by
 rw [evalCall]
 show (match cT f with | some fn=>_ | none=>O3 f args hp)=_
 rw [Option.isNone_iff_eq_none.1 h]
theorem OQ (m:List Int):(m.map (AV.int .i64)).all AV.flat1=true∧(m.map (AV.int .i64)).all AV.one=true:=by
 constructor <;> simp [AV.flat1,AV.one]
theorem Za1 (L:Nat)(t k ln:Nat)(hT:IJ t (k + 2)=true)(hln:ln < 900000→ln=80):BufOk (C3 L) t 5 k 93 999998 81 ln where
 ws0:=fun n p s m hp hm h hs=>by
  rw [Zav (by kernel_rfl)]
  show wsO 93 [.ptr p 0,.str s] hp=_
  have hb:Pn hp[p]? = some ([],t,m.map (.int .i64)):=by
   rw [h]
   show (if IJ t ((m.map (AV.int .i64)).length + 2)=true∧(m.map (AV.int .i64)).all AV.flat1=true then _ else _)=_
   rw [List.length_map,hm,if_pos ⟨hT,(OQ m).1⟩]
  simp only [wsO,if_true,hb,List.length_nil,Nat.zero_add,if_pos hs,List.nil_append]
 ws1:=fun n p s l m hp hm h hs=>by
  rw [Zav (by kernel_rfl)]
  show wsO 93 [.ptr p 0,.str s] hp=_
  have hb:Pn hp[p]? = some (l,t,m.map (.int .i64)):=by
   rw [h]
   show (if IJ t ((m.map (AV.int .i64)).length + 2)=true∧(5:Nat)=5 then _ else _)=_
   rw [List.length_map,hm,if_pos ⟨hT,rfl⟩]
  simp only [wsO,if_true,hb,if_pos hs]
 wb0:=fun h=>absurd h (by decide)
 wb1:=fun h=>absurd h (by decide)
 sb0:=fun n p m hp hm h=>by
  rw [Zav (by kernel_rfl)]
  show Zc5 81 [.ptr p 0] hp=_
  simp only [Zc5,if_true,h]
 sb1:=fun p l m hp hm h hl=>⟨.cells (.ptr p 0 :: .lst 1 (l.map byteRow) :: m.map (.int .i64)) t,fun n=>by
  rw [Zav (by kernel_rfl)]
  show Zc5 81 [.ptr p 0] hp=_
  simp only [Zc5,if_true,h,ZeM,ne_eq,hl,not_false_eq_true,and_self,(OQ m).2]⟩
 ln0:=fun hl n p m hp hm h=>by
  obtain rfl:=hln hl
  rw [Zav (by kernel_rfl)]
  show Zcv 80 [.ptr p 0] hp=_
  have hb:Pn hp[p]? = some ([],t,m.map (.int .i64)):=by
   rw [h]
   show (if IJ t ((m.map (AV.int .i64)).length + 2)=true∧(m.map (AV.int .i64)).all AV.flat1=true then _ else _)=_
   rw [List.length_map,hm,if_pos ⟨hT,(OQ m).1⟩]
  simp only [Zcv,if_true,hb,List.length_nil]; rfl
 ln1:=fun hl n p l m hp hm h hl2=>by
  obtain rfl:=hln hl
  rw [Zav (by kernel_rfl)]
  show Zcv 80 [.ptr p 0] hp=_
  have hb:Pn hp[p]? = some (l,t,m.map (.int .i64)):=by
   rw [h]
   show (if IJ t ((m.map (AV.int .i64)).length + 2)=true∧(5:Nat)=5 then _ else _)=_
   rw [List.length_map,hm,if_pos ⟨hT,rfl⟩]
  simp only [Zcv,if_true,hb]
theorem ZeQ (L:Nat):St (C3 L) L where
 L:=rfl
 G:=Zfz
 T:=fun f a h=>h
 grow:=fun m n hp h1 h2=>by
  rw [Zav (by kernel_rfl)]
  show (if (2:Nat)=2∧0≤n∧n.toNat * 24≤140737488355328∧n.toNat≤140737488355328 then some (AV.own 2 [],hp,none) else none)=(some (AV.own 2 [],hp,none):Option (AV×List AObj×Eff))
  rw [if_pos ⟨rfl,h1,by omega,by omega⟩]
 awake:=fun m hp=>by rw [Zav (by kernel_rfl)]; rfl
 text:=fun m n hp h=>by
  rw [Zav (by kernel_rfl)]
  show Option.map (fun v=>(v,hp,none)) (if -9223372036854775808≤n∧n≤9223372036854775807 then some (AV.str (Lib.itoa n)) else none)=_
  rw [if_pos h]; rfl
 rtext:=fun m n hp h=>by
  rw [Zav (by kernel_rfl)]
  show Option.map (fun v=>(v,hp,none)) (if -9223372036854775808≤n∧n≤9223372036854775807 then some (AV.str (Lib.itoa n)) else none)=_
  rw [if_pos h]; rfl
 join:=fun m a l s hp ha h=>by
  rw [Zav (by kernel_rfl)]
  show Option.map (fun v=>(v,hp,none)) (orJ 95 [a,.str s])=_
  have:orJ 95 [a,.str s]=some (.str (Lib.join l s)):=by
   unfold orJ
   rw [if_pos rfl]
   simp only [ha,F7,if_pos h]
  rw [this]; rfl
 rep:=fun m s n hp h1 h2 h3=>by
  rw [Zav (by kernel_rfl)]
  show Option.map (fun v=>(v,hp,none)) (orR 94 [.str s,.int .i64 n])=_
  have:orR 94 [.str s,.int .i64 n]=some (.str (Lib.repeatL s n.toNat)):=by
   unfold orR
   rw [if_pos rfl]
   simp only [if_pos (show 0≤n∧n≤9223372036854775807∧s.length * n.toNat≤140737488355328 from ⟨h1,h2,h3⟩)]
  rw [this]; rfl
 buf0:=Za1 L 80 0 999999 rfl fun h=>absurd h (by decide)
 buf1:=Za1 L 82 1 80 rfl fun _=>rfl
theorem ZcV {C:Cfg}{f:FuncId}{sig:List SD}{q:RTy tT sig→Option Bool}(h:SumOk C ⟨f,sig,fun x=>.par ((.one .bool:RD).Ty tT) (q x) ((.one .bool:RD).tv tT)⟩)(x:RTy tT sig)(avs:List AV)(hl:LR [] (tvL tT sig x) avs)(hq:q x=some true):∃ n,evalCall C n f avs []=some (.bool true,[],none):=by
 obtain ⟨a,h1,n,h2⟩:=h x [] avs hl true hq
 have h3:=h1 []
 have:a=.bool true:=by
  cases h3 with | av v a h =>
   rcases h with h | h
   ·exact h
   ·cases a <;> cases h; rfl
 subst this
 exact ⟨n,h2 n (Nat.le_refl _)⟩
theorem ZeV {H:Type}{t:TypeId}{c0:List AV}{d0:DataW H}(S0:Jd Tryz.prog t c0 d0)(ht:ZaT.contains t=true)(hk:Rows.uptoBulkAll ([d0] ++ ([]:List (DataW H)))≤1048576):bkL c0≤1048576:=by
 have hk':Rows.uptoBulk d0≤1048576:=by simpa [Rows.uptoBulkAll] using hk
 exact Nat.le_trans (Zcg Az S0 ht) hk'
theorem Za0:∀ l:List Zd,l.length≤bkR (l.map Wj)
 | []=>Nat.le_refl _
 | x :: l=>by
  have h1:=Si x; have h2:=Za0 l
  rw [List.map_cons,bkR,List.length_cons]; omega
theorem Zbk {α:Type}{r:α→List AV}{Ok:α→Prop}:∀ {rows:List (List AV)},(∀ c ∈ rows,∃ x,c=r x∧Ok x)→∃ l:List α,rows=l.map r∧∀ x ∈ l,Ok x
 | [],_=>⟨[],rfl,fun x hx=>by cases hx⟩
 | c :: rows,h=>by
  obtain ⟨x,e,hx⟩:=h c (List.mem_cons_self ..)
  obtain ⟨l,e',hl⟩:=Zbk fun c hc=>h c (List.mem_cons_of_mem _ hc)
  exact ⟨x :: l,by rw [e,e']; rfl,fun y hy=>by rcases List.mem_cons.1 hy with rfl | hy; exact hx; exact hl y hy⟩
theorem ZcH {H:Type}{c0:List (List AV)}{d0:DataW H}(S0:Jd Tryz.prog 32 [.lst 21 c0] d0)(hk:Rows.uptoBulkAll ([d0] ++ ([]:List (DataW H)))≤1048576)(v0:Value)(w:World)(hG:GOk GF w)(hL:Num.Laid w)(hR0:Rep still w (.lst 21 c0) v0) :
  Calls Tryz.prog Kq #[v0] w fun e w'=>e=.returned (.bool true)∧Below w.heap.size w w':=by
 obtain ⟨rows,e0,hn,hm⟩:=S0.of.toSlice Tryz.underlying32
 rw [show Tryz.prog.cellsOf 63=21 from by kernel_rfl] at e0
 injection e0 with e1 _
 injection e1 with _ e2
 subst e2
 obtain ⟨l,rfl,hl⟩:=Zbk (r := Wj) (Ok := ZB) fun r hr=>SG _ (Nat.le_refl _) (hm r hr)
 have hb0:bkL [AV.lst 21 (l.map Wj)]≤1048576:=ZeV S0 rfl hk
 have hb:bkR (l.map Wj)≤1048576:=by simp only [bkL,bkA] at hb0; omega
 have hlen:=Za0 l
 have ok:MM l:=⟨by omega,hl⟩
 obtain ⟨n,hn⟩:=ZcV (Gi (ZeQ (1001 + 3 * SizeOf.sizeOf l))) (l,()) [.lst 21 (l.map Wj)] (.cons _ _ (VR.lst (T := tT) 21 (.row 9) l _ rfl) _ _ .nil) (IU _ (by omega) l ok (by omega) (Zci l hl hb))
 refine law_of (ZeR hG hL _) hn rfl fun j x hx=>?_
 match j,hx with
 | 0,hx=>cases hx; exact ⟨hR0,fun k r e=>by cases e⟩
end Go.Proofs.YtbcfddaocfpckaaGreatDoor
end
