import Derived.Test.YtbcfddaocfpckaaGreatDoorHMo17
set_option linter.all false
open List renaming length_map→dF,length_nil→az
section
namespace Go.Proofs.YtbcfddaocfpckaaGreatDoor
open Go Go.RowKit Go.Shelf Abs Tl
set_option maxRecDepth 100000
abbrev Tryz.grow_ren:Ren:=⟨fun|4=>302|n=>n,fun|22=>87|25=>244|n=>n,fun|n=>n⟩
theorem Tryz.grow_lays:Lays8.n4 Tryz.prog Tryz.grow_ren where
 mixed:=by kernel_rfl
 f4:=⟨ "slices.Grow[[]simulator/api.Field,simulator/api.Field]",by decide,Tryz.func302.trans (congrArg some (by kernel_rfl))⟩
 t0:=Tryz.underlying0
 a0:=Tryz.isAgg0
 z0:=Tryz.sizeOf0
 v0:=Tryz.zeroValue0
 t3:=Tryz.underlying3
 a3:=Tryz.isAgg3
 z3:=Tryz.sizeOf3
 v3:=Tryz.zeroValue3
 t4:=Tryz.underlying4
 a4:=Tryz.isAgg4
 z4:=Tryz.sizeOf4
 v4:=Tryz.zeroValue4
 t9:=Tryz.underlying9
 a9:=Tryz.isAgg9
 z9:=Tryz.sizeOf9
 v9:=Tryz.zeroValue9
 t20:=Tryz.underlying20
 a20:=Tryz.isAgg20
 z20:=Tryz.sizeOf20
 v20:=Tryz.zeroValue20
 t22:=Tryz.underlying87
 a22:=Tryz.isAgg87
 z22:=Tryz.sizeOf87
 v22:=Tryz.zeroValue87
theorem ZmI (W0:World):CallSpec Tryz.prog W0 (ZjL 302 2 24):=by
 obtain ⟨i,h1,h2⟩:∃i:TypeInfo,Tryz.prog.info? 244=some i∧i.size=2∧i.bytes=24∧∃z,i.zero=some z∧z.cells.size=2:=⟨_,rfl,rfl,rfl,_,rfl,rfl⟩
 obtain ⟨h2,h3,z,h4,h5⟩:=h2
 have:=Ziv (W0 := W0) Tryz.grow_lays (i0 := i) (z := z) h1 h4 (by rw [h5,h2]) (by omega)
 rw [h2,h3] at this
 exact this
def orK (f:FuncId)(args:List AV):Option AV:=if f=G7 then (match args with | []=>some (.bool true)|_=>none) else none
theorem ZmK {W0:World}(hL:Num.Laid W0):∀f args v,orK f args=some v→OracleOk Tryz.prog W0 f args v:=by
 intro f args v h
 unfold orK at h
 split at h
 ·rename_i e;subst e
  split at h<;>cases h
  refine ⟨fun _ _ h=>(by cases h),fun Γ w xs hb hΓ hs hx=>?_⟩
  have hxs:xs=#[]:=Array.eq_empty_of_size_eq_zero hs
  subst hxs
  refine went_of_calls Tryz.func11 (by kernel_rfl) rfl ((Zln (hL.below hb)).mono ?_)
  rintro e w' ⟨rfl,hb'⟩
  exact ⟨_,rfl,hb',.bool true⟩
 ·cases h
def orT (f:FuncId)(args:List AV):Option AV:=if f=44∨f=49 then (match args with
 | [.int .i64 n]=>if -9223372036854775808≤n∧n≤9223372036854775807 then some (.str (Lib.itoa n)) else none
 |_=>none) else none
theorem ZmM {W0:World}(hL:Num.Laid W0):∀f args v,orT f args=some v→OracleOk Tryz.prog W0 f args v:=by
 intro f args v h
 unfold orT at h
 split at h
 ·rename_i e
  split at h
  ·rename_i n
   split at h<;>cases h
   rename_i hn
   refine ⟨fun _ _ h=>(by cases h),fun Γ w xs hb hΓ hs hx=>?_⟩
   obtain ⟨x,rfl⟩:=xs1 hs
   obtain rfl:x=_:=ZfA (hx 0 _ rfl)
   rcases e with rfl|rfl
   ·refine went_of_calls Tryz.func44 (by kernel_rfl) rfl ((Num.c_text n hn.1 hn.2 w (hL.below hb)).mono ?_)
    rintro e w' ⟨rfl,hb'⟩
    exact ⟨_,rfl,hb',.str _⟩
   ·refine went_of_calls Tryz.func49 (by kernel_rfl) rfl ((Num.c_rtext _ n w (Nat.le_refl _) hn.1 hn.2).mono ?_)
    rintro e w' ⟨rfl,rfl⟩
    exact ⟨_,rfl,Below.refl _ _,.str _⟩
  ·cases h
 ·cases h
noncomputable def O3 (f:FuncId)(args:List AV)(hp:List AObj):Option (AV×List AObj×Eff) :=
 if f=11 then (orK f args).map fun v=>(v,hp,none)
 else if f=93 then wsO f args hp
 else if f=81 then ZkV f args hp
 else if f=80 then ZkI f args hp
 else if f=95 then (orJ f args).map fun v=>(v,hp,none)
 else if f=94 then (orR f args).map fun v=>(v,hp,none)
 else if f=44∨f=49 then (orT f args).map fun v=>(v,hp,none)
 else ZjL 302 2 24 f args hp
theorem ZnM {W0:World}(hL:Num.Laid W0):CallSpec Tryz.prog W0 O3:=by
 intro f args hp v hp' e ho Γ w xs hr ht hs hx
 unfold O3 at ho
 split at ho
 ·exact spec_of_oracles (ZmK hL) f args hp v hp' e ho Γ w xs hr ht hs hx
 split at ho
 ·exact Zlg W0 f args hp v hp' e ho Γ w xs hr ht hs hx
 split at ho
 ·exact Zjm W0 f args hp v hp' e ho Γ w xs hr ht hs hx
 split at ho
 ·exact Zi3 W0 f args hp v hp' e ho Γ w xs hr ht hs hx
 split at ho
 ·exact spec_of_oracles (ZkM W0) f args hp v hp' e ho Γ w xs hr ht hs hx
 split at ho
 ·exact spec_of_oracles (ZkN W0) f args hp v hp' e ho Γ w xs hr ht hs hx
 split at ho
 ·exact spec_of_oracles (ZmM hL) f args hp v hp' e ho Γ w xs hr ht hs hx
 ·exact ZmI W0 f args hp v hp' e ho Γ w xs hr ht hs hx
noncomputable def C3 (L:Nat):Cfg:=⟨GF,cT,O3,L+64⟩
theorem ZnK {W0:World}(hG:GOk GF W0)(hL:Num.Laid W0)(L:Nat):CfgOk Tryz.prog W0 (C3 L) where
 mixed:=by kernel_rfl
 globals:=hG
 table:=fun f af h=>by
  have h:(tab.find? (·.1==f)).map (·.2)=some af:=h
  obtain ⟨p,hp,rfl⟩:=Option.map_eq_some_iff.1 h
  have hf:=List.find?_some hp
  have:p.1=f:=by simpa using hf
  subst this
  exact ZkY p (List.mem_of_find?_eq_some hp)
 oracle:=ZnM hL
theorem ZhO {L n:Nat}{f:FuncId}{args:List AV}{hp:List AObj}(h:(cT f).isNone=true):evalCall (C3 L) (n+1) f args hp=O3 f args hp:=by
 rw [evalCall]
 show (match cT f with|some fn=>_|none=>O3 f args hp)=_
 rw [Option.isNone_iff_eq_none.1 h]
theorem Au (m:List Int):(m.map (AV.int .i64)).all AV.flat1=true∧(m.map (AV.int .i64)).all AV.one=true:=by
 constructor<;>simp [AV.flat1,AV.one]
theorem ZhT (L:Nat)(t k ln:Nat)(hT:Eb t (k+2)=true)(hln:ln<900000→ln=80):BufOk (C3 L) t 5 k 93 999998 81 ln where
 ws0:=fun n p s m hp hm h hs=>by
  rw [ZhO (by kernel_rfl)]
  show wsO 93 [.ptr p 0,.str s] hp=_
  have hb:Zdc hp[p]? = some ([],t,m.map (.int .i64)):=by
   rw [h]
   show (if Eb t ((m.map (AV.int .i64)).length+2)=true∧(m.map (AV.int .i64)).all AV.flat1=true then _ else _)=_
   rw [dF,hm,if_pos ⟨hT,(Au m).1⟩]
  simp only [wsO,if_true,hb,az,Nat.zero_add,if_pos hs,List.nil_append]
 ws1:=fun n p s l m hp hm h hs=>by
  rw [ZhO (by kernel_rfl)]
  show wsO 93 [.ptr p 0,.str s] hp=_
  have hb:Zdc hp[p]? = some (l,t,m.map (.int .i64)):=by
   rw [h]
   show (if Eb t ((m.map (AV.int .i64)).length+2)=true∧(5:Nat)=5 then _ else _)=_
   rw [dF,hm,if_pos ⟨hT,rfl⟩]
  simp only [wsO,if_true,hb,if_pos hs]
 wb0:=fun h=>absurd h (by decide)
 wb1:=fun h=>absurd h (by decide)
 sb0:=fun n p m hp hm h=>by
  rw [ZhO (by kernel_rfl)]
  show ZkV 81 [.ptr p 0] hp=_
  simp only [ZkV,if_true,h]
 sb1:=fun p l m hp hm h hl=>⟨.cells (.ptr p 0::.lst 1 (l.map byteRow)::m.map (.int .i64)) t,fun n=>by
  rw [ZhO (by kernel_rfl)]
  show ZkV 81 [.ptr p 0] hp=_
  simp only [ZkV,if_true,h,ZnD,ne_eq,hl,not_false_eq_true,and_self,(Au m).2]⟩
 ln0:=fun hl n p m hp hm h=>by
  obtain rfl:=hln hl
  rw [ZhO (by kernel_rfl)]
  show ZkI 80 [.ptr p 0] hp=_
  have hb:Zdc hp[p]? = some ([],t,m.map (.int .i64)):=by
   rw [h]
   show (if Eb t ((m.map (AV.int .i64)).length+2)=true∧(m.map (AV.int .i64)).all AV.flat1=true then _ else _)=_
   rw [dF,hm,if_pos ⟨hT,(Au m).1⟩]
  simp only [ZkI,if_true,hb,az];rfl
 ln1:=fun hl n p l m hp hm h hl2=>by
  obtain rfl:=hln hl
  rw [ZhO (by kernel_rfl)]
  show ZkI 80 [.ptr p 0] hp=_
  have hb:Zdc hp[p]? = some (l,t,m.map (.int .i64)):=by
   rw [h]
   show (if Eb t ((m.map (AV.int .i64)).length+2)=true∧(5:Nat)=5 then _ else _)=_
   rw [dF,hm,if_pos ⟨hT,rfl⟩]
  simp only [ZkI,if_true,hb]
theorem ZnJ (L:Nat):St (C3 L) L where
 L:=rfl
 G:=Zo6
 T:=fun f a h=>h
 grow:=fun m n hp h1 h2=>by
  rw [ZhO (by kernel_rfl)]
  show (if (2:Nat)=2∧0≤n∧n.toNat*24≤140737488355328∧n.toNat≤140737488355328 then some (AV.own 2 [],hp,none) else none)=(some (AV.own 2 [],hp,none):Option (AV×List AObj×Eff))
  rw [if_pos ⟨rfl,h1,by omega,by omega⟩]
 awake:=fun m hp=>by rw [ZhO (by kernel_rfl)];rfl
 text:=fun m n hp h=>by
  rw [ZhO (by kernel_rfl)]
  show Option.map (fun v=>(v,hp,none)) (if -9223372036854775808≤n∧n≤9223372036854775807 then some (AV.str (Lib.itoa n)) else none)=_
  rw [if_pos h];rfl
 rtext:=fun m n hp h=>by
  rw [ZhO (by kernel_rfl)]
  show Option.map (fun v=>(v,hp,none)) (if -9223372036854775808≤n∧n≤9223372036854775807 then some (AV.str (Lib.itoa n)) else none)=_
  rw [if_pos h];rfl
 join:=fun m a l s hp ha h=>by
  rw [ZhO (by kernel_rfl)]
  show Option.map (fun v=>(v,hp,none)) (orJ 95 [a,.str s])=_
  have:orJ 95 [a,.str s]=some (.str (Lib.join l s)):=by
   unfold orJ
   rw [if_pos rfl]
   simp only [ha,ZgO,if_pos h]
  rw [this];rfl
 rep:=fun m s n hp h1 h2 h3=>by
  rw [ZhO (by kernel_rfl)]
  show Option.map (fun v=>(v,hp,none)) (orR 94 [.str s,.int .i64 n])=_
  have:orR 94 [.str s,.int .i64 n]=some (.str (Lib.repeatL s n.toNat)):=by
   unfold orR
   rw [if_pos rfl]
   simp only [if_pos (show 0≤n∧n≤9223372036854775807∧s.length*n.toNat≤140737488355328 from ⟨h1,h2,h3⟩)]
  rw [this];rfl
 buf0:=ZhT L 80 0 999999 rfl fun h=>absurd h (by decide)
 buf1:=ZhT L 82 1 80 rfl fun _=>rfl
theorem Zl1 {C:Cfg}{f:FuncId}{sig:List SD}{q:RTy tT sig→Option Bool}(h:SumOk C ⟨f,sig,fun x=>.par ((.one .bool:RD).Ty tT) (q x) ((.one .bool:RD).tv tT)⟩)(x:RTy tT sig)(avs:List AV)(hl:LR [] (tvL tT sig x) avs)(hq:q x=some true):∃n,evalCall C n f avs []=some (.bool true,[],none):=by
 obtain ⟨a,h1,n,h2⟩:=h x [] avs hl true hq
 have h3:=h1 []
 have:a=.bool true:=by
  cases h3 with|av v a h =>
   rcases h with h|h
   ·exact h
   ·cases a<;>cases h;rfl
 subst this
 exact ⟨n,h2 n (Nat.le_refl _)⟩
theorem ZmG {k:Nat}(x:tT.D k){l:List (TV tT)}{cs:List AV}(h:LR [] l cs):LR [] (.row k x::l) (.agg (tT.row k x)::cs):=.cons _ _ (.row k x _ (ZE.ro k x)) _ _ h
theorem ZnR {H:Type}{t:TypeId}{c0:List AV}{d0:DataW H}(S0:Og Tryz.prog t c0 d0)(ht:ZiC.contains t=true)(hk:Rows.uptoBulkAll ([d0]++([]:List (DataW H)))≤1048576):bkL c0≤1048576:=by
 have hk':Rows.uptoBulk d0≤1048576:=by simpa [Rows.uptoBulkAll] using hk
 exact Nat.le_trans (Zk2 Zgz S0 ht) hk'
theorem ZjG {H:Type}{c0:List AV}{d0:DataW H}(S0:Og Tryz.prog 40 c0 d0)(hk:Rows.uptoBulkAll ([d0]++([]:List (DataW H)))≤1048576)(v0:Value)(w:World)(hG:GOk GF w)(hL:Num.Laid w)(hR0:Rep still w (.agg c0) v0) :
  Calls Tryz.prog Rf #[v0] w fun e w'=>e=.returned (.bool true)∧Below w.heap.size w w':=by
 obtain ⟨m,rfl,hm⟩:=ZjZ S0.of
 have hb:=ZjV m hm (ZnR S0 rfl hk)
 obtain ⟨n,hn⟩:=Zl1 (RV (ZnJ (1001+3*SizeOf.sizeOf m))) (m,()) [.agg (Cc m)] (ZmG (k := 16) m .nil) (PY _ (by omega) m hm (by omega) hb)
 refine law_of (ZnK hG hL _) hn rfl fun j x hx=>?_
 match j,hx with
 |0,hx=>cases hx;exact ⟨hR0,fun k r e=>by cases e⟩
end Go.Proofs.YtbcfddaocfpckaaGreatDoor
end
