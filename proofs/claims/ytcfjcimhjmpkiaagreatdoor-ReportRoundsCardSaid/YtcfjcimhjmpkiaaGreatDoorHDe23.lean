import Derived.Test.YtcfjcimhjmpkiaaGreatDoorHDe22
set_option linter.all false
section
namespace Go.Proofs.YtcfjcimhjmpkiaaGreatDoor
open Go Go.RowKit Go.Shelf Go.Proofs.YtcfjcimhjmpkiaaGreatDoor.Abs Go.Proofs.YtcfjcimhjmpkiaaGreatDoor.Tl
set_option maxRecDepth 100000
def F7 (f:FuncId)(args:List AV):Option AV:=if f=We then (match args with | []=>some (.bool true) | _=>none) else none
theorem NS {W0:World}(hL:Num.Laid W0):∀ f args v,F7 f args=some v→OracleOk Tryz.prog W0 f args v:=by
 intro f args v h
 unfold F7 at h
 split at h
 ·rename_i e; subst e
  split at h <;> cases h
  refine ⟨fun _ _ h=>(by cases h),fun Γ w xs hb hΓ hs hx=>?_⟩
  have hxs:xs=#[]:=Array.eq_empty_of_size_eq_zero hs
  subst hxs
  refine went_of_calls Tryz.func12 (by kernel_rfl) rfl ((Dt (hL.below hb)).mono ?_)
  rintro e w' ⟨rfl,hb'⟩
  exact ⟨_,rfl,hb',.bool true⟩
 ·cases h
def Ce (f:FuncId)(args:List AV):Option AV:=if f=26∨f=29 then (match args with
 | [.int .i64 n]=>if -9223372036854775808≤n∧n≤9223372036854775807 then some (.str (Lib.itoa n)) else none
 | _=>none) else none
theorem NW {W0:World}(hL:Num.Laid W0):∀ f args v,Ce f args=some v→OracleOk Tryz.prog W0 f args v:=by
 intro f args v h
 unfold Ce at h
 split at h
 ·rename_i e
  split at h
  ·rename_i n
   split at h <;> cases h
   rename_i hn
   refine ⟨fun _ _ h=>(by cases h),fun Γ w xs hb hΓ hs hx=>?_⟩
   obtain ⟨x,rfl⟩:=CV hs
   obtain rfl:x=_:=XA (hx 0 _ rfl)
   rcases e with rfl | rfl
   ·refine went_of_calls Tryz.func26 (by kernel_rfl) rfl ((Num.c_text n hn.1 hn.2 w (hL.below hb)).mono ?_)
    rintro e w' ⟨rfl,hb'⟩
    exact ⟨_,rfl,hb',.str _⟩
   ·refine went_of_calls Tryz.func29 (by kernel_rfl) rfl ((Num.c_rtext _ n w (Nat.le_refl _) hn.1 hn.2).mono ?_)
    rintro e w' ⟨rfl,rfl⟩
    exact ⟨_,rfl,Below.refl _ _,.str _⟩
  ·cases h
 ·cases h
def O5 (f:FuncId)(args:List AV):Option AV :=
 if f=12 then F7 f args
 else if f=27 then Cb f args
 else if f=88 then F9 f args
 else if f=136 then F8 f args
 else Ce f args
theorem Ei {W0:World}(hL:Num.Laid W0):∀ f args v,O5 f args=some v→OracleOk Tryz.prog W0 f args v:=by
 intro f args v ho
 unfold O5 at ho
 split at ho
 ·exact NS hL f args v ho
 split at ho
 ·exact BH W0 f args v ho
 split at ho
 ·exact BG W0 f args v ho
 split at ho
 ·exact BF W0 f args v ho
 ·exact NW hL f args v ho
noncomputable def C5 (L:Nat):Cfg:=⟨GF,cT,fun f args hp=>(O5 f args).map fun v=>(v,hp,none),L + 64⟩
theorem Eh {W0:World}(hL:Num.Laid W0)(L:Nat):CfgOk Tryz.prog W0 (C5 L) where
 mixed:=by kernel_rfl
 globals:=fun g cells h=>by cases h
 table:=fun f af h=>by
  have h:(tab.find? (·.1 == f)).map (·.2)=some af:=h
  obtain ⟨p,hp,rfl⟩:=Option.map_eq_some_iff.1 h
  have hf:=List.find?_some hp
  have:p.1=f:=by simpa using hf
  subst this
  exact BQ p (List.mem_of_find?_eq_some hp)
 oracle:=spec_of_oracles (Ei hL)
theorem PY {L n:Nat}{f:FuncId}{args:List AV}{hp:List AObj}(h:(cT f).isNone=true):evalCall (C5 L) (n + 1) f args hp=(O5 f args).map fun v=>(v,hp,none):=by
 rw [evalCall]
 show (match cT f with | some fn=>_ | none=>(O5 f args).map fun v=>(v,hp,none))=_
 rw [Option.isNone_iff_eq_none.1 h]
theorem Aw {a:Nat}(h:a < 18446744073709551616):(64:Int) - (Lib.bitLen a:Int)=((64 - Lib.bitLen a:Nat):Int):=by
 have:=Any.bitLen_le64 (a:Int) (by omega) (by omega)
 rw [Int.toNat_natCast] at this
 omega
theorem NU {a b:Nat}(ha:a < 18446744073709551616)(hb:b < 18446744073709551616):O5 88 [.int .u64 a,.int .u64 b]=some (.tup [.int .u64 ((a * b / 18446744073709551616:Nat):Int),.int .u64 ((a * b % 18446744073709551616:Nat):Int)]):=by
 have e:O5 88 [.int .u64 a,.int .u64 b]=if 0≤(a:Int)∧(a:Int) < 18446744073709551616∧0≤(b:Int)∧(b:Int) < 18446744073709551616 then some (.tup [.int .u64 (((a:Int).toNat * (b:Int).toNat / 18446744073709551616:Nat):Int),.int .u64 (((a:Int).toNat * (b:Int).toNat % 18446744073709551616:Nat):Int)]) else none:=by
  unfold O5
  rw [if_neg (by decide),if_neg (by decide),if_pos rfl]
  unfold F9
  rw [if_pos rfl]
 rw [e,if_pos ⟨Int.natCast_nonneg a,by omega,Int.natCast_nonneg b,by omega⟩,Int.toNat_natCast,Int.toNat_natCast]
theorem NT {a:Nat}(ha:a < 18446744073709551616):O5 136 [.int .u64 a]=some (.int .i64 ((64 - Lib.bitLen a:Nat):Int)):=by
 have e:O5 136 [.int .u64 a]=if 0≤(a:Int)∧(a:Int) < 18446744073709551616 then some (.int .i64 (64 - (Lib.bitLen (a:Int).toNat:Int))) else none:=by
  unfold O5
  rw [if_neg (by decide),if_neg (by decide),if_neg (by decide),if_pos rfl]
  unfold F8
  rw [if_pos rfl]
 rw [e,if_pos ⟨Int.natCast_nonneg a,by omega⟩,Int.toNat_natCast,Aw ha]
theorem Nc (L:Nat):St (C5 L) L where
 L:=rfl
 G:=EY
 T:=fun f a h=>h
 awake:=fun m hp=>by rw [PY (by kernel_rfl)]; rfl
 text:=fun m n hp h=>by
  rw [PY (by kernel_rfl)]
  show Option.map (fun v=>(v,hp,none)) (if -9223372036854775808≤n∧n≤9223372036854775807 then some (AV.str (Lib.itoa n)) else none)=_
  rw [if_pos h]; rfl
 rtext:=fun m n hp h=>by
  rw [PY (by kernel_rfl)]
  show Option.map (fun v=>(v,hp,none)) (if -9223372036854775808≤n∧n≤9223372036854775807 then some (AV.str (Lib.itoa n)) else none)=_
  rw [if_pos h]; rfl
 rep:=fun m s n hp h1 h2 h3=>by
  rw [PY (by kernel_rfl)]
  show Option.map (fun v=>(v,hp,none)) (if 0≤n∧n≤9223372036854775807∧s.length * n.toNat≤140737488355328 then some (AV.str (Lib.repeatL s n.toNat)) else none)=_
  rw [if_pos ⟨h1,h2,h3⟩]; rfl
 mul64:=fun m a b hp h1 h2=>by
  rw [PY (by kernel_rfl)]
  rw [NU h1 h2]; rfl
 lz:=fun m a hp h1=>by
  rw [PY (by kernel_rfl)]
  rw [NT h1]; rfl
theorem Tq {C:Cfg}{f:FuncId}{sig:List SD}{q:AL tT sig→Option Bool}(h:QZ C ⟨f,sig,fun x=>.par ((.one .bool:RD).Ty tT) (q x) ((.one .bool:RD).tv tT)⟩)(x:AL tT sig)(avs:List AV)(hl:LR [] (CG tT sig x) avs)(hq:q x=some true):∃ n,evalCall C n f avs []=some (.bool true,[],none):=by
 obtain ⟨a,h1,n,h2⟩:=h x [] avs hl true hq
 have h3:=h1 []
 have:a=.bool true:=by
  cases h3 with | av v a h =>
   rcases h with h | h
   ·exact h
   ·cases a <;> cases h; rfl
 subst this
 exact ⟨n,h2 n (Nat.le_refl _)⟩
end Go.Proofs.YtcfjcimhjmpkiaaGreatDoor
end
section
namespace Go.Proofs.YtcfjcimhjmpkiaaGreatDoor
open Go Go.RowKit Go.Proofs.YtcfjcimhjmpkiaaGreatDoor.Abs Go.Proofs.YtcfjcimhjmpkiaaGreatDoor.Tl
set_option maxRecDepth 100000
theorem BC {k:Nat}(x:tT.D k){l:List (TV tT)}{cs:List AV}(h:LR [] l cs):LR [] (.row k x :: l) (.agg (tT.row k x) :: cs):=.cons _ _ (.row k x _ (PG.ro k x)) _ _ h
theorem BB (n:Int):LR (T := tT) [] [.av (.int .i64 n)] [.int .i64 n]:=.cons _ _ (.av _ _ (.inl rfl)) _ _ .nil
theorem Hw {x:Zl}{x1:Int}{f:FuncId}{n L:Nat}{v0:Value}{W:World}(hL:Num.Laid W)(R0:Rep still W (.agg (Kv x)) v0)(hn:evalCall (C5 L) n f [.agg (Kv x),.int .i64 x1] []=some (.bool true,[],none)) :
  Calls Tryz.prog f #[v0,.int .i64 x1] W fun e W'=>e=.returned (.bool true)∧Below W.heap.size W W':=by
 refine law_of (Eh hL _) hn rfl fun j y hy=>?_
 match j,hy with
 | 0,hy=>cases hy; exact ⟨R0,fun k r e=>by cases e⟩
 | 1,hy=>cases hy; exact ⟨.int _ _,fun k r e=>by cases e⟩
theorem IG {H:Type}{c0:List AV}{d0:DataW H}(S0:X3 Tryz.prog 23 c0 d0)(x1:Int)(v0:Value)(W:World)(hL:Num.Laid W)(R0:Rep still W (.agg c0) v0) :
  Calls Tryz.prog WE #[v0,.int .i64 x1] W fun e W'=>e=.returned (.bool true)∧Below W.heap.size W W':=by
 obtain ⟨x,rfl,ok⟩:=TK S0.of
 obtain ⟨n,hn⟩:=Tq (WI (Nc 2000000000000000)) (x,x1,()) [.agg (Kv x),.int .i64 x1] (BC (k := 0) x (BB x1)) (JW (by decide) ok.N ok.D)
 exact Hw hL R0 hn
theorem L6 {H:Type}{c0:List AV}{d0:DataW H}(S0:X3 Tryz.prog 23 c0 d0)(x1:Int)(v0:Value)(W:World)(hL:Num.Laid W)(R0:Rep still W (.agg c0) v0) :
  Calls Tryz.prog Qo #[v0,.int .i64 x1] W fun e W'=>e=.returned (.bool true)∧Below W.heap.size W W':=by
 obtain ⟨x,rfl,ok⟩:=TK S0.of
 obtain ⟨n,hn⟩:=Tq (Qs (Nc 2000000000000000)) (x,x1,()) [.agg (Kv x),.int .i64 x1] (BC (k := 0) x (BB x1)) (GM (by decide) ok.N ok.D)
 exact Hw hL R0 hn
end Go.Proofs.YtcfjcimhjmpkiaaGreatDoor
end
