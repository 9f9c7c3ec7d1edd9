import Derived.Test.YthkdlifcknpadaaGreatHSh22
set_option linter.all false
section
namespace Go.Proofs.YthkdlifcknpadaaGreat
open Go Go.RowKit Go.Shelf Go.Proofs.YthkdlifcknpadaaGreat.Abs Go.Proofs.YthkdlifcknpadaaGreat.Tl
set_option maxRecDepth 100000
abbrev Tryz.grow_ren:Ren:=⟨fun | 4=>135 | n=>n,fun | 22=>84 | 25=>89 | n=>n,fun | n=>n⟩
theorem Tryz.grow_lays:Lays8.n4 Tryz.prog Tryz.grow_ren where
 mixed:=by kernel_rfl
 f4:=⟨ "slices.Grow[[]simulator/api.Field,simulator/api.Field]",by decide,Tryz.func135.trans (congrArg some (by kernel_rfl))⟩
 t0:=Tryz.underlying0
 a0:=Tryz.isAgg0
 z0:=Tryz.sizeOf0
 v0:=Tryz.zeroValue0
 t3:=Tryz.underlying3
 a3:=Tryz.isAgg3
 z3:=Tryz.sizeOf3
 v3:=Tryz.zeroValue3
 t4:=Tryz.underlying4
 a4:=Tryz.isAgg4
 z4:=Tryz.sizeOf4
 v4:=Tryz.zeroValue4
 t9:=Tryz.underlying9
 a9:=Tryz.isAgg9
 z9:=Tryz.sizeOf9
 v9:=Tryz.zeroValue9
 t20:=Tryz.underlying20
 a20:=Tryz.isAgg20
 z20:=Tryz.sizeOf20
 v20:=Tryz.zeroValue20
 t22:=Tryz.underlying84
 a22:=Tryz.isAgg84
 z22:=Tryz.sizeOf84
 v22:=Tryz.zeroValue84
theorem ZnZ (W0:World):ZT Tryz.prog W0 (ZhV 135 2 24):=by
 obtain ⟨i,h1,h2⟩:∃ i:TypeInfo,Tryz.prog.info? 89=some i∧i.size=2∧i.bytes=24∧∃ z,i.zero=some z∧z.cells.size=2:=⟨_,rfl,rfl,rfl,_,rfl,rfl⟩
 obtain ⟨h2,h3,z,h4,h5⟩:=h2
 have:=ZjF (W0 := W0) Tryz.grow_lays (i0 := i) (z := z) h1 h4 (by rw [h5,h2]) (by omega)
 rw [h2,h3] at this
 exact this
theorem Ztm (W0:World):Zdf Tryz.prog W0 CW where
 mixed:=by kernel_rfl
 globals:=fun g cells h=>by cases h
 table:=fun f af h=>by
  have h:(ZsR.find? (·.1 == f)).map (·.2)=some af:=h
  obtain ⟨p,hp,rfl⟩:=Option.map_eq_some_iff.1 h
  have hf:=List.find?_some hp
  have:p.1=f:=by simpa using hf
  subst this
  exact Zlq p (List.mem_of_find?_eq_some hp)
 oracle:=ZnZ W0
def S9:AV→Bool
 | .own _ _=>true
 | _=>false
theorem Zmt {f:FuncId}{args:List AV}{v:AV}(h:isR f args v=true):Zy CW 60 f args []=some (v,[],none):=by
 unfold isR at h
 split at h
 ·rename_i u he
  rw [ZnK _ _ _ h]; exact he
 ·cases h
theorem ran {W0:World}{f:FuncId}{args:List AV}{v:AV}(h:isR f args v=true)(hv:v.flat1=true)(ha:args.all AV.apart=true)(ho:args.all (fun x=>!S9 x)=true){fn:Func}{c:Code}(hf:Tryz.prog.funcs[f]? = some fn)
  (hn:(fn.name == "runtime.NumGoroutine")=false) (hb:fn.body=some c):SV Tryz.prog W0 f args v:=by
 refine ⟨fun k r h=>(by subst h; cases hv),fun Γ w xs hb0 _ hs hx=>?_⟩
 refine DI hf hn hb ((ZgF (Ztm _) (Zmt h) hv hs fun j x hj=>⟨(hx j x hj).still' (List.all_eq_true.1 ha x (List.mem_of_getElem? hj)),fun k r e=>?_⟩).mono ?_)
 ·have:=List.all_eq_true.1 ho x (List.mem_of_getElem? hj)
  rw [e] at this
  cases this
 ·rintro e w' ⟨cv,rfl,hb',hr⟩
  exact ⟨cv,rfl,hb',Gq hr hv⟩
theorem Zpr {W0:World}:∀ f args v,Zpq f args=some v→SV Tryz.prog W0 f args v:=by
 intro f args v h
 unfold Zpq at h
 obtain ⟨e,he,rfl⟩:=Option.map_eq_some_iff.1 h
 have hm:=List.mem_of_find?_eq_some he
 have hq:=List.find?_some he
 simp only [Bool.and_eq_true,beq_iff_eq] at hq
 obtain ⟨rfl,hq⟩:=hq
 have ha:=Bz (ZnK 12) hq
 rw [← ha]
 simp only [Zr9,List.mem_cons,List.not_mem_nil,or_false] at hm
 rcases hm with rfl | rfl | rfl | rfl | rfl | rfl
 ·exact ran ZsG rfl rfl rfl Tryz.func7 (by kernel_rfl) rfl
 ·exact ran ZsH rfl rfl rfl Tryz.func7 (by kernel_rfl) rfl
 ·exact ran ZsI rfl rfl rfl Tryz.func7 (by kernel_rfl) rfl
 ·exact ran ZsJ rfl rfl rfl Tryz.func7 (by kernel_rfl) rfl
 ·exact ran ZsK rfl rfl rfl Tryz.func16 (by kernel_rfl) rfl
 ·exact ran ZsL rfl rfl rfl Tryz.func16 (by kernel_rfl) rfl
theorem Ztl (W0:World):Zdf Tryz.prog W0 CM where
 mixed:=by kernel_rfl
 globals:=fun g cells h=>by cases h
 table:=fun f af h=>by
  have h:(if [7,16].contains f then none else (ZsR.find? (·.1 == f)).map (·.2))=some af:=h
  split at h
  ·cases h
  obtain ⟨p,hp,rfl⟩:=Option.map_eq_some_iff.1 h
  have hf:=List.find?_some hp
  have:p.1=f:=by simpa using hf
  subst this
  exact Zlq p (List.mem_of_find?_eq_some hp)
 oracle:=OL Zpr
theorem Zmw {r:Option (AV×List Zh×Eff)}(h:isT r=true):∃ hp e,r=some (.bool true,hp,e):=by
 unfold isT at h
 split at h
 ·exact ⟨_,_,rfl⟩
 ·cases h
theorem ZoA (w:World):Calls Tryz.prog 6 #[] w fun e w'=>e=.returned (.bool true)∧Below w.heap.size w w':=by
 obtain ⟨hp,e,h⟩:=Zmw Zql
 exact ZsT (Ztl w) Tryz.func6 (by kernel_rfl) Zo0 h
def orK (f:FuncId)(args:List AV):Option AV:=if f=6 then (match args with | []=>some (.bool true) | _=>none) else none
theorem Zsf (W0:World):∀ f args v,orK f args=some v→SV Tryz.prog W0 f args v:=by
 intro f args v h
 unfold orK at h
 split at h
 ·rename_i e; subst e
  split at h <;> cases h
  refine ⟨fun _ _ h=>(by cases h),fun Γ w xs hb hΓ hs hx=>?_⟩
  have hxs:xs=#[]:=Array.eq_empty_of_size_eq_zero hs
  subst hxs
  refine DI Tryz.func6 (by kernel_rfl) rfl ((ZoA w).mono ?_)
  rintro e w' ⟨rfl,hb'⟩
  exact ⟨_,rfl,hb',.bool true⟩
 ·cases h
noncomputable def O1 (f:FuncId)(args:List AV)(hp:List Zh):Option (AV×List Zh×Eff):=if f=6 then (orK f args).map fun v=>(v,hp,none) else ZhV 135 2 24 f args hp
theorem Ztn (W0:World):ZT Tryz.prog W0 O1:=by
 intro f args hp v hp' e ho Γ w xs hr ht hs hx
 unfold O1 at ho
 split at ho
 ·exact OL (Zsf W0) f args hp v hp' e ho Γ w xs hr ht hs hx
 ·exact ZnZ W0 f args hp v hp' e ho Γ w xs hr ht hs hx
noncomputable def C1 (L:Nat):Cfg:=⟨GF,fun f=>if f=4 then some Zo else cT f,O1,L + 64⟩
theorem cT4:cT 4=none:=by kernel_rfl
theorem ZlB (W0:World)(L:Nat):Zdf Tryz.prog W0 (C1 L) where
 mixed:=by kernel_rfl
 globals:=fun g cells h=>by cases h
 table:=fun f af h=>by
  have h:(if f=4 then some Zo else (tab.find? (·.1 == f)).map (·.2))=some af:=h
  split at h
  ·rename_i e; subst e; cases h
   exact ⟨Tryz.f4,takes,Tryz.func4,TN,TQ⟩
  obtain ⟨p,hp,rfl⟩:=Option.map_eq_some_iff.1 h
  have hf:=List.find?_some hp
  have:p.1=f:=by simpa using hf
  subst this
  exact Zoo p (List.mem_of_find?_eq_some hp)
 oracle:=Ztn W0
theorem Zov (L:Nat):St (C1 L) L where
 L:=rfl
 G:=Zus
 T:=fun f a h=>by
  show (if f=4 then some Zo else cT f)=some a
  rw [if_neg (fun e=>by rw [e,cT4] at h; cases h)]; exact h
 grow:=fun m n hp h1 h2=>by
  show ZhV 135 2 24 135 [.own 2 [],.int .i64 n] hp=_
  have a:(2:Nat)=2∧0≤n∧n.toNat * 24≤140737488355328∧n.toNat≤140737488355328:=⟨rfl,h1,by omega,by omega⟩
  show (if (2:Nat)=2∧0≤n∧n.toNat * 24≤140737488355328∧n.toNat≤140737488355328 then some (AV.own 2 [],hp,none) else none)=(some (AV.own 2 [],hp,none):Option (AV×List Zh×Eff))
  rw [if_pos a]
 awake:=fun m hp=>rfl
end Go.Proofs.YthkdlifcknpadaaGreat
end
section
namespace Go.Proofs.YthkdlifcknpadaaGreat
open Go Go.RowKit Go.Proofs.YthkdlifcknpadaaGreat.Abs Go.Proofs.YthkdlifcknpadaaGreat.Tl
set_option maxRecDepth 100000
theorem ZbY {τ:Type}{f:(τ→Option Bool)→τ→Option Bool}(n:Nat)(P:Nat→τ→Prop)
  (h1:∀ self i t,i < n→P i t→(∀ t',P (i + 1) t'→∃ b,self t'=some b)→∃ b,f self t=some b)
  (h2:∀ self t,P n t→∃ b,f self t=some b):∀ m i t,P i t→i≤n→n - i < m→∃ b,Z9 f m t=some b
 | 0,_,_,_,_,h=>absurd h (Nat.not_lt_zero _)
 | m + 1,i,t,hP,hi,hm=>by
  show ∃ b,f (Z9 f m) t=some b
  rcases Nat.lt_or_ge i n with hlt | hge
  ·exact h1 _ i t hlt hP fun t' hP'=>ZbY n P h1 h2 m (i + 1) t' hP' hlt (by omega)
  ·have:i=n:=by omega
   subst this
   exact h2 _ t hP
theorem Zkg (L:Nat)(h1:1000≤L)(m:ZH)(h:Xc m)(hL:SizeOf.sizeOf m≤L):∃ b,H7 L (m,())=some b∧(b=true→m.Sites.length≤20∧m.Links.length≤40):=by
 rw [Zcy]
 cases hc:(decide ((m.Sites.length:Int) > 20) || decide ((m.Params.length:Int) > 40) || decide ((m.Links.length:Int) > 40)) with
 | true=>exact ⟨false,by simp [hc],fun e=>by cases e⟩
 | false =>
  simp only [Bool.or_eq_false_iff,decide_eq_false_iff_not,Int.not_lt] at hc
  obtain ⟨⟨hs,hp⟩,hl⟩:=hc
  have key:∃ b,Z9 (Jp m L) L (0,0,())=some b:=by
   have hz:=Dz m
   refine ZbY m.Sites.length (fun i t=>t.2.1=(i:Int)) (fun self i t hi hP hself=>?_) (fun self t hP=>?_) L 0 (0,0,()) rfl (Nat.zero_le _) (by omega)
   ·obtain ⟨a,j,u⟩:=t
    have hP:j=(i:Int):=hP
    subst hP
    have hx:=List.getElem?_eq_getElem hi
    have mem:=List.mem_of_getElem? hx
    have hd:=ZpL L m.Sites[i] (h.Sites.2 _ mem) (Sh.of (by have:=ZuA mem; omega))
    rw [Jp]
    simp only [Zg,hx,ZR,hd,show decide ((i:Int) < (m.Sites.length:Int))=true from by simp; omega,cond_true]
    have hk:((ZjX m.Sites[i]).map (·.2)).length=10:=rfl
    refine ZbY 10 (fun k t=>t.2.1=(k:Int)) (fun self1 k t hk' hP hs1=>?_) (fun self1 t hP=>?_) L 0 (a,0,()) rfl (Nat.zero_le _) (by omega)
    ·obtain ⟨b,j,u⟩:=t
     have hP:j=(k:Int):=hP
     subst hP
     have hy:=List.getElem?_eq_getElem (show k < ((ZjX m.Sites[i]).map (·.2)).length by rw [hk]; exact hk')
     rw [KU]
     simp only [Zg,hy,ZR,hk,show decide ((k:Int) < ((10:Nat):Int))=true from by simp; omega,cond_true]
     refine hs1 _ ?_
     show IntKind.i64.wrap ((k:Int) + 1)=_
     rw [IntKind.wrap_i64]; omega
    ·obtain ⟨b,j,u⟩:=t
     have hP:j=((10:Nat):Int):=hP
     subst hP
     rw [KU]
     simp only [Zg,hx,ZR,hk,show decide (((10:Nat):Int) < ((10:Nat):Int))=false from rfl,cond_false]
     refine hself _ ?_
     show IntKind.i64.wrap ((i:Int) + 1)=_
     rw [IntKind.wrap_i64]; omega
   ·obtain ⟨a,j,u⟩:=t
    have hP:j=(m.Sites.length:Int):=hP
    subst hP
    rw [Jp]
    simp
  obtain ⟨b,hb⟩:=key
  refine ⟨b,?_,fun _=>⟨by omega,by omega⟩⟩
  rw [← hb]
  simp [show ¬ (m.Sites.length:Int) > 20 by omega,show ¬ (m.Params.length:Int) > 40 by omega,show ¬ (m.Links.length:Int) > 40 by omega]
theorem ZnY {k:Nat}(x:tT.D k){l:List (TV tT)}{cs:List AV}(h:LR [] l cs):LR [] (.row k x :: l) (.agg (tT.row k x) :: cs):=.cons _ _ (.row k x _ (XD.ro k x)) _ _ h
theorem ZgH (L:Nat)(h1:1000≤L)(m:ZH)(h:Xc m)(hL:SizeOf.sizeOf m≤L)(hp:List Zh):Ev fun n=>Zy (C1 L) n 7 [.agg (Yf m)] hp=some (.int .i64 (QE m),hp,none):=by
 obtain ⟨a,k1,k2⟩:=ZcE (Zov L) (m,()) hp [.agg (Yf m)] (ZnY (k := 16) m .nil) (QE m) (ZkG L (by omega) m h hL)
 have:a=.int .i64 (QE m):=VR.int (k1 [])
 subst this; exact k2
theorem Zm2 (L:Nat)(h1:1000≤L)(m:ZH)(h:Xc m)(hL:SizeOf.sizeOf m≤L):∃ b,(b=true→m.Sites.length≤20∧m.Links.length≤40)∧∀ hp,Ev fun n=>Zy (C1 L) n 5 [.agg (Yf m)] hp=some (.bool b,hp,none):=by
 obtain ⟨b,hb,hb2⟩:=Zkg L h1 m h hL
 refine ⟨b,hb2,fun hp=>?_⟩
 obtain ⟨a,k1,k2⟩:=ZcD (Zov L) (m,()) hp [.agg (Yf m)] (ZnY (k := 16) m .nil) b hb
 have:a=.bool b:=by
  have h3:=k1 []
  cases h3 with | av v a h =>
   rcases h with h | h
   ·exact h
   ·cases a <;> cases h; rfl
 subst this; exact k2
theorem Zg9 (L m:Nat)(hp:List Zh):Zy (C1 L) (m + 1) 6 [] hp=some (.bool true,hp,none):=(Zov L).awake m hp
end Go.Proofs.YthkdlifcknpadaaGreat
end
section
namespace Go.Proofs.YthkdlifcknpadaaGreat
open Go Go.RowKit Go.Proofs.YthkdlifcknpadaaGreat.Abs Go.Proofs.YthkdlifcknpadaaGreat.Tl
set_option maxRecDepth 100000
theorem st4 (h:HP)(a b c d a' b' c' d':AV)(t:TypeId):stV 0 4 (.ptr h.length 0) (.agg [a',b',c',d']) (h ++ [.cells [a,b,c,d] t]) none=some (h ++ [.cells [a',b',c',d'] t],none):=st_all 0 4 h _ _ t none rfl rfl (Nat.zero_le _)
theorem ZuS (h:HP)(a b c d:AV)(t:TypeId)(k:Nat)(r:List (List AV)):Zlo 0 (.ptr h.length 2) (.lst k r) (h ++ [.cells [a,b,c,d] t]) none=some (h ++ [.cells [a,b,.lst k r,d] t],none):=by
 have e:=XZ h (.cells [a,b,c,d] t)
 simp only [Zlo,e,ZbW]
 have:SE 0 none h.length 0=none:=by simp [SE]
 simp [AV.one,this]
theorem ZuT (h:HP)(a b c d:AV)(t:TypeId)(k:Nat)(r:List (List AV)):Zlo 0 (.ptr h.length 3) (.lst k r) (h ++ [.cells [a,b,c,d] t]) none=some (h ++ [.cells [a,b,c,.lst k r] t],none):=by
 have e:=XZ h (.cells [a,b,c,d] t)
 simp only [Zlo,e,ZbW]
 have:SE 0 none h.length 0=none:=by simp [SE]
 simp [AV.one,this]
theorem ld4 (h:HP)(a:List UInt8)(i j k:Nat)(b c d:List (List AV))(t:TypeId):YA (h ++ [.cells [.str a,.lst i b,.lst j c,.lst k d] t]) 4 (.ptr h.length 0)=some (.agg [.str a,.lst i b,.lst j c,.lst k d]):=Ot (XZ h _) 4 rfl rfl
theorem Zop (k n:Nat)(r:List (List AV))(h:n≤r.length):Xi (.slice k) (.lst k r) none (some (.int .i64 n))=some (.lst k (r.take n)):=by
 have:(n:Int)≤(r.length:Int):=by omega
 simp [Xi,bound,this]
def Jb (m:ZH):ZH:={ m with Sites:=m.Sites.take (m.Sites.length - 1) }
theorem ZuL (G:GT)(K:KT)(L:Nat)(m:ZH)(hp:HP)(want e:Int)(n:Nat)(hn:m.Sites.length=n + 1)(hl:m.Sites.length≤20)(h0:hp[0]? = some (.cells (Yf m) ZG))
  (hc:K 7 [.agg (Yf (Jb m))] (hp ++ [.cells (Yf (Jb m)) ZG])=some (.int .i64 e,hp ++ [.cells (Yf (Jb m)) ZG],none))
  (ha:K 6 [] (hp ++ [.cells (Yf (Jb m)) ZG])=some (.bool true,hp ++ [.cells (Yf (Jb m)) ZG],none)) :
  YM G K L [] (.ptr 0 0) (.int .i64 n) (.int .i64 want) hp none=some (.bool (decide (e=want)),[],none):=by
 have g0:∀ x,(hp ++ [x])[0]? = some (.cells (Yf m) ZG):=fun x=>Eb h0 _
 have hr:Yf (Jb m)=[.str m.Name,.lst 3 (m.Params.map Xh),.lst 13 ((m.Sites.map Zz).take n),.lst 3 (m.Links.map Vk)]:=by
  simp only [Yf,Jb,hn,Nat.add_sub_cancel,List.map_take]
 rw [hr] at hc ha
 have hs:=Zop 13 n (m.Sites.map Zz) (by simp; omega)
 simp only [Yf] at g0 h0
 have l0:YA hp 4 (.ptr 0 0)=some (.agg [.str m.Name,.lst 3 (m.Params.map Xh),.lst 13 (m.Sites.map Zz),.lst 3 (m.Links.map Vk)]):=Ot h0 4 rfl rfl
 have ln:([]:HP).length=0:=rfl
 unfold YM
 simp only [ln,EV,LD,GI,l0,st4,JP (g0 _),hs,ZuS,ld4,hc,ha]
 simp
def named (m:ZH)(n:List UInt8)(l:List DV):Bool:=l.any fun x=>decide (x.From=n) || decide (x.To=n)
theorem Zu4 (G:GT)(K:KT)(L:Nat)(m:ZH)(hp:HP)(n:Nat)(d:Zb)(hd:m.Sites[n]? = some d)(hl:m.Links.length≤40)(h0:hp[0]? = some (.cells (Yf m) ZG))(k0:AV→AV→AV→HP→Eff→KR) :
  ∀ (f j:Nat) (want:Int),j≤m.Links.length→m.Links.length - j < f→Yj G K L [] k0 f (.ptr 0 0) (.int .i64 n) (.int .i64 want) (.int .i64 j) hp none =
   k0 (.ptr 0 0) (.int .i64 n) (.int .i64 (if (decide (0 < n) && named m d.Name (m.Links.drop j))=true then 5 else want)) hp none
 | 0,j,want,_,h=>absurd h (Nat.not_lt_zero _)
 | f + 1,j,want,hj,hf=>by
  simp only [Yf] at h0
  have b1:ZB .lss .prim (.int .i64 (j:Int)) (.int .i64 ((m.Links.map Vk).length:Int))=some (.bool (decide (j < m.Links.length))):=by
   show some (AV.bool (decide ((j:Int) < ((m.Links.map Vk).length:Int))))=_
   simp
  have b2:ZB .gtr .prim (.int .i64 (n:Int)) (.int .i64 0)=some (.bool (decide (0 < n))):=by
   show some (AV.bool (decide ((n:Int) > 0)))=_
   simp
  unfold Yj
  simp only [EV,LD,GI,JP h0]
  have e1:decide ((j:Int) < (m.Links.length:Int))=decide (j < m.Links.length):=by simp
  have e2:decide ((0:Int) < (n:Int))=decide (0 < n):=by simp
  simp only [e1,e2]
  by_cases hn:0 < n
  case neg=>simp [hn]
  by_cases hlt:j < m.Links.length
  ·have hx:=List.getElem?_eq_getElem hlt
   generalize m.Links[j]=x at hx
   have hdr:m.Links.drop j=x :: m.Links.drop (j + 1):=by
    obtain ⟨h',e⟩:=List.getElem?_eq_some_iff.1 hx
    rw [List.drop_eq_getElem_cons h',e]
   have i1:Ud (.slice 3) (.lst 3 (m.Links.map Vk)) (.int .i64 j)=some (.ref (Vk x)):=by simp [Ud,hx]
   have i2:Ud (.slice 13) (.lst 13 (m.Sites.map Zz)) (.int .i64 n)=some (.ref (Zz d)):=by simp [Ud,hd]
   have f0:WE 0 (.ref (Vk x))=some (.ref (Vk x)):=rfl
   have f1:WE 1 (.ref (Vk x))=some (.ref [.str x.To,.int .i64 x.Delay]):=rfl
   have f2:WE 0 (.ref (Zz d))=some (.ref (Zz d)):=rfl
   have d0:ZN hp (.ref (Vk x))=some (.str x.From):=rfl
   have d1:ZN hp (.ref [.str x.To,.int .i64 x.Delay])=some (.str x.To):=rfl
   have d2:ZN hp (.ref (Zz d))=some (.str d.Name):=rfl
   have hw:IntKind.i64.wrap ((j:Int) + 1)=((j + 1:Nat):Int):=by rw [IntKind.wrap_i64]; omega
   have ih:=fun w=>Zu4 G K L m hp n d hd hl (by simpa only [Yf] using h0) k0 f (j + 1) w hlt (by omega)
   simp only [hn,hlt,decide_true,Bool.and_true,if_true,EV,i1,i2,f0,f1,f2,d0,d1,d2,hw,ih,hdr,named,List.any_cons]
   by_cases a:x.From=d.Name <;> by_cases b:x.To=d.Name <;> simp [a,b,hn,named]
  ·have:m.Links.length≤j:=by omega
   simp [hlt,List.drop_eq_nil_of_le this,named]
def Zlw (m:ZH)(n:Nat)(d:Zb):Int:=if (decide (0 < n) && named m d.Name m.Links)=true then 5 else if n=0 then 7 else 0
theorem ZuK (G:GT)(K:KT)(L:Nat)(m:ZH)(hp:HP)(e:Int)(n:Nat)(d:Zb)(hn:m.Sites.length=n + 1)(hd:m.Sites[n]? = some d)(hs:m.Sites.length≤20)(hl:m.Links.length≤40)(hL:1000≤L)(h0:hp[0]? = some (.cells (Yf m) ZG))
  (hc:K 7 [.agg (Yf (Jb m))] (hp ++ [.cells (Yf (Jb m)) ZG])=some (.int .i64 e,hp ++ [.cells (Yf (Jb m)) ZG],none))
  (ha:K 6 [] (hp ++ [.cells (Yf (Jb m)) ZG])=some (.bool true,hp ++ [.cells (Yf (Jb m)) ZG],none)) :
  YK G K L [] (.ptr 0 0) hp none=some (.bool (decide (e=Zlw m n d)),[],none):=by
 have h0':=h0
 simp only [Yf] at h0'
 have hw:IntKind.i64.wrap ((m.Sites.length:Int) - 1)=(n:Int):=by rw [hn,IntKind.wrap_i64]; omega
 have key:∀ w:Int,YL G K L [] (.ptr 0 0) (.int .i64 n) (.int .i64 w) hp none=some (.bool (decide (e=if (decide (0 < n) && named m d.Name m.Links)=true then 5 else w)),[],none):=fun w=>by
  unfold YL
  rw [show (AV.int .i64 0)=.int .i64 ((0:Nat):Int) from rfl,Zu4 G K L m hp n d hd hl h0 _ L 0 w (Nat.zero_le _) (by omega),List.drop_zero]
  exact ZuL G K L m hp _ e n hn hs h0 hc ha
 have hq:decide ((n:Int)=0)=decide (n=0):=by simp
 unfold YK
 simp only [EV,LD,GI,JP h0',hw,key,hq,Zlw]
 by_cases h:n=0 <;> simp [h]
end Go.Proofs.YthkdlifcknpadaaGreat
end
section
namespace Go.Proofs.YthkdlifcknpadaaGreat
open Go Go.RowKit Go.Proofs.YthkdlifcknpadaaGreat.Abs Go.Proofs.YthkdlifcknpadaaGreat.Tl
set_option maxRecDepth 100000
def leftA:Wh→Wh
 | .seq a _=>a
 | c=>c
def Dk:Wh→Wh
 | .seq _ b=>b
 | c=>c
def r0:Wh:=leftA Y1
def r1:Wh:=leftA (Dk Y1)
def r2:Wh:=leftA (Dk (Dk Y1))
def r3:Wh:=leftA ZU
def r4:Wh:=leftA (leftA (Dk ZU))
def r5:Wh:=leftA (Dk (leftA (Dk ZU)))
def A1:Wh:=.seq r0 (.seq r1 (.seq r2 .skip))
def A2:Wh:=.seq r3 .skip
def A3:Wh:=.seq r4 (.seq r5 .skip)
def kE1 (x1 x2:AV)(hp:HP)(ef:Eff):KR:=some (.tup [x1,x2],hp,ef)
def kE2 (x2 x6:AV)(hp:HP)(ef:Eff):KR:=some (.tup [x2,x6],hp,ef)
def kE3 (x2 x6 x7 x58:AV)(hp:HP)(ef:Eff):KR:=some (.tup [x2,x6,x7,x58],hp,ef)
def kN:Lh:=fun _ _ _=>none
def Zju (G:GT)(K:KT)(L:Nat)(x0 x1:AV)(hp0:HP):KR :=
 Ye (Zl2 4 (AV.ro x0)) fun v1 =>
 Zl4 (hp0 ++ [.cells v1 ZG]) fun h0 =>
 Ye (YA h0 4 (.ptr (hp0).length 0)) fun v2 =>
 Ky (K RQ [v2] h0) fun v3 h4 f5 =>
 Ye (PK .not (AV.ro v3)) fun v6 =>
 Aw v6 false
 (Ye (YA h4 4 (.ptr (hp0).length 0)) fun v7 =>
 Ky (K X0 [v7] h4) fun v8 h9 f10 =>
 Ye (ZB .neq .prim (AV.ro v8) (.int .i64 0)) fun v11 =>
 some (v11,h9,(XP hp0.length (XP hp0.length none f5) f10)))
 (some (.bool true)) h4 (XP hp0.length none f5) fun v12 h13 f14 =>
 Aw (AV.ro v12) false
 (Ye (WE 2 (.ptr (hp0).length 0)) fun v15 =>
 Ye (ZN h13 v15) fun v16 =>
 Ye (Qh h13 .slice v16) fun v17 =>
 Ye (ZB .eql .prim v17 (.int .i64 0)) fun v18 =>
 some (v18,h13,f14))
 (some (.bool true)) h13 f14 fun v19 h20 f21 =>
 ifK (AV.ro v19)
 (Ky (K G9 [] h20) fun v22 h23 f24 =>
 none)
 (Ye (WE 3 (.ptr (hp0).length 0)) fun v128 =>
 Ye (ZN h20 v128) fun v129 =>
 Ye (Qh h20 .slice v129) fun v130 =>
 Ye (ZB .gtr .prim v130 (.int .i64 0)) fun v131 =>
 ifK v131
 (Ye (YA h20 4 (.ptr (hp0).length 0)) fun v132 =>
 Zl4 (h20 ++ [.cells [(.str []),(.own 3 []),(.own 13 []),(.own 3 [])] ZG]) fun h133 =>
 Ec (stV hp0.length 4 (.ptr (h20).length 0) v132 h133 f21) fun h134 f135 =>
 Ye (WE 3 (.ptr (hp0).length 0)) fun v136 =>
 Ye (ZN h134 v136) fun v137 =>
 Ye (WE 3 (.ptr (hp0).length 0)) fun v138 =>
 Ye (ZN h134 v138) fun v139 =>
 Ye (Qh h134 .slice v139) fun v140 =>
 Ye (ZB .sub .prim v140 (.int .i64 1)) fun v141 =>
 Ye (Xi (.slice 3) v137 none (some v141)) fun v142 =>
 Ye (WE 3 (.ptr (h20).length 0)) fun v143 =>
 Ec (Zlo hp0.length v143 v142 h134 f135) fun h144 f145 =>
 Ye (YA h144 4 (.ptr (h20).length 0)) fun v146 =>
 Ky (K X0 [v146] h144) fun v147 h148 f149 =>
 Ye (ZB .neq .prim (AV.ro v147) (.int .i64 0)) fun v150 =>
 ifK v150
 (none)
 (kE1 (AV.ro x1) (.ptr (hp0).length 0) h148 (XP hp0.length f145 f149)))
 (kE1 (AV.ro x1) (.ptr (hp0).length 0) h20 f21))
def Zjw (G:GT)(K:KT)(L:Nat)(x1 x2:AV)(hp:HP)(ef:Eff):KR :=
 Ye (QL hp (.int .i64) x1) fun v25 =>
 Ye (WE 2 x2) fun v26 =>
 Ye (ZN hp v26) fun v27 =>
 Ye (Qh hp .slice v27) fun v28 =>
 Ye (ZB .rem .prim v25 v28) fun v29 =>
 kE2 x2 v29 hp ef
def Zjy (G:GT)(K:KT)(L:Nat)(x2 x6:AV)(hp:HP)(ef:Eff):KR :=
 Ye (WE 2 x2) fun v91 =>
 Ye (ZN hp v91) fun v92 =>
 Ye (Ud (.slice 13) v92 x6) fun v93 =>
 Ye (WE 12 v93) fun v94 =>
 Ye (ZN hp v94) fun v95 =>
 Ye (Qh hp .slice v95) fun v96 =>
 Ye (ZB .gtr .prim v96 (.int .i64 0)) fun v97 =>
 kE3 x2 x6 v96 v97 hp ef
theorem Zjv (G:GT)(K:KT)(L:Nat)(x0 x1:AV)(hp0:HP):Xp G 140 hp0.length K Zf L A1 (fun e hp ef=>kE1 (e 1).rd (e 2).rd hp ef) kN [] (Zl1 [x0,x1]) hp0 none=Zju G K L x0 x1 hp0:=by
 simp only [A1,r0,r1,r2,leftA,Dk,Y1,UC,Vg,Vh,VV]
 refine Eq.trans ?_ rfl
 kernel_rfl
theorem Zjx (G:GT)(K:KT)(L:Nat)(hp0:HP):Xp G 140 hp0.length K Zf L A2 (fun e hp ef=>kE2 (e 2).rd (e 6).rd hp ef) kN []=fun e hp ef=>Zjw G K L (e 1).rd (e 2).rd hp ef:=by
 simp only [A2,r3,leftA,Dk,ZU,UC,Vg,Vh,VV]
 refine Eq.trans ?_ rfl
 kernel_rfl
theorem Zjz (G:GT)(K:KT)(L:Nat)(hp0:HP):Xp G 140 hp0.length K Zf L A3 (fun e hp ef=>kE3 (e 2).rd (e 6).rd (e 7).rd (e 58).rd hp ef) kN []=fun e hp ef=>Zjy G K L (e 2).rd (e 6).rd hp ef:=by
 simp only [A3,r4,r5,leftA,Dk,ZU,UC,Vg,Vh,VV]
 refine Eq.trans ?_ rfl
 kernel_rfl
end Go.Proofs.YthkdlifcknpadaaGreat
end
section
namespace Go.Proofs.YthkdlifcknpadaaGreat
open Go Go.RowKit Go.Proofs.YthkdlifcknpadaaGreat.Abs Go.Proofs.YthkdlifcknpadaaGreat.Tl
set_option maxRecDepth 100000
abbrev MO (m:ZH):Zh:=.cells (Yf m) ZG
def Px (m:ZH):ZH:={ m with Links:=m.Links.take (m.Links.length - 1) }
theorem ZqW (G:GT)(K:KT)(L:Nat)(m:ZH)(k:Int)(hm:m.Sites≠[])(hls:m.Links.length≤40)
  (hl:K 5 [.agg (Yf m)] [MO m]=some (.bool true,[MO m],none)) (hc:K 7 [.agg (Yf m)] [MO m]=some (.int .i64 0,[MO m],none))
  (hc1:K 7 [.agg (Yf (Px m))] [MO m,MO (Px m)]=some (.int .i64 0,[MO m,MO (Px m)],none)) :
  Zju G K L (.agg (Yf m)) (.int .u8 k) []=some (.tup [.int .u8 k,.ptr 0 0],if m.Links=[] then [MO m] else [MO m,MO (Px m)],none):=by
 have hr:Yf (Px m)=[.str m.Name,.lst 3 (m.Params.map Xh),.lst 13 (m.Sites.map Zz),.lst 3 ((m.Links.map Vk).take (m.Links.length - 1))]:=by
  simp only [Yf,Px,List.map_take]
 have ln:([]:HP).length=0:=rfl
 have ln1:([]:HP) ++ [MO m]=[MO m]:=rfl
 simp only [MO,hr] at hc1 hc hl ⊢
 simp only [Yf] at hc1 hc hl ⊢
 generalize hM:Zh.cells [.str m.Name,.lst 3 (m.Params.map Xh),.lst 13 (m.Sites.map Zz),.lst 3 (m.Links.map Vk)] ZG=M at *
 have g0:([M]:HP)[0]? = some (.cells [.str m.Name,.lst 3 (m.Params.map Xh),.lst 13 (m.Sites.map Zz),.lst 3 (m.Links.map Vk)] ZG):=by rw [← hM]; rfl
 have g1:∀ x,([M] ++ [x]:HP)[0]? = some (.cells [.str m.Name,.lst 3 (m.Params.map Xh),.lst 13 (m.Sites.map Zz),.lst 3 (m.Links.map Vk)] ZG):=fun x=>Eb g0 _
 have l0:YA [M] 4 (.ptr 0 0)=some (.agg [.str m.Name,.lst 3 (m.Params.map Xh),.lst 13 (m.Sites.map Zz),.lst 3 (m.Links.map Vk)]):=Ot g0 4 rfl rfl
 have bx:Zl2 4 (.agg [.str m.Name,.lst 3 (m.Params.map Xh),.lst 13 (m.Sites.map Zz),.lst 3 (m.Links.map Vk)])=some [.str m.Name,.lst 3 (m.Params.map Xh),.lst 13 (m.Sites.map Zz),.lst 3 (m.Links.map Vk)]:=rfl
 have hs:decide ((m.Sites.length:Int)=0)=false:=by
  simp only [decide_eq_false_iff_not]; intro h; exact hm (List.eq_nil_of_length_eq_zero (by omega))
 unfold Zju
 simp only [bx,EV,ln,List.nil_append,hM,l0,hl,hc,BL,LD,GI,JP g0,hs,decide_true,ne_eq,not_true_eq_false,decide_false,Bool.or_false,Bool.false_eq_true,if_false]
 by_cases hk:m.Links=[]
 ·rw [if_pos hk]
  simp [hk,kE1,AV.ro]
 ·rw [if_neg hk]
  have hp:decide ((m.Links.length:Int) > 0)=true:=by
   simp only [decide_eq_true_eq]
   have:=List.length_pos_iff.2 hk
   omega
  have hw:IntKind.i64.wrap ((m.Links.length:Int) - 1)=((m.Links.length - 1:Nat):Int):=by
   have:=List.length_pos_iff.2 hk
   rw [IntKind.wrap_i64]; omega
  have hs:=Zop 3 (m.Links.length - 1) (m.Links.map Vk) (by simp)
  simp only [hp,if_true,EV,LD,GI,st4,JP (g1 _),hw,hs,ZuT,ld4]
  simp only [List.singleton_append,hc1,EV]
  simp [kE1,XP]
theorem ZqX (G:GT)(K:KT)(L:Nat)(m:ZH)(k:Nat)(hk:k < 256)(hp:HP)(hs:m.Sites≠[])(hl:m.Sites.length≤20)(h0:hp[0]? = some (MO m)) :
  Zjw G K L (.int .u8 k) (.ptr 0 0) hp none=some (.tup [.ptr 0 0,.int .i64 ((k % m.Sites.length:Nat):Int)],hp,none):=by
 simp only [MO,Yf] at h0
 have hn:=List.length_pos_iff.2 hs
 have c1:QL hp (.int .i64) (.int .u8 k)=some (.int .i64 (IntKind.i64.wrap k)):=rfl
 have hw:IntKind.i64.wrap (k:Int)=k:=by rw [IntKind.wrap_i64]; omega
 have hr:ZB .rem .prim (.int .i64 (k:Int)) (.int .i64 (m.Sites.length:Int))=some (.int .i64 ((k % m.Sites.length:Nat):Int)):=by
  show (if (m.Sites.length:Int)=0 then none else some (AV.int .i64 ((k:Int).tmod (m.Sites.length:Int))))=_
  rw [if_neg (by omega)]
  congr 2
 unfold Zjw
 simp only [c1,hw,EV,LD,GI,JP h0,hr,kE2]
theorem ZqY (G:GT)(K:KT)(L:Nat)(m:ZH)(i:Nat)(d:Zb)(hd:m.Sites[i]? = some d)(hp:HP)(h0:hp[0]? = some (MO m)) :
  Zjy G K L (.ptr 0 0) (.int .i64 i) hp none=some (.tup [.ptr 0 0,.int .i64 i,.int .i64 d.Laws.length,.bool (decide (0 < d.Laws.length))],hp,none):=by
 simp only [MO,Yf] at h0
 have i2:Ud (.slice 13) (.lst 13 (m.Sites.map Zz)) (.int .i64 i)=some (.ref (Zz d)):=by simp [Ud,hd]
 have f1:WE 12 (.ref (Zz d))=some (.ref [.lst 3 (d.Laws.map Zi1)]):=rfl
 have d1:ZN hp (.ref [.lst 3 (d.Laws.map Zi1)])=some (.lst 3 (d.Laws.map Zi1)):=rfl
 have hg:decide ((d.Laws.length:Int) > 0)=decide (0 < d.Laws.length):=by simp
 unfold Zjy
 simp only [EV,LD,GI,JP h0,i2,f1,d1,kE3,hg]
theorem ZqV (G:GT)(K:KT)(L:Nat)(m:ZH)(k:Int)(b:Bool)(e:Int)(hb:b=false∨e≠0∨m.Sites=[])
  (hl:K 5 [.agg (Yf m)] [MO m]=some (.bool b,[MO m],none)) (hc:K 7 [.agg (Yf m)] [MO m]=some (.int .i64 e,[MO m],none)) (ha:K 6 [] [MO m]=some (.bool true,[MO m],none)) :
  Qw G K L (.agg (Yf m)) (.int .u8 k) []=some (.bool true,[],none):=by
 have ln:([]:HP).length=0:=rfl
 simp only [MO] at hc hl ha
 simp only [Yf] at hc hl ha ⊢
 generalize hM:Zh.cells [.str m.Name,.lst 3 (m.Params.map Xh),.lst 13 (m.Sites.map Zz),.lst 3 (m.Links.map Vk)] ZG=M at *
 have g0:([M]:HP)[0]? = some (.cells [.str m.Name,.lst 3 (m.Params.map Xh),.lst 13 (m.Sites.map Zz),.lst 3 (m.Links.map Vk)] ZG):=by rw [← hM]; rfl
 have l0:YA [M] 4 (.ptr 0 0)=some (.agg [.str m.Name,.lst 3 (m.Params.map Xh),.lst 13 (m.Sites.map Zz),.lst 3 (m.Links.map Vk)]):=Ot g0 4 rfl rfl
 have bx:Zl2 4 (.agg [.str m.Name,.lst 3 (m.Params.map Xh),.lst 13 (m.Sites.map Zz),.lst 3 (m.Links.map Vk)])=some [.str m.Name,.lst 3 (m.Params.map Xh),.lst 13 (m.Sites.map Zz),.lst 3 (m.Links.map Vk)]:=rfl
 unfold Qw
 cases b with
 | false =>
  simp only [bx,EV,ln,List.nil_append,hM,l0,hl,BL,ha]
  simp [Zd7,finish,frz,XP,ha]
 | true =>
  by_cases he:e=0
  ·have hs:m.Sites=[]:=by
    rcases hb with h | h | h
    ·cases h
    ·exact absurd he h
    ·exact h
   have hs0:decide ((m.Sites.length:Int)=0)=true:=by rw [hs]; rfl
   clear hs hb
   simp only [bx,EV,ln,List.nil_append,hM,l0,hl,hc,BL,LD,GI,JP g0,hs0,he,decide_true,ne_eq,not_true_eq_false,decide_false,Bool.or_false,Bool.false_eq_true,if_false,if_true,ha]
  ·simp only [bx,EV,ln,List.nil_append,hM,l0,hl,hc,BL,LD,GI,JP g0,he,decide_true,ne_eq,not_false_eq_true,decide_false,Bool.or_false,Bool.false_eq_true,if_false,if_true,ha]
end Go.Proofs.YthkdlifcknpadaaGreat
end
