import Derived.Test.YtdchnngpjjcchaaDoorProg
import Derived.ProofKit
import Derived.Test.YtdchnngpjjcchaaDoorT8
set_option linter.all false
section
namespace Go.Proofs.YtdchnngpjjcchaaDoor
open Go Go.RowKit Go.Proofs.YtdchnngpjjcchaaDoor.Abs
set_option maxRecDepth 100000
theorem FN {Γ:Zm}{w:World}{B e n:Nat}{v:Value}{xs:List (List UInt8)}(h:w.ownsRow B e 1 v n (xs.map Num.strV))(hΓ:∀ b,B≤b→Γ b=.imm):Rep Γ w (.lst 1 (strs xs)) v:=by
  obtain ⟨h1,h2⟩:=h
  have hl:(strs xs).length=xs.length:=by simp [strs]
  rw [List.length_map,Nat.mul_one] at h1
  rcases h2 with ⟨rfl,h2⟩ | ⟨g,cap,cur,rfl,hg,hh,hn,hm,hs,ht⟩
  · have:xs=[]:=List.eq_nil_of_length_eq_zero (by omega)
    subst this
    exact .lstNil 1
  · rw [← h1,← hl]
    refine .lst 1 (strs xs) g 0 cap (fun i _=>Num.strV (xs.getD i [])) (by rw [hl]; omega) (fun r hr=>by obtain ⟨c,-,rfl⟩:=List.mem_map.1 hr; rfl) (fun i j r c hi hj=>?_) (fun i j r c hi hj=>?_)
    all_goals
      rw [strs,List.getElem?_map] at hi
      obtain ⟨y,hy,rfl⟩:=Option.map_eq_some_iff.1 hi
      obtain rfl:j=0:=by
        have:=(List.getElem?_eq_some_iff.1 hj).1
        simp at this; omega
      obtain rfl:c=.str y:=by simpa using hj.symm
      have hd:xs.getD i []=y:=by rw [List.getD_eq_getElem?_getD,hy]; rfl
    · refine ⟨?_,by rw [XT,hΓ g hg]; trivial,rfl⟩
      rw [hd,(Num.cellOf hh _).1]
      have hlt:=(List.getElem?_eq_some_iff.1 hy).1
      have:=congrArg (fun l:List Value=>l[i]?) ht
      simp only [Nat.mul_one] at this
      rw [List.getElem?_take,if_pos (by omega),List.getElem?_map,hy] at this
      simpa using this
    · rw [hd]; exact .str _
theorem FX {Γ:Zm}{w:World}{r:YS}{x:Value}(h:Rep Γ w (.agg (Yf r)) x):x=Zdj r:=by
  cases h with
  | agg _ cv hs h1 hn hr =>
    refine congrArg Value.agg (Array.ext (by rw [hs]; rfl) fun i h2 h3=>?_)
    have hk:i < 6:=by simpa using h3
    have hd:cv.getD i Go.undef=cv[i]:=by rw [Array.getD_eq_getD_getElem?,Array.getElem?_eq_getElem h2]; rfl
    have key:∀ (i:Nat) (n:Int),(Yf r)[i]? = some (.int .i64 n)→cv.getD i Go.undef=.int .i64 n:=fun i n h=>Ih (hr i _ h)
    refine hd.symm.trans ?_
    clear hd h2
    have:i=0∨i=1∨i=2∨i=3∨i=4∨i=5:=by omega
    rcases this with rfl | rfl | rfl | rfl | rfl | rfl
    · exact key 0 _ rfl
    · exact key 1 _ rfl
    · exact key 2 _ rfl
    · exact key 3 _ rfl
    · exact key 4 _ rfl
    · exact key 5 _ rfl
open Classical in
noncomputable def orR (f:FuncId) (args:List AV):Option AV :=
  if f=Zq then (match args with
    | [.lst 6 rows]=>(match unL unR rows with | some l=>if ∀ r ∈ l,QT r then some (Rz l) else none | none=>none)
    | [.own 6 rows]=>(match unL unR rows with | some l=>if ∀ r ∈ l,QT r then some (Rz l) else none | none=>none)
    | _=>none)
  else if f=QD then (match args with | [.int .i64 n]=>if Rng n then some (.str (Lib.itoa n)) else none | _=>none)
  else if f=Oc then (match args with | [.int .i64 n]=>if Rng n then some (.str (Lib.itoa n)) else none | _=>none)
  else if f=JE then (match args with | [.str s]=>if s.length≤281474976710656 then some (.tup [.int .i64 (Num.parseI s).1,.bool (Num.parseI s).2]) else none | _=>none)
  else if f=JF then (match args with | [.str s]=>if s.length≤281474976710656 then some (.tup [.int .i64 (Num.parseR s).1,.bool (Num.parseR s).2]) else none | _=>none)
  else if f=XR then (match args with
    | [.lst 1 rows,.str sep]=>(match unL unS rows with | some xs=>if xs≠[]∧xs.length≤140737488355328∧(Lib.join xs sep).length≤140737488355328 then some (.str (Lib.join xs sep)) else none | none=>none)
    | _=>none)
  else if f=Xl then (match args with | [.str s,.str sep]=>if s.length < 4294967281∧1≤sep.length then some (.lst 1 (strs (Yk s sep))) else none | _=>none)
  else if f=JG then (match args with | [.str s]=>if s.length≤1000 then some (.lst 1 (strs (Yk s [32]))) else none | _=>none)
  else if f=Jl then (match args with | [.agg cs]=>(match unR cs with | some r=>if QT r then some (.str (textS r)) else none | none=>none) | _=>none)
  else none
theorem Zdg {W0:World}(hL:Num.Laid W0)(hM:∃ m,W0.cell? ⟨1,0,none⟩=some (.int .i64 m)):∀ f args v,orR f args=some v→Gh Tryd.prog W0 f args v:=by
  intro f args v h
  unfold orR at h
  split at h
  · rename_i e; subst e
    split at h
    · rename_i rows
      split at h
      · rename_i l hrows
        split at h
        · rename_i ho
          cases h
          obtain rfl:=U5 (row := Yf) (fun _ _=>Gq) hrows
          exact NI ZdF (Za1 W0) l ho
        · cases h
      · cases h
    · rename_i rows
      split at h
      · rename_i l hrows
        split at h
        · rename_i ho
          cases h
          obtain rfl:=U5 (row := Yf) (fun _ _=>Gq) hrows
          refine ⟨fun k r h=>(by cases h),fun Γ w xs hb hΓ hs hx=>GU ZdF (Za1 W0) l ho hb hΓ hs ?_⟩
          exact (hx 0 _ rfl).ro.still' rfl
        · cases h
      · cases h
    · cases h
  split at h
  · rename_i e; subst e
    split at h
    · rename_i n
      split at h
      · rename_i hs
        cases h
        refine ⟨fun _ _ h=>(by cases h),fun Γ w xs hb hΓ hsz hx=>?_⟩
        obtain ⟨x,rfl⟩:=xs1 hsz
        obtain rfl:x=_:=Ih (hx 0 _ rfl)
        refine Yv Tryd.func32 (by kernel_rfl) rfl ((Num.c_text n hs.1 hs.2 w (hL.below hb)).mono ?_)
        rintro e w' ⟨rfl,hb'⟩
        exact ⟨_,rfl,hb',.str _⟩
      · cases h
    · cases h
  split at h
  · rename_i e; subst e
    split at h
    · rename_i n
      split at h
      · rename_i hs
        cases h
        refine ⟨fun _ _ h=>(by cases h),fun Γ w xs hb hΓ hsz hx=>?_⟩
        obtain ⟨x,rfl⟩:=xs1 hsz
        obtain rfl:x=_:=Ih (hx 0 _ rfl)
        refine Yv Tryd.func33 (by kernel_rfl) rfl ((Num.c_rtext _ n w (Nat.le_refl _) hs.1 hs.2).mono ?_)
        rintro e w' ⟨rfl,rfl⟩
        exact ⟨_,rfl,Below.refl _ _,.str _⟩
      · cases h
    · cases h
  split at h
  · rename_i e; subst e
    split at h
    · rename_i s
      split at h
      · rename_i hs
        cases h
        refine ⟨fun _ _ h=>(by cases h),fun Γ w xs hb hΓ hsz hx=>?_⟩
        obtain ⟨x,rfl⟩:=xs1 hsz
        obtain rfl:x=_:=Ky (hx 0 _ rfl)
        refine Yv Tryd.func22 (by kernel_rfl) rfl ((Num.c_parse ⟨s.toArray⟩ (by rw [size_eq']; exact hs) w (hL.below hb)).mono ?_)
        rintro e w' ⟨rfl,hb'⟩
        rw [bytes_eq]
        refine ⟨_,rfl,hb',.tup _ _ rfl fun j c hc=>?_⟩
        match j,hc with
        | 0,hc=>cases hc; exact .int _ _
        | 1,hc=>cases hc; exact .bool _
        | j + 2,hc=>simp at hc
      · cases h
    · cases h
  split at h
  · rename_i e; subst e
    split at h
    · rename_i s
      split at h
      · rename_i hs
        cases h
        refine ⟨fun _ _ h=>(by cases h),fun Γ w xs hb hΓ hsz hx=>?_⟩
        obtain ⟨x,rfl⟩:=xs1 hsz
        obtain rfl:x=_:=Ky (hx 0 _ rfl)
        refine Yv Tryd.func25 (by kernel_rfl) rfl ((Num.c_rparse ⟨s.toArray⟩ (by rw [size_eq']; exact hs) w).mono ?_)
        rintro e w' ⟨rfl,rfl⟩
        rw [bytes_eq]
        refine ⟨_,rfl,Below.refl _ _,.tup _ _ rfl fun j c hc=>?_⟩
        match j,hc with
        | 0,hc=>cases hc; exact .int _ _
        | 1,hc=>cases hc; exact .bool _
        | j + 2,hc=>simp at hc
      · cases h
    · cases h
  split at h
  · rename_i e; subst e
    split at h
    · rename_i rows sep
      split at h
      · rename_i l hrows
        split at h
        · rename_i ho
          cases h
          obtain ⟨h1,h2,h3⟩:=ho
          obtain rfl:=U5 (row := ZbJ) (fun _ _=>CU) hrows
          refine ⟨fun k r h=>(by cases h),fun Γ w xs hb hΓ hsz hx=>?_⟩
          obtain ⟨x,y,rfl⟩:=xs2 hsz
          obtain ⟨b,o,cap,rfl,hcap,hcell⟩:∃ b o cap,x=.slice (some ⟨b,o,none⟩) l.length cap∧l.length≤cap∧∀ (j:Nat) (s:List UInt8),l[j]? = some s→w.cell? ⟨b,o + j,none⟩=some (.string ⟨s.toArray⟩):=FY (hx 0 _ rfl) h1
          obtain rfl:y=_:=Ky (hx 1 _ rfl)
          have hm:(l.map fun s=>(⟨s.toArray⟩:ByteArray)).map (·.data.toList)=l:=by rw [List.map_map]; exact (List.map_congr_left fun a _=>bytes_eq a).trans (List.map_id' l)
          have hJ:=Tryd.strings_Join b o cap (l.map fun s=>⟨s.toArray⟩) ⟨sep.toArray⟩ w (fun j x hj=>by
            rw [List.getElem?_map] at hj
            obtain ⟨s,hs,rfl⟩:=Option.map_eq_some_iff.1 hj
            exact hcell j s hs) (by
            cases l with
            | nil=>exact absurd rfl h1
            | cons s l=>exact World.block_lt_of_cell? w _ (hcell 0 s rfl)) (by simpa using h2) (by simpa using hcap) (by rw [hm,bytes_eq]; exact h3)
          rw [hm,bytes_eq,List.length_map] at hJ
          refine Yv Tryd.func31 (by kernel_rfl) rfl (hJ.mono ?_)
          rintro e w' ⟨rfl,hb'⟩
          exact ⟨_,rfl,hb',.str _⟩
        · cases h
      · cases h
    · cases h
  split at h
  · rename_i e; subst e
    split at h
    · rename_i s sep
      split at h
      · rename_i hs
        cases h
        refine ⟨fun _ _ h=>(by cases h),fun Γ w xs hb hΓ hsz hx=>?_⟩
        obtain ⟨x,y,rfl⟩:=xs2 hsz
        obtain rfl:x=_:=Ky (hx 0 _ rfl)
        obtain rfl:y=_:=Ky (hx 1 _ rfl)
        obtain ⟨m,hm⟩:=hM
        have hm':w.cell? ⟨1,0,none⟩=some (.int .i64 m):=by rw [hb.cell (World.block_lt_of_cell? W0 _ hm)]; exact hm
        refine Yv Tryd.func21 (by kernel_rfl) rfl ((Tryd.strings_Split ⟨s.toArray⟩ ⟨sep.toArray⟩ m w (by rw [size_eq']; exact hs.1) hm' (by rw [size_eq']; exact hs.2)).mono ?_)
        rintro e w' ⟨rfl,rfl⟩
        refine ⟨_,rfl,RN _ _,CJ ?_ hΓ ?_ 9⟩
        · rw [← OO,List.length_map,Lib.splitB_all _ (by rw [size_eq']; exact hs.2) _ _ _ rfl]
        · rw [Zd4,OO]
      · cases h
    · cases h
  split at h
  · rename_i e; subst e
    split at h
    · rename_i s
      split at h
      · rename_i hs
        cases h
        refine ⟨fun _ _ h=>(by cases h),fun Γ w xs hb hΓ hsz hx=>?_⟩
        obtain ⟨x,rfl⟩:=xs1 hsz
        obtain rfl:x=_:=Ky (hx 0 _ rfl)
        refine Yv Tryd.func24 (by kernel_rfl) rfl ((Num.c_parts ⟨s.toArray⟩ (by rw [size_eq']; exact hs) w).mono ?_)
        rintro e w' ⟨v,ps,rfl,hP⟩
        have hps:ps=Yk s [32]:=by
          have:=hP.eq
          rw [size_eq',bytes_eq,List.take_length] at this
          rw [← this,BK]
        subst hps
        exact ⟨_,rfl,hP.below,FN hP.own (fun b hb=>hΓ b hb)⟩
      · cases h
    · cases h
  split at h
  · rename_i e; subst e
    split at h
    · rename_i cs
      split at h
      · rename_i r hr
        split at h
        · rename_i ho
          cases h
          obtain rfl:=Gq hr
          refine ⟨fun _ _ h=>(by cases h),fun Γ w xs hb hΓ hsz hx=>?_⟩
          obtain ⟨x,rfl⟩:=xs1 hsz
          obtain rfl:x=Zdj r:=FX (hx 0 _ rfl)
          refine Yv Tryd.func15 (by kernel_rfl) rfl ((N7 r ho w).mono ?_)
          rintro e w' ⟨rfl,hb'⟩
          exact ⟨_,rfl,hb',.str _⟩
        · cases h
      · cases h
    · cases h
  · cases h
end Go.Proofs.YtdchnngpjjcchaaDoor
end
section
namespace Go.Proofs.YtdchnngpjjcchaaDoor
open Go Go.RowKit Go.Proofs.YtdchnngpjjcchaaDoor.Abs
set_option maxRecDepth 100000
def GW:Nat→Option (List AV):=fun g=>if g=0 then some [.lst 1 (strs Yu)] else none
noncomputable def orA (f:FuncId)(args:List AV)(hp:HP):Option AV :=
  match args with
  | [.arr g o n 6]=>if f=Zq then (match rowsOf hp (.arr g o n 6) with | some (6,rows)=>orR f [.lst 6 rows] | _=>none) else orR f [.arr g o n 6]
  | a=>orR f a
theorem Zdf {f:FuncId}{args:List AV}{v:AV}(h:orR f args=some v)(hp:HP):orA f args hp=some v:=by
  unfold orA
  split
  · split
    · rename_i e; subst e
      unfold orR at h
      rw [if_pos rfl] at h
      cases h
    · exact h
  · exact h
noncomputable def CR:Cfg:=⟨GW,cT,fun f args hp=>(orA f args hp).map fun v=>(v,hp,none),9223372036854775808⟩
theorem Za6 {W0 w:World}{Γ:Zm}{hp:HP}{g off len:Nat}{u:Value}{l:List YS}(hr:RW W0 Γ w hp)(hu:Rep Γ w (.arr g off len 6) u)(h:rowsOf hp (.arr g off len 6)=some (6,recs l)):Rep still w (.lst 6 (recs l)) u:=by
  unfold rowsOf at h
  simp only at h
  split at h <;> first | (cases h; done) | skip
  rename_i cs t hg
  split at h <;> first | (cases h; done) | skip
  rename_i hfit
  obtain ⟨-,hch⟩:=Prod.mk.inj (Option.some.inj h)
  cases hu with
  | arr _ _ _ _ cap b hb hcap =>
    obtain ⟨b',C,h1,h2,h3,h4⟩:=hr.objs g _ hg
    obtain rfl:=hr.inj b b' g hb h1
    have hlen:(recs l).length=len:=by rw [← hch,WE]
    have hrow:∀ (i:Nat) (r:List AV),(recs l)[i]? = some r→∀ (j:Nat) (c:AV),r[j]? = some c→cs[off + (i * 6 + j)]? = some c:=by
      intro i r hi j c hj
      rw [← hch] at hi
      have he:=Uj 6 len _ i r hi
      rw [he,List.getElem?_take] at hj
      split at hj
      · rw [List.getElem?_drop,List.getElem?_drop] at hj
        exact hj
      · cases hj
    have hint:∀ (i:Nat) (r:List AV),(recs l)[i]? = some r→∀ (j:Nat) (c:AV),r[j]? = some c→∃ n,c=.int .i64 n:=by
      intro i r hi j c hj
      rw [recs,List.getElem?_map] at hi
      obtain ⟨x,-,rfl⟩:=Option.map_eq_some_iff.1 hi
      have hm:=List.mem_of_getElem? hj
      simp only [Yf,List.mem_cons,List.not_mem_nil,or_false] at hm
      rcases hm with rfl | rfl | rfl | rfl | rfl | rfl <;> exact ⟨_,rfl⟩
    rw [← hlen]
    refine .lst 6 (recs l) b off cap (fun i j=>C.getD (off + (i * 6 + j)) Go.undef) (by rw [hlen]; exact hcap) (fun r hr=>by obtain ⟨x,-,rfl⟩:=List.mem_map.1 hr; rfl) (fun i j r c hi hj=>?_) (fun i j r c hi hj=>?_)
    all_goals
      obtain ⟨n,rfl⟩:=hint i r hi j _ hj
      have hc:=hrow i r hi j _ hj
      have hlt:=(List.getElem?_eq_some_iff.1 hc).1
      obtain ⟨k1,k2,k3⟩:=h4 _ _ hc
    · refine ⟨?_,trivial,rfl⟩
      rw [cell_of_row w b _ C t (0,0) h2]
      exact Yl (by omega)
    · rw [Ih k2]; exact .int _ _
theorem Nh {P:Program}{W0:World}{Γ:Zm}{w:World}{hp:HP}{f:FuncId}{xs:Array Value}{v:AV}(hr:RW W0 Γ w hp)(hown:∀ k r,v≠.own k r)(h:EQ P f xs w fun cv w'=>Below w.heap.size w w'∧Rep Γ w' v cv) :
    EQ P f xs w fun cv w'=>∃ Γ',RW W0 Γ' w' hp∧Rep Γ' w' v cv∧OwnAt Γ' w' .res v cv∧Abs.Frame Γ w Γ' w' none∧hp.length≤hp.length∧∀ b g,Γ' b=.own g→g < hp.length→Γ b=.own g:=by
  refine h.mono fun cv w' ⟨hb,hv⟩=>?_
  have st:Step Γ w Γ w' fun _=>False:=⟨hb.os,hb.tape,hb.output,hb.size,fun b hbl _=>⟨rfl,hb.block b hbl⟩,fun b o v h1 h2=>⟨h1,(Xw (hb.block b (lt_of_cell h2))).trans h2⟩,.refl _⟩
  obtain ⟨o1,o2⟩:=Xf hr.old hr.oldImm st fun _ hx=>hx.elim
  exact ⟨Γ,⟨fun g o hg=>(hr.objs g o hg).step st hr.fresh (fun _ hx=>hx.elim) (fun _ _ _ hx=>hx.elim),hr.inj,fun b hbl=>hr.fresh b (Nat.le_trans hb.size hbl),hr.lt,o1,o2,hr.dead⟩,hv,.of_ne hown,⟨hb.os,hb.tape,hb.output,hb.size,st.fix,.refl _,fun b hbl _=>⟨rfl,hb.block b hbl⟩⟩,Nat.le_refl _,fun _ _ hb _=>hb⟩
theorem FH {W0:World}(hL:Num.Laid W0)(hM:∃ m,W0.cell? ⟨1,0,none⟩=some (.int .i64 m)):ZB Tryd.prog W0 fun f args hp=>(orA f args hp).map fun v=>(v,hp,none):=by
  intro f args hp v hp' e ho Γ w xs hr ht hs hx
  obtain ⟨u,hu,e1⟩:=Option.map_eq_some_iff.1 ho
  cases e1
  have old:orR f args=some v→_:=fun h=>Jk (Zdg hL hM) f args hp v hp none (by show (orR f args).map _=_; rw [h]; rfl) Γ w xs hr ht hs hx
  unfold orA at hu
  split at hu
  · rename_i g o n
    split at hu
    · rename_i ef; subst ef
      split at hu
      · rename_i rows hrows
        unfold orR at hu
        rw [if_pos rfl] at hu
        simp only at hu
        split at hu
        · rename_i l hl
          split at hu
          · rename_i hok
            cases hu
            obtain rfl:=U5 (row := Yf) (fun _ _=>Gq) hl
            exact Nh hr (fun k r h=>by cases h) (GU ZdF (Za1 W0) l hok hr.old hr.fresh hs (Za6 hr (hx 0 _ rfl).1 hrows))
          · cases hu
        · cases hu
      · cases hu
    · exact old hu
  · exact old hu
theorem ZdH {W0:World}(hG:GOk GW W0)(hL:Num.Laid W0)(hM:∃ m,W0.cell? ⟨1,0,none⟩=some (.int .i64 m)):CfgOk Tryd.prog W0 CR where
  mixed:=by kernel_rfl
  globals:=hG
  table:=tT
  oracle:=FH hL hM
theorem Zep {f:FuncId}{args:List AV}{v:AV}{hp:HP}(hT:cT f=none)(h:orA f args hp=some v)(N:Nat):Zb CR (N + 1) f args hp=some (v,hp,none):=by
  show (match cT f with | some fn=>_ | none=>(orA f args hp).map fun v=>(v,hp,none))=_
  rw [hT,h]; rfl
theorem TJ {f:FuncId}{args:List AV}{v:AV}(hT:cT f=none)(h:orR f args=some v)(N:Nat)(hp:HP):Zb CR (N + 1) f args hp=some (v,hp,none):=Zep hT (Zdf h hp) N
theorem ZcL (l:List YS)(hl:∀ r ∈ l,QT r):orR Zq [.lst 6 (recs l)]=some (Rz l)∧orR Zq [.own 6 (recs l)]=some (Rz l):=by
  have h:=EI (u := unR) (row := Yf) (fun x=>rfl) l
  rw [← FW] at h
  constructor
  all_goals
    unfold orR
    rw [if_pos rfl]
    simp only [h]
    rw [if_pos hl]
theorem Ry:ZeE CR where
  T:=fun _ _ h=>h
  L:=Nat.le_refl _
  enc:=fun N hp l hl=>TJ rfl (ZcL l hl).1 N hp
theorem Zcn (N:Nat)(hp:HP)(l:List YS)(hl:∀ r ∈ l,QT r):Zb CR (N + 1) Zq [.own 6 (recs l)] hp=some (Rz l,hp,none):=TJ rfl (ZcL l hl).2 N hp
theorem Ld (N:Nat)(hp:HP)(n:Int)(h:Rng n):Zb CR (N + 1) QD [.int .i64 n] hp=some (.str (Lib.itoa n),hp,none) :=
  TJ rfl (by unfold orR; rw [if_neg (by decide),if_pos rfl]; simp only; rw [if_pos h]) N hp
theorem ZaL (N:Nat)(hp:HP)(s:List UInt8)(h:s.length≤281474976710656):Zb CR (N + 1) JE [.str s] hp=some (.tup [.int .i64 (Num.parseI s).1,.bool (Num.parseI s).2],hp,none) :=
  TJ rfl (by unfold orR; rw [if_neg (by decide),if_neg (by decide),if_neg (by decide),if_pos rfl]; simp only; rw [if_pos h]) N hp
theorem Ak (N:Nat)(hp:HP)(s:List UInt8)(h:s.length≤281474976710656):Zb CR (N + 1) JF [.str s] hp=some (.tup [.int .i64 (Num.parseR s).1,.bool (Num.parseR s).2],hp,none) :=
  TJ rfl (by unfold orR; rw [if_neg (by decide),if_neg (by decide),if_neg (by decide),if_neg (by decide),if_pos rfl]; simp only; rw [if_pos h]) N hp
theorem Zco (N:Nat)(hp:HP)(xs:List (List UInt8))(sep:List UInt8)(h:xs≠[]∧xs.length≤140737488355328∧(Lib.join xs sep).length≤140737488355328):Zb CR (N + 1) XR [.lst 1 (strs xs),.str sep] hp=some (.str (Lib.join xs sep),hp,none) :=
  TJ rfl (by
    have hu:=EI (u := unS) (row := ZbJ) (fun x=>rfl) xs
    rw [← CG] at hu
    unfold orR
    rw [if_neg (by decide),if_neg (by decide),if_neg (by decide),if_neg (by decide),if_neg (by decide),if_pos rfl]
    simp only [hu]
    rw [if_pos h]) N hp
theorem ZaM (N:Nat)(hp:HP)(s:List UInt8)(h:s.length≤1000):Zb CR (N + 1) JG [.str s] hp=some (.lst 1 (strs (Yk s [32])),hp,none) :=
  TJ rfl (by unfold orR; rw [if_neg (by decide),if_neg (by decide),if_neg (by decide),if_neg (by decide),if_neg (by decide),if_neg (by decide),if_neg (by decide),if_pos rfl]; simp only; rw [if_pos h]) N hp
theorem Lc (N:Nat)(hp:HP)(r:YS)(h:QT r):Zb CR (N + 1) Jl [.agg (Yf r)] hp=some (.str (textS r),hp,none) :=
  TJ rfl (by
    have hu:unR (Yf r)=some r:=rfl
    unfold orR
    rw [if_neg (by decide),if_neg (by decide),if_neg (by decide),if_neg (by decide),if_neg (by decide),if_neg (by decide),if_neg (by decide),if_neg (by decide),if_pos rfl]
    simp only [hu]
    rw [if_pos h]) N hp
theorem ZaN (N:Nat)(hp:HP)(s sep:List UInt8)(h:s.length < 4294967281∧1≤sep.length):Zb CR (N + 1) Xl [.str s,.str sep] hp=some (.lst 1 (strs (Yk s sep)),hp,none) :=
  TJ rfl (by unfold orR; rw [if_neg (by decide),if_neg (by decide),if_neg (by decide),if_neg (by decide),if_neg (by decide),if_neg (by decide),if_pos rfl]; simp only; rw [if_pos h]) N hp
def RD (x:List UInt8):List (List UInt8)→Nat→Int
  | [],_=>-1
  | y :: l,i=>if x=y then (i:Int) else RD x l (i + 1)
theorem NZ (x:List UInt8):∀ (l:List (List UInt8)) (i:Nat),-1≤RD x l i∧RD x l i < i + l.length∨(RD x l i=-1)
  | [],i=>.inr rfl
  | y :: l,i=>by
    rw [RD]
    split
    · left; constructor <;> simp <;> omega
    · rcases NZ x l (i + 1) with h | h
      · left; simp; omega
      · exact .inr h
theorem Xd (l:List (List UInt8)):(strs l).length=l.length:=by simp [strs]
theorem JV (l:List (List UInt8))(i:Nat):Yn (.slice 1) (.lst 1 (strs l)) (.int .i64 i)=(l[i]?).map fun c=>AV.ref [.str c]:=by
  rw [NY,strs,List.getElem?_map,Option.map_map]; rfl
theorem D9 {G:GT}{K:KT}{L:Nat}{hp0:HP}{x:List UInt8}{l:List (List UInt8)}(hb:l.length≤4611686018427387):∀ (q w:List (List UInt8)) (m:Nat),l=w ++ q→q.length < m →
    Zr G K L hp0 (Z8 G K L hp0) m (.lst 1 (strs l)) (.str x) (.int .i64 l.length) (.int .i64 w.length) hp0 none=some (.int .i64 (RD x q w.length),hp0,none)
  | _,_,0,_,h=>absurd h (by omega)
  | [],w,m + 1,hl,hm=>by
    have a1:=lp0 hl
    simp only [Zr,Z8,EV,a1,Bool.false_eq_true,if_false]
    rfl
  | y :: q,w,m + 1,hl,hm=>by
    obtain ⟨a1,a2,a3,a4,a5⟩:=lp ZbJ hl hb
    have i1:Yn (.slice 1) (.lst 1 (strs l)) (.int .i64 w.length)=some (.ref [.str y]):=by rw [JV,hl]; simp
    have ih:=D9 (G := G) (K := K) (L := L) (hp0 := hp0) (x := x) hb q (w ++ [y]) m a4 (by simpa using hm)
    by_cases h:x=y
    · have c:decide (x=y)=true:=by simpa using h
      simp only [Zr,EV,a1,if_true,i1,c]
      rw [RD,if_pos h]
    · have c:decide (x=y)=false:=by simpa using h
      simp only [Zr,EV,a1,if_true,i1,c,Bool.false_eq_true,if_false,a3]
      rw [ih,RD,if_neg h]
      simp
theorem ZaI {C:Cfg}(hC:JD C)(N:Nat)(hN:1≤N)(hp:HP)(l:List (List UInt8))(x:List UInt8)(hb:l.length≤4611686018427387):Zb C N ZR [.lst 1 (strs l),.str x] hp=some (.int .i64 (RD x l 0),hp,none):=by
  obtain ⟨m,rfl,hm⟩:=fuel (C := C) (d := 0) hN
  refine QA (hC.T _ _ rfl) ?_
  have hL:=hC.L
  simp only [Yx,EV,Xd]
  exact D9 hb l [] C.L rfl (by omega)
theorem EU {K:KT}{f:FuncId}{args:List AV}{k:IntKind}{n:Int}{hp':HP}(h:K f args []=some (.int k n,hp',none))(ha:args.all AV.bare=true)(hp:HP):ZH K f args hp=some (.int k n,hp,none):=by
  unfold ZH
  rw [if_pos ha,h]; rfl
theorem Fb (e:TypeId)(a b c d f g:List UInt8)(hp:HP):PL e 1 [.str a,.str b,.str c,.str d,.str f,.str g] hp=some (.own 1 (strs [a,b,c,d,f,g]),hp):=rfl
theorem GR (N:Nat)(hN:3≤N)(hp:HP)(r:YS)(ho:QT r):Zb CR N YZ [.agg (Yf r)] hp=some (.str (textS r),hp,none):=by
  obtain ⟨k,rfl,hk⟩:=fuel (C := CR) (d := 2) hN
  have a1:=fun hp=>Tq Ry.toJD k hk hp r
  obtain ⟨q,rfl⟩:∃ q,k=q + 1:=⟨k - 1,by omega⟩
  refine Ie (Ry.T _ _ rfl) ?_
  unfold textS
  have bx:=RQ 6 (Yf r) rfl
  by_cases h:U8 r=0
  · have b:decide (U8 r≠0)=false:=by simpa using h
    rw [if_neg (by simpa using h)]
    obtain ⟨w1,w2⟩:=U1 h
    have t1:=fun hp=>Ld q hp r.Time ho.Time
    have t2:=fun hp=>Ld q hp r.Site ho.Site
    have t3:=fun hp=>Ld q hp r.Proc ho.Proc
    have t4:=fun hp=>Ld q hp r.Index ho.Index
    have t5:=fun hp=>Ld q hp r.Value ho.Value
    have g0:CR.G 0=some [.lst 1 (strs Yu)]:=rfl
    have wr:IntKind.i64.wrap (r.What - 1)=(((r.What - 1).toNat:Nat):Int):=by rw [i64_in (by omega) (by omega)]; omega
    have hw:Yu[(r.What - 1).toNat]? = some (XB r.What):=by
      have hl:Yu.length=18:=rfl
      unfold XB
      rw [List.getD_eq_getElem?_getD,List.getElem?_eq_getElem (by omega)]; rfl
    have i1:Yn (.slice 1) (.lst 1 (strs Yu)) (.int .i64 (((r.What - 1).toNat:Nat):Int))=some (.ref [.str (XB r.What)]):=by rw [JV,hw]; rfl
    have l1:=Lib.itoa_length_le r.Time ho.Time.1 ho.Time.2
    have l2:=Lib.itoa_length_le r.Site ho.Site.1 ho.Site.2
    have l3:=Lib.itoa_length_le r.Proc ho.Proc.1 ho.Proc.2
    have l4:=Lib.itoa_length_le r.Index ho.Index.1 ho.Index.2
    have l5:=Lib.itoa_length_le r.Value ho.Value.1 ho.Value.2
    have l6:=Pj r.What
    have jn:=fun hp=>Zco q hp [Lib.itoa r.Time,Lib.itoa r.Site,XB r.What,Lib.itoa r.Proc,Lib.itoa r.Index,Lib.itoa r.Value] [32] ⟨by simp,by simp,by rw [Zbc]; simp only [List.length_append,List.length_cons,List.length_nil]; omega⟩
    simp only [Xa,EV,bx,LD,GI,W9,Q5,U0,OG,OH,OI,OJ,OL,a1,b,Bool.false_eq_true,if_false,QC,t1,t2,t3,t4,t5,g0,wr,i1,Fb,jn]
  · have b:decide (U8 r≠0)=true:=by simpa using h
    rw [if_pos h]
    simp only [Xa,EV,bx,LD,GI,W9,Q5,a1,b,if_true]
end Go.Proofs.YtdchnngpjjcchaaDoor
end
section
namespace Go.Proofs.YtdchnngpjjcchaaDoor
open Go Go.RowKit Go.Proofs.YtdchnngpjjcchaaDoor.Abs
set_option maxRecDepth 100000
def Qj (s:List UInt8):Int:=(Num.parseI s).1
theorem DV (s:List UInt8):-1000000000000≤Qj s∧Qj s≤1000000000000:=by
  unfold Qj
  rcases Num.parseI_ok s with ⟨n,h,_,h2⟩ | h
  · rw [h]; exact h2
  · rw [h]; exact ⟨by decide,by decide⟩
def XP (w:List UInt8):Int:=1 + RD w Yu 0
theorem OQ (w:List UInt8):0≤XP w∧XP w≤18:=by
  unfold XP
  have:Yu.length=18:=rfl
  rcases NZ w Yu 0 with h | h <;> omega
def YP:YS:=⟨0,0,0,0,0,0⟩
def Zb4 (l:List (List UInt8)):YS:=⟨Qj (l.getD 0 []),Qj (l.getD 1 []),XP (l.getD 2 []),Qj (l.getD 3 []),Qj (l.getD 4 []),Qj (l.getD 5 [])⟩
def Ib (s:List UInt8):YS×Int :=
  if (Yk s [32]).length≠6 then (YP,8) else if textS (Zb4 (Yk s [32]))≠s then (YP,8) else (Zb4 (Yk s [32]),0)
theorem Zb5 (l:List (List UInt8)):QT (Zb4 l):=by
  have h:=fun s=>DV s
  have w:=OQ (l.getD 2 [])
  refine ⟨?_,?_,?_,?_,?_,?_⟩
  · have:=h (l.getD 0 []); exact ⟨by show _≤Qj _; omega,by show Qj _≤_; omega⟩
  · have:=h (l.getD 1 []); exact ⟨by show _≤Qj _; omega,by show Qj _≤_; omega⟩
  · exact ⟨by show _≤XP _; omega,by show XP _≤_; omega⟩
  · have:=h (l.getD 3 []); exact ⟨by show _≤Qj _; omega,by show Qj _≤_; omega⟩
  · have:=h (l.getD 4 []); exact ⟨by show _≤Qj _; omega,by show Qj _≤_; omega⟩
  · have:=h (l.getD 5 []); exact ⟨by show _≤Qj _; omega,by show Qj _≤_; omega⟩
theorem Zd2 {v:List (List UInt8)}(h:v.length=6):∃ a b c d e f,v=[a,b,c,d,e,f]:=by
  match v,h with
  | [a,b,c,d,e,f],_=>exact ⟨a,b,c,d,e,f,rfl⟩
theorem OB {N:Nat}{L:Nat}{hp0 h:HP}{t:TypeId}{l:List (List UInt8)}{x0 x2 y2:AV}(hh:hp0.length≤h.length)(hl:l.length=6)(hs:∀ s ∈ l,s.length≤281474976710656)(k0:AV→AV→AV→AV→AV→HP→Eff→KR):∀ (q w:List (List UInt8)) (m:Nat),l=w ++ q→q.length < m →
    Yc CR.G (Zb CR (N + 1)) L hp0 k0 m x0 x2 y2 (.lst 1 (strs l)) (.ptr h.length 0) (.lst 1 (strs l)) (.int .i64 l.length) (.int .i64 w.length) (h ++ [.cells (ics (w.map Qj) ++ List.replicate q.length (.int .i64 0)) t]) none=k0 x0 x2 y2 (.lst 1 (strs l)) (.ptr h.length 0) (h ++ [.cells (ics (l.map Qj)) t]) none
  | _,_,0,_,h=>absurd h (by omega)
  | [],w,m + 1,hw,hm=>by
    have a1:=lp0 hw
    have:l=w:=by rw [hw]; simp
    simp only [Yc,EV,a1,Bool.false_eq_true,if_false,List.length_nil,List.replicate_zero,List.append_nil]
    rw [this]
  | y :: q,w,m + 1,hw,hm=>by
    obtain ⟨a1,a2,a3,a4,a5⟩:=lp ZbJ hw (by omega)
    have i1:Yn (.slice 1) (.lst 1 (strs l)) (.int .i64 w.length)=some (.ref [.str y]):=by rw [JV,hw]; simp
    have p1:=fun hp=>ZaL N hp y (hs y a5)
    have hwl:w.length < 6:=by have:=congrArg List.length hw; simp at this; omega
    have i2:=VG h.length w.length hwl
    have hml:(w.map Qj).length=w.length:=by simp
    have s1:=fun n=>Iw hp0.length h (ics (w.map Qj) ++ List.replicate (q.length + 1) (.int .i64 0)) t w.length (.int .i64 n) none rfl (by simp [ics]) hh
    have sm:=set_mid (w.map Qj) q.length (Qj y)
    rw [hml] at sm
    have ih:=OB (N := N) (L := L) (hp0 := hp0) (t := t) (x0 := x0) (x2 := x2) (y2 := y2) hh hl hs k0 q (w ++ [y]) m a4 (by simpa using hm)
    rw [List.map_append,List.map_singleton] at ih
    have e1:(Num.parseI y).1=Qj y:=rfl
    simp only [Yc,EV,a1,if_true,i1,p1,GI,EX,i2,List.length_cons,s1,e1,sm,a3]
    exact ih
theorem ZaY (bs:Nat)(hp:HP)(r:YS):JU bs hp (.agg (Yf r))=some (.agg (Yf r)):=rfl
theorem ZbK (bs n:Nat)(h:HP)(cs c:List AV)(t:TypeId)(x y:Zf)(ef:Eff)(h1:c.length=n)(h2:cs.length=n)(h4:bs≤h.length):stV bs n (.ptr h.length 0) (.agg c) (h ++ [.cells cs t] ++ [x] ++ [y]) ef=some (h ++ [.cells c t] ++ [x] ++ [y],ef):=by
  have e:(h ++ [.cells cs t] ++ [x] ++ [y])[h.length]? = some (.cells cs t):=by simp
  simp only [stV,e]
  have hs:splice cs 0 c=c:=by simp [splice,h1,← h2]
  have hn:Xc bs ef h.length 0=ef:=by simp [Xc]; omega
  rw [if_pos ⟨h1,by omega,rfl⟩,hn,GG,hs]
  simp
theorem ED (bs n:Nat)(h:HP)(cs c:List AV)(t:TypeId)(ef:Eff)(h1:c.length=n)(h2:cs.length=n)(h4:bs≤h.length):stV bs n (.ptr h.length 0) (.agg c) (h ++ [.cells cs t]) ef=some (h ++ [.cells c t],ef):=st_all bs n h cs c t ef h1 h2 h4
theorem Zct:fill [(.int .i64 0),(.int .i64 0),(.int .i64 0),(.int .i64 0),(.int .i64 0),(.int .i64 0)] []=some (Yf YP):=rfl
theorem Ar (a b c d e f:Int):fill (Yf YP) [(0,1,.int .i64 a),(1,1,.int .i64 b),(2,1,.int .i64 c),(3,1,.int .i64 d),(4,1,.int .i64 e),(5,1,.int .i64 f)]=some [.int .i64 a,.int .i64 b,.int .i64 c,.int .i64 d,.int .i64 e,.int .i64 f]:=rfl
theorem Xe:([(.int .i64 0),(.int .i64 0),(.int .i64 0),(.int .i64 0),(.int .i64 0),(.int .i64 0)]:List AV)=Yf YP:=rfl
theorem UY (hp0 hp:HP)(r:YS)(e:Int):YV false hp0 (.tup [(.agg (Yf r)),.int .i64 e]) hp none=(.tup [.agg (Yf r),.int .i64 e],hp0,none):=by
  rw [TUP.1,ZaY,D7]; rfl
def Zd9 (p:YS×Int):AV:=.tup [.agg (Yf p.1),.int .i64 p.2]
theorem Ri (s:List UInt8):∀ x ∈ Yk s [32],x.length≤s.length:=by
  have key:∀ (k:Nat) (s:List UInt8),∀ x ∈ Lib.splitK [32] 0 k s,x.length≤s.length:=by
    intro k
    induction k with
    | zero =>
      intro s x hx
      obtain rfl:x=s:=by simpa [Lib.splitK] using hx
      exact Nat.le_refl _
    | succ k ih =>
      intro s x hx
      unfold Lib.splitK at hx
      split at hx
      · obtain rfl:x=s:=by simpa using hx
        exact Nat.le_refl _
      · rcases List.mem_cons.1 hx with rfl | hx
        · simp; omega
        · have:=ih _ x hx
          simp at this; omega
  exact key _ s
theorem UV (N:Nat)(hN:4≤N)(hp0:HP)(s:List UInt8)(hs:s.length < 4294967281):Zb CR N YA [.str s] hp0=some (Zd9 (Ib s),hp0,none):=by
  obtain ⟨k,rfl,hk⟩:=fuel (C := CR) (d := 3) hN
  obtain ⟨q,rfl⟩:∃ q,k=q + 1:=⟨k - 1,by omega⟩
  refine KY (Ry.T _ _ rfl) ?_
  have hL:=Ry.L
  have sp:=fun hp=>ZaN q hp s [32] ⟨hs,by simp⟩
  have hsl:=Ri s
  unfold Ib
  obtain ⟨l,hl⟩:∃ l,Yk s [32]=l:=⟨_,rfl⟩
  rw [hl] at sp hsl
  rw [hl]
  by_cases h6:l.length=6
  · rw [if_neg (by simpa using h6)]
    have b1:decide ((l.length:Int)≠6)=false:=by simp [h6]
    have lo:=OB (N := q) (L := CR.L) (hp0 := hp0) (h := hp0 ++ [Zf.cells (Yf YP) Ze]) (t := WJ) (x0 := .str s) (x2 := .ptr hp0.length 0) (y2 := .ptr hp0.length 0) (by simp) h6 (fun x hx=>by have:=hsl x hx; omega) (Yp CR.G (Zb CR (q + 1)) CR.L hp0) l [] CR.L rfl (by omega)
    have st:WT CR.G (Zb CR (q + 1)) CR.L (.str s) hp0=Yc CR.G (Zb CR (q + 1)) CR.L hp0 (Yp CR.G (Zb CR (q + 1)) CR.L hp0) CR.L (.str s) (.ptr hp0.length 0) (.ptr hp0.length 0) (.lst 1 (strs l)) (.ptr (hp0 ++ [Zf.cells (Yf YP) Ze]).length 0) (.lst 1 (strs l)) (.int .i64 l.length) (.int .i64 (([]:List (List UInt8)).length:Nat)) ((hp0 ++ [Zf.cells (Yf YP) Ze]) ++ [.cells (ics (([]:List (List UInt8)).map Qj) ++ List.replicate l.length (.int .i64 0)) WJ]) none:=by
      simp only [WT,EV,sp,Xd,b1,Bool.false_eq_true,if_false,Xe]
      rw [h6]
      rfl
    rw [st,lo]
    obtain ⟨a,b,c,d,e,f,rfl⟩:=Zd2 h6
    obtain ⟨R,hR⟩:∃ R,Zb4 [a,b,c,d,e,f]=R:=⟨_,rfl⟩
    have hok:QT R:=by rw [← hR]; exact Zb5 _
    rw [hR]
    have hRr:([.int .i64 (Qj a),.int .i64 (Qj b),.int .i64 (XP c),.int .i64 (Qj d),.int .i64 (Qj e),.int .i64 (Qj f)]:List AV)=Yf R:=by rw [← hR]; rfl
    have i0:∀ g,Yn (.arr 6 1) (.ptr g 0) (.int .i64 0)=some (.ptr g 0):=fun g=>VG g 0 (by omega)
    have i1:∀ g,Yn (.arr 6 1) (.ptr g 0) (.int .i64 1)=some (.ptr g 1):=fun g=>VG g 1 (by omega)
    have i3:∀ g,Yn (.arr 6 1) (.ptr g 0) (.int .i64 3)=some (.ptr g 3):=fun g=>VG g 3 (by omega)
    have i4:∀ g,Yn (.arr 6 1) (.ptr g 0) (.int .i64 4)=some (.ptr g 4):=fun g=>VG g 4 (by omega)
    have i5:∀ g,Yn (.arr 6 1) (.ptr g 0) (.int .i64 5)=some (.ptr g 5):=fun g=>VG g 5 (by omega)
    have lc:=fun o=>DD (hp0 ++ [Zf.cells (Yf YP) Ze]) (ics [Qj a,Qj b,Qj c,Qj d,Qj e,Qj f]) WJ o
    have g0:CR.G 0=some [.lst 1 (strs Yu)]:=rfl
    have j2:Yn (.slice 1) (.lst 1 (strs [a,b,c,d,e,f])) (.int .i64 2)=some (.ref [.str c]):=JV [a,b,c,d,e,f] 2
    have bi:=fun hp=>EU (K := Zb CR (q + 1)) (ZaI Ry.toJD (q + 1) (by omega) [] Yu c (by decide)) rfl hp
    have wr:IntKind.i64.wrap (1 + RD c Yu 0)=XP c:=by have:=OQ c; unfold XP at this ⊢; exact i64_in (by omega) (by omega)
    have tx:=fun hp=>GR (q + 1) (by omega) hp R hok
    have mp:[a,b,c,d,e,f].map Qj=[Qj a,Qj b,Qj c,Qj d,Qj e,Qj f]:=rfl
    have la:=fun (h:HP) (x:YS)=>X6 (YF h (Zf.cells (Yf x) Ze)) 6 rfl rfl
    have la2:=fun (h:HP) (x:YS) (y z:Zf)=>X6 (D8 (D8 (YF h (Zf.cells (Yf x) Ze)) y) z) 6 rfl rfl
    have sA:=fun (h:HP) (cs:List AV) (hc:cs.length=6) (hh:hp0.length≤h.length)=>st_all hp0.length 6 h cs (Yf R) Ze none rfl hc hh
    have sA':=sA (hp0 ++ [Zf.cells (Yf YP) Ze] ++ [.cells (ics [Qj a,Qj b,Qj c,Qj d,Qj e,Qj f]) WJ]) (Yf YP) rfl (by simp)
    have sM:=fun (x:YS) (y z:Zf)=>ZbK hp0.length 6 hp0 (Yf YP) (Yf x) Ze y z none rfl rfl (Nat.le_refl _)
    rw [mp]
    by_cases hT:textS R=s
    · have c1:decide (textS R≠s)=false:=by simpa using hT
      rw [if_neg (by simpa using hT)]
      simp only [Yp,EV,i0,i1,i3,i4,i5,lc,AP,g0,j2,bi,wr,Ar,hRr,Xe,sA',la,tx,c1,Bool.false_eq_true,if_false,sM,la2,Q5]
      rw [UY]; rfl
    · have c1:decide (textS R≠s)=true:=by simpa using hT
      rw [if_pos hT]
      simp only [Yp,EV,i0,i1,i3,i4,i5,lc,AP,g0,j2,bi,wr,Ar,hRr,Xe,ZaP,sA',la,tx,c1,if_true,sM,la2,Q5]
      rw [UY]; rfl
  · rw [if_pos h6]
    have b1:decide ((l.length:Int)≠6)=true:=by simp; omega
    have sO:=ED hp0.length 6 hp0 (Yf YP) (Yf YP) Ze none rfl rfl (Nat.le_refl _)
    have la:=fun (h:HP) (x:YS)=>X6 (YF h (Zf.cells (Yf x) Ze)) 6 rfl rfl
    simp only [WT,EV,sp,Xd,b1,if_true,ZaP,Xe,sO,la,Q5]
    rw [UY]; rfl
end Go.Proofs.YtdchnngpjjcchaaDoor
end
section
namespace Go.Proofs.YtdchnngpjjcchaaDoor
open Go Go.RowKit Go.Proofs.YtdchnngpjjcchaaDoor.Abs
set_option maxRecDepth 100000
theorem BR (a b c d e f:List UInt8)(ha:BZ a)(hb:BZ b)(hc:BZ c)(hd:BZ d)(he:BZ e)(hf:BZ f):Yk (Lib.join [a,b,c,d,e,f] [32]) [32]=[a,b,c,d,e,f]:=by
  rw [Zbc]
  simp only [List.singleton_append,List.cons_append,List.nil_append]
  rw [Vw a _ ha,Vw b _ hb,Vw c _ hc,Vw d _ hd,Vw e _ he,EC f hf]
theorem MZ (k:Nat):∀ u:Nat,u≤k→BZ (Lib.decDigits u):=by
  induction k with
  | zero =>
    intro u hu c hc e
    obtain rfl:u=0:=by omega
    rw [Num.decDigits_small 0 (by omega),e] at hc
    revert hc
    decide
  | succ k ih =>
    intro u hu c hc e
    subst e
    by_cases h:u < 10
    · rw [Num.decDigits_small u h,List.mem_singleton] at hc
      have:=congrArg UInt8.toNat hc
      rw [Num.digit_toNat u h] at this
      have e32:(32:UInt8).toNat=32:=rfl
      omega
    · rw [Num.decDigits_big u h,List.mem_append] at hc
      rcases hc with hc | hc
      · exact ih (u / 10) (by omega) 32 hc rfl
      · rw [List.mem_singleton] at hc
        have:=congrArg UInt8.toNat hc
        rw [Num.digit_toNat _ (by omega)] at this
        have e32:(32:UInt8).toNat=32:=rfl
        omega
theorem Ho (n:Int):BZ (Lib.itoa n):=by
  by_cases h:0≤n
  · rw [Num.itoa_pos n h]; exact MZ _ _ (Nat.le_refl _)
  · rw [Num.itoa_minus n (by omega)]
    intro c hc e
    subst e
    rcases List.mem_cons.1 hc with hc | hc
    · revert hc; decide
    · exact MZ _ _ (Nat.le_refl _) 32 hc rfl
theorem CY:∀ w ∈ Yu,BZ w:=by decide
theorem ZbQ (n:Int):BZ (XB n):=by
  unfold XB
  by_cases h:(n - 1).toNat < Yu.length
  · rw [List.getD_eq_getElem?_getD,List.getElem?_eq_getElem h]
    exact CY _ (List.getElem_mem h)
  · rw [List.getD_eq_getElem?_getD,List.getElem?_eq_none (by omega)]
    intro c hc; simp at hc
structure ZdI (r:YS):Prop where
  T:0≤r.Time∧r.Time≤1000000000
  S:0≤r.Site∧r.Site≤15
  W:1≤r.What∧r.What≤18
  P:0≤r.Proc∧r.Proc≤1000000000000
  I:0≤r.Index∧r.Index≤63
  V:-1000000000000≤r.Value∧r.Value≤1000000000000
theorem ZaZ {r:YS}(h:U8 r=0):ZdI r:=by
  have w:=U1 h
  unfold U8 at h
  rw [if_neg (by omega)] at h
  split at h
  · rename_i g
    obtain ⟨g1,g2,g3,g4,g5⟩:=g
    simp only [inB,inN,Bool.and_eq_true,decide_eq_true_eq] at g1 g2 g3 g4 g5
    exact ⟨g1,g2,w,g3,g4,g5⟩
  · cases h
theorem Nk {r:YS}(h:U8 r=0):Yk (textS r) [32]=[Lib.itoa r.Time,Lib.itoa r.Site,XB r.What,Lib.itoa r.Proc,Lib.itoa r.Index,Lib.itoa r.Value]:=by
  unfold textS
  rw [if_neg (by simpa using h)]
  exact BR _ _ _ _ _ _ (Ho _) (Ho _) (ZbQ _) (Ho _) (Ho _) (Ho _)
theorem CP {r:YS}(h:U8 r≠0):textS r=[]:=by unfold textS; rw [if_pos h]
end Go.Proofs.YtdchnngpjjcchaaDoor
end
section
namespace Go.Proofs.YtdchnngpjjcchaaDoor
open Go Go.RowKit Go.Proofs.YtdchnngpjjcchaaDoor.Abs
set_option maxRecDepth 100000
def MC (i:Nat)(x:List UInt8)(s:List Int×Bool):List Int×Bool:=if i≠2∧s.2=true then (s.1.set i (Num.parseR x).1,(Num.parseR x).2) else s
def QS:Nat→List (List UInt8)→List Int×Bool→List Int×Bool
  | _,[],s=>s
  | i,x :: l,s=>QS (i + 1) l (MC i x s)
def rK (n:List Int)(k:Nat):YS:=⟨n.getD 0 0,n.getD 1 0,k,n.getD 3 0,n.getD 4 0,n.getD 5 0⟩
def KZ (n:List Int)(ok:Bool)(c s:List UInt8):List (List UInt8)→Nat→YS×Int
  | [],_=>(YP,8)
  | y :: q,k=>if (((ok && decide (y=c)) && decide (U8 (rK n k)=0)) && decide (textS (rK n k)=s))=true then (rK n k,0) else KZ n ok c s q (k + 1)
theorem Zbb (n:List Int)(i:Nat)(x:Int):(ics n).set i (.int .i64 x)=ics (n.set i x):=by simp [ics,List.map_set]
theorem BO {N:Nat}{L:Nat}{hp0 h:HP}{t:TypeId}{l:List (List UInt8)}{x0 x2 y2:AV}(hh:hp0.length≤h.length)(hl:l.length=6)(hs:∀ s ∈ l,s.length≤281474976710656)(k0:AV→AV→AV→AV→AV→AV→HP→Eff→KR):∀ (q w:List (List UInt8)) (m:Nat) (n:List Int) (ok:Bool),l=w ++ q→q.length < m→n.length=6 →
    Yh CR.G (Zb CR (N + 1)) L hp0 k0 m x0 x2 y2 (.lst 1 (strs l)) (.ptr h.length 0) (.bool ok) (.int .i64 w.length) (h ++ [.cells (ics n) t]) none=k0 x0 x2 y2 (.lst 1 (strs l)) (.ptr h.length 0) (.bool (QS w.length q (n,ok)).2) (h ++ [.cells (ics (QS w.length q (n,ok)).1) t]) none
  | _,_,0,_,_,_,h,_=>absurd h (by omega)
  | [],w,m + 1,n,ok,hw,hm,hn=>by
    have e6:w.length=6:=by rw [← hl,hw]; simp
    have a1:decide ((w.length:Int) < 6)=false:=by simp; omega
    simp only [Yh,EV,a1,Bool.false_eq_true,if_false,QS]
  | y :: q,w,m + 1,n,ok,hw,hm,hn=>by
    have hwl:w.length < 6:=by have:=congrArg List.length hw; simp at this; omega
    have a0:decide ((w.length:Int) < 6)=true:=by simp; omega
    obtain ⟨a1,a2,a3,a4,a5⟩:=lp ZbJ hw (by omega)
    have i1:Yn (.slice 1) (.lst 1 (strs l)) (.int .i64 w.length)=some (.ref [.str y]):=by rw [JV,hw]; simp
    have p1:=fun hp=>Ak N hp y (hs y a5)
    have i2:=VG h.length w.length hwl
    have s1:=fun x=>Iw hp0.length h (ics n) t w.length (.int .i64 x) none rfl (by simp [ics]; omega) hh
    rw [QS]
    have e1:(w ++ [y]).length=w.length + 1:=by simp
    by_cases hc:w.length≠2∧ok=true
    · have hst:MC w.length y (n,ok)=(n.set w.length (Num.parseR y).1,(Num.parseR y).2):=by unfold MC; rw [if_pos hc]
      have ih:=BO (N := N) (L := L) (hp0 := hp0) (t := t) (x0 := x0) (x2 := x2) (y2 := y2) hh hl hs k0 q (w ++ [y]) m (n.set w.length (Num.parseR y).1) (Num.parseR y).2 a4 (by simpa using hm) (by simpa using hn)
      rw [e1] at ih
      obtain ⟨hc1,rfl⟩:=hc
      have b1:decide ((w.length:Int)≠2)=true:=by simp; omega
      rw [hst]
      simp only [Yh,EV,a0,if_true,b1,Bool.and_true,i1,p1,GI,EX,i2,s1,Zbb,a3,e1]
      exact ih
    · have hst:MC w.length y (n,ok)=(n,ok):=by unfold MC; rw [if_neg hc]
      have ih:=BO (N := N) (L := L) (hp0 := hp0) (t := t) (x0 := x0) (x2 := x2) (y2 := y2) hh hl hs k0 q (w ++ [y]) m n ok a4 (by simpa using hm) hn
      rw [e1] at ih
      have b1:(decide ((w.length:Int)≠2) && ok)=false:=by
        by_cases h2:w.length=2
        · have:decide ((w.length:Int)≠2)=false:=by simp; omega
          rw [this]; rfl
        · have:ok=false:=by
            cases ok
            · rfl
            · exact absurd ⟨h2,rfl⟩ hc
          rw [this]; simp
      rw [hst]
      simp only [Yh,EV,a0,if_true,b1,Bool.false_eq_true,if_false,a3,e1]
      exact ih
theorem Zc0 {hp0 T:HP}{A B:Zf}:(hp0 ++ A :: B :: T)[hp0.length + 1]? = some B∧(hp0 ++ A :: B :: T)[hp0.length]? = some A:=by
  constructor
  · rw [List.getElem?_append_right (by omega)]; simp
  · simp
theorem Zd3 (bs:Nat)(h T:HP)(cs:List AV)(r:YS)(t:TypeId)(h2:cs.length=6)(h4:bs≤h.length):stV bs 6 (.ptr h.length 0) (.agg (Yf r)) (h ++ .cells cs t :: T) none=some (h ++ .cells (Yf r) t :: T,none):=by
  have e:(h ++ Zf.cells cs t :: T)[h.length]? = some (.cells cs t):=by simp
  simp only [stV,e]
  have hs:splice cs 0 (Yf r)=Yf r:=by simp [splice,W9,← h2]
  have hn:Xc bs none h.length 0=none:=by simp [Xc]; omega
  rw [if_pos ⟨rfl,by omega,rfl⟩,hn,GG,hs]
  simp
theorem Zc5 (h T:HP)(r:YS)(t:TypeId):ZJ (h ++ .cells (Yf r) t :: T) 6 (.ptr h.length 0)=some (.agg (Yf r)):=by
  have e:(h ++ Zf.cells (Yf r) t :: T)[h.length]? = some (.cells (Yf r) t):=by simp
  exact X6 e 6 rfl rfl
theorem Ls {N:Nat}{L:Nat}{hp0:HP}{t:TypeId}{W:List (List UInt8)}{s c:List UInt8}{l:List (List UInt8)}{n:List Int}{ok:Bool}(hN:2≤N + 1)(hW:W.length≤1000)(hn:n.length=6)(hr:∀ k≤1000,QT (rK n k))(hl2:l[2]? = some c):∀ (q w:List (List UInt8)) (m:Nat) (T:HP),W=w ++ q→q.length < m →
    YB CR.G (Zb CR (N + 1)) L hp0 (WS CR.G (Zb CR (N + 1)) L hp0) m (.str s) (.ptr hp0.length 0) (.ptr hp0.length 0) (.lst 1 (strs l)) (.ptr (hp0.length + 1) 0) (.bool ok) (.lst 1 (strs W)) (.int .i64 w.length) (hp0 ++ .cells (Yf YP) Ze :: .cells (ics n) t :: T) none=some (Zd9 (KZ n ok c s q w.length),hp0,none)
  | _,_,0,_,_,h=>absurd h (by omega)
  | [],w,m + 1,T,hw,hm=>by
    have a1:=lp0 hw
    have s0:=Zd3 hp0.length hp0 (.cells (ics n) t :: T) (Yf YP) YP Ze rfl (Nat.le_refl _)
    have g0:=Zc5 hp0 (.cells (ics n) t :: T) YP Ze
    simp only [YB,WS,EV,Xd,a1,Bool.false_eq_true,if_false,Zct,s0,g0,Q5]
    rw [UY]; rfl
  | y :: q,w,m + 1,T,hw,hm=>by
    obtain ⟨a1,a2,a3,a4,a5⟩:=lp ZbJ hw (by omega)
    obtain ⟨n0,n1,n2,n3,n4,n5,rfl⟩:=six hn
    have hwl:w.length≤1000:=by have:=congrArg List.length hw; simp at this; omega
    have i0:∀ g,Yn (.arr 6 1) (.ptr g 0) (.int .i64 0)=some (.ptr g 0):=fun g=>VG g 0 (by omega)
    have i1:∀ g,Yn (.arr 6 1) (.ptr g 0) (.int .i64 1)=some (.ptr g 1):=fun g=>VG g 1 (by omega)
    have i3:∀ g,Yn (.arr 6 1) (.ptr g 0) (.int .i64 3)=some (.ptr g 3):=fun g=>VG g 3 (by omega)
    have i4:∀ g,Yn (.arr 6 1) (.ptr g 0) (.int .i64 4)=some (.ptr g 4):=fun g=>VG g 4 (by omega)
    have i5:∀ g,Yn (.arr 6 1) (.ptr g 0) (.int .i64 5)=some (.ptr g 5):=fun g=>VG g 5 (by omega)
    have lc:=fun o=>Hr (Zc0 (hp0 := hp0) (T := T) (A := .cells (Yf YP) Ze) (B := .cells (ics [n0,n1,n2,n3,n4,n5]) t)).1 o
    have j1:Yn (.slice 1) (.lst 1 (strs W)) (.int .i64 w.length)=some (.ref [.str y]):=by rw [JV,hw]; simp
    have j2:Yn (.slice 1) (.lst 1 (strs l)) (.int .i64 2)=some (.ref [.str c]):=by have:=JV l 2; rw [hl2] at this; exact this
    obtain ⟨R,hR⟩:∃ R,rK [n0,n1,n2,n3,n4,n5] w.length=R:=⟨_,rfl⟩
    have hok:QT R:=by rw [← hR]; exact hr _ hwl
    have hRr:([.int .i64 n0,.int .i64 n1,.int .i64 (w.length:Int),.int .i64 n3,.int .i64 n4,.int .i64 n5]:List AV)=Yf R:=by rw [← hR]; rfl
    obtain ⟨H,hH⟩:∃ H:HP,hp0 ++ .cells (Yf YP) Ze :: .cells (ics [n0,n1,n2,n3,n4,n5]) t :: T=H:=⟨_,rfl⟩
    have hHl:hp0.length≤H.length:=by rw [← hH]; simp
    have sA:=st_all hp0.length 6 H (Yf YP) (Yf R) Ze none rfl rfl hHl
    have la:=X6 (YF H (Zf.cells (Yf R) Ze)) 6 rfl rfl
    have k1:=fun hp=>Tu Ry.toJD (N + 1) hN hp R
    have t1:=fun hp=>Lc N hp R hok
    rw [KZ,hR]
    rw [hH] at lc
    have hH2:∀ x,H ++ [x]=hp0 ++ .cells (Yf YP) Ze :: .cells (ics [n0,n1,n2,n3,n4,n5]) t :: (T ++ [x]):=fun x=>by rw [← hH]; simp
    have s0:=Zd3 hp0.length hp0 (.cells (ics [n0,n1,n2,n3,n4,n5]) t :: (T ++ [.cells (Yf R) Ze])) (Yf YP) R Ze rfl (Nat.le_refl _)
    have g0:=Zc5 hp0 (.cells (ics [n0,n1,n2,n3,n4,n5]) t :: (T ++ [.cells (Yf R) Ze])) R Ze
    rw [← hH2] at s0
    have ih:=Ls (N := N) (L := L) (hp0 := hp0) (t := t) (s := s) (ok := ok) hN hW hn hr hl2 q (w ++ [y]) m (T ++ [.cells (Yf R) Ze]) a4 (by simpa using hm)
    have e1:(w ++ [y]).length=w.length + 1:=by simp
    rw [e1] at ih
    rw [hH]
    by_cases hc:(((ok && decide (y=c)) && decide (U8 R=0)) && decide (textS R=s))=true
    · rw [if_pos hc]
      simp only [YB,EV,Xd,a1,if_true,i0,i1,i3,i4,i5,lc,AP,Ar,Xe,hRr,sA,j1,j2,la,QC,k1,t1,hc,s0,g0,Q5]
      rw [UY]; rfl
    · rw [if_neg hc]
      have hc':=Bool.not_eq_true _ ▸ hc
      simp only [YB,EV,Xd,a1,if_true,i0,i1,i3,i4,i5,lc,AP,Ar,Xe,hRr,sA,j1,j2,la,QC,k1,t1,hc',Bool.false_eq_true,if_false,a3,e1]
      rw [hH2]
      exact ih
def VH:List Int:=[0,0,0,0,0,0]
def Md (s:List UInt8):YS×Int :=
  if (Yk s [32]).length≠6 then (YP,8) else KZ (QS 0 (Yk s [32]) (VH,true)).1 (QS 0 (Yk s [32]) (VH,true)).2 ((Yk s [32]).getD 2 []) s ([] :: Yu |>.drop 1) 1
theorem PS (x:List UInt8):-1000000000000≤(Num.parseR x).1∧(Num.parseR x).1≤1000000000000:=by
  rw [← Num.parse_same]; exact DV x
theorem Rj:∀ (l:List (List UInt8)) (i:Nat) (s:List Int×Bool),s.1.length=6→(∀ n ∈ s.1,-1000000000000≤n∧n≤1000000000000)→(QS i l s).1.length=6∧∀ n ∈ (QS i l s).1,-1000000000000≤n∧n≤1000000000000
  | [],_,_,h,h2=>⟨h,h2⟩
  | x :: l,i,s,h,h2=>by
    rw [QS]
    refine Rj l (i + 1) _ ?_ ?_
    · unfold MC; split
      · simpa using h
      · exact h
    · unfold MC; split
      · intro n hn
        rcases List.mem_or_eq_of_mem_set hn with hn | rfl
        · exact h2 n hn
        · exact PS x
      · exact h2
theorem Ze0 (n:List Int)(hn:n.length=6)(hr:∀ x ∈ n,-1000000000000≤x∧x≤1000000000000)(k:Nat)(hk:k≤1000):QT (rK n k):=by
  obtain ⟨a,b,c,d,e,f,rfl⟩:=six hn
  have h:=fun x hx=>hr x hx
  have ha:=h a (by simp); have hb:=h b (by simp); have hd:=h d (by simp); have he:=h e (by simp); have hf:=h f (by simp)
  constructor <;> simp only [rK,List.getD_cons_zero,List.getD_cons_succ] <;> omega
theorem Aj (N:Nat)(hN:4≤N)(hp0:HP)(s:List UInt8)(hs:s.length≤1000):Zb CR N Vy [.str s] hp0=some (Zd9 (Md s),hp0,none):=by
  obtain ⟨k,rfl,hk⟩:=fuel (C := CR) (d := 3) hN
  obtain ⟨q,rfl⟩:∃ q,k=q + 1:=⟨k - 1,by omega⟩
  refine TW (Ry.T _ _ rfl) ?_
  have hL:=Ry.L
  have sp:=fun hp=>ZaM q hp s hs
  have hsl:=Ri s
  unfold Md
  obtain ⟨l,hl⟩:∃ l,Yk s [32]=l:=⟨_,rfl⟩
  rw [hl] at sp hsl
  rw [hl]
  by_cases h6:l.length=6
  · rw [if_neg (by simpa using h6)]
    have b1:decide ((l.length:Int)≠6)=false:=by simp [h6]
    obtain ⟨v1,v2⟩:=Rj l 0 (VH,true) rfl (by decide)
    have lo:=BO (N := q) (L := CR.L) (hp0 := hp0) (h := hp0 ++ [Zf.cells (Yf YP) Ze]) (t := WJ) (l := l) (x0 := .str s) (x2 := .ptr hp0.length 0) (y2 := .ptr hp0.length 0) (by simp) h6 (fun x hx=>by have:=hsl x hx; omega) (Wu CR.G (Zb CR (q + 1)) CR.L hp0) l [] CR.L VH true rfl (by omega) rfl
    have st:Xz CR.G (Zb CR (q + 1)) CR.L (.str s) hp0=Yh CR.G (Zb CR (q + 1)) CR.L hp0 (Wu CR.G (Zb CR (q + 1)) CR.L hp0) CR.L (.str s) (.ptr hp0.length 0) (.ptr hp0.length 0) (.lst 1 (strs l)) (.ptr (hp0 ++ [Zf.cells (Yf YP) Ze]).length 0) (.bool true) (.int .i64 (([]:List (List UInt8)).length:Nat)) ((hp0 ++ [Zf.cells (Yf YP) Ze]) ++ [.cells (ics VH) WJ]) none:=by
      simp only [Xz,EV,sp,Xd,b1,Bool.false_eq_true,if_false,Xe]
      rfl
    rw [st,lo]
    have wd:=fun hp=>Dp Ry.toJD (q + 1) (by omega) hp
    have hc:l[2]? = some (l.getD 2 []):=by rw [List.getD_eq_getElem?_getD,List.getElem?_eq_getElem (by omega)]; rfl
    have fl:=Ls (N := q) (L := CR.L) (hp0 := hp0) (t := WJ) (W := [] :: Yu) (s := s) (ok := (QS 0 l (VH,true)).2) (by omega) (by decide) v1 (Ze0 _ v1 v2) hc Yu [[]] CR.L [] rfl (by have:Yu.length=18:=rfl; omega)
    have hq:hp0 ++ [Zf.cells (Yf YP) Ze] ++ [.cells (ics (QS 0 l (VH,true)).1) WJ]=hp0 ++ .cells (Yf YP) Ze :: .cells (ics (QS 0 l (VH,true)).1) WJ :: []:=by simp
    have hlen:(hp0 ++ [Zf.cells (Yf YP) Ze]).length=hp0.length + 1:=by simp
    rw [hlen]
    simp only [List.length_nil,Wu,wd,EV]
    rw [hq]
    exact fl
  · rw [if_pos h6]
    have b1:decide ((l.length:Int)≠6)=true:=by simp; omega
    have sO:=ED hp0.length 6 hp0 (Yf YP) (Yf YP) Ze none rfl rfl (Nat.le_refl _)
    have la:=fun (h:HP) (x:YS)=>X6 (YF h (Zf.cells (Yf x) Ze)) 6 rfl rfl
    simp only [Xz,EV,sp,Xd,b1,if_true,ZaP,Xe,sO,la,Q5]
    rw [UY]; rfl
end Go.Proofs.YtdchnngpjjcchaaDoor
end
section
namespace Go.Proofs.YtdchnngpjjcchaaDoor
open Go Go.RowKit Go.Proofs.YtdchnngpjjcchaaDoor.Abs
set_option maxRecDepth 100000
theorem Pe (n:List Int)(c s:List UInt8):∀ (q:List (List UInt8)) (k:Nat),KZ n false c s q k=(YP,8)
  | [],_=>rfl
  | y :: q,k=>by rw [KZ]; simp only [Bool.false_and,Bool.false_eq_true,if_false]; exact Pe n c s q (k + 1)
theorem Il (n:List Int)(c s:List UInt8):∀ (q:List (List UInt8)) (k:Nat),c ∉ q→KZ n true c s q k=(YP,8)
  | [],_,_=>rfl
  | y :: q,k,h=>by
    have hy:decide (y=c)=false:=by simp; rintro rfl; exact h (List.mem_cons_self ..)
    rw [KZ,hy]
    simp only [Bool.and_false,Bool.false_and,Bool.false_eq_true,if_false]
    exact Il n c s q (k + 1) fun hc=>h (List.mem_cons_of_mem _ hc)
theorem DZ (n:List Int)(c s:List UInt8)(hs:∀ j,textS (rK n j)=s→U8 (rK n j)=0):∀ (q:List (List UInt8)) (k:Nat),q.Nodup→c ∈ q→∃ j:Nat,RD c q k=(j:Int)∧KZ n true c s q (k + 1)=if textS (rK n (j + 1))=s then (rK n (j + 1),0) else (YP,8)
  | [],_,_,h=>by cases h
  | y :: q,k,hn,h=>by
    rw [List.nodup_cons] at hn
    by_cases hy:y=c
    · subst hy
      refine ⟨k,by rw [RD,if_pos rfl],?_⟩
      rw [KZ]
      by_cases ht:textS (rK n (k + 1))=s
      · have:=hs _ ht
        simp [ht,this]
      · simp only [ht,decide_false,Bool.and_false,Bool.false_eq_true,if_false]
        exact Il n y s q (k + 1 + 1) hn.1
    · have hd:decide (y=c)=false:=by simpa using hy
      have hm:c ∈ q:=by
        rcases List.mem_cons.1 h with h | h
        · exact absurd h.symm hy
        · exact h
      obtain ⟨j,h1,h2⟩:=DZ n c s hs q (k + 1) hn.2 hm
      refine ⟨j,by rw [RD,if_neg (fun e=>hy e.symm)]; exact h1,?_⟩
      rw [KZ,hd]
      simp only [Bool.and_false,Bool.false_and,Bool.false_eq_true,if_false]
      exact h2
theorem Sj (c:List UInt8):∀ (q:List (List UInt8)) (k:Nat),c ∉ q→RD c q k=-1
  | [],_,_=>rfl
  | y :: q,k,h=>by
    rw [RD,if_neg (fun e=>h (by rw [e]; exact List.mem_cons_self ..))]
    exact Sj c q (k + 1) fun hc=>h (List.mem_cons_of_mem _ hc)
theorem EE {a b c d e f:List UInt8}(ha:(Num.parseR a).2=true)(hb:(Num.parseR b).2=true)(hd:(Num.parseR d).2=true)(he:(Num.parseR e).2=true)(hf:(Num.parseR f).2=true) :
    QS 0 [a,b,c,d,e,f] (VH,true)=([(Num.parseR a).1,(Num.parseR b).1,0,(Num.parseR d).1,(Num.parseR e).1,(Num.parseR f).1],true):=by
  simp [QS,MC,VH,ha,hb,hd,he,hf]
theorem EF {a b c d e f:List UInt8}(h:¬ ((Num.parseR a).2=true∧(Num.parseR b).2=true∧(Num.parseR d).2=true∧(Num.parseR e).2=true∧(Num.parseR f).2=true)) :
    (QS 0 [a,b,c,d,e,f] (VH,true)).2=false:=by
  cases ha:(Num.parseR a).2 <;> cases hb:(Num.parseR b).2 <;> cases hd:(Num.parseR d).2 <;> cases he:(Num.parseR e).2 <;> cases hf:(Num.parseR f).2 <;> simp [ha,hb,hd,he,hf] at h <;> simp [QS,MC,VH,ha,hb,hd,he,hf]
theorem XA {n:Int}(h1:-1000000000000≤n)(h2:n≤1000000000000):Num.parseR (Lib.itoa n)=(n,true):=by
  rw [← Num.parse_same,Num.parseI_itoa n (by omega) (by omega),if_pos ((Num.inB_iff n).2 ⟨h1,h2⟩)]
theorem BV:Yu.Nodup:=by decide
theorem Ey (s:List UInt8):Md s=Ib s:=by
  unfold Md Ib
  obtain ⟨l,hl⟩:∃ l,Yk s [32]=l:=⟨_,rfl⟩
  rw [hl]
  by_cases h6:l.length=6
  · rw [if_neg (by simpa using h6),if_neg (by simpa using h6)]
    have good:∀ r,textS r=s→U8 r=0:=fun r h=>by
      by_cases h0:U8 r=0
      · exact h0
      · rw [CP h0] at h
        subst h
        rw [show Yk [] [32]=[[]] from rfl] at hl
        subst hl
        cases h6
    obtain ⟨a,b,c,d,e,f,rfl⟩:=Zd2 h6
    have hp:∀ x,Qj x=(Num.parseR x).1:=fun x=>by unfold Qj; rw [Num.parse_same]
    by_cases hok:(Num.parseR a).2=true∧(Num.parseR b).2=true∧(Num.parseR d).2=true∧(Num.parseR e).2=true∧(Num.parseR f).2=true
    · obtain ⟨o1,o2,o3,o4,o5⟩:=hok
      rw [EE o1 o2 o3 o4 o5]
      obtain ⟨n,hn⟩:∃ n:List Int,[(Num.parseR a).1,(Num.parseR b).1,0,(Num.parseR d).1,(Num.parseR e).1,(Num.parseR f).1]=n:=⟨_,rfl⟩
      have hR:∀ k:Nat,rK n k=⟨Qj a,Qj b,k,Qj d,Qj e,Qj f⟩:=fun k=>by rw [← hn,hp,hp,hp,hp,hp]; rfl
      have hP:Zb4 [a,b,c,d,e,f]=⟨Qj a,Qj b,XP c,Qj d,Qj e,Qj f⟩:=rfl
      show KZ _ true c s Yu 1=_
      rw [hn]
      by_cases hc:c ∈ Yu
      · obtain ⟨j,h1,h2⟩:=DZ n c s (fun j h=>good _ h) Yu 0 BV hc
        have hw:XP c=((j + 1:Nat):Int):=by unfold XP; rw [h1]; omega
        have hRP:rK n (j + 1)=Zb4 [a,b,c,d,e,f]:=by rw [hR,hP,hw]
        rw [h2,hRP]
        by_cases ht:textS (Zb4 [a,b,c,d,e,f])=s
        · rw [if_pos ht,if_neg (by simpa using ht)]
        · rw [if_neg ht,if_pos ht]
      · rw [Il n c s Yu 1 hc]
        have hw:XP c=0:=by unfold XP; rw [Sj c Yu 0 hc]; rfl
        rw [if_pos]
        intro ht
        have h0:=U1 (good _ ht)
        rw [hP] at h0
        simp only at h0
        omega
    · have hno:=EF (c := c) hok
      rw [hno,Pe,if_pos]
      intro ht
      have h0:=good _ ht
      have hs:=Nk h0
      rw [ht,hl] at hs
      have g:=ZaZ h0
      injection hs with e1 hs; injection hs with e2 hs; injection hs with e3 hs; injection hs with e4 hs; injection hs with e5 hs; injection hs with e6 hs
      have t:=g.T; have u:=g.S; have p:=g.P; have i:=g.I; have v:=g.V
      apply hok
      refine ⟨?_,?_,?_,?_,?_⟩
      · rw [e1,XA (by omega) (by omega)]
      · rw [e2,XA (by omega) (by omega)]
      · rw [e4,XA (by omega) (by omega)]
      · rw [e5,XA (by omega) (by omega)]
      · rw [e6,XA (by omega) (by omega)]
  · rw [if_pos h6,if_pos h6]
end Go.Proofs.YtdchnngpjjcchaaDoor
end
section
namespace Go.Proofs.YtdchnngpjjcchaaDoor
open Go Go.RowKit Go.Proofs.YtdchnngpjjcchaaDoor.Abs
set_option maxRecDepth 100000
def rB:YS:=⟨1,0,1,0,0,0⟩
def rH:YS:=⟨10,0,3,3,0,5⟩
theorem Zcs:encS [rB]=([2,2,0,2,0,0,0],0):=by decide +kernel
theorem Zcr:encS []=([0],0):=by decide +kernel
def tH:List UInt8:=[49,48,32,48,32,104,111,108,100,32,51,32,48,32,53]
def tB:List UInt8:=[49,32,48,32,98,101,103,105,110,32,48,32,48,32,48,48]
theorem Zb7:Ib tH=(rH,0):=by decide +kernel
theorem Zb6:Ib tB=(YP,8):=by decide +kernel
theorem Zea:ZdA [2,2,0,2,0,0,0]=([rB],0):=by decide +kernel
theorem Zd6:textS rH=tH:=by decide +kernel
theorem ZcW (r:YS)(h:(decide (-1000≤r.Time) && decide (r.Time≤1000) && decide (-1000≤r.Site) && decide (r.Site≤1000) && decide (-1000≤r.What) && decide (r.What≤1000) && decide (-1000≤r.Proc) && decide (r.Proc≤1000) && decide (-1000≤r.Index) && decide (r.Index≤1000) && decide (-1000≤r.Value) && decide (r.Value≤1000))=true):QT r:=by
  simp only [Bool.and_eq_true,decide_eq_true_eq] at h
  constructor <;> omega
theorem ZaJ (N:Nat)(hN:5≤N)(hp0:HP):Zb CR N Qp [] hp0=some (.bool true,hp0,none):=by
  obtain ⟨k,rfl,hk⟩:=fuel (C := CR) (d := 4) hN
  obtain ⟨q,rfl⟩:∃ q,k=q + 1:=⟨k - 1,by omega⟩
  refine Hq (Ry.T _ _ rfl) ?_
  have f1:fill [(.int .i64 0),(.int .i64 0),(.int .i64 0),(.int .i64 0),(.int .i64 0),(.int .i64 0)] [(0,1,.int .i64 1),(2,1,.int .i64 1)]=some (Yf rB):=rfl
  have f2:fill [(.int .i64 0),(.int .i64 0),(.int .i64 0),(.int .i64 0),(.int .i64 0),(.int .i64 0)] [(0,1,.int .i64 10),(2,1,.int .i64 3),(3,1,.int .i64 3),(5,1,.int .i64 5)]=some (Yf rH):=rfl
  have f3:fill [(.int .i64 0),(.int .i64 0),(.int .i64 0),(.int .i64 0),(.int .i64 0),(.int .i64 0)] []=some (Yf YP):=rfl
  have c1:∀ hp,Zb CR (q + 1) Zq [.lst 6 [Yf rB]] hp=some (.tup [.lst 1 (ZU [2,2,0,2,0,0,0]),.int .i64 0],hp,none):=fun hp=>by
    have:=Ry.enc q hp [rB] (fun r hr=>by obtain rfl:r=rB:=(by simpa using hr); exact ZcW _ rfl)
    unfold Rz at this
    rw [Zcs] at this
    exact this
  have c2:∀ hp,Zb CR (q + 1) Zq [.own 6 []] hp=some (.tup [.lst 1 (ZU [0]),.int .i64 0],hp,none):=fun hp=>by
    have:=Zcn q hp [] (fun r hr=>by cases hr)
    unfold Rz at this
    rw [Zcr] at this
    exact this
  have c3:∀ hp,Zb CR (q + 1) YA [.str [49,48,32,48,32,104,111,108,100,32,51,32,48,32,53]] hp=some (.tup [.agg (Yf rH),.int .i64 0],hp,none):=fun hp=>by
    have:=UV (q + 1) (by omega) hp tH (by decide)
    rw [Zb7] at this
    exact this
  have c4:∀ hp,Zb CR (q + 1) YA [.str [49,32,48,32,98,101,103,105,110,32,48,32,48,32,48,48]] hp=some (.tup [.agg (Yf YP),.int .i64 8],hp,none):=fun hp=>by
    have:=UV (q + 1) (by omega) hp tB (by decide)
    rw [Zb6] at this
    exact this
  have c5:∀ hp,Zb CR (q + 1) WB [.lst 1 (ZU [2,2,0,2,0,0,0])] hp=some (.tup [.lst 6 (recs [rB]),.int .i64 0],hp,none):=fun hp=>by
    have:=Af Ry (q + 1) (by omega) hp [2,2,0,2,0,0,0]
    unfold ZdZ at this
    rw [Zea] at this
    exact this
  have c6:∀ hp,Zb CR (q + 1) YZ [.agg (Yf rH)] hp=some (.str [49,48,32,48,32,104,111,108,100,32,51,32,48,32,53],hp,none):=fun hp=>by
    have:=GR (q + 1) (by omega) hp rH (ZcW _ rfl)
    rw [Zd6] at this
    exact this
  have c7:∀ hp,Zb CR (q + 1) Y9 [.agg (Yf YP)] hp=some (.int .i64 1,hp,none):=fun hp=>Tq Ry.toJD (q + 1) (by omega) hp YP
  have sA:=fun (h:HP) (cs:List AV) (r:YS) (hc:cs.length=6) (hh:hp0.length≤h.length)=>st_all hp0.length 6 h cs (Yf r) Ze none rfl hc hh
  have s1:=sA hp0 [(.int .i64 0),(.int .i64 0),(.int .i64 0),(.int .i64 0),(.int .i64 0),(.int .i64 0)] rH rfl (Nat.le_refl _)
  have s2:=sA (hp0 ++ [.cells (Yf rH) Ze]) [(.int .i64 0),(.int .i64 0),(.int .i64 0),(.int .i64 0),(.int .i64 0),(.int .i64 0)] YP rfl (by simp)
  simp only [V9,EV,f1,f2,f3,SA,c1,c2,c3,c4,c5,c6,c7,GI,s1,s2,Oq,LD,W9,Q5,Zah,DW]
  rfl
end Go.Proofs.YtdchnngpjjcchaaDoor
end
section
namespace Go.Proofs.YtdchnngpjjcchaaDoor.Abs
open Go Go.RowKit Go.ChangeShapes Go.WideShapes Go.Deep
def Zbl (P:Program)(S:List TypeId):Bool :=
  S.all fun t=>match P.underlying t with
    | some .bool=>true
    | some (.int _)=>true
    | some .string=>true
    | some (.slice e)=>(decide (0 < P.cellsOf e) && decide (0 < P.bytesOf e)) && S.contains e
    | some (.struct fs)=>CS P fs.toList 0 (P.cellsOf t) && fs.toList.all fun f=>S.contains f.type
    | _=>false
inductive UA {H:Type}(P:Program):TypeId→List AV→DataW H→Prop
  | bool (t:TypeId) (b:Bool) (hu:P.underlying t=some .bool):UA P t [.bool b] (.lit (.bool b))
  | int (t:TypeId) (k:IntKind) (x:Int) (hu:P.underlying t=some (.int k)) (hw:(Lit.int k x).wf=true):UA P t [.int k x] (.lit (.int k x))
  | str (t:TypeId) (s:List UInt8) (hu:P.underlying t=some .string) (hl:s.length≤140737488351232):UA P t [.str s] (.lit (.string s))
  | nil (t e:TypeId) (hu:P.underlying t=some (.slice e)):UA P t [.lst (P.cellsOf e) []] .nil
  | slice (t e:TypeId) (rows:List (List AV)) (D:Nat→DataW H) (spare:List (DataW H)) (hu:P.underlying t=some (.slice e)) (hl:rows.length * P.bytesOf e≤140737488351232) (h:∀ (i:Nat) (r:List AV),rows[i]? = some r→UA P e r (D i)) :
      UA P t [.lst (P.cellsOf e) rows] (.slice ((List.range rows.length).map D) spare)
  | struct (t:TypeId) (fs:Array Field) (cs:List AV) (D:Nat→DataW H) (hu:P.underlying t=some (.struct fs)) (hl:cs.length=P.cellsOf t)
      (h:∀ (i:Nat) (f:Field),fs.toList[i]? = some f→UA P f.type ((cs.drop f.offset).take (P.cellsOf f.type)) (D i)):UA P t cs (.agg ((List.range fs.size).map D))
section
variable {H:Type}{P:Program}{t:TypeId}{cs:List AV}{d:DataW H}
theorem UA.toInt (h:UA P t cs d){k:IntKind}(hu:P.underlying t=some (.int k)):∃ x,cs=[.int k x]∧d=.lit (.int k x)∧k.min≤x∧x≤k.max:=by
  cases h with
  | int _ k' x h1 hw =>
    rw [hu] at h1; cases h1
    simp only [Lit.wf,Bool.and_eq_true,decide_eq_true_eq] at hw
    exact ⟨x,rfl,rfl,hw⟩
  | _=>simp_all
theorem UA.toI64 (h:UA P t cs d)(hu:P.underlying t=some (.int .i64)):∃ x,cs=[.int .i64 x]∧d=.lit (.int .i64 x)∧-9223372036854775808≤x∧x≤9223372036854775807:=by
  obtain ⟨x,h1,h2,h3⟩:=h.toInt hu
  exact ⟨x,h1,h2,by simpa [IntKind.min,IntKind.max,IntKind.signed,IntKind.bits] using h3⟩
theorem UA.toStruct (h:UA P t cs d){fs:Array Field}(hu:P.underlying t=some (.struct fs)):cs.length=P.cellsOf t∧∃ D:Nat→DataW H,d=.agg ((List.range fs.size).map D)∧∀ (i:Nat) (f:Field),fs.toList[i]? = some f→UA P f.type ((cs.drop f.offset).take (P.cellsOf f.type)) (D i):=by
  cases h with
  | struct _ fs' _ D h1 hl h=>rw [hu] at h1; cases h1; exact ⟨hl,D,rfl,h⟩
  | _=>simp_all
end
def Of (P:Program)(t:TypeId)(cs:List AV):Prop:=∃ (H:Type) (d:DataW H),UA P t cs d
theorem UA.of {H:Type}{P:Program}{t:TypeId}{cs:List AV}{d:DataW H}(h:UA P t cs d):Of P t cs:=⟨H,d,h⟩
theorem Of.toInt {P:Program}{t:TypeId}{cs:List AV}(h:Of P t cs){k:IntKind}(hu:P.underlying t=some (.int k)):∃ x,cs=[.int k x]∧k.min≤x∧x≤k.max:=by
  obtain ⟨H,d,h⟩:=h; obtain ⟨x,h1,_,h2⟩:=h.toInt hu; exact ⟨x,h1,h2⟩
theorem Of.toI64 {P:Program}{t:TypeId}{cs:List AV}(h:Of P t cs)(hu:P.underlying t=some (.int .i64)):∃ x,cs=[.int .i64 x]∧-9223372036854775808≤x∧x≤9223372036854775807:=by
  obtain ⟨H,d,h⟩:=h; obtain ⟨x,h1,_,h2⟩:=h.toI64 hu; exact ⟨x,h1,h2⟩
theorem Of.toStruct {P:Program}{t:TypeId}{cs:List AV}(h:Of P t cs){fs:Array Field}(hu:P.underlying t=some (.struct fs)):cs.length=P.cellsOf t∧∀ (i:Nat) (f:Field),fs.toList[i]? = some f→Of P f.type ((cs.drop f.offset).take (P.cellsOf f.type)):=by
  obtain ⟨H,d,h⟩:=h
  obtain ⟨h1,D,_,h2⟩:=h.toStruct hu
  exact ⟨h1,fun i f hf=>(h2 i f hf).of⟩
variable {H:Type}{enc:TypeId×Value→H}{P:Program}{w:World}{base:Nat}{sp:Nat→Bool}{held:Bool}{Γ:Zm}
theorem BF {t e:TypeId}{fuel:Nat}{cs:List Value}{x:DataW H×List MemPlace}(ht:P.underlying t=some (.slice e))(h:DataW.trod enc P w base sp held (fuel + 1) t cs=some x) :
    (cs=[.slice none 0 0]∧x=(.nil,[])) ∨
    ∃ (a:Addr) (len cap m n:Nat) (D:Nat→DataW H) (Pl:Nat→List MemPlace),n=fuel∧cs=[.slice (some a) len cap]∧base≤a.block∧len≤cap∧cap≤maxLen∧m=(if sp a.block then cap else len) ∧
      x=(.slice ((List.range len).map D) ((List.range (m - len)).map fun j=>D (len + j)),MemPlace.row a (m * P.cellsOf e) ++ (List.range m).flatMap Pl) ∧
      ∀ i,i < m→∃ cs',w.cells? base (a.add (i * P.cellsOf e)) (P.cellsOf e)=some cs'∧DataW.trod enc P w base sp held n e cs'=some (D i,Pl i):=by
  rcases DataW.trod_slice ht h with h0 | ⟨a,len,cap,elems,rest,n,hn,rfl,rfl,hb,hl,hm,hlen,hel,hsp,hns⟩
  · exact Or.inl h0
  right
  have hrl:rest.length=(if sp a.block then cap else len) - len:=by
    cases hs:sp a.block with
    | true=>simpa [hs] using (hsp hs).1
    | false=>simp [hns hs]
  have hle:len≤(if sp a.block then cap else len):=by split <;> omega
  have hall:(elems ++ rest).length=(if sp a.block then cap else len):=by rw [List.length_append,hlen,hrl]; omega
  refine ⟨a,len,cap,_,n,fun i=>((elems ++ rest).getD i (.nil,[])).1,fun i=>((elems ++ rest).getD i (.nil,[])).2,by omega,rfl,hb,hl,hm,rfl,?_,?_⟩
  · refine Prod.ext ?_ ?_
    · show DataW.slice (elems.map (·.1)) (rest.map (·.1))=_
      congr 1
      · rw [map_by_index elems (.nil,[]) (·.1),hlen]
        refine List.map_congr_left fun i hi=>?_
        have hi':i < elems.length:=by rw [hlen]; simpa using hi
        simp [List.getD,List.getElem?_append_left hi']
      · rw [map_by_index rest (.nil,[]) (·.1),hrl]
        refine List.map_congr_left fun j _=>?_
        simp [List.getD,List.getElem?_append_right (show elems.length≤len + j by omega),hlen]
    · show MemPlace.row a ((elems.length + rest.length) * P.cellsOf e) ++ (elems ++ rest).flatMap (·.2)=_
      rw [flatMap_by_index (elems ++ rest) (.nil,[]) (·.2),hall,← List.length_append,hall]
  · intro i hi
    have key:(w.cells? base (a.add (i * P.cellsOf e)) (P.cellsOf e)).bind (DataW.trod enc P w base sp held n e)=(elems ++ rest)[i]?:=by
      by_cases hil:i < len
      · rw [hel i hil,List.getElem?_append_left (by omega)]
      · have hs:sp a.block=true:=by
          cases hs:sp a.block with
          | true=>rfl
          | false=>simp [hs] at hi; omega
        have:=(hsp hs).2 (i - len) (by simp [hs] at hi; omega)
        rw [show len + (i - len)=i by omega] at this
        rw [this,List.getElem?_append_right (by omega),hlen]
    rw [List.getElem?_eq_getElem (by omega)] at key
    obtain ⟨cs',h1,h2⟩:=Option.bind_eq_some_iff.1 key
    refine ⟨cs',h1,?_⟩
    rw [h2]
    simp [List.getD,List.getElem?_eq_getElem (show i < (elems ++ rest).length by omega)]
theorem GZ (S:List TypeId)(fuel:Nat)(cs:List Value)
    (ih:∀ (t:TypeId) (cs:List Value) (x:DataW H×List MemPlace),S.contains t=true→DataW.trod enc P w base sp held fuel t cs=some x→(∀ y ∈ x.1.weights P t,y≤reachBytes)→∃ az:List AV,UA P t az x.1∧az.length=cs.length∧∀ j a,az[j]? = some a→Qm Γ w a (cs.getD j Go.undef)) :
    ∀ (fs:List Field) (xs:List (DataW H×List MemPlace)) (o m:Nat),CS P fs o m=true→m=cs.length→(fs.all fun f=>S.contains f.type)=true→(∀ (i:Nat) (f:Field),fs[i]? = some f→∃ x,xs[i]? = some x∧DataW.trod enc P w base sp held fuel f.type ((cs.drop f.offset).take (P.cellsOf f.type))=some x∧∀ y ∈ x.1.weights P f.type,y≤reachBytes) →
      o≤m∧∃ az:List AV,az.length=m - o∧(∀ (i:Nat) (f:Field),fs[i]? = some f→o≤f.offset∧∃ x,xs[i]? = some x∧UA P f.type ((az.drop (f.offset - o)).take (P.cellsOf f.type)) x.1)∧∀ j a,az[j]? = some a→Qm Γ w a (cs.getD (o + j) Go.undef)
  | [],xs,o,m,ht,hm,_,_=>by
    have:o=m:=by simpa [CS] using ht
    subst this
    exact ⟨Nat.le_refl _,[],by simp,fun i f hf=>by simp at hf,fun j a h=>by simp at h⟩
  | f :: r,xs,o,m,ht,hm,hok,hx=>by
    simp only [CS,Bool.and_eq_true,beq_iff_eq] at ht
    simp only [List.all_cons,Bool.and_eq_true] at hok
    obtain ⟨x,hx0,hxf,hxw⟩:=hx 0 f rfl
    obtain ⟨xs,rfl⟩:∃ xs',xs=x :: xs':=by
      cases xs with
      | nil=>simp at hx0
      | cons y ys=>simp at hx0; exact ⟨ys,by rw [hx0]⟩
    obtain ⟨hle,az,hl,hs,hr⟩:=GZ S fuel cs ih r xs _ m ht.2 hm hok.2 (fun i g hg=>hx (i + 1) g hg)
    obtain ⟨a1,s1,l1,r1⟩:=ih _ _ _ hok.1 hxf hxw
    have hlen:((cs.drop f.offset).take (P.cellsOf f.type)).length=P.cellsOf f.type:=by
      rw [List.length_take,List.length_drop]; omega
    rw [hlen] at l1
    refine ⟨by omega,a1 ++ az,by rw [List.length_append]; omega,fun i g hg=>?_,fun j a hj=>?_⟩
    · cases i with
      | zero =>
        simp only [List.getElem?_cons_zero,Option.some.injEq] at hg
        subst hg
        refine ⟨by omega,x,rfl,?_⟩
        rw [ht.1,Nat.sub_self,List.drop_zero,List.take_append_of_le_length (by omega),List.take_of_length_le (by omega)]
        exact s1
      | succ i =>
        simp only [List.getElem?_cons_succ] at hg
        obtain ⟨q1,q2⟩:=hs i g hg
        refine ⟨by omega,?_⟩
        rw [List.drop_append,List.drop_eq_nil_of_le (by omega),List.nil_append,l1]
        rw [show g.offset - o - P.cellsOf f.type=g.offset - (o + P.cellsOf f.type) by omega]
        simpa using q2
    · by_cases hj2:j < a1.length
      · rw [List.getElem?_append_left hj2] at hj
        have:=r1 j a hj
        have e:((cs.drop f.offset).take (P.cellsOf f.type)).getD j Go.undef=cs.getD (o + j) Go.undef:=by
          rw [List.getD_eq_getElem?_getD,List.getD_eq_getElem?_getD,List.getElem?_take_of_lt (by omega),List.getElem?_drop,ht.1]
        rwa [e] at this
      · rw [List.getElem?_append_right (by omega)] at hj
        have:=hr _ a hj
        rwa [show o + P.cellsOf f.type + (j - a1.length)=o + j by omega] at this
theorem UC (hΓ:∀ b,Γ b=.imm){S:List TypeId}(hS:Zbl P S=true):∀ (fuel:Nat) (t:TypeId) (cs:List Value) (x:DataW H×List MemPlace),S.contains t=true→DataW.trod enc P w base sp held fuel t cs=some x→(∀ y ∈ x.1.weights P t,y≤reachBytes) →
    ∃ az:List AV,UA P t az x.1∧az.length=cs.length∧∀ j a,az[j]? = some a→Qm Γ w a (cs.getD j Go.undef)
  | 0,_,_,_,_,h,_=>by cases h
  | fuel + 1,t,cs,x,hc,h,hwt=>by
    have ho:=List.all_eq_true.1 hS t (by simpa using hc)
    cases hu:P.underlying t with
    | none=>simp [hu] at ho
    | some d =>
    have one:∀ (c:AV) (v:Value),Qm Γ w c v→∀ j a,[c][j]? = some a→Qm Γ w a ([v].getD j Go.undef):=fun c v hc j a hj=>by
      match j,hj with
      | 0,hj=>cases hj; exact hc
      | j + 1,hj=>simp at hj
    cases d <;> simp only [hu,Bool.false_eq_true] at ho
    case bool =>
      obtain ⟨b,rfl,rfl⟩:=DataW.trod_bool hu h
      exact ⟨[.bool b],.bool t b hu,rfl,one _ _ ⟨.bool b,rfl,rfl,fun k r e=>by cases e⟩⟩
    case int k =>
      obtain ⟨x,rfl,rfl,hw⟩:=DataW.trod_int hu h
      exact ⟨[.int k x],.int t k x hu hw,rfl,one _ _ ⟨.int k x,rfl,rfl,fun k r e=>by cases e⟩⟩
    case string =>
      obtain ⟨b,rfl,rfl,hb⟩:=DataW.trod_string hu h
      have e:b=⟨b.data.toList.toArray⟩:=by cases b; simp
      refine ⟨[.str b.data.toList],.str t _ hu (Gn (hwt _ (by simp [DataW.weights]))),rfl,one _ _ ⟨?_,rfl,rfl,fun k r e=>by cases e⟩⟩
      have:Rep Γ w (.str b.data.toList) (.string ⟨b.data.toList.toArray⟩):=.str _
      rwa [← e] at this
    case slice e =>
      simp only [Bool.and_eq_true,decide_eq_true_eq] at ho
      rcases BF hu h with ⟨rfl,rfl⟩ | ⟨A,len,cap,m,n',D,Pl,hn',rfl,hb,hl,hm,hmm,rfl,hi⟩
      · exact ⟨[.lst (P.cellsOf e) []],.nil t e hu,rfl,one _ _ ⟨.lstNil _,rfl,rfl,fun k r e=>by cases e⟩⟩
      · have hlm:len≤m:=by rw [hmm]; split <;> omega
        have hwe:∀ i,i < len→∀ y ∈ (D i).weights P e,y≤reachBytes:=fun i hi y hy=>by
          refine hwt y ?_
          simp only [DataW.weights,hu]
          exact List.mem_cons_of_mem _ (List.mem_append_left _ (BX (List.mem_map.2 ⟨i,by simpa using hi,rfl⟩) hy))
        have hlr:len * P.bytesOf e≤140737488351232:=by
          refine Gn (Nat.le_trans ?_ (hwt ((((List.range len).map D).length + ((List.range (m - len)).map fun j=>D (len + j)).length) * P.bytesOf e) ?_))
          · simp only [List.length_map,List.length_range]
            exact Nat.mul_le_mul_right _ (Nat.le_add_right _ _)
          · simp only [DataW.weights,hu]
            exact List.mem_cons_self ..
        have hrow:∀ i,∃ r:List AV,i < len→UA P e r (D i)∧r.length=P.cellsOf e∧∀ j a,r[j]? = some a→w.cell? ((A.add (i * P.cellsOf e)).add j)=some ((w.cell? ((A.add (i * P.cellsOf e)).add j)).getD Go.undef)∧Qm Γ w a ((w.cell? ((A.add (i * P.cellsOf e)).add j)).getD Go.undef):=fun i=>by
          by_cases hil:i < len
          · obtain ⟨cs',hc,ht⟩:=hi i (by omega)
            obtain ⟨_,hlen,hcell⟩:=World.cells?_some hc
            obtain ⟨r,s1,l1,r1⟩:=UC hΓ hS n' e cs' _ ho.2 ht (hwe i hil)
            refine ⟨r,fun _=>⟨s1,by omega,fun j a hj=>?_⟩⟩
            have hjl:j < r.length:=(List.getElem?_eq_some_iff.1 hj).1
            have hc2:=hcell j (by omega)
            have hr:=r1 j a hj
            rw [List.getElem?_eq_getElem (by omega)] at hc2
            rw [List.getD_eq_getElem?_getD,List.getElem?_eq_getElem (by omega)] at hr
            rw [hc2]
            exact ⟨rfl,hr⟩
          · exact ⟨[],fun h=>absurd h hil⟩
        have hf:∃ f:Nat→List AV,∀ i,i < len→UA P e (f i) (D i)∧(f i).length=P.cellsOf e∧∀ j a,(f i)[j]? = some a→w.cell? ((A.add (i * P.cellsOf e)).add j)=some ((w.cell? ((A.add (i * P.cellsOf e)).add j)).getD Go.undef)∧Qm Γ w a ((w.cell? ((A.add (i * P.cellsOf e)).add j)).getD Go.undef) :=
          ⟨fun i=>(hrow i).choose,fun i=>(hrow i).choose_spec⟩
        obtain ⟨f,hf⟩:=hf
        have hget:∀ (i:Nat) (r:List AV),((List.range len).map f)[i]? = some r→i < len∧r=f i:=fun i r hr=>by
          rw [List.getElem?_map] at hr
          obtain ⟨i',hi',rfl⟩:=Option.map_eq_some_iff.1 hr
          have hlt:=(List.getElem?_eq_some_iff.1 hi').1
          rw [List.length_range] at hlt
          rw [List.getElem?_range hlt] at hi'
          obtain rfl:=Option.some.inj hi'
          exact ⟨hlt,rfl⟩
        have hlenf:((List.range len).map f).length=len:=by simp
        have hsl:=UA.slice (P := P) t e ((List.range len).map f) D ((List.range (m - len)).map fun j=>D (len + j)) hu (by simpa using hlr) (fun i r hr=>by obtain ⟨h1,rfl⟩:=hget i r hr; exact (hf i h1).1)
        rw [hlenf] at hsl
        refine ⟨[.lst (P.cellsOf e) ((List.range len).map f)],hsl,rfl,one _ _ ⟨?_,rfl,rfl,fun k r e=>by cases e⟩⟩
        · by_cases hex:∃ (i j:Nat) (a:AV),i < len∧(f i)[j]? = some a
          · obtain ⟨i0,j0,a0,hi0,hj0⟩:=hex
            have h0:∃ v,w.cell? A=some v:=by
              have hj0l:j0 < (f i0).length:=(List.getElem?_eq_some_iff.1 hj0).1
              have hpos:0 < P.cellsOf e:=by have:=(hf i0 hi0).2.1; omega
              have hz:=(hf 0 (by omega)).2.1
              have:=((hf 0 (by omega)).2.2 0 ((f 0)[0]'(by omega)) (List.getElem?_eq_getElem _)).1
              rw [Nat.zero_mul] at this
              have e1:(A.add 0).add 0=A:=by simp [Addr.add]
              rw [e1] at this
              exact ⟨_,this⟩
            have hsp:A.spot=none:=by
              obtain ⟨v,hv⟩:=h0
              unfold World.cell? at hv
              split at hv
              · split at hv
                · cases hv
                · rename_i hs; simpa using hs
              · cases hv
            obtain ⟨b,o,q⟩:=A
            simp only at hsp
            subst hsp
            have hadd:∀ i j,((⟨b,o,none⟩:Addr).add (i * P.cellsOf e)).add j=⟨b,o + (i * P.cellsOf e + j),none⟩:=fun i j=>by
              rw [Go.Deep.add_add]
              unfold Addr.add
              split
              · rename_i h0; simp [h0]
              · rfl
            have hll:len=((List.range len).map f).length:=by simp
            generalize hrows:(List.range len).map f=rows at *
            subst hll
            refine .lst _ rows b o cap (fun i j=>(w.cell? ⟨b,o + (i * P.cellsOf e + j),none⟩).getD Go.undef) hl (fun r hr=>?_) (fun i j r c hr hc=>?_) (fun i j r c hr hc=>?_)
            · obtain ⟨i,hi⟩:=List.mem_iff_getElem?.1 hr
              obtain ⟨h1,rfl⟩:=hget i r hi
              exact (hf i h1).2.1
            · obtain ⟨h1,rfl⟩:=hget i r hr
              have:=(hf i h1).2.2 j c hc
              rw [hadd] at this
              exact ⟨this.1,by show YU _ (Γ b); rw [hΓ]; trivial,this.2.2.2.1⟩
            · obtain ⟨h1,rfl⟩:=hget i r hr
              have:=(hf i h1).2.2 j c hc
              rw [hadd] at this
              exact this.2.1
          · have h0:len=0:=by
              rcases Nat.eq_zero_or_pos len with h0 | h0
              · exact h0
              · refine absurd ⟨0,0,(f 0)[0]'(by have:=(hf 0 h0).2.1; have:=ho.1.1; omega),h0,List.getElem?_eq_getElem _⟩ hex
            subst h0
            exact .lstE _ A cap
    case struct fs =>
      simp only [Bool.and_eq_true] at ho
      obtain ⟨xs,n',hn,rfl,hlen,hxl,hf⟩:=DataW.trod_struct hu h
      obtain ⟨_,az,l1,s1,r1⟩:=GZ S n' cs (fun t cs x=>UC hΓ hS n' t cs x) fs.toList xs 0 _ ho.1 hlen.symm ho.2 fun i f hf'=>by
        have hi':fs[i]? = some f:=by simpa using hf'
        have:=hf i f hi'
        have hlt:i < xs.length:=by rw [hxl]; exact (Array.getElem?_eq_some_iff.1 hi').1
        rw [List.getElem?_eq_getElem hlt] at this
        refine ⟨_,List.getElem?_eq_getElem hlt,this,fun y hy=>hwt y ?_⟩
        simp only [DataW.weights,hu]
        exact DataW.weights_mem_each (j := i) (t := f.type) (d := (xs[i]'hlt).1) (by simp [hi']) (by simp [List.getElem?_eq_getElem hlt]) y hy
      have hst:=UA.struct (P := P) t fs az (fun i=>((xs.map (·.1))[i]?).getD .nil) hu (by omega) fun i f hf'=>by
        obtain ⟨_,x,hx,hsx⟩:=s1 i f hf'
        simpa [hx] using hsx
      have hds:(List.range fs.size).map (fun i=>((xs.map (·.1))[i]?).getD .nil)=xs.map (·.1):=by
        refine List.ext_getElem? fun i=>?_
        rw [List.getElem?_map]
        by_cases hi:i < fs.size
        · rw [List.getElem?_range hi,Option.map_some,List.getElem?_map,List.getElem?_eq_getElem (by omega)]; rfl
        · rw [List.getElem?_eq_none (by simpa using hi),List.getElem?_eq_none (by simp; omega)]; rfl
      rw [hds] at hst
      exact ⟨az,hst,by omega,fun j a hj=>by simpa using r1 j a hj⟩
theorem argS_struct (hΓ:∀ b,Γ b=.imm){S:List TypeId}(hS:Zbl P S=true){r:Reach}{b0:Nat}{t:TypeId}{fs:Array Field}{v:Value}{d:DataW H}{ps:List MemPlace}(hc:S.contains t=true)(hu:P.underlying t=some (.struct fs))(hv:Value.okWide P w r b0 t v)
    (h:DataW.Trod enc P w base sp held t v d ps) (hw:∀ y ∈ d.weights P t,y≤reachBytes):∃ az,Rep Γ w (.agg az) v∧UA P t az d:=by
  obtain ⟨cs,rfl,hsz⟩:=okWide_struct hu hv
  obtain ⟨fuel,hf⟩:=h
  obtain ⟨az,s1,l1,r1⟩:=UC hΓ hS fuel t _ _ hc hf hw
  have l2:az.length=cs.size:=by rw [l1]; rfl
  refine ⟨az,.agg az cs l2.symm (fun j c hc=>(r1 j c hc).2.1) (fun j k r hc=>absurd rfl ((r1 j _ hc).2.2.2 k r)) (fun j c hc=>?_),s1⟩
  have:=(r1 j c hc).1
  have e:(Value.agg cs).cells.toList.getD j Go.undef=cs.getD j Go.undef:=by
    show cs.toList.getD j Go.undef=_
    simp [List.getD_eq_getElem?_getD,Array.getD_eq_getD_getElem?]
  rwa [e] at this
end Go.Proofs.YtdchnngpjjcchaaDoor.Abs
end
section
namespace Go.Proofs.YtdchnngpjjcchaaDoor
open Go Go.RowKit Go.Proofs.YtdchnngpjjcchaaDoor.Abs
set_option maxRecDepth 100000
set_option maxHeartbeats 0
theorem ZeI {α:Type _}{l:List α}{n:Nat}(h:l.length=n + 1):∃ a r,l=a :: r∧r.length=n:=by
  cases l with
  | nil=>simp at h
  | cons a r=>exact ⟨a,r,rfl,by simpa using h⟩
theorem ZbV {P:Program}{t:TypeId}{l M:List AV}{k n:Nat}(h:Of P t ((l.drop k).take (P.cellsOf t)))(hn:P.cellsOf t=n)(hm:(l.drop k).take n=M):Of P t M:=by rw [hn,hm] at h; exact h
theorem Zbg {α:Type _}{l:List α}{n:Nat}(h:l.length=n + 2):∃ a b r,l=a :: b :: r∧r.length=n:=by
  obtain ⟨a,r,rfl,h1⟩:=ZeI h
  obtain ⟨b,s,rfl,h2⟩:=ZeI h1
  exact ⟨a,b,s,rfl,h2⟩
theorem Zel {α:Type _}{l:List α}{n:Nat}(h:l.length=n + 4):∃ a b c d r,l=a :: b :: c :: d :: r∧r.length=n:=by
  obtain ⟨a,b,r,rfl,h1⟩:=Zbg h
  obtain ⟨c,d,s,rfl,h2⟩:=Zbg h1
  exact ⟨a,b,c,d,s,rfl,h2⟩
theorem ZcM {cs:List AV}(h:Of Tryd.prog 24 cs):∃ x,cs=Yf x∧QT x:=by
  obtain ⟨hl,hf⟩:=h.toStruct Tryd.underlying24
  rw [show Tryd.prog.cellsOf 24=6 from by kernel_rfl] at hl
  obtain ⟨c0,c1,c2,c3,r0,rfl,hl0⟩:=Zel hl
  obtain ⟨c4,c5,r4,rfl,hl4⟩:=Zbg hl0
  obtain rfl:=List.eq_nil_of_length_eq_zero hl4
  have f0:Of Tryd.prog 3 [c0]:=ZbV (hf 0 _ rfl) (n := 1) (by kernel_rfl) rfl
  obtain ⟨v0,q0,b0⟩:=f0.toI64 Tryd.underlying3
  have f1:Of Tryd.prog 3 [c1]:=ZbV (hf 1 _ rfl) (n := 1) (by kernel_rfl) rfl
  obtain ⟨v1,q1,b1⟩:=f1.toI64 Tryd.underlying3
  have f2:Of Tryd.prog 22 [c2]:=ZbV (hf 2 _ rfl) (n := 1) (by kernel_rfl) rfl
  obtain ⟨v2,q2,b2⟩:=f2.toI64 Tryd.underlying22
  have f3:Of Tryd.prog 3 [c3]:=ZbV (hf 3 _ rfl) (n := 1) (by kernel_rfl) rfl
  obtain ⟨v3,q3,b3⟩:=f3.toI64 Tryd.underlying3
  have f4:Of Tryd.prog 3 [c4]:=ZbV (hf 4 _ rfl) (n := 1) (by kernel_rfl) rfl
  obtain ⟨v4,q4,b4⟩:=f4.toI64 Tryd.underlying3
  have f5:Of Tryd.prog 3 [c5]:=ZbV (hf 5 _ rfl) (n := 1) (by kernel_rfl) rfl
  obtain ⟨v5,q5,b5⟩:=f5.toI64 Tryd.underlying3
  refine ⟨⟨v0,v1,v2,v3,v4,v5⟩,?_,⟨b0,b1,b2,b3,b4,b5⟩⟩
  have hc:([c0,c1,c2,c3,c4,c5]:List AV)=[c0] ++ [c1] ++ [c2] ++ [c3] ++ [c4] ++ [c5]:=rfl
  rw [hc]
  rw [q0,q1,q2,q3,q4,q5]
  rfl
end Go.Proofs.YtdchnngpjjcchaaDoor
end
section
namespace Go.Proofs.YtdchnngpjjcchaaDoor
open Go Go.RowKit Go.Proofs.YtdchnngpjjcchaaDoor.Abs
set_option maxRecDepth 100000
def okT:List TypeId:=[33,34,24,3,22,5]
theorem ZeR:Zbl Tryd.prog okT=true:=by kernel_rfl
end Go.Proofs.YtdchnngpjjcchaaDoor
end
