import Derived.Test.YtdchnngpjjcchaaDoorProg
import Derived.ProofKit
import Derived.Test.YtdchnngpjjcchaaDoorJ6
set_option linter.all false
section
namespace Go.Proofs.YtdchnngpjjcchaaDoor
open Go Go.RowKit Go.Proofs.YtdchnngpjjcchaaDoor.Abs
set_option maxRecDepth 100000
def unR:List AV→Option Yx
  | [.int .i64 a,.int .i64 b,.int .i64 c,.int .i64 d,.int .i64 e,.int .i64 f]=>some ⟨a,b,c,d,e,f⟩
  | _=>none
theorem Dn {r:List AV}{x:Yx}(h:unR r=some x):r=Yz x:=by
  unfold unR at h
  split at h
  · cases h; rfl
  · cases h
def unS:List AV→Option (List UInt8)
  | [.str s]=>some s
  | _=>none
theorem Zct {r:List AV}{x:List UInt8}(h:unS r=some x):r=[.str x]:=by
  unfold unS at h
  split at h
  · cases h; rfl
  · cases h
def unL {α:Type}(u:List AV→Option α):List (List AV)→Option (List α)
  | []=>some []
  | r :: l=>match u r,unL u l with
    | some x,some xs=>some (x :: xs)
    | _,_=>none
theorem Ht {α:Type}{u:List AV→Option α}{row:α→List AV}(hu:∀ r x,u r=some x→r=row x):∀ {l:List (List AV)} {xs:List α},unL u l=some xs→l=xs.map row
  | [],_,h=>by cases h; rfl
  | r :: l,_,h=>by
    unfold unL at h
    split at h
    · rename_i x xs h1 h2
      cases h
      rw [hu _ _ h1,Ht hu h2]; rfl
    · cases h
theorem ZaJ {α:Type}{u:List AV→Option α}{row:α→List AV}(hu:∀ x,u (row x)=some x):∀ xs:List α,unL u (xs.map row)=some xs
  | []=>rfl
  | x :: xs=>by
    show (match u (row x),unL u (xs.map row) with | some x,some xs=>some (x :: xs) | _,_=>none)=_
    rw [hu,ZaJ hu xs]
def ZfP (s:List UInt8):List AV:=[.str s]
theorem Zcm (l:List (List UInt8)):strs l=l.map ZfP:=rfl
theorem ZbZ (l:List Yx):recs l=l.map Yz:=rfl
def XB (s sep:List UInt8):List (List UInt8):=Lib.split s sep
open Classical in
noncomputable def orR (f:FuncId) (args:List AV):Option AV :=
  if f=Zg then (match args with
    | [.lst 6 rows]=>(match unL unR rows with | some l=>if ∀ r ∈ l,Qb r then some (Oi l) else none | none=>none)
    | [.own 6 rows]=>(match unL unR rows with | some l=>if ∀ r ∈ l,Qb r then some (Oi l) else none | none=>none)
    | _=>none)
  else if f=Xo then (match args with | [.int .i64 n]=>if Rng n then some (.str (Lib.itoa n)) else none | _=>none)
  else if f=ER then (match args with | [.int .i64 n]=>if Rng n then some (.str (Lib.itoa n)) else none | _=>none)
  else if f=Kz then (match args with | [.str s]=>if s.length≤281474976710656 then some (.tup [.int .i64 (Num.parseI s).1,.bool (Num.parseI s).2]) else none | _=>none)
  else if f=Nq then (match args with | [.str s]=>if s.length≤281474976710656 then some (.tup [.int .i64 (Num.parseR s).1,.bool (Num.parseR s).2]) else none | _=>none)
  else if f=VF then (match args with
    | [.lst 1 rows,.str sep]=>(match unL unS rows with | some xs=>if xs≠[]∧xs.length≤140737488355328∧(Lib.join xs sep).length≤140737488355328 then some (.str (Lib.join xs sep)) else none | none=>none)
    | _=>none)
  else if f=XY then (match args with | [.str s,.str sep]=>if s.length < 4294967281∧1≤sep.length then some (.lst 1 (strs (XB s sep))) else none | _=>none)
  else none
theorem bytes_eq (s:List UInt8):(⟨s.toArray⟩:ByteArray).data.toList=s:=by simp
theorem size_eq' (s:List UInt8):(⟨s.toArray⟩:ByteArray).size=s.length:=by show s.toArray.size=_; simp
theorem xs1 {xs:Array Value}(h:xs.size=1):∃ x,xs=#[x]:=by
  cases xs with | mk l=>match l,h with | [x],_=>exact ⟨x,rfl⟩
theorem xs2 {xs:Array Value}(h:xs.size=2):∃ x y,xs=#[x,y]:=by
  cases xs with | mk l=>match l,h with | [x,y],_=>exact ⟨x,y,rfl⟩
theorem Sv {Γ:Zq}{w:World}{k:IntKind}{n:Int}{x:Value}(h:Rep Γ w (.int k n) x):x=.int k n:=by cases h; rfl
theorem TT {Γ:Zq}{w:World}{s:List UInt8}{x:Value}(h:Rep Γ w (.str s) x):x=.string ⟨s.toArray⟩:=by cases h; rfl
theorem Zca {Γ:Zq}{w:World}{xs:List (List UInt8)}{x:Value}(h:Rep Γ w (.lst 1 (strs xs)) x)(hne:xs≠[]):∃ b o cap,x=.slice (some ⟨b,o,none⟩) xs.length cap∧xs.length≤cap∧∀ (j:Nat) (s:List UInt8),xs[j]? = some s→w.cell? ⟨b,o + j,none⟩=some (.string ⟨s.toArray⟩):=by
  generalize hq:strs xs=rows at h
  cases h with
  | lstNil=>cases xs with | nil=>exact absurd rfl hne | cons c l=>cases hq
  | lstE=>cases xs with | nil=>exact absurd rfl hne | cons c l=>cases hq
  | lst _ _ b o cap cv hlen hk hc hr =>
    subst hq
    have hl:(strs xs).length=xs.length:=by simp [strs]
    rw [hl] at hlen
    refine ⟨b,o,cap,by rw [hl],hlen,fun j s hj=>?_⟩
    have h1:(strs xs)[j]? = some [.str s]:=by rw [strs,List.getElem?_map,hj]; rfl
    have h2:=hc j 0 _ _ h1 rfl
    have h3:=hr j 0 _ _ h1 rfl
    generalize cv j 0=u at h2 h3
    cases h3
    simpa using h2.1
theorem Zcn {Γ:Zq}{w:World}{xs:List (List UInt8)}{n:Nat}(hn:n=xs.length)(hΓ:∀ b,w.heap.size≤b→Γ b=.imm){cells:Array Value}(hc:cells=(xs.map fun s=>Value.string ⟨s.toArray⟩).toArray)(t:TypeId) :
    Rep Γ (w.alloc (.cells cells t)) (.lst 1 (strs xs)) (.slice (some ⟨w.heap.size,0,none⟩) n n):=by
  have hl:(strs xs).length=xs.length:=by simp [strs]
  subst hn
  have:=Rep.lst (Γ := Γ) (w := w.alloc (.cells cells t)) 1 (strs xs) w.heap.size 0 xs.length (fun i _=>.string ⟨(xs.getD i []).toArray⟩) (by rw [hl]; exact Nat.le_refl _) (fun r hr=>by obtain ⟨c,-,rfl⟩:=List.mem_map.1 hr; rfl) (fun i j r c hi hj=>?_) (fun i j r c hi hj=>?_)
  · rw [hl] at this; exact this
  all_goals
    rw [strs,List.getElem?_map] at hi
    obtain ⟨y,hy,rfl⟩:=Option.map_eq_some_iff.1 hi
    obtain rfl:j=0:=by
      have:=(List.getElem?_eq_some_iff.1 hj).1
      simp at this; omega
    obtain rfl:c=.str y:=by simpa using hj.symm
    have hd:xs.getD i []=y:=by rw [List.getD_eq_getElem?_getD,hy]; rfl
  · refine ⟨?_,by rw [Jo,hΓ _ (Nat.le_refl _)]; trivial,rfl⟩
    rw [hd,World.cell?_alloc_mark,hc]
    simp [hy]
  · rw [hd]; exact .str _
theorem Nw (w:World)(o:Obj):Below w.heap.size w (w.alloc o):=⟨rfl,rfl,rfl,by show w.heap.size≤(w.heap.push _).size; rw [Array.size_push]; omega,fun i hi=>Below.heap_alloc _ _ _ hi⟩
theorem RI (s sep:List UInt8):(Lib.splitB ⟨sep.toArray⟩ 0 (Lib.countB ⟨s.toArray⟩ ⟨sep.toArray⟩) ⟨s.toArray⟩).map (·.data.toList)=XB s sep:=by
  rw [Lib.splitB_data]
  unfold XB Lib.split Lib.countB
  simp only [bytes_eq]
theorem ZfR (l:List ByteArray):l.map Value.string=(l.map (·.data.toList)).map fun s=>Value.string ⟨s.toArray⟩:=by
  rw [List.map_map]
  refine List.map_congr_left fun a _=>?_
  show Value.string a=.string ⟨a.data.toList.toArray⟩
  cases a; simp
def C0:Cfg:=⟨fun _=>none,cT,fun _ _ _=>none,9223372036854775808⟩
theorem tT:∀ f af,cT f=some af→∃ fn takes,Tryd.prog.funcs[f]? = some fn∧(fn.name == "runtime.NumGoroutine")=false∧cFn Tryd.prog takes fn=some af:=by
  intro f af h
  unfold cT at h
  obtain ⟨p,hp,rfl⟩:=Option.map_eq_some_iff.1 h
  have h1:=List.find?_some hp
  have h2:=List.mem_of_find?_eq_some hp
  have:p.1=f:=by simpa using h1
  subst this
  exact ZfS p h2
theorem Zga:VD C0:=⟨fun _ _ h=>h,Nat.le_refl _⟩
theorem ZcP (W0:World):CfgOk Tryd.prog W0 C0 where
  mixed:=by kernel_rfl
  globals:=fun g cs h=>by cases h
  table:=tT
  oracle:=fun f args hp v hp' e h=>by cases h
theorem Zf0 {W0:World}(hL:Num.Laid W0)(hM:∃ m,W0.cell? ⟨1,0,none⟩=some (.int .i64 m)):∀ f args v,orR f args=some v→RV Tryd.prog W0 f args v:=by
  intro f args v h
  unfold orR at h
  split at h
  · rename_i e; subst e
    split at h
    · rename_i rows
      split at h
      · rename_i l hrows
        split at h
        · rename_i ho
          cases h
          obtain rfl:=Ht (row := Yz) (fun _ _=>Dn) hrows
          exact FV Zga (ZcP W0) l ho
        · cases h
      · cases h
    · rename_i rows
      split at h
      · rename_i l hrows
        split at h
        · rename_i ho
          cases h
          obtain rfl:=Ht (row := Yz) (fun _ _=>Dn) hrows
          refine ⟨fun k r h=>(by cases h),fun Γ w xs hb hΓ hs hx=>OX Zga (ZcP W0) l ho hb hΓ hs ?_⟩
          exact (hx 0 _ rfl).ro.still' rfl
        · cases h
      · cases h
    · cases h
  split at h
  · rename_i e; subst e
    split at h
    · rename_i n
      split at h
      · rename_i hs
        cases h
        refine ⟨fun _ _ h=>(by cases h),fun Γ w xs hb hΓ hsz hx=>?_⟩
        obtain ⟨x,rfl⟩:=xs1 hsz
        obtain rfl:x=_:=Sv (hx 0 _ rfl)
        refine WV Tryd.func32 (by kernel_rfl) rfl ((Num.c_text n hs.1 hs.2 w (hL.below hb)).mono ?_)
        rintro e w' ⟨rfl,hb'⟩
        exact ⟨_,rfl,hb',.str _⟩
      · cases h
    · cases h
  split at h
  · rename_i e; subst e
    split at h
    · rename_i n
      split at h
      · rename_i hs
        cases h
        refine ⟨fun _ _ h=>(by cases h),fun Γ w xs hb hΓ hsz hx=>?_⟩
        obtain ⟨x,rfl⟩:=xs1 hsz
        obtain rfl:x=_:=Sv (hx 0 _ rfl)
        refine WV Tryd.func33 (by kernel_rfl) rfl ((Num.c_rtext _ n w (Nat.le_refl _) hs.1 hs.2).mono ?_)
        rintro e w' ⟨rfl,rfl⟩
        exact ⟨_,rfl,Below.refl _ _,.str _⟩
      · cases h
    · cases h
  split at h
  · rename_i e; subst e
    split at h
    · rename_i s
      split at h
      · rename_i hs
        cases h
        refine ⟨fun _ _ h=>(by cases h),fun Γ w xs hb hΓ hsz hx=>?_⟩
        obtain ⟨x,rfl⟩:=xs1 hsz
        obtain rfl:x=_:=TT (hx 0 _ rfl)
        refine WV Tryd.func22 (by kernel_rfl) rfl ((Num.c_parse ⟨s.toArray⟩ (by rw [size_eq']; exact hs) w (hL.below hb)).mono ?_)
        rintro e w' ⟨rfl,hb'⟩
        rw [bytes_eq]
        refine ⟨_,rfl,hb',.tup _ _ rfl fun j c hc=>?_⟩
        match j,hc with
        | 0,hc=>cases hc; exact .int _ _
        | 1,hc=>cases hc; exact .bool _
        | j + 2,hc=>simp at hc
      · cases h
    · cases h
  split at h
  · rename_i e; subst e
    split at h
    · rename_i s
      split at h
      · rename_i hs
        cases h
        refine ⟨fun _ _ h=>(by cases h),fun Γ w xs hb hΓ hsz hx=>?_⟩
        obtain ⟨x,rfl⟩:=xs1 hsz
        obtain rfl:x=_:=TT (hx 0 _ rfl)
        refine WV Tryd.func25 (by kernel_rfl) rfl ((Num.c_rparse ⟨s.toArray⟩ (by rw [size_eq']; exact hs) w).mono ?_)
        rintro e w' ⟨rfl,rfl⟩
        rw [bytes_eq]
        refine ⟨_,rfl,Below.refl _ _,.tup _ _ rfl fun j c hc=>?_⟩
        match j,hc with
        | 0,hc=>cases hc; exact .int _ _
        | 1,hc=>cases hc; exact .bool _
        | j + 2,hc=>simp at hc
      · cases h
    · cases h
  split at h
  · rename_i e; subst e
    split at h
    · rename_i rows sep
      split at h
      · rename_i l hrows
        split at h
        · rename_i ho
          cases h
          obtain ⟨h1,h2,h3⟩:=ho
          obtain rfl:=Ht (row := ZfP) (fun _ _=>Zct) hrows
          refine ⟨fun k r h=>(by cases h),fun Γ w xs hb hΓ hsz hx=>?_⟩
          obtain ⟨x,y,rfl⟩:=xs2 hsz
          obtain ⟨b,o,cap,rfl,hcap,hcell⟩:∃ b o cap,x=.slice (some ⟨b,o,none⟩) l.length cap∧l.length≤cap∧∀ (j:Nat) (s:List UInt8),l[j]? = some s→w.cell? ⟨b,o + j,none⟩=some (.string ⟨s.toArray⟩):=Zca (hx 0 _ rfl) h1
          obtain rfl:y=_:=TT (hx 1 _ rfl)
          have hm:(l.map fun s=>(⟨s.toArray⟩:ByteArray)).map (·.data.toList)=l:=by rw [List.map_map]; exact (List.map_congr_left fun a _=>bytes_eq a).trans (List.map_id' l)
          have hJ:=Tryd.strings_Join b o cap (l.map fun s=>⟨s.toArray⟩) ⟨sep.toArray⟩ w (fun j x hj=>by
            rw [List.getElem?_map] at hj
            obtain ⟨s,hs,rfl⟩:=Option.map_eq_some_iff.1 hj
            exact hcell j s hs) (by
            cases l with
            | nil=>exact absurd rfl h1
            | cons s l=>exact World.block_lt_of_cell? w _ (hcell 0 s rfl)) (by simpa using h2) (by simpa using hcap) (by rw [hm,bytes_eq]; exact h3)
          rw [hm,bytes_eq,List.length_map] at hJ
          refine WV Tryd.func31 (by kernel_rfl) rfl (hJ.mono ?_)
          rintro e w' ⟨rfl,hb'⟩
          exact ⟨_,rfl,hb',.str _⟩
        · cases h
      · cases h
    · cases h
  split at h
  · rename_i e; subst e
    split at h
    · rename_i s sep
      split at h
      · rename_i hs
        cases h
        refine ⟨fun _ _ h=>(by cases h),fun Γ w xs hb hΓ hsz hx=>?_⟩
        obtain ⟨x,y,rfl⟩:=xs2 hsz
        obtain rfl:x=_:=TT (hx 0 _ rfl)
        obtain rfl:y=_:=TT (hx 1 _ rfl)
        obtain ⟨m,hm⟩:=hM
        have hm':w.cell? ⟨1,0,none⟩=some (.int .i64 m):=by rw [hb.cell (World.block_lt_of_cell? W0 _ hm)]; exact hm
        refine WV Tryd.func21 (by kernel_rfl) rfl ((Tryd.strings_Split ⟨s.toArray⟩ ⟨sep.toArray⟩ m w (by rw [size_eq']; exact hs.1) hm' (by rw [size_eq']; exact hs.2)).mono ?_)
        rintro e w' ⟨rfl,rfl⟩
        refine ⟨_,rfl,Nw _ _,Zcn ?_ hΓ ?_ 9⟩
        · rw [← RI,List.length_map,Lib.splitB_all _ (by rw [size_eq']; exact hs.2) _ _ _ rfl]
        · rw [ZfR,RI]
      · cases h
    · cases h
  · cases h
end Go.Proofs.YtdchnngpjjcchaaDoor
end
section
namespace Go.Proofs.YtdchnngpjjcchaaDoor
open Go Go.RowKit Go.Proofs.YtdchnngpjjcchaaDoor.Abs
set_option maxRecDepth 100000
def Q8:List (List UInt8):=[[98,101,103,105,110],[101,110,100],[104,111,108,100],[115,101,105,122,101],[119,97,105,116,115],[114,101,108,101,97,115,101],[112,114,101,101,109,112,116],[112,117,116],[103,101,116],[114,105,100,101],[119,97,105,116],[115,105,103,110,97,108],[115,101,110,100],[111,98,115,101,114,118,101],[108,101,118,101,108],[99,111,117,110,116],[115,104,105,102,116],[102,97,117,108,116]]
def GW:Nat→Option (List AV):=fun g=>if g=0 then some [.lst 1 (strs Q8)] else none
noncomputable def orA (f:FuncId)(args:List AV)(hp:HP):Option AV :=
  match args with
  | [.arr g o n 6]=>if f=Zg then (match rowsOf hp (.arr g o n 6) with | some (6,rows)=>orR f [.lst 6 rows] | _=>none) else orR f [.arr g o n 6]
  | a=>orR f a
theorem Zfz {f:FuncId}{args:List AV}{v:AV}(h:orR f args=some v)(hp:HP):orA f args hp=some v:=by
  unfold orA
  split
  · split
    · rename_i e; subst e
      unfold orR at h
      rw [if_pos rfl] at h
      cases h
    · exact h
  · exact h
noncomputable def CR:Cfg:=⟨GW,cT,fun f args hp=>(orA f args hp).map fun v=>(v,hp,none),9223372036854775808⟩
theorem ZcT {W0 w:World}{Γ:Zq}{hp:HP}{g off len:Nat}{u:Value}{l:List Yx}(hr:RW W0 Γ w hp)(hu:Rep Γ w (.arr g off len 6) u)(h:rowsOf hp (.arr g off len 6)=some (6,recs l)):Rep still w (.lst 6 (recs l)) u:=by
  unfold rowsOf at h
  simp only at h
  split at h <;> first | (cases h; done) | skip
  rename_i cs t hg
  split at h <;> first | (cases h; done) | skip
  rename_i hfit
  obtain ⟨-,hch⟩:=Prod.mk.inj (Option.some.inj h)
  cases hu with
  | arr _ _ _ _ cap b hb hcap =>
    obtain ⟨b',C,h1,h2,h3,h4⟩:=hr.objs g _ hg
    obtain rfl:=hr.inj b b' g hb h1
    have hlen:(recs l).length=len:=by rw [← hch,Qr]
    have hrow:∀ (i:Nat) (r:List AV),(recs l)[i]? = some r→∀ (j:Nat) (c:AV),r[j]? = some c→cs[off + (i * 6 + j)]? = some c:=by
      intro i r hi j c hj
      rw [← hch] at hi
      have he:=Gm 6 len _ i r hi
      rw [he,List.getElem?_take] at hj
      split at hj
      · rw [List.getElem?_drop,List.getElem?_drop] at hj
        exact hj
      · cases hj
    have hint:∀ (i:Nat) (r:List AV),(recs l)[i]? = some r→∀ (j:Nat) (c:AV),r[j]? = some c→∃ n,c=.int .i64 n:=by
      intro i r hi j c hj
      rw [recs,List.getElem?_map] at hi
      obtain ⟨x,-,rfl⟩:=Option.map_eq_some_iff.1 hi
      have hm:=List.mem_of_getElem? hj
      simp only [Yz,List.mem_cons,List.not_mem_nil,or_false] at hm
      rcases hm with rfl | rfl | rfl | rfl | rfl | rfl <;> exact ⟨_,rfl⟩
    rw [← hlen]
    refine .lst 6 (recs l) b off cap (fun i j=>C.getD (off + (i * 6 + j)) Go.undef) (by rw [hlen]; exact hcap) (fun r hr=>by obtain ⟨x,-,rfl⟩:=List.mem_map.1 hr; rfl) (fun i j r c hi hj=>?_) (fun i j r c hi hj=>?_)
    all_goals
      obtain ⟨n,rfl⟩:=hint i r hi j _ hj
      have hc:=hrow i r hi j _ hj
      have hlt:=(List.getElem?_eq_some_iff.1 hc).1
      obtain ⟨k1,k2,k3⟩:=h4 _ _ hc
    · refine ⟨?_,trivial,rfl⟩
      rw [cell_of_row w b _ C t (0,0) h2]
      exact Y5 (by omega)
    · rw [Sv k2]; exact .int _ _
theorem AU {P:Program}{W0:World}{Γ:Zq}{w:World}{hp:HP}{f:FuncId}{xs:Array Value}{v:AV}(hr:RW W0 Γ w hp)(hown:∀ k r,v≠.own k r)(h:ZaV P f xs w fun cv w'=>Below w.heap.size w w'∧Rep Γ w' v cv) :
    ZaV P f xs w fun cv w'=>∃ Γ',RW W0 Γ' w' hp∧Rep Γ' w' v cv∧OwnAt Γ' w' .res v cv∧Abs.Frame Γ w Γ' w' none∧hp.length≤hp.length∧∀ b g,Γ' b=.own g→g < hp.length→Γ b=.own g:=by
  refine h.mono fun cv w' ⟨hb,hv⟩=>?_
  have st:Step Γ w Γ w' fun _=>False:=⟨hb.os,hb.tape,hb.output,hb.size,fun b hbl _=>⟨rfl,hb.block b hbl⟩,fun b o v h1 h2=>⟨h1,(Vh (hb.block b (lt_of_cell h2))).trans h2⟩,.refl _⟩
  obtain ⟨o1,o2⟩:=XT hr.old hr.oldImm st fun _ hx=>hx.elim
  exact ⟨Γ,⟨fun g o hg=>(hr.objs g o hg).step st hr.fresh (fun _ hx=>hx.elim) (fun _ _ _ hx=>hx.elim),hr.inj,fun b hbl=>hr.fresh b (Nat.le_trans hb.size hbl),hr.lt,o1,o2,hr.dead⟩,hv,.of_ne hown,⟨hb.os,hb.tape,hb.output,hb.size,st.fix,.refl _,fun b hbl _=>⟨rfl,hb.block b hbl⟩⟩,Nat.le_refl _,fun _ _ hb _=>hb⟩
theorem ZbQ {W0:World}(hL:Num.Laid W0)(hM:∃ m,W0.cell? ⟨1,0,none⟩=some (.int .i64 m)):Yp Tryd.prog W0 fun f args hp=>(orA f args hp).map fun v=>(v,hp,none):=by
  intro f args hp v hp' e ho Γ w xs hr ht hs hx
  obtain ⟨u,hu,e1⟩:=Option.map_eq_some_iff.1 ho
  cases e1
  have old:orR f args=some v→_:=fun h=>Md (Zf0 hL hM) f args hp v hp none (by show (orR f args).map _=_; rw [h]; rfl) Γ w xs hr ht hs hx
  unfold orA at hu
  split at hu
  · rename_i g o n
    split at hu
    · rename_i ef; subst ef
      split at hu
      · rename_i rows hrows
        unfold orR at hu
        rw [if_pos rfl] at hu
        simp only at hu
        split at hu
        · rename_i l hl
          split at hu
          · rename_i hok
            cases hu
            obtain rfl:=Ht (row := Yz) (fun _ _=>Dn) hl
            exact AU hr (fun k r h=>by cases h) (OX Zga (ZcP W0) l hok hr.old hr.fresh hs (ZcT hr (hx 0 _ rfl).1 hrows))
          · cases hu
        · cases hu
      · cases hu
    · exact old hu
  · exact old hu
theorem Zgb {W0:World}(hG:GOk GW W0)(hL:Num.Laid W0)(hM:∃ m,W0.cell? ⟨1,0,none⟩=some (.int .i64 m)):CfgOk Tryd.prog W0 CR where
  mixed:=by kernel_rfl
  globals:=hG
  table:=tT
  oracle:=ZbQ hL hM
theorem Zfh {f:FuncId}{args:List AV}{v:AV}{hp:HP}(hT:cT f=none)(h:orA f args hp=some v)(N:Nat):Za CR (N + 1) f args hp=some (v,hp,none):=by
  show (match cT f with | some fn=>_ | none=>(orA f args hp).map fun v=>(v,hp,none))=_
  rw [hT,h]; rfl
theorem Aq {f:FuncId}{args:List AV}{v:AV}(hT:cT f=none)(h:orR f args=some v)(N:Nat)(hp:HP):Za CR (N + 1) f args hp=some (v,hp,none):=Zfh hT (Zfz h hp) N
theorem Zd6 (l:List Yx)(hl:∀ r ∈ l,Qb r):orR Zg [.lst 6 (recs l)]=some (Oi l)∧orR Zg [.own 6 (recs l)]=some (Oi l):=by
  have h:=ZaJ (u := unR) (row := Yz) (fun x=>rfl) l
  rw [← ZbZ] at h
  constructor
  all_goals
    unfold orR
    rw [if_pos rfl]
    simp only [h]
    rw [if_pos hl]
theorem Ky:ZgP CR where
  T:=fun _ _ h=>h
  L:=Nat.le_refl _
  enc:=fun N hp l hl=>Aq rfl (Zd6 l hl).1 N hp
theorem ZeB (N:Nat)(hp:HP)(l:List Yx)(hl:∀ r ∈ l,Qb r):Za CR (N + 1) Zg [.own 6 (recs l)] hp=some (Oi l,hp,none):=Aq rfl (Zd6 l hl).2 N hp
theorem DW (N:Nat)(hp:HP)(n:Int)(h:Rng n):Za CR (N + 1) Xo [.int .i64 n] hp=some (.str (Lib.itoa n),hp,none) :=
  Aq rfl (by unfold orR; rw [if_neg (by decide),if_pos rfl]; simp only; rw [if_pos h]) N hp
theorem Zdg (N:Nat)(hp:HP)(s:List UInt8)(h:s.length≤281474976710656):Za CR (N + 1) Kz [.str s] hp=some (.tup [.int .i64 (Num.parseI s).1,.bool (Num.parseI s).2],hp,none) :=
  Aq rfl (by unfold orR; rw [if_neg (by decide),if_neg (by decide),if_neg (by decide),if_pos rfl]; simp only; rw [if_pos h]) N hp
theorem ZeC (N:Nat)(hp:HP)(xs:List (List UInt8))(sep:List UInt8)(h:xs≠[]∧xs.length≤140737488355328∧(Lib.join xs sep).length≤140737488355328):Za CR (N + 1) VF [.lst 1 (strs xs),.str sep] hp=some (.str (Lib.join xs sep),hp,none) :=
  Aq rfl (by
    have hu:=ZaJ (u := unS) (row := ZfP) (fun x=>rfl) xs
    rw [← Zcm] at hu
    unfold orR
    rw [if_neg (by decide),if_neg (by decide),if_neg (by decide),if_neg (by decide),if_neg (by decide),if_pos rfl]
    simp only [hu]
    rw [if_pos h]) N hp
theorem Zdh (N:Nat)(hp:HP)(s sep:List UInt8)(h:s.length < 4294967281∧1≤sep.length):Za CR (N + 1) XY [.str s,.str sep] hp=some (.lst 1 (strs (XB s sep)),hp,none) :=
  Aq rfl (by unfold orR; rw [if_neg (by decide),if_neg (by decide),if_neg (by decide),if_neg (by decide),if_neg (by decide),if_neg (by decide),if_pos rfl]; simp only; rw [if_pos h]) N hp
def CO (x:List UInt8):List (List UInt8)→Nat→Int
  | [],_=>-1
  | y :: l,i=>if x=y then (i:Int) else CO x l (i + 1)
theorem CP (x:List UInt8):∀ (l:List (List UInt8)) (i:Nat),-1≤CO x l i∧CO x l i < i + l.length∨(CO x l i=-1)
  | [],i=>.inr rfl
  | y :: l,i=>by
    rw [CO]
    split
    · left; constructor <;> simp <;> omega
    · rcases CP x l (i + 1) with h | h
      · left; simp; omega
      · exact .inr h
theorem Ot (l:List (List UInt8)):(strs l).length=l.length:=by simp [strs]
theorem BD (l:List (List UInt8))(i:Nat):ZZ (.slice 1) (.lst 1 (strs l)) (.int .i64 i)=(l[i]?).map fun c=>AV.ref [.str c]:=by
  rw [IA,strs,List.getElem?_map,Option.map_map]; rfl
theorem Et {G:GT}{K:KT}{L:Nat}{hp0:HP}{x:List UInt8}{l:List (List UInt8)}(hb:l.length≤4611686018427387):∀ (q w:List (List UInt8)) (m:Nat),l=w ++ q→q.length < m →
    Zu G K L hp0 (ZK G K L hp0) m (.lst 1 (strs l)) (.str x) (.int .i64 l.length) (.int .i64 w.length) hp0 none=some (.int .i64 (CO x q w.length),hp0,none)
  | _,_,0,_,h=>absurd h (by omega)
  | [],w,m + 1,hl,hm=>by
    have a1:=lp0 hl
    simp only [Zu,ZK,EV,a1,Bool.false_eq_true,if_false]
    rfl
  | y :: q,w,m + 1,hl,hm=>by
    obtain ⟨a1,a2,a3,a4,a5⟩:=lp ZfP hl hb
    have i1:ZZ (.slice 1) (.lst 1 (strs l)) (.int .i64 w.length)=some (.ref [.str y]):=by rw [BD,hl]; simp
    have ih:=Et (G := G) (K := K) (L := L) (hp0 := hp0) (x := x) hb q (w ++ [y]) m a4 (by simpa using hm)
    by_cases h:x=y
    · have c:decide (x=y)=true:=by simpa using h
      simp only [Zu,EV,a1,if_true,i1,c]
      rw [CO,if_pos h]
    · have c:decide (x=y)=false:=by simpa using h
      simp only [Zu,EV,a1,if_true,i1,c,Bool.false_eq_true,if_false,a3]
      rw [ih,CO,if_neg h]
      simp
theorem Zde {C:Cfg}(hC:VD C)(N:Nat)(hN:1≤N)(hp:HP)(l:List (List UInt8))(x:List UInt8)(hb:l.length≤4611686018427387):Za C N Yj [.lst 1 (strs l),.str x] hp=some (.int .i64 (CO x l 0),hp,none):=by
  obtain ⟨m,rfl,hm⟩:=fuel (C := C) (d := 0) hN
  refine Xn (hC.T _ _ rfl) ?_
  have hL:=hC.L
  simp only [YK,EV,Ot]
  exact Et hb l [] C.L rfl (by omega)
theorem ZaZ {K:KT}{f:FuncId}{args:List AV}{k:IntKind}{n:Int}{hp':HP}(h:K f args []=some (.int k n,hp',none))(ha:args.all AV.bare=true)(hp:HP):ZX K f args hp=some (.int k n,hp,none):=by
  unfold ZX
  rw [if_pos ha,h]; rfl
def Jl (n:Int):List UInt8:=Q8.getD (n - 1).toNat []
def textS (r:Yx):List UInt8:=if UU r≠0 then [] else Lib.join [Lib.itoa r.Time,Lib.itoa r.Site,Jl r.What,Lib.itoa r.Proc,Lib.itoa r.Index,Lib.itoa r.Value] [32]
theorem Zb6 (e:TypeId)(a b c d f g:List UInt8)(hp:HP):Tz e 1 [.str a,.str b,.str c,.str d,.str f,.str g] hp=some (.own 1 (strs [a,b,c,d,f,g]),hp):=rfl
theorem ZaL:∀ w ∈ Q8,w.length≤7:=by decide
theorem EO (n:Int):(Jl n).length≤7:=by
  unfold Jl
  by_cases h:(n - 1).toNat < Q8.length
  · rw [List.getD_eq_getElem?_getD,List.getElem?_eq_getElem h]
    exact ZaL _ (List.getElem_mem h)
  · rw [List.getD_eq_getElem?_getD,List.getElem?_eq_none (by omega)]; simp
theorem Zdw (a b c d e f sep:List UInt8):Lib.join [a,b,c,d,e,f] sep=a ++ (sep ++ b ++ (sep ++ c ++ (sep ++ d ++ (sep ++ e ++ (sep ++ f))))):=by
  rw [Lib.join_cons]; simp [Lib.joinTail]
theorem PR {r:Yx}(h:UU r=0):1≤r.What∧r.What≤18:=by
  unfold UU at h
  split at h
  · cases h
  · omega
theorem OW (N:Nat)(hN:3≤N)(hp:HP)(r:Yx)(ho:Qb r):Za CR N Ws [.agg (Yz r)] hp=some (.str (textS r),hp,none):=by
  obtain ⟨k,rfl,hk⟩:=fuel (C := CR) (d := 2) hN
  have a1:=fun hp=>OQ Ky.toVD k hk hp r
  obtain ⟨q,rfl⟩:∃ q,k=q + 1:=⟨k - 1,by omega⟩
  refine TR (Ky.T _ _ rfl) ?_
  unfold textS
  have bx:=Nz 6 (Yz r) rfl
  by_cases h:UU r=0
  · have b:decide (UU r≠0)=false:=by simpa using h
    rw [if_neg (by simpa using h)]
    obtain ⟨w1,w2⟩:=PR h
    have t1:=fun hp=>DW q hp r.Time ho.Time
    have t2:=fun hp=>DW q hp r.Site ho.Site
    have t3:=fun hp=>DW q hp r.Proc ho.Proc
    have t4:=fun hp=>DW q hp r.Index ho.Index
    have t5:=fun hp=>DW q hp r.Value ho.Value
    have g0:CR.G 0=some [.lst 1 (strs Q8)]:=rfl
    have wr:IntKind.i64.wrap (r.What - 1)=(((r.What - 1).toNat:Nat):Int):=by rw [i64_in (by omega) (by omega)]; omega
    have hw:Q8[(r.What - 1).toNat]? = some (Jl r.What):=by
      have hl:Q8.length=18:=rfl
      unfold Jl
      rw [List.getD_eq_getElem?_getD,List.getElem?_eq_getElem (by omega)]; rfl
    have i1:ZZ (.slice 1) (.lst 1 (strs Q8)) (.int .i64 (((r.What - 1).toNat:Nat):Int))=some (.ref [.str (Jl r.What)]):=by rw [BD,hw]; rfl
    have l1:=Lib.itoa_length_le r.Time ho.Time.1 ho.Time.2
    have l2:=Lib.itoa_length_le r.Site ho.Site.1 ho.Site.2
    have l3:=Lib.itoa_length_le r.Proc ho.Proc.1 ho.Proc.2
    have l4:=Lib.itoa_length_le r.Index ho.Index.1 ho.Index.2
    have l5:=Lib.itoa_length_le r.Value ho.Value.1 ho.Value.2
    have l6:=EO r.What
    have jn:=fun hp=>ZeC q hp [Lib.itoa r.Time,Lib.itoa r.Site,Jl r.What,Lib.itoa r.Proc,Lib.itoa r.Index,Lib.itoa r.Value] [32] ⟨by simp,by simp,by rw [Zdw]; simp only [List.length_append,List.length_cons,List.length_nil]; omega⟩
    simp only [XO,EV,bx,LD,GI,Y7,Q9,Hl,Rx,Ry,Rz,RD,RF,a1,b,Bool.false_eq_true,if_false,QC,t1,t2,t3,t4,t5,g0,wr,i1,Zb6,jn]
  · have b:decide (UU r≠0)=true:=by simpa using h
    rw [if_pos h]
    simp only [XO,EV,bx,LD,GI,Y7,Q9,a1,b,if_true]
end Go.Proofs.YtdchnngpjjcchaaDoor
end
section
namespace Go.Proofs.YtdchnngpjjcchaaDoor
open Go Go.RowKit Go.Proofs.YtdchnngpjjcchaaDoor.Abs
set_option maxRecDepth 100000
def Xm (s:List UInt8):Int:=(Num.parseI s).1
theorem ZbS (s:List UInt8):-1000000000000≤Xm s∧Xm s≤1000000000000:=by
  unfold Xm
  rcases Num.parseI_ok s with ⟨n,h,_,h2⟩ | h
  · rw [h]; exact h2
  · rw [h]; exact ⟨by decide,by decide⟩
def JE (w:List UInt8):Int:=1 + CO w Q8 0
theorem RQ (w:List UInt8):0≤JE w∧JE w≤18:=by
  unfold JE
  have:Q8.length=18:=rfl
  rcases CP w Q8 0 with h | h <;> omega
def Qd:Yx:=⟨0,0,0,0,0,0⟩
def Zf1 (l:List (List UInt8)):Yx:=⟨Xm (l.getD 0 []),Xm (l.getD 1 []),JE (l.getD 2 []),Xm (l.getD 3 []),Xm (l.getD 4 []),Xm (l.getD 5 [])⟩
def IE (s:List UInt8):Yx×Int :=
  if (XB s [32]).length≠6 then (Qd,8) else if textS (Zf1 (XB s [32]))≠s then (Qd,8) else (Zf1 (XB s [32]),0)
theorem ZdP (l:List (List UInt8)):Qb (Zf1 l):=by
  have h:=fun s=>ZbS s
  have w:=RQ (l.getD 2 [])
  refine ⟨?_,?_,?_,?_,?_,?_⟩
  · have:=h (l.getD 0 []); exact ⟨by show _≤Xm _; omega,by show Xm _≤_; omega⟩
  · have:=h (l.getD 1 []); exact ⟨by show _≤Xm _; omega,by show Xm _≤_; omega⟩
  · exact ⟨by show _≤JE _; omega,by show JE _≤_; omega⟩
  · have:=h (l.getD 3 []); exact ⟨by show _≤Xm _; omega,by show Xm _≤_; omega⟩
  · have:=h (l.getD 4 []); exact ⟨by show _≤Xm _; omega,by show Xm _≤_; omega⟩
  · have:=h (l.getD 5 []); exact ⟨by show _≤Xm _; omega,by show Xm _≤_; omega⟩
theorem ZgI {v:List (List UInt8)}(h:v.length=6):∃ a b c d e f,v=[a,b,c,d,e,f]:=by
  match v,h with
  | [a,b,c,d,e,f],_=>exact ⟨a,b,c,d,e,f,rfl⟩
theorem Rq {N:Nat}{L:Nat}{hp0 h:HP}{t:TypeId}{l:List (List UInt8)}{x0 x2 y2:AV}(hh:hp0.length≤h.length)(hl:l.length=6)(hs:∀ s ∈ l,s.length≤281474976710656)(k0:AV→AV→AV→AV→AV→HP→Eff→KR):∀ (q w:List (List UInt8)) (m:Nat),l=w ++ q→q.length < m →
    Yt CR.G (Za CR (N + 1)) L hp0 k0 m x0 x2 y2 (.lst 1 (strs l)) (.ptr h.length 0) (.lst 1 (strs l)) (.int .i64 l.length) (.int .i64 w.length) (h ++ [.cells (ics (w.map Xm) ++ List.replicate q.length (.int .i64 0)) t]) none=k0 x0 x2 y2 (.lst 1 (strs l)) (.ptr h.length 0) (h ++ [.cells (ics (l.map Xm)) t]) none
  | _,_,0,_,h=>absurd h (by omega)
  | [],w,m + 1,hw,hm=>by
    have a1:=lp0 hw
    have:l=w:=by rw [hw]; simp
    simp only [Yt,EV,a1,Bool.false_eq_true,if_false,List.length_nil,List.replicate_zero,List.append_nil]
    rw [this]
  | y :: q,w,m + 1,hw,hm=>by
    obtain ⟨a1,a2,a3,a4,a5⟩:=lp ZfP hw (by omega)
    have i1:ZZ (.slice 1) (.lst 1 (strs l)) (.int .i64 w.length)=some (.ref [.str y]):=by rw [BD,hw]; simp
    have p1:=fun hp=>Zdg N hp y (hs y a5)
    have hwl:w.length < 6:=by have:=congrArg List.length hw; simp at this; omega
    have i2:=Je h.length w.length hwl
    have hml:(w.map Xm).length=w.length:=by simp
    have s1:=fun n=>MC hp0.length h (ics (w.map Xm) ++ List.replicate (q.length + 1) (.int .i64 0)) t w.length (.int .i64 n) none rfl (by simp [ics]) hh
    have sm:=set_mid (w.map Xm) q.length (Xm y)
    rw [hml] at sm
    have ih:=Rq (N := N) (L := L) (hp0 := hp0) (t := t) (x0 := x0) (x2 := x2) (y2 := y2) hh hl hs k0 q (w ++ [y]) m a4 (by simpa using hm)
    rw [List.map_append,List.map_singleton] at ih
    have e1:(Num.parseI y).1=Xm y:=rfl
    simp only [Yt,EV,a1,if_true,i1,p1,GI,EX,i2,List.length_cons,s1,e1,sm,a3]
    exact ih
theorem Zdr (bs:Nat)(hp:HP)(r:Yx):Ii bs hp (.agg (Yz r))=some (.agg (Yz r)):=rfl
theorem Zea (bs n:Nat)(h:HP)(cs c:List AV)(t:TypeId)(x y:Zi)(ef:Eff)(h1:c.length=n)(h2:cs.length=n)(h4:bs≤h.length):stV bs n (.ptr h.length 0) (.agg c) (h ++ [.cells cs t] ++ [x] ++ [y]) ef=some (h ++ [.cells c t] ++ [x] ++ [y],ef):=by
  have e:(h ++ [.cells cs t] ++ [x] ++ [y])[h.length]? = some (.cells cs t):=by simp
  simp only [stV,e]
  have hs:splice cs 0 c=c:=by simp [splice,h1,← h2]
  have hn:XQ bs ef h.length 0=ef:=by simp [XQ]; omega
  rw [if_pos ⟨h1,by omega,rfl⟩,hn,OB,hs]
  simp
theorem Zeb (bs n:Nat)(h:HP)(cs c:List AV)(t:TypeId)(ef:Eff)(h1:c.length=n)(h2:cs.length=n)(h4:bs≤h.length):stV bs n (.ptr h.length 0) (.agg c) (h ++ [.cells cs t]) ef=some (h ++ [.cells c t],ef):=st_all bs n h cs c t ef h1 h2 h4
theorem ZeI (a b c d e f:Int):fill (Yz Qd) [(0,1,.int .i64 a),(1,1,.int .i64 b),(2,1,.int .i64 c),(3,1,.int .i64 d),(4,1,.int .i64 e),(5,1,.int .i64 f)]=some [.int .i64 a,.int .i64 b,.int .i64 c,.int .i64 d,.int .i64 e,.int .i64 f]:=rfl
theorem JB:([(.int .i64 0),(.int .i64 0),(.int .i64 0),(.int .i64 0),(.int .i64 0),(.int .i64 0)]:List AV)=Yz Qd:=rfl
theorem NP (hp0 hp:HP)(r:Yx)(e:Int):Y6 false hp0 (.tup [(.agg (Yz r)),.int .i64 e]) hp none=(.tup [.agg (Yz r),.int .i64 e],hp0,none):=by
  rw [TUP.1,Zdr,Eo]; rfl
def ZgR (p:Yx×Int):AV:=.tup [.agg (Yz p.1),.int .i64 p.2]
theorem ZaE (s:List UInt8):∀ x ∈ XB s [32],x.length≤s.length:=by
  have key:∀ (k:Nat) (s:List UInt8),∀ x ∈ Lib.splitK [32] 0 k s,x.length≤s.length:=by
    intro k
    induction k with
    | zero =>
      intro s x hx
      obtain rfl:x=s:=by simpa [Lib.splitK] using hx
      exact Nat.le_refl _
    | succ k ih =>
      intro s x hx
      unfold Lib.splitK at hx
      split at hx
      · obtain rfl:x=s:=by simpa using hx
        exact Nat.le_refl _
      · rcases List.mem_cons.1 hx with rfl | hx
        · simp; omega
        · have:=ih _ x hx
          simp at this; omega
  exact key _ s
theorem Ig (N:Nat)(hN:4≤N)(hp0:HP)(s:List UInt8)(hs:s.length < 4294967281):Za CR N YX [.str s] hp0=some (ZgR (IE s),hp0,none):=by
  obtain ⟨k,rfl,hk⟩:=fuel (C := CR) (d := 3) hN
  obtain ⟨q,rfl⟩:∃ q,k=q + 1:=⟨k - 1,by omega⟩
  refine Ob (Ky.T _ _ rfl) ?_
  have hL:=Ky.L
  have sp:=fun hp=>Zdh q hp s [32] ⟨hs,by simp⟩
  have hsl:=ZaE s
  unfold IE
  obtain ⟨l,hl⟩:∃ l,XB s [32]=l:=⟨_,rfl⟩
  rw [hl] at sp hsl
  rw [hl]
  by_cases h6:l.length=6
  · rw [if_neg (by simpa using h6)]
    have b1:decide ((l.length:Int)≠6)=false:=by simp [h6]
    have lo:=Rq (N := q) (L := CR.L) (hp0 := hp0) (h := hp0 ++ [Zi.cells (Yz Qd) Zl]) (t := WZ) (x0 := .str s) (x2 := .ptr hp0.length 0) (y2 := .ptr hp0.length 0) (by simp) h6 (fun x hx=>by have:=hsl x hx; omega) (Y9 CR.G (Za CR (q + 1)) CR.L hp0) l [] CR.L rfl (by omega)
    have st:QD CR.G (Za CR (q + 1)) CR.L (.str s) hp0=Yt CR.G (Za CR (q + 1)) CR.L hp0 (Y9 CR.G (Za CR (q + 1)) CR.L hp0) CR.L (.str s) (.ptr hp0.length 0) (.ptr hp0.length 0) (.lst 1 (strs l)) (.ptr (hp0 ++ [Zi.cells (Yz Qd) Zl]).length 0) (.lst 1 (strs l)) (.int .i64 l.length) (.int .i64 (([]:List (List UInt8)).length:Nat)) ((hp0 ++ [Zi.cells (Yz Qd) Zl]) ++ [.cells (ics (([]:List (List UInt8)).map Xm) ++ List.replicate l.length (.int .i64 0)) WZ]) none:=by
      simp only [QD,EV,sp,Ot,b1,Bool.false_eq_true,if_false,JB]
      rw [h6]
      rfl
    rw [st,lo]
    obtain ⟨a,b,c,d,e,f,rfl⟩:=ZgI h6
    obtain ⟨R,hR⟩:∃ R,Zf1 [a,b,c,d,e,f]=R:=⟨_,rfl⟩
    have hok:Qb R:=by rw [← hR]; exact ZdP _
    rw [hR]
    have hRr:([.int .i64 (Xm a),.int .i64 (Xm b),.int .i64 (JE c),.int .i64 (Xm d),.int .i64 (Xm e),.int .i64 (Xm f)]:List AV)=Yz R:=by rw [← hR]; rfl
    have i0:∀ g,ZZ (.arr 6 1) (.ptr g 0) (.int .i64 0)=some (.ptr g 0):=fun g=>Je g 0 (by omega)
    have i1:∀ g,ZZ (.arr 6 1) (.ptr g 0) (.int .i64 1)=some (.ptr g 1):=fun g=>Je g 1 (by omega)
    have i3:∀ g,ZZ (.arr 6 1) (.ptr g 0) (.int .i64 3)=some (.ptr g 3):=fun g=>Je g 3 (by omega)
    have i4:∀ g,ZZ (.arr 6 1) (.ptr g 0) (.int .i64 4)=some (.ptr g 4):=fun g=>Je g 4 (by omega)
    have i5:∀ g,ZZ (.arr 6 1) (.ptr g 0) (.int .i64 5)=some (.ptr g 5):=fun g=>Je g 5 (by omega)
    have lc:=fun o=>BJ (hp0 ++ [Zi.cells (Yz Qd) Zl]) (ics [Xm a,Xm b,Xm c,Xm d,Xm e,Xm f]) WZ o
    have g0:CR.G 0=some [.lst 1 (strs Q8)]:=rfl
    have j2:ZZ (.slice 1) (.lst 1 (strs [a,b,c,d,e,f])) (.int .i64 2)=some (.ref [.str c]):=BD [a,b,c,d,e,f] 2
    have bi:=fun hp=>ZaZ (K := Za CR (q + 1)) (Zde Ky.toVD (q + 1) (by omega) [] Q8 c (by decide)) rfl hp
    have wr:IntKind.i64.wrap (1 + CO c Q8 0)=JE c:=by have:=RQ c; unfold JE at this ⊢; exact i64_in (by omega) (by omega)
    have tx:=fun hp=>OW (q + 1) (by omega) hp R hok
    have mp:[a,b,c,d,e,f].map Xm=[Xm a,Xm b,Xm c,Xm d,Xm e,Xm f]:=rfl
    have la:=fun (h:HP) (x:Yx)=>Uz (WA h (Zi.cells (Yz x) Zl)) 6 rfl rfl
    have la2:=fun (h:HP) (x:Yx) (y z:Zi)=>Uz (Ep (Ep (WA h (Zi.cells (Yz x) Zl)) y) z) 6 rfl rfl
    have sA:=fun (h:HP) (cs:List AV) (hc:cs.length=6) (hh:hp0.length≤h.length)=>st_all hp0.length 6 h cs (Yz R) Zl none rfl hc hh
    have sA':=sA (hp0 ++ [Zi.cells (Yz Qd) Zl] ++ [.cells (ics [Xm a,Xm b,Xm c,Xm d,Xm e,Xm f]) WZ]) (Yz Qd) rfl (by simp)
    have sM:=fun (x:Yx) (y z:Zi)=>Zea hp0.length 6 hp0 (Yz Qd) (Yz x) Zl y z none rfl rfl (Nat.le_refl _)
    rw [mp]
    by_cases hT:textS R=s
    · have c1:decide (textS R≠s)=false:=by simpa using hT
      rw [if_neg (by simpa using hT)]
      simp only [Y9,EV,i0,i1,i3,i4,i5,lc,Zdv,g0,j2,bi,wr,ZeI,hRr,JB,sA',la,tx,c1,Bool.false_eq_true,if_false,sM,la2,Q9]
      rw [NP]; rfl
    · have c1:decide (textS R≠s)=true:=by simpa using hT
      rw [if_pos hT]
      simp only [Y9,EV,i0,i1,i3,i4,i5,lc,Zdv,g0,j2,bi,wr,ZeI,hRr,JB,ZeH,sA',la,tx,c1,if_true,sM,la2,Q9]
      rw [NP]; rfl
  · rw [if_pos h6]
    have b1:decide ((l.length:Int)≠6)=true:=by simp; omega
    have sO:=Zeb hp0.length 6 hp0 (Yz Qd) (Yz Qd) Zl none rfl rfl (Nat.le_refl _)
    have la:=fun (h:HP) (x:Yx)=>Uz (WA h (Zi.cells (Yz x) Zl)) 6 rfl rfl
    simp only [QD,EV,sp,Ot,b1,if_true,ZeH,JB,sO,la,Q9]
    rw [NP]; rfl
end Go.Proofs.YtdchnngpjjcchaaDoor
end
section
namespace Go.Proofs.YtdchnngpjjcchaaDoor
open Go Go.RowKit Go.Proofs.YtdchnngpjjcchaaDoor.Abs
set_option maxRecDepth 100000
def rB:Yx:=⟨1,0,1,0,0,0⟩
def rH:Yx:=⟨10,0,3,3,0,5⟩
theorem ZeF:encS [rB]=([2,2,0,2,0,0,0],0):=by decide +kernel
theorem ZeE:encS []=([0],0):=by decide +kernel
def tH:List UInt8:=[49,48,32,48,32,104,111,108,100,32,51,32,48,32,53]
def tB:List UInt8:=[49,32,48,32,98,101,103,105,110,32,48,32,48,32,48,48]
theorem ZdR:IE tH=(rH,0):=by decide +kernel
theorem ZdQ:IE tB=(Qd,8):=by decide +kernel
theorem Zgp:Bq [2,2,0,2,0,0,0]=([rB],0):=by decide +kernel
theorem ZfT:textS rH=tH:=by decide +kernel
theorem Zfr (r:Yx)(h:(decide (-1000≤r.Time) && decide (r.Time≤1000) && decide (-1000≤r.Site) && decide (r.Site≤1000) && decide (-1000≤r.What) && decide (r.What≤1000) && decide (-1000≤r.Proc) && decide (r.Proc≤1000) && decide (-1000≤r.Index) && decide (r.Index≤1000) && decide (-1000≤r.Value) && decide (r.Value≤1000))=true):Qb r:=by
  simp only [Bool.and_eq_true,decide_eq_true_eq] at h
  constructor <;> omega
theorem OV (N:Nat)(hN:5≤N)(hp0:HP):Za CR N ZL [] hp0=some (.bool true,hp0,none):=by
  obtain ⟨k,rfl,hk⟩:=fuel (C := CR) (d := 4) hN
  obtain ⟨q,rfl⟩:∃ q,k=q + 1:=⟨k - 1,by omega⟩
  refine Tu (Ky.T _ _ rfl) ?_
  have f1:fill [(.int .i64 0),(.int .i64 0),(.int .i64 0),(.int .i64 0),(.int .i64 0),(.int .i64 0)] [(0,1,.int .i64 1),(2,1,.int .i64 1)]=some (Yz rB):=rfl
  have f2:fill [(.int .i64 0),(.int .i64 0),(.int .i64 0),(.int .i64 0),(.int .i64 0),(.int .i64 0)] [(0,1,.int .i64 10),(2,1,.int .i64 3),(3,1,.int .i64 3),(5,1,.int .i64 5)]=some (Yz rH):=rfl
  have f3:fill [(.int .i64 0),(.int .i64 0),(.int .i64 0),(.int .i64 0),(.int .i64 0),(.int .i64 0)] []=some (Yz Qd):=rfl
  have c1:∀ hp,Za CR (q + 1) Zg [.lst 6 [Yz rB]] hp=some (.tup [.lst 1 (Zr [2,2,0,2,0,0,0]),.int .i64 0],hp,none):=fun hp=>by
    have:=Ky.enc q hp [rB] (fun r hr=>by obtain rfl:r=rB:=(by simpa using hr); exact Zfr _ rfl)
    unfold Oi at this
    rw [ZeF] at this
    exact this
  have c2:∀ hp,Za CR (q + 1) Zg [.own 6 []] hp=some (.tup [.lst 1 (Zr [0]),.int .i64 0],hp,none):=fun hp=>by
    have:=ZeB q hp [] (fun r hr=>by cases hr)
    unfold Oi at this
    rw [ZeE] at this
    exact this
  have c3:∀ hp,Za CR (q + 1) YX [.str [49,48,32,48,32,104,111,108,100,32,51,32,48,32,53]] hp=some (.tup [.agg (Yz rH),.int .i64 0],hp,none):=fun hp=>by
    have:=Ig (q + 1) (by omega) hp tH (by decide)
    rw [ZdR] at this
    exact this
  have c4:∀ hp,Za CR (q + 1) YX [.str [49,32,48,32,98,101,103,105,110,32,48,32,48,32,48,48]] hp=some (.tup [.agg (Yz Qd),.int .i64 8],hp,none):=fun hp=>by
    have:=Ig (q + 1) (by omega) hp tB (by decide)
    rw [ZdQ] at this
    exact this
  have c5:∀ hp,Za CR (q + 1) ZI [.lst 1 (Zr [2,2,0,2,0,0,0])] hp=some (.tup [.lst 6 (recs [rB]),.int .i64 0],hp,none):=fun hp=>by
    have:=UD Ky (q + 1) (by omega) hp [2,2,0,2,0,0,0]
    unfold ZaP at this
    rw [Zgp] at this
    exact this
  have c6:∀ hp,Za CR (q + 1) Ws [.agg (Yz rH)] hp=some (.str [49,48,32,48,32,104,111,108,100,32,51,32,48,32,53],hp,none):=fun hp=>by
    have:=OW (q + 1) (by omega) hp rH (Zfr _ rfl)
    rw [ZfT] at this
    exact this
  have c7:∀ hp,Za CR (q + 1) YC [.agg (Yz Qd)] hp=some (.int .i64 1,hp,none):=fun hp=>OQ Ky.toVD (q + 1) (by omega) hp Qd
  have sA:=fun (h:HP) (cs:List AV) (r:Yx) (hc:cs.length=6) (hh:hp0.length≤h.length)=>st_all hp0.length 6 h cs (Yz r) Zl none rfl hc hh
  have s1:=sA hp0 [(.int .i64 0),(.int .i64 0),(.int .i64 0),(.int .i64 0),(.int .i64 0),(.int .i64 0)] rH rfl (Nat.le_refl _)
  have s2:=sA (hp0 ++ [.cells (Yz rH) Zl]) [(.int .i64 0),(.int .i64 0),(.int .i64 0),(.int .i64 0),(.int .i64 0),(.int .i64 0)] Qd rfl (by simp)
  simp only [Jy,EV,f1,f2,f3,NT,c1,c2,c3,c4,c5,c6,c7,GI,s1,s2,XV,LD,Y7,Q9,Ph,YD]
  rfl
end Go.Proofs.YtdchnngpjjcchaaDoor
end
section
namespace Go.Proofs.YtdchnngpjjcchaaDoor
open Go Go.RowKit Go.Proofs.YtdchnngpjjcchaaDoor.Abs
set_option maxRecDepth 100000
theorem OU (N:Nat)(hN:6≤N)(hp0:HP)(l:List Yx)(ho:∀ r ∈ l,Qb r)(hl:l.length≤4611686018427387):Za CR N Wq [.lst 6 (recs l)] hp0=some (.bool true,hp0,none):=by
  obtain ⟨k,rfl,hk⟩:=fuel (C := CR) (d := 5) hN
  obtain ⟨q,rfl⟩:∃ q,k=q + 1:=⟨k - 1,by omega⟩
  refine J7 (Ky.T _ _ rfl) ?_
  have aw:=fun hp=>OV (q + 1) (by omega) hp
  by_cases h60:60 < l.length
  · have a1:decide ((60:Int) < (l.length:Int))=true:=by simp; omega
    simp only [YG,EV,YD,a1,if_true,aw]
  · have a1:decide ((60:Int) < (l.length:Int))=false:=by simp; omega
    have c1:=fun hp=>Ky.enc q hp l ho
    have c2:=fun hp=>DV Ky.toVD (q + 1) (by omega) hp l ho
    unfold Oi at c1 c2
    have hb:=Zbp l
    have hd:=Bv l ho
    obtain ⟨b,hB⟩:∃ b,(encS l).1=b:=⟨_,rfl⟩
    obtain ⟨e,hE⟩:∃ e,(encS l).2=e:=⟨_,rfl⟩
    rw [hB,hE] at c1 c2 hb
    rw [hB,hE] at hd
    have d1:(decide (b≠b) || decide (e≠e))=false:=by simp
    by_cases h0:e=0
    · have b1:decide (e≠0)=false:=by simpa using h0
      have c3:∀ hp,Za CR (q + 1) ZI [.lst 1 (Zr b)] hp=some (.tup [.lst 6 (recs l),.int .i64 0],hp,none):=fun hp=>by
        have:=UD Ky (q + 1) (by omega) hp b
        have h2:=hd h0 []
        rw [List.append_nil] at h2
        unfold ZaP at this
        rw [h2] at this
        exact this
      have c4:=fun hp=>FH Ky.toVD (q + 1) (by omega) hp l l hl
      have d2:decide (l=l)=true:=by simp
      simp only [YG,EV,YD,a1,Bool.false_eq_true,if_false,c1,c2,GI,XV,d1,b1,c3,c4,d2,aw,decide_true]
      rfl
    · have b1:decide (e≠0)=true:=by simpa using h0
      obtain rfl:=hb h0
      simp only [YG,EV,YD,a1,Bool.false_eq_true,if_false,c1,c2,GI,XV,d1,b1,if_true,ZJ,aw]
      rfl
theorem OT (N:Nat)(hN:6≤N)(hp0:HP)(b:List UInt8):Za CR N Wp [.lst 1 (Zr b)] hp0=some (.bool true,hp0,none):=by
  obtain ⟨k,rfl,hk⟩:=fuel (C := CR) (d := 5) hN
  obtain ⟨q,rfl⟩:∃ q,k=q + 1:=⟨k - 1,by omega⟩
  refine J6 (Ky.T _ _ rfl) ?_
  have aw:=fun hp=>OV (q + 1) (by omega) hp
  by_cases h5:500 < b.length
  · have a1:decide ((500:Int) < (b.length:Int))=true:=by simp; omega
    simp only [YF,EV,ZJ,a1,if_true,aw]
  · have a1:decide ((500:Int) < (b.length:Int))=false:=by simp; omega
    have c1:=fun hp=>UD Ky (q + 1) (by omega) hp b
    have c2:=fun hp=>FN Ky.toVD (q + 1) (by omega) hp b (by omega)
    unfold ZaP at c1 c2
    have hb:=Zbg b
    have hg:=FC b
    obtain ⟨l,hB⟩:∃ l,(Bq b).1=l:=⟨_,rfl⟩
    obtain ⟨e,hE⟩:∃ e,(Bq b).2=e:=⟨_,rfl⟩
    rw [hB,hE] at c1 c2 hb hg
    have d2:decide (l=l)=true:=by simp
    have d3:decide (e≠e)=false:=by simp
    by_cases h0:e=0
    · have b1:decide (e≠0)=false:=by simpa using h0
      obtain ⟨g1,g2⟩:=hg h0
      have hll:l.length≤50000:=by
        by_cases h:50000 < l.length
        · unfold encS at g1; rw [if_pos h] at g1; cases g1
        · omega
      have c3:=fun hp=>Ky.enc q hp l g2
      unfold Oi at c3
      rw [g1] at c3
      have c4:=fun hp=>FH Ky.toVD (q + 1) (by omega) hp l l (by omega)
      have d4:decide (b=b)=true:=by simp
      simp only [YF,EV,ZJ,a1,Bool.false_eq_true,if_false,c1,c2,GI,d3,c4,d2,Bool.not_true,Bool.or_false,b1,c3,XV,aw,decide_true,d4]
      try rfl
    · have b1:decide (e≠0)=true:=by simpa using h0
      obtain rfl:=hb h0
      have c4:=fun hp=>FH Ky.toVD (q + 1) (by omega) hp [] [] (by simp)
      simp only [YF,EV,ZJ,a1,Bool.false_eq_true,if_false,c1,c2,GI,d3,c4,d2,Bool.not_true,Bool.or_false,b1,if_true,YD,aw]
      try rfl
theorem AY (l:List UInt8)(k:Nat)(h:k≤l.length):WH (.slice 1) (.lst 1 (Zr l)) none (some (.int .i64 k))=some (.lst 1 (Zr (l.take k))):=by
  have h1:bound (Zr l).length (Zr l).length (some (.int .i64 k))=some k:=by simp only [bound]; rw [ZJ,if_pos ⟨by omega,by omega⟩]; simp
  have h2:bound k 0 none=some 0:=rfl
  simp only [WH,h1,h2,if_true]
  simp [Zr]
theorem DT (N:Nat)(hN:6≤N)(hp0:HP)(l:List Yx)(ho:∀ r ∈ l,Qb r)(n:Int)(hn0:0≤n)(hn1:n≤65535)(more:List UInt8):Za CR N Qg [.lst 6 (recs l),.int .u16 n,.lst 1 (Zr more)] hp0=some (.bool true,hp0,none):=by
  obtain ⟨k,rfl,hk⟩:=fuel (C := CR) (d := 5) hN
  obtain ⟨q,rfl⟩:∃ q,k=q + 1:=⟨k - 1,by omega⟩
  refine UR (Ky.T _ _ rfl) ?_
  have aw:=fun hp=>OV (q + 1) (by omega) hp
  have c1:=fun hp=>Ky.enc q hp l ho
  unfold Oi at c1
  have hne:=Zdi l
  have hd:=Bv l ho
  have hs:=Ac l ho
  have hlen:l.length≤60→(encS l).1.length≤4000:=fun h=>by
    unfold encS
    rw [if_neg (by omega)]
    split
    · simp
    · have:=(UH Uu (((l.length:Int)) :: UE 0 l)).2
      rw [List.length_cons,BA] at this
      show (((l.length:Int) :: UE 0 l).flatMap enc).length≤4000
      omega
  obtain ⟨b,hB⟩:∃ b,(encS l).1=b:=⟨_,rfl⟩
  obtain ⟨e,hE⟩:∃ e,(encS l).2=e:=⟨_,rfl⟩
  rw [hB,hE] at c1 hne hd hs
  rw [hB] at hlen
  by_cases hskip:60 < l.length∨e≠0∨b.length=0∨100 < more.length
  · have a1:(((decide ((60:Int) < (l.length:Int)) || decide (e≠0)) || decide ((b.length:Int)=0)) || decide ((100:Int) < (more.length:Int)))=true:=by
      simp only [Bool.or_eq_true,decide_eq_true_eq]; omega
    simp only [Wx,EV,YD,c1,GI,ZJ,a1,if_true,aw]
  · have a1:(((decide ((60:Int) < (l.length:Int)) || decide (e≠0)) || decide ((b.length:Int)=0)) || decide ((100:Int) < (more.length:Int)))=false:=by
      simp only [Bool.or_eq_false_iff,decide_eq_false_iff_not]; omega
    have h0:e=0:=by omega
    have hbl:0 < b.length:=hne h0
    have hb4:b.length≤4000:=hlen (by omega)
    have w1:IntKind.i64.wrap n=n:=i64_in (by omega) (by omega)
    obtain ⟨j,hj⟩:∃ j:Nat,n.tmod (b.length:Int)=j:=⟨(n.tmod (b.length:Int)).toNat,by rw [Int.tmod_eq_emod_of_nonneg hn0]; have:=Int.emod_nonneg n (show (b.length:Int)≠0 by omega); omega⟩
    have hjl:j < b.length:=by have:=Int.emod_lt_of_pos n (show (0:Int) < (b.length:Int) by omega); rw [Int.tmod_eq_emod_of_nonneg hn0] at hj; omega
    have r1:=ET .i64 n (b.length:Int) (by omega)
    rw [hj] at r1
    have t1:=AY b j (by omega)
    have c2:∀ hp,Za CR (q + 1) ZI [.lst 1 (Zr (b.take j))] hp=some (.tup [.lst 6 (recs []),.int .i64 7],hp,none):=fun hp=>by
      have:=UD Ky (q + 1) (by omega) hp (b.take j)
      unfold ZaP at this
      rw [hs h0 j hjl] at this
      exact this
    have c3:∀ hp,Za CR (q + 1) ZI [.lst 1 (Zr (b ++ more))] hp=some (.tup [.lst 6 (recs (if 0 < more.length then ([],8) else (l,(0:Int))).1),.int .i64 (if 0 < more.length then (([]:List Yx),8) else (l,(0:Int))).2],hp,none):=fun hp=>by
      have:=UD Ky (q + 1) (by omega) hp (b ++ more)
      unfold ZaP at this
      rw [hd h0 more] at this
      exact this
    have e1:∀ hp,Tz WE 1 [] hp=some (.own 1 (Zr []),hp):=fun hp=>rfl
    have e2:∀ hp,MQ 1 1 (.own 1 (Zr [])) (.lst 1 (Zr b)) hp=some (.own 1 (Zr b)):=fun hp=>by rw [Oz hp [] b (by simp; omega)]; rfl
    have e3:∀ hp,MQ 1 1 (.own 1 (Zr b)) (.lst 1 (Zr more)) hp=some (.own 1 (Zr (b ++ more))):=fun hp=>Oz hp b more (by omega)
    have d7:(decide ((7:Int)≠7) || decide ((((0:Nat)):Int)≠0))=false:=by decide
    have d7':recs []=[]:=rfl
    by_cases hm:0 < more.length
    · have m1:decide ((more.length:Int)=0)=false:=decide_eq_false (by omega)
      simp only [hm,if_true,d7'] at c3
      simp only [Wx,EV,YD,c1,GI,ZJ,a1,Bool.false_eq_true,if_false,w1,r1,t1,c2,e1,e2,e3,c3,m1,aw,d7',List.length_nil,d7]
      rfl
    · have m1:decide ((more.length:Int)=0)=true:=decide_eq_true (by omega)
      simp only [hm,if_false] at c3
      simp only [Wx,EV,YD,c1,GI,ZJ,a1,Bool.false_eq_true,if_false,w1,r1,t1,c2,e1,e2,e3,c3,m1,aw,List.length_nil,d7]
      rfl
end Go.Proofs.YtdchnngpjjcchaaDoor
end
section
namespace Go.Proofs.YtdchnngpjjcchaaDoor.Abs
open Go Go.RowKit Go.ChangeShapes Go.WideShapes Go.Deep
def ZbB (P:Program)(S:List TypeId):Bool :=
  S.all fun t=>match P.underlying t with
    | some .bool=>true
    | some (.int _)=>true
    | some .string=>true
    | some (.slice e)=>(decide (0 < P.cellsOf e) && decide (0 < P.bytesOf e)) && S.contains e
    | some (.struct fs)=>Zcs P fs.toList 0 (P.cellsOf t) && fs.toList.all fun f=>S.contains f.type
    | _=>false
inductive JC {H:Type}(P:Program):TypeId→List AV→DataW H→Prop
  | bool (t:TypeId) (b:Bool) (hu:P.underlying t=some .bool):JC P t [.bool b] (.lit (.bool b))
  | int (t:TypeId) (k:IntKind) (x:Int) (hu:P.underlying t=some (.int k)) (hw:(Lit.int k x).wf=true):JC P t [.int k x] (.lit (.int k x))
  | str (t:TypeId) (s:List UInt8) (hu:P.underlying t=some .string) (hl:s.length≤140737488351232):JC P t [.str s] (.lit (.string s))
  | nil (t e:TypeId) (hu:P.underlying t=some (.slice e)):JC P t [.lst (P.cellsOf e) []] .nil
  | slice (t e:TypeId) (rows:List (List AV)) (D:Nat→DataW H) (spare:List (DataW H)) (hu:P.underlying t=some (.slice e)) (hl:rows.length * P.bytesOf e≤140737488351232) (h:∀ (i:Nat) (r:List AV),rows[i]? = some r→JC P e r (D i)) :
      JC P t [.lst (P.cellsOf e) rows] (.slice ((List.range rows.length).map D) spare)
  | struct (t:TypeId) (fs:Array Field) (cs:List AV) (D:Nat→DataW H) (hu:P.underlying t=some (.struct fs)) (hl:cs.length=P.cellsOf t)
      (h:∀ (i:Nat) (f:Field),fs.toList[i]? = some f→JC P f.type ((cs.drop f.offset).take (P.cellsOf f.type)) (D i)):JC P t cs (.agg ((List.range fs.size).map D))
section
variable {H:Type}{P:Program}{t:TypeId}{cs:List AV}{d:DataW H}
theorem JC.toInt (h:JC P t cs d){k:IntKind}(hu:P.underlying t=some (.int k)):∃ x,cs=[.int k x]∧d=.lit (.int k x)∧k.min≤x∧x≤k.max:=by
  cases h with
  | int _ k' x h1 hw =>
    rw [hu] at h1; cases h1
    simp only [Lit.wf,Bool.and_eq_true,decide_eq_true_eq] at hw
    exact ⟨x,rfl,rfl,hw⟩
  | _=>simp_all
theorem JC.toI64 (h:JC P t cs d)(hu:P.underlying t=some (.int .i64)):∃ x,cs=[.int .i64 x]∧d=.lit (.int .i64 x)∧-9223372036854775808≤x∧x≤9223372036854775807:=by
  obtain ⟨x,h1,h2,h3⟩:=h.toInt hu
  exact ⟨x,h1,h2,by simpa [IntKind.min,IntKind.max,IntKind.signed,IntKind.bits] using h3⟩
theorem JC.toSlice (h:JC P t cs d){e:TypeId}(hu:P.underlying t=some (.slice e)):∃ rows,cs=[.lst (P.cellsOf e) rows]∧rows.length * P.bytesOf e≤140737488351232∧∃ D:Nat→DataW H,(∀ (i:Nat) (r:List AV),rows[i]? = some r→JC P e r (D i))∧((rows=[]∧d=.nil)∨∃ spare,d=.slice ((List.range rows.length).map D) spare):=by
  cases h with
  | nil _ e' h1=>rw [hu] at h1; cases h1; exact ⟨[],rfl,by simp,fun _=>.nil,fun i r hr=>by simp at hr,.inl ⟨rfl,rfl⟩⟩
  | slice _ e' rows D spare h1 hl h=>rw [hu] at h1; cases h1; exact ⟨rows,rfl,hl,D,h,.inr ⟨spare,rfl⟩⟩
  | _=>simp_all
theorem JC.toStruct (h:JC P t cs d){fs:Array Field}(hu:P.underlying t=some (.struct fs)):cs.length=P.cellsOf t∧∃ D:Nat→DataW H,d=.agg ((List.range fs.size).map D)∧∀ (i:Nat) (f:Field),fs.toList[i]? = some f→JC P f.type ((cs.drop f.offset).take (P.cellsOf f.type)) (D i):=by
  cases h with
  | struct _ fs' _ D h1 hl h=>rw [hu] at h1; cases h1; exact ⟨hl,D,rfl,h⟩
  | _=>simp_all
end
def Of (P:Program)(t:TypeId)(cs:List AV):Prop:=∃ (H:Type) (d:DataW H),JC P t cs d
theorem JC.of {H:Type}{P:Program}{t:TypeId}{cs:List AV}{d:DataW H}(h:JC P t cs d):Of P t cs:=⟨H,d,h⟩
theorem Of.toInt {P:Program}{t:TypeId}{cs:List AV}(h:Of P t cs){k:IntKind}(hu:P.underlying t=some (.int k)):∃ x,cs=[.int k x]∧k.min≤x∧x≤k.max:=by
  obtain ⟨H,d,h⟩:=h; obtain ⟨x,h1,_,h2⟩:=h.toInt hu; exact ⟨x,h1,h2⟩
theorem Of.toI64 {P:Program}{t:TypeId}{cs:List AV}(h:Of P t cs)(hu:P.underlying t=some (.int .i64)):∃ x,cs=[.int .i64 x]∧-9223372036854775808≤x∧x≤9223372036854775807:=by
  obtain ⟨H,d,h⟩:=h; obtain ⟨x,h1,_,h2⟩:=h.toI64 hu; exact ⟨x,h1,h2⟩
theorem Of.toSlice {P:Program}{t:TypeId}{cs:List AV}(h:Of P t cs){e:TypeId}(hu:P.underlying t=some (.slice e)):∃ rows,cs=[.lst (P.cellsOf e) rows]∧rows.length * P.bytesOf e≤140737488351232∧∀ r ∈ rows,Of P e r:=by
  obtain ⟨H,d,h⟩:=h
  obtain ⟨rows,h1,h2,D,h3,_⟩:=h.toSlice hu
  exact ⟨rows,h1,h2,fun r hr=>by obtain ⟨i,hi⟩:=List.mem_iff_getElem?.1 hr; exact (h3 i r hi).of⟩
theorem Of.toStruct {P:Program}{t:TypeId}{cs:List AV}(h:Of P t cs){fs:Array Field}(hu:P.underlying t=some (.struct fs)):cs.length=P.cellsOf t∧∀ (i:Nat) (f:Field),fs.toList[i]? = some f→Of P f.type ((cs.drop f.offset).take (P.cellsOf f.type)):=by
  obtain ⟨H,d,h⟩:=h
  obtain ⟨h1,D,_,h2⟩:=h.toStruct hu
  exact ⟨h1,fun i f hf=>(h2 i f hf).of⟩
variable {H:Type}{enc:TypeId×Value→H}{P:Program}{w:World}{base:Nat}{sp:Nat→Bool}{held:Bool}{Γ:Zq}
theorem Si {t e:TypeId}{fuel:Nat}{cs:List Value}{x:DataW H×List MemPlace}(ht:P.underlying t=some (.slice e))(h:DataW.trod enc P w base sp held (fuel + 1) t cs=some x) :
    (cs=[.slice none 0 0]∧x=(.nil,[])) ∨
    ∃ (a:Addr) (len cap m n:Nat) (D:Nat→DataW H) (Pl:Nat→List MemPlace),n=fuel∧cs=[.slice (some a) len cap]∧base≤a.block∧len≤cap∧cap≤maxLen∧m=(if sp a.block then cap else len) ∧
      x=(.slice ((List.range len).map D) ((List.range (m - len)).map fun j=>D (len + j)),MemPlace.row a (m * P.cellsOf e) ++ (List.range m).flatMap Pl) ∧
      ∀ i,i < m→∃ cs',w.cells? base (a.add (i * P.cellsOf e)) (P.cellsOf e)=some cs'∧DataW.trod enc P w base sp held n e cs'=some (D i,Pl i):=by
  rcases DataW.trod_slice ht h with h0 | ⟨a,len,cap,elems,rest,n,hn,rfl,rfl,hb,hl,hm,hlen,hel,hsp,hns⟩
  · exact Or.inl h0
  right
  have hrl:rest.length=(if sp a.block then cap else len) - len:=by
    cases hs:sp a.block with
    | true=>simpa [hs] using (hsp hs).1
    | false=>simp [hns hs]
  have hle:len≤(if sp a.block then cap else len):=by split <;> omega
  have hall:(elems ++ rest).length=(if sp a.block then cap else len):=by rw [List.length_append,hlen,hrl]; omega
  refine ⟨a,len,cap,_,n,fun i=>((elems ++ rest).getD i (.nil,[])).1,fun i=>((elems ++ rest).getD i (.nil,[])).2,by omega,rfl,hb,hl,hm,rfl,?_,?_⟩
  · refine Prod.ext ?_ ?_
    · show DataW.slice (elems.map (·.1)) (rest.map (·.1))=_
      congr 1
      · rw [map_by_index elems (.nil,[]) (·.1),hlen]
        refine List.map_congr_left fun i hi=>?_
        have hi':i < elems.length:=by rw [hlen]; simpa using hi
        simp [List.getD,List.getElem?_append_left hi']
      · rw [map_by_index rest (.nil,[]) (·.1),hrl]
        refine List.map_congr_left fun j _=>?_
        simp [List.getD,List.getElem?_append_right (show elems.length≤len + j by omega),hlen]
    · show MemPlace.row a ((elems.length + rest.length) * P.cellsOf e) ++ (elems ++ rest).flatMap (·.2)=_
      rw [flatMap_by_index (elems ++ rest) (.nil,[]) (·.2),hall,← List.length_append,hall]
  · intro i hi
    have key:(w.cells? base (a.add (i * P.cellsOf e)) (P.cellsOf e)).bind (DataW.trod enc P w base sp held n e)=(elems ++ rest)[i]?:=by
      by_cases hil:i < len
      · rw [hel i hil,List.getElem?_append_left (by omega)]
      · have hs:sp a.block=true:=by
          cases hs:sp a.block with
          | true=>rfl
          | false=>simp [hs] at hi; omega
        have:=(hsp hs).2 (i - len) (by simp [hs] at hi; omega)
        rw [show len + (i - len)=i by omega] at this
        rw [this,List.getElem?_append_right (by omega),hlen]
    rw [List.getElem?_eq_getElem (by omega)] at key
    obtain ⟨cs',h1,h2⟩:=Option.bind_eq_some_iff.1 key
    refine ⟨cs',h1,?_⟩
    rw [h2]
    simp [List.getD,List.getElem?_eq_getElem (show i < (elems ++ rest).length by omega)]
theorem Tc (S:List TypeId)(fuel:Nat)(cs:List Value)
    (ih:∀ (t:TypeId) (cs:List Value) (x:DataW H×List MemPlace),S.contains t=true→DataW.trod enc P w base sp held fuel t cs=some x→(∀ y ∈ x.1.weights P t,y≤reachBytes)→∃ az:List AV,JC P t az x.1∧az.length=cs.length∧∀ j a,az[j]? = some a→QV Γ w a (cs.getD j Go.undef)) :
    ∀ (fs:List Field) (xs:List (DataW H×List MemPlace)) (o m:Nat),Zcs P fs o m=true→m=cs.length→(fs.all fun f=>S.contains f.type)=true→(∀ (i:Nat) (f:Field),fs[i]? = some f→∃ x,xs[i]? = some x∧DataW.trod enc P w base sp held fuel f.type ((cs.drop f.offset).take (P.cellsOf f.type))=some x∧∀ y ∈ x.1.weights P f.type,y≤reachBytes) →
      o≤m∧∃ az:List AV,az.length=m - o∧(∀ (i:Nat) (f:Field),fs[i]? = some f→o≤f.offset∧∃ x,xs[i]? = some x∧JC P f.type ((az.drop (f.offset - o)).take (P.cellsOf f.type)) x.1)∧∀ j a,az[j]? = some a→QV Γ w a (cs.getD (o + j) Go.undef)
  | [],xs,o,m,ht,hm,_,_=>by
    have:o=m:=by simpa [Zcs] using ht
    subst this
    exact ⟨Nat.le_refl _,[],by simp,fun i f hf=>by simp at hf,fun j a h=>by simp at h⟩
  | f :: r,xs,o,m,ht,hm,hok,hx=>by
    simp only [Zcs,Bool.and_eq_true,beq_iff_eq] at ht
    simp only [List.all_cons,Bool.and_eq_true] at hok
    obtain ⟨x,hx0,hxf,hxw⟩:=hx 0 f rfl
    obtain ⟨xs,rfl⟩:∃ xs',xs=x :: xs':=by
      cases xs with
      | nil=>simp at hx0
      | cons y ys=>simp at hx0; exact ⟨ys,by rw [hx0]⟩
    obtain ⟨hle,az,hl,hs,hr⟩:=Tc S fuel cs ih r xs _ m ht.2 hm hok.2 (fun i g hg=>hx (i + 1) g hg)
    obtain ⟨a1,s1,l1,r1⟩:=ih _ _ _ hok.1 hxf hxw
    have hlen:((cs.drop f.offset).take (P.cellsOf f.type)).length=P.cellsOf f.type:=by
      rw [List.length_take,List.length_drop]; omega
    rw [hlen] at l1
    refine ⟨by omega,a1 ++ az,by rw [List.length_append]; omega,fun i g hg=>?_,fun j a hj=>?_⟩
    · cases i with
      | zero =>
        simp only [List.getElem?_cons_zero,Option.some.injEq] at hg
        subst hg
        refine ⟨by omega,x,rfl,?_⟩
        rw [ht.1,Nat.sub_self,List.drop_zero,List.take_append_of_le_length (by omega),List.take_of_length_le (by omega)]
        exact s1
      | succ i =>
        simp only [List.getElem?_cons_succ] at hg
        obtain ⟨q1,q2⟩:=hs i g hg
        refine ⟨by omega,?_⟩
        rw [List.drop_append,List.drop_eq_nil_of_le (by omega),List.nil_append,l1]
        rw [show g.offset - o - P.cellsOf f.type=g.offset - (o + P.cellsOf f.type) by omega]
        simpa using q2
    · by_cases hj2:j < a1.length
      · rw [List.getElem?_append_left hj2] at hj
        have:=r1 j a hj
        have e:((cs.drop f.offset).take (P.cellsOf f.type)).getD j Go.undef=cs.getD (o + j) Go.undef:=by
          rw [List.getD_eq_getElem?_getD,List.getD_eq_getElem?_getD,List.getElem?_take_of_lt (by omega),List.getElem?_drop,ht.1]
        rwa [e] at this
      · rw [List.getElem?_append_right (by omega)] at hj
        have:=hr _ a hj
        rwa [show o + P.cellsOf f.type + (j - a1.length)=o + j by omega] at this
theorem UC (hΓ:∀ b,Γ b=.imm){S:List TypeId}(hS:ZbB P S=true):∀ (fuel:Nat) (t:TypeId) (cs:List Value) (x:DataW H×List MemPlace),S.contains t=true→DataW.trod enc P w base sp held fuel t cs=some x→(∀ y ∈ x.1.weights P t,y≤reachBytes) →
    ∃ az:List AV,JC P t az x.1∧az.length=cs.length∧∀ j a,az[j]? = some a→QV Γ w a (cs.getD j Go.undef)
  | 0,_,_,_,_,h,_=>by cases h
  | fuel + 1,t,cs,x,hc,h,hwt=>by
    have ho:=List.all_eq_true.1 hS t (by simpa using hc)
    cases hu:P.underlying t with
    | none=>simp [hu] at ho
    | some d =>
    have one:∀ (c:AV) (v:Value),QV Γ w c v→∀ j a,[c][j]? = some a→QV Γ w a ([v].getD j Go.undef):=fun c v hc j a hj=>by
      match j,hj with
      | 0,hj=>cases hj; exact hc
      | j + 1,hj=>simp at hj
    cases d <;> simp only [hu,Bool.false_eq_true] at ho
    case bool =>
      obtain ⟨b,rfl,rfl⟩:=DataW.trod_bool hu h
      exact ⟨[.bool b],.bool t b hu,rfl,one _ _ ⟨.bool b,rfl,rfl,fun k r e=>by cases e⟩⟩
    case int k =>
      obtain ⟨x,rfl,rfl,hw⟩:=DataW.trod_int hu h
      exact ⟨[.int k x],.int t k x hu hw,rfl,one _ _ ⟨.int k x,rfl,rfl,fun k r e=>by cases e⟩⟩
    case string =>
      obtain ⟨b,rfl,rfl,hb⟩:=DataW.trod_string hu h
      have e:b=⟨b.data.toList.toArray⟩:=by cases b; simp
      refine ⟨[.str b.data.toList],.str t _ hu (Oo (hwt _ (by simp [DataW.weights]))),rfl,one _ _ ⟨?_,rfl,rfl,fun k r e=>by cases e⟩⟩
      have:Rep Γ w (.str b.data.toList) (.string ⟨b.data.toList.toArray⟩):=.str _
      rwa [← e] at this
    case slice e =>
      simp only [Bool.and_eq_true,decide_eq_true_eq] at ho
      rcases Si hu h with ⟨rfl,rfl⟩ | ⟨A,len,cap,m,n',D,Pl,hn',rfl,hb,hl,hm,hmm,rfl,hi⟩
      · exact ⟨[.lst (P.cellsOf e) []],.nil t e hu,rfl,one _ _ ⟨.lstNil _,rfl,rfl,fun k r e=>by cases e⟩⟩
      · have hlm:len≤m:=by rw [hmm]; split <;> omega
        have hwe:∀ i,i < len→∀ y ∈ (D i).weights P e,y≤reachBytes:=fun i hi y hy=>by
          refine hwt y ?_
          simp only [DataW.weights,hu]
          exact List.mem_cons_of_mem _ (List.mem_append_left _ (SL (List.mem_map.2 ⟨i,by simpa using hi,rfl⟩) hy))
        have hlr:len * P.bytesOf e≤140737488351232:=by
          refine Oo (Nat.le_trans ?_ (hwt ((((List.range len).map D).length + ((List.range (m - len)).map fun j=>D (len + j)).length) * P.bytesOf e) ?_))
          · simp only [List.length_map,List.length_range]
            exact Nat.mul_le_mul_right _ (Nat.le_add_right _ _)
          · simp only [DataW.weights,hu]
            exact List.mem_cons_self ..
        have hrow:∀ i,∃ r:List AV,i < len→JC P e r (D i)∧r.length=P.cellsOf e∧∀ j a,r[j]? = some a→w.cell? ((A.add (i * P.cellsOf e)).add j)=some ((w.cell? ((A.add (i * P.cellsOf e)).add j)).getD Go.undef)∧QV Γ w a ((w.cell? ((A.add (i * P.cellsOf e)).add j)).getD Go.undef):=fun i=>by
          by_cases hil:i < len
          · obtain ⟨cs',hc,ht⟩:=hi i (by omega)
            obtain ⟨_,hlen,hcell⟩:=World.cells?_some hc
            obtain ⟨r,s1,l1,r1⟩:=UC hΓ hS n' e cs' _ ho.2 ht (hwe i hil)
            refine ⟨r,fun _=>⟨s1,by omega,fun j a hj=>?_⟩⟩
            have hjl:j < r.length:=(List.getElem?_eq_some_iff.1 hj).1
            have hc2:=hcell j (by omega)
            have hr:=r1 j a hj
            rw [List.getElem?_eq_getElem (by omega)] at hc2
            rw [List.getD_eq_getElem?_getD,List.getElem?_eq_getElem (by omega)] at hr
            rw [hc2]
            exact ⟨rfl,hr⟩
          · exact ⟨[],fun h=>absurd h hil⟩
        have hf:∃ f:Nat→List AV,∀ i,i < len→JC P e (f i) (D i)∧(f i).length=P.cellsOf e∧∀ j a,(f i)[j]? = some a→w.cell? ((A.add (i * P.cellsOf e)).add j)=some ((w.cell? ((A.add (i * P.cellsOf e)).add j)).getD Go.undef)∧QV Γ w a ((w.cell? ((A.add (i * P.cellsOf e)).add j)).getD Go.undef) :=
          ⟨fun i=>(hrow i).choose,fun i=>(hrow i).choose_spec⟩
        obtain ⟨f,hf⟩:=hf
        have hget:∀ (i:Nat) (r:List AV),((List.range len).map f)[i]? = some r→i < len∧r=f i:=fun i r hr=>by
          rw [List.getElem?_map] at hr
          obtain ⟨i',hi',rfl⟩:=Option.map_eq_some_iff.1 hr
          have hlt:=(List.getElem?_eq_some_iff.1 hi').1
          rw [List.length_range] at hlt
          rw [List.getElem?_range hlt] at hi'
          obtain rfl:=Option.some.inj hi'
          exact ⟨hlt,rfl⟩
        have hlenf:((List.range len).map f).length=len:=by simp
        have hsl:=JC.slice (P := P) t e ((List.range len).map f) D ((List.range (m - len)).map fun j=>D (len + j)) hu (by simpa using hlr) (fun i r hr=>by obtain ⟨h1,rfl⟩:=hget i r hr; exact (hf i h1).1)
        rw [hlenf] at hsl
        refine ⟨[.lst (P.cellsOf e) ((List.range len).map f)],hsl,rfl,one _ _ ⟨?_,rfl,rfl,fun k r e=>by cases e⟩⟩
        · by_cases hex:∃ (i j:Nat) (a:AV),i < len∧(f i)[j]? = some a
          · obtain ⟨i0,j0,a0,hi0,hj0⟩:=hex
            have h0:∃ v,w.cell? A=some v:=by
              have hj0l:j0 < (f i0).length:=(List.getElem?_eq_some_iff.1 hj0).1
              have hpos:0 < P.cellsOf e:=by have:=(hf i0 hi0).2.1; omega
              have hz:=(hf 0 (by omega)).2.1
              have:=((hf 0 (by omega)).2.2 0 ((f 0)[0]'(by omega)) (List.getElem?_eq_getElem _)).1
              rw [Nat.zero_mul] at this
              have e1:(A.add 0).add 0=A:=by simp [Addr.add]
              rw [e1] at this
              exact ⟨_,this⟩
            have hsp:A.spot=none:=by
              obtain ⟨v,hv⟩:=h0
              unfold World.cell? at hv
              split at hv
              · split at hv
                · cases hv
                · rename_i hs; simpa using hs
              · cases hv
            obtain ⟨b,o,q⟩:=A
            simp only at hsp
            subst hsp
            have hadd:∀ i j,((⟨b,o,none⟩:Addr).add (i * P.cellsOf e)).add j=⟨b,o + (i * P.cellsOf e + j),none⟩:=fun i j=>by
              rw [Go.Deep.add_add]
              unfold Addr.add
              split
              · rename_i h0; simp [h0]
              · rfl
            have hll:len=((List.range len).map f).length:=by simp
            generalize hrows:(List.range len).map f=rows at *
            subst hll
            refine .lst _ rows b o cap (fun i j=>(w.cell? ⟨b,o + (i * P.cellsOf e + j),none⟩).getD Go.undef) hl (fun r hr=>?_) (fun i j r c hr hc=>?_) (fun i j r c hr hc=>?_)
            · obtain ⟨i,hi⟩:=List.mem_iff_getElem?.1 hr
              obtain ⟨h1,rfl⟩:=hget i r hi
              exact (hf i h1).2.1
            · obtain ⟨h1,rfl⟩:=hget i r hr
              have:=(hf i h1).2.2 j c hc
              rw [hadd] at this
              exact ⟨this.1,by show WP _ (Γ b); rw [hΓ]; trivial,this.2.2.2.1⟩
            · obtain ⟨h1,rfl⟩:=hget i r hr
              have:=(hf i h1).2.2 j c hc
              rw [hadd] at this
              exact this.2.1
          · have h0:len=0:=by
              rcases Nat.eq_zero_or_pos len with h0 | h0
              · exact h0
              · refine absurd ⟨0,0,(f 0)[0]'(by have:=(hf 0 h0).2.1; have:=ho.1.1; omega),h0,List.getElem?_eq_getElem _⟩ hex
            subst h0
            exact .lstE _ A cap
    case struct fs =>
      simp only [Bool.and_eq_true] at ho
      obtain ⟨xs,n',hn,rfl,hlen,hxl,hf⟩:=DataW.trod_struct hu h
      obtain ⟨_,az,l1,s1,r1⟩:=Tc S n' cs (fun t cs x=>UC hΓ hS n' t cs x) fs.toList xs 0 _ ho.1 hlen.symm ho.2 fun i f hf'=>by
        have hi':fs[i]? = some f:=by simpa using hf'
        have:=hf i f hi'
        have hlt:i < xs.length:=by rw [hxl]; exact (Array.getElem?_eq_some_iff.1 hi').1
        rw [List.getElem?_eq_getElem hlt] at this
        refine ⟨_,List.getElem?_eq_getElem hlt,this,fun y hy=>hwt y ?_⟩
        simp only [DataW.weights,hu]
        exact DataW.weights_mem_each (j := i) (t := f.type) (d := (xs[i]'hlt).1) (by simp [hi']) (by simp [List.getElem?_eq_getElem hlt]) y hy
      have hst:=JC.struct (P := P) t fs az (fun i=>((xs.map (·.1))[i]?).getD .nil) hu (by omega) fun i f hf'=>by
        obtain ⟨_,x,hx,hsx⟩:=s1 i f hf'
        simpa [hx] using hsx
      have hds:(List.range fs.size).map (fun i=>((xs.map (·.1))[i]?).getD .nil)=xs.map (·.1):=by
        refine List.ext_getElem? fun i=>?_
        rw [List.getElem?_map]
        by_cases hi:i < fs.size
        · rw [List.getElem?_range hi,Option.map_some,List.getElem?_map,List.getElem?_eq_getElem (by omega)]; rfl
        · rw [List.getElem?_eq_none (by simpa using hi),List.getElem?_eq_none (by simp; omega)]; rfl
      rw [hds] at hst
      exact ⟨az,hst,by omega,fun j a hj=>by simpa using r1 j a hj⟩
theorem argS_slice (hΓ:∀ b,Γ b=.imm){S:List TypeId}(hS:ZbB P S=true){r:Reach}{b0:Nat}{t e:TypeId}{v:Value}{d:DataW H}{ps:List MemPlace}(hc:S.contains t=true)(hu:P.underlying t=some (.slice e))(hv:Value.okWide P w r b0 t v)
    (h:DataW.Trod enc P w base sp held t v d ps) (hw:∀ y ∈ d.weights P t,y≤reachBytes):∃ rows,Rep Γ w (.lst (P.cellsOf e) rows) v∧JC P t [.lst (P.cellsOf e) rows] d:=by
  obtain ⟨a,len,cap,rfl⟩:=okWide_slice hu hv
  obtain ⟨fuel,hf⟩:=h
  obtain ⟨az,s1,l1,r1⟩:=UC hΓ hS fuel t _ _ hc hf hw
  have s2:=s1
  obtain ⟨rows,rfl,_⟩:=s1.toSlice hu
  exact ⟨rows,(r1 0 _ rfl).1,s2⟩
theorem argS_struct (hΓ:∀ b,Γ b=.imm){S:List TypeId}(hS:ZbB P S=true){r:Reach}{b0:Nat}{t:TypeId}{fs:Array Field}{v:Value}{d:DataW H}{ps:List MemPlace}(hc:S.contains t=true)(hu:P.underlying t=some (.struct fs))(hv:Value.okWide P w r b0 t v)
    (h:DataW.Trod enc P w base sp held t v d ps) (hw:∀ y ∈ d.weights P t,y≤reachBytes):∃ az,Rep Γ w (.agg az) v∧JC P t az d:=by
  obtain ⟨cs,rfl,hsz⟩:=okWide_struct hu hv
  obtain ⟨fuel,hf⟩:=h
  obtain ⟨az,s1,l1,r1⟩:=UC hΓ hS fuel t _ _ hc hf hw
  have l2:az.length=cs.size:=by rw [l1]; rfl
  refine ⟨az,.agg az cs l2.symm (fun j c hc=>(r1 j c hc).2.1) (fun j k r hc=>absurd rfl ((r1 j _ hc).2.2.2 k r)) (fun j c hc=>?_),s1⟩
  have:=(r1 j c hc).1
  have e:(Value.agg cs).cells.toList.getD j Go.undef=cs.getD j Go.undef:=by
    show cs.toList.getD j Go.undef=_
    simp [List.getD_eq_getElem?_getD,Array.getD_eq_getD_getElem?]
  rwa [e] at this
end Go.Proofs.YtdchnngpjjcchaaDoor.Abs
end
section
namespace Go.Proofs.YtdchnngpjjcchaaDoor
open Go Go.RowKit Go.Proofs.YtdchnngpjjcchaaDoor.Abs
set_option maxRecDepth 100000
set_option maxHeartbeats 0
theorem ZgU {α:Type _}{l:List α}{n:Nat}(h:l.length=n + 1):∃ a r,l=a :: r∧r.length=n:=by
  cases l with
  | nil=>simp at h
  | cons a r=>exact ⟨a,r,rfl,by simpa using h⟩
theorem Zen {P:Program}{t:TypeId}{l M:List AV}{k n:Nat}(h:Of P t ((l.drop k).take (P.cellsOf t)))(hn:P.cellsOf t=n)(hm:(l.drop k).take n=M):Of P t M:=by rw [hn,hm] at h; exact h
theorem Zd0 {α:Type _}{l:List α}{n:Nat}(h:l.length=n + 2):∃ a b r,l=a :: b :: r∧r.length=n:=by
  obtain ⟨a,r,rfl,h1⟩:=ZgU h
  obtain ⟨b,s,rfl,h2⟩:=ZgU h1
  exact ⟨a,b,s,rfl,h2⟩
theorem Zg0 {α:Type _}{l:List α}{n:Nat}(h:l.length=n + 4):∃ a b c d r,l=a :: b :: c :: d :: r∧r.length=n:=by
  obtain ⟨a,b,r,rfl,h1⟩:=Zd0 h
  obtain ⟨c,d,s,rfl,h2⟩:=Zd0 h1
  exact ⟨a,b,c,d,s,rfl,h2⟩
theorem NS {α:Type}{Q:List AV→Prop}{row:α→List AV}{ok:α→Prop}:∀ {rows:List (List AV)},(∀ r ∈ rows,Q r→∃ x,r=row x∧ok x)→(∀ r ∈ rows,Q r)→∃ l:List α,rows=l.map row∧∀ x ∈ l,ok x
  | [],_,_=>⟨[],rfl,fun x h=>by cases h⟩
  | r :: rs,hq,h=>by
    obtain ⟨x,h1,h2⟩:=hq r (List.mem_cons_self ..) (h r (List.mem_cons_self ..))
    obtain ⟨l,h3,h4⟩:=NS (rows := rs) (fun y hy=>hq y (List.mem_cons_of_mem _ hy)) fun y hy=>h y (List.mem_cons_of_mem _ hy)
    exact ⟨x :: l,by rw [h1,h3]; rfl,fun y hy=>by
      rcases List.mem_cons.1 hy with rfl | hy
      · exact h2
      · exact h4 y hy⟩
theorem Zak {cs:List AV}(h:Of Tryd.prog 24 cs):∃ x,cs=Yz x∧Qb x:=by
  obtain ⟨hl,hf⟩:=h.toStruct Tryd.underlying24
  rw [show Tryd.prog.cellsOf 24=6 from by kernel_rfl] at hl
  obtain ⟨c0,c1,c2,c3,r0,rfl,hl0⟩:=Zg0 hl
  obtain ⟨c4,c5,r4,rfl,hl4⟩:=Zd0 hl0
  obtain rfl:=List.eq_nil_of_length_eq_zero hl4
  have f0:Of Tryd.prog 3 [c0]:=Zen (hf 0 _ rfl) (n := 1) (by kernel_rfl) rfl
  obtain ⟨v0,q0,b0⟩:=f0.toI64 Tryd.underlying3
  have f1:Of Tryd.prog 3 [c1]:=Zen (hf 1 _ rfl) (n := 1) (by kernel_rfl) rfl
  obtain ⟨v1,q1,b1⟩:=f1.toI64 Tryd.underlying3
  have f2:Of Tryd.prog 22 [c2]:=Zen (hf 2 _ rfl) (n := 1) (by kernel_rfl) rfl
  obtain ⟨v2,q2,b2⟩:=f2.toI64 Tryd.underlying22
  have f3:Of Tryd.prog 3 [c3]:=Zen (hf 3 _ rfl) (n := 1) (by kernel_rfl) rfl
  obtain ⟨v3,q3,b3⟩:=f3.toI64 Tryd.underlying3
  have f4:Of Tryd.prog 3 [c4]:=Zen (hf 4 _ rfl) (n := 1) (by kernel_rfl) rfl
  obtain ⟨v4,q4,b4⟩:=f4.toI64 Tryd.underlying3
  have f5:Of Tryd.prog 3 [c5]:=Zen (hf 5 _ rfl) (n := 1) (by kernel_rfl) rfl
  obtain ⟨v5,q5,b5⟩:=f5.toI64 Tryd.underlying3
  refine ⟨⟨v0,v1,v2,v3,v4,v5⟩,?_,⟨b0,b1,b2,b3,b4,b5⟩⟩
  have hc:([c0,c1,c2,c3,c4,c5]:List AV)=[c0] ++ [c1] ++ [c2] ++ [c3] ++ [c4] ++ [c5]:=rfl
  rw [hc]
  rw [q0,q1,q2,q3,q4,q5]
  rfl
end Go.Proofs.YtdchnngpjjcchaaDoor
end
