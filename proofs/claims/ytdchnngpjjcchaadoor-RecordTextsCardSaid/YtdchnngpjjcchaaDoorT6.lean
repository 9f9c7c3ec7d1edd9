import Derived.Lib.SplitLaws
import Derived.Lib.Join
import Derived.Lib.ItoaNum
import Derived.Test.YtdchnngpjjcchaaDoorT5
set_option linter.all false
section
namespace Go.Proofs.YtdchnngpjjcchaaDoor
open Go Go.RowKit Go.Proofs.YtdchnngpjjcchaaDoor.Abs
set_option maxRecDepth 100000
def unR:List AV→Option YS
  | [.int .i64 a,.int .i64 b,.int .i64 c,.int .i64 d,.int .i64 e,.int .i64 f]=>some ⟨a,b,c,d,e,f⟩
  | _=>none
theorem Gq {r:List AV}{x:YS}(h:unR r=some x):r=Yf x:=by
  unfold unR at h
  split at h
  · cases h; rfl
  · cases h
def unS:List AV→Option (List UInt8)
  | [.str s]=>some s
  | _=>none
theorem CU {r:List AV}{x:List UInt8}(h:unS r=some x):r=[.str x]:=by
  unfold unS at h
  split at h
  · cases h; rfl
  · cases h
def unL {α:Type}(u:List AV→Option α):List (List AV)→Option (List α)
  | []=>some []
  | r :: l=>match u r,unL u l with
    | some x,some xs=>some (x :: xs)
    | _,_=>none
theorem U5 {α:Type}{u:List AV→Option α}{row:α→List AV}(hu:∀ r x,u r=some x→r=row x):∀ {l:List (List AV)} {xs:List α},unL u l=some xs→l=xs.map row
  | [],_,h=>by cases h; rfl
  | r :: l,_,h=>by
    unfold unL at h
    split at h
    · rename_i x xs h1 h2
      cases h
      rw [hu _ _ h1,U5 hu h2]; rfl
    · cases h
theorem EI {α:Type}{u:List AV→Option α}{row:α→List AV}(hu:∀ x,u (row x)=some x):∀ xs:List α,unL u (xs.map row)=some xs
  | []=>rfl
  | x :: xs=>by
    show (match u (row x),unL u (xs.map row) with | some x,some xs=>some (x :: xs) | _,_=>none)=_
    rw [hu,EI hu xs]
def ZbJ (s:List UInt8):List AV:=[.str s]
theorem CG (l:List (List UInt8)):strs l=l.map ZbJ:=rfl
theorem FW (l:List YS):recs l=l.map Yf:=rfl
def Yk (s sep:List UInt8):List (List UInt8):=Lib.split s sep
theorem bytes_eq (s:List UInt8):(⟨s.toArray⟩:ByteArray).data.toList=s:=by simp
theorem size_eq' (s:List UInt8):(⟨s.toArray⟩:ByteArray).size=s.length:=by show s.toArray.size=_; simp
theorem xs1 {xs:Array Value}(h:xs.size=1):∃ x,xs=#[x]:=by
  cases xs with | mk l=>match l,h with | [x],_=>exact ⟨x,rfl⟩
theorem xs2 {xs:Array Value}(h:xs.size=2):∃ x y,xs=#[x,y]:=by
  cases xs with | mk l=>match l,h with | [x,y],_=>exact ⟨x,y,rfl⟩
theorem Ih {Γ:Zm}{w:World}{k:IntKind}{n:Int}{x:Value}(h:Rep Γ w (.int k n) x):x=.int k n:=by cases h; rfl
theorem Ky {Γ:Zm}{w:World}{s:List UInt8}{x:Value}(h:Rep Γ w (.str s) x):x=.string ⟨s.toArray⟩:=by cases h; rfl
theorem FY {Γ:Zm}{w:World}{xs:List (List UInt8)}{x:Value}(h:Rep Γ w (.lst 1 (strs xs)) x)(hne:xs≠[]):∃ b o cap,x=.slice (some ⟨b,o,none⟩) xs.length cap∧xs.length≤cap∧∀ (j:Nat) (s:List UInt8),xs[j]? = some s→w.cell? ⟨b,o + j,none⟩=some (.string ⟨s.toArray⟩):=by
  generalize hq:strs xs=rows at h
  cases h with
  | lstNil=>cases xs with | nil=>exact absurd rfl hne | cons c l=>cases hq
  | lstE=>cases xs with | nil=>exact absurd rfl hne | cons c l=>cases hq
  | lst _ _ b o cap cv hlen hk hc hr =>
    subst hq
    have hl:(strs xs).length=xs.length:=by simp [strs]
    rw [hl] at hlen
    refine ⟨b,o,cap,by rw [hl],hlen,fun j s hj=>?_⟩
    have h1:(strs xs)[j]? = some [.str s]:=by rw [strs,List.getElem?_map,hj]; rfl
    have h2:=hc j 0 _ _ h1 rfl
    have h3:=hr j 0 _ _ h1 rfl
    generalize cv j 0=u at h2 h3
    cases h3
    simpa using h2.1
theorem CJ {Γ:Zm}{w:World}{xs:List (List UInt8)}{n:Nat}(hn:n=xs.length)(hΓ:∀ b,w.heap.size≤b→Γ b=.imm){cells:Array Value}(hc:cells=(xs.map fun s=>Value.string ⟨s.toArray⟩).toArray)(t:TypeId) :
    Rep Γ (w.alloc (.cells cells t)) (.lst 1 (strs xs)) (.slice (some ⟨w.heap.size,0,none⟩) n n):=by
  have hl:(strs xs).length=xs.length:=by simp [strs]
  subst hn
  have:=Rep.lst (Γ := Γ) (w := w.alloc (.cells cells t)) 1 (strs xs) w.heap.size 0 xs.length (fun i _=>.string ⟨(xs.getD i []).toArray⟩) (by rw [hl]; exact Nat.le_refl _) (fun r hr=>by obtain ⟨c,-,rfl⟩:=List.mem_map.1 hr; rfl) (fun i j r c hi hj=>?_) (fun i j r c hi hj=>?_)
  · rw [hl] at this; exact this
  all_goals
    rw [strs,List.getElem?_map] at hi
    obtain ⟨y,hy,rfl⟩:=Option.map_eq_some_iff.1 hi
    obtain rfl:j=0:=by
      have:=(List.getElem?_eq_some_iff.1 hj).1
      simp at this; omega
    obtain rfl:c=.str y:=by simpa using hj.symm
    have hd:xs.getD i []=y:=by rw [List.getD_eq_getElem?_getD,hy]; rfl
  · refine ⟨?_,by rw [XT,hΓ _ (Nat.le_refl _)]; trivial,rfl⟩
    rw [hd,World.cell?_alloc_mark,hc]
    simp [hy]
  · rw [hd]; exact .str _
theorem RN (w:World)(o:Obj):Below w.heap.size w (w.alloc o):=⟨rfl,rfl,rfl,by show w.heap.size≤(w.heap.push _).size; rw [Array.size_push]; omega,fun i hi=>Below.heap_alloc _ _ _ hi⟩
theorem OO (s sep:List UInt8):(Lib.splitB ⟨sep.toArray⟩ 0 (Lib.countB ⟨s.toArray⟩ ⟨sep.toArray⟩) ⟨s.toArray⟩).map (·.data.toList)=Yk s sep:=by
  rw [Lib.splitB_data]
  unfold Yk Lib.split Lib.countB
  simp only [bytes_eq]
theorem Zd4 (l:List ByteArray):l.map Value.string=(l.map (·.data.toList)).map fun s=>Value.string ⟨s.toArray⟩:=by
  rw [List.map_map]
  refine List.map_congr_left fun a _=>?_
  show Value.string a=.string ⟨a.data.toList.toArray⟩
  cases a; simp
def C0:Cfg:=⟨fun _=>none,cT,fun _ _ _=>none,9223372036854775808⟩
theorem tT:∀ f af,cT f=some af→∃ fn takes,Tryd.prog.funcs[f]? = some fn∧(fn.name == "runtime.NumGoroutine")=false∧cFn Tryd.prog takes fn=some af:=by
  intro f af h
  unfold cT at h
  obtain ⟨p,hp,rfl⟩:=Option.map_eq_some_iff.1 h
  have h1:=List.find?_some hp
  have h2:=List.mem_of_find?_eq_some hp
  have:p.1=f:=by simpa using h1
  subst this
  exact Zd5 p h2
theorem ZdF:JD C0:=⟨fun _ _ h=>h,Nat.le_refl _⟩
theorem Za1 (W0:World):CfgOk Tryd.prog W0 C0 where
  mixed:=by kernel_rfl
  globals:=fun g cs h=>by cases h
  table:=tT
  oracle:=fun f args hp v hp' e h=>by cases h
end Go.Proofs.YtdchnngpjjcchaaDoor
end
section
namespace Go.Proofs.YtdchnngpjjcchaaDoor
open Go Go.RowKit Go.Proofs.YtdchnngpjjcchaaDoor.Abs
set_option maxRecDepth 100000
def Yu:List (List UInt8):=[[98,101,103,105,110],[101,110,100],[104,111,108,100],[115,101,105,122,101],[119,97,105,116,115],[114,101,108,101,97,115,101],[112,114,101,101,109,112,116],[112,117,116],[103,101,116],[114,105,100,101],[119,97,105,116],[115,105,103,110,97,108],[115,101,110,100],[111,98,115,101,114,118,101],[108,101,118,101,108],[99,111,117,110,116],[115,104,105,102,116],[102,97,117,108,116]]
def XB (n:Int):List UInt8:=Yu.getD (n - 1).toNat []
def textS (r:YS):List UInt8:=if U8 r≠0 then [] else Lib.join [Lib.itoa r.Time,Lib.itoa r.Site,XB r.What,Lib.itoa r.Proc,Lib.itoa r.Index,Lib.itoa r.Value] [32]
theorem EJ:∀ w ∈ Yu,w.length≤7:=by decide
theorem Pj (n:Int):(XB n).length≤7:=by
  unfold XB
  by_cases h:(n - 1).toNat < Yu.length
  · rw [List.getD_eq_getElem?_getD,List.getElem?_eq_getElem h]
    exact EJ _ (List.getElem_mem h)
  · rw [List.getD_eq_getElem?_getD,List.getElem?_eq_none (by omega)]; simp
theorem Zbc (a b c d e f sep:List UInt8):Lib.join [a,b,c,d,e,f] sep=a ++ (sep ++ b ++ (sep ++ c ++ (sep ++ d ++ (sep ++ e ++ (sep ++ f))))):=by
  rw [Lib.join_cons]; simp [Lib.joinTail]
theorem U1 {r:YS}(h:U8 r=0):1≤r.What∧r.What≤18:=by
  unfold U8 at h
  split at h
  · cases h
  · omega
end Go.Proofs.YtdchnngpjjcchaaDoor
end
