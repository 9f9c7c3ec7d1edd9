import Derived.Test.YthkdlifcknpadaaGreatHSh2
set_option linter.all false
section
namespace Go.Proofs.YthkdlifcknpadaaGreat
open Go Go.RowKit Go.Proofs.YthkdlifcknpadaaGreat.Abs
def Ko (x:AV)(v:Value):Prop:=(∀ (Γ:Zu) (w:World),Rep Γ w x v)∧∀ k r,x≠.own k r
theorem ZeF (k:IntKind)(n:Int):Ko (.int k n) (.int k n):=⟨fun _ _=>.int k n,fun _ _ h=>by cases h⟩
theorem Zqq (b:Bool):Ko (.bool b) (.bool b):=⟨fun _ _=>.bool b,fun _ _ h=>by cases h⟩
theorem Dv (b o:Nat):Ko (.ref []) (.pointer (some ⟨b,o,none⟩)):=⟨fun _ _=>.ref [] b o (fun _=>undef) (fun j c h=>by simp at h) (fun j c h=>by simp at h),fun _ _ h=>by cases h⟩
theorem ZcM (b o n c:Nat)(h:n≤c):Ko (.lst 0 (List.replicate n [])) (.slice (some ⟨b,o,none⟩) n c):=by
 refine ⟨fun _ _=>?_,fun _ _ h=>by cases h⟩
 have hk:∀ (i j:Nat) (r:List AV) (c:AV),(List.replicate n ([]:List AV))[i]? = some r→r[j]? = some c→False:=fun i j r c h1 h2=>by
  have:=List.eq_of_mem_replicate (List.mem_of_getElem? h1)
  subst this; simp at h2
 have:=Rep.lst (Γ := ‹Zu›) (w := ‹World›) 0 (List.replicate n []) b o c (fun _ _=>undef) (by simpa using h) (fun r hr=>by rw [List.eq_of_mem_replicate hr]; rfl) (fun i j r c h1 h2=>(hk i j r c h1 h2).elim) (fun i j r c h1 h2=>(hk i j r c h1 h2).elim)
 simpa using this
theorem ZsN {xs:List AV}{cv:Array Value}(hs:cv.size=xs.length)(h:∀ (j:Nat) (x:AV),xs[j]? = some x→x.one=true∧Ko x (cv.getD j undef)):Ko (.agg xs) (.agg cv) :=
 ⟨fun Γ w=>.agg xs cv hs (fun j c hc=>(h j c hc).1) (fun j k r hc=>absurd rfl ((h j _ hc).2.2 k r)) (fun j c hc=>(h j c hc).2.1 Γ w),fun _ _ h=>by cases h⟩
theorem Zlk {E:Entry}{s:Za}{Γ:Zu}{a a':Act}{w:World}(hI:Inv E s Γ a w)(hd:a'.defers=[])(sz:a'.tmps.size=a.tmps.size)(D:Nat→Bool)(h1:∀ t,D t=false→a'.tmps.getD t undef=a.tmps.getD t undef)
  (f:Nat→AV) (h2:∀ t,D t=true→Ko (f t) (a'.tmps.getD t undef)):Inv E { s with sl:=s.sl.mapIdx fun t v=>if D t=true then f t else v } Γ a' w:=by
 refine ⟨hd,⟨?_,fun t v hv=>?_,fun t v hv=>?_⟩,hI.rw,hI.fr,hI.base,hI.base2,hI.le,hI.back⟩
 ·rw [sz,hI.slots.size]; simp
 all_goals
  simp only [List.getElem?_mapIdx] at hv
  obtain ⟨u,hu,rfl⟩:=Option.map_eq_some_iff.1 hv
  by_cases hD:D t=true
  ·rw [if_pos hD]
   first | exact (h2 t hD).1 _ _ | exact .of_ne (h2 t hD).2
  ·rw [if_neg hD,h1 t (by simpa using hD)]
   first | exact hI.slots.rep t u hu | exact hI.slots.own t u hu
theorem Zdr {w w':World}(h:Below w.heap.size w w'):Behind w w':=⟨h.os,h.tape,h.output,h.size,fun b hb=>h.block b hb⟩
end Go.Proofs.YthkdlifcknpadaaGreat
end
