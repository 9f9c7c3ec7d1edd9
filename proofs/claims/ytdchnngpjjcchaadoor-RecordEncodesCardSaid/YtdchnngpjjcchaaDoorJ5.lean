import Derived.Test.YtdchnngpjjcchaaDoorJ4
set_option linter.all false
section
namespace Go.Proofs.YtdchnngpjjcchaaDoor
open Go Go.RowKit Go.Proofs.YtdchnngpjjcchaaDoor.Abs
abbrev Rng (n:Int):Prop:=-9223372036854775808≤n∧n≤9223372036854775807
theorem BM {n:Int}(h:Rng n)(rest:List UInt8):nxt (enc n ++ rest,0)=(n,(rest,0)):=by
  unfold nxt
  rw [if_neg (by simp)]
  simp only [Ai h.1 h.2,Int.toNat_natCast,List.drop_left]
theorem Su:∀ (v:List Int) (rest:List UInt8),(∀ n ∈ v,Rng n)→rdN v.length (v.flatMap enc ++ rest,0)=(v,(rest,0))
  | [],rest,_=>rfl
  | x :: v,rest,h=>by
    rw [List.flatMap_cons,List.append_assoc,List.length_cons,rdN,BM (h x (List.mem_cons_self ..))]
    simp only
    rw [Su v rest fun n hn=>h n (List.mem_cons_of_mem _ hn)]
theorem ZaM (a b:Int)(h:Rng a):IntKind.i64.wrap (b + IntKind.i64.wrap (a - b))=a:=by
  have e:∀ x,IntKind.i64.wrap x=if x % 18446744073709551616 ≥ 9223372036854775808 then x % 18446744073709551616 - 18446744073709551616 else x % 18446744073709551616:=fun x=>by simp [IntKind.wrap,IntKind.bits,IntKind.signed]
  obtain ⟨h1,h2⟩:=h
  rw [e,e]
  split <;> split <;> omega
theorem Zah (r:Yx)(b:Int)(o:Qb r):KO b (nums r b)=r:=by
  cases r
  simp only [KO,nums,List.getD_cons_zero,List.getD_cons_succ,ZaM _ b o.Time]
theorem TD (r:Yx)(b:Int)(o:Qb r):∀ n ∈ nums r b,Rng n:=fun n h=>by
  simp only [nums,List.mem_cons,List.not_mem_nil,or_false] at h
  rcases h with rfl | rfl | rfl | rfl | rfl | rfl
  · exact Ox _
  · exact o.Site
  · exact o.What
  · exact o.Proc
  · exact o.Index
  · exact o.Value
theorem DJ:∀ (q:List Yx) (rest:List UInt8) (b:Int) (out:List Yx),(∀ r ∈ q,Qb r)→VR q.length ((UE b q).flatMap enc ++ rest,0) b out=.inl (out ++ q,rest)
  | [],rest,b,out,_=>by simp [UE,VR]
  | r :: q,rest,b,out,h=>by
    have hr:=h r (List.mem_cons_self ..)
    have e:=Su (nums r b) ((UE r.Time q).flatMap enc ++ rest) (TD r b hr)
    have h6:(nums r b).length=6:=rfl
    rw [h6] at e
    rw [UE,List.flatMap_append,List.append_assoc,List.length_cons,VR,e,if_neg (by simp),Zah r b hr,DJ q rest r.Time (out ++ [r]) fun x hx=>h x (List.mem_cons_of_mem _ hx)]
    simp
theorem Bv (l:List Yx)(ho:∀ r ∈ l,Qb r)(h:(encS l).2=0)(more:List UInt8):Bq ((encS l).1 ++ more)=if 0 < more.length then ([],8) else (l,0):=by
  have h5:¬ 50000 < l.length:=fun h5=>by unfold encS at h; rw [if_pos h5] at h; cases h
  have hE:¬ GV 0 l≠0:=fun hE=>by unfold encS at h; rw [if_neg h5,if_pos hE] at h; exact hE h
  have hS:(encS l).1=enc l.length ++ (UE 0 l).flatMap enc:=by unfold encS; rw [if_neg h5,if_neg hE,List.flatMap_cons]
  have hn:nxt ((encS l).1 ++ more,0)=((l.length:Int),((UE 0 l).flatMap enc ++ more,0)):=by
    rw [hS,List.append_assoc]; exact BM ⟨by omega,by omega⟩ _
  unfold Bq
  rw [hn]
  simp only [Int.toNat_natCast]
  rw [if_neg (by simp),if_neg (by omega),if_neg (by omega),DJ l more 0 [] ho]
  simp only [List.nil_append,h]
  by_cases hm:0 < more.length
  · rw [if_pos hm,if_pos (.inl hm)]
  · have:more=[]:=List.eq_nil_of_length_eq_zero (by omega)
    rw [if_neg hm,if_neg]
    rw [this]; simp
theorem MG {α:Type}(a b:List α)(k:Nat):(a ++ b).take (a.length + k)=a ++ b.take k:=by
  rw [List.take_append,List.take_of_length_le (by omega),Nat.add_sub_cancel_left]
theorem PH {n:Int}(h:Rng n){m:Nat}(hm:m < (enc n).length):(nxt ((enc n).take m,0)).2.2=7:=by
  unfold nxt
  rw [if_neg (by simp)]
  simp only [Pq h.1 h.2 hm]
theorem PP:∀ (v:List Int) (rest:List UInt8) (j:Nat),(∀ n ∈ v,Rng n)→j < (v.flatMap enc).length→(rdN v.length ((v.flatMap enc ++ rest).take j,0)).2.2=7
  | [],rest,j,_,h=>by simp at h
  | x :: v,rest,j,h,hj=>by
    have hx:=h x (List.mem_cons_self ..)
    rw [List.flatMap_cons,List.append_assoc,List.length_cons,rdN]
    by_cases h1:j < (enc x).length
    · rw [List.take_append_of_le_length (by omega)]
      have:=PH hx h1
      show (rdN v.length (nxt ((enc x).take j,0)).2).2.2=7
      rw [Dj _ _ (by rw [this]; decide),this]
    · obtain ⟨k,rfl⟩:∃ k,j=(enc x).length + k:=⟨j - (enc x).length,by omega⟩
      rw [MG,BM hx]
      refine PP v rest k (fun n hn=>h n (List.mem_cons_of_mem _ hn)) ?_
      rw [List.flatMap_cons,List.length_append] at hj
      omega
theorem OO:∀ (q:List Yx) (j:Nat) (b:Int) (out:List Yx),(∀ r ∈ q,Qb r)→j < ((UE b q).flatMap enc).length→VR q.length (((UE b q).flatMap enc).take j,0) b out=.inr 7
  | [],j,b,out,_,h=>by simp [UE] at h
  | r :: q,j,b,out,h,hj=>by
    have hr:=h r (List.mem_cons_self ..)
    have h6:(nums r b).length=6:=rfl
    rw [UE,List.flatMap_append] at hj ⊢
    rw [List.length_cons,VR]
    by_cases h1:j < ((nums r b).flatMap enc).length
    · have:=PP (nums r b) ((UE r.Time q).flatMap enc) j (TD r b hr) h1
      rw [h6] at this
      rw [this,if_pos (by decide)]
    · obtain ⟨k,rfl⟩:∃ k,j=((nums r b).flatMap enc).length + k:=⟨j - ((nums r b).flatMap enc).length,by omega⟩
      rw [MG]
      have e:=Su (nums r b) (((UE r.Time q).flatMap enc).take k) (TD r b hr)
      rw [h6] at e
      rw [e,if_neg (by simp),Zah r b hr]
      refine OO q k r.Time (out ++ [r]) (fun x hx=>h x (List.mem_cons_of_mem _ hx)) ?_
      rw [List.length_append] at hj
      omega
theorem Ac (l:List Yx)(ho:∀ r ∈ l,Qb r)(h:(encS l).2=0)(j:Nat)(hj:j < (encS l).1.length):Bq ((encS l).1.take j)=([],7):=by
  have h5:¬ 50000 < l.length:=fun h5=>by unfold encS at h; rw [if_pos h5] at h; cases h
  have hE:¬ GV 0 l≠0:=fun hE=>by unfold encS at h; rw [if_neg h5,if_pos hE] at h; exact hE h
  have hS:(encS l).1=enc l.length ++ (UE 0 l).flatMap enc:=by unfold encS; rw [if_neg h5,if_neg hE,List.flatMap_cons]
  have hl:Rng (l.length:Int):=⟨by omega,by omega⟩
  rw [hS] at hj ⊢
  unfold Bq
  by_cases h1:j < (enc (l.length:Int)).length
  · rw [List.take_append_of_le_length (by omega)]
    have:=PH hl h1
    rw [this,if_pos (by decide)]
  · obtain ⟨k,rfl⟩:∃ k,j=(enc (l.length:Int)).length + k:=⟨j - (enc (l.length:Int)).length,by omega⟩
    rw [MG,BM hl]
    simp only [Int.toNat_natCast]
    rw [if_neg (by simp),if_neg (by omega),if_neg (by omega),OO l k 0 [] ho (by rw [List.length_append] at hj; omega)]
theorem Zbp (l:List Yx)(h:(encS l).2≠0):(encS l).1=[]:=by
  unfold encS at h ⊢
  split
  · rfl
  · rename_i h5
    rw [if_neg h5] at h
    split
    · rfl
    · rename_i hE
      rw [if_neg hE] at h
      exact absurd rfl h
theorem Zdi (l:List Yx)(h:(encS l).2=0):0 < (encS l).1.length:=by
  have h5:¬ 50000 < l.length:=fun h5=>by unfold encS at h; rw [if_pos h5] at h; cases h
  have hE:¬ GV 0 l≠0:=fun hE=>by unfold encS at h; rw [if_neg h5,if_pos hE] at h; exact hE h
  have hS:(encS l).1=enc l.length ++ (UE 0 l).flatMap enc:=by unfold encS; rw [if_neg h5,if_neg hE,List.flatMap_cons]
  rw [hS,List.length_append]
  have:=(Uu (l.length:Int)).1
  omega
theorem Zbg (b:List UInt8)(h:(Bq b).2≠0):(Bq b).1=[]:=by
  unfold Bq at h ⊢
  split
  · rfl
  · rename_i h1
    rw [if_neg h1] at h
    split
    · rfl
    · rename_i h2
      rw [if_neg h2] at h
      split
      · rfl
      · rename_i h3
        rw [if_neg h3] at h
        split
        · rfl
        · rename_i o r hd
          rw [hd] at h
          simp only at h
          split
          · rfl
          · rename_i h4
            rw [if_neg h4] at h
            exact absurd rfl h
theorem FC (b:List UInt8)(h:(Bq b).2=0):encS (Bq b).1=(b,0)∧∀ r ∈ (Bq b).1,Qb r:=by
  unfold Bq at h ⊢
  by_cases h1:(nxt (b,0)).2.2≠0
  · rw [if_pos h1] at h; exact absurd h h1
  rw [if_neg h1] at h ⊢
  by_cases h2:(nxt (b,0)).1 < 0
  · rw [if_pos h2] at h; cases h
  rw [if_neg h2] at h ⊢
  by_cases h3:50000 < (nxt (b,0)).1
  · rw [if_pos h3] at h; cases h
  rw [if_neg h3] at h ⊢
  have h10:(nxt (b,0)).2.2=0:=by simpa using h1
  have e0:(nxt (b,0)).2=((nxt (b,0)).2.1,0):=Prod.ext rfl h10
  rw [e0] at h ⊢
  rcases hd:VR (nxt (b,0)).1.toNat ((nxt (b,0)).2.1,0) 0 [] with ⟨o,r⟩ | e
  · rw [hd] at h
    simp only at h ⊢
    by_cases h4:0 < r.length∨(encS o).2≠0∨(encS o).1≠b
    · rw [if_pos h4] at h; cases h
    · rw [if_neg h4]
      have h5:(encS o).2=0:=by
        by_cases q:(encS o).2=0
        · exact q
        · exact absurd (.inr (.inl q)) h4
      have h6:(encS o).1=b:=by
        by_cases q:(encS o).1=b
        · exact q
        · exact absurd (.inr (.inr q)) h4
      exact ⟨Prod.ext h6 h5,(Oh _ _ [] o r hd (fun x hx=>by cases hx)).choose_spec.2.2.1⟩
  · rw [hd] at h
    simp only at h
    subst h
    exfalso
    have:∀ (k:Nat) (l:List UInt8) (b:Int) (out:List Yx),VR k (l,0) b out≠.inr 0:=by
      intro k
      induction k with
      | zero=>intro l b out h; cases h
      | succ k ih =>
        intro l b out h
        rw [VR] at h
        split at h
        · rename_i hq
          exact hq (Sum.inr.inj h)
        · rename_i hq
          have hq:(rdN 6 (l,0)).2.2=0:=by simpa using hq
          have e1:(rdN 6 (l,0)).2=((rdN 6 (l,0)).2.1,0):=Prod.ext rfl hq
          rw [e1] at h
          exact ih _ _ _ h
    exact this _ _ _ _ hd
end Go.Proofs.YtdchnngpjjcchaaDoor
end
