import Derived.Test.YtcfjcimhjmpkiaaGreatDoorHDe21
set_option linter.all false
section
namespace Go.Proofs.YtcfjcimhjmpkiaaGreatDoor
open Go Go.RowKit Go.Proofs.YtcfjcimhjmpkiaaGreatDoor.Abs
set_option maxRecDepth 100000
set_option maxHeartbeats 0
theorem ER:Fg (evalCall (CM m2) 60 We [] [])=true:=by kernel_rfl
end Go.Proofs.YtcfjcimhjmpkiaaGreatDoor
end
section
namespace Go.Proofs.YtcfjcimhjmpkiaaGreatDoor
open Go Go.RowKit Go.Proofs.YtcfjcimhjmpkiaaGreatDoor.Abs
set_option maxRecDepth 100000
theorem D5 {n:Nat}(h:n < 1000):Lib.decDigits n=AX n:=by
 unfold AX
 by_cases h1:n < 10
 ·rw [if_pos h1,Lib.decDigits_one h1]
 ·rw [if_neg h1]
  by_cases h2:n < 100
  ·rw [if_pos h2,Lib.decDigits_two h1 h2]
  ·rw [if_neg h2]
   have e:Lib.decDigits n=Lib.decDigits (n / 10) ++ [UInt8.ofNat (48 + n % 10)]:=by
    conv=>lhs; rw [Lib.decDigits,dif_neg h1]
   rw [e,Lib.decDigits_two (by omega) (by omega),Nat.div_div_eq_div_mul]
   rfl
theorem Sz {W0:World}(hL:Num.Laid W0)(n:Int)(hn:-9223372036854775808≤n∧n≤9223372036854775807):OracleOk Tryz.prog W0 26 [.int .i64 n] (.str (Lib.itoa n)):=by
 refine ⟨fun _ _ h=>(by cases h),fun Γ w xs hb hΓ hs hx=>?_⟩
 obtain ⟨x,rfl⟩:=CV hs
 obtain rfl:x=_:=XA (hx 0 _ rfl)
 refine went_of_calls Tryz.func26 (by kernel_rfl) rfl ((Num.c_text n hn.1 hn.2 w (hL.below hb)).mono ?_)
 rintro e w' ⟨rfl,hb'⟩
 exact ⟨_,rfl,hb',.str _⟩
theorem NV {W0:World}(hL:Num.Laid W0):∀ f args v,Cc f args=some v→OracleOk Tryz.prog W0 f args v:=by
 intro f args v h
 unfold Cc at h
 split at h
 ·rename_i e; subst e
  split at h
  ·rename_i n
   split at h
   ·rename_i hn
    cases h
    have e:Lib.itoa n=AX n.toNat:=by
     rw [Lib.itoa,if_neg (by omega),D5 (by omega)]
    rw [← e]
    exact Sz hL n ⟨by omega,by omega⟩
   ·cases h
  ·cases h
 ·cases h
theorem Nl {W0:World}(hL:Num.Laid W0):CallSpec Tryz.prog W0 AC:=by
 intro f args hp v hp' e h Γ w xs hr ht hs hx
 unfold AC at h
 split at h
 ·exact SN W0 _ _ _ _ _ _ h Γ w xs hr ht hs hx
 ·exact PD W0 _ _ _ _ _ _ h Γ w xs hr ht hs hx
 ·exact spec_of_oracles (BH W0) _ _ _ _ _ _ h Γ w xs hr ht hs hx
 ·exact spec_of_oracles (BG W0) _ _ _ _ _ _ h Γ w xs hr ht hs hx
 ·exact spec_of_oracles (BF W0) _ _ _ _ _ _ h Γ w xs hr ht hs hx
 ·exact spec_of_oracles (NV hL) _ _ _ _ _ _ h Γ w xs hr ht hs hx
theorem DV {W0:World}{l:List (Nat×List AV×AV)}(hl:∀ e ∈ l,OracleOk Tryz.prog W0 e.1 e.2.1 e.2.2):∀ f args v,Rw l f args=some v→OracleOk Tryz.prog W0 f args v:=by
 intro f args v h
 unfold Rw at h
 obtain ⟨e,he,rfl⟩:=Option.map_eq_some_iff.1 h
 have hm:=List.mem_of_find?_eq_some he
 have hq:=List.find?_some he
 simp only [Bool.and_eq_true,beq_iff_eq] at hq
 obtain ⟨rfl,hq⟩:=hq
 rw [← Xm (Bo 12) hq]
 exact hl e hm
theorem Nh {W0:World}(hL:Num.Laid W0){l:List (Nat×List AV×AV)}(hl:∀ e ∈ l,OracleOk Tryz.prog W0 e.1 e.2.1 e.2.2):CfgOk Tryz.prog W0 (CM l) where
 mixed:=by kernel_rfl
 globals:=fun g cells h=>by cases h
 table:=fun f af h=>by
  have h:(if (l.map (·.1)).contains f then none else (Aa.find? (·.1 == f)).map (·.2))=some af:=h
  split at h
  ·cases h
  obtain ⟨p,hp,rfl⟩:=Option.map_eq_some_iff.1 h
  have hf:=List.find?_some hp
  have:p.1=f:=by simpa using hf
  subst this
  exact PH p (List.mem_of_find?_eq_some hp)
 oracle:=by
  intro f args hp v hp' e h Γ w xs hr ht hs hx
  have h:(if (l.map (·.1)).contains f then (Rw l f args).map fun v=>(v,hp,none) else AC f args hp)=some (v,hp',e):=h
  split at h
  ·exact spec_of_oracles (DV hl) _ _ _ _ _ _ h Γ w xs hr ht hs hx
  ·exact Nl hL _ _ _ _ _ _ h Γ w xs hr ht hs hx
def isOwn:AV→Bool
 | .own _ _=>true
 | _=>false
theorem Rn {l:List (Nat×List AV×AV)}{f:FuncId}{args:List AV}{v:AV}(h:Ff l f args v=true):evalCall (CM l) 60 f args []=some (v,[],none):=by
 unfold Ff at h
 split at h
 ·rename_i u he
  rw [Bo _ _ _ h]; exact he
 ·cases h
theorem ran {W0:World}(hL:Num.Laid W0){l:List (Nat×List AV×AV)}(hl:∀ (W:World),Num.Laid W→∀ e ∈ l,OracleOk Tryz.prog W e.1 e.2.1 e.2.2){f:FuncId}{args:List AV}{v:AV}(h:Ff l f args v=true)(hv:v.flat1=true)(ha:args.all AV.apart=true)(ho:args.all (fun x=>!isOwn x)=true){fn:Func}{c:Code}(hf:Tryz.prog.funcs[f]? = some fn)
  (hn:(fn.name == "runtime.NumGoroutine")=false) (hb:fn.body=some c):OracleOk Tryz.prog W0 f args v:=by
 refine ⟨fun k r h=>(by subst h; cases hv),fun Γ w xs hb0 _ hs hx=>?_⟩
 have hL':=hL.below hb0
 refine went_of_calls hf hn hb ((L8 (Nh hL' (hl w hL')) (Rn h) hv hs fun j x hj=>⟨(hx j x hj).still' (List.all_eq_true.1 ha x (List.mem_of_getElem? hj)),fun k r e=>?_⟩).mono ?_)
 ·have:=List.all_eq_true.1 ho x (List.mem_of_getElem? hj)
  rw [e] at this
  cases this
 ·rintro e w' ⟨cv,rfl,hb',hr⟩
  exact ⟨cv,rfl,hb',flat1_rep hr hv⟩
theorem EH (W:World)(_:Num.Laid W):∀ e ∈ m0,OracleOk Tryz.prog W e.1 e.2.1 e.2.2:=fun e he=>by cases he
theorem EI (W:World)(hL:Num.Laid W):∀ e ∈ m1,OracleOk Tryz.prog W e.1 e.2.1 e.2.2:=fun e he=>by
 simp only [m1,List.mem_cons,List.not_mem_nil,or_false] at he
 subst he
 exact ran hL EH EP rfl rfl rfl Tryz.func73 (by kernel_rfl) rfl
theorem EJ (W:World)(hL:Num.Laid W):∀ e ∈ m2,OracleOk Tryz.prog W e.1 e.2.1 e.2.2:=fun e he=>by
 simp only [m2,List.mem_cons,List.not_mem_nil,or_false] at he
 subst he
 exact ran hL EI EQ rfl rfl rfl Tryz.func41 (by kernel_rfl) rfl
theorem Ro {r:Option (AV×List AObj×Eff)}(h:Fg r=true):∃ hp e,r=some (.bool true,hp,e):=by
 unfold Fg at h
 split at h
 ·exact ⟨_,_,rfl⟩
 ·cases h
theorem Dt {w:World}(hL:Num.Laid w):Calls Tryz.prog We #[] w fun e w'=>e=.returned (.bool true)∧Below w.heap.size w w':=by
 obtain ⟨hp,e,h⟩:=Ro ER
 exact law_of (Nh hL (EJ w hL)) h rfl fun j x hx=>by simp at hx
end Go.Proofs.YtcfjcimhjmpkiaaGreatDoor
end
