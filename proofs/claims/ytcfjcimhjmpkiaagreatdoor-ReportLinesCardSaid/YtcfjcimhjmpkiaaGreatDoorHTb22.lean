import Derived.Test.YtcfjcimhjmpkiaaGreatDoorHTb21
set_option linter.all false
section
namespace Go.Proofs.YtcfjcimhjmpkiaaGreatDoor
open Go Go.RowKit Go.Proofs.YtcfjcimhjmpkiaaGreatDoor.Abs
set_option maxRecDepth 100000
set_option maxHeartbeats 0
theorem PE:Ny (evalCall (CM m2) 60 WC [] [])=true:=by kernel_rfl
end Go.Proofs.YtcfjcimhjmpkiaaGreatDoor
end
section
namespace Go.Proofs.YtcfjcimhjmpkiaaGreatDoor
open Go Go.RowKit Go.Proofs.YtcfjcimhjmpkiaaGreatDoor.Abs
set_option maxRecDepth 100000
theorem LX {n:Nat}(h:n < 1000):Lib.decDigits n=Np n:=by
 unfold Np
 by_cases h1:n < 10
 ·rw [if_pos h1,Lib.decDigits_one h1]
 ·rw [if_neg h1]
  by_cases h2:n < 100
  ·rw [if_pos h2,Lib.decDigits_two h1 h2]
  ·rw [if_neg h2]
   have e:Lib.decDigits n=Lib.decDigits (n / 10) ++ [UInt8.ofNat (48 + n % 10)]:=by
    conv=>lhs; rw [Lib.decDigits,dif_neg h1]
   rw [e,Lib.decDigits_two (by omega) (by omega),Nat.div_div_eq_div_mul]
   rfl
theorem Dv {W0:World}(hL:Num.Laid W0)(n:Int)(hn:-9223372036854775808≤n∧n≤9223372036854775807):OracleOk Tryz.prog W0 26 [.int .i64 n] (.str (Lib.itoa n)):=by
 refine ⟨fun _ _ h=>(by cases h),fun Γ w xs hb hΓ hs hx=>?_⟩
 obtain ⟨x,rfl⟩:=Si hs
 obtain rfl:x=_:=VD (hx 0 _ rfl)
 refine went_of_calls Tryz.func26 (by kernel_rfl) rfl ((Num.c_text n hn.1 hn.2 w (hL.below hb)).mono ?_)
 rintro e w' ⟨rfl,hb'⟩
 exact ⟨_,rfl,hb',.str _⟩
theorem Dk {W0:World}(hL:Num.Laid W0):∀ f args v,NM f args=some v→OracleOk Tryz.prog W0 f args v:=by
 intro f args v h
 unfold NM at h
 split at h
 ·rename_i e; subst e
  split at h
  ·rename_i n
   split at h
   ·rename_i hn
    cases h
    have e:Lib.itoa n=Np n.toNat:=by
     rw [Lib.itoa,if_neg (by omega),LX (by omega)]
    rw [← e]
    exact Dv hL n ⟨by omega,by omega⟩
   ·cases h
  ·cases h
 ·cases h
theorem Bv {W0:World}(hL:Num.Laid W0):CallSpec Tryz.prog W0 Nc:=by
 intro f args hp v hp' e h Γ w xs hr ht hs hx
 unfold Nc at h
 split at h
 ·exact Lt W0 _ _ _ _ _ _ h Γ w xs hr ht hs hx
 ·exact OJ W0 _ _ _ _ _ _ h Γ w xs hr ht hs hx
 ·exact spec_of_oracles (Ld W0) _ _ _ _ _ _ h Γ w xs hr ht hs hx
 ·exact spec_of_oracles (Dj W0) _ _ _ _ _ _ h Γ w xs hr ht hs hx
 ·exact spec_of_oracles (Di W0) _ _ _ _ _ _ h Γ w xs hr ht hs hx
 ·exact spec_of_oracles (Dk hL) _ _ _ _ _ _ h Γ w xs hr ht hs hx
theorem Rt {W0:World}{l:List (Nat×List AV×AV)}(hl:∀ e ∈ l,OracleOk Tryz.prog W0 e.1 e.2.1 e.2.2):∀ f args v,TR l f args=some v→OracleOk Tryz.prog W0 f args v:=by
 intro f args v h
 unfold TR at h
 obtain ⟨e,he,rfl⟩:=Option.map_eq_some_iff.1 h
 have hm:=List.mem_of_find?_eq_some he
 have hq:=List.find?_some he
 simp only [Bool.and_eq_true,beq_iff_eq] at hq
 obtain ⟨rfl,hq⟩:=hq
 rw [← X3 (MS 12) hq]
 exact hl e hm
theorem Bl {W0:World}(hL:Num.Laid W0){l:List (Nat×List AV×AV)}(hl:∀ e ∈ l,OracleOk Tryz.prog W0 e.1 e.2.1 e.2.2):CfgOk Tryz.prog W0 (CM l) where
 mixed:=by kernel_rfl
 globals:=fun g cells h=>by cases h
 table:=fun f af h=>by
  have h:(if (l.map (·.1)).contains f then none else (PL.find? (·.1 == f)).map (·.2))=some af:=h
  split at h
  ·cases h
  obtain ⟨p,hp,rfl⟩:=Option.map_eq_some_iff.1 h
  have hf:=List.find?_some hp
  have:p.1=f:=by simpa using hf
  subst this
  exact RX p (List.mem_of_find?_eq_some hp)
 oracle:=by
  intro f args hp v hp' e h Γ w xs hr ht hs hx
  have h:(if (l.map (·.1)).contains f then (TR l f args).map fun v=>(v,hp,none) else Nc f args hp)=some (v,hp',e):=h
  split at h
  ·exact spec_of_oracles (Rt hl) _ _ _ _ _ _ h Γ w xs hr ht hs hx
  ·exact Bv hL _ _ _ _ _ _ h Γ w xs hr ht hs hx
def isOwn:AV→Bool
 | .own _ _=>true
 | _=>false
theorem TM {l:List (Nat×List AV×AV)}{f:FuncId}{args:List AV}{v:AV}(h:Nw l f args v=true):evalCall (CM l) 60 f args []=some (v,[],none):=by
 unfold Nw at h
 split at h
 ·rename_i u he
  rw [MS _ _ _ h]; exact he
 ·cases h
theorem ran {W0:World}(hL:Num.Laid W0){l:List (Nat×List AV×AV)}(hl:∀ (W:World),Num.Laid W→∀ e ∈ l,OracleOk Tryz.prog W e.1 e.2.1 e.2.2){f:FuncId}{args:List AV}{v:AV}(h:Nw l f args v=true)(hv:v.flat1=true)(ha:args.all AV.apart=true)(ho:args.all (fun x=>!isOwn x)=true){fn:Func}{c:Code}(hf:Tryz.prog.funcs[f]? = some fn)
  (hn:(fn.name == "runtime.NumGoroutine")=false) (hb:fn.body=some c):OracleOk Tryz.prog W0 f args v:=by
 refine ⟨fun k r h=>(by subst h; cases hv),fun Γ w xs hb0 _ hs hx=>?_⟩
 have hL':=hL.below hb0
 refine went_of_calls hf hn hb ((Ti (Bl hL' (hl w hL')) (TM h) hv hs fun j x hj=>⟨(hx j x hj).still' (List.all_eq_true.1 ha x (List.mem_of_getElem? hj)),fun k r e=>?_⟩).mono ?_)
 ·have:=List.all_eq_true.1 ho x (List.mem_of_getElem? hj)
  rw [e] at this
  cases this
 ·rintro e w' ⟨cv,rfl,hb',hr⟩
  exact ⟨cv,rfl,hb',flat1_rep hr hv⟩
theorem Pv (W:World)(_:Num.Laid W):∀ e ∈ m0,OracleOk Tryz.prog W e.1 e.2.1 e.2.2:=fun e he=>by cases he
theorem Px (W:World)(hL:Num.Laid W):∀ e ∈ m1,OracleOk Tryz.prog W e.1 e.2.1 e.2.2:=fun e he=>by
 simp only [m1,List.mem_cons,List.not_mem_nil,or_false] at he
 subst he
 exact ran hL Pv P9 rfl rfl rfl Tryz.func73 (by kernel_rfl) rfl
theorem Py (W:World)(hL:Num.Laid W):∀ e ∈ m2,OracleOk Tryz.prog W e.1 e.2.1 e.2.2:=fun e he=>by
 simp only [m2,List.mem_cons,List.not_mem_nil,or_false] at he
 subst he
 exact ran hL Px PD rfl rfl rfl Tryz.func41 (by kernel_rfl) rfl
theorem TN {r:Option (AV×List AObj×Eff)}(h:Ny r=true):∃ hp e,r=some (.bool true,hp,e):=by
 unfold Ny at h
 split at h
 ·exact ⟨_,_,rfl⟩
 ·cases h
theorem LJ {w:World}(hL:Num.Laid w):Calls Tryz.prog WC #[] w fun e w'=>e=.returned (.bool true)∧Below w.heap.size w w':=by
 obtain ⟨hp,e,h⟩:=TN PE
 exact law_of (Bl hL (Py w hL)) h rfl fun j x hx=>by simp at hx
end Go.Proofs.YtcfjcimhjmpkiaaGreatDoor
end
