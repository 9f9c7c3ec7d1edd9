import Derived.Test.YtbcfddaocfpckaaGreatDoorHSt16
set_option linter.all false
section
namespace Go.Proofs.YtbcfddaocfpckaaGreatDoor
open Go Go.RowKit Go.Proofs.YtbcfddaocfpckaaGreatDoor.Abs
set_option maxRecDepth 100000
set_option maxHeartbeats 0
def orS (f:FuncId)(args:List AV):Option AV:=if f=44 then (match args with
 | [.int .i64 n]=>if 0≤n∧n < 10 then some (.str [UInt8.ofNat (48 + n.toNat)]) else if n=-1 then some (.str [45,49]) else none
 | _=>none) else none
def O13 (f:FuncId)(args:List AV)(hp:List AObj):Option (AV×List AObj×Eff) :=
 match f with
 | 93=>wsO f args hp
 | 81=>Zc5 f args hp
 | 80=>Zcv f args hp
 | 95=>(orJ f args).map fun v=>(v,hp,none)
 | 94=>(orR f args).map fun v=>(v,hp,none)
 | _=>(orS f args).map fun v=>(v,hp,none)
noncomputable def CW:Cfg:=⟨fun _=>none,fun f=>(Zf1.find? (·.1 == f)).map (·.2),O13,1000⟩
def isT:Option (AV×List AObj×Eff)→Bool
 | some (.bool true,_,_)=>true
 | _=>false
theorem Cc:isT (evalCall CW 60 XX [] [])=true:=by kernel_rfl
end Go.Proofs.YtbcfddaocfpckaaGreatDoor
end
section
namespace Go.Proofs.YtbcfddaocfpckaaGreatDoor
open Go Go.RowKit Go.Proofs.YtbcfddaocfpckaaGreatDoor.Abs
set_option maxRecDepth 100000
theorem ZbF {n:Int}(h0:0≤n)(h:n < 10):Lib.itoa n=[UInt8.ofNat (48 + n.toNat)]:=by
 rw [Lib.itoa,if_neg (by omega),Lib.decDigits_one (by omega)]
theorem ZcT:Lib.itoa (-1)=[45,49]:=by
 rw [Lib.itoa,if_pos (by omega),Lib.decDigits_one (by decide)]; rfl
theorem Zc9 {W0:World}(hL:Num.Laid W0)(n:Int)(hn:-9223372036854775808≤n∧n≤9223372036854775807):OracleOk Tryz.prog W0 44 [.int .i64 n] (.str (Lib.itoa n)):=by
 refine ⟨fun _ _ h=>(by cases h),fun Γ w xs hb hΓ hs hx=>?_⟩
 obtain ⟨x,rfl⟩:=xs1 hs
 obtain rfl:x=_:=EE (hx 0 _ rfl)
 refine went_of_calls Tryz.func44 (by kernel_rfl) rfl ((Num.c_text n hn.1 hn.2 w (hL.below hb)).mono ?_)
 rintro e w' ⟨rfl,hb'⟩
 exact ⟨_,rfl,hb',.str _⟩
theorem ZdX {W0:World}(hL:Num.Laid W0):∀ f args v,orS f args=some v→OracleOk Tryz.prog W0 f args v:=by
 intro f args v h
 unfold orS at h
 split at h
 ·rename_i e; subst e
  split at h
  ·rename_i n
   split at h
   ·rename_i hn
    cases h
    rw [← ZbF hn.1 hn.2]
    exact Zc9 hL n ⟨by omega,by omega⟩
   ·split at h
    ·rename_i hn
     cases h
     subst hn
     rw [← ZcT]
     exact Zc9 hL (-1) ⟨by decide,by decide⟩
    ·cases h
  ·cases h
 ·cases h
theorem Zd7 {W0:World}(hL:Num.Laid W0):CallSpec Tryz.prog W0 O13:=by
 intro f args hp v hp' e h Γ w xs hr ht hs hx
 unfold O13 at h
 split at h
 ·exact ZcA W0 _ _ _ _ _ _ h Γ w xs hr ht hs hx
 ·exact Zbm W0 _ _ _ _ _ _ h Γ w xs hr ht hs hx
 ·exact ZaP W0 _ _ _ _ _ _ h Γ w xs hr ht hs hx
 ·exact spec_of_oracles (Zcy W0) _ _ _ _ _ _ h Γ w xs hr ht hs hx
 ·exact spec_of_oracles (Zcz W0) _ _ _ _ _ _ h Γ w xs hr ht hs hx
 ·exact spec_of_oracles (ZdX hL) _ _ _ _ _ _ h Γ w xs hr ht hs hx
theorem ZeS {W0:World}(hL:Num.Laid W0):CfgOk Tryz.prog W0 CW where
 mixed:=by kernel_rfl
 globals:=fun g cells h=>by cases h
 table:=fun f af h=>by
  have h:(Zf1.find? (·.1 == f)).map (·.2)=some af:=h
  obtain ⟨p,hp,rfl⟩:=Option.map_eq_some_iff.1 h
  have hf:=List.find?_some hp
  have:p.1=f:=by simpa using hf
  subst this
  exact Zdv p (List.mem_of_find?_eq_some hp)
 oracle:=Zd7 hL
theorem ZbE {r:Option (AV×List AObj×Eff)}(h:isT r=true):∃ hp e,r=some (.bool true,hp,e):=by
 unfold isT at h
 split at h
 ·exact ⟨_,_,rfl⟩
 ·cases h
theorem ZcG {w:World}(hL:Num.Laid w):Calls Tryz.prog XX #[] w fun e w'=>e=.returned (.bool true)∧Below w.heap.size w w':=by
 obtain ⟨hp,e,h⟩:=ZbE Cc
 exact law_of (ZeS hL) h rfl fun j x hx=>by simp at hx
end Go.Proofs.YtbcfddaocfpckaaGreatDoor
end
