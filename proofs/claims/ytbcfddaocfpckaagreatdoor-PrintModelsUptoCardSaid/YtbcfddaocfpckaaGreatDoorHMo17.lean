import Derived.Test.YtbcfddaocfpckaaGreatDoorHMo16
set_option linter.all false
section
namespace Go.Proofs.YtbcfddaocfpckaaGreatDoor
open Go Go.RowKit Abs
set_option maxRecDepth 100000
set_option maxHeartbeats 0
def orS (f:FuncId)(args:List AV):Option AV:=if f=44 then (match args with
 | [.int .i64 n]=>if 0≤n∧n<10 then some (.str [UInt8.ofNat (48+n.toNat)]) else if n=-1 then some (.str [45,49]) else none
 |_=>none) else none
def O13 (f:FuncId)(args:List AV)(hp:List AObj):Option (AV×List AObj×Eff) :=
 match f with
 |93=>wsO f args hp
 |81=>ZkV f args hp
 |80=>ZkI f args hp
 |95=>(orJ f args).map fun v=>(v,hp,none)
 |94=>(orR f args).map fun v=>(v,hp,none)
 |_=>(orS f args).map fun v=>(v,hp,none)
noncomputable def CW:Cfg:=⟨fun _=>none,fun f=>(Zo8.find? (·.1==f)).map (·.2),O13,1000⟩
def isT:Option (AV×List AObj×Eff)→Bool
 |some (.bool true,_,_)=>true
 |_=>false
theorem ZgR:isT (evalCall CW 60 G7 [] [])=true:=by kernel_rfl
theorem ZjQ {n:Int}(h0:0≤n)(h:n<10):Lib.itoa n=[UInt8.ofNat (48+n.toNat)]:=by
 rw [Lib.itoa,if_neg (by omega),Lib.decDigits_one (by omega)]
theorem Zly:Lib.itoa (-1)=[45,49]:=by
 rw [Lib.itoa,if_pos (by omega),Lib.decDigits_one (by decide)];rfl
theorem Zlb {W0:World}(hL:Num.Laid W0)(n:Int)(hn:-9223372036854775808≤n∧n≤9223372036854775807):OracleOk Tryz.prog W0 44 [.int .i64 n] (.str (Lib.itoa n)):=by
 refine ⟨fun _ _ h=>(by cases h),fun Γ w xs hb hΓ hs hx=>?_⟩
 obtain ⟨x,rfl⟩:=xs1 hs
 obtain rfl:x=_:=ZfA (hx 0 _ rfl)
 refine went_of_calls Tryz.func44 (by kernel_rfl) rfl ((Num.c_text n hn.1 hn.2 w (hL.below hb)).mono ?_)
 rintro e w' ⟨rfl,hb'⟩
 exact ⟨_,rfl,hb',.str _⟩
theorem ZmL {W0:World}(hL:Num.Laid W0):∀f args v,orS f args=some v→OracleOk Tryz.prog W0 f args v:=by
 intro f args v h
 unfold orS at h
 split at h
 ·rename_i e;subst e
  split at h
  ·rename_i n
   split at h
   ·rename_i hn
    cases h
    rw [← ZjQ hn.1 hn.2]
    exact Zlb hL n ⟨by omega,by omega⟩
   ·split at h
    ·rename_i hn
     cases h
     subst hn
     rw [← Zly]
     exact Zlb hL (-1) ⟨by decide,by decide⟩
    ·cases h
  ·cases h
 ·cases h
theorem Zmu {W0:World}(hL:Num.Laid W0):CallSpec Tryz.prog W0 O13:=by
 intro f args hp v hp' e h Γ w xs hr ht hs hx
 unfold O13 at h
 split at h
 ·exact Zlg W0 _ _ _ _ _ _ h Γ w xs hr ht hs hx
 ·exact Zjm W0 _ _ _ _ _ _ h Γ w xs hr ht hs hx
 ·exact Zi3 W0 _ _ _ _ _ _ h Γ w xs hr ht hs hx
 ·exact spec_of_oracles (ZkM W0) _ _ _ _ _ _ h Γ w xs hr ht hs hx
 ·exact spec_of_oracles (ZkN W0) _ _ _ _ _ _ h Γ w xs hr ht hs hx
 ·exact spec_of_oracles (ZmL hL) _ _ _ _ _ _ h Γ w xs hr ht hs hx
theorem ZnL {W0:World}(hL:Num.Laid W0):CfgOk Tryz.prog W0 CW where
 mixed:=by kernel_rfl
 globals:=fun g cells h=>by cases h
 table:=fun f af h=>by
  have h:(Zo8.find? (·.1==f)).map (·.2)=some af:=h
  obtain ⟨p,hp,rfl⟩:=Option.map_eq_some_iff.1 h
  have hf:=List.find?_some hp
  have:p.1=f:=by simpa using hf
  subst this
  exact Zmi p (List.mem_of_find?_eq_some hp)
 oracle:=Zmu hL
theorem ZjP {r:Option (AV×List AObj×Eff)}(h:isT r=true):∃hp e,r=some (.bool true,hp,e):=by
 unfold isT at h
 split at h
 ·exact ⟨_,_,rfl⟩
 ·cases h
theorem Zln {w:World}(hL:Num.Laid w):Calls Tryz.prog G7 #[] w fun e w'=>e=.returned (.bool true)∧Below w.heap.size w w':=by
 obtain ⟨hp,e,h⟩:=ZjP ZgR
 exact law_of (ZnL hL) h rfl fun j x hx=>by simp at hx
end Go.Proofs.YtbcfddaocfpckaaGreatDoor
end
