/-
  The card of RecordDecodes: for every input the law returns true, and each argument reads afterwards as it read before.
  Conditions: none beyond those of the given row (the listed variables hold what their initialisers lay).
-/
import Derived.Deep.DeepWitnessRowRef
import Derived.Test.YtdchnngpjjcchaaDoorCards
import Derived.Test.YtdchnngpjjcchaaDoorTie
import Derived.Test.YtdchnngpjjcchaaDoorJ9
set_option linter.all false
section
namespace Go.Proofs.YtdchnngpjjcchaaDoor
namespace clRecordDecodes
open Go.ChangeShapes Go.WideShapes Go.ChangeAt Go.RowKit
open Go.ChangeMaps (open_string shut_string)
set_option maxRecDepth 100000 in
theorem contract (H:Type)(enc:TypeId×Value→H)(W:World)(base:Nat)(args:Array Value)(ds gs:List (DataW H))(before:List MemPlace)
    (hval:∀ (j:Nat) t v,Tryd.f6.params[j]? = some t→args[j]? = some v→Value.okWide Tryd.prog W .any base t v)
    (hW:DataW.Whole enc Tryd.prog Tryd.f6.params.toList Rows.recordDecodesSpec.vars false W args.toList ds gs before)
    (hsz:(DataW.weightsEach Tryd.prog (Tryd.f6.params.toList ++ (OpenSpec.ofChange Rows.recordDecodesSpec).bare.plain.varTypes Tryd.prog) (ds ++ gs)).all (·≤reachBytes)=true) (hL:laidMetH Tryd.prog Rows.recordDecodesRow.laid W) (hS:W.ShapedOpen Tryd.prog) :
    Calls Tryd.prog 6 args W fun e W'=>∃ v,e=.returned v∧Rows.recordDecodesSpec.post enc Tryd.prog Tryd.f6 false true false false W args v W':=by
  have hW':=hW
  obtain ⟨p,q,hA0,hV,rfl,hfz,hnd⟩:=hW
  have hA:DataW.TrodAll enc Tryd.prog W 0 (fun _=>true) true Tryd.f6.params.toList args.toList ds p:=hA0
  rw [Tryd.params6] at hA hval hsz
  obtain ⟨v0,vs0,d0,ds0,p0,q0,hargs,rfl,rfl,h0,r0⟩:=trodAll_cons hA
  obtain ⟨rfl,rfl,rfl⟩:=trodAll_nil r0
  obtain rfl:args=#[v0]:=by cases args; simp_all
  obtain ⟨rfl,rfl⟩:=trodVars_none hV
  have g0:=Abs.sized_arg hsz (j := 0) (t := 34) rfl rfl
  obtain ⟨r0,R0,S0⟩:=Abs.argS_slice (Γ := Abs.still) (fun _=>rfl) Zeo (by kernel_rfl) Tryd.underlying34 (hval 0 34 v0 rfl rfl) h0 g0
  rw [show Tryd.prog.cellsOf 5=1 from by kernel_rfl] at R0 S0
  have F0:=fun (W':World) (hb:Below W.heap.size W W')=>Abs.arg_stays (by kernel_rfl) (by kernel_rfl) (of_decide_eq_true (by kernel_rfl)) h0 hb (fun p hp=>hW'.lt p (by simp [hp]))
  clear hA0
  simp only [List.append_nil] at hW'
  refine (F6 S0 v0 W (cr_of hL hS) R0).mono fun e W' ⟨he,hg⟩=>?_
  subst he
  exact ⟨_,rfl,_,_,_,[],_,[],hW',trodAll_cons_mk (shut_bool Tryd.underlying4 _) trodAll_mk0,(trodAll_cons_mk (F0 W' hg) trodAll_mk0),rfl,hg.frame _,fun h=>by cases h⟩
theorem reads (os:Os){H:Type}(enc:TypeId×Value→H):∃ places,DataW.whole enc Tryd.prog ((laidWorld os).forCall (fun _ _=>0) ⟨#[],#[.slice none 0 0],[]⟩).memory Tryd.f6.params.toList Rows.recordDecodesSpec.vars false #[(Value.slice none 0 0)].toList 8=some ([.nil],[],places) :=
  ⟨[],by kernel_rfl⟩
set_option maxRecDepth 100000 in
theorem lifted (os:Os)(started:os.Started)(H:Type)(enc:TypeId×Value→H)(F:Stop.Interp) :
    ReturnsInHanded {} Tryd.checked os 6 .any ((OpenSpec.ofChange Rows.recordDecodesSpec).preRow enc Tryd.prog Tryd.f6 Rows.recordDecodesRow.domain false Rows.recordDecodesRow.laid) (((OpenSpec.ofChange Rows.recordDecodesSpec).at F).post enc Tryd.prog Tryd.f6 false true false false):=by
  obtain ⟨places,hx⟩:=reads os enc
  refine returnsInHanded_of_row (C := Tryd.checked) (s := OpenSpec.ofChange Rows.recordDecodesSpec) own started (by kernel_rfl) Tryd.func6
    (witness_row_atRef (enc := enc) (C := Tryd.checked) false (laidWorld os) #[.slice none 0 0] rfl (by kernel_rfl) (by kernel_rfl) (by kernel_rfl)
      (OpenSpec.preRow_of_cond 8 hx (by kernel_rfl) (fun k hk=>by cases hk) (by kernel_rfl) (laid_met os _))) ?_
  intro W base args ds gs before hval hW _ _ hsz hL hS _
  exact contract H enc W base args ds gs before hval hW hsz hL hS
theorem said:Rows.RecordDecodesSaid :=
  OpenClaim.holds_of_cond 6 Tryd.f6 rfl rfl rfl rfl rfl rfl rfl ⟨rfl,rfl,rfl,rfl,rfl⟩ rfl rfl rfl rfl rfl (by kernel_rfl) Tryd.func6 (by kernel_rfl)
    (of_decide_eq_true (by kernel_rfl)) (by unfold Func.isWrapper; first | (rw [if_pos (by decide +kernel)]; kernel_rfl) | (rw [if_neg (by decide +kernel)]; exact ⟨rfl,rfl⟩))
    (fun os started H enc _ F=>by rw [OpenClaim.pre_eq_preRow]; exact lifted os started H enc F)
theorem plain (f:FuncId)(fn:Func)(hf:Tryd.pinned.checked.prog.funcNamed Rows.recordDecodesRow.func=some f)(hfn:Tryd.pinned.checked.prog.funcs[f]? = some fn) :
    true=Tryd.pinned.checked.prog.looks []∧∀ (j:Nat) t,fn.params[j]? = some t→Tryd.pinned.checked.prog.wantsStandIn t=false:=by
  obtain rfl:f=6:=Option.some.inj ((show Tryd.prog.funcNamed Rows.recordDecodesRow.func=some 6 by kernel_rfl).symm.trans hf) |>.symm
  obtain rfl:fn=Tryd.f6:=(Option.some.inj (Tryd.func6.symm.trans hfn)).symm
  refine ⟨by kernel_rfl,fun j t ht=>?_⟩
  rw [Tryd.params6] at ht
  have ht':=Array.mem_of_getElem? ht
  simp only [List.mem_toArray,List.mem_cons,List.not_mem_nil,or_false] at ht'
  rcases ht' with rfl
  · exact (show Tryd.prog.wantsStandIn 34=false by kernel_rfl)
theorem card:Rows.RecordDecodesCardSaid :=
  Claim7.holds_tied_plain_at .later [] _ _ _ _ said (fun _ h=>by cases h) (by kernel_rfl) (fun _ h=>by cases h) recordDecodes_row_tie rfl ⟨rfl,rfl⟩ (by kernel_rfl) rfl plain (by kernel_rfl)
end clRecordDecodes
end Go.Proofs.YtdchnngpjjcchaaDoor
end
