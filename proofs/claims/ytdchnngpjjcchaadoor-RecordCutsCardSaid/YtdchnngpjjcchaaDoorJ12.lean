/-
  The card of RecordCuts: for every input the law returns true, and each argument reads afterwards as it read before.
  Conditions: none beyond those of the given row (the listed variables hold what their initialisers lay).
-/
import Derived.Deep.DeepWitnessRowRef
import Derived.Test.YtdchnngpjjcchaaDoorCards
import Derived.Test.YtdchnngpjjcchaaDoorTie
import Derived.Test.YtdchnngpjjcchaaDoorJ9
set_option linter.all false
section
namespace Go.Proofs.YtdchnngpjjcchaaDoor
namespace clRecordCuts
open Go.ChangeShapes Go.WideShapes Go.ChangeAt Go.RowKit
open Go.ChangeMaps (open_string shut_string)
set_option maxRecDepth 100000 in
theorem contract (H:Type)(enc:TypeId×Value→H)(W:World)(base:Nat)(args:Array Value)(ds gs:List (DataW H))(before:List MemPlace)
    (hval:∀ (j:Nat) t v,Tryd.f7.params[j]? = some t→args[j]? = some v→Value.okWide Tryd.prog W .any base t v)
    (hW:DataW.Whole enc Tryd.prog Tryd.f7.params.toList Rows.recordCutsSpec.vars false W args.toList ds gs before)
    (hsz:(DataW.weightsEach Tryd.prog (Tryd.f7.params.toList ++ (OpenSpec.ofChange Rows.recordCutsSpec).bare.plain.varTypes Tryd.prog) (ds ++ gs)).all (·≤reachBytes)=true) (hL:laidMetH Tryd.prog Rows.recordCutsRow.laid W) (hS:W.ShapedOpen Tryd.prog) :
    Calls Tryd.prog 7 args W fun e W'=>∃ v,e=.returned v∧Rows.recordCutsSpec.post enc Tryd.prog Tryd.f7 false true false false W args v W':=by
  have hW':=hW
  obtain ⟨p,q,hA0,hV,rfl,hfz,hnd⟩:=hW
  have hA:DataW.TrodAll enc Tryd.prog W 0 (fun _=>true) true Tryd.f7.params.toList args.toList ds p:=hA0
  rw [Tryd.params7] at hA hval hsz
  obtain ⟨v0,vs0,d0,ds0,p0,q0,hargs,rfl,rfl,h0,r0⟩:=trodAll_cons hA
  obtain ⟨v1,vs1,d1,ds1,p1,q1,rfl,rfl,rfl,h1,r1⟩:=trodAll_cons r0
  obtain ⟨v2,vs2,d2,ds2,p2,q2,rfl,rfl,rfl,h2,r2⟩:=trodAll_cons r1
  obtain ⟨rfl,rfl,rfl⟩:=trodAll_nil r2
  obtain rfl:args=#[v0,v1,v2]:=by cases args; simp_all
  obtain ⟨rfl,rfl⟩:=trodVars_none hV
  have g0:=Abs.sized_arg hsz (j := 0) (t := 33) rfl rfl
  obtain ⟨r0,R0,S0⟩:=Abs.argS_slice (Γ := Abs.still) (fun _=>rfl) Zeo (by kernel_rfl) Tryd.underlying33 (hval 0 33 v0 rfl rfl) h0 g0
  rw [show Tryd.prog.cellsOf 24=6 from by kernel_rfl] at R0 S0
  have F0:=fun (W':World) (hb:Below W.heap.size W W')=>Abs.arg_stays (by kernel_rfl) (by kernel_rfl) (of_decide_eq_true (by kernel_rfl)) h0 hb (fun p hp=>hW'.lt p (by simp [hp]))
  obtain ⟨x1,rfl,rfl,rfl,w1⟩:=open_int Tryd.underlying42 (hval 1 42 v1 rfl rfl) h1
  have b1:0≤x1∧x1≤65535:=by simpa [Lit.wf,IntKind.min,IntKind.max,IntKind.signed,IntKind.bits] using w1
  have g2:=Abs.sized_arg hsz (j := 2) (t := 34) rfl rfl
  obtain ⟨r2,R2,S2⟩:=Abs.argS_slice (Γ := Abs.still) (fun _=>rfl) Zeo (by kernel_rfl) Tryd.underlying34 (hval 2 34 v2 rfl rfl) h2 g2
  rw [show Tryd.prog.cellsOf 5=1 from by kernel_rfl] at R2 S2
  have F2:=fun (W':World) (hb:Below W.heap.size W W')=>Abs.arg_stays (by kernel_rfl) (by kernel_rfl) (of_decide_eq_true (by kernel_rfl)) h2 hb (fun p hp=>hW'.lt p (by simp [hp]))
  clear hA0
  simp only [List.append_nil] at hW'
  refine (Ze7 S0 S2 x1 b1 v0 v2 W (cr_of hL hS) R0 R2).mono fun e W' ⟨he,hg⟩=>?_
  subst he
  exact ⟨_,rfl,_,_,_,[],_,[],hW',trodAll_cons_mk (shut_bool Tryd.underlying4 _) trodAll_mk0,(trodAll_cons_mk (F0 W' hg) (trodAll_cons_mk (shut_int Tryd.underlying42 w1) (trodAll_cons_mk (F2 W' hg) trodAll_mk0))),rfl,hg.frame _,fun h=>by cases h⟩
theorem reads (os:Os){H:Type}(enc:TypeId×Value→H):∃ places,DataW.whole enc Tryd.prog ((laidWorld os).forCall (fun _ _=>0) ⟨#[],#[.slice none 0 0,.int .u16 0,.slice none 0 0],[]⟩).memory Tryd.f7.params.toList Rows.recordCutsSpec.vars false #[(Value.slice none 0 0),(Value.int .u16 0),(Value.slice none 0 0)].toList 8=some ([.nil,.lit (.int .u16 0),.nil],[],places) :=
  ⟨[],by kernel_rfl⟩
set_option maxRecDepth 100000 in
theorem lifted (os:Os)(started:os.Started)(H:Type)(enc:TypeId×Value→H)(F:Stop.Interp) :
    ReturnsInHanded {} Tryd.checked os 7 .any ((OpenSpec.ofChange Rows.recordCutsSpec).preRow enc Tryd.prog Tryd.f7 Rows.recordCutsRow.domain false Rows.recordCutsRow.laid) (((OpenSpec.ofChange Rows.recordCutsSpec).at F).post enc Tryd.prog Tryd.f7 false true false false):=by
  obtain ⟨places,hx⟩:=reads os enc
  refine returnsInHanded_of_row (C := Tryd.checked) (s := OpenSpec.ofChange Rows.recordCutsSpec) own started (by kernel_rfl) Tryd.func7
    (witness_row_atRef (enc := enc) (C := Tryd.checked) false (laidWorld os) #[.slice none 0 0,.int .u16 0,.slice none 0 0] rfl (by kernel_rfl) (by kernel_rfl) (by kernel_rfl)
      (OpenSpec.preRow_of_cond 8 hx (by kernel_rfl) (fun k hk=>by cases hk) (by kernel_rfl) (laid_met os _))) ?_
  intro W base args ds gs before hval hW _ _ hsz hL hS _
  exact contract H enc W base args ds gs before hval hW hsz hL hS
theorem said:Rows.RecordCutsSaid :=
  OpenClaim.holds_of_cond 7 Tryd.f7 rfl rfl rfl rfl rfl rfl rfl ⟨rfl,rfl,rfl,rfl,rfl⟩ rfl rfl rfl rfl rfl (by kernel_rfl) Tryd.func7 (by kernel_rfl)
    (of_decide_eq_true (by kernel_rfl)) (by unfold Func.isWrapper; first | (rw [if_pos (by decide +kernel)]; kernel_rfl) | (rw [if_neg (by decide +kernel)]; exact ⟨rfl,rfl⟩))
    (fun os started H enc _ F=>by rw [OpenClaim.pre_eq_preRow]; exact lifted os started H enc F)
theorem plain (f:FuncId)(fn:Func)(hf:Tryd.pinned.checked.prog.funcNamed Rows.recordCutsRow.func=some f)(hfn:Tryd.pinned.checked.prog.funcs[f]? = some fn) :
    true=Tryd.pinned.checked.prog.looks []∧∀ (j:Nat) t,fn.params[j]? = some t→Tryd.pinned.checked.prog.wantsStandIn t=false:=by
  obtain rfl:f=7:=Option.some.inj ((show Tryd.prog.funcNamed Rows.recordCutsRow.func=some 7 by kernel_rfl).symm.trans hf) |>.symm
  obtain rfl:fn=Tryd.f7:=(Option.some.inj (Tryd.func7.symm.trans hfn)).symm
  refine ⟨by kernel_rfl,fun j t ht=>?_⟩
  rw [Tryd.params7] at ht
  have ht':=Array.mem_of_getElem? ht
  simp only [List.mem_toArray,List.mem_cons,List.not_mem_nil,or_false] at ht'
  rcases ht' with rfl | rfl | rfl
  · exact (show Tryd.prog.wantsStandIn 33=false by kernel_rfl)
  · exact (show Tryd.prog.wantsStandIn 42=false by kernel_rfl)
  · exact (show Tryd.prog.wantsStandIn 34=false by kernel_rfl)
theorem card:Rows.RecordCutsCardSaid :=
  Claim7.holds_tied_plain_at .later [] _ _ _ _ said (fun _ h=>by cases h) (by kernel_rfl) (fun _ h=>by cases h) recordCuts_row_tie rfl ⟨rfl,rfl⟩ (by kernel_rfl) rfl plain (by kernel_rfl)
end clRecordCuts
end Go.Proofs.YtdchnngpjjcchaaDoor
end
