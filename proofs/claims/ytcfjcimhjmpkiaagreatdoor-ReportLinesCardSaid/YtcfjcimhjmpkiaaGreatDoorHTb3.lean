import Derived.Test.YtcfjcimhjmpkiaaGreatDoorHTb2
set_option linter.all false
section
namespace Go.Proofs.YtcfjcimhjmpkiaaGreatDoor.Abs
open Go Go.RowKit
def AV.apart:AV→Bool
 | .agg cs=>cs.all AV.noId1
 | v=>v.noId1
theorem Rep.still' {Γ:Ghost}{w:World}{x:AV}{v:Value}(h:Rep Γ w x v)(hx:x.apart=true):Rep still w x v:=by
 have hf:FixMono Γ w still w:=fun b o v _ h2=>⟨trivial,h2⟩
 cases h with
 | agg cells cv hs h1 hn hr =>
  simp only [AV.apart,List.all_eq_true] at hx
  exact .agg cells cv hs h1 hn fun j c hc=>(hr j c hc).noId hf (hx c (List.mem_of_getElem? hc))
 | undef=>cases hx
 | tup=>cases hx
 | arr=>cases hx
 | arrs=>cases hx
 | ptr=>cases hx
 | map=>cases hx
 | bool b=>exact .bool b
 | int k n=>exact .int k n
 | str s=>exact .str s
 | nilp=>exact .nilp
 | nilf=>exact .nilf
 | nilm=>exact .nilm
 | nili=>exact .nili
 | nils k=>exact .nils k
 | lstNil k=>exact .lstNil k
 | lstE k A cap=>exact .lstE k A cap
 | lst k rows b o cap cv hlen hk hc hr=>exact (Rep.lst k rows b o cap cv hlen hk hc hr).noId hf rfl
 | own k rows v h=>exact (Rep.own k rows v h).noId hf rfl
 | ref cells b o cv hc hr=>exact (Rep.ref cells b o cv hc hr).noId hf rfl
 | fn f fst caps fv cv hs1 hr1 hs hr=>exact (Rep.fn f fst caps fv cv hs1 hr1 hs hr).noId hf hx
theorem Ti {P:Program}{W:World}{C:Cfg}(h:CfgOk P W C){n:Nat}{f:FuncId}{avs:List AV}{v:AV}{hp:List AObj}{e:Eff}(hev:evalCall C n f avs []=some (v,hp,e))(hv:v.flat1=true){args:Array Value}
  (hs:args.size=avs.length) (hr:∀ (j:Nat) (x:AV),avs[j]? = some x→Rep still W x (args.getD j Go.undef)∧∀ k r,x≠.own k r) :
  Calls P f args W fun e W'=>∃ cv,e=.returned cv∧Below W.heap.size W W'∧Rep still W' v cv:=by
 obtain ⟨_,hw⟩:=evalCall_ok h n f avs [] _ _ _ hev still W args (rw_start W) tidy_start hs fun j x hx=>⟨(hr j x hx).1,.of_ne (hr j x hx).2⟩
 refine hw.mono fun en W' ⟨cv,hv',Γ',r1,r2,_,r4,_⟩=>?_
 subst hv'
 exact ⟨cv,rfl,⟨r4.os,r4.tape,r4.output,r4.size,fun b hb=>(r4.keep b hb trivial).2⟩,flat1_rep r2 hv⟩
def allEq {α:Type}(f:α→α→Bool):List α→List α→Bool
 | [],[]=>true
 | a :: l,b :: m=>f a b && allEq f l m
 | _,_=>false
theorem X3 {α:Type}{f:α→α→Bool}(hf:∀ a b,f a b=true→a=b):∀ {l m:List α},allEq f l m=true→l=m
 | [],[],_=>rfl
 | a :: l,b :: m,h=>by
  simp only [allEq,Bool.and_eq_true] at h
  rw [hf a b h.1,X3 hf h.2]
 | [],_ :: _,h=>by cases h
 | _ :: _,[],h=>by cases h
def Nq:Nat→AV→AV→Bool
 | n + 1,.str a,.str b=>a == b
 | n + 1,.int k a,.int l b=>decide (k=l) && decide (a=b)
 | n + 1,.bool a,.bool b=>a == b
 | n + 1,.lst k r,.lst l q=>k == l && allEq (allEq (Nq n)) r q
 | n + 1,.agg r,.agg q=>allEq (Nq n) r q
 | _,_,_=>false
theorem MS:∀ (n:Nat) (a b:AV),Nq n a b=true→a=b:=by
 intro n
 induction n with
 | zero=>intro a b h; unfold Nq at h; cases h
 | succ n ih =>
  intro a b h
  cases a <;> cases b <;> simp only [Nq,Bool.false_eq_true,Bool.and_eq_true,decide_eq_true_eq,beq_iff_eq] at h
  case bool.bool=>rw [h]
  case int.int=>rw [h.1,h.2]
  case str.str=>rw [h]
  case lst.lst=>rw [h.1,X3 (fun x y hxy=>X3 ih hxy) h.2]
  case agg.agg=>rw [X3 ih h]
end Go.Proofs.YtcfjcimhjmpkiaaGreatDoor.Abs
end
