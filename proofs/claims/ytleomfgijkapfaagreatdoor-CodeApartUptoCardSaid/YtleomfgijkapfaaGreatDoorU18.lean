import Derived.Test.YtleomfgijkapfaaGreatDoorU17
set_option linter.all false
section
namespace Go.Proofs.YtleomfgijkapfaaGreatDoor
open Go Go.Proofs.YtleomfgijkapfaaGreatDoor.Abs Go.Proofs.YtleomfgijkapfaaGreatDoor.Tl
set_option maxRecDepth 100000
theorem Zkl (s:List UInt8)(l:List (List UInt8)):(l.any fun k=>decide (s=k))=l.contains s:=by
 induction l with
 | nil=>rfl
 | cons x l ih=>rw [List.any_cons,ih,List.contains_cons,Y0]
def ZgM (l:List V5):Nat→Option Int
 | 0=>none
 | i + 1=>l[i]?.map (·.At_)
theorem Zoe (l:List V5)(x:V5)(i:Nat)(hi:i < l.length)(hl:l.length≤4611686018427387):(bif decide ((i:Int) > 0) then bT (ZP l (IntKind.i64.wrap ((i:Int) - 1))) fun y:V5=>some (decide (x.At_≤y.At_)) else some false)=some ((ZgM l i).isSome && decide (x.At_≤(ZgM l i).getD 0)):=by
 cases i with
 | zero=>rfl
 | succ i =>
  rw [show (((i + 1:Nat):Int) - 1)=(i:Int) by omega,wrap_in (by omega) (by omega),Zf]
  have hx:=List.getElem?_eq_getElem (show i < l.length by omega)
  rw [hx,ZgM,hx,show decide (((i + 1:Nat):Int) > 0)=true by simp only [decide_eq_true_eq]; omega]
  rfl
theorem Zfq {α:Type}(p:α→Bool):∀ (l:List α) (i:Int),(l.find? p=none∧IK p l i=-1)∨∃ (k:Nat) (r:α),l.find? p=some r∧IK p l i=i + k∧l[k]? = some r
 | [],i=>.inl ⟨rfl,rfl⟩
 | x :: l,i=>by
  by_cases hx:p x=true
  ·exact .inr ⟨0,x,by simp [hx],by simp [IK,hx],rfl⟩
  ·rw [Bool.not_eq_true] at hx
   rcases Zfq p l (i + 1) with ⟨a,b⟩ | ⟨k,r,a,b,c⟩
   ·exact .inl ⟨by simp [hx,a],by simp [IK,hx,b]⟩
   ·exact .inr ⟨k + 1,r,by simp [hx,a],by simp only [IK,hx,Bool.false_eq_true,if_false,b]; omega,by simpa using c⟩
end Go.Proofs.YtleomfgijkapfaaGreatDoor
end
