import Derived.Test.YtbcfddaocfpckaaGreatDoorHSt14
set_option linter.all false
section
namespace Go.Proofs.YtbcfddaocfpckaaGreatDoor
open Go Go.Proofs.YtbcfddaocfpckaaGreatDoor.Abs Go.Proofs.YtbcfddaocfpckaaGreatDoor.Tl
set_option maxRecDepth 100000
theorem Zb8 (s:List UInt8)(l:List (List UInt8)):(l.any fun k=>decide (s=k))=l.contains s:=by
 induction l with
 | nil=>rfl
 | cons x l ih=>rw [List.any_cons,ih,List.contains_cons,Yb]
def CS (l:List Qy):Nat→Option Int
 | 0=>none
 | i + 1=>l[i]?.map (·.At_)
theorem Zdq (l:List Qy)(x:Qy)(i:Nat)(hi:i < l.length)(hl:l.length≤4611686018427387):(bif decide ((i:Int) > 0) then bT (getT l (IntKind.i64.wrap ((i:Int) - 1))) fun y:Qy=>some (decide (x.At_≤y.At_)) else some false)=some ((CS l i).isSome && decide (x.At_≤(CS l i).getD 0)):=by
 cases i with
 | zero=>rfl
 | succ i =>
  rw [show (((i + 1:Nat):Int) - 1)=(i:Int) by omega,wrap_in (by omega) (by omega),Zj]
  have hx:=List.getElem?_eq_getElem (show i < l.length by omega)
  rw [hx,CS,hx,show decide (((i + 1:Nat):Int) > 0)=true by simp only [decide_eq_true_eq]; omega]
  rfl
end Go.Proofs.YtbcfddaocfpckaaGreatDoor
end
