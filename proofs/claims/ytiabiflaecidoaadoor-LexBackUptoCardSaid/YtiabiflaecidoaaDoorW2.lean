/-
  The contracts of Div, Mod, Gcd, Root of num, and of Div, Mod, Gcd of simulatorref01.
-/
import Derived.Test.YtiabiflaecidoaaDoorW1
import Derived.BigQuiet
import Derived.Lib.Hide
import Derived.Deep.QuietTactic
namespace Go.Proofs.YtiabiflaecidoaaDoor
open Go.RowKit

theorem tests_ne {p : Bool} {x : Int} (h : (x != 0) = true ∧ p = true) : ¬ x = 0 ∧ p = true := ⟨by simpa using h.1, h.2⟩

end Go.Proofs.YtiabiflaecidoaaDoor
