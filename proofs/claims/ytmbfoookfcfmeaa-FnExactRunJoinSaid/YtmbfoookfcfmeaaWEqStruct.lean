/-
  Words of the kit that the printed texts of this seat come to; the others left out. Conditions: none.
-/
import Derived.Test.YtmbfoookfcfmeaaWWords
import Derived.Laws.StructEq
/-! ### 53. '==' of structs as_ one Bool -/
namespace Go.Proofs.YtmbfoookfcfmeaaW.PrintWords
open Go.RowKit
section
variable {P : Program} {d : Nat} {xs ys : Array Value} {f : Field} {fs : List Field} {a b : Value} {r s : Bool} {w : World}
end
end Go.Proofs.YtmbfoookfcfmeaaW.PrintWords
