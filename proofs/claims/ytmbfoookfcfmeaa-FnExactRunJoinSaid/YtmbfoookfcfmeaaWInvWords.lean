/-
  Words of the kit that the printed texts of this seat come to; the others left out. Conditions: none.
-/
import Derived.Test.YtmbfoookfcfmeaaWInv
import Derived.Test.YtmbfoookfcfmeaaWFootNe
namespace Go.Proofs.YtmbfoookfcfmeaaW.PrintWords
open Go.RowKit
end Go.Proofs.YtmbfoookfcfmeaaW.PrintWords
namespace Go.Proofs.YtmbfoookfcfmeaaW.PrintLast
section
variable {ops : Array Oper} {a : Act} {o og : Oper} {g : Nat} {t : Tmp} {u : Bool}
end
end Go.Proofs.YtmbfoookfcfmeaaW.PrintLast
