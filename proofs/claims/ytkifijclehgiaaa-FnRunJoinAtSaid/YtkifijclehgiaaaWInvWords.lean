/-
 Words of the kit that the printed texts of this seat come to;the others left out. Conditions: none.
-/
import Derived.Test.YtkifijclehgiaaaWInv
import Derived.Test.YtkifijclehgiaaaWFootNe
namespace Go.Proofs.YtkifijclehgiaaaW.PrintWords
open Go.RowKit
end Go.Proofs.YtkifijclehgiaaaW.PrintWords
namespace Go.Proofs.YtkifijclehgiaaaW.PrintLast
section
variable {ops : Array Oper} {a : Act} {o og : Oper} {g : Nat} {t : Tmp} {u : Bool}
end
end Go.Proofs.YtkifijclehgiaaaW.PrintLast
