/-
  More words of the kit that texts of this seat come to. Conditions: none.
-/
import Derived.Test.YtmbfoookfcfmeaaWMore
set_option linter.unusedVariables false
set_option linter.unusedSimpArgs false
namespace Go.Proofs.YtmbfoookfcfmeaaW.PrintWords
open Go.RowKit
theorem bt_range (s : ByteArray) (i : Int) : 0 ≤ bt s i ∧ bt s i ≤ 255 := by
  unfold bt
  split
  · rename_i h
    have := (s[i.toNat]'h).toNat_lt
    omega
  · omega
end Go.Proofs.YtmbfoookfcfmeaaW.PrintWords
