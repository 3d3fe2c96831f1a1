/-
  Two more comparisons of strings, for the walk: <=, > and >=. No condition.
-/
import Derived.Laws.Strings
import Derived.Sort.Walk0
namespace Go
theorem not_lt_or_eq (a b : List UInt8) : (!(Op.bytesLess a b || a == b)) = Op.bytesLess b a := by
  rw [Proofs.bytesLess_eq, Proofs.bytesLess_eq]
  by_cases h1 : a < b
  · have h2 : ¬ b < a := fun h => List.lt_irrefl a (List.lt_trans h1 h)
    simp [h1, h2]
  · by_cases h3 : a = b
    · subst h3; simp
    · have h4 : b < a := by
        rcases Std.lt_trichotomy a b with h | h | h
        · exact absurd h h1
        · exact absurd h h3
        · exact h
      simp [h1, h3, h4]
@[go_sem] theorem binOp_string_gtr (t : TypeId) (a b : ByteArray) : binOp .gtr t (.string a) (.string b) = pure (.bool (Op.bytesLess b.toList a.toList)) := by
  have : binOp .gtr t (.string a) (.string b) = pure (.bool (!(Op.bytesLess a.toList b.toList || a.toList == b.toList))) := by simp [binOp, Op.stringOp]
  rw [this, not_lt_or_eq]
@[go_sem] theorem binOp_string_geq (t : TypeId) (a b : ByteArray) : binOp .geq t (.string a) (.string b) = pure (.bool !(Op.bytesLess a.toList b.toList)) := by simp [binOp, Op.stringOp]
@[go_sem] theorem binOp_string_leq (t : TypeId) (a b : ByteArray) : binOp .leq t (.string a) (.string b) = pure (.bool !(Op.bytesLess b.toList a.toList)) := by
  have : binOp .leq t (.string a) (.string b) = pure (.bool (Op.bytesLess a.toList b.toList || a.toList == b.toList)) := by simp [binOp, Op.stringOp]
  rw [this, ← not_lt_or_eq a.toList b.toList, Bool.not_not]
end Go
