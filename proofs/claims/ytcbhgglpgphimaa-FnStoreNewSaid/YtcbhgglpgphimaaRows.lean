/-
  No cell of these rows narrows 'for every input' (looked for: loops, veiled, ifaces, maps, wideKeys, modest, calm, conditions, laid).
  DERIVED. THE GIVEN ROWS OF THIS SEAT. 10 by the template 'for every input the law returns true; each argument reads behind the call as it read before'; 0 by the template 'total and deterministic' (their statements: YtcbhgglpgphimaaTotals.lean).
  GIVEN WITH THE SEED: the statements are not yours to turn. If you find one false, say at which input.
  Laid BY PROGRAM, IN A SANDBOX (cutbox-rows.mjs): the forced cells as the released guide's own fill.sh prints them over the translation 6d650796aaf5d869… (all of the seat's roots in one cut). By AI agents, Wed Nov 11 2026. No macro, syntax, notation, axiom, sorry.
-/
import Derived.Test.YtcbhgglpgphimaaChecked
import GoSem.Claim
import GoSem.ClaimJoined
import GoSem.ClaimMapViews
import Derived.JoinedTies
import Derived.KernelRfl
namespace Go.Proofs.Ytcbhgglpgphimaa
/- THE CELL 'sum', in the pinned program and in every row, IS THE sha256 OF THE DUMP (.gsa) THAT YtcbhgglpgphimaaProg.lean LOADS. Nothing in Lean hashes anything: it is a label: what it is worth is what the hold of that sum in a sandbox is worth. -/
noncomputable def Try.pinned : Pinned := { name := "ytcbhgglpgphimaa", sum := "6d650796aaf5d869d02c330246eada4a0491302c247ca91a089c15527e4e82ff", checked := Try.checked }
namespace Rows
def none {H : Type} : Left H := { results := [], args := [] }

/-- 'laws.FnExactRunJoin': WHATEVER THE INPUT: true; the input reads as it did. -/
def fnExactRunJoinSpec : ChangeSpec := { name := "fnExactRunJoin", fn := fun _ => fun
  | [d1, d2] => { results := [.lit (.bool true)], args := [d1, d2] }
  | _ => none }
def fnExactRunJoinRow : OpenClaim := { program := "ytcbhgglpgphimaa", sum := "6d650796aaf5d869d02c330246eada4a0491302c247ca91a089c15527e4e82ff", func := "loop.example/temse/laws.FnExactRunJoin", spec := "fnExactRunJoin", unfollowed := true, recurses := true, apart := false }
def FnExactRunJoinSaid : Prop := fnExactRunJoinRow.holds Try.pinned (OpenSpec.ofChange fnExactRunJoinSpec)

/-- ITS FALSE NEIGHBOUR: 'it returns false'. Refute it at one input. -/
def fnExactRunJoinWrong : ChangeSpec := { name := "fnExactRunJoin", fn := fun _ => fun
  | [d1, d2] => { results := [.lit (.bool false)], args := [d1, d2] }
  | _ => none }
def FnExactRunJoinWrongFalsely : Prop := fnExactRunJoinRow.holds Try.pinned (OpenSpec.ofChange fnExactRunJoinWrong)

/-- 'laws.FnExactStoreNew': WHATEVER THE INPUT: true; the input reads as it did. -/
def fnExactStoreNewSpec : ChangeSpec := { name := "fnExactStoreNew", fn := fun _ => fun
  | [d] => { results := [.lit (.bool true)], args := [d] }
  | _ => none }
def fnExactStoreNewRow : OpenClaim := { program := "ytcbhgglpgphimaa", sum := "6d650796aaf5d869d02c330246eada4a0491302c247ca91a089c15527e4e82ff", func := "loop.example/temse/laws.FnExactStoreNew", spec := "fnExactStoreNew", inPlace := ["internal/abi.NoEscape"], apart := false }
def FnExactStoreNewSaid : Prop := fnExactStoreNewRow.holds Try.pinned (OpenSpec.ofChange fnExactStoreNewSpec)

/-- ITS FALSE NEIGHBOUR: 'it returns false'. Refute it at one input. -/
def fnExactStoreNewWrong : ChangeSpec := { name := "fnExactStoreNew", fn := fun _ => fun
  | [d] => { results := [.lit (.bool false)], args := [d] }
  | _ => none }
def FnExactStoreNewWrongFalsely : Prop := fnExactStoreNewRow.holds Try.pinned (OpenSpec.ofChange fnExactStoreNewWrong)

/-- 'laws.FnPastGet': WHATEVER THE INPUT: true; the input reads as it did. -/
def fnPastGetSpec : ChangeSpec := { name := "fnPastGet", fn := fun _ => fun
  | [d] => { results := [.lit (.bool true)], args := [d] }
  | _ => none }
def fnPastGetRow : OpenClaim := { program := "ytcbhgglpgphimaa", sum := "6d650796aaf5d869d02c330246eada4a0491302c247ca91a089c15527e4e82ff", func := "loop.example/temse/laws.FnPastGet", spec := "fnPastGet", recurses := true, apart := false }
def FnPastGetSaid : Prop := fnPastGetRow.holds Try.pinned (OpenSpec.ofChange fnPastGetSpec)

/-- ITS FALSE NEIGHBOUR: 'it returns false'. Refute it at one input. -/
def fnPastGetWrong : ChangeSpec := { name := "fnPastGet", fn := fun _ => fun
  | [d] => { results := [.lit (.bool false)], args := [d] }
  | _ => none }
def FnPastGetWrongFalsely : Prop := fnPastGetRow.holds Try.pinned (OpenSpec.ofChange fnPastGetWrong)

/-- 'laws.FnPastTake': WHATEVER THE INPUT: true; the input reads as it did. -/
def fnPastTakeSpec : ChangeSpec := { name := "fnPastTake", fn := fun _ => fun
  | [d] => { results := [.lit (.bool true)], args := [d] }
  | _ => none }
def fnPastTakeRow : OpenClaim := { program := "ytcbhgglpgphimaa", sum := "6d650796aaf5d869d02c330246eada4a0491302c247ca91a089c15527e4e82ff", func := "loop.example/temse/laws.FnPastTake", spec := "fnPastTake", recurses := true, apart := false }
def FnPastTakeSaid : Prop := fnPastTakeRow.holds Try.pinned (OpenSpec.ofChange fnPastTakeSpec)

/-- ITS FALSE NEIGHBOUR: 'it returns false'. Refute it at one input. -/
def fnPastTakeWrong : ChangeSpec := { name := "fnPastTake", fn := fun _ => fun
  | [d] => { results := [.lit (.bool false)], args := [d] }
  | _ => none }
def FnPastTakeWrongFalsely : Prop := fnPastTakeRow.holds Try.pinned (OpenSpec.ofChange fnPastTakeWrong)

/-- 'laws.FnExactPastList': WHATEVER THE INPUT: true; the input reads as it did. -/
def fnExactPastListSpec : ChangeSpec := { name := "fnExactPastList", fn := fun _ => fun
  | [d1, d2, d3, d4] => { results := [.lit (.bool true)], args := [d1, d2, d3, d4] }
  | _ => none }
def fnExactPastListRow : OpenClaim := { program := "ytcbhgglpgphimaa", sum := "6d650796aaf5d869d02c330246eada4a0491302c247ca91a089c15527e4e82ff", func := "loop.example/temse/laws.FnExactPastList", spec := "fnExactPastList", recurses := true, apart := false }
def FnExactPastListSaid : Prop := fnExactPastListRow.holds Try.pinned (OpenSpec.ofChange fnExactPastListSpec)

/-- ITS FALSE NEIGHBOUR: 'it returns false'. Refute it at one input. -/
def fnExactPastListWrong : ChangeSpec := { name := "fnExactPastList", fn := fun _ => fun
  | [d1, d2, d3, d4] => { results := [.lit (.bool false)], args := [d1, d2, d3, d4] }
  | _ => none }
def FnExactPastListWrongFalsely : Prop := fnExactPastListRow.holds Try.pinned (OpenSpec.ofChange fnExactPastListWrong)

/-- 'laws.FnRunKeys': WHATEVER THE INPUT: true; the input reads as it did. -/
def fnRunKeysSpec : ChangeSpec := { name := "fnRunKeys", fn := fun _ => fun
  | [d] => { results := [.lit (.bool true)], args := [d] }
  | _ => none }
def fnRunKeysRow : OpenClaim := { program := "ytcbhgglpgphimaa", sum := "6d650796aaf5d869d02c330246eada4a0491302c247ca91a089c15527e4e82ff", func := "loop.example/temse/laws.FnRunKeys", spec := "fnRunKeys", recurses := true, apart := false }
def FnRunKeysSaid : Prop := fnRunKeysRow.holds Try.pinned (OpenSpec.ofChange fnRunKeysSpec)

/-- ITS FALSE NEIGHBOUR: 'it returns false'. Refute it at one input. -/
def fnRunKeysWrong : ChangeSpec := { name := "fnRunKeys", fn := fun _ => fun
  | [d] => { results := [.lit (.bool false)], args := [d] }
  | _ => none }
def FnRunKeysWrongFalsely : Prop := fnRunKeysRow.holds Try.pinned (OpenSpec.ofChange fnRunKeysWrong)

/-- 'laws.FnExactStoreOk': WHATEVER THE INPUT: true; the input reads as it did. -/
def fnExactStoreOkSpec : ChangeSpec := { name := "fnExactStoreOk", fn := fun _ => fun
  | [d] => { results := [.lit (.bool true)], args := [d] }
  | _ => none }
def fnExactStoreOkRow : OpenClaim := { program := "ytcbhgglpgphimaa", sum := "6d650796aaf5d869d02c330246eada4a0491302c247ca91a089c15527e4e82ff", func := "loop.example/temse/laws.FnExactStoreOk", spec := "fnExactStoreOk", inPlace := ["internal/abi.NoEscape"], unfollowed := true, recurses := true, apart := false }
def FnExactStoreOkSaid : Prop := fnExactStoreOkRow.holds Try.pinned (OpenSpec.ofChange fnExactStoreOkSpec)

/-- ITS FALSE NEIGHBOUR: 'it returns false'. Refute it at one input. -/
def fnExactStoreOkWrong : ChangeSpec := { name := "fnExactStoreOk", fn := fun _ => fun
  | [d] => { results := [.lit (.bool false)], args := [d] }
  | _ => none }
def FnExactStoreOkWrongFalsely : Prop := fnExactStoreOkRow.holds Try.pinned (OpenSpec.ofChange fnExactStoreOkWrong)

/-- 'laws.FnStoreOk': WHATEVER THE INPUT: true; the input reads as it did. -/
def fnStoreOkSpec : ChangeSpec := { name := "fnStoreOk", fn := fun _ => fun
  | [d] => { results := [.lit (.bool true)], args := [d] }
  | _ => none }
def fnStoreOkRow : OpenClaim := { program := "ytcbhgglpgphimaa", sum := "6d650796aaf5d869d02c330246eada4a0491302c247ca91a089c15527e4e82ff", func := "loop.example/temse/laws.FnStoreOk", spec := "fnStoreOk", inPlace := ["internal/abi.NoEscape"], unfollowed := true, recurses := true, apart := false }
def FnStoreOkSaid : Prop := fnStoreOkRow.holds Try.pinned (OpenSpec.ofChange fnStoreOkSpec)

/-- ITS FALSE NEIGHBOUR: 'it returns false'. Refute it at one input. -/
def fnStoreOkWrong : ChangeSpec := { name := "fnStoreOk", fn := fun _ => fun
  | [d] => { results := [.lit (.bool false)], args := [d] }
  | _ => none }
def FnStoreOkWrongFalsely : Prop := fnStoreOkRow.holds Try.pinned (OpenSpec.ofChange fnStoreOkWrong)

/-- 'laws.FnPastList': WHATEVER THE INPUT: true; the input reads as it did. -/
def fnPastListSpec : ChangeSpec := { name := "fnPastList", fn := fun _ => fun
  | [d] => { results := [.lit (.bool true)], args := [d] }
  | _ => none }
def fnPastListRow : OpenClaim := { program := "ytcbhgglpgphimaa", sum := "6d650796aaf5d869d02c330246eada4a0491302c247ca91a089c15527e4e82ff", func := "loop.example/temse/laws.FnPastList", spec := "fnPastList", recurses := true, apart := false }
def FnPastListSaid : Prop := fnPastListRow.holds Try.pinned (OpenSpec.ofChange fnPastListSpec)

/-- ITS FALSE NEIGHBOUR: 'it returns false'. Refute it at one input. -/
def fnPastListWrong : ChangeSpec := { name := "fnPastList", fn := fun _ => fun
  | [d] => { results := [.lit (.bool false)], args := [d] }
  | _ => none }
def FnPastListWrongFalsely : Prop := fnPastListRow.holds Try.pinned (OpenSpec.ofChange fnPastListWrong)

/-- 'laws.FnStoreNew': WHATEVER THE INPUT: true; the input reads as it did. -/
def fnStoreNewSpec : ChangeSpec := { name := "fnStoreNew", fn := fun _ => fun
  | [d] => { results := [.lit (.bool true)], args := [d] }
  | _ => none }
def fnStoreNewRow : OpenClaim := { program := "ytcbhgglpgphimaa", sum := "6d650796aaf5d869d02c330246eada4a0491302c247ca91a089c15527e4e82ff", func := "loop.example/temse/laws.FnStoreNew", spec := "fnStoreNew", inPlace := ["internal/abi.NoEscape", "internal/bytealg.CountString", "internal/bytealg.IndexByteString", "internal/bytealg.IndexString"], unfollowed := true, recurses := true, named := ["internal/bytealg.MaxLen"], apart := false }
def FnStoreNewSaid : Prop := fnStoreNewRow.holds Try.pinned (OpenSpec.ofChange fnStoreNewSpec)

/-- ITS FALSE NEIGHBOUR: 'it returns false'. Refute it at one input. -/
def fnStoreNewWrong : ChangeSpec := { name := "fnStoreNew", fn := fun _ => fun
  | [d] => { results := [.lit (.bool false)], args := [d] }
  | _ => none }
def FnStoreNewWrongFalsely : Prop := fnStoreNewRow.holds Try.pinned (OpenSpec.ofChange fnStoreNewWrong)

/- THE SECOND FORM. 'bulk': how many values and letters a reading holds, each counted each time it is reached (what is shared counts as often as it is met; a slice's spare places count too). A statement '..UptoSaid' is the law's where the arguments, and the package variables that the reading takes, are together of bulk at most 1048576: NARROWER than '..Said'. Prove '..Said' where nothing that the law and all that it calls make is longer than what came in: it says more and counts as full. Else prove '..UptoSaid'. A law counts once. -/
mutual
def uptoBulk {H : Type} : DataW H → Nat
  | .lit (.string bytes) => bytes.length + 1
  | .lit _ => 1
  | .nil => 1
  | .ptr d => uptoBulk d + 1
  | .slice elems spare => uptoBulkAll elems + uptoBulkAll spare + 1
  | .agg parts => uptoBulkAll parts + 1
  | .iface _ d => uptoBulk d + 1
  | .map entries => uptoBulkEntries entries + 1
  | .held _ => 1
def uptoBulkAll {H : Type} : List (DataW H) → Nat
  | [] => 0
  | d :: r => uptoBulk d + uptoBulkAll r
def uptoBulkEntries {H : Type} : List (Lit × DataW H) → Nat
  | [] => 0
  | x :: r => uptoBulkEntry x + uptoBulkEntries r
def uptoBulkEntry {H : Type} : Lit × DataW H → Nat
  | (.string bytes, d) => bytes.length + uptoBulk d + 1
  | (_, d) => uptoBulk d + 1
 end
def uptoSmall : (H : Type) → List (DataW H) → Bool := fun _ ds => decide (uptoBulkAll ds ≤ 1048576)
def OpenSpec.upto (s : _root_.Go.ChangeSpec) : _root_.Go.OpenSpec := { _root_.Go.OpenSpec.ofChange s with cond := some uptoSmall }

/-- 'laws.FnExactRunJoin', WHERE WHAT IT READS IS OF BULK AT MOST 1048576: true; the input reads as it did. -/
def fnExactRunJoinUptoRow : OpenClaim := { program := "ytcbhgglpgphimaa", sum := "6d650796aaf5d869d02c330246eada4a0491302c247ca91a089c15527e4e82ff", func := "loop.example/temse/laws.FnExactRunJoin", spec := "fnExactRunJoin", unfollowed := true, recurses := true, apart := false, narrowed := true }
def FnExactRunJoinUptoSaid : Prop := fnExactRunJoinUptoRow.holds Try.pinned (OpenSpec.upto fnExactRunJoinSpec)

/-- 'laws.FnExactStoreNew', WHERE WHAT IT READS IS OF BULK AT MOST 1048576: true; the input reads as it did. -/
def fnExactStoreNewUptoRow : OpenClaim := { program := "ytcbhgglpgphimaa", sum := "6d650796aaf5d869d02c330246eada4a0491302c247ca91a089c15527e4e82ff", func := "loop.example/temse/laws.FnExactStoreNew", spec := "fnExactStoreNew", inPlace := ["internal/abi.NoEscape"], apart := false, narrowed := true }
def FnExactStoreNewUptoSaid : Prop := fnExactStoreNewUptoRow.holds Try.pinned (OpenSpec.upto fnExactStoreNewSpec)

/-- 'laws.FnPastGet', WHERE WHAT IT READS IS OF BULK AT MOST 1048576: true; the input reads as it did. -/
def fnPastGetUptoRow : OpenClaim := { program := "ytcbhgglpgphimaa", sum := "6d650796aaf5d869d02c330246eada4a0491302c247ca91a089c15527e4e82ff", func := "loop.example/temse/laws.FnPastGet", spec := "fnPastGet", recurses := true, apart := false, narrowed := true }
def FnPastGetUptoSaid : Prop := fnPastGetUptoRow.holds Try.pinned (OpenSpec.upto fnPastGetSpec)

/-- 'laws.FnPastTake', WHERE WHAT IT READS IS OF BULK AT MOST 1048576: true; the input reads as it did. -/
def fnPastTakeUptoRow : OpenClaim := { program := "ytcbhgglpgphimaa", sum := "6d650796aaf5d869d02c330246eada4a0491302c247ca91a089c15527e4e82ff", func := "loop.example/temse/laws.FnPastTake", spec := "fnPastTake", recurses := true, apart := false, narrowed := true }
def FnPastTakeUptoSaid : Prop := fnPastTakeUptoRow.holds Try.pinned (OpenSpec.upto fnPastTakeSpec)

/-- 'laws.FnExactPastList', WHERE WHAT IT READS IS OF BULK AT MOST 1048576: true; the input reads as it did. -/
def fnExactPastListUptoRow : OpenClaim := { program := "ytcbhgglpgphimaa", sum := "6d650796aaf5d869d02c330246eada4a0491302c247ca91a089c15527e4e82ff", func := "loop.example/temse/laws.FnExactPastList", spec := "fnExactPastList", recurses := true, apart := false, narrowed := true }
def FnExactPastListUptoSaid : Prop := fnExactPastListUptoRow.holds Try.pinned (OpenSpec.upto fnExactPastListSpec)

/-- 'laws.FnRunKeys', WHERE WHAT IT READS IS OF BULK AT MOST 1048576: true; the input reads as it did. -/
def fnRunKeysUptoRow : OpenClaim := { program := "ytcbhgglpgphimaa", sum := "6d650796aaf5d869d02c330246eada4a0491302c247ca91a089c15527e4e82ff", func := "loop.example/temse/laws.FnRunKeys", spec := "fnRunKeys", recurses := true, apart := false, narrowed := true }
def FnRunKeysUptoSaid : Prop := fnRunKeysUptoRow.holds Try.pinned (OpenSpec.upto fnRunKeysSpec)

/-- 'laws.FnExactStoreOk', WHERE WHAT IT READS IS OF BULK AT MOST 1048576: true; the input reads as it did. -/
def fnExactStoreOkUptoRow : OpenClaim := { program := "ytcbhgglpgphimaa", sum := "6d650796aaf5d869d02c330246eada4a0491302c247ca91a089c15527e4e82ff", func := "loop.example/temse/laws.FnExactStoreOk", spec := "fnExactStoreOk", inPlace := ["internal/abi.NoEscape"], unfollowed := true, recurses := true, apart := false, narrowed := true }
def FnExactStoreOkUptoSaid : Prop := fnExactStoreOkUptoRow.holds Try.pinned (OpenSpec.upto fnExactStoreOkSpec)

/-- 'laws.FnStoreOk', WHERE WHAT IT READS IS OF BULK AT MOST 1048576: true; the input reads as it did. -/
def fnStoreOkUptoRow : OpenClaim := { program := "ytcbhgglpgphimaa", sum := "6d650796aaf5d869d02c330246eada4a0491302c247ca91a089c15527e4e82ff", func := "loop.example/temse/laws.FnStoreOk", spec := "fnStoreOk", inPlace := ["internal/abi.NoEscape"], unfollowed := true, recurses := true, apart := false, narrowed := true }
def FnStoreOkUptoSaid : Prop := fnStoreOkUptoRow.holds Try.pinned (OpenSpec.upto fnStoreOkSpec)

/-- 'laws.FnPastList', WHERE WHAT IT READS IS OF BULK AT MOST 1048576: true; the input reads as it did. -/
def fnPastListUptoRow : OpenClaim := { program := "ytcbhgglpgphimaa", sum := "6d650796aaf5d869d02c330246eada4a0491302c247ca91a089c15527e4e82ff", func := "loop.example/temse/laws.FnPastList", spec := "fnPastList", recurses := true, apart := false, narrowed := true }
def FnPastListUptoSaid : Prop := fnPastListUptoRow.holds Try.pinned (OpenSpec.upto fnPastListSpec)

/-- 'laws.FnStoreNew', WHERE WHAT IT READS IS OF BULK AT MOST 1048576: true; the input reads as it did. -/
def fnStoreNewUptoRow : OpenClaim := { program := "ytcbhgglpgphimaa", sum := "6d650796aaf5d869d02c330246eada4a0491302c247ca91a089c15527e4e82ff", func := "loop.example/temse/laws.FnStoreNew", spec := "fnStoreNew", inPlace := ["internal/abi.NoEscape", "internal/bytealg.CountString", "internal/bytealg.IndexByteString", "internal/bytealg.IndexString"], unfollowed := true, recurses := true, named := ["internal/bytealg.MaxLen"], apart := false, narrowed := true }
def FnStoreNewUptoSaid : Prop := fnStoreNewUptoRow.holds Try.pinned (OpenSpec.upto fnStoreNewSpec)

end Rows
end Go.Proofs.Ytcbhgglpgphimaa
