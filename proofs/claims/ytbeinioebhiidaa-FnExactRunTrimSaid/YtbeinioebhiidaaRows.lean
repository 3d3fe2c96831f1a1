/-
  No cell of these rows narrows 'for every input' (looked for: loops, veiled, ifaces, maps, wideKeys, modest, calm, conditions, laid).
  DERIVED. THE GIVEN ROWS OF THIS SEAT. 6 by the template 'for every input the law returns true; each argument reads behind the call as it read before'; 0 by the template 'total and deterministic' (their statements: YtbeinioebhiidaaTotals.lean).
  GIVEN WITH THE SEED: the statements are not yours to turn. If you find one false, say at which input.
  Laid BY PROGRAM, IN A SANDBOX (cutbox-rows.mjs): the forced cells as the released guide's own fill.sh prints them over the translation 76fb959d07b6a261… (all of the seat's roots in one cut). By AI agents, Wed Nov 11 2026. No macro, syntax, notation, axiom, sorry.
-/
import Derived.Test.YtbeinioebhiidaaChecked
import GoSem.Claim
import GoSem.ClaimJoined
import GoSem.ClaimMapViews
import Derived.JoinedTies
import Derived.KernelRfl
namespace Go.Proofs.Ytbeinioebhiidaa
/- THE CELL 'sum', in the pinned program and in every row, IS THE sha256 OF THE DUMP (.gsa) THAT YtbeinioebhiidaaProg.lean LOADS. Nothing in Lean hashes anything: it is a label: what it is worth is what the hold of that sum in a sandbox is worth. -/
noncomputable def Try.pinned : Pinned := { name := "ytbeinioebhiidaa", sum := "76fb959d07b6a261cb53058185ff9d9e957a6a4691e47fc7308aee2fbd3f53e1", checked := Try.checked }
namespace Rows
def none {H : Type} : Left H := { results := [], args := [] }

/-- 'laws.FnExactPastGet': WHATEVER THE INPUT: true; the input reads as it did. -/
def fnExactPastGetSpec : ChangeSpec := { name := "fnExactPastGet", fn := fun _ => fun
  | [d1, d2, d3] => { results := [.lit (.bool true)], args := [d1, d2, d3] }
  | _ => none }
def fnExactPastGetRow : OpenClaim := { program := "ytbeinioebhiidaa", sum := "76fb959d07b6a261cb53058185ff9d9e957a6a4691e47fc7308aee2fbd3f53e1", func := "loop.example/temse/laws.FnExactPastGet", spec := "fnExactPastGet", apart := false }
def FnExactPastGetSaid : Prop := fnExactPastGetRow.holds Try.pinned (OpenSpec.ofChange fnExactPastGetSpec)

/-- ITS FALSE NEIGHBOUR: 'it returns false'. Refute it at one input. -/
def fnExactPastGetWrong : ChangeSpec := { name := "fnExactPastGet", fn := fun _ => fun
  | [d1, d2, d3] => { results := [.lit (.bool false)], args := [d1, d2, d3] }
  | _ => none }
def FnExactPastGetWrongFalsely : Prop := fnExactPastGetRow.holds Try.pinned (OpenSpec.ofChange fnExactPastGetWrong)

/-- 'laws.FnExactRunOk': WHATEVER THE INPUT: true; the input reads as it did. -/
def fnExactRunOkSpec : ChangeSpec := { name := "fnExactRunOk", fn := fun _ => fun
  | [d] => { results := [.lit (.bool true)], args := [d] }
  | _ => none }
def fnExactRunOkRow : OpenClaim := { program := "ytbeinioebhiidaa", sum := "76fb959d07b6a261cb53058185ff9d9e957a6a4691e47fc7308aee2fbd3f53e1", func := "loop.example/temse/laws.FnExactRunOk", spec := "fnExactRunOk", apart := false }
def FnExactRunOkSaid : Prop := fnExactRunOkRow.holds Try.pinned (OpenSpec.ofChange fnExactRunOkSpec)

/-- ITS FALSE NEIGHBOUR: 'it returns false'. Refute it at one input. -/
def fnExactRunOkWrong : ChangeSpec := { name := "fnExactRunOk", fn := fun _ => fun
  | [d] => { results := [.lit (.bool false)], args := [d] }
  | _ => none }
def FnExactRunOkWrongFalsely : Prop := fnExactRunOkRow.holds Try.pinned (OpenSpec.ofChange fnExactRunOkWrong)

/-- 'laws.FnExactRunAt': WHATEVER THE INPUT: true; the input reads as it did. -/
def fnExactRunAtSpec : ChangeSpec := { name := "fnExactRunAt", fn := fun _ => fun
  | [d1, d2, d3] => { results := [.lit (.bool true)], args := [d1, d2, d3] }
  | _ => none }
def fnExactRunAtRow : OpenClaim := { program := "ytbeinioebhiidaa", sum := "76fb959d07b6a261cb53058185ff9d9e957a6a4691e47fc7308aee2fbd3f53e1", func := "loop.example/temse/laws.FnExactRunAt", spec := "fnExactRunAt", apart := false }
def FnExactRunAtSaid : Prop := fnExactRunAtRow.holds Try.pinned (OpenSpec.ofChange fnExactRunAtSpec)

/-- ITS FALSE NEIGHBOUR: 'it returns false'. Refute it at one input. -/
def fnExactRunAtWrong : ChangeSpec := { name := "fnExactRunAt", fn := fun _ => fun
  | [d1, d2, d3] => { results := [.lit (.bool false)], args := [d1, d2, d3] }
  | _ => none }
def FnExactRunAtWrongFalsely : Prop := fnExactRunAtRow.holds Try.pinned (OpenSpec.ofChange fnExactRunAtWrong)

/-- 'laws.FnExactRunKeys': WHATEVER THE INPUT: true; the input reads as it did. -/
def fnExactRunKeysSpec : ChangeSpec := { name := "fnExactRunKeys", fn := fun _ => fun
  | [d] => { results := [.lit (.bool true)], args := [d] }
  | _ => none }
def fnExactRunKeysRow : OpenClaim := { program := "ytbeinioebhiidaa", sum := "76fb959d07b6a261cb53058185ff9d9e957a6a4691e47fc7308aee2fbd3f53e1", func := "loop.example/temse/laws.FnExactRunKeys", spec := "fnExactRunKeys", apart := false }
def FnExactRunKeysSaid : Prop := fnExactRunKeysRow.holds Try.pinned (OpenSpec.ofChange fnExactRunKeysSpec)

/-- ITS FALSE NEIGHBOUR: 'it returns false'. Refute it at one input. -/
def fnExactRunKeysWrong : ChangeSpec := { name := "fnExactRunKeys", fn := fun _ => fun
  | [d] => { results := [.lit (.bool false)], args := [d] }
  | _ => none }
def FnExactRunKeysWrongFalsely : Prop := fnExactRunKeysRow.holds Try.pinned (OpenSpec.ofChange fnExactRunKeysWrong)

/-- 'laws.FnExactRunList': WHATEVER THE INPUT: true; the input reads as it did. -/
def fnExactRunListSpec : ChangeSpec := { name := "fnExactRunList", fn := fun _ => fun
  | [d1, d2, d3, d4] => { results := [.lit (.bool true)], args := [d1, d2, d3, d4] }
  | _ => none }
def fnExactRunListRow : OpenClaim := { program := "ytbeinioebhiidaa", sum := "76fb959d07b6a261cb53058185ff9d9e957a6a4691e47fc7308aee2fbd3f53e1", func := "loop.example/temse/laws.FnExactRunList", spec := "fnExactRunList", apart := false }
def FnExactRunListSaid : Prop := fnExactRunListRow.holds Try.pinned (OpenSpec.ofChange fnExactRunListSpec)

/-- ITS FALSE NEIGHBOUR: 'it returns false'. Refute it at one input. -/
def fnExactRunListWrong : ChangeSpec := { name := "fnExactRunList", fn := fun _ => fun
  | [d1, d2, d3, d4] => { results := [.lit (.bool false)], args := [d1, d2, d3, d4] }
  | _ => none }
def FnExactRunListWrongFalsely : Prop := fnExactRunListRow.holds Try.pinned (OpenSpec.ofChange fnExactRunListWrong)

/-- 'laws.FnExactRunTrim': WHATEVER THE INPUT: true; the input reads as it did. -/
def fnExactRunTrimSpec : ChangeSpec := { name := "fnExactRunTrim", fn := fun _ => fun
  | [d1, d2, d3] => { results := [.lit (.bool true)], args := [d1, d2, d3] }
  | _ => none }
def fnExactRunTrimRow : OpenClaim := { program := "ytbeinioebhiidaa", sum := "76fb959d07b6a261cb53058185ff9d9e957a6a4691e47fc7308aee2fbd3f53e1", func := "loop.example/temse/laws.FnExactRunTrim", spec := "fnExactRunTrim", unfollowed := true, recurses := true, apart := false }
def FnExactRunTrimSaid : Prop := fnExactRunTrimRow.holds Try.pinned (OpenSpec.ofChange fnExactRunTrimSpec)

/-- ITS FALSE NEIGHBOUR: 'it returns false'. Refute it at one input. -/
def fnExactRunTrimWrong : ChangeSpec := { name := "fnExactRunTrim", fn := fun _ => fun
  | [d1, d2, d3] => { results := [.lit (.bool false)], args := [d1, d2, d3] }
  | _ => none }
def FnExactRunTrimWrongFalsely : Prop := fnExactRunTrimRow.holds Try.pinned (OpenSpec.ofChange fnExactRunTrimWrong)

/- THE SECOND FORM. 'bulk': how many values and letters a reading holds, each counted each time it is reached (what is shared counts as often as it is met; a slice's spare places count too). A statement '..UptoSaid' is the law's where the arguments, and the package variables that the reading takes, are together of bulk at most 1048576: NARROWER than '..Said'. Prove '..Said' where nothing that the law and all that it calls make is longer than what came in: it says more and counts as full. Else prove '..UptoSaid'. A law counts once. -/
mutual
def uptoBulk {H : Type} : DataW H → Nat
  | .lit (.string bytes) => bytes.length + 1
  | .lit _ => 1
  | .nil => 1
  | .ptr d => uptoBulk d + 1
  | .slice elems spare => uptoBulkAll elems + uptoBulkAll spare + 1
  | .agg parts => uptoBulkAll parts + 1
  | .iface _ d => uptoBulk d + 1
  | .map entries => uptoBulkEntries entries + 1
  | .held _ => 1
def uptoBulkAll {H : Type} : List (DataW H) → Nat
  | [] => 0
  | d :: r => uptoBulk d + uptoBulkAll r
def uptoBulkEntries {H : Type} : List (Lit × DataW H) → Nat
  | [] => 0
  | x :: r => uptoBulkEntry x + uptoBulkEntries r
def uptoBulkEntry {H : Type} : Lit × DataW H → Nat
  | (.string bytes, d) => bytes.length + uptoBulk d + 1
  | (_, d) => uptoBulk d + 1
 end
def uptoSmall : (H : Type) → List (DataW H) → Bool := fun _ ds => decide (uptoBulkAll ds ≤ 1048576)
def OpenSpec.upto (s : _root_.Go.ChangeSpec) : _root_.Go.OpenSpec := { _root_.Go.OpenSpec.ofChange s with cond := some uptoSmall }

/-- 'laws.FnExactPastGet', WHERE WHAT IT READS IS OF BULK AT MOST 1048576: true; the input reads as it did. -/
def fnExactPastGetUptoRow : OpenClaim := { program := "ytbeinioebhiidaa", sum := "76fb959d07b6a261cb53058185ff9d9e957a6a4691e47fc7308aee2fbd3f53e1", func := "loop.example/temse/laws.FnExactPastGet", spec := "fnExactPastGet", apart := false, narrowed := true }
def FnExactPastGetUptoSaid : Prop := fnExactPastGetUptoRow.holds Try.pinned (OpenSpec.upto fnExactPastGetSpec)

/-- 'laws.FnExactRunOk', WHERE WHAT IT READS IS OF BULK AT MOST 1048576: true; the input reads as it did. -/
def fnExactRunOkUptoRow : OpenClaim := { program := "ytbeinioebhiidaa", sum := "76fb959d07b6a261cb53058185ff9d9e957a6a4691e47fc7308aee2fbd3f53e1", func := "loop.example/temse/laws.FnExactRunOk", spec := "fnExactRunOk", apart := false, narrowed := true }
def FnExactRunOkUptoSaid : Prop := fnExactRunOkUptoRow.holds Try.pinned (OpenSpec.upto fnExactRunOkSpec)

/-- 'laws.FnExactRunAt', WHERE WHAT IT READS IS OF BULK AT MOST 1048576: true; the input reads as it did. -/
def fnExactRunAtUptoRow : OpenClaim := { program := "ytbeinioebhiidaa", sum := "76fb959d07b6a261cb53058185ff9d9e957a6a4691e47fc7308aee2fbd3f53e1", func := "loop.example/temse/laws.FnExactRunAt", spec := "fnExactRunAt", apart := false, narrowed := true }
def FnExactRunAtUptoSaid : Prop := fnExactRunAtUptoRow.holds Try.pinned (OpenSpec.upto fnExactRunAtSpec)

/-- 'laws.FnExactRunKeys', WHERE WHAT IT READS IS OF BULK AT MOST 1048576: true; the input reads as it did. -/
def fnExactRunKeysUptoRow : OpenClaim := { program := "ytbeinioebhiidaa", sum := "76fb959d07b6a261cb53058185ff9d9e957a6a4691e47fc7308aee2fbd3f53e1", func := "loop.example/temse/laws.FnExactRunKeys", spec := "fnExactRunKeys", apart := false, narrowed := true }
def FnExactRunKeysUptoSaid : Prop := fnExactRunKeysUptoRow.holds Try.pinned (OpenSpec.upto fnExactRunKeysSpec)

/-- 'laws.FnExactRunList', WHERE WHAT IT READS IS OF BULK AT MOST 1048576: true; the input reads as it did. -/
def fnExactRunListUptoRow : OpenClaim := { program := "ytbeinioebhiidaa", sum := "76fb959d07b6a261cb53058185ff9d9e957a6a4691e47fc7308aee2fbd3f53e1", func := "loop.example/temse/laws.FnExactRunList", spec := "fnExactRunList", apart := false, narrowed := true }
def FnExactRunListUptoSaid : Prop := fnExactRunListUptoRow.holds Try.pinned (OpenSpec.upto fnExactRunListSpec)

/-- 'laws.FnExactRunTrim', WHERE WHAT IT READS IS OF BULK AT MOST 1048576: true; the input reads as it did. -/
def fnExactRunTrimUptoRow : OpenClaim := { program := "ytbeinioebhiidaa", sum := "76fb959d07b6a261cb53058185ff9d9e957a6a4691e47fc7308aee2fbd3f53e1", func := "loop.example/temse/laws.FnExactRunTrim", spec := "fnExactRunTrim", unfollowed := true, recurses := true, apart := false, narrowed := true }
def FnExactRunTrimUptoSaid : Prop := fnExactRunTrimUptoRow.holds Try.pinned (OpenSpec.upto fnExactRunTrimSpec)

end Rows
end Go.Proofs.Ytbeinioebhiidaa
