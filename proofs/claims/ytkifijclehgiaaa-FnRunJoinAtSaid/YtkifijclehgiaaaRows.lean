/-
  No cell of these rows narrows 'for every input' (looked for: loops, veiled, ifaces, maps, wideKeys, modest, calm, conditions, laid).
  DERIVED. THE GIVEN ROWS OF THIS SEAT. 12 by the template 'for every input the law returns true; each argument reads behind the call as it read before'; 0 by the template 'total and deterministic' (their statements: YtkifijclehgiaaaTotals.lean).
  GIVEN WITH THE SEED: the statements are not yours to turn. If you find one false, say at which input.
  Laid BY PROGRAM, IN A SANDBOX (cutbox-rows.mjs): the forced cells as the released guide's own fill.sh prints them over the translation e9960a408907ae63… (all of the seat's roots in one cut). By AI agents, Wed Nov 11 2026. No macro, syntax, notation, axiom, sorry.
-/
import Derived.Test.YtkifijclehgiaaaChecked
import GoSem.Claim
import GoSem.ClaimJoined
import GoSem.ClaimMapViews
import Derived.JoinedTies
import Derived.KernelRfl
namespace Go.Proofs.Ytkifijclehgiaaa
/- THE CELL 'sum', in the pinned program and in every row, IS THE sha256 OF THE DUMP (.gsa) THAT YtkifijclehgiaaaProg.lean LOADS. Nothing in Lean hashes anything: it is a label: what it is worth is what the hold of that sum in a sandbox is worth. -/
noncomputable def Try.pinned : Pinned := { name := "ytkifijclehgiaaa", sum := "e9960a408907ae6379d1dab2ccf93b734c97dc74dfed4138d6755a25ce0bfe0d", checked := Try.checked }
namespace Rows
def none {H : Type} : Left H := { results := [], args := [] }

/-- 'laws.FnRunAt': WHATEVER THE INPUT: true; the input reads as it did. -/
def fnRunAtSpec : ChangeSpec := { name := "fnRunAt", fn := fun _ => fun
  | [d] => { results := [.lit (.bool true)], args := [d] }
  | _ => none }
def fnRunAtRow : OpenClaim := { program := "ytkifijclehgiaaa", sum := "e9960a408907ae6379d1dab2ccf93b734c97dc74dfed4138d6755a25ce0bfe0d", func := "loop.example/temse/laws.FnRunAt", spec := "fnRunAt", apart := false }
def FnRunAtSaid : Prop := fnRunAtRow.holds Try.pinned (OpenSpec.ofChange fnRunAtSpec)

/-- ITS FALSE NEIGHBOUR: 'it returns false'. Refute it at one input. -/
def fnRunAtWrong : ChangeSpec := { name := "fnRunAt", fn := fun _ => fun
  | [d] => { results := [.lit (.bool false)], args := [d] }
  | _ => none }
def FnRunAtWrongFalsely : Prop := fnRunAtRow.holds Try.pinned (OpenSpec.ofChange fnRunAtWrong)

/-- 'laws.FnRunAtMore': WHATEVER THE INPUT: true; the input reads as it did. -/
def fnRunAtMoreSpec : ChangeSpec := { name := "fnRunAtMore", fn := fun _ => fun
  | [d1, d2] => { results := [.lit (.bool true)], args := [d1, d2] }
  | _ => none }
def fnRunAtMoreRow : OpenClaim := { program := "ytkifijclehgiaaa", sum := "e9960a408907ae6379d1dab2ccf93b734c97dc74dfed4138d6755a25ce0bfe0d", func := "loop.example/temse/laws.FnRunAtMore", spec := "fnRunAtMore", apart := false }
def FnRunAtMoreSaid : Prop := fnRunAtMoreRow.holds Try.pinned (OpenSpec.ofChange fnRunAtMoreSpec)

/-- ITS FALSE NEIGHBOUR: 'it returns false'. Refute it at one input. -/
def fnRunAtMoreWrong : ChangeSpec := { name := "fnRunAtMore", fn := fun _ => fun
  | [d1, d2] => { results := [.lit (.bool false)], args := [d1, d2] }
  | _ => none }
def FnRunAtMoreWrongFalsely : Prop := fnRunAtMoreRow.holds Try.pinned (OpenSpec.ofChange fnRunAtMoreWrong)

/-- 'laws.FnRunListTime': WHATEVER THE INPUT: true; the input reads as it did. -/
def fnRunListTimeSpec : ChangeSpec := { name := "fnRunListTime", fn := fun _ => fun
  | [d] => { results := [.lit (.bool true)], args := [d] }
  | _ => none }
def fnRunListTimeRow : OpenClaim := { program := "ytkifijclehgiaaa", sum := "e9960a408907ae6379d1dab2ccf93b734c97dc74dfed4138d6755a25ce0bfe0d", func := "loop.example/temse/laws.FnRunListTime", spec := "fnRunListTime", apart := false }
def FnRunListTimeSaid : Prop := fnRunListTimeRow.holds Try.pinned (OpenSpec.ofChange fnRunListTimeSpec)

/-- ITS FALSE NEIGHBOUR: 'it returns false'. Refute it at one input. -/
def fnRunListTimeWrong : ChangeSpec := { name := "fnRunListTime", fn := fun _ => fun
  | [d] => { results := [.lit (.bool false)], args := [d] }
  | _ => none }
def FnRunListTimeWrongFalsely : Prop := fnRunListTimeRow.holds Try.pinned (OpenSpec.ofChange fnRunListTimeWrong)

/-- 'laws.FnRunListCut': WHATEVER THE INPUT: true; the input reads as it did. -/
def fnRunListCutSpec : ChangeSpec := { name := "fnRunListCut", fn := fun _ => fun
  | [d1, d2] => { results := [.lit (.bool true)], args := [d1, d2] }
  | _ => none }
def fnRunListCutRow : OpenClaim := { program := "ytkifijclehgiaaa", sum := "e9960a408907ae6379d1dab2ccf93b734c97dc74dfed4138d6755a25ce0bfe0d", func := "loop.example/temse/laws.FnRunListCut", spec := "fnRunListCut", apart := false }
def FnRunListCutSaid : Prop := fnRunListCutRow.holds Try.pinned (OpenSpec.ofChange fnRunListCutSpec)

/-- ITS FALSE NEIGHBOUR: 'it returns false'. Refute it at one input. -/
def fnRunListCutWrong : ChangeSpec := { name := "fnRunListCut", fn := fun _ => fun
  | [d1, d2] => { results := [.lit (.bool false)], args := [d1, d2] }
  | _ => none }
def FnRunListCutWrongFalsely : Prop := fnRunListCutRow.holds Try.pinned (OpenSpec.ofChange fnRunListCutWrong)

/-- 'laws.FnRunList': WHATEVER THE INPUT: true; the input reads as it did. -/
def fnRunListSpec : ChangeSpec := { name := "fnRunList", fn := fun _ => fun
  | [d] => { results := [.lit (.bool true)], args := [d] }
  | _ => none }
def fnRunListRow : OpenClaim := { program := "ytkifijclehgiaaa", sum := "e9960a408907ae6379d1dab2ccf93b734c97dc74dfed4138d6755a25ce0bfe0d", func := "loop.example/temse/laws.FnRunList", spec := "fnRunList", apart := false }
def FnRunListSaid : Prop := fnRunListRow.holds Try.pinned (OpenSpec.ofChange fnRunListSpec)

/-- ITS FALSE NEIGHBOUR: 'it returns false'. Refute it at one input. -/
def fnRunListWrong : ChangeSpec := { name := "fnRunList", fn := fun _ => fun
  | [d] => { results := [.lit (.bool false)], args := [d] }
  | _ => none }
def FnRunListWrongFalsely : Prop := fnRunListRow.holds Try.pinned (OpenSpec.ofChange fnRunListWrong)

/-- 'laws.FnRunTrimTwice': WHATEVER THE INPUT: true; the input reads as it did. -/
def fnRunTrimTwiceSpec : ChangeSpec := { name := "fnRunTrimTwice", fn := fun _ => fun
  | [d] => { results := [.lit (.bool true)], args := [d] }
  | _ => none }
def fnRunTrimTwiceRow : OpenClaim := { program := "ytkifijclehgiaaa", sum := "e9960a408907ae6379d1dab2ccf93b734c97dc74dfed4138d6755a25ce0bfe0d", func := "loop.example/temse/laws.FnRunTrimTwice", spec := "fnRunTrimTwice", unfollowed := true, recurses := true, apart := false }
def FnRunTrimTwiceSaid : Prop := fnRunTrimTwiceRow.holds Try.pinned (OpenSpec.ofChange fnRunTrimTwiceSpec)

/-- ITS FALSE NEIGHBOUR: 'it returns false'. Refute it at one input. -/
def fnRunTrimTwiceWrong : ChangeSpec := { name := "fnRunTrimTwice", fn := fun _ => fun
  | [d] => { results := [.lit (.bool false)], args := [d] }
  | _ => none }
def FnRunTrimTwiceWrongFalsely : Prop := fnRunTrimTwiceRow.holds Try.pinned (OpenSpec.ofChange fnRunTrimTwiceWrong)

/-- 'laws.FnRunTrim': WHATEVER THE INPUT: true; the input reads as it did. -/
def fnRunTrimSpec : ChangeSpec := { name := "fnRunTrim", fn := fun _ => fun
  | [d] => { results := [.lit (.bool true)], args := [d] }
  | _ => none }
def fnRunTrimRow : OpenClaim := { program := "ytkifijclehgiaaa", sum := "e9960a408907ae6379d1dab2ccf93b734c97dc74dfed4138d6755a25ce0bfe0d", func := "loop.example/temse/laws.FnRunTrim", spec := "fnRunTrim", unfollowed := true, recurses := true, apart := false }
def FnRunTrimSaid : Prop := fnRunTrimRow.holds Try.pinned (OpenSpec.ofChange fnRunTrimSpec)

/-- ITS FALSE NEIGHBOUR: 'it returns false'. Refute it at one input. -/
def fnRunTrimWrong : ChangeSpec := { name := "fnRunTrim", fn := fun _ => fun
  | [d] => { results := [.lit (.bool false)], args := [d] }
  | _ => none }
def FnRunTrimWrongFalsely : Prop := fnRunTrimRow.holds Try.pinned (OpenSpec.ofChange fnRunTrimWrong)

/-- 'laws.FnRunTrimTop': WHATEVER THE INPUT: true; the input reads as it did. -/
def fnRunTrimTopSpec : ChangeSpec := { name := "fnRunTrimTop", fn := fun _ => fun
  | [d] => { results := [.lit (.bool true)], args := [d] }
  | _ => none }
def fnRunTrimTopRow : OpenClaim := { program := "ytkifijclehgiaaa", sum := "e9960a408907ae6379d1dab2ccf93b734c97dc74dfed4138d6755a25ce0bfe0d", func := "loop.example/temse/laws.FnRunTrimTop", spec := "fnRunTrimTop", unfollowed := true, recurses := true, apart := false }
def FnRunTrimTopSaid : Prop := fnRunTrimTopRow.holds Try.pinned (OpenSpec.ofChange fnRunTrimTopSpec)

/-- ITS FALSE NEIGHBOUR: 'it returns false'. Refute it at one input. -/
def fnRunTrimTopWrong : ChangeSpec := { name := "fnRunTrimTop", fn := fun _ => fun
  | [d] => { results := [.lit (.bool false)], args := [d] }
  | _ => none }
def FnRunTrimTopWrongFalsely : Prop := fnRunTrimTopRow.holds Try.pinned (OpenSpec.ofChange fnRunTrimTopWrong)

/-- 'laws.FnRunOk': WHATEVER THE INPUT: true; the input reads as it did. -/
def fnRunOkSpec : ChangeSpec := { name := "fnRunOk", fn := fun _ => fun
  | [d1, d2] => { results := [.lit (.bool true)], args := [d1, d2] }
  | _ => none }
def fnRunOkRow : OpenClaim := { program := "ytkifijclehgiaaa", sum := "e9960a408907ae6379d1dab2ccf93b734c97dc74dfed4138d6755a25ce0bfe0d", func := "loop.example/temse/laws.FnRunOk", spec := "fnRunOk", unfollowed := true, recurses := true, apart := false }
def FnRunOkSaid : Prop := fnRunOkRow.holds Try.pinned (OpenSpec.ofChange fnRunOkSpec)

/-- ITS FALSE NEIGHBOUR: 'it returns false'. Refute it at one input. -/
def fnRunOkWrong : ChangeSpec := { name := "fnRunOk", fn := fun _ => fun
  | [d1, d2] => { results := [.lit (.bool false)], args := [d1, d2] }
  | _ => none }
def FnRunOkWrongFalsely : Prop := fnRunOkRow.holds Try.pinned (OpenSpec.ofChange fnRunOkWrong)

/-- 'laws.FnRunJoin': WHATEVER THE INPUT: true; the input reads as it did. -/
def fnRunJoinSpec : ChangeSpec := { name := "fnRunJoin", fn := fun _ => fun
  | [d] => { results := [.lit (.bool true)], args := [d] }
  | _ => none }
def fnRunJoinRow : OpenClaim := { program := "ytkifijclehgiaaa", sum := "e9960a408907ae6379d1dab2ccf93b734c97dc74dfed4138d6755a25ce0bfe0d", func := "loop.example/temse/laws.FnRunJoin", spec := "fnRunJoin", unfollowed := true, recurses := true, apart := false }
def FnRunJoinSaid : Prop := fnRunJoinRow.holds Try.pinned (OpenSpec.ofChange fnRunJoinSpec)

/-- ITS FALSE NEIGHBOUR: 'it returns false'. Refute it at one input. -/
def fnRunJoinWrong : ChangeSpec := { name := "fnRunJoin", fn := fun _ => fun
  | [d] => { results := [.lit (.bool false)], args := [d] }
  | _ => none }
def FnRunJoinWrongFalsely : Prop := fnRunJoinRow.holds Try.pinned (OpenSpec.ofChange fnRunJoinWrong)

/-- 'laws.FnRunJoinThree': WHATEVER THE INPUT: true; the input reads as it did. -/
def fnRunJoinThreeSpec : ChangeSpec := { name := "fnRunJoinThree", fn := fun _ => fun
  | [d1, d2] => { results := [.lit (.bool true)], args := [d1, d2] }
  | _ => none }
def fnRunJoinThreeRow : OpenClaim := { program := "ytkifijclehgiaaa", sum := "e9960a408907ae6379d1dab2ccf93b734c97dc74dfed4138d6755a25ce0bfe0d", func := "loop.example/temse/laws.FnRunJoinThree", spec := "fnRunJoinThree", unfollowed := true, recurses := true, apart := false }
def FnRunJoinThreeSaid : Prop := fnRunJoinThreeRow.holds Try.pinned (OpenSpec.ofChange fnRunJoinThreeSpec)

/-- ITS FALSE NEIGHBOUR: 'it returns false'. Refute it at one input. -/
def fnRunJoinThreeWrong : ChangeSpec := { name := "fnRunJoinThree", fn := fun _ => fun
  | [d1, d2] => { results := [.lit (.bool false)], args := [d1, d2] }
  | _ => none }
def FnRunJoinThreeWrongFalsely : Prop := fnRunJoinThreeRow.holds Try.pinned (OpenSpec.ofChange fnRunJoinThreeWrong)

/-- 'laws.FnRunJoinAt': WHATEVER THE INPUT: true; the input reads as it did. -/
def fnRunJoinAtSpec : ChangeSpec := { name := "fnRunJoinAt", fn := fun _ => fun
  | [d1, d2] => { results := [.lit (.bool true)], args := [d1, d2] }
  | _ => none }
def fnRunJoinAtRow : OpenClaim := { program := "ytkifijclehgiaaa", sum := "e9960a408907ae6379d1dab2ccf93b734c97dc74dfed4138d6755a25ce0bfe0d", func := "loop.example/temse/laws.FnRunJoinAt", spec := "fnRunJoinAt", unfollowed := true, recurses := true, apart := false }
def FnRunJoinAtSaid : Prop := fnRunJoinAtRow.holds Try.pinned (OpenSpec.ofChange fnRunJoinAtSpec)

/-- ITS FALSE NEIGHBOUR: 'it returns false'. Refute it at one input. -/
def fnRunJoinAtWrong : ChangeSpec := { name := "fnRunJoinAt", fn := fun _ => fun
  | [d1, d2] => { results := [.lit (.bool false)], args := [d1, d2] }
  | _ => none }
def FnRunJoinAtWrongFalsely : Prop := fnRunJoinAtRow.holds Try.pinned (OpenSpec.ofChange fnRunJoinAtWrong)

/- THE SECOND FORM. 'bulk': how many values and letters a reading holds, each counted each time it is reached (what is shared counts as often as it is met; a slice's spare places count too). A statement '..UptoSaid' is the law's where the arguments, and the package variables that the reading takes, are together of bulk at most 1048576: NARROWER than '..Said'. Prove '..Said' where nothing that the law and all that it calls make is longer than what came in: it says more and counts as full. Else prove '..UptoSaid'. A law counts once. -/
mutual
def uptoBulk {H : Type} : DataW H → Nat
  | .lit (.string bytes) => bytes.length + 1
  | .lit _ => 1
  | .nil => 1
  | .ptr d => uptoBulk d + 1
  | .slice elems spare => uptoBulkAll elems + uptoBulkAll spare + 1
  | .agg parts => uptoBulkAll parts + 1
  | .iface _ d => uptoBulk d + 1
  | .map entries => uptoBulkEntries entries + 1
  | .held _ => 1
def uptoBulkAll {H : Type} : List (DataW H) → Nat
  | [] => 0
  | d :: r => uptoBulk d + uptoBulkAll r
def uptoBulkEntries {H : Type} : List (Lit × DataW H) → Nat
  | [] => 0
  | x :: r => uptoBulkEntry x + uptoBulkEntries r
def uptoBulkEntry {H : Type} : Lit × DataW H → Nat
  | (.string bytes, d) => bytes.length + uptoBulk d + 1
  | (_, d) => uptoBulk d + 1
 end
def uptoSmall : (H : Type) → List (DataW H) → Bool := fun _ ds => decide (uptoBulkAll ds ≤ 1048576)
def OpenSpec.upto (s : _root_.Go.ChangeSpec) : _root_.Go.OpenSpec := { _root_.Go.OpenSpec.ofChange s with cond := some uptoSmall }

/-- 'laws.FnRunAt', WHERE WHAT IT READS IS OF BULK AT MOST 1048576: true; the input reads as it did. -/
def fnRunAtUptoRow : OpenClaim := { program := "ytkifijclehgiaaa", sum := "e9960a408907ae6379d1dab2ccf93b734c97dc74dfed4138d6755a25ce0bfe0d", func := "loop.example/temse/laws.FnRunAt", spec := "fnRunAt", apart := false, narrowed := true }
def FnRunAtUptoSaid : Prop := fnRunAtUptoRow.holds Try.pinned (OpenSpec.upto fnRunAtSpec)

/-- 'laws.FnRunAtMore', WHERE WHAT IT READS IS OF BULK AT MOST 1048576: true; the input reads as it did. -/
def fnRunAtMoreUptoRow : OpenClaim := { program := "ytkifijclehgiaaa", sum := "e9960a408907ae6379d1dab2ccf93b734c97dc74dfed4138d6755a25ce0bfe0d", func := "loop.example/temse/laws.FnRunAtMore", spec := "fnRunAtMore", apart := false, narrowed := true }
def FnRunAtMoreUptoSaid : Prop := fnRunAtMoreUptoRow.holds Try.pinned (OpenSpec.upto fnRunAtMoreSpec)

/-- 'laws.FnRunListTime', WHERE WHAT IT READS IS OF BULK AT MOST 1048576: true; the input reads as it did. -/
def fnRunListTimeUptoRow : OpenClaim := { program := "ytkifijclehgiaaa", sum := "e9960a408907ae6379d1dab2ccf93b734c97dc74dfed4138d6755a25ce0bfe0d", func := "loop.example/temse/laws.FnRunListTime", spec := "fnRunListTime", apart := false, narrowed := true }
def FnRunListTimeUptoSaid : Prop := fnRunListTimeUptoRow.holds Try.pinned (OpenSpec.upto fnRunListTimeSpec)

/-- 'laws.FnRunListCut', WHERE WHAT IT READS IS OF BULK AT MOST 1048576: true; the input reads as it did. -/
def fnRunListCutUptoRow : OpenClaim := { program := "ytkifijclehgiaaa", sum := "e9960a408907ae6379d1dab2ccf93b734c97dc74dfed4138d6755a25ce0bfe0d", func := "loop.example/temse/laws.FnRunListCut", spec := "fnRunListCut", apart := false, narrowed := true }
def FnRunListCutUptoSaid : Prop := fnRunListCutUptoRow.holds Try.pinned (OpenSpec.upto fnRunListCutSpec)

/-- 'laws.FnRunList', WHERE WHAT IT READS IS OF BULK AT MOST 1048576: true; the input reads as it did. -/
def fnRunListUptoRow : OpenClaim := { program := "ytkifijclehgiaaa", sum := "e9960a408907ae6379d1dab2ccf93b734c97dc74dfed4138d6755a25ce0bfe0d", func := "loop.example/temse/laws.FnRunList", spec := "fnRunList", apart := false, narrowed := true }
def FnRunListUptoSaid : Prop := fnRunListUptoRow.holds Try.pinned (OpenSpec.upto fnRunListSpec)

/-- 'laws.FnRunTrimTwice', WHERE WHAT IT READS IS OF BULK AT MOST 1048576: true; the input reads as it did. -/
def fnRunTrimTwiceUptoRow : OpenClaim := { program := "ytkifijclehgiaaa", sum := "e9960a408907ae6379d1dab2ccf93b734c97dc74dfed4138d6755a25ce0bfe0d", func := "loop.example/temse/laws.FnRunTrimTwice", spec := "fnRunTrimTwice", unfollowed := true, recurses := true, apart := false, narrowed := true }
def FnRunTrimTwiceUptoSaid : Prop := fnRunTrimTwiceUptoRow.holds Try.pinned (OpenSpec.upto fnRunTrimTwiceSpec)

/-- 'laws.FnRunTrim', WHERE WHAT IT READS IS OF BULK AT MOST 1048576: true; the input reads as it did. -/
def fnRunTrimUptoRow : OpenClaim := { program := "ytkifijclehgiaaa", sum := "e9960a408907ae6379d1dab2ccf93b734c97dc74dfed4138d6755a25ce0bfe0d", func := "loop.example/temse/laws.FnRunTrim", spec := "fnRunTrim", unfollowed := true, recurses := true, apart := false, narrowed := true }
def FnRunTrimUptoSaid : Prop := fnRunTrimUptoRow.holds Try.pinned (OpenSpec.upto fnRunTrimSpec)

/-- 'laws.FnRunTrimTop', WHERE WHAT IT READS IS OF BULK AT MOST 1048576: true; the input reads as it did. -/
def fnRunTrimTopUptoRow : OpenClaim := { program := "ytkifijclehgiaaa", sum := "e9960a408907ae6379d1dab2ccf93b734c97dc74dfed4138d6755a25ce0bfe0d", func := "loop.example/temse/laws.FnRunTrimTop", spec := "fnRunTrimTop", unfollowed := true, recurses := true, apart := false, narrowed := true }
def FnRunTrimTopUptoSaid : Prop := fnRunTrimTopUptoRow.holds Try.pinned (OpenSpec.upto fnRunTrimTopSpec)

/-- 'laws.FnRunOk', WHERE WHAT IT READS IS OF BULK AT MOST 1048576: true; the input reads as it did. -/
def fnRunOkUptoRow : OpenClaim := { program := "ytkifijclehgiaaa", sum := "e9960a408907ae6379d1dab2ccf93b734c97dc74dfed4138d6755a25ce0bfe0d", func := "loop.example/temse/laws.FnRunOk", spec := "fnRunOk", unfollowed := true, recurses := true, apart := false, narrowed := true }
def FnRunOkUptoSaid : Prop := fnRunOkUptoRow.holds Try.pinned (OpenSpec.upto fnRunOkSpec)

/-- 'laws.FnRunJoin', WHERE WHAT IT READS IS OF BULK AT MOST 1048576: true; the input reads as it did. -/
def fnRunJoinUptoRow : OpenClaim := { program := "ytkifijclehgiaaa", sum := "e9960a408907ae6379d1dab2ccf93b734c97dc74dfed4138d6755a25ce0bfe0d", func := "loop.example/temse/laws.FnRunJoin", spec := "fnRunJoin", unfollowed := true, recurses := true, apart := false, narrowed := true }
def FnRunJoinUptoSaid : Prop := fnRunJoinUptoRow.holds Try.pinned (OpenSpec.upto fnRunJoinSpec)

/-- 'laws.FnRunJoinThree', WHERE WHAT IT READS IS OF BULK AT MOST 1048576: true; the input reads as it did. -/
def fnRunJoinThreeUptoRow : OpenClaim := { program := "ytkifijclehgiaaa", sum := "e9960a408907ae6379d1dab2ccf93b734c97dc74dfed4138d6755a25ce0bfe0d", func := "loop.example/temse/laws.FnRunJoinThree", spec := "fnRunJoinThree", unfollowed := true, recurses := true, apart := false, narrowed := true }
def FnRunJoinThreeUptoSaid : Prop := fnRunJoinThreeUptoRow.holds Try.pinned (OpenSpec.upto fnRunJoinThreeSpec)

/-- 'laws.FnRunJoinAt', WHERE WHAT IT READS IS OF BULK AT MOST 1048576: true; the input reads as it did. -/
def fnRunJoinAtUptoRow : OpenClaim := { program := "ytkifijclehgiaaa", sum := "e9960a408907ae6379d1dab2ccf93b734c97dc74dfed4138d6755a25ce0bfe0d", func := "loop.example/temse/laws.FnRunJoinAt", spec := "fnRunJoinAt", unfollowed := true, recurses := true, apart := false, narrowed := true }
def FnRunJoinAtUptoSaid : Prop := fnRunJoinAtUptoRow.holds Try.pinned (OpenSpec.upto fnRunJoinAtSpec)

end Rows
end Go.Proofs.Ytkifijclehgiaaa
