/-
  No cell of these rows narrows 'for every input' (looked for: loops, veiled, ifaces, maps, wideKeys, modest, calm, conditions, laid).
  DERIVED. THE GIVEN ROWS OF THIS SEAT. 5 by the template 'for every input the law returns true; each argument reads behind the call as it read before'; 0 by the template 'total and deterministic' (their statements: YtimkdclalajadaaGreatTotals.lean).
  GIVEN WITH THE SEED: the statements are not yours to turn. If you find one false, say at which input.
  Laid BY PROGRAM, IN A SANDBOX (cutbox-rows.mjs): the forced cells as the released guide's own fill.sh prints them over the translation 14f6e8fe5924bf55… (all of the seat's roots in one cut). By AI agents, Wed Nov 11 2026. No macro, syntax, notation, axiom, sorry.
-/
import Derived.Test.YtimkdclalajadaaGreatChecked
import GoSem.Claim
import GoSem.ClaimJoined
import GoSem.ClaimMapViews
import Derived.JoinedTies
import Derived.KernelRfl
namespace Go.Proofs.YtimkdclalajadaaGreat
/- THE CELL 'sum', in the pinned program and in every row, IS THE sha256 OF THE DUMP (.gsa) THAT YtimkdclalajadaaGreatProg.lean LOADS. Nothing in Lean hashes anything: it is a label: what it is worth is what the hold of that sum in a sandbox is worth. -/
noncomputable def Tryz.pinned : Pinned := { name := "ytimkdclalajadaagreat", sum := "14f6e8fe5924bf55dd39ed453d57d01e3ce05b23b7169040484a1413c40ed166", checked := Tryz.checked }
namespace Rows
def none {H : Type} : Left H := { results := [], args := [] }

/-- 'laws.FnExactStorePut': WHATEVER THE INPUT: true; the input reads as it did. -/
def fnExactStorePutSpec : ChangeSpec := { name := "fnExactStorePut", fn := fun _ => fun
  | [d1, d2, d3] => { results := [.lit (.bool true)], args := [d1, d2, d3] }
  | _ => none }
def fnExactStorePutRow : OpenClaim := { program := "ytimkdclalajadaagreat", sum := "14f6e8fe5924bf55dd39ed453d57d01e3ce05b23b7169040484a1413c40ed166", func := "loop.example/temse/laws.FnExactStorePut", spec := "fnExactStorePut", inPlace := ["internal/abi.NoEscape"], unfollowed := true, recurses := true, apart := false }
def FnExactStorePutSaid : Prop := fnExactStorePutRow.holds Tryz.pinned (OpenSpec.ofChange fnExactStorePutSpec)

/-- ITS FALSE NEIGHBOUR: 'it returns false'. Refute it at one input. -/
def fnExactStorePutWrong : ChangeSpec := { name := "fnExactStorePut", fn := fun _ => fun
  | [d1, d2, d3] => { results := [.lit (.bool false)], args := [d1, d2, d3] }
  | _ => none }
def FnExactStorePutWrongFalsely : Prop := fnExactStorePutRow.holds Tryz.pinned (OpenSpec.ofChange fnExactStorePutWrong)

/-- 'laws.FnExactStoreTake': WHATEVER THE INPUT: true; the input reads as it did. -/
def fnExactStoreTakeSpec : ChangeSpec := { name := "fnExactStoreTake", fn := fun _ => fun
  | [d1, d2] => { results := [.lit (.bool true)], args := [d1, d2] }
  | _ => none }
def fnExactStoreTakeRow : OpenClaim := { program := "ytimkdclalajadaagreat", sum := "14f6e8fe5924bf55dd39ed453d57d01e3ce05b23b7169040484a1413c40ed166", func := "loop.example/temse/laws.FnExactStoreTake", spec := "fnExactStoreTake", inPlace := ["internal/abi.NoEscape"], unfollowed := true, recurses := true, apart := false }
def FnExactStoreTakeSaid : Prop := fnExactStoreTakeRow.holds Tryz.pinned (OpenSpec.ofChange fnExactStoreTakeSpec)

/-- ITS FALSE NEIGHBOUR: 'it returns false'. Refute it at one input. -/
def fnExactStoreTakeWrong : ChangeSpec := { name := "fnExactStoreTake", fn := fun _ => fun
  | [d1, d2] => { results := [.lit (.bool false)], args := [d1, d2] }
  | _ => none }
def FnExactStoreTakeWrongFalsely : Prop := fnExactStoreTakeRow.holds Tryz.pinned (OpenSpec.ofChange fnExactStoreTakeWrong)

/-- 'laws.FnExactStoreDown': WHATEVER THE INPUT: true; the input reads as it did. -/
def fnExactStoreDownSpec : ChangeSpec := { name := "fnExactStoreDown", fn := fun _ => fun
  | [d] => { results := [.lit (.bool true)], args := [d] }
  | _ => none }
def fnExactStoreDownRow : OpenClaim := { program := "ytimkdclalajadaagreat", sum := "14f6e8fe5924bf55dd39ed453d57d01e3ce05b23b7169040484a1413c40ed166", func := "loop.example/temse/laws.FnExactStoreDown", spec := "fnExactStoreDown", inPlace := ["internal/abi.NoEscape"], unfollowed := true, recurses := true, apart := false }
def FnExactStoreDownSaid : Prop := fnExactStoreDownRow.holds Tryz.pinned (OpenSpec.ofChange fnExactStoreDownSpec)

/-- ITS FALSE NEIGHBOUR: 'it returns false'. Refute it at one input. -/
def fnExactStoreDownWrong : ChangeSpec := { name := "fnExactStoreDown", fn := fun _ => fun
  | [d] => { results := [.lit (.bool false)], args := [d] }
  | _ => none }
def FnExactStoreDownWrongFalsely : Prop := fnExactStoreDownRow.holds Tryz.pinned (OpenSpec.ofChange fnExactStoreDownWrong)

/-- 'laws.FnExactStoreJoin': WHATEVER THE INPUT: true; the input reads as it did. -/
def fnExactStoreJoinSpec : ChangeSpec := { name := "fnExactStoreJoin", fn := fun _ => fun
  | [d1, d2] => { results := [.lit (.bool true)], args := [d1, d2] }
  | _ => none }
def fnExactStoreJoinRow : OpenClaim := { program := "ytimkdclalajadaagreat", sum := "14f6e8fe5924bf55dd39ed453d57d01e3ce05b23b7169040484a1413c40ed166", func := "loop.example/temse/laws.FnExactStoreJoin", spec := "fnExactStoreJoin", inPlace := ["internal/abi.NoEscape"], unfollowed := true, recurses := true, apart := false }
def FnExactStoreJoinSaid : Prop := fnExactStoreJoinRow.holds Tryz.pinned (OpenSpec.ofChange fnExactStoreJoinSpec)

/-- ITS FALSE NEIGHBOUR: 'it returns false'. Refute it at one input. -/
def fnExactStoreJoinWrong : ChangeSpec := { name := "fnExactStoreJoin", fn := fun _ => fun
  | [d1, d2] => { results := [.lit (.bool false)], args := [d1, d2] }
  | _ => none }
def FnExactStoreJoinWrongFalsely : Prop := fnExactStoreJoinRow.holds Tryz.pinned (OpenSpec.ofChange fnExactStoreJoinWrong)

/-- 'laws.FnExactStoreList': WHATEVER THE INPUT: true; the input reads as it did. -/
def fnExactStoreListSpec : ChangeSpec := { name := "fnExactStoreList", fn := fun _ => fun
  | [d1, d2, d3, d4] => { results := [.lit (.bool true)], args := [d1, d2, d3, d4] }
  | _ => none }
def fnExactStoreListRow : OpenClaim := { program := "ytimkdclalajadaagreat", sum := "14f6e8fe5924bf55dd39ed453d57d01e3ce05b23b7169040484a1413c40ed166", func := "loop.example/temse/laws.FnExactStoreList", spec := "fnExactStoreList", inPlace := ["internal/abi.NoEscape", "internal/bytealg.CountString", "internal/bytealg.IndexByteString", "internal/bytealg.IndexString"], unfollowed := true, recurses := true, named := ["internal/bytealg.MaxLen"], apart := false }
def FnExactStoreListSaid : Prop := fnExactStoreListRow.holds Tryz.pinned (OpenSpec.ofChange fnExactStoreListSpec)

/-- ITS FALSE NEIGHBOUR: 'it returns false'. Refute it at one input. -/
def fnExactStoreListWrong : ChangeSpec := { name := "fnExactStoreList", fn := fun _ => fun
  | [d1, d2, d3, d4] => { results := [.lit (.bool false)], args := [d1, d2, d3, d4] }
  | _ => none }
def FnExactStoreListWrongFalsely : Prop := fnExactStoreListRow.holds Tryz.pinned (OpenSpec.ofChange fnExactStoreListWrong)

/- THE SECOND FORM. 'bulk': how many values and letters a reading holds, each counted each time it is reached (what is shared counts as often as it is met; a slice's spare places count too). A statement '..UptoSaid' is the law's where the arguments, and the package variables that the reading takes, are together of bulk at most 1048576: NARROWER than '..Said'. Prove '..Said' where nothing that the law and all that it calls make is longer than what came in: it says more and counts as full. Else prove '..UptoSaid'. A law counts once. -/
mutual
def uptoBulk {H : Type} : DataW H → Nat
  | .lit (.string bytes) => bytes.length + 1
  | .lit _ => 1
  | .nil => 1
  | .ptr d => uptoBulk d + 1
  | .slice elems spare => uptoBulkAll elems + uptoBulkAll spare + 1
  | .agg parts => uptoBulkAll parts + 1
  | .iface _ d => uptoBulk d + 1
  | .map entries => uptoBulkEntries entries + 1
  | .held _ => 1
def uptoBulkAll {H : Type} : List (DataW H) → Nat
  | [] => 0
  | d :: r => uptoBulk d + uptoBulkAll r
def uptoBulkEntries {H : Type} : List (Lit × DataW H) → Nat
  | [] => 0
  | x :: r => uptoBulkEntry x + uptoBulkEntries r
def uptoBulkEntry {H : Type} : Lit × DataW H → Nat
  | (.string bytes, d) => bytes.length + uptoBulk d + 1
  | (_, d) => uptoBulk d + 1
 end
def uptoSmall : (H : Type) → List (DataW H) → Bool := fun _ ds => decide (uptoBulkAll ds ≤ 1048576)
def OpenSpec.upto (s : _root_.Go.ChangeSpec) : _root_.Go.OpenSpec := { _root_.Go.OpenSpec.ofChange s with cond := some uptoSmall }

/-- 'laws.FnExactStorePut', WHERE WHAT IT READS IS OF BULK AT MOST 1048576: true; the input reads as it did. -/
def fnExactStorePutUptoRow : OpenClaim := { program := "ytimkdclalajadaagreat", sum := "14f6e8fe5924bf55dd39ed453d57d01e3ce05b23b7169040484a1413c40ed166", func := "loop.example/temse/laws.FnExactStorePut", spec := "fnExactStorePut", inPlace := ["internal/abi.NoEscape"], unfollowed := true, recurses := true, apart := false, narrowed := true }
def FnExactStorePutUptoSaid : Prop := fnExactStorePutUptoRow.holds Tryz.pinned (OpenSpec.upto fnExactStorePutSpec)

/-- 'laws.FnExactStoreTake', WHERE WHAT IT READS IS OF BULK AT MOST 1048576: true; the input reads as it did. -/
def fnExactStoreTakeUptoRow : OpenClaim := { program := "ytimkdclalajadaagreat", sum := "14f6e8fe5924bf55dd39ed453d57d01e3ce05b23b7169040484a1413c40ed166", func := "loop.example/temse/laws.FnExactStoreTake", spec := "fnExactStoreTake", inPlace := ["internal/abi.NoEscape"], unfollowed := true, recurses := true, apart := false, narrowed := true }
def FnExactStoreTakeUptoSaid : Prop := fnExactStoreTakeUptoRow.holds Tryz.pinned (OpenSpec.upto fnExactStoreTakeSpec)

/-- 'laws.FnExactStoreDown', WHERE WHAT IT READS IS OF BULK AT MOST 1048576: true; the input reads as it did. -/
def fnExactStoreDownUptoRow : OpenClaim := { program := "ytimkdclalajadaagreat", sum := "14f6e8fe5924bf55dd39ed453d57d01e3ce05b23b7169040484a1413c40ed166", func := "loop.example/temse/laws.FnExactStoreDown", spec := "fnExactStoreDown", inPlace := ["internal/abi.NoEscape"], unfollowed := true, recurses := true, apart := false, narrowed := true }
def FnExactStoreDownUptoSaid : Prop := fnExactStoreDownUptoRow.holds Tryz.pinned (OpenSpec.upto fnExactStoreDownSpec)

/-- 'laws.FnExactStoreJoin', WHERE WHAT IT READS IS OF BULK AT MOST 1048576: true; the input reads as it did. -/
def fnExactStoreJoinUptoRow : OpenClaim := { program := "ytimkdclalajadaagreat", sum := "14f6e8fe5924bf55dd39ed453d57d01e3ce05b23b7169040484a1413c40ed166", func := "loop.example/temse/laws.FnExactStoreJoin", spec := "fnExactStoreJoin", inPlace := ["internal/abi.NoEscape"], unfollowed := true, recurses := true, apart := false, narrowed := true }
def FnExactStoreJoinUptoSaid : Prop := fnExactStoreJoinUptoRow.holds Tryz.pinned (OpenSpec.upto fnExactStoreJoinSpec)

/-- 'laws.FnExactStoreList', WHERE WHAT IT READS IS OF BULK AT MOST 1048576: true; the input reads as it did. -/
def fnExactStoreListUptoRow : OpenClaim := { program := "ytimkdclalajadaagreat", sum := "14f6e8fe5924bf55dd39ed453d57d01e3ce05b23b7169040484a1413c40ed166", func := "loop.example/temse/laws.FnExactStoreList", spec := "fnExactStoreList", inPlace := ["internal/abi.NoEscape", "internal/bytealg.CountString", "internal/bytealg.IndexByteString", "internal/bytealg.IndexString"], unfollowed := true, recurses := true, named := ["internal/bytealg.MaxLen"], apart := false, narrowed := true }
def FnExactStoreListUptoSaid : Prop := fnExactStoreListUptoRow.holds Tryz.pinned (OpenSpec.upto fnExactStoreListSpec)

end Rows
end Go.Proofs.YtimkdclalajadaaGreat
