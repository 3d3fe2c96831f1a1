/-
  No cell of these rows narrows 'for every input' (looked for: loops, veiled, ifaces, maps, wideKeys, modest, calm, conditions, laid).
  DERIVED. THE GIVEN ROWS OF THIS SEAT. 2 by the template 'for every input the law returns true; each argument reads behind the call as it read before'; 0 by the template 'total and deterministic' (their statements: YtimkdclalajadaaTotals.lean).
  GIVEN WITH THE SEED: the statements are not yours to turn. If you find one false, say at which input.
  Laid BY PROGRAM, IN A SANDBOX (cutbox-rows.mjs): the forced cells as the released guide's own fill.sh prints them over the translation aed0e25ed45af8d4… (all of the seat's roots in one cut). By AI agents, Wed Nov 11 2026. No macro, syntax, notation, axiom, sorry.
-/
import Derived.Test.YtimkdclalajadaaChecked
import GoSem.Claim
import GoSem.ClaimJoined
import GoSem.ClaimMapViews
import Derived.JoinedTies
import Derived.KernelRfl
namespace Go.Proofs.Ytimkdclalajadaa
/- THE CELL 'sum', in the pinned program and in every row, IS THE sha256 OF THE DUMP (.gsa) THAT YtimkdclalajadaaProg.lean LOADS. Nothing in Lean hashes anything: it is a label: what it is worth is what the hold of that sum in a sandbox is worth. -/
noncomputable def Try.pinned : Pinned := { name := "ytimkdclalajadaa", sum := "aed0e25ed45af8d4fa271c1a8b7045744a3f1dcad301a5f3c63ab9d33ea5eebd", checked := Try.checked }
namespace Rows
def none {H : Type} : Left H := { results := [], args := [] }

/-- 'laws.FnExactStoreHold': WHATEVER THE INPUT: true; the input reads as it did. -/
def fnExactStoreHoldSpec : ChangeSpec := { name := "fnExactStoreHold", fn := fun _ => fun
  | [d] => { results := [.lit (.bool true)], args := [d] }
  | _ => none }
def fnExactStoreHoldRow : OpenClaim := { program := "ytimkdclalajadaa", sum := "aed0e25ed45af8d4fa271c1a8b7045744a3f1dcad301a5f3c63ab9d33ea5eebd", func := "loop.example/temse/laws.FnExactStoreHold", spec := "fnExactStoreHold", inPlace := ["internal/abi.NoEscape"], unfollowed := true, recurses := true, apart := false }
def FnExactStoreHoldSaid : Prop := fnExactStoreHoldRow.holds Try.pinned (OpenSpec.ofChange fnExactStoreHoldSpec)

/-- ITS FALSE NEIGHBOUR: 'it returns false'. Refute it at one input. -/
def fnExactStoreHoldWrong : ChangeSpec := { name := "fnExactStoreHold", fn := fun _ => fun
  | [d] => { results := [.lit (.bool false)], args := [d] }
  | _ => none }
def FnExactStoreHoldWrongFalsely : Prop := fnExactStoreHoldRow.holds Try.pinned (OpenSpec.ofChange fnExactStoreHoldWrong)

/-- 'laws.FnExactStoreFree': WHATEVER THE INPUT: true; the input reads as it did. -/
def fnExactStoreFreeSpec : ChangeSpec := { name := "fnExactStoreFree", fn := fun _ => fun
  | [d1, d2] => { results := [.lit (.bool true)], args := [d1, d2] }
  | _ => none }
def fnExactStoreFreeRow : OpenClaim := { program := "ytimkdclalajadaa", sum := "aed0e25ed45af8d4fa271c1a8b7045744a3f1dcad301a5f3c63ab9d33ea5eebd", func := "loop.example/temse/laws.FnExactStoreFree", spec := "fnExactStoreFree", inPlace := ["internal/abi.NoEscape"], unfollowed := true, recurses := true, apart := false }
def FnExactStoreFreeSaid : Prop := fnExactStoreFreeRow.holds Try.pinned (OpenSpec.ofChange fnExactStoreFreeSpec)

/-- ITS FALSE NEIGHBOUR: 'it returns false'. Refute it at one input. -/
def fnExactStoreFreeWrong : ChangeSpec := { name := "fnExactStoreFree", fn := fun _ => fun
  | [d1, d2] => { results := [.lit (.bool false)], args := [d1, d2] }
  | _ => none }
def FnExactStoreFreeWrongFalsely : Prop := fnExactStoreFreeRow.holds Try.pinned (OpenSpec.ofChange fnExactStoreFreeWrong)

/- THE SECOND FORM. 'bulk': how many values and letters a reading holds, each counted each time it is reached (what is shared counts as often as it is met; a slice's spare places count too). A statement '..UptoSaid' is the law's where the arguments, and the package variables that the reading takes, are together of bulk at most 1048576: NARROWER than '..Said'. Prove '..Said' where nothing that the law and all that it calls make is longer than what came in: it says more and counts as full. Else prove '..UptoSaid'. A law counts once. -/
mutual
def uptoBulk {H : Type} : DataW H → Nat
  | .lit (.string bytes) => bytes.length + 1
  | .lit _ => 1
  | .nil => 1
  | .ptr d => uptoBulk d + 1
  | .slice elems spare => uptoBulkAll elems + uptoBulkAll spare + 1
  | .agg parts => uptoBulkAll parts + 1
  | .iface _ d => uptoBulk d + 1
  | .map entries => uptoBulkEntries entries + 1
  | .held _ => 1
def uptoBulkAll {H : Type} : List (DataW H) → Nat
  | [] => 0
  | d :: r => uptoBulk d + uptoBulkAll r
def uptoBulkEntries {H : Type} : List (Lit × DataW H) → Nat
  | [] => 0
  | x :: r => uptoBulkEntry x + uptoBulkEntries r
def uptoBulkEntry {H : Type} : Lit × DataW H → Nat
  | (.string bytes, d) => bytes.length + uptoBulk d + 1
  | (_, d) => uptoBulk d + 1
 end
def uptoSmall : (H : Type) → List (DataW H) → Bool := fun _ ds => decide (uptoBulkAll ds ≤ 1048576)
def OpenSpec.upto (s : _root_.Go.ChangeSpec) : _root_.Go.OpenSpec := { _root_.Go.OpenSpec.ofChange s with cond := some uptoSmall }

/-- 'laws.FnExactStoreHold', WHERE WHAT IT READS IS OF BULK AT MOST 1048576: true; the input reads as it did. -/
def fnExactStoreHoldUptoRow : OpenClaim := { program := "ytimkdclalajadaa", sum := "aed0e25ed45af8d4fa271c1a8b7045744a3f1dcad301a5f3c63ab9d33ea5eebd", func := "loop.example/temse/laws.FnExactStoreHold", spec := "fnExactStoreHold", inPlace := ["internal/abi.NoEscape"], unfollowed := true, recurses := true, apart := false, narrowed := true }
def FnExactStoreHoldUptoSaid : Prop := fnExactStoreHoldUptoRow.holds Try.pinned (OpenSpec.upto fnExactStoreHoldSpec)

/-- 'laws.FnExactStoreFree', WHERE WHAT IT READS IS OF BULK AT MOST 1048576: true; the input reads as it did. -/
def fnExactStoreFreeUptoRow : OpenClaim := { program := "ytimkdclalajadaa", sum := "aed0e25ed45af8d4fa271c1a8b7045744a3f1dcad301a5f3c63ab9d33ea5eebd", func := "loop.example/temse/laws.FnExactStoreFree", spec := "fnExactStoreFree", inPlace := ["internal/abi.NoEscape"], unfollowed := true, recurses := true, apart := false, narrowed := true }
def FnExactStoreFreeUptoSaid : Prop := fnExactStoreFreeUptoRow.holds Try.pinned (OpenSpec.upto fnExactStoreFreeSpec)

end Rows
end Go.Proofs.Ytimkdclalajadaa
