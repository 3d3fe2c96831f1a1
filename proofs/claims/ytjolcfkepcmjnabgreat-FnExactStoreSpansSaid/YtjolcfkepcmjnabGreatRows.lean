/-
  No cell of these rows narrows 'for every input' (looked for: loops, veiled, ifaces, maps, wideKeys, modest, calm, conditions, laid).
  DERIVED. THE GIVEN ROWS OF THIS SEAT. 3 by the template 'for every input the law returns true; each argument reads behind the call as it read before'; 0 by the template 'total and deterministic' (their statements: YtjolcfkepcmjnabGreatTotals.lean).
  GIVEN WITH THE SEED: the statements are not yours to turn. If you find one false, say at which input.
  Laid BY PROGRAM, IN A SANDBOX (cutbox-rows.mjs): the forced cells as the released guide's own fill.sh prints them over the translation 42a22cf8b7ea94b2… (all of the seat's roots in one cut). By AI agents, Wed Nov 11 2026. No macro, syntax, notation, axiom, sorry.
-/
import Derived.Test.YtjolcfkepcmjnabGreatChecked
import GoSem.Claim
import GoSem.ClaimJoined
import GoSem.ClaimMapViews
import Derived.JoinedTies
import Derived.KernelRfl
namespace Go.Proofs.YtjolcfkepcmjnabGreat
/- THE CELL 'sum', in the pinned program and in every row, IS THE sha256 OF THE DUMP (.gsa) THAT YtjolcfkepcmjnabGreatProg.lean LOADS. Nothing in Lean hashes anything: it is a label: what it is worth is what the hold of that sum in a sandbox is worth. -/
noncomputable def Tryz.pinned : Pinned := { name := "ytjolcfkepcmjnabgreat", sum := "42a22cf8b7ea94b2640cf7ff18aadd9a15768054aa9760bcf50159a8d7132b76", checked := Tryz.checked }
namespace Rows
def none {H : Type} : Left H := { results := [], args := [] }

/-- 'laws.FnExactStoreSpans': WHATEVER THE INPUT: true; the input reads as it did. -/
def fnExactStoreSpansSpec : ChangeSpec := { name := "fnExactStoreSpans", fn := fun _ => fun
  | [d1, d2, d3] => { results := [.lit (.bool true)], args := [d1, d2, d3] }
  | _ => none }
def fnExactStoreSpansRow : OpenClaim := { program := "ytjolcfkepcmjnabgreat", sum := "42a22cf8b7ea94b2640cf7ff18aadd9a15768054aa9760bcf50159a8d7132b76", func := "loop.example/temse/laws.FnExactStoreSpans", spec := "fnExactStoreSpans", inPlace := ["internal/abi.NoEscape", "internal/bytealg.CountString", "internal/bytealg.IndexByteString", "internal/bytealg.IndexString"], unfollowed := true, recurses := true, named := ["internal/bytealg.MaxLen"], apart := false }
def FnExactStoreSpansSaid : Prop := fnExactStoreSpansRow.holds Tryz.pinned (OpenSpec.ofChange fnExactStoreSpansSpec)

/-- ITS FALSE NEIGHBOUR: 'it returns false'. Refute it at one input. -/
def fnExactStoreSpansWrong : ChangeSpec := { name := "fnExactStoreSpans", fn := fun _ => fun
  | [d1, d2, d3] => { results := [.lit (.bool false)], args := [d1, d2, d3] }
  | _ => none }
def FnExactStoreSpansWrongFalsely : Prop := fnExactStoreSpansRow.holds Tryz.pinned (OpenSpec.ofChange fnExactStoreSpansWrong)

/-- 'laws.FnStoreLooks': WHATEVER THE INPUT: true; the input reads as it did. -/
def fnStoreLooksSpec : ChangeSpec := { name := "fnStoreLooks", fn := fun _ => fun
  | [d] => { results := [.lit (.bool true)], args := [d] }
  | _ => none }
def fnStoreLooksRow : OpenClaim := { program := "ytjolcfkepcmjnabgreat", sum := "42a22cf8b7ea94b2640cf7ff18aadd9a15768054aa9760bcf50159a8d7132b76", func := "loop.example/temse/laws.FnStoreLooks", spec := "fnStoreLooks", inPlace := ["internal/abi.NoEscape", "internal/bytealg.CountString", "internal/bytealg.IndexByteString", "internal/bytealg.IndexString"], unfollowed := true, recurses := true, named := ["internal/bytealg.MaxLen"], apart := false }
def FnStoreLooksSaid : Prop := fnStoreLooksRow.holds Tryz.pinned (OpenSpec.ofChange fnStoreLooksSpec)

/-- ITS FALSE NEIGHBOUR: 'it returns false'. Refute it at one input. -/
def fnStoreLooksWrong : ChangeSpec := { name := "fnStoreLooks", fn := fun _ => fun
  | [d] => { results := [.lit (.bool false)], args := [d] }
  | _ => none }
def FnStoreLooksWrongFalsely : Prop := fnStoreLooksRow.holds Tryz.pinned (OpenSpec.ofChange fnStoreLooksWrong)

/-- 'laws.FnStoreGetAll': WHATEVER THE INPUT: true; the input reads as it did. -/
def fnStoreGetAllSpec : ChangeSpec := { name := "fnStoreGetAll", fn := fun _ => fun
  | [d] => { results := [.lit (.bool true)], args := [d] }
  | _ => none }
def fnStoreGetAllRow : OpenClaim := { program := "ytjolcfkepcmjnabgreat", sum := "42a22cf8b7ea94b2640cf7ff18aadd9a15768054aa9760bcf50159a8d7132b76", func := "loop.example/temse/laws.FnStoreGetAll", spec := "fnStoreGetAll", inPlace := ["internal/abi.NoEscape", "internal/bytealg.CountString", "internal/bytealg.IndexByteString", "internal/bytealg.IndexString"], unfollowed := true, recurses := true, named := ["internal/bytealg.MaxLen"], apart := false }
def FnStoreGetAllSaid : Prop := fnStoreGetAllRow.holds Tryz.pinned (OpenSpec.ofChange fnStoreGetAllSpec)

/-- ITS FALSE NEIGHBOUR: 'it returns false'. Refute it at one input. -/
def fnStoreGetAllWrong : ChangeSpec := { name := "fnStoreGetAll", fn := fun _ => fun
  | [d] => { results := [.lit (.bool false)], args := [d] }
  | _ => none }
def FnStoreGetAllWrongFalsely : Prop := fnStoreGetAllRow.holds Tryz.pinned (OpenSpec.ofChange fnStoreGetAllWrong)

/- THE SECOND FORM. 'bulk': how many values and letters a reading holds, each counted each time it is reached (what is shared counts as often as it is met; a slice's spare places count too). A statement '..UptoSaid' is the law's where the arguments, and the package variables that the reading takes, are together of bulk at most 1048576: NARROWER than '..Said'. Prove '..Said' where nothing that the law and all that it calls make is longer than what came in: it says more and counts as full. Else prove '..UptoSaid'. A law counts once. -/
mutual
def uptoBulk {H : Type} : DataW H → Nat
  | .lit (.string bytes) => bytes.length + 1
  | .lit _ => 1
  | .nil => 1
  | .ptr d => uptoBulk d + 1
  | .slice elems spare => uptoBulkAll elems + uptoBulkAll spare + 1
  | .agg parts => uptoBulkAll parts + 1
  | .iface _ d => uptoBulk d + 1
  | .map entries => uptoBulkEntries entries + 1
  | .held _ => 1
def uptoBulkAll {H : Type} : List (DataW H) → Nat
  | [] => 0
  | d :: r => uptoBulk d + uptoBulkAll r
def uptoBulkEntries {H : Type} : List (Lit × DataW H) → Nat
  | [] => 0
  | x :: r => uptoBulkEntry x + uptoBulkEntries r
def uptoBulkEntry {H : Type} : Lit × DataW H → Nat
  | (.string bytes, d) => bytes.length + uptoBulk d + 1
  | (_, d) => uptoBulk d + 1
 end
def uptoSmall : (H : Type) → List (DataW H) → Bool := fun _ ds => decide (uptoBulkAll ds ≤ 1048576)
def OpenSpec.upto (s : _root_.Go.ChangeSpec) : _root_.Go.OpenSpec := { _root_.Go.OpenSpec.ofChange s with cond := some uptoSmall }

/-- 'laws.FnExactStoreSpans', WHERE WHAT IT READS IS OF BULK AT MOST 1048576: true; the input reads as it did. -/
def fnExactStoreSpansUptoRow : OpenClaim := { program := "ytjolcfkepcmjnabgreat", sum := "42a22cf8b7ea94b2640cf7ff18aadd9a15768054aa9760bcf50159a8d7132b76", func := "loop.example/temse/laws.FnExactStoreSpans", spec := "fnExactStoreSpans", inPlace := ["internal/abi.NoEscape", "internal/bytealg.CountString", "internal/bytealg.IndexByteString", "internal/bytealg.IndexString"], unfollowed := true, recurses := true, named := ["internal/bytealg.MaxLen"], apart := false, narrowed := true }
def FnExactStoreSpansUptoSaid : Prop := fnExactStoreSpansUptoRow.holds Tryz.pinned (OpenSpec.upto fnExactStoreSpansSpec)

/-- 'laws.FnStoreLooks', WHERE WHAT IT READS IS OF BULK AT MOST 1048576: true; the input reads as it did. -/
def fnStoreLooksUptoRow : OpenClaim := { program := "ytjolcfkepcmjnabgreat", sum := "42a22cf8b7ea94b2640cf7ff18aadd9a15768054aa9760bcf50159a8d7132b76", func := "loop.example/temse/laws.FnStoreLooks", spec := "fnStoreLooks", inPlace := ["internal/abi.NoEscape", "internal/bytealg.CountString", "internal/bytealg.IndexByteString", "internal/bytealg.IndexString"], unfollowed := true, recurses := true, named := ["internal/bytealg.MaxLen"], apart := false, narrowed := true }
def FnStoreLooksUptoSaid : Prop := fnStoreLooksUptoRow.holds Tryz.pinned (OpenSpec.upto fnStoreLooksSpec)

/-- 'laws.FnStoreGetAll', WHERE WHAT IT READS IS OF BULK AT MOST 1048576: true; the input reads as it did. -/
def fnStoreGetAllUptoRow : OpenClaim := { program := "ytjolcfkepcmjnabgreat", sum := "42a22cf8b7ea94b2640cf7ff18aadd9a15768054aa9760bcf50159a8d7132b76", func := "loop.example/temse/laws.FnStoreGetAll", spec := "fnStoreGetAll", inPlace := ["internal/abi.NoEscape", "internal/bytealg.CountString", "internal/bytealg.IndexByteString", "internal/bytealg.IndexString"], unfollowed := true, recurses := true, named := ["internal/bytealg.MaxLen"], apart := false, narrowed := true }
def FnStoreGetAllUptoSaid : Prop := fnStoreGetAllUptoRow.holds Tryz.pinned (OpenSpec.upto fnStoreGetAllSpec)

end Rows
end Go.Proofs.YtjolcfkepcmjnabGreat
