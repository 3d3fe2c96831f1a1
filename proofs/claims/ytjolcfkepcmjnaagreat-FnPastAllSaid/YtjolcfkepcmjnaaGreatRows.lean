/-
  No cell of these rows narrows 'for every input' (looked for: loops, veiled, ifaces, maps, wideKeys, modest, calm, conditions, laid).
  DERIVED. THE GIVEN ROWS OF THIS SEAT. 6 by the template 'for every input the law returns true; each argument reads behind the call as it read before'; 0 by the template 'total and deterministic' (their statements: YtjolcfkepcmjnaaGreatTotals.lean).
  GIVEN WITH THE SEED: the statements are not yours to turn. If you find one false, say at which input.
  Laid BY PROGRAM, IN A SANDBOX (cutbox-rows.mjs): the forced cells as the released guide's own fill.sh prints them over the translation 0d29d82b0027181b… (all of the seat's roots in one cut). By AI agents, Wed Nov 11 2026. No macro, syntax, notation, axiom, sorry.
-/
import Derived.Test.YtjolcfkepcmjnaaGreatChecked
import GoSem.Claim
import GoSem.ClaimJoined
import GoSem.ClaimMapViews
import Derived.JoinedTies
import Derived.KernelRfl
namespace Go.Proofs.YtjolcfkepcmjnaaGreat
/- THE CELL 'sum', in the pinned program and in every row, IS THE sha256 OF THE DUMP (.gsa) THAT YtjolcfkepcmjnaaGreatProg.lean LOADS. Nothing in Lean hashes anything: it is a label: what it is worth is what the hold of that sum in a sandbox is worth. -/
noncomputable def Tryz.pinned : Pinned := { name := "ytjolcfkepcmjnaagreat", sum := "0d29d82b0027181b4397f8f5ea9def33200928aeff9428fdbb34629d43ef31c4", checked := Tryz.checked }
namespace Rows
def none {H : Type} : Left H := { results := [], args := [] }

/-- 'laws.FnStoreRoom': WHATEVER THE INPUT: true; the input reads as it did. -/
def fnStoreRoomSpec : ChangeSpec := { name := "fnStoreRoom", fn := fun _ => fun
  | [d] => { results := [.lit (.bool true)], args := [d] }
  | _ => none }
def fnStoreRoomRow : OpenClaim := { program := "ytjolcfkepcmjnaagreat", sum := "0d29d82b0027181b4397f8f5ea9def33200928aeff9428fdbb34629d43ef31c4", func := "loop.example/temse/laws.FnStoreRoom", spec := "fnStoreRoom", inPlace := ["internal/abi.NoEscape"], unfollowed := true, recurses := true, apart := false }
def FnStoreRoomSaid : Prop := fnStoreRoomRow.holds Tryz.pinned (OpenSpec.ofChange fnStoreRoomSpec)

/-- ITS FALSE NEIGHBOUR: 'it returns false'. Refute it at one input. -/
def fnStoreRoomWrong : ChangeSpec := { name := "fnStoreRoom", fn := fun _ => fun
  | [d] => { results := [.lit (.bool false)], args := [d] }
  | _ => none }
def FnStoreRoomWrongFalsely : Prop := fnStoreRoomRow.holds Tryz.pinned (OpenSpec.ofChange fnStoreRoomWrong)

/-- 'laws.FnStoreMess': WHATEVER THE INPUT: true; the input reads as it did. -/
def fnStoreMessSpec : ChangeSpec := { name := "fnStoreMess", fn := fun _ => fun
  | [d] => { results := [.lit (.bool true)], args := [d] }
  | _ => none }
def fnStoreMessRow : OpenClaim := { program := "ytjolcfkepcmjnaagreat", sum := "0d29d82b0027181b4397f8f5ea9def33200928aeff9428fdbb34629d43ef31c4", func := "loop.example/temse/laws.FnStoreMess", spec := "fnStoreMess", inPlace := ["internal/abi.NoEscape"], unfollowed := true, recurses := true, apart := false }
def FnStoreMessSaid : Prop := fnStoreMessRow.holds Tryz.pinned (OpenSpec.ofChange fnStoreMessSpec)

/-- ITS FALSE NEIGHBOUR: 'it returns false'. Refute it at one input. -/
def fnStoreMessWrong : ChangeSpec := { name := "fnStoreMess", fn := fun _ => fun
  | [d] => { results := [.lit (.bool false)], args := [d] }
  | _ => none }
def FnStoreMessWrongFalsely : Prop := fnStoreMessRow.holds Tryz.pinned (OpenSpec.ofChange fnStoreMessWrong)

/-- 'laws.FnPastAll': WHATEVER THE INPUT: true; the input reads as it did. -/
def fnPastAllSpec : ChangeSpec := { name := "fnPastAll", fn := fun _ => fun
  | [d1, d2] => { results := [.lit (.bool true)], args := [d1, d2] }
  | _ => none }
def fnPastAllRow : OpenClaim := { program := "ytjolcfkepcmjnaagreat", sum := "0d29d82b0027181b4397f8f5ea9def33200928aeff9428fdbb34629d43ef31c4", func := "loop.example/temse/laws.FnPastAll", spec := "fnPastAll", inPlace := ["internal/abi.NoEscape"], unfollowed := true, recurses := true, apart := false }
def FnPastAllSaid : Prop := fnPastAllRow.holds Tryz.pinned (OpenSpec.ofChange fnPastAllSpec)

/-- ITS FALSE NEIGHBOUR: 'it returns false'. Refute it at one input. -/
def fnPastAllWrong : ChangeSpec := { name := "fnPastAll", fn := fun _ => fun
  | [d1, d2] => { results := [.lit (.bool false)], args := [d1, d2] }
  | _ => none }
def FnPastAllWrongFalsely : Prop := fnPastAllRow.holds Tryz.pinned (OpenSpec.ofChange fnPastAllWrong)

/-- 'laws.FnPastDo': WHATEVER THE INPUT: true; the input reads as it did. -/
def fnPastDoSpec : ChangeSpec := { name := "fnPastDo", fn := fun _ => fun
  | [d1, d2] => { results := [.lit (.bool true)], args := [d1, d2] }
  | _ => none }
def fnPastDoRow : OpenClaim := { program := "ytjolcfkepcmjnaagreat", sum := "0d29d82b0027181b4397f8f5ea9def33200928aeff9428fdbb34629d43ef31c4", func := "loop.example/temse/laws.FnPastDo", spec := "fnPastDo", inPlace := ["internal/abi.NoEscape"], unfollowed := true, recurses := true, apart := false }
def FnPastDoSaid : Prop := fnPastDoRow.holds Tryz.pinned (OpenSpec.ofChange fnPastDoSpec)

/-- ITS FALSE NEIGHBOUR: 'it returns false'. Refute it at one input. -/
def fnPastDoWrong : ChangeSpec := { name := "fnPastDo", fn := fun _ => fun
  | [d1, d2] => { results := [.lit (.bool false)], args := [d1, d2] }
  | _ => none }
def FnPastDoWrongFalsely : Prop := fnPastDoRow.holds Tryz.pinned (OpenSpec.ofChange fnPastDoWrong)

/-- 'laws.FnExactStoreGet': WHATEVER THE INPUT: true; the input reads as it did. -/
def fnExactStoreGetSpec : ChangeSpec := { name := "fnExactStoreGet", fn := fun _ => fun
  | [d1, d2, d3] => { results := [.lit (.bool true)], args := [d1, d2, d3] }
  | _ => none }
def fnExactStoreGetRow : OpenClaim := { program := "ytjolcfkepcmjnaagreat", sum := "0d29d82b0027181b4397f8f5ea9def33200928aeff9428fdbb34629d43ef31c4", func := "loop.example/temse/laws.FnExactStoreGet", spec := "fnExactStoreGet", inPlace := ["internal/abi.NoEscape", "internal/bytealg.CountString", "internal/bytealg.IndexByteString", "internal/bytealg.IndexString"], unfollowed := true, recurses := true, named := ["internal/bytealg.MaxLen"], apart := false }
def FnExactStoreGetSaid : Prop := fnExactStoreGetRow.holds Tryz.pinned (OpenSpec.ofChange fnExactStoreGetSpec)

/-- ITS FALSE NEIGHBOUR: 'it returns false'. Refute it at one input. -/
def fnExactStoreGetWrong : ChangeSpec := { name := "fnExactStoreGet", fn := fun _ => fun
  | [d1, d2, d3] => { results := [.lit (.bool false)], args := [d1, d2, d3] }
  | _ => none }
def FnExactStoreGetWrongFalsely : Prop := fnExactStoreGetRow.holds Tryz.pinned (OpenSpec.ofChange fnExactStoreGetWrong)

/-- 'laws.FnExactStoreLooks': WHATEVER THE INPUT: true; the input reads as it did. -/
def fnExactStoreLooksSpec : ChangeSpec := { name := "fnExactStoreLooks", fn := fun _ => fun
  | [d1, d2] => { results := [.lit (.bool true)], args := [d1, d2] }
  | _ => none }
def fnExactStoreLooksRow : OpenClaim := { program := "ytjolcfkepcmjnaagreat", sum := "0d29d82b0027181b4397f8f5ea9def33200928aeff9428fdbb34629d43ef31c4", func := "loop.example/temse/laws.FnExactStoreLooks", spec := "fnExactStoreLooks", inPlace := ["internal/abi.NoEscape", "internal/bytealg.CountString", "internal/bytealg.IndexByteString", "internal/bytealg.IndexString"], unfollowed := true, recurses := true, named := ["internal/bytealg.MaxLen"], apart := false }
def FnExactStoreLooksSaid : Prop := fnExactStoreLooksRow.holds Tryz.pinned (OpenSpec.ofChange fnExactStoreLooksSpec)

/-- ITS FALSE NEIGHBOUR: 'it returns false'. Refute it at one input. -/
def fnExactStoreLooksWrong : ChangeSpec := { name := "fnExactStoreLooks", fn := fun _ => fun
  | [d1, d2] => { results := [.lit (.bool false)], args := [d1, d2] }
  | _ => none }
def FnExactStoreLooksWrongFalsely : Prop := fnExactStoreLooksRow.holds Tryz.pinned (OpenSpec.ofChange fnExactStoreLooksWrong)

/- THE SECOND FORM. 'bulk': how many values and letters a reading holds, each counted each time it is reached (what is shared counts as often as it is met; a slice's spare places count too). A statement '..UptoSaid' is the law's where the arguments, and the package variables that the reading takes, are together of bulk at most 1048576: NARROWER than '..Said'. Prove '..Said' where nothing that the law and all that it calls make is longer than what came in: it says more and counts as full. Else prove '..UptoSaid'. A law counts once. -/
mutual
def uptoBulk {H : Type} : DataW H → Nat
  | .lit (.string bytes) => bytes.length + 1
  | .lit _ => 1
  | .nil => 1
  | .ptr d => uptoBulk d + 1
  | .slice elems spare => uptoBulkAll elems + uptoBulkAll spare + 1
  | .agg parts => uptoBulkAll parts + 1
  | .iface _ d => uptoBulk d + 1
  | .map entries => uptoBulkEntries entries + 1
  | .held _ => 1
def uptoBulkAll {H : Type} : List (DataW H) → Nat
  | [] => 0
  | d :: r => uptoBulk d + uptoBulkAll r
def uptoBulkEntries {H : Type} : List (Lit × DataW H) → Nat
  | [] => 0
  | x :: r => uptoBulkEntry x + uptoBulkEntries r
def uptoBulkEntry {H : Type} : Lit × DataW H → Nat
  | (.string bytes, d) => bytes.length + uptoBulk d + 1
  | (_, d) => uptoBulk d + 1
 end
def uptoSmall : (H : Type) → List (DataW H) → Bool := fun _ ds => decide (uptoBulkAll ds ≤ 1048576)
def OpenSpec.upto (s : _root_.Go.ChangeSpec) : _root_.Go.OpenSpec := { _root_.Go.OpenSpec.ofChange s with cond := some uptoSmall }

/-- 'laws.FnStoreRoom', WHERE WHAT IT READS IS OF BULK AT MOST 1048576: true; the input reads as it did. -/
def fnStoreRoomUptoRow : OpenClaim := { program := "ytjolcfkepcmjnaagreat", sum := "0d29d82b0027181b4397f8f5ea9def33200928aeff9428fdbb34629d43ef31c4", func := "loop.example/temse/laws.FnStoreRoom", spec := "fnStoreRoom", inPlace := ["internal/abi.NoEscape"], unfollowed := true, recurses := true, apart := false, narrowed := true }
def FnStoreRoomUptoSaid : Prop := fnStoreRoomUptoRow.holds Tryz.pinned (OpenSpec.upto fnStoreRoomSpec)

/-- 'laws.FnStoreMess', WHERE WHAT IT READS IS OF BULK AT MOST 1048576: true; the input reads as it did. -/
def fnStoreMessUptoRow : OpenClaim := { program := "ytjolcfkepcmjnaagreat", sum := "0d29d82b0027181b4397f8f5ea9def33200928aeff9428fdbb34629d43ef31c4", func := "loop.example/temse/laws.FnStoreMess", spec := "fnStoreMess", inPlace := ["internal/abi.NoEscape"], unfollowed := true, recurses := true, apart := false, narrowed := true }
def FnStoreMessUptoSaid : Prop := fnStoreMessUptoRow.holds Tryz.pinned (OpenSpec.upto fnStoreMessSpec)

/-- 'laws.FnPastAll', WHERE WHAT IT READS IS OF BULK AT MOST 1048576: true; the input reads as it did. -/
def fnPastAllUptoRow : OpenClaim := { program := "ytjolcfkepcmjnaagreat", sum := "0d29d82b0027181b4397f8f5ea9def33200928aeff9428fdbb34629d43ef31c4", func := "loop.example/temse/laws.FnPastAll", spec := "fnPastAll", inPlace := ["internal/abi.NoEscape"], unfollowed := true, recurses := true, apart := false, narrowed := true }
def FnPastAllUptoSaid : Prop := fnPastAllUptoRow.holds Tryz.pinned (OpenSpec.upto fnPastAllSpec)

/-- 'laws.FnPastDo', WHERE WHAT IT READS IS OF BULK AT MOST 1048576: true; the input reads as it did. -/
def fnPastDoUptoRow : OpenClaim := { program := "ytjolcfkepcmjnaagreat", sum := "0d29d82b0027181b4397f8f5ea9def33200928aeff9428fdbb34629d43ef31c4", func := "loop.example/temse/laws.FnPastDo", spec := "fnPastDo", inPlace := ["internal/abi.NoEscape"], unfollowed := true, recurses := true, apart := false, narrowed := true }
def FnPastDoUptoSaid : Prop := fnPastDoUptoRow.holds Tryz.pinned (OpenSpec.upto fnPastDoSpec)

/-- 'laws.FnExactStoreGet', WHERE WHAT IT READS IS OF BULK AT MOST 1048576: true; the input reads as it did. -/
def fnExactStoreGetUptoRow : OpenClaim := { program := "ytjolcfkepcmjnaagreat", sum := "0d29d82b0027181b4397f8f5ea9def33200928aeff9428fdbb34629d43ef31c4", func := "loop.example/temse/laws.FnExactStoreGet", spec := "fnExactStoreGet", inPlace := ["internal/abi.NoEscape", "internal/bytealg.CountString", "internal/bytealg.IndexByteString", "internal/bytealg.IndexString"], unfollowed := true, recurses := true, named := ["internal/bytealg.MaxLen"], apart := false, narrowed := true }
def FnExactStoreGetUptoSaid : Prop := fnExactStoreGetUptoRow.holds Tryz.pinned (OpenSpec.upto fnExactStoreGetSpec)

/-- 'laws.FnExactStoreLooks', WHERE WHAT IT READS IS OF BULK AT MOST 1048576: true; the input reads as it did. -/
def fnExactStoreLooksUptoRow : OpenClaim := { program := "ytjolcfkepcmjnaagreat", sum := "0d29d82b0027181b4397f8f5ea9def33200928aeff9428fdbb34629d43ef31c4", func := "loop.example/temse/laws.FnExactStoreLooks", spec := "fnExactStoreLooks", inPlace := ["internal/abi.NoEscape", "internal/bytealg.CountString", "internal/bytealg.IndexByteString", "internal/bytealg.IndexString"], unfollowed := true, recurses := true, named := ["internal/bytealg.MaxLen"], apart := false, narrowed := true }
def FnExactStoreLooksUptoSaid : Prop := fnExactStoreLooksUptoRow.holds Tryz.pinned (OpenSpec.upto fnExactStoreLooksSpec)

end Rows
end Go.Proofs.YtjolcfkepcmjnaaGreat
