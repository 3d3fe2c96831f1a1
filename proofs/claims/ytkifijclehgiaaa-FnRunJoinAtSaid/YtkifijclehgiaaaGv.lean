/-
  A call of a function value without captured variables, and a store of an entry over cells that are known, for the walk. No condition.
-/
import Derived.Test.YtkifijclehgiaaaProg
import Derived.Test.YtkifijclehgiaaaWMore
import Derived.Below
import Derived.Deep.Draws
import Derived.Deep.AppendLies
import Derived.Maps.AppendAt
import Derived.OwnWalk
import Derived.Laws.BytesArg
import Derived.Laws.MakeOwn
import Derived.Laws.OwnMore
import Derived.Deep.OwnRows
import Derived.Tactics
import Derived.Lib.ConvBytes
import Derived.Laws.Slices
import Derived.WalkKit
import Derived.KernelRfl
import Derived.RowKit3
import Derived.Deep.LoopGhost
import Derived.Deep.QuietTactic
import Derived.BigQuiet
import Derived.WideLaws
import Derived.Deep.DeepCutAuto
import Derived.Deep.CutBlock
import Derived.Deep.RegionHeld3
import Derived.Laws.Rows
import Derived.Lib.AppendStr
import Derived.ArgAppend
import Derived.Laws.IdiomCopy
import Derived.OrdersHeld
import Derived.Laws.BitsLemmas
import Derived.RowKit
import Derived.Test.YtkifijclehgiaaaWWords
import Derived.Test.YtkifijclehgiaaaWLast
import Derived.Test.YtkifijclehgiaaaWTab
import Derived.Test.YtkifijclehgiaaaWFour
import Derived.Test.YtkifijclehgiaaaWQPut
import Derived.Test.YtkifijclehgiaaaWApart
import Derived.Test.YtkifijclehgiaaaWArr
import Derived.Test.YtkifijclehgiaaaWZeros
import Derived.Test.YtkifijclehgiaaaWFoot
import Derived.Test.YtkifijclehgiaaaWKept
import Derived.Test.YtkifijclehgiaaaWShare
import Derived.Test.YtkifijclehgiaaaWN
import Derived.Test.YtkifijclehgiaaaWFootNe
import Derived.Test.YtkifijclehgiaaaWAt
import Derived.Test.YtkifijclehgiaaaWEqStruct
import Derived.Test.YtkifijclehgiaaaWRepsOne
import Derived.Test.YtkifijclehgiaaaWInv
import Derived.Test.YtkifijclehgiaaaWInvWords
import Derived.Test.YtkifijclehgiaaaWGuard
import Derived.Test.YtkifijclehgiaaaWNEv
namespace Go.Proofs.YtkifijclehgiaaaW.PrintLast
open Go.RowKit Go.Proofs.YtkifijclehgiaaaW.PrintWords
section
variable {P : Program} {ops : Array Oper} {Q : Exit → Act → World → Prop}
theorem goesV_ {oi : Oper} {N : Option Tmp} {a : Act} {w : World} {K : Act → World → Prop} {f : FuncId} {fn : Func} {o : Operand} {ag : Array Operand} {ts : Array TypeId} (hf : P.funcs[f]? = some fn) (hname : (fn.name == "runtime.NumGoroutine") = false) (hb : fn.body.isSome = true) (args : Array Value)
    (hw : Region.wanted oi (yielded ops a.tmps) = true) (hN : oi.dst = N) (hop : oi.op = .call { callee := .value o, args := ag, argTypes := ts }) (hv : a.eval o = .func (.func f) #[] #[]) (hargs : ag.map a.eval = args)
    (h : Calls P f args w fun e w' => ∃ v, e = .returned v ∧ K (a.put N v) w') : if Region.wanted oi (yielded ops a.tmps) = true then Oper.wp P oi a w K Q else K (a.put N undef) w := by
  refine call_ f args hw hN ?_ h
  have he := enters_ hf hname hb args w
  unfold execOp
  simp [hop, resolve, Deferred.ofValue, invoke, hv, hargs, he]
end
theorem store4 {a : Act} {p q : Tmp} {W : World} {g o : Nat} {s : ByteArray} {x y : Int} {b : Bool} {d : Option Tmp} {t : TypeId} {ps : String} {af : Array Edge} {gd : Option (Nat × Bool)} (hp : a.eval (.tmp p) = .pointer (some ⟨g, o, none⟩)) (hq : a.eval (.tmp q) = .agg #[.string s, .int .i64 x, .bool b, .int .i64 y])
    (c0 : ∃ u, W.cell? ⟨g, o, none⟩ = some u) (c1 : ∃ u, W.cell? ⟨g, o + 1, none⟩ = some u) (c2 : ∃ u, W.cell? ⟨g, o + 2, none⟩ = some u) (c3 : ∃ u, W.cell? ⟨g, o + 3, none⟩ = some u)
    (f0 : W.frozen? ⟨g, o, none⟩ = false) (f1 : W.frozen? ⟨g, o + 1, none⟩ = false) (f2 : W.frozen? ⟨g, o + 2, none⟩ = false) (f3 : W.frozen? ⟨g, o + 3, none⟩ = false) :
    (execOp a.eval { dst := d, op := .store 27 (.tmp p) (.tmp q), type := t, pos := ps, after := af, guard := gd }).run Try.prog W = .ok .skip ((((W.setCell ⟨g, o, none⟩ (.string s)).setCell ⟨g, o + 1, none⟩ (.int .i64 x)).setCell ⟨g, o + 2, none⟩ (.bool b)).setCell ⟨g, o + 3, none⟩ (.int .i64 y)) := by
  have hu27 := Try.underlying27
  obtain ⟨u0, c0⟩ := c0
  obtain ⟨u1, c1⟩ := c1
  obtain ⟨u2, c2⟩ := c2
  obtain ⟨u3, c3⟩ := c3
  unfold execOp
  simp only [hp, hq]
  go_simp
end Go.Proofs.YtkifijclehgiaaaW.PrintLast
