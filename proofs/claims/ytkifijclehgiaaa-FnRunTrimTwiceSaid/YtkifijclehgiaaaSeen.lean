/-
  impl.seen: whether one of the times lies between two entries'. What it returns, at whatever rows. No condition beyond those that stand.
-/
import Derived.Shelf.SlicesE.IndexFunc
import Derived.Ground.SlgfProg
import Derived.Lib.SliceRun
import Derived.Test.YtkifijclehgiaaaProg
import Derived.Below
import Derived.Deep.Draws
import Derived.Deep.AppendLies
import Derived.Maps.AppendAt
import Derived.OwnWalk
import Derived.Laws.BytesArg
import Derived.Laws.MakeOwn
import Derived.Laws.OwnMore
import Derived.Deep.OwnRows
import Derived.Tactics
import Derived.Lib.ConvBytes
import Derived.Laws.Slices
import Derived.WalkKit
import Derived.KernelRfl
import Derived.RowKit3
import Derived.Deep.LoopGhost
import Derived.Deep.QuietTactic
import Derived.BigQuiet
import Derived.WideLaws
import Derived.Deep.DeepCutAuto
import Derived.Deep.CutBlock
import Derived.Deep.RegionHeld3
import Derived.Laws.Rows
import Derived.Lib.AppendStr
import Derived.ArgAppend
import Derived.Laws.IdiomCopy
import Derived.OrdersHeld
import Derived.Laws.BitsLemmas
import Derived.RowKit
import Derived.Test.YtkifijclehgiaaaWWords
import Derived.Test.YtkifijclehgiaaaWLast
import Derived.Test.YtkifijclehgiaaaWTab
import Derived.Test.YtkifijclehgiaaaWFour
import Derived.Test.YtkifijclehgiaaaWQPut
import Derived.Test.YtkifijclehgiaaaWApart
import Derived.Test.YtkifijclehgiaaaWArr
import Derived.Test.YtkifijclehgiaaaWZeros
import Derived.Test.YtkifijclehgiaaaWFoot
import Derived.Test.YtkifijclehgiaaaWKept
import Derived.Test.YtkifijclehgiaaaWShare
import Derived.Test.YtkifijclehgiaaaWN
import Derived.Test.YtkifijclehgiaaaWFootNe
import Derived.Test.YtkifijclehgiaaaWAt
import Derived.Test.YtkifijclehgiaaaWEqStruct
import Derived.Test.YtkifijclehgiaaaWRepsOne
import Derived.Test.YtkifijclehgiaaaWInv
import Derived.Test.YtkifijclehgiaaaWInvWords
import Derived.Test.YtkifijclehgiaaaWGuard
import Derived.Test.YtkifijclehgiaaaWNEv
import Derived.Test.YtkifijclehgiaaaWMore
namespace Go.Proofs.Ytkifijclehgiaaa
open Go.Shelf Go.RowKit Go.Lib
def Try.l61_ren : Go.Shelf.Ren := ⟨fun | 8 => 61 | 6 => 69 | n => n, fun | 22 => 41 | 23 => 3 | 25 => 74 | 4 => 4 | 3 => 3 | 0 => 0 | n => n, fun | n => n⟩
theorem Try.l61 : Go.Proofs.SlLaysH.n8 Try.prog Try.l61_ren := {
  mixed := by kernel_rfl
  f6 := ⟨Try.f69.name, by decide, Try.func69.trans (congrArg some (by kernel_rfl))⟩
  f8 := ⟨Try.f61.name, by decide, Try.func61.trans (congrArg some (by kernel_rfl))⟩
  t0 := Try.underlying0
  a0 := Try.isAgg0
  z0 := Try.sizeOf0
  v0 := Try.zeroValue0
  t3 := Try.underlying3
  a3 := Try.isAgg3
  z3 := Try.sizeOf3
  v3 := Try.zeroValue3
  t4 := Try.underlying4
  a4 := Try.isAgg4
  z4 := Try.sizeOf4
  v4 := Try.zeroValue4
  t22 := Try.underlying41
  a22 := Try.isAgg41
  z22 := Try.sizeOf41
  v22 := Try.zeroValue41
  a23 := Try.isAgg3
  z23 := Try.sizeOf3
  t25 := Try.underlying74
  a25 := Try.isAgg74
  z25 := Try.sizeOf74
  v25 := Try.zeroValue74 }
open Go.Proofs.YtkifijclehgiaaaW.PrintWords
theorem seen_pred (B1 B2 : Nat) (lo hi : Int) (w : World) (h1 : B1 < w.heap.size) (h2 : B2 < w.heap.size) (c1 : w.cell? ⟨B1, 3, none⟩ = some (.int .i64 lo)) (c2 : w.cell? ⟨B2, 3, none⟩ = some (.int .i64 hi)) :
    PredAt Try.prog 62 #[.pointer (some ⟨B1, 0, none⟩), .pointer (some ⟨B2, 0, none⟩)] (Value.int .i64) (fun t => decide (lo ≤ t) && decide (t < hi)) w := fun W x hb => by
  have d1 : W.cell? ⟨B1, 3, none⟩ = some (.int .i64 lo) := (hb.cell (p := ⟨B1, 3, none⟩) h1).trans c1
  have d2 : W.cell? ⟨B2, 3, none⟩ = some (.int .i64 hi) := (hb.cell (p := ⟨B2, 3, none⟩) h2).trans c2
  show Calls Try.prog 62 #[.int .i64 x, .pointer (some ⟨B1, 0, none⟩), .pointer (some ⟨B2, 0, none⟩)] W _
  go_enter Try.func62, Try.ntmps62
  go_wp2
  all_goals (go_ret; exact ⟨by simp_all <;> omega, 0, rfl⟩)
theorem cell_alloc (w : World) (cs : Array Value) (e i : Nat) (v : Value) (h : cs[i]? = some v) : (w.alloc (.cells cs e)).cell? ⟨w.heap.size, i, none⟩ = some v := by
  unfold World.cell?
  rw [show (w.alloc (.cells cs e)).heap = w.heap.push (.cells cs e) from rfl, Array.getElem?_push_size]
  simpa using h
def seenB (l : List Int) (lo hi : Int) : Bool := l.any fun t => decide (lo ≤ t) && decide (t < hi)
set_option maxHeartbeats 2000000 in
theorem seen_calls (A0 : Option Addr) (c0 : Nat) (l0 : List Int) (a1_0 : ByteArray) (a1_1 : Int) (a1_2 : Bool) (a1_3 : Int) (a2_0 : ByteArray) (a2_1 : Int) (a2_2 : Bool) (a2_3 : Int) (w : World) (hr0 : Kd.C (Kd.int .i64) w A0 l0.length l0) (hc0 : l0.length ≤ c0) :
    Calls Try.prog 48 #[.slice A0 l0.length c0, .agg #[.string a1_0, .int .i64 a1_1, .bool a1_2, .int .i64 a1_3], .agg #[.string a2_0, .int .i64 a2_1, .bool a2_2, .int .i64 a2_3]] w fun e w' => e = .returned (.bool (seenB l0 a1_3 a2_3)) ∧ Below w.heap.size w w' := by
  obtain ⟨_, hbig, hcells⟩ := Kd.reads_of_C (d := (0 : Int)) (h1 := fun _ => rfl) hr0
  have eg : ∀ args w, (callFunc 62 args).run Try.prog w = .ok (.enter 62 args) w := enters_of Try.func62 (by kernel_rfl) rfl
  let v1 : List Value := [.string a1_0, .int .i64 a1_1, .bool a1_2, .int .i64 a1_3]
  let v2 : List Value := [.string a2_0, .int .i64 a2_1, .bool a2_2, .int .i64 a2_3]
  let w2 : World := (w.alloc (.cells v1.toArray 27)).alloc (.cells v2.toArray 27)
  have hcon : Calls Try.prog 61 #[.slice A0 l0.length c0, .func (.func 62) #[] #[.pointer (some ⟨w.heap.size, 0, none⟩), .pointer (some ⟨w.heap.size + 1, 0, none⟩)]] w2 fun e w' => e = .returned (.bool (seenB l0 a1_3 a2_3)) ∧ Below w.heap.size w w' := by
    have bw : Below w.heap.size w w2 := ((Below.refl _ w).alloc (Nat.le_refl _) _).alloc (by simp) _
    by_cases h0 : l0.length = 0
    · have : l0 = [] := List.eq_nil_of_length_eq_zero h0
      subst this
      have := AnyE.slices_ContainsFunc_empty Try.l61 A0 c0 (.func (.func 62) #[] #[.pointer (some ⟨w.heap.size, 0, none⟩), .pointer (some ⟨w.heap.size + 1, 0, none⟩)]) w2
      exact this.mono fun e w' h => by obtain ⟨rfl, rfl⟩ := h; exact ⟨rfl, bw⟩
    · obtain ⟨ad, rfl, hc⟩ := hcells (by omega)
      obtain ⟨b, off, sp⟩ := ad
      have hs : sp = none := by
        have := hc 0 (by omega)
        cases sp with
        | none => rfl
        | some s => simp [World.cell?, Addr.add] at this; split at this <;> simp at this
      subst hs
      have hcj : ∀ j, j < l0.length → w.cell? ⟨b, off + j, none⟩ = some (.int .i64 l0[j]!) := fun j hj => by
        have := hc j hj
        rw [List.getD_eq_getElem?_getD, List.getElem?_eq_getElem hj] at this
        rw [getElem!_pos l0 j hj]
        unfold Addr.add at this
        split at this
        · rename_i e; subst e; simpa using this
        · simpa using this
      have hlt : ∀ j, j < l0.length → w2.cell? ⟨b, off + j, none⟩ = some (.int .i64 l0[j]!) := fun j hj => Lib.cell?_alloc_some _ (Lib.cell?_alloc_some _ (hcj j hj))
      have := AnyE.slices_ContainsFunc Try.l61 (Value.int .i64) (fun t => decide (a1_3 ≤ t) && decide (t < a2_3)) 62 #[.pointer (some ⟨w.heap.size, 0, none⟩), .pointer (some ⟨w.heap.size + 1, 0, none⟩)] eg b off l0.length c0 l0 w2
        (seen_pred w.heap.size (w.heap.size + 1) a1_3 a2_3 w2 (by simp [w2]; omega) (by simp [w2]) (Lib.cell?_alloc_some _ (cell_alloc w v1.toArray 27 3 _ rfl)) (by have := cell_alloc (w.alloc (.cells v1.toArray 27)) v2.toArray 27 3 (.int .i64 a2_3) rfl; simpa [w2] using this)) (Nat.le_refl _) hbig hlt
      rw [List.take_length] at this
      exact this.mono fun e w' h => by obtain ⟨rfl, q, rfl⟩ := h; exact ⟨rfl, below_drewN' bw q⟩
  clear hcells hr0
  generalize seenB l0 a1_3 a2_3 = r at hcon ⊢
  go_enter Try.func48, Try.ntmps48
  go_wp2_with (go_at_call 61; refine hcon.mono ?_; rintro e w' ⟨rfl, hb⟩)
  go_ret
  exact ⟨rfl, hb⟩
end Go.Proofs.Ytkifijclehgiaaa
