/-
 Functions that FnRunJoinAt reaches,each as a Lean function,and that Go comes to its answer: printed by the kit's printer,the sort's comparing function and impl.RunJoin's part laid by hand. Conditions: those that stand in each statement.
-/
import Derived.Test.YtkifijclehgiaaaPFnRunJoinAtx0
import Derived.Test.YtkifijclehgiaaaPFnRunJoinAtx9
import Derived.Test.YtkifijclehgiaaaPFnRunJoinAtx11
import Derived.Test.YtkifijclehgiaaaGv
import Derived.Test.YtkifijclehgiaaaPFnRunJoinAtx12d
import Derived.Test.YtkifijclehgiaaaPFnRunJoinAtx12e
import Derived.Test.YtkifijclehgiaaaPFnRunJoinAtx12f
import Derived.Test.YtkifijclehgiaaaPFnRunJoinAtx12g
namespace Go.Proofs.Ytkifijclehgiaaa.PFnRunJoinAt
open Go.RowKit Go.Proofs.YtkifijclehgiaaaW.PrintWords Go.Proofs.YtkifijclehgiaaaW.PrintLast Go.Proofs.YtkifijclehgiaaaW.PrintMore
attribute [local go_sem] max2_int min2_int max_two min_two max_three min_three max_four min_four   -- for this text's walks alone
set_option linter.unusedVariables false
set_option linter.unusedSimpArgs false

set_option maxHeartbeats 8000000 in
set_option maxRecDepth 100000 in

theorem impl_Entry_71.calls (k : Nat) : ∀ (P0_ : Nat → Prop) (u9000_ : Value) (l0 : List (S27)) (a1 : Int) (a2 : Int) (a3 : Int) (a4 : Int) (r : List (S27)) (w0 w : World) (hB : Below w0.heap.size w0 w) (ho0 : Kd.R k27 27 w w0.heap.size P0_ u9000_ l0) (h : impl_Entry_71.f k l0 a1 a2 a3 a4 = some r),
  Calls Try.prog 71 #[u9000_,.int .i64 a1,.int .i64 a2,.int .i64 a3,.func (.func 54) #[] #[]] w fun e w' => e = .returned (.tuple #[]) ∧ Kd.R k27 27 w' w0.heap.size (fun k_ => (P0_ k_ ∨ w.heap.size ≤ k_)) u9000_ r ∧ Below w0.heap.size w0 w' ∧ Kept w w' (fun k_ => P0_ k_):=by
 induction k using Nat.strongRecOn with
 | _ k ih =>
 intro P0_ u9000_ l0 a1 a2 a3 a4 r w0 w hB ho0 h
 cases k with
 | zero => exact absurd h (by simp [impl_Entry_71.f])
 | succ k =>
 simp only [impl_Entry_71.f] at h
 have hu27:=Try.underlying27
 have HO0:=Aside0.mk (show Kd.R k27 27 w w0.heap.size (fun k_ => (P0_ k_ ∨ w.heap.size ≤ k_)) u9000_ l0 from Kd.R_mono ho0 (fun k_ hk => (.inl hk)))
 have HK:=Aside0.mk (Kept.refl w (fun k_ => P0_ k_))
 have HW0:=Aside0.mk hB.size
 have HB:=Aside0.mk hB
 clear hB
 have H : (if (wrap64 (a2 - a1)) = 1 then (impl_Entry_71.l0 k l0 a1 a2 a3) else (if (wrap64 (a3 - a2)) = 1 then (impl_Entry_71.l2 k l0 a2 a1 a2) else (if a2 > (wrap64 ((IntKind.u64.wrap (wrap64 (a1 + a3))) / 2)) then (impl_Entry_71.j4 k l0 a1 a2 a3 a4 (wrap64 ((IntKind.u64.wrap (wrap64 (a1 + a3))) / 2)) (wrap64 ((wrap64 ((IntKind.u64.wrap (wrap64 (a1 + a3))) / 2)) + a2)) (wrap64 ((wrap64 ((wrap64 ((IntKind.u64.wrap (wrap64 (a1 + a3))) / 2)) + a2)) - a3)) (wrap64 ((IntKind.u64.wrap (wrap64 (a1 + a3))) / 2))) else (impl_Entry_71.j4 k l0 a1 a2 a3 a4 (wrap64 ((IntKind.u64.wrap (wrap64 (a1 + a3))) / 2)) (wrap64 ((wrap64 ((IntKind.u64.wrap (wrap64 (a1 + a3))) / 2)) + a2)) a1 a2)))) = some r:=h
 clear h
 by_cases c6 : (wrap64 (a2 - a1)) = 1
 ·exact impl_Entry_71.way1 k P0_ u9000_ l0 a1 a2 a3 a4 r w0 w HO0 HK HW0 HB H c6
 by_cases c33 : (wrap64 (a3 - a2)) = 1
 ·exact impl_Entry_71.way2 k P0_ u9000_ l0 a1 a2 a3 a4 r w0 w HO0 HK HW0 HB H c6 c33
 exact impl_Entry_71.way3 k ih P0_ u9000_ l0 a1 a2 a3 a4 r w0 w HO0 HK HW0 HB H c6 c33
end Go.Proofs.Ytkifijclehgiaaa.PFnRunJoinAt
