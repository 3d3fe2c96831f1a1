/-
  The law FnExactRunKeys returns true for every input, and each argument reads afterwards as it read before: the row, out of the printed walk and the plain law. No condition.
-/
import Derived.Test.YtbeinioebhiidaaRows
import Derived.Test.YtbeinioebhiidaaFnExactRunKeysA
import Derived.Test.YtbeinioebhiidaaRd
import Derived.WalkKit
import Derived.ProofKit
import Derived.OpenShut
import Derived.ShutString
import Derived.ChangeOld
import Derived.Below
import Derived.SizedLaws
namespace Go.Proofs.Ytbeinioebhiidaa.fnExactRunKeys
open Go.ChangeShapes Go.WideShapes Go.ChangeAt Go.RowKit
open Go.ChangeMaps (open_string shut_string)
open Go.Proofs.Ytbeinioebhiidaa.Rd Go.Proofs.Ytbeinioebhiidaa.PFnExactRunKeys Go.Proofs.YtbeinioebhiidaaW.PrintWords
set_option linter.unusedVariables false
theorem own : ownKnob Try.prog.godebug = none := by kernel_rfl
theorem laidOut : laidOutB Try.prog = true := by kernel_rfl
theorem rd51 : Rd Try.prog 51 k51 (fun x : S51 => x.f0.size ≤ maxLen ∧ (Lit.int .i64 x.f1).wf = true ∧ True ∧ (Lit.int .i64 x.f3).wf = true) := Rd.iso (P := Try.prog) (t := 51) (fun x : S51 => (x.f0, x.f1, x.f2, x.f3)) (fun x => ⟨x.1, x.2.1, x.2.2.1, x.2.2.2⟩) (fun _ => rfl) (Rd.struct Try.underlying51 (by kernel_rfl) (FRd.cons rfl (by kernel_rfl) (Rd.str Try.underlying9) (FRd.cons rfl (by kernel_rfl) (Rd.int Try.underlying3) (FRd.cons rfl (by kernel_rfl) (Rd.bool Try.underlying4) (FRd.last rfl (by kernel_rfl) (Rd.int Try.underlying3))))))
set_option maxRecDepth 100000 in
theorem lifted (os : Os) (started : os.Started) (H : Type) (enc : TypeId × Value → H) :
    ReturnsInHanded {} Try.checked os 6 .any (Rows.fnExactRunKeysSpec.pre6 enc Try.prog Try.f6 Rows.fnExactRunKeysRow.domain false) (Rows.fnExactRunKeysSpec.post enc Try.prog Try.f6 false true false false) := by
  refine returnsInHanded_of_change_sized (C := Try.checked) own started (by kernel_rfl) Try.func6
    (ChangeSpec.witness6 (enc := enc) (C := Try.checked) false ⟨#[], #[.slice none 0 0], []⟩ 8 (by kernel_rfl) (by kernel_rfl) (by kernel_rfl) (by kernel_rfl)) ?_
  intro W base args ds gs before hval0 hW hcnd hsz0 _
  have hsz : (DataW.weightsEach Try.prog (Try.f6.params.toList ++ Rows.fnExactRunKeysSpec.plain.varTypes Try.prog) (ds ++ gs)).all (· ≤ reachBytes) = true := hsz0
  have hval : ∀ (j : Nat) t v, Try.f6.params[j]? = some t → args[j]? = some v → Value.okWide Try.prog W .any base t v := hval0
  have hW' := hW
  obtain ⟨p, q, hA0, hV, rfl, hfz, hnd⟩ := hW
  have hA : DataW.TrodAll enc Try.prog W 0 (fun _ => true) true Try.f6.params.toList args.toList ds p := hA0
  rw [Try.params6] at hA hval hsz
  obtain ⟨v0, vs0, d0, ds0, p0, q0, hargs, rfl, rfl, h0, r0⟩ := trodAll_cons hA
  obtain ⟨rfl, rfl, rfl⟩ := trodAll_nil r0
  obtain rfl : args = #[v0] := by cases args; simp_all
  obtain ⟨rfl, rfl⟩ := trodVars_none hV
  obtain ⟨a0, len0, cap0, rfl⟩ := okWide_slice Try.underlying22 (hval 0 22 v0 rfl rfl)
  have k0 := h0
  have lt0 : ∀ x ∈ p0, x.block < W.heap.size := by obtain ⟨m, hm⟩ := k0; exact DataW.trod_lt m _ _ _ hm
  obtain ⟨l0, rfl, hc0, hr0, ok0⟩ := Rd.arg_slice (Rd.slice Try.underlying22 (by kernel_rfl) rd51) h0
  clear hA0 hval0 hsz0 hsz
  obtain ⟨k, h⟩ := PFnExactRunKeys.law l0 ok0
  refine (PFnExactRunKeys.laws_FnExactRunKeys.calls k _ _ l0 true W hr0 hc0 h).mono fun e W' ⟨he, bel⟩ => ?_
  subst he
  exact ⟨_, rfl, _, _, _, [], _, [], hW', trodAll_mk1 (shut_bool Try.underlying4 _), (trodAll_cons_mk (Below.trod laidOut (by kernel_rfl) (of_decide_eq_true (by kernel_rfl)) k0 bel lt0) trodAll_mk0), rfl, bel.frame _, fun h => by cases h⟩
theorem over : Rows.fnExactRunKeysRow.holds Try.pinned (OpenSpec.ofChange Rows.fnExactRunKeysSpec) :=
  OpenClaim.holds_of_wide 6 Try.f6 rfl rfl rfl rfl rfl rfl rfl ⟨rfl, rfl, rfl, rfl, rfl⟩ rfl rfl rfl rfl rfl (by kernel_rfl) Try.func6 (by kernel_rfl)
    (of_decide_eq_true (by kernel_rfl)) (by unfold Func.isWrapper; first | (rw [if_pos (by decide +kernel)]; kernel_rfl) | (rw [if_neg (by decide +kernel)]; exact ⟨rfl, rfl⟩))
    (fun os started H enc _ => lifted os started H enc)
theorem proved : Rows.FnExactRunKeysSaid := over
#print axioms proved
end Go.Proofs.Ytbeinioebhiidaa.fnExactRunKeys
namespace Go.Proofs.Ytbeinioebhiidaa
/-- The row, under a short name, for the claim. -/
theorem fnExactRunKeys_holds : Rows.FnExactRunKeysSaid := fnExactRunKeys.proved
end Go.Proofs.Ytbeinioebhiidaa
