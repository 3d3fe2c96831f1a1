/-
  The plain law of FnExactRunJoin: what the printed functions compute answers true, for every argument that fits; and the lemmas on each function that it reaches. No condition beyond that numbers are of their kind and lengths within a slice's.
-/
import Derived.Test.YtmbfoookfcfmeaaFnExactRunJoinT
namespace Go.Proofs.Ytmbfoookfcfmeaa.PFnExactRunJoin
open Go.RowKit Go.Proofs.YtmbfoookfcfmeaaW.PrintWords Go.Proofs.YtmbfoookfcfmeaaW.PrintLast Go.Proofs.YtmbfoookfcfmeaaW.PrintMore
set_option linter.unusedVariables false
set_option linter.unusedSimpArgs false

/-! #### the law -/
theorem joinF_len40 (a b : List S36) : (joinF a b).1.length ≤ 40 := by
  unfold joinF
  split
  · rename_i c
    simp only [Bool.and_eq_true] at c
    exact runB_len c.2.2
  · simp
theorem law_j2 (k : Nat) (hk : 200000000000 < k) (n : Nat) (hn : n ≤ 40) : laws_FnExactRunJoin.j2 (k + 1) (ms n) (1 + 4 * (n : Int)) false = some true := by
  simp only [laws_FnExactRunJoin.j2]
  rw [if_neg (by simp), heldEntryS_f n (by omega) k hk]; simp only [Option.bind_some]
  rw [if_neg (by omega), if_pos trivial]
theorem law_k (l0 l1 : List S33) (h0 : l0.length ≤ 9223372036854775807) (o0 : ∀ x ∈ l0, x.f0.size ≤ 9223372036854775807) (h1 : l1.length ≤ 9223372036854775807) (o1 : ∀ x ∈ l1, x.f0.size ≤ 9223372036854775807) (k : Nat) (hk : 9999999999999990000 < k) : laws_FnExactRunJoin.f k l0 l1 = some true := by
  unfold laws_FnExactRunJoin.f
  obtain ⟨v, hv, v1, v2, v3⟩ := szEntryS_f l0 h0 o0 1048576 (by omega) (by omega) k (by omega)
  rw [hv]; simp only [Option.bind_some]
  by_cases c : v < 0
  · rw [if_pos c]
  rw [if_neg c]
  obtain ⟨u, hu, u1, u2, u3⟩ := szEntryS_f l1 h1 o1 v (by omega) (by omega) k (by omega)
  rw [hu]; simp only [Option.bind_some]
  by_cases c2 : u < 0
  · rw [if_pos c2]
  rw [if_neg c2]
  have hl0 := v3 (by omega)
  have hl1 := u3 (by omega)
  have m0 : (l0.map cvE).length = l0.length := List.length_map _
  have m1 : (l1.map cvE).length = l1.length := List.length_map _
  have hT0 : ∀ k : Nat, 10000000 < k → laws_toEntryS.f k l0 = some (l0.map cvE) := fun k hk => toEntryS_f l0 (by omega) k (by omega)
  have hT1 : ∀ k : Nat, 10000000 < k → laws_toEntryS.f k l1 = some (l1.map cvE) := fun k hk => toEntryS_f l1 (by omega) k (by omega)
  have hjl := joinF_len40 (l0.map cvE) (l1.map cvE)
  have hS : ∀ k : Nat, 9999999999999980000 < k → spec_RunJoin.f k (l0.map cvE) (l1.map cvE) = some (joinF (l0.map cvE) (l1.map cvE)) := fun k hk => specRunJoin_f _ _ (by omega) (by omega) _ (okMap o0) (okMap o1) k (by omega)
  have hI : ∀ k : Nat, 9999999999999980000 < k → impl_RunJoin.f k (l0.map cvE) (l1.map cvE) = some (joinF (l0.map cvE) (l1.map cvE)) := fun k hk => implRunJoin_f _ _ (by omega) (by omega) _ (okMap o0) (okMap o1) k (by omega)
  rw [hT0 k (by omega), hT1 k (by omega)]; simp only [Option.bind_some]
  rw [hS k (by omega), hI k (by omega)]; simp only [Option.bind_some]
  rw [eqEntryS_f _ (by omega) k (by omega)]; simp only [Option.bind_some, if_true]
  obtain ⟨k, rfl⟩ := fuel (show 0 < k by omega)
  simp only [laws_FnExactRunJoin.j0]
  rw [if_neg (by simp), hT0 k (by omega)]; simp only [Option.bind_some]
  rw [eqEntryS_f _ (by omega) k (by omega)]; simp only [Option.bind_some, if_true]
  rw [hT1 k (by omega)]; simp only [Option.bind_some]
  rw [eqEntryS_f _ (by omega) k (by omega)]; simp only [Option.bind_some, if_true]
  rw [markEntryS2_f _ (by omega) k (by omega)]; simp only [Option.bind_some]
  obtain ⟨ys, hy, _⟩ := markEntryS_f (l1.map cvE) (1 + 4 * ((l0.map cvE).length : Int)) (by omega) k (by omega) (by omega) (by omega)
  rw [hy]; simp only [Option.bind_some]
  rw [if_neg (by omega), eqEntryS_f _ (by omega) k (by omega)]; simp only [Option.bind_some, if_true]
  obtain ⟨k, rfl⟩ := fuel (show 0 < k by omega)
  simp only [laws_FnExactRunJoin.j1]
  rw [if_neg (by simp), markEntryS2_f _ (by omega) k (by omega)]; simp only [Option.bind_some]
  rw [heldEntryS_f _ (by omega) k (by omega)]; simp only [Option.bind_some]
  rw [if_neg (by omega), if_pos trivial, hT0 k (by omega)]; simp only [Option.bind_some]
  rw [hT1 k (by omega)]; simp only [Option.bind_some]
  rw [hI k (by omega)]; simp only [Option.bind_some]
  rw [eqEntryS_f _ (by omega) k (by omega)]; simp only [Option.bind_some, if_true]
  obtain ⟨k, rfl⟩ := fuel (show 0 < k by omega)
  rw [show ((joinF (l0.map cvE) (l1.map cvE)).2 != (joinF (l0.map cvE) (l1.map cvE)).2) = false by simp]
  exact law_j2 k (by omega) _ hjl
theorem law (l0 l1 : List S33) (h : l0.length ≤ maxLen ∧ ∀ x ∈ l0, okLE x) (h' : l1.length ≤ maxLen ∧ ∀ x ∈ l1, okLE x) : ∃ k, laws_FnExactRunJoin.f k l0 l1 = some true := by
  obtain ⟨h0, o0⟩ := okLEs h
  obtain ⟨h1, o1⟩ := okLEs h'
  exact ⟨10000000000000000000, law_k l0 l1 h0 o0 h1 o1 _ (by omega)⟩

end Go.Proofs.Ytmbfoookfcfmeaa.PFnExactRunJoin
