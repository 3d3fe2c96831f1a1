/-
  The plain law of FnRunJoinThree: what the printed functions compute answers true, for every argument that fits; and the lemmas on each function that it reaches. No condition beyond that numbers are of their kind and lengths within a slice's.
-/
import Derived.Test.YtkifijclehgiaaaFnRunJoinThreeT
namespace Go.Proofs.Ytkifijclehgiaaa.PFnRunJoinThree
open Go.RowKit Go.Proofs.YtkifijclehgiaaaW.PrintWords Go.Proofs.YtkifijclehgiaaaW.PrintLast Go.Proofs.YtkifijclehgiaaaW.PrintMore
set_option linter.unusedVariables false
set_option linter.unusedSimpArgs false

/-! #### the law -/
theorem joinF_three {a b c x y : List S27} (h1 : joinF a b = (x, true)) (h2 : joinF x c = (y, true)) : ∃ z, joinF b c = (z, true) ∧ joinF a z = (y, true) := by
  obtain ⟨ra, rb, rx, ex⟩ := joinF_true h1
  obtain ⟨_, rc, ry, ey⟩ := joinF_true h2
  have px : x.Perm (a ++ b) := by rw [ex]; exact merge_perm a b
  have py : y.Perm (x ++ c) := by rw [ey]; exact merge_perm x c
  have py2 : y.Perm (a ++ (b ++ c)) := by rw [← List.append_assoc]; exact py.trans (px.append_right c)
  have nt : NoTie (b ++ c) := (List.pairwise_append.1 (noTie_perm py2 (str_noTie (run_str ry)))).2.1
  have pz := merge_perm b c
  have rz : runB (List.merge b c aheadB) = true := by
    refine runB_of2 ?_ (fun w hw => ?_) (merge_str b c (run_str rb) (run_str rc) nt)
    · have l1 := py2.length_eq
      have l2 := runB_len ry
      rw [pz.length_eq]
      rw [List.length_append] at l1
      omega
    · exact runB_entry ry w (py2.mem_iff.2 (List.mem_append_right a (pz.mem_iff.1 hw)))
  exact ⟨_, joinF_of rb rc rz pz, joinF_of ra rz ry (py2.trans (pz.symm.append_left a))⟩
theorem three_j0 (l0 l1 : List Int) (h0 : ∀ x ∈ l0, 0 ≤ x ∧ x ≤ 255) (h1 : ∀ x ∈ l1, 0 ≤ x ∧ x ≤ 255) (t : Bool) (k : Nat) (hk : 50000000 < k) : laws_FnRunJoinThree.j0 (k + 1) l0 l1 t = some true := by
  simp only [laws_FnRunJoinThree.j0]
  cases t
  rotate_left
  · rfl
  rw [if_neg (by simp)]
  obtain ⟨a, b, h, a1, a2, b1, b2⟩ := drawRunJoin_f l0 h0 k (by omega)
  rw [h]; simp only [Option.bind_some]
  obtain ⟨c, c', h, c1, c2, _, _⟩ := drawRunJoin_f l1 h1 k (by omega)
  rw [h]; simp only [Option.bind_some]
  have oa : ∀ x ∈ a, x.f0.size ≤ 9223372036854775807 ∧ x.f0.size < 7 := fun x hx => by have := a2 x hx; omega
  have ob : ∀ x ∈ b, x.f0.size ≤ 9223372036854775807 ∧ x.f0.size < 7 := fun x hx => by have := b2 x hx; omega
  have oc : ∀ x ∈ c, x.f0.size ≤ 9223372036854775807 ∧ x.f0.size < 7 := fun x hx => by have := c2 x hx; omega
  have hjl := joinF_len a b
  have hjl2 := joinF_len b c
  have ox : ∀ z ∈ (joinF a b).1, z.f0.size ≤ 9223372036854775807 ∧ z.f0.size < 7 := fun z hz => by
    rcases joinF_mem hz with h | h
    · exact oa z h
    · exact ob z h
  have oz : ∀ z ∈ (joinF b c).1, z.f0.size ≤ 9223372036854775807 ∧ z.f0.size < 7 := fun z hz => by
    rcases joinF_mem hz with h | h
    · exact ob z h
    · exact oc z h
  have hjl3 := joinF_len a (joinF b c).1
  rw [specRunJoin_f a b (by omega) (by omega) 7 oa ob k (by omega)]; simp only [Option.bind_some]
  rw [implRunJoin_f a b (by omega) (by omega) 7 oa ob k (by omega)]; simp only [Option.bind_some]
  rw [if_neg (by simp), ltRuns_f _ (by omega) k (by omega)]; simp only [Option.bind_some, if_true]
  obtain ⟨k, rfl⟩ := fuel (show 0 < k by omega)
  simp only [laws_FnRunJoinThree.j1]
  cases hj : (joinF a b).2
  · rw [Bool.not_false, if_pos rfl, if_pos (by simp), ltRuns_f _ (by omega) k (by omega)]; rfl
  · rw [Bool.not_true, if_neg (by simp)]
    rw [implRunJoin_f (joinF a b).1 c (by omega) (by omega) 7 ox oc k (by omega)]; simp only [Option.bind_some]
    rw [implRunJoin_f b c (by omega) (by omega) 7 ob oc k (by omega)]; simp only [Option.bind_some]
    rw [implRunJoin_f a (joinF b c).1 (by omega) (by omega) 7 oa oz k (by omega)]; simp only [Option.bind_some]
    cases hy : (joinF (joinF a b).1 c).2
    · rw [if_neg (by simp)]
    · obtain ⟨z, e1, e2⟩ := joinF_three (a := a) (b := b) (c := c) (x := (joinF a b).1) (y := (joinF (joinF a b).1 c).1) (by rw [← hj]) (by rw [← hy])
      rw [e1] at hjl3 ⊢
      rw [e2] at hjl3 ⊢
      simp only [if_true]
      rw [ltRuns_f _ (by have := joinF_len b c; rw [e1] at this; simp at this hjl3; omega) k (by have := joinF_len b c; rw [e1] at this; simp at this hjl3; omega)]; rfl
theorem law_f (l0 l1 : List Int) (h0 : ∀ x ∈ l0, 0 ≤ x ∧ x ≤ 255) (h1 : ∀ x ∈ l1, 0 ≤ x ∧ x ≤ 255) : ∃ k, laws_FnRunJoinThree.f k l0 l1 = some true := by
  refine ⟨60000000 + 1, ?_⟩
  unfold laws_FnRunJoinThree.f
  split <;> exact three_j0 l0 l1 h0 h1 _ 60000000 (by omega)
theorem law : laws_FnRunJoinThree.Pure := fun l0 l1 _ _ h0 _ _ h1 => law_f l0 l1 (fun x hx => byte_wf (h0 x hx)) (fun x hx => byte_wf (h1 x hx))

end Go.Proofs.Ytkifijclehgiaaa.PFnRunJoinThree
