/-
  The plain law of FnRunJoinAt: what the printed functions compute answers true, for every argument that fits; and the lemmas on each function that it reaches. No condition beyond that numbers are of their kind and lengths within a slice's.
-/
import Derived.Test.YtkifijclehgiaaaFnRunJoinAtT
import Derived.Test.YtkifijclehgiaaaPFnRunJoinAtx14
namespace Go.Proofs.Ytkifijclehgiaaa.PFnRunJoinAt
open Go.RowKit Go.Proofs.YtkifijclehgiaaaW.PrintWords Go.Proofs.YtkifijclehgiaaaW.PrintLast Go.Proofs.YtkifijclehgiaaaW.PrintMore
set_option linter.unusedVariables false
set_option linter.unusedSimpArgs false

/-! #### the law -/
theorem join_hit {a b x : List S27} (ra : runB a = true) (rb : runB b = true) (rx : runB x = true) (hp : x.Perm (a ++ b)) {q : ByteArray} {t : Int} {f : S27} (hf : a.find? (hitA q t) = some f) (hg : ∀ g, b.find? (hitA q t) = some g → g.f3 < f.f3) : x.find? (hitA q t) = some f := by
  obtain ⟨h1, h2, h3, h4⟩ := find_max ra hf
  have hx := hp.mem_iff.2 (List.mem_append_left b h1)
  obtain ⟨e, he⟩ := find_some hx h2 h3
  obtain ⟨g1, g2, g3, g4⟩ := find_max rx he
  have l1 := g4 f hx h2 h3
  have l2 : e.f3 ≤ f.f3 := by
    rcases List.mem_append.1 (hp.mem_iff.1 g1) with m | m
    · exact h4 e m g2 g3
    · obtain ⟨g, hg'⟩ := find_some m g2 g3
      have := (find_max rb hg').2.2.2 e m g2 g3
      have := hg g hg'
      omega
  rw [he, run_uniq rx g1 hx (g2.trans h2.symm) (Int.le_antisymm l2 l1)]
theorem join_none {a b x : List S27} (hp : x.Perm (a ++ b)) {q : ByteArray} {t : Int} (h1 : a.find? (hitA q t) = none) (h2 : b.find? (hitA q t) = none) : x.find? (hitA q t) = none :=
  List.find?_eq_none.2 fun e he => by
    rcases List.mem_append.1 (hp.mem_iff.1 he) with m | m
    · exact List.find?_eq_none.1 h1 e m
    · exact List.find?_eq_none.1 h2 e m
theorem join_hit2 {a b x : List S27} (ra : runB a = true) (rb : runB b = true) (rx : runB x = true) (hp : x.Perm (a ++ b)) {q : ByteArray} {t : Int} {g : S27} (hf : ∀ f, a.find? (hitA q t) = some f → f.f3 ≤ g.f3) (hg : b.find? (hitA q t) = some g) : x.find? (hitA q t) = some g := by
  obtain ⟨h1, h2, h3, h4⟩ := find_max rb hg
  have hx := hp.mem_iff.2 (List.mem_append_right a h1)
  obtain ⟨e, he⟩ := find_some hx h2 h3
  obtain ⟨g1, g2, g3, g4⟩ := find_max rx he
  have l1 := g4 g hx h2 h3
  have l2 : e.f3 ≤ g.f3 := by
    rcases List.mem_append.1 (hp.mem_iff.1 g1) with m | m
    · obtain ⟨f, hf'⟩ := find_some m g2 g3
      have := (find_max ra hf').2.2.2 e m g2 g3
      have := hf f hf'
      omega
    · exact h4 e m g2 g3
  rw [he, run_uniq rx g1 hx (g2.trans h2.symm) (Int.le_antisymm l2 l1)]
theorem at_j0 (l0 l1 : List Int) (h0 : ∀ x ∈ l0, 0 ≤ x ∧ x ≤ 255) (h1 : ∀ x ∈ l1, 0 ≤ x ∧ x ≤ 255) (t : Bool) (k : Nat) (hk : 50000000 < k) : laws_FnRunJoinAt.j0 (k + 1) l0 l1 t = some true := by
  simp only [laws_FnRunJoinAt.j0]
  cases t
  rotate_left
  · rfl
  rw [if_neg (by simp)]
  obtain ⟨a, b, h, a1, a2, b1, b2⟩ := drawRunJoin_f l0 h0 k (by omega)
  rw [h]; simp only [Option.bind_some]
  obtain ⟨r, q, t, h, _, _, _, _, _⟩ := drawRunAt_f l1 h1 k (by omega)
  rw [h]; simp only [Option.bind_some]
  have oa : ∀ x ∈ a, x.f0.size ≤ 9223372036854775807 ∧ x.f0.size < 7 := fun x hx => by have := a2 x hx; omega
  have ob : ∀ x ∈ b, x.f0.size ≤ 9223372036854775807 ∧ x.f0.size < 7 := fun x hx => by have := b2 x hx; omega
  have hjl := joinF_len a b
  rw [specRunJoin_f a b (by omega) (by omega) 7 oa ob k (by omega)]; simp only [Option.bind_some]
  rw [implRunJoin_f a b (by omega) (by omega) 7 oa ob k (by omega)]; simp only [Option.bind_some]
  rw [if_neg (by simp), ltRuns_f _ (by omega) k (by omega)]; simp only [Option.bind_some, if_true]
  obtain ⟨k, rfl⟩ := fuel (show 0 < k by omega)
  simp only [laws_FnRunJoinAt.j1]
  cases hj : (joinF a b).2
  · rw [Bool.not_false, if_pos rfl, if_pos (by simp), ltRuns_f _ (by omega) k (by omega)]; rfl
  · rw [Bool.not_true, if_neg (by simp)]
    obtain ⟨x, hx⟩ : ∃ x, joinF a b = (x, true) := ⟨(joinF a b).1, by rw [← hj]⟩
    obtain ⟨ra, rb, rx, ex⟩ := joinF_true hx
    have hp : x.Perm (a ++ b) := by rw [ex]; exact merge_perm a b
    have ox : ∀ z ∈ x, z.f0.size ≤ 9223372036854775807 ∧ z.f0.size < 7 := fun z hz => by
      rcases List.mem_append.1 (hp.mem_iff.1 hz) with hz | hz
      · exact oa z hz
      · exact ob z hz
    have hxl := hp.length_eq
    rw [List.length_append] at hxl
    rw [hx]
    rw [implRunAt_f x q t (by omega) 7 ox k (by omega), implRunAt_f a q t (by omega) 7 oa k (by omega), implRunAt_f b q t (by omega) 7 ob k (by omega)]
    simp only [Option.bind_some]
    rw [show runAtF x q t = x.find? (hitA q t) by unfold runAtF; rw [if_pos rx], show runAtF a q t = a.find? (hitA q t) by unfold runAtF; rw [if_pos ra], show runAtF b q t = b.find? (hitA q t) by unfold runAtF; rw [if_pos rb]]
    cases hf : a.find? (hitA q t) with
    | none =>
      cases hg : b.find? (hitA q t) with
      | none => rw [join_none hp hf hg]; simp [atT]
      | some g => rw [join_hit2 ra rb rx hp (fun f h => by rw [hf] at h; cases h) hg]; simp [atT]
    | some f =>
      cases hg : b.find? (hitA q t) with
      | none => rw [join_hit ra rb rx hp hf (fun g h => by rw [hg] at h; cases h)]; simp [atT]
      | some g =>
        by_cases c : f.f3 > g.f3
        · rw [join_hit ra rb rx hp hf (fun g' h => by rw [hg] at h; cases h; exact c)]; simp [atT, c]
        · rw [join_hit2 ra rb rx hp (fun f' h => by rw [hf] at h; cases h; omega) hg]; simp [atT, c]
theorem law_f (l0 l1 : List Int) (h0 : ∀ x ∈ l0, 0 ≤ x ∧ x ≤ 255) (h1 : ∀ x ∈ l1, 0 ≤ x ∧ x ≤ 255) : ∃ k, laws_FnRunJoinAt.f k l0 l1 = some true := by
  refine ⟨60000000 + 1, ?_⟩
  unfold laws_FnRunJoinAt.f
  split <;> exact at_j0 l0 l1 h0 h1 _ 60000000 (by omega)
theorem law : laws_FnRunJoinAt.Pure := fun l0 l1 _ _ h0 _ _ h1 => law_f l0 l1 (fun x hx => byte_wf (h0 x hx)) (fun x hx => byte_wf (h1 x hx))

end Go.Proofs.Ytkifijclehgiaaa.PFnRunJoinAt
