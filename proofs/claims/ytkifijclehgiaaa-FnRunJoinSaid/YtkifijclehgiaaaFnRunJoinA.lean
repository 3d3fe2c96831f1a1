/-
  The plain law of FnRunJoin: what the printed functions compute answers true, for every argument that fits; and the lemmas on each function that it reaches. No condition beyond that numbers are of their kind and lengths within a slice's.
-/
import Derived.Test.YtkifijclehgiaaaFnRunJoinT
namespace Go.Proofs.Ytkifijclehgiaaa.PFnRunJoin
open Go.RowKit Go.Proofs.YtkifijclehgiaaaW.PrintWords Go.Proofs.YtkifijclehgiaaaW.PrintLast Go.Proofs.YtkifijclehgiaaaW.PrintMore
set_option linter.unusedVariables false
set_option linter.unusedSimpArgs false

/-! #### the law -/
theorem join_last (k : Nat) (x a b : List S27) (hk : 50000000 < k) (a1 : a.length ≤ 41) (b1 : b.length ≤ 41) (hxl : x.length = a.length + b.length) (ox : ∀ z ∈ x, z.f0.size ≤ 9223372036854775807 ∧ z.f0.size < 7) (r3 : runB x = true) :
    ((impl_RunOk.f k x).bind fun t376 => (if t376 = true then (if (x.length : Int) = (wrap64 ((a.length : Int) + (b.length : Int))) then (if true = true then ((laws_ltRuns.f k x x).bind fun t377 => (if t377 = true then (if true = true then ((laws_ltRuns.f k a a).bind fun t378 => (some t378)) else (some false)) else (some false))) else (some false)) else (some false)) else (some false))) = some true := by
  have m1 : x.length ≤ 9223372036854775806 := by omega
  have m2 : x.length + 7 < k := by omega
  have m3 : (x.length : Int) = (a.length : Int) + (b.length : Int) := by omega
  have m4 : a.length < k := by omega
  have m5 : a.length ≤ 9223372036854775806 := by omega
  have m6 : x.length < k := by omega
  have m7 := w64 (x := (a.length : Int) + (b.length : Int)) (by omega) (by omega)
  rw [m7, implRunOk_f x m1 7 ox k m2, r3]
  clear m7
  simp only [Option.bind_some, if_true]
  rw [if_pos m3, ltRuns_f x m1 k m6]
  simp only [Option.bind_some, if_true]
  rw [ltRuns_f a m5 k m4]; rfl
theorem law_k (l : List Int) (hl : ∀ x ∈ l, 0 ≤ x ∧ x ≤ 255) (k : Nat) (hk : 50000000 < k) : laws_FnRunJoin.f (k + 1) l = some true := by
  unfold laws_FnRunJoin.f
  split
  · rfl
  obtain ⟨a, b, h, a1, a2, b1, b2⟩ := drawRunJoin_f l hl (k + 1) (by omega)
  have oa : ∀ x ∈ a, x.f0.size ≤ 9223372036854775807 ∧ x.f0.size < 7 := fun x hx => by have := a2 x hx; omega
  have ob : ∀ x ∈ b, x.f0.size ≤ 9223372036854775807 ∧ x.f0.size < 7 := fun x hx => by have := b2 x hx; omega
  have hjl := joinF_len a b
  rw [h]; simp only [Option.bind_some]
  rw [specRunJoin_f a b (by omega) (by omega) 7 oa ob (k + 1) (by omega)]; simp only [Option.bind_some]
  rw [implRunJoin_f a b (by omega) (by omega) 7 oa ob (k + 1) (by omega)]; simp only [Option.bind_some]
  rw [if_neg (by simp), ltRuns_f _ (by omega) (k + 1) (by omega)]; simp only [Option.bind_some, if_true]
  simp only [laws_FnRunJoin.j0]
  cases hj : (joinF a b).2
  · rw [Bool.not_false, if_pos rfl, if_pos (by simp), ltRuns_f _ (by omega) k (by omega)]; rfl
  · rw [Bool.not_true, if_neg (by simp)]
    obtain ⟨x, hx⟩ : ∃ x, joinF a b = (x, true) := ⟨(joinF a b).1, by rw [← hj]⟩
    obtain ⟨r1, r2, r3, r4⟩ := joinF_true hx
    have hp : x.Perm (a ++ b) := by rw [r4]; exact merge_perm a b
    have e2 : joinF b a = (x, true) := joinF_of r2 r1 r3 (hp.trans List.perm_append_comm)
    have e3 : joinF a [] = (a, true) := joinF_of r1 (by rfl) r1 (by simp)
    have hxl := hp.length_eq
    rw [List.length_append] at hxl
    rw [implRunJoin_f b a (by omega) (by omega) 7 ob oa k (by omega), e2]; simp only [Option.bind_some]
    rw [implRunJoin_f a [] (by omega) (by simp) 7 oa (by simp) k (by omega), e3]; simp only [Option.bind_some]
    rw [hx]
    have ox : ∀ z ∈ x, z.f0.size ≤ 9223372036854775807 ∧ z.f0.size < 7 := fun z hz => by
      rcases List.mem_append.1 (hp.mem_iff.1 hz) with hz | hz
      · exact oa z hz
      · exact ob z hz
    exact join_last k x a b hk a1 b1 hxl ox r3
theorem law_f (l : List Int) (hl : ∀ x ∈ l, 0 ≤ x ∧ x ≤ 255) : ∃ k, laws_FnRunJoin.f k l = some true := ⟨60000000 + 1, law_k l hl 60000000 (by omega)⟩
theorem law : laws_FnRunJoin.Pure := fun l0 _ _ h => law_f l0 fun x hx => byte_wf (h x hx)

end Go.Proofs.Ytkifijclehgiaaa.PFnRunJoin
