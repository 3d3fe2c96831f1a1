/-
  The plain law of FnRunOk: what the printed functions compute answers true, for every argument that fits; and the lemmas on each function that it reaches. No condition beyond that numbers are of their kind and lengths within a slice's.
-/
import Derived.Test.YtkifijclehgiaaaFnRunOkT
namespace Go.Proofs.Ytkifijclehgiaaa.PFnRunOk
open Go.RowKit Go.Proofs.YtkifijclehgiaaaW.PrintWords Go.Proofs.YtkifijclehgiaaaW.PrintLast Go.Proofs.YtkifijclehgiaaaW.PrintMore
set_option linter.unusedVariables false
set_option linter.unusedSimpArgs false

/-! #### the law -/
theorem drawRunOk_f (l : List Int) (hl : ∀ x ∈ l, 0 ≤ x ∧ x ≤ 255) (k : Nat) (hk : 10000000 < k) : ∃ r, spec_DrawRunOk.f k l = some r ∧ r.length ≤ 42 ∧ (∀ x ∈ r, x.f0.size ≤ 6) := by
  unfold spec_DrawRunOk.f
  obtain ⟨z, h, hz⟩ := open_f l hl
  rw [h]; simp only [Option.bind_some]
  obtain ⟨r, c, h, a1, a2, a3, a4⟩ := off_f z hz 0 (by omega) (by omega) k hk
  rw [h]; simp only [Option.bind_some]
  obtain ⟨v, h, b1, b2⟩ := pick_f z hz c 3 (by omega) (by omega) k (by omega)
  rw [h]; simp only [Option.bind_some]
  by_cases e : v = 0
  · rw [if_pos e]
    by_cases g : (r.length : Int) > 0
    · rw [if_pos g]
      obtain ⟨u, h, d1, d2⟩ := pick_f z hz (c + 1) (r.length : Int) (by omega) (by omega) k (by omega)
      have d2 := d2 (by omega)
      rw [h]; simp only [Option.bind_some]
      obtain ⟨i, rfl⟩ := Int.eq_ofNat_of_zero_le d1
      rw [if_pos d1, if_pos d2, if_pos (by omega), rdE r i (by omega)]
      refine ⟨_, rfl, by simp; omega, fun x hx => ?_⟩
      rcases List.mem_append.1 hx with hx | hx
      · exact a2 x hx
      · simp at hx; subst hx; exact a2 _ (List.getElem_mem _)
    · rw [if_neg g]; exact ⟨_, rfl, by omega, a2⟩
  · rw [if_neg e]; exact ⟨_, rfl, by omega, a2⟩
theorem ok_j0 (l0 l1 : List Int) (h0 : ∀ x ∈ l0, 0 ≤ x ∧ x ≤ 255) (t : Bool) (k : Nat) (hk : 50000000 < k) : laws_FnRunOk.j0 (k + 1) l0 l1 t = some true := by
  simp only [laws_FnRunOk.j0]
  cases t
  rotate_left
  · rfl
  rw [if_neg (by simp)]
  obtain ⟨r, h, a1, a2⟩ := drawRunOk_f l0 h0 k (by omega)
  have ho : ∀ x ∈ r, x.f0.size ≤ 9223372036854775807 ∧ x.f0.size < 7 := fun x hx => by have := a2 x hx; omega
  rw [h]; simp only [Option.bind_some]
  rw [implRunOk_f r (by omega) 7 ho k (by omega)]; simp only [Option.bind_some]
  rw [specRunOk_f r (by omega) 7 ho k (by omega)]; simp only [Option.bind_some]
  rw [if_neg (by simp)]
  obtain ⟨k, rfl⟩ := fuel (show 0 < k by omega)
  simp only [laws_FnRunOk.j1]
  cases hr : runB r
  · rw [Bool.not_false, if_pos rfl, specRunOk_f r (by omega) 7 ho k (by omega), hr]; rfl
  · rw [Bool.not_true, if_neg (by simp)]
    have w : wrap64 ((r.length : Int) + 1) = ((r.length + 1 : Nat) : Int) := by rw [w64 (by omega) (by omega)]; rfl
    have em : (l1.length : Int) % ((r.length + 1 : Nat) : Int) = ((l1.length % (r.length + 1) : Nat) : Int) := rfl
    have lt : l1.length % (r.length + 1) < r.length + 1 := Nat.mod_lt _ (Nat.succ_pos _)
    rw [w, em]
    generalize l1.length % (r.length + 1) = q at lt
    clear w em
    rw [if_neg (by omega), if_pos (by omega), if_pos (by omega)]
    simp only [Int.toNat_natCast]
    have r1 := run_sub hr (List.take_sublist q r)
    have r2 := run_sub hr (List.drop_sublist q r)
    have o1 : ∀ x ∈ r.take q, x.f0.size ≤ 9223372036854775807 ∧ x.f0.size < 7 := fun x hx => ho x (List.mem_of_mem_take hx)
    have o2 : ∀ x ∈ r.drop q, x.f0.size ≤ 9223372036854775807 ∧ x.f0.size < 7 := fun x hx => ho x (List.mem_of_mem_drop hx)
    have q1 : (r.take q).length ≤ 42 := by rw [List.length_take]; omega
    have q2 : (r.drop q).length ≤ 42 := by rw [List.length_drop]; omega
    have e := joinF_of r2 r1 hr (by have := List.perm_append_comm (l₁ := r.take q) (l₂ := r.drop q); rw [List.take_append_drop] at this; exact this)
    rw [implRunJoin_f (r.drop q) (r.take q) (by omega) (by omega) 7 o2 o1 k (by omega), e]; simp only [Option.bind_some]
    rw [implRunOk_f _ (by omega) 7 o1 k (by omega), r1]; simp only [Option.bind_some, if_true]
    rw [implRunOk_f _ (by omega) 7 o2 k (by omega), r2]; simp only [Option.bind_some, if_true]
    rw [ltRuns_f r (by omega) k (by omega)]; rfl
theorem law_f (l0 l1 : List Int) (h0 : ∀ x ∈ l0, 0 ≤ x ∧ x ≤ 255) : ∃ k, laws_FnRunOk.f k l0 l1 = some true := by
  refine ⟨60000000 + 1, ?_⟩
  unfold laws_FnRunOk.f
  split <;> exact ok_j0 l0 l1 h0 _ 60000000 (by omega)
theorem law : laws_FnRunOk.Pure := fun l0 l1 _ _ h0 _ _ _ => law_f l0 l1 (fun x hx => byte_wf (h0 x hx))

end Go.Proofs.Ytkifijclehgiaaa.PFnRunOk
