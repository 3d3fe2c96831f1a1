/-
  Contracts: an entry that is put, or a key that is taken away, the reference's. No condition.
  Contracts: what can be done to a store, the reference's. No condition.
  Contracts: a time that is held, or freed, the reference's. No condition.
  Contracts: deeds, one behind the other, the reference's. No condition.
  Contracts: what deeds write, the reference's. No condition.
  Contracts: what reads a code, and draws a number from it. No condition.
  Contracts: a key that is put into its place, the reference's. No condition.
  Contracts: keys that are drawn, the reference's. No condition.
  Contracts: keys near others that are drawn, the reference's. No condition.
  Contracts: deeds that are drawn, the reference's. No condition.
-/
import Derived.Test.YtcbhgglpgphimaaVd
namespace Go.Proofs.Ytcbhgglpgphimaa.Ab
set_option linter.deprecated false
set_option linter.unusedVariables false
set_option linter.unusedSimpArgs false
open Go Go.Proofs
set_option maxRecDepth 10000
set_option maxHeartbeats 8000000
set_option linter.unusedSimpArgs false
set_option linter.unusedVariables false
theorem runOk_len {r : List Ent} (h : runOk r = true) : r.length ≤ 40 := by
  unfold runOk at h; rw [Bool.and_eq_true] at h; exact of_decide_eq_true h.2
theorem storeS_facts {s : Sto} (h : storeS s = true) : s.levels.length = 3 ∧ s.sieves.length = 3 ∧ s.top.length ≤ 4 ∧ s.times.length ≤ 3 ∧ (∀ r ∈ s.levels, r.length ≤ 40) ∧ inB 0 s.time 999 = true ∧ inB 0 s.keep 5 = true := by
  unfold storeS headS at h
  simp only [Bool.and_eq_true] at h
  obtain ⟨⟨⟨⟨⟨⟨⟨h1, h2⟩, h3⟩, h4⟩, h5⟩, h6⟩, h7⟩, h8⟩ := h
  have hl := of_decide_eq_true h1
  have hsl := of_decide_eq_true h2
  refine ⟨hl, hsl, of_decide_eq_true h7, ?_, ?_, h4, h3⟩
  · unfold timesM at h5; rw [Bool.and_eq_true] at h5; exact of_decide_eq_true h5.2
  · intro r hr
    obtain ⟨i, hi⟩ := List.mem_iff_getElem?.1 hr
    have hil := (List.getElem?_eq_some_iff.1 hi).1
    have := allI_iff.1 h8 i (by omega)
    unfold sAt at this
    obtain ⟨x, hx⟩ : ∃ x, s.sieves[i]? = some x := ⟨_, List.getElem?_eq_getElem (by omega)⟩
    rw [hi, hx] at this
    simp only [Bool.and_eq_true] at this
    have l := this.1.1
    unfold lvM at l
    simp only [Bool.and_eq_true] at l
    exact runOk_len l.1.1.1
theorem valid_sm {s : Sto} (hs : SmSt s) (h : storeS s = true) : SmH s := by
  obtain ⟨h1, h2, h3, h4, h5, _⟩ := storeS_facts h
  exact ⟨h1, h2, fun r hr => ⟨hs.lev r hr, by have := h5 r hr; omega⟩, by omega⟩
theorem copyV_ac (s : Sto) (hs : SmSt s) (hv : storeS s = true) : AC Try.prog 192 [stT s] noHp 0 ⟨.t (hT s), hpL (hS s), 2⟩ := by
  obtain ⟨h1, h2, h3, h4, h5, _⟩ := storeS_facts hv
  obtain ⟨top, levels, sieves, keep, time, times⟩ := s
  dsimp only at h1 h2 h3 h4 h5
  obtain ⟨a, b, c, rfl⟩ := len3 h1
  obtain ⟨x, y, z, rfl⟩ := len3 h2
  have q1 := h5 a (by simp); have q2 := h5 b (by simp); have q3 := h5 c (by simp)
  exact l12CopyS_ac top a b c x y z keep time times (by omega) (by omega) (by omega) (by omega) (hs.rl x (by simp)) (hs.rl y (by simp)) (hs.rl z (by simp)) (by omega)
def addM (s : Sto) (e : Ent) : Option Sto := if (storeS s && entOk e) = true then
  (if 4 ≤ s.top.length then (downM s).map fun x => { x with top := joinM [e] x.top, time := e.time } else some { s with top := joinM [e] s.top, time := e.time }) else none
theorem zA_tup : NilA (.tup [zA, bT false]) (.tup [stT zSto, bT false]) := zA_nil
def entV (e : Ent) : List Value := [.string e.key, .int .i64 e.val, .bool e.gone, .int .i64 e.time]
@[simp] theorem flat_eRow (r : List Ent) : (eRow r).flat = true := by
  unfold eRow
  rw [show r.map entD = (r.map entV).map (·.map D.s) by rw [List.map_map]; rfl]
  exact dRow_flat _ _ _
theorem lnBB {hp : Hp} {n : Nat} {a : TV} {L : List Nat} (h : (a.cells.all fun z => (lendN hp n z).all L.contains) = true) : ∀ z ∈ a.cells, ∀ m ∈ lendN hp n z, m ∈ L := fun z hz m hm => by
  have := List.all_eq_true.1 (List.all_eq_true.1 h z hz) m hm
  simpa using this
theorem l12Add_no (s : Sto) (e : Ent) (hs : SmSt s) (he : smK e.key) (h : addM s e = none) : AC Try.prog 201 [stT s, entT e] noHp 0 ⟨.tup [stT zSto, bT false], noHp, 0⟩ := by
  refine AC.nilR ?_ zA_nil
  refine AC_of Try.func201 rfl Try.ntmps201 Try.results201 (by kernel_rfl) rfl ?_
  simp only [List.zipIdx, List.map, Nat.zero_add, Nat.reduceAdd]
  have k1 := sstoreOk_ac s hs
  have k2 := sentOk_ac e he
  cases c1 : storeS s
  · rw [c1] at k1
    repeat (first | apply Aw_seq | apply Aw_block | apply Aw_skip | apply Aw_exit | refine Aw_condt rfl ?_ | refine Aw_condf rfl ?_ | (refine qr ?_; simp only [go_sem, Nat.reduceEqDiff, reduceIte, Nat.reduceAdd, Nat.reduceMul, Nat.reduceSub, Nat.reduceLT, Nat.reduceLeDiff, Nat.reduceBEq]) | (refine qd (by kernel_rfl) (by kernel_rfl) ?_; simp only [go_sem, Nat.reduceEqDiff, reduceIte, Nat.reduceAdd, Nat.reduceMul, Nat.reduceSub, Nat.reduceLT, Nat.reduceLeDiff, Nat.reduceBEq]) | refine dk (by kernel_rfl) ?_ | (refine qp (k1) (by simp only [go_sem, Nat.reduceEqDiff, reduceIte, Nat.reduceAdd, Nat.reduceMul, Nat.reduceSub, Nat.reduceLT, Nat.reduceLeDiff, Nat.reduceBEq]; first | done | rfl) rfl (by simp only [go_sem, Nat.reduceLT]) rfl rfl ?_; simp only [go_sem, Nat.reduceEqDiff, reduceIte, Nat.reduceAdd, Nat.reduceMul, Nat.reduceSub, Nat.reduceLT, Nat.reduceLeDiff, Nat.reduceBEq]))
    exact Aw_ret (ret0 (.inl rfl) (by simp only [go_sem, Nat.reduceEqDiff, reduceIte, Nat.reduceAdd, Nat.reduceMul, Nat.reduceSub, Nat.reduceLT, Nat.reduceLeDiff, Nat.reduceBEq]; rfl) (by rfl) rfl)
  rw [c1] at k1
  cases c2 : entOk e
  · rw [c2] at k2
    repeat (first | apply Aw_seq | apply Aw_block | apply Aw_skip | apply Aw_exit | refine Aw_condt rfl ?_ | refine Aw_condf rfl ?_ | (refine qr ?_; simp only [go_sem, Nat.reduceEqDiff, reduceIte, Nat.reduceAdd, Nat.reduceMul, Nat.reduceSub, Nat.reduceLT, Nat.reduceLeDiff, Nat.reduceBEq]) | (refine qd (by kernel_rfl) (by kernel_rfl) ?_; simp only [go_sem, Nat.reduceEqDiff, reduceIte, Nat.reduceAdd, Nat.reduceMul, Nat.reduceSub, Nat.reduceLT, Nat.reduceLeDiff, Nat.reduceBEq]) | refine dk (by kernel_rfl) ?_ | (refine qp (k1) (by simp only [go_sem, Nat.reduceEqDiff, reduceIte, Nat.reduceAdd, Nat.reduceMul, Nat.reduceSub, Nat.reduceLT, Nat.reduceLeDiff, Nat.reduceBEq]; first | done | rfl) rfl (by simp only [go_sem, Nat.reduceLT]) rfl rfl ?_; simp only [go_sem, Nat.reduceEqDiff, reduceIte, Nat.reduceAdd, Nat.reduceMul, Nat.reduceSub, Nat.reduceLT, Nat.reduceLeDiff, Nat.reduceBEq]) | (refine qp (k2) (by simp only [go_sem, Nat.reduceEqDiff, reduceIte, Nat.reduceAdd, Nat.reduceMul, Nat.reduceSub, Nat.reduceLT, Nat.reduceLeDiff, Nat.reduceBEq]; first | done | rfl) rfl (by simp only [go_sem, Nat.reduceLT]) rfl rfl ?_; simp only [go_sem, Nat.reduceEqDiff, reduceIte, Nat.reduceAdd, Nat.reduceMul, Nat.reduceSub, Nat.reduceLT, Nat.reduceLeDiff, Nat.reduceBEq]))
    exact Aw_ret (ret0 (.inl rfl) (by simp only [go_sem, Nat.reduceEqDiff, reduceIte, Nat.reduceAdd, Nat.reduceMul, Nat.reduceSub, Nat.reduceLT, Nat.reduceLeDiff, Nat.reduceBEq]; rfl) (by rfl) rfl)
  rw [c2] at k2
  have k3 := copyV_ac s hs c1
  obtain ⟨h1, h2, h3, h4, h5, _⟩ := storeS_facts c1
  by_cases c3 : 4 ≤ s.top.length
  case neg => unfold addM at h; simp [c1, c2, c3] at h
  have g1 : decide ((4 : Int) ≤ (s.top.length : Int)) = true := decide_eq_true (by omega)
  have hd : downM s = none := by unfold addM at h; simpa [c1, c2, c3] using h
  have k4 := l12Down_no s (valid_sm hs c1) hs.top (by omega) hd
  repeat (first | apply Aw_seq | apply Aw_block | apply Aw_skip | apply Aw_exit | refine Aw_condt rfl ?_ | refine Aw_condf rfl ?_ | (refine qr ?_; simp only [go_sem, Nat.reduceEqDiff, reduceIte, Nat.reduceAdd, Nat.reduceMul, Nat.reduceSub, Nat.reduceLT, Nat.reduceLeDiff, Nat.reduceBEq, g1]) | (refine qd (by kernel_rfl) (by kernel_rfl) ?_; simp only [go_sem, Nat.reduceEqDiff, reduceIte, Nat.reduceAdd, Nat.reduceMul, Nat.reduceSub, Nat.reduceLT, Nat.reduceLeDiff, Nat.reduceBEq, g1]) | refine dk (by kernel_rfl) ?_ | (refine qp (k1) (by simp only [go_sem, Nat.reduceEqDiff, reduceIte, Nat.reduceAdd, Nat.reduceMul, Nat.reduceSub, Nat.reduceLT, Nat.reduceLeDiff, Nat.reduceBEq, g1]; first | done | rfl) rfl (by simp only [go_sem, Nat.reduceLT]) rfl rfl ?_; simp only [go_sem, Nat.reduceEqDiff, reduceIte, Nat.reduceAdd, Nat.reduceMul, Nat.reduceSub, Nat.reduceLT, Nat.reduceLeDiff, Nat.reduceBEq, g1]) | (refine qp (k2) (by simp only [go_sem, Nat.reduceEqDiff, reduceIte, Nat.reduceAdd, Nat.reduceMul, Nat.reduceSub, Nat.reduceLT, Nat.reduceLeDiff, Nat.reduceBEq, g1]; first | done | rfl) rfl (by simp only [go_sem, Nat.reduceLT]) rfl rfl ?_; simp only [go_sem, Nat.reduceEqDiff, reduceIte, Nat.reduceAdd, Nat.reduceMul, Nat.reduceSub, Nat.reduceLT, Nat.reduceLeDiff, Nat.reduceBEq, g1]) | (refine qx (call_N (L := []) (k3) rfl (.cons (.nm rfl) (.nil)) (.inl rfl) rfl) (by simp only [go_sem, Nat.reduceEqDiff, reduceIte, Nat.reduceAdd, Nat.reduceMul, Nat.reduceSub, Nat.reduceLT, Nat.reduceLeDiff, Nat.reduceBEq, g1]; first | done | rfl) rfl (by simp only [go_sem, Nat.reduceLT]) ?_; simp only [go_sem, Nat.reduceEqDiff, reduceIte, Nat.reduceAdd, Nat.reduceMul, Nat.reduceSub, Nat.reduceLT, Nat.reduceLeDiff, Nat.reduceBEq, g1]) | (refine qx (call_L (N' := [11, 12]) (L := []) (k4) rfl (.cons (.nm rfl) (.nil)) (by decide) (by decide) (by decide) (by simp only [go_sem, Nat.reduceEqDiff, reduceIte, Nat.reduceAdd, Nat.reduceMul, Nat.reduceSub, Nat.reduceLT, Nat.reduceLeDiff, Nat.reduceBEq, g1]) (.inl rfl) rfl (by decide)) (by simp only [go_sem, Nat.reduceEqDiff, reduceIte, Nat.reduceAdd, Nat.reduceMul, Nat.reduceSub, Nat.reduceLT, Nat.reduceLeDiff, Nat.reduceBEq, g1]; first | done | rfl) rfl (by simp only [go_sem, Nat.reduceLT]) ?_; simp only [go_sem, Nat.reduceEqDiff, reduceIte, Nat.reduceAdd, Nat.reduceMul, Nat.reduceSub, Nat.reduceLT, Nat.reduceLeDiff, Nat.reduceBEq, g1]))
  exact Aw_ret (ret0 (.inl rfl) (by simp only [go_sem, Nat.reduceEqDiff, reduceIte, Nat.reduceAdd, Nat.reduceMul, Nat.reduceSub, Nat.reduceLT, Nat.reduceLeDiff, Nat.reduceBEq]; rfl) (by rfl) rfl)
theorem l12Add_okR (s s' : Sto) (e : Ent) (hs : SmSt s) (he : smK e.key) (h : addM s e = some s') : AC Try.prog 201 [stT s, entT e] noHp 0 ⟨.tup [.agg [.h 0, .h 1, .h 2, .d (.s (.int .i64 s'.keep)), .d (.s (.int .i64 s'.time)), .d (.rs 1 (s'.times.map intD))], bT true], hpL [some (eRow s'.top), some (lvRow s'.levels), some (svRow s'.sieves)], 3⟩ := by
  refine AC_of Try.func201 rfl Try.ntmps201 Try.results201 (by kernel_rfl) rfl ?_
  simp only [List.zipIdx, List.map, Nat.zero_add, Nat.reduceAdd]
  have k1 := sstoreOk_ac s hs
  have k2 := sentOk_ac e he
  cases c1 : storeS s
  · unfold addM at h; simp [c1] at h
  rw [c1] at k1
  cases c2 : entOk e
  · unfold addM at h; simp [c2] at h
  rw [c2] at k2
  have k3 := copyV_ac s hs c1
  obtain ⟨h1, h2, h3, h4, h5, _⟩ := storeS_facts c1
  have lb : (1 : Nat) * 40 ≤ 140737488355328 := by omega
  by_cases c3 : 4 ≤ s.top.length
  · have g1 : decide ((4 : Int) ≤ (s.top.length : Int)) = true := decide_eq_true (by omega)
    cases hd : downM s with
    | none => unfold addM at h; simp [c1, c2, c3, hd] at h
    | some x =>
      have k4 := l12Down_ok s x (valid_sm hs c1) hs.top (by omega) hd
      obtain ⟨g3, g4, g5, g6, g7⟩ := intoM_sm 2 (s := noTop s) (i := 0) rfl ⟨(valid_sm hs c1).ll, (valid_sm hs c1).sl, (valid_sm hs c1).lev, (valid_sm hs c1).tl⟩ hs.top (by omega) hd
      have e1 : s' = { x with top := joinM [e] x.top, time := e.time } := by unfold addM at h; simpa [c1, c2, c3, hd] using h.symm
      have k5 := l11Join_ac [e] x.top (by simp) (by rw [g5]; simp [noTop])
      subst e1
      repeat (first | apply Aw_seq | apply Aw_block | apply Aw_skip | apply Aw_exit | refine Aw_condt rfl ?_ | refine Aw_condf rfl ?_ | (refine qr ?_; simp only [go_sem, Nat.reduceEqDiff, reduceIte, Nat.reduceAdd, Nat.reduceMul, Nat.reduceSub, Nat.reduceLT, Nat.reduceLeDiff, Nat.reduceBEq, g1]) | (refine qd (by kernel_rfl) (by kernel_rfl) ?_; simp only [go_sem, Nat.reduceEqDiff, reduceIte, Nat.reduceAdd, Nat.reduceMul, Nat.reduceSub, Nat.reduceLT, Nat.reduceLeDiff, Nat.reduceBEq, g1]) | refine dk (by kernel_rfl) ?_ | (refine qp (k1) (by simp only [go_sem, Nat.reduceEqDiff, reduceIte, Nat.reduceAdd, Nat.reduceMul, Nat.reduceSub, Nat.reduceLT, Nat.reduceLeDiff, Nat.reduceBEq, g1]; first | done | rfl) rfl (by simp only [go_sem, Nat.reduceLT]) rfl rfl ?_; simp only [go_sem, Nat.reduceEqDiff, reduceIte, Nat.reduceAdd, Nat.reduceMul, Nat.reduceSub, Nat.reduceLT, Nat.reduceLeDiff, Nat.reduceBEq, g1]) | (refine qp (k2) (by simp only [go_sem, Nat.reduceEqDiff, reduceIte, Nat.reduceAdd, Nat.reduceMul, Nat.reduceSub, Nat.reduceLT, Nat.reduceLeDiff, Nat.reduceBEq, g1]; first | done | rfl) rfl (by simp only [go_sem, Nat.reduceLT]) rfl rfl ?_; simp only [go_sem, Nat.reduceEqDiff, reduceIte, Nat.reduceAdd, Nat.reduceMul, Nat.reduceSub, Nat.reduceLT, Nat.reduceLeDiff, Nat.reduceBEq, g1]) | (refine qx (call_N (L := []) (k3) rfl (.cons (.nm rfl) (.nil)) (.inl rfl) rfl) (by simp only [go_sem, Nat.reduceEqDiff, reduceIte, Nat.reduceAdd, Nat.reduceMul, Nat.reduceSub, Nat.reduceLT, Nat.reduceLeDiff, Nat.reduceBEq, g1]; first | done | rfl) rfl (by simp only [go_sem, Nat.reduceLT]) ?_; simp only [go_sem, Nat.reduceEqDiff, reduceIte, Nat.reduceAdd, Nat.reduceMul, Nat.reduceSub, Nat.reduceLT, Nat.reduceLeDiff, Nat.reduceBEq, g1]) | (refine qx (call_L (N' := [11, 12]) (L := []) (k4) rfl (.cons (.nm rfl) (.nil)) (by decide) (by decide) (by decide) (by simp only [go_sem, Nat.reduceEqDiff, reduceIte, Nat.reduceAdd, Nat.reduceMul, Nat.reduceSub, Nat.reduceLT, Nat.reduceLeDiff, Nat.reduceBEq, g1]) (.inl rfl) rfl (by decide)) (by simp only [go_sem, Nat.reduceEqDiff, reduceIte, Nat.reduceAdd, Nat.reduceMul, Nat.reduceSub, Nat.reduceLT, Nat.reduceLeDiff, Nat.reduceBEq, g1]; first | done | rfl) rfl (by simp only [go_sem, Nat.reduceLT]) ?_; simp only [go_sem, Nat.reduceEqDiff, reduceIte, Nat.reduceAdd, Nat.reduceMul, Nat.reduceSub, Nat.reduceLT, Nat.reduceLeDiff, Nat.reduceBEq, g1]) | (refine qx (call_N (L := [30]) (k5) rfl (.cons (.ln (n := 2) rfl (lnBB rfl)) (.cons (.nm rfl) (.nil))) (.inr ⟨rfl, by simp⟩) rfl) (by simp only [go_sem, Nat.reduceEqDiff, reduceIte, Nat.reduceAdd, Nat.reduceMul, Nat.reduceSub, Nat.reduceLT, Nat.reduceLeDiff, Nat.reduceBEq, g1]; first | done | rfl) rfl (by simp only [go_sem, Nat.reduceLT]) ?_; simp only [go_sem, Nat.reduceEqDiff, reduceIte, Nat.reduceAdd, Nat.reduceMul, Nat.reduceSub, Nat.reduceLT, Nat.reduceLeDiff, Nat.reduceBEq, g1]))
      exact Aw_ret (retL (M := [33, 11, 12]) (.inl rfl) (by simp only [go_sem, Nat.reduceEqDiff, reduceIte, Nat.reduceAdd, Nat.reduceMul, Nat.reduceSub, Nat.reduceLT, Nat.reduceLeDiff, Nat.reduceBEq]; first | done | rfl) rfl rfl (by rfl) (by simp only [go_sem, Nat.reduceEqDiff, reduceIte, Nat.reduceAdd, Nat.reduceMul, Nat.reduceSub, Nat.reduceLT, Nat.reduceLeDiff, Nat.reduceBEq]; first | done | rfl | (and_intros <;> rfl)) (by decide) (by intro m hm; first | omega | (rcases m with _ | _ | _ | _ | m <;> first | exact ⟨by decide, rfl⟩ | omega)))
  · have g1 : decide ((4 : Int) ≤ (s.top.length : Int)) = false := decide_eq_false (by omega)
    have e1 : s' = { s with top := joinM [e] s.top, time := e.time } := by unfold addM at h; simpa [c1, c2, c3] using h.symm
    have k5 := l11Join_ac [e] s.top (by simp) (by omega)
    subst e1
    repeat (first | apply Aw_seq | apply Aw_block | apply Aw_skip | apply Aw_exit | refine Aw_condt rfl ?_ | refine Aw_condf rfl ?_ | (refine qr ?_; simp only [go_sem, Nat.reduceEqDiff, reduceIte, Nat.reduceAdd, Nat.reduceMul, Nat.reduceSub, Nat.reduceLT, Nat.reduceLeDiff, Nat.reduceBEq, g1]) | (refine qd (by kernel_rfl) (by kernel_rfl) ?_; simp only [go_sem, Nat.reduceEqDiff, reduceIte, Nat.reduceAdd, Nat.reduceMul, Nat.reduceSub, Nat.reduceLT, Nat.reduceLeDiff, Nat.reduceBEq, g1]) | refine dk (by kernel_rfl) ?_ | (refine qp (k1) (by simp only [go_sem, Nat.reduceEqDiff, reduceIte, Nat.reduceAdd, Nat.reduceMul, Nat.reduceSub, Nat.reduceLT, Nat.reduceLeDiff, Nat.reduceBEq, g1]; first | done | rfl) rfl (by simp only [go_sem, Nat.reduceLT]) rfl rfl ?_; simp only [go_sem, Nat.reduceEqDiff, reduceIte, Nat.reduceAdd, Nat.reduceMul, Nat.reduceSub, Nat.reduceLT, Nat.reduceLeDiff, Nat.reduceBEq, g1]) | (refine qp (k2) (by simp only [go_sem, Nat.reduceEqDiff, reduceIte, Nat.reduceAdd, Nat.reduceMul, Nat.reduceSub, Nat.reduceLT, Nat.reduceLeDiff, Nat.reduceBEq, g1]; first | done | rfl) rfl (by simp only [go_sem, Nat.reduceLT]) rfl rfl ?_; simp only [go_sem, Nat.reduceEqDiff, reduceIte, Nat.reduceAdd, Nat.reduceMul, Nat.reduceSub, Nat.reduceLT, Nat.reduceLeDiff, Nat.reduceBEq, g1]) | (refine qx (call_N (L := []) (k3) rfl (.cons (.nm rfl) (.nil)) (.inl rfl) rfl) (by simp only [go_sem, Nat.reduceEqDiff, reduceIte, Nat.reduceAdd, Nat.reduceMul, Nat.reduceSub, Nat.reduceLT, Nat.reduceLeDiff, Nat.reduceBEq, g1]; first | done | rfl) rfl (by simp only [go_sem, Nat.reduceLT]) ?_; simp only [go_sem, Nat.reduceEqDiff, reduceIte, Nat.reduceAdd, Nat.reduceMul, Nat.reduceSub, Nat.reduceLT, Nat.reduceLeDiff, Nat.reduceBEq, g1]) | (refine qx (call_N (L := [19]) (k5) rfl (.cons (.ln (n := 2) rfl (lnBB rfl)) (.cons (.nm rfl) (.nil))) (.inr ⟨rfl, by simp⟩) rfl) (by simp only [go_sem, Nat.reduceEqDiff, reduceIte, Nat.reduceAdd, Nat.reduceMul, Nat.reduceSub, Nat.reduceLT, Nat.reduceLeDiff, Nat.reduceBEq, g1]; first | done | rfl) rfl (by simp only [go_sem, Nat.reduceLT]) ?_; simp only [go_sem, Nat.reduceEqDiff, reduceIte, Nat.reduceAdd, Nat.reduceMul, Nat.reduceSub, Nat.reduceLT, Nat.reduceLeDiff, Nat.reduceBEq, g1]))
    exact Aw_ret (retL (M := [22, 11, 12]) (.inl rfl) (by simp only [go_sem, Nat.reduceEqDiff, reduceIte, Nat.reduceAdd, Nat.reduceMul, Nat.reduceSub, Nat.reduceLT, Nat.reduceLeDiff, Nat.reduceBEq]; first | done | rfl) rfl rfl (by rfl) (by simp only [go_sem, Nat.reduceEqDiff, reduceIte, Nat.reduceAdd, Nat.reduceMul, Nat.reduceSub, Nat.reduceLT, Nat.reduceLeDiff, Nat.reduceBEq]; first | done | rfl | (and_intros <;> rfl)) (by decide) (by intro m hm; first | omega | (rcases m with _ | _ | _ | _ | m <;> first | exact ⟨by decide, rfl⟩ | omega)))
end Go.Proofs.Ytcbhgglpgphimaa.Ab
namespace Go.Proofs.Ytcbhgglpgphimaa.Ab
set_option linter.deprecated false
set_option linter.unusedVariables false
set_option linter.unusedSimpArgs false
open Go Go.Proofs
set_option maxRecDepth 10000
set_option maxHeartbeats 8000000
set_option linter.unusedSimpArgs false
set_option linter.unusedVariables false
abbrev resO (o : Option Sto) : AV := .tup [stT (o.getD zSto), bT o.isSome]
theorem hT_settle {P : Program} {f : FuncId} {args : List TV} {s : Sto} {b : Bool} (h : AC P f args noHp 0 ⟨.tup [hT s, bT b], hpL (hS s), 2⟩) : AC P f args noHp 0 ⟨.tup [stT s, bT b], noHp, 0⟩ :=
  AC.settle0 [0, 1] h (.cons (.cons (.inl rfl) (.cons (SetC.row0 rfl rfl) (.cons (SetC.row0 rfl rfl) (.cons (.inl rfl) (.cons (.inl rfl) (.cons (.inl rfl) .nil)))))) (.cons (.inl rfl) .nil)) rfl
theorem l12Add_ac (s : Sto) (e : Ent) (hs : SmSt s) (he : smK e.key) : AC Try.prog 201 [stT s, entT e] noHp 0 ⟨resO (addM s e), noHp, 0⟩ := by
  cases h : addM s e with
  | none => exact l12Add_no s e hs he h
  | some s' => exact AC.settle0 [0, 1, 2] (l12Add_okR s s' e hs he h) (.cons (.cons (SetC.row0 rfl rfl) (.cons (SetC.row0 rfl rfl) (.cons (SetC.row0 rfl rfl) (.cons (.inl rfl) (.cons (.inl rfl) (.cons (.inl rfl) .nil)))))) (.cons (.inl rfl) .nil)) rfl
def nextT (s : Sto) : Int := IntKind.i64.wrap (s.time + 1)
def putM (s : Sto) (k : ByteArray) (v : Int) : Option Sto := addM s ⟨k, v, false, nextT s⟩
def takeM (s : Sto) (k : ByteArray) : Option Sto := addM s ⟨k, 0, true, nextT s⟩
theorem storePutS_ac (s : Sto) (k : ByteArray) (v : Int) (hs : SmSt s) (hk : smK k) : AC Try.prog 177 [stT s, sT k, iT v] noHp 0 ⟨resO (putM s k v), noHp, 0⟩ := by
  refine AC_of Try.func177 rfl Try.ntmps177 Try.results177 (by kernel_rfl) rfl ?_
  simp only [List.zipIdx, List.map, Nat.zero_add, Nat.reduceAdd]
  have h := l12Add_ac s ⟨k, v, false, nextT s⟩ hs hk
  unfold nextT at h
  repeat (first | apply Aw_seq | apply Aw_block | apply Aw_skip | apply Aw_exit | refine Aw_condt rfl ?_ | refine Aw_condf rfl ?_ | (refine qr ?_; simp only [go_sem, Nat.reduceEqDiff, reduceIte, Nat.reduceAdd, Nat.reduceMul, Nat.reduceSub, Nat.reduceLT, Nat.reduceLeDiff, Nat.reduceBEq]) | (refine qd (by kernel_rfl) (by kernel_rfl) ?_; simp only [go_sem, Nat.reduceEqDiff, reduceIte, Nat.reduceAdd, Nat.reduceMul, Nat.reduceSub, Nat.reduceLT, Nat.reduceLeDiff, Nat.reduceBEq]) | refine dk (by kernel_rfl) ?_ | (refine qp (h) (by simp only [go_sem, Nat.reduceEqDiff, reduceIte, Nat.reduceAdd, Nat.reduceMul, Nat.reduceSub, Nat.reduceLT, Nat.reduceLeDiff, Nat.reduceBEq]; first | done | rfl) rfl (by simp only [go_sem, Nat.reduceLT]) rfl rfl ?_; simp only [go_sem, Nat.reduceEqDiff, reduceIte, Nat.reduceAdd, Nat.reduceMul, Nat.reduceSub, Nat.reduceLT, Nat.reduceLeDiff, Nat.reduceBEq]))
  exact Aw_ret (ret0 (.inl rfl) (by simp only [go_sem, Nat.reduceEqDiff, reduceIte, Nat.reduceAdd, Nat.reduceMul, Nat.reduceSub, Nat.reduceLT, Nat.reduceLeDiff, Nat.reduceBEq]; rfl) (by rfl) rfl)
theorem storeTakeS_ac (s : Sto) (k : ByteArray) (hs : SmSt s) (hk : smK k) : AC Try.prog 178 [stT s, sT k] noHp 0 ⟨resO (takeM s k), noHp, 0⟩ := by
  refine AC_of Try.func178 rfl Try.ntmps178 Try.results178 (by kernel_rfl) rfl ?_
  simp only [List.zipIdx, List.map, Nat.zero_add, Nat.reduceAdd]
  have h := l12Add_ac s ⟨k, 0, true, nextT s⟩ hs hk
  unfold nextT at h
  repeat (first | apply Aw_seq | apply Aw_block | apply Aw_skip | apply Aw_exit | refine Aw_condt rfl ?_ | refine Aw_condf rfl ?_ | (refine qr ?_; simp only [go_sem, Nat.reduceEqDiff, reduceIte, Nat.reduceAdd, Nat.reduceMul, Nat.reduceSub, Nat.reduceLT, Nat.reduceLeDiff, Nat.reduceBEq]) | (refine qd (by kernel_rfl) (by kernel_rfl) ?_; simp only [go_sem, Nat.reduceEqDiff, reduceIte, Nat.reduceAdd, Nat.reduceMul, Nat.reduceSub, Nat.reduceLT, Nat.reduceLeDiff, Nat.reduceBEq]) | refine dk (by kernel_rfl) ?_ | (refine qp (h) (by simp only [go_sem, Nat.reduceEqDiff, reduceIte, Nat.reduceAdd, Nat.reduceMul, Nat.reduceSub, Nat.reduceLT, Nat.reduceLeDiff, Nat.reduceBEq]; first | done | rfl) rfl (by simp only [go_sem, Nat.reduceLT]) rfl rfl ?_; simp only [go_sem, Nat.reduceEqDiff, reduceIte, Nat.reduceAdd, Nat.reduceMul, Nat.reduceSub, Nat.reduceLT, Nat.reduceLeDiff, Nat.reduceBEq]))
  exact Aw_ret (ret0 (.inl rfl) (by simp only [go_sem, Nat.reduceEqDiff, reduceIte, Nat.reduceAdd, Nat.reduceMul, Nat.reduceSub, Nat.reduceLT, Nat.reduceLeDiff, Nat.reduceBEq]; rfl) (by rfl) rfl)
def sDownM (s : Sto) : Option Sto := if storeS s = true then downM s else none
theorem storeDownS_ac (s : Sto) (hs : SmSt s) : AC Try.prog 181 [stT s] noHp 0 ⟨resO (sDownM s), noHp, 0⟩ := by
  have k1 := sstoreOk_ac s hs
  unfold sDownM
  cases c1 : storeS s
  · rw [c1] at k1
    refine AC.nilR (x := .tup [zA, bT false]) ?_ zA_nil
    refine AC_of Try.func181 rfl Try.ntmps181 Try.results181 (by kernel_rfl) rfl ?_
    simp only [List.zipIdx, List.map, Nat.zero_add, Nat.reduceAdd]
    repeat (first | apply Aw_seq | apply Aw_block | apply Aw_skip | apply Aw_exit | refine Aw_condt rfl ?_ | refine Aw_condf rfl ?_ | (refine qr ?_; simp only [go_sem, Nat.reduceEqDiff, reduceIte, Nat.reduceAdd, Nat.reduceMul, Nat.reduceSub, Nat.reduceLT, Nat.reduceLeDiff, Nat.reduceBEq]) | (refine qd (by kernel_rfl) (by kernel_rfl) ?_; simp only [go_sem, Nat.reduceEqDiff, reduceIte, Nat.reduceAdd, Nat.reduceMul, Nat.reduceSub, Nat.reduceLT, Nat.reduceLeDiff, Nat.reduceBEq]) | refine dk (by kernel_rfl) ?_ | (refine qp (k1) (by simp only [go_sem, Nat.reduceEqDiff, reduceIte, Nat.reduceAdd, Nat.reduceMul, Nat.reduceSub, Nat.reduceLT, Nat.reduceLeDiff, Nat.reduceBEq]; first | done | rfl) rfl (by simp only [go_sem, Nat.reduceLT]) rfl rfl ?_; simp only [go_sem, Nat.reduceEqDiff, reduceIte, Nat.reduceAdd, Nat.reduceMul, Nat.reduceSub, Nat.reduceLT, Nat.reduceLeDiff, Nat.reduceBEq]))
    exact Aw_ret (ret0 (.inl rfl) (by simp only [go_sem, Nat.reduceEqDiff, reduceIte, Nat.reduceAdd, Nat.reduceMul, Nat.reduceSub, Nat.reduceLT, Nat.reduceLeDiff, Nat.reduceBEq]; rfl) (by rfl) rfl)
  rw [c1] at k1
  rw [if_pos rfl]
  have k3 := copyV_ac s hs c1
  obtain ⟨h1, h2, h3, h4, h5, _⟩ := storeS_facts c1
  cases hd : downM s with
  | none =>
    have k4 := l12Down_no s (valid_sm hs c1) hs.top (by omega) hd
    refine AC_of Try.func181 rfl Try.ntmps181 Try.results181 (by kernel_rfl) rfl ?_
    simp only [List.zipIdx, List.map, Nat.zero_add, Nat.reduceAdd]
    repeat (first | apply Aw_seq | apply Aw_block | apply Aw_skip | apply Aw_exit | refine Aw_condt rfl ?_ | refine Aw_condf rfl ?_ | (refine qr ?_; simp only [go_sem, Nat.reduceEqDiff, reduceIte, Nat.reduceAdd, Nat.reduceMul, Nat.reduceSub, Nat.reduceLT, Nat.reduceLeDiff, Nat.reduceBEq]) | (refine qd (by kernel_rfl) (by kernel_rfl) ?_; simp only [go_sem, Nat.reduceEqDiff, reduceIte, Nat.reduceAdd, Nat.reduceMul, Nat.reduceSub, Nat.reduceLT, Nat.reduceLeDiff, Nat.reduceBEq]) | refine dk (by kernel_rfl) ?_ | (refine qp (k1) (by simp only [go_sem, Nat.reduceEqDiff, reduceIte, Nat.reduceAdd, Nat.reduceMul, Nat.reduceSub, Nat.reduceLT, Nat.reduceLeDiff, Nat.reduceBEq]; first | done | rfl) rfl (by simp only [go_sem, Nat.reduceLT]) rfl rfl ?_; simp only [go_sem, Nat.reduceEqDiff, reduceIte, Nat.reduceAdd, Nat.reduceMul, Nat.reduceSub, Nat.reduceLT, Nat.reduceLeDiff, Nat.reduceBEq]) | (refine qx (call_N (L := []) (k3) rfl (.cons (.nm rfl) (.nil)) (.inl rfl) rfl) (by simp only [go_sem, Nat.reduceEqDiff, reduceIte, Nat.reduceAdd, Nat.reduceMul, Nat.reduceSub, Nat.reduceLT, Nat.reduceLeDiff, Nat.reduceBEq]; first | done | rfl) rfl (by simp only [go_sem, Nat.reduceLT]) ?_; simp only [go_sem, Nat.reduceEqDiff, reduceIte, Nat.reduceAdd, Nat.reduceMul, Nat.reduceSub, Nat.reduceLT, Nat.reduceLeDiff, Nat.reduceBEq]) | (refine qx (call_L (N' := [6, 7]) (L := []) (k4) rfl (.cons (.nm rfl) (.nil)) (by decide) (by decide) (by decide) (by simp only [go_sem, Nat.reduceEqDiff, reduceIte, Nat.reduceAdd, Nat.reduceMul, Nat.reduceSub, Nat.reduceLT, Nat.reduceLeDiff, Nat.reduceBEq]) (.inl rfl) rfl (by decide)) (by simp only [go_sem, Nat.reduceEqDiff, reduceIte, Nat.reduceAdd, Nat.reduceMul, Nat.reduceSub, Nat.reduceLT, Nat.reduceLeDiff, Nat.reduceBEq]; first | done | rfl) rfl (by simp only [go_sem, Nat.reduceLT]) ?_; simp only [go_sem, Nat.reduceEqDiff, reduceIte, Nat.reduceAdd, Nat.reduceMul, Nat.reduceSub, Nat.reduceLT, Nat.reduceLeDiff, Nat.reduceBEq]))
    exact Aw_ret (ret0 (.inl rfl) (by simp only [go_sem, Nat.reduceEqDiff, reduceIte, Nat.reduceAdd, Nat.reduceMul, Nat.reduceSub, Nat.reduceLT, Nat.reduceLeDiff, Nat.reduceBEq]; rfl) (by rfl) rfl)
  | some x =>
    have k4 := l12Down_ok s x (valid_sm hs c1) hs.top (by omega) hd
    refine hT_settle ?_
    refine AC_of Try.func181 rfl Try.ntmps181 Try.results181 (by kernel_rfl) rfl ?_
    simp only [List.zipIdx, List.map, Nat.zero_add, Nat.reduceAdd]
    repeat (first | apply Aw_seq | apply Aw_block | apply Aw_skip | apply Aw_exit | refine Aw_condt rfl ?_ | refine Aw_condf rfl ?_ | (refine qr ?_; simp only [go_sem, Nat.reduceEqDiff, reduceIte, Nat.reduceAdd, Nat.reduceMul, Nat.reduceSub, Nat.reduceLT, Nat.reduceLeDiff, Nat.reduceBEq]) | (refine qd (by kernel_rfl) (by kernel_rfl) ?_; simp only [go_sem, Nat.reduceEqDiff, reduceIte, Nat.reduceAdd, Nat.reduceMul, Nat.reduceSub, Nat.reduceLT, Nat.reduceLeDiff, Nat.reduceBEq]) | refine dk (by kernel_rfl) ?_ | (refine qp (k1) (by simp only [go_sem, Nat.reduceEqDiff, reduceIte, Nat.reduceAdd, Nat.reduceMul, Nat.reduceSub, Nat.reduceLT, Nat.reduceLeDiff, Nat.reduceBEq]; first | done | rfl) rfl (by simp only [go_sem, Nat.reduceLT]) rfl rfl ?_; simp only [go_sem, Nat.reduceEqDiff, reduceIte, Nat.reduceAdd, Nat.reduceMul, Nat.reduceSub, Nat.reduceLT, Nat.reduceLeDiff, Nat.reduceBEq]) | (refine qx (call_N (L := []) (k3) rfl (.cons (.nm rfl) (.nil)) (.inl rfl) rfl) (by simp only [go_sem, Nat.reduceEqDiff, reduceIte, Nat.reduceAdd, Nat.reduceMul, Nat.reduceSub, Nat.reduceLT, Nat.reduceLeDiff, Nat.reduceBEq]; first | done | rfl) rfl (by simp only [go_sem, Nat.reduceLT]) ?_; simp only [go_sem, Nat.reduceEqDiff, reduceIte, Nat.reduceAdd, Nat.reduceMul, Nat.reduceSub, Nat.reduceLT, Nat.reduceLeDiff, Nat.reduceBEq]) | (refine qx (call_L (N' := [6, 7]) (L := []) (k4) rfl (.cons (.nm rfl) (.nil)) (by decide) (by decide) (by decide) (by simp only [go_sem, Nat.reduceEqDiff, reduceIte, Nat.reduceAdd, Nat.reduceMul, Nat.reduceSub, Nat.reduceLT, Nat.reduceLeDiff, Nat.reduceBEq]) (.inl rfl) rfl (by decide)) (by simp only [go_sem, Nat.reduceEqDiff, reduceIte, Nat.reduceAdd, Nat.reduceMul, Nat.reduceSub, Nat.reduceLT, Nat.reduceLeDiff, Nat.reduceBEq]; first | done | rfl) rfl (by simp only [go_sem, Nat.reduceLT]) ?_; simp only [go_sem, Nat.reduceEqDiff, reduceIte, Nat.reduceAdd, Nat.reduceMul, Nat.reduceSub, Nat.reduceLT, Nat.reduceLeDiff, Nat.reduceBEq]))
    exact Aw_ret (retL (M := [6, 7]) (.inl rfl) (by simp only [go_sem, Nat.reduceEqDiff, reduceIte, Nat.reduceAdd, Nat.reduceMul, Nat.reduceSub, Nat.reduceLT, Nat.reduceLeDiff, Nat.reduceBEq]; first | done | rfl) rfl rfl (by rfl) (by simp only [go_sem, Nat.reduceEqDiff, reduceIte, Nat.reduceAdd, Nat.reduceMul, Nat.reduceSub, Nat.reduceLT, Nat.reduceLeDiff, Nat.reduceBEq]; first | done | rfl | (and_intros <;> rfl)) (by decide) (by intro m hm; first | omega | (rcases m with _ | _ | _ | _ | m <;> first | exact ⟨by decide, rfl⟩ | omega)))
def sJoinM (s : Sto) (l : Int) : Option Sto := if (storeS s && inB 0 l 1) = true then (setM s l.toNat []).bind fun x => intoM (1 - l.toNat) x (l.toNat + 1) (s.levels.getD l.toNat []) else none
theorem smR_nil : SmR [] := ⟨by simp, by simp⟩
@[simp] theorem flat_kRow (r : List ByteArray) : (kRow r).flat = true := by
  unfold kRow
  rw [show r.map strD = (r.map fun s => [Value.string s]).map (·.map D.s) by rw [List.map_map]; rfl]
  exact dRow_flat _ _ _
theorem keysM_nil : keysM [] = [] := rfl
theorem sieve_nil {keep : Nat} (hk : keep ≤ 5) : sieveM [] keep = some (eSve keep) := by
  unfold sieveM
  rw [if_pos ⟨rfl, inKeep hk⟩, show Int.toNat (keep : Int) = keep from rfl, bfs0]
  rfl
theorem AC.toL1 {P : Program} {f : FuncId} {args : List TV} {x : AV} {o : Obj} (h : AC P f args noHp 0 ⟨x, hp1 o, 1⟩) : AC P f args noHp 0 ⟨x, hpL [some o], 1⟩ := by rw [hp1_L] at h; exact h
theorem all2_set {α β : Type} {R : α → β → Prop} {xs : List α} {ys : List β} {i : Nat} {a : α} {b : β} (h : All2 R xs ys) (hab : R a b) : All2 R (xs.set i a) (ys.set i b) := h.set i hab
theorem all2_refl {α : Type} {R : α → α → Prop} (h : ∀ x, R x x) (xs : List α) : All2 R xs xs := All2.of_get rfl fun i a b ha hb => by rw [ha] at hb; rw [Option.some.inj hb]; exact h b
theorem l12SetE0_ac (top a b c : List Ent) (x y z : Sve) (keep : Nat) (time : Int) (ts : List Int) (hk : keep ≤ 5) :
    AC Try.prog 203 [hT ⟨top, [a, b, c], [x, y, z], keep, time, ts⟩, iT (0 : Nat), .c (.h 2)] (hpL [some (lvRow [a, b, c]), some (svRow [x, y, z]), some (eRow [])]) 3 ⟨.tup [hT ⟨top, [[], b, c], [eSve keep, y, z], keep, time, ts⟩, bT true], hpL [some (lvRow [[], b, c]), some (svRow [eSve keep, y, z]), none, none], 4⟩ := by
  have h : AC Try.prog 203 [hT ⟨top, [a, b, c], [x, y, z], keep, time, ts⟩, iT (0 : Nat), .c (.h 2)] (hpL [some (lvRow [a, b, c]), some (svRow [x, y, z]), some (eRow [])]) 3 ⟨.tup [hT ⟨top, [a, b, c], [x, y, z], keep, time, ts⟩, bT true], hpL [some ⟨24, 1, true, [[.h 2], [.d (.rs 4 (b.map entD))], [.d (.rs 4 (c.map entD))]]⟩, some ⟨67, 5, true, [[.d (.s (.string zs)), .d (.s (.string zs)), .d (.s (.string zs)), .h 3, .d (.s (.int .i64 keep))], [.d (.s (.string y.letters)), .d (.s (.string y.more)), .d (.s (.string y.first)), .d (.rs 1 (y.rests.map strD)), .d (.s (.int .i64 y.keep))], [.d (.s (.string z.letters)), .d (.s (.string z.more)), .d (.s (.string z.first)), .d (.rs 1 (z.rests.map strD)), .d (.s (.int .i64 z.keep))]]⟩, some (eRow []), some (kRow [])], 4⟩ := by
    have k1 := (skeysOf_ac [] smR_nil).toL1
    have k2 := ssieve_ac [] keep (smS_keys smR_nil)
    rw [sieve_nil hk] at k2
    have k4 := l12Size_ac 0 (by omega)
    have h1 : decide (((8 * (0 + 1) : Nat) : Int) < ((0 : Nat) : Int)) = false := rfl
    refine AC_of Try.func203 rfl Try.ntmps203 Try.results203 (by kernel_rfl) rfl ?_
    simp only [List.zipIdx, List.map, Nat.zero_add, Nat.reduceAdd]
    repeat (first | apply Aw_seq | apply Aw_block | apply Aw_skip | apply Aw_exit | refine Aw_condt rfl ?_ | refine Aw_condf rfl ?_ | (refine qr ?_; simp only [go_sem, Nat.reduceEqDiff, reduceIte, Nat.reduceAdd, Nat.reduceMul, Nat.reduceSub, Nat.reduceLT, Nat.reduceLeDiff, Nat.reduceBEq, h1]) | (refine qd (by kernel_rfl) (by kernel_rfl) ?_; simp only [go_sem, Nat.reduceEqDiff, reduceIte, Nat.reduceAdd, Nat.reduceMul, Nat.reduceSub, Nat.reduceLT, Nat.reduceLeDiff, Nat.reduceBEq, h1]) | refine dk (by kernel_rfl) ?_ | (refine qp (k4) (by simp only [go_sem, Nat.reduceEqDiff, reduceIte, Nat.reduceAdd, Nat.reduceMul, Nat.reduceSub, Nat.reduceLT, Nat.reduceLeDiff, Nat.reduceBEq, h1]; first | done | rfl) rfl (by simp only [go_sem, Nat.reduceLT]) rfl rfl ?_; simp only [go_sem, Nat.reduceEqDiff, reduceIte, Nat.reduceAdd, Nat.reduceMul, Nat.reduceSub, Nat.reduceLT, Nat.reduceLeDiff, Nat.reduceBEq, h1]) | (refine qx (call_N (L := [2]) (k1) rfl (.cons (.ln (n := 2) rfl (lnBB rfl)) (.nil)) (.inr ⟨rfl, by simp⟩) rfl) (by simp only [go_sem, Nat.reduceEqDiff, reduceIte, Nat.reduceAdd, Nat.reduceMul, Nat.reduceSub, Nat.reduceLT, Nat.reduceLeDiff, Nat.reduceBEq, h1]; first | done | rfl) rfl (by simp only [go_sem, Nat.reduceLT]) ?_; simp only [go_sem, Nat.reduceEqDiff, reduceIte, Nat.reduceAdd, Nat.reduceMul, Nat.reduceSub, Nat.reduceLT, Nat.reduceLeDiff, Nat.reduceBEq, h1]) | (refine qx (call_N (L := [7]) (k2) rfl (.cons (.ln (n := 2) rfl (lnBB rfl)) (.cons (.nm rfl) (.nil))) (.inr ⟨rfl, by simp⟩) rfl) (by simp only [go_sem, Nat.reduceEqDiff, reduceIte, Nat.reduceAdd, Nat.reduceMul, Nat.reduceSub, Nat.reduceLT, Nat.reduceLeDiff, Nat.reduceBEq, h1]; first | done | rfl) rfl (by simp only [go_sem, Nat.reduceLT]) ?_; simp only [go_sem, Nat.reduceEqDiff, reduceIte, Nat.reduceAdd, Nat.reduceMul, Nat.reduceSub, Nat.reduceLT, Nat.reduceLeDiff, Nat.reduceBEq, h1]))
    exact Aw_ret (retL (M := [0, 1, 2, 10]) (.inl rfl) (by simp only [go_sem, Nat.reduceEqDiff, reduceIte, Nat.reduceAdd, Nat.reduceMul, Nat.reduceSub, Nat.reduceLT, Nat.reduceLeDiff, Nat.reduceBEq]; first | done | rfl) rfl rfl (by rfl) (by simp only [go_sem, Nat.reduceEqDiff, reduceIte, Nat.reduceAdd, Nat.reduceMul, Nat.reduceSub, Nat.reduceLT, Nat.reduceLeDiff, Nat.reduceBEq]; first | done | rfl | (and_intros <;> rfl)) (by decide) (by intro m hm; first | omega | (rcases m with _ | _ | _ | _ | m <;> first | exact ⟨by decide, rfl⟩ | omega)))
  exact AC.setS [2, 3] h (.cons (.cons (.inl rfl) (.cons (.inl rfl) (.cons (.inl rfl) (.cons (.inl rfl) (.cons (.inl rfl) (.cons (.inl rfl) .nil)))))) (.cons (.inl rfl) .nil))
    ⟨.inr ⟨rfl, rfl, rfl, .cons (.cons (SetC.row0 rfl rfl) .nil) (.cons (.cons (.inl rfl) .nil) (.cons (.cons (.inl rfl) .nil) .nil))⟩, rfl, .inr ⟨rfl, rfl, rfl, .cons (.cons (.inl rfl) (.cons (.inl rfl) (.cons (.inl rfl) (.cons (SetC.row0 rfl rfl) (.cons (.inl rfl) .nil))))) (.cons (.cons (.inl rfl) (.cons (.inl rfl) (.cons (.inl rfl) (.cons (.inl rfl) (.cons (.inl rfl) .nil))))) (.cons (.cons (.inl rfl) (.cons (.inl rfl) (.cons (.inl rfl) (.cons (.inl rfl) (.cons (.inl rfl) .nil))))) .nil))⟩, rfl, trivial⟩
theorem l12SetE1_ac (top a b c : List Ent) (x y z : Sve) (keep : Nat) (time : Int) (ts : List Int) (hk : keep ≤ 5) :
    AC Try.prog 203 [hT ⟨top, [a, b, c], [x, y, z], keep, time, ts⟩, iT (1 : Nat), .c (.h 2)] (hpL [some (lvRow [a, b, c]), some (svRow [x, y, z]), some (eRow [])]) 3 ⟨.tup [hT ⟨top, [a, [], c], [x, eSve keep, z], keep, time, ts⟩, bT true], hpL [some (lvRow [a, [], c]), some (svRow [x, eSve keep, z]), none, none], 4⟩ := by
  have h : AC Try.prog 203 [hT ⟨top, [a, b, c], [x, y, z], keep, time, ts⟩, iT (1 : Nat), .c (.h 2)] (hpL [some (lvRow [a, b, c]), some (svRow [x, y, z]), some (eRow [])]) 3 ⟨.tup [hT ⟨top, [a, b, c], [x, y, z], keep, time, ts⟩, bT true], hpL [some ⟨24, 1, true, [[.d (.rs 4 (a.map entD))], [.h 2], [.d (.rs 4 (c.map entD))]]⟩, some ⟨67, 5, true, [[.d (.s (.string x.letters)), .d (.s (.string x.more)), .d (.s (.string x.first)), .d (.rs 1 (x.rests.map strD)), .d (.s (.int .i64 x.keep))], [.d (.s (.string zs)), .d (.s (.string zs)), .d (.s (.string zs)), .h 3, .d (.s (.int .i64 keep))], [.d (.s (.string z.letters)), .d (.s (.string z.more)), .d (.s (.string z.first)), .d (.rs 1 (z.rests.map strD)), .d (.s (.int .i64 z.keep))]]⟩, some (eRow []), some (kRow [])], 4⟩ := by
    have k1 := (skeysOf_ac [] smR_nil).toL1
    have k2 := ssieve_ac [] keep (smS_keys smR_nil)
    rw [sieve_nil hk] at k2
    have k4 := l12Size_ac 1 (by omega)
    have h1 : decide (((8 * (1 + 1) : Nat) : Int) < ((0 : Nat) : Int)) = false := rfl
    refine AC_of Try.func203 rfl Try.ntmps203 Try.results203 (by kernel_rfl) rfl ?_
    simp only [List.zipIdx, List.map, Nat.zero_add, Nat.reduceAdd]
    repeat (first | apply Aw_seq | apply Aw_block | apply Aw_skip | apply Aw_exit | refine Aw_condt rfl ?_ | refine Aw_condf rfl ?_ | (refine qr ?_; simp only [go_sem, Nat.reduceEqDiff, reduceIte, Nat.reduceAdd, Nat.reduceMul, Nat.reduceSub, Nat.reduceLT, Nat.reduceLeDiff, Nat.reduceBEq, h1]) | (refine qd (by kernel_rfl) (by kernel_rfl) ?_; simp only [go_sem, Nat.reduceEqDiff, reduceIte, Nat.reduceAdd, Nat.reduceMul, Nat.reduceSub, Nat.reduceLT, Nat.reduceLeDiff, Nat.reduceBEq, h1]) | refine dk (by kernel_rfl) ?_ | (refine qp (k4) (by simp only [go_sem, Nat.reduceEqDiff, reduceIte, Nat.reduceAdd, Nat.reduceMul, Nat.reduceSub, Nat.reduceLT, Nat.reduceLeDiff, Nat.reduceBEq, h1]; first | done | rfl) rfl (by simp only [go_sem, Nat.reduceLT]) rfl rfl ?_; simp only [go_sem, Nat.reduceEqDiff, reduceIte, Nat.reduceAdd, Nat.reduceMul, Nat.reduceSub, Nat.reduceLT, Nat.reduceLeDiff, Nat.reduceBEq, h1]) | (refine qx (call_N (L := [2]) (k1) rfl (.cons (.ln (n := 2) rfl (lnBB rfl)) (.nil)) (.inr ⟨rfl, by simp⟩) rfl) (by simp only [go_sem, Nat.reduceEqDiff, reduceIte, Nat.reduceAdd, Nat.reduceMul, Nat.reduceSub, Nat.reduceLT, Nat.reduceLeDiff, Nat.reduceBEq, h1]; first | done | rfl) rfl (by simp only [go_sem, Nat.reduceLT]) ?_; simp only [go_sem, Nat.reduceEqDiff, reduceIte, Nat.reduceAdd, Nat.reduceMul, Nat.reduceSub, Nat.reduceLT, Nat.reduceLeDiff, Nat.reduceBEq, h1]) | (refine qx (call_N (L := [7]) (k2) rfl (.cons (.ln (n := 2) rfl (lnBB rfl)) (.cons (.nm rfl) (.nil))) (.inr ⟨rfl, by simp⟩) rfl) (by simp only [go_sem, Nat.reduceEqDiff, reduceIte, Nat.reduceAdd, Nat.reduceMul, Nat.reduceSub, Nat.reduceLT, Nat.reduceLeDiff, Nat.reduceBEq, h1]; first | done | rfl) rfl (by simp only [go_sem, Nat.reduceLT]) ?_; simp only [go_sem, Nat.reduceEqDiff, reduceIte, Nat.reduceAdd, Nat.reduceMul, Nat.reduceSub, Nat.reduceLT, Nat.reduceLeDiff, Nat.reduceBEq, h1]))
    exact Aw_ret (retL (M := [0, 1, 2, 10]) (.inl rfl) (by simp only [go_sem, Nat.reduceEqDiff, reduceIte, Nat.reduceAdd, Nat.reduceMul, Nat.reduceSub, Nat.reduceLT, Nat.reduceLeDiff, Nat.reduceBEq]; first | done | rfl) rfl rfl (by rfl) (by simp only [go_sem, Nat.reduceEqDiff, reduceIte, Nat.reduceAdd, Nat.reduceMul, Nat.reduceSub, Nat.reduceLT, Nat.reduceLeDiff, Nat.reduceBEq]; first | done | rfl | (and_intros <;> rfl)) (by decide) (by intro m hm; first | omega | (rcases m with _ | _ | _ | _ | m <;> first | exact ⟨by decide, rfl⟩ | omega)))
  exact AC.setS [2, 3] h (.cons (.cons (.inl rfl) (.cons (.inl rfl) (.cons (.inl rfl) (.cons (.inl rfl) (.cons (.inl rfl) (.cons (.inl rfl) .nil)))))) (.cons (.inl rfl) .nil))
    ⟨.inr ⟨rfl, rfl, rfl, .cons (.cons (.inl rfl) .nil) (.cons (.cons (SetC.row0 rfl rfl) .nil) (.cons (.cons (.inl rfl) .nil) .nil))⟩, rfl, .inr ⟨rfl, rfl, rfl, .cons (.cons (.inl rfl) (.cons (.inl rfl) (.cons (.inl rfl) (.cons (.inl rfl) (.cons (.inl rfl) .nil))))) (.cons (.cons (.inl rfl) (.cons (.inl rfl) (.cons (.inl rfl) (.cons (SetC.row0 rfl rfl) (.cons (.inl rfl) .nil))))) (.cons (.cons (.inl rfl) (.cons (.inl rfl) (.cons (.inl rfl) (.cons (.inl rfl) (.cons (.inl rfl) .nil))))) .nil))⟩, rfl, trivial⟩
theorem storeJoinS_ac (s : Sto) (l : Int) (hs : SmSt s) : AC Try.prog 182 [stT s, iT l] noHp 0 ⟨resO (sJoinM s l), noHp, 0⟩ := by
  have k1 := sstoreOk_ac s hs
  unfold sJoinM
  cases c1 : storeS s
  · rw [c1] at k1
    refine AC.nilR (x := .tup [zA, bT false]) ?_ zA_nil
    refine AC_of Try.func182 rfl Try.ntmps182 Try.results182 (by kernel_rfl) rfl ?_
    simp only [List.zipIdx, List.map, Nat.zero_add, Nat.reduceAdd]
    repeat (first | apply Aw_seq | apply Aw_block | apply Aw_skip | apply Aw_exit | refine Aw_condt rfl ?_ | refine Aw_condf rfl ?_ | (refine qr ?_; simp only [go_sem, Nat.reduceEqDiff, reduceIte, Nat.reduceAdd, Nat.reduceMul, Nat.reduceSub, Nat.reduceLT, Nat.reduceLeDiff, Nat.reduceBEq]) | (refine qd (by kernel_rfl) (by kernel_rfl) ?_; simp only [go_sem, Nat.reduceEqDiff, reduceIte, Nat.reduceAdd, Nat.reduceMul, Nat.reduceSub, Nat.reduceLT, Nat.reduceLeDiff, Nat.reduceBEq]) | refine dk (by kernel_rfl) ?_ | (refine qp (k1) (by simp only [go_sem, Nat.reduceEqDiff, reduceIte, Nat.reduceAdd, Nat.reduceMul, Nat.reduceSub, Nat.reduceLT, Nat.reduceLeDiff, Nat.reduceBEq]; first | done | rfl) rfl (by simp only [go_sem, Nat.reduceLT]) rfl rfl ?_; simp only [go_sem, Nat.reduceEqDiff, reduceIte, Nat.reduceAdd, Nat.reduceMul, Nat.reduceSub, Nat.reduceLT, Nat.reduceLeDiff, Nat.reduceBEq]))
    exact Aw_ret (ret0 (.inl rfl) (by simp only [go_sem, Nat.reduceEqDiff, reduceIte, Nat.reduceAdd, Nat.reduceMul, Nat.reduceSub, Nat.reduceLT, Nat.reduceLeDiff, Nat.reduceBEq]; rfl) (by rfl) rfl)
  rw [c1] at k1
  cases c2 : inB 0 l 1
  · refine AC.nilR (x := .tup [zA, bT false]) ?_ zA_nil
    refine AC_of Try.func182 rfl Try.ntmps182 Try.results182 (by kernel_rfl) rfl ?_
    simp only [List.zipIdx, List.map, Nat.zero_add, Nat.reduceAdd]
    repeat (first | apply Aw_seq | apply Aw_block | apply Aw_skip | apply Aw_exit | refine Aw_condt rfl ?_ | refine Aw_condf rfl ?_ | (refine qr ?_; simp only [go_sem, Nat.reduceEqDiff, reduceIte, Nat.reduceAdd, Nat.reduceMul, Nat.reduceSub, Nat.reduceLT, Nat.reduceLeDiff, Nat.reduceBEq, c2]) | (refine qd (by kernel_rfl) (by kernel_rfl) ?_; simp only [go_sem, Nat.reduceEqDiff, reduceIte, Nat.reduceAdd, Nat.reduceMul, Nat.reduceSub, Nat.reduceLT, Nat.reduceLeDiff, Nat.reduceBEq, c2]) | refine dk (by kernel_rfl) ?_ | (refine qp (k1) (by simp only [go_sem, Nat.reduceEqDiff, reduceIte, Nat.reduceAdd, Nat.reduceMul, Nat.reduceSub, Nat.reduceLT, Nat.reduceLeDiff, Nat.reduceBEq, c2]; first | done | rfl) rfl (by simp only [go_sem, Nat.reduceLT]) rfl rfl ?_; simp only [go_sem, Nat.reduceEqDiff, reduceIte, Nat.reduceAdd, Nat.reduceMul, Nat.reduceSub, Nat.reduceLT, Nat.reduceLeDiff, Nat.reduceBEq, c2]) | (refine qp (l6In_ac _ _ _) (by simp only [go_sem, Nat.reduceEqDiff, reduceIte, Nat.reduceAdd, Nat.reduceMul, Nat.reduceSub, Nat.reduceLT, Nat.reduceLeDiff, Nat.reduceBEq, c2]; first | done | rfl) rfl (by simp only [go_sem, Nat.reduceLT]) rfl rfl ?_; simp only [go_sem, Nat.reduceEqDiff, reduceIte, Nat.reduceAdd, Nat.reduceMul, Nat.reduceSub, Nat.reduceLT, Nat.reduceLeDiff, Nat.reduceBEq, c2]))
    exact Aw_ret (ret0 (.inl rfl) (by simp only [go_sem, Nat.reduceEqDiff, reduceIte, Nat.reduceAdd, Nat.reduceMul, Nat.reduceSub, Nat.reduceLT, Nat.reduceLeDiff, Nat.reduceBEq]; rfl) (by rfl) rfl)
  have k3 := copyV_ac s hs c1
  have sm := valid_sm hs c1
  obtain ⟨h1, h2, h3, h4, h5, _, h7⟩ := storeS_facts c1
  obtain ⟨top, levels, sieves, keep, time, ts⟩ := s
  dsimp only at h1 h2 h3 h4 h5 h7
  obtain ⟨a, b, c, rfl⟩ := len3 h1
  obtain ⟨x, y, z, rfl⟩ := len3 h2
  obtain ⟨kn, hk, rfl⟩ : ∃ n : Nat, n ≤ 5 ∧ keep = n := by
    unfold inB at h7
    rw [Bool.and_eq_true] at h7
    have h1 := of_decide_eq_true h7.1; have h2 := of_decide_eq_true h7.2
    exact ⟨keep.toNat, by omega, by omega⟩
  rw [if_pos (show (true && true) = true from rfl)]
  have hl01 : l = ((0 : Nat) : Int) ∨ l = ((1 : Nat) : Int) := by
    unfold inB at c2
    rw [Bool.and_eq_true] at c2
    have h1 := of_decide_eq_true c2.1; have h2 := of_decide_eq_true c2.2
    omega
  rcases hl01 with rfl | rfl
  · have hset : setM ⟨top, [a, b, c], [x, y, z], kn, time, ts⟩ 0 [] = some ⟨top, [[], b, c], [eSve kn, y, z], kn, time, ts⟩ := by
      unfold setM; rw [keysM_nil, sieve_nil hk]; simp
    have k4 := l12SetE0_ac top a b c x y z kn time ts hk
    have smx : SmH ⟨top, [[], b, c], [eSve kn, y, z], kn, time, ts⟩ := setM_sm sm (by omega) smR_nil hset
    obtain ⟨hq1, hq2⟩ := sm.lev a (by simp)
    have w1 : IntKind.i64.wrap (((0 : Nat) : Int) + 1) = ((1 : Nat) : Int) := rfl
    obtain ⟨i1, i2⟩ := into_ac 1 ⟨top, [[], b, c], [eSve kn, y, z], kn, time, ts⟩ 1 a rfl smx hq1 hq2
    rw [show Int.toNat ((0 : Nat) : Int) = 0 from rfl, hset, Option.bind_some, show ([a, b, c] : List (List Ent)).getD 0 [] = a from rfl]
    cases hin : intoM 1 ⟨top, [[], b, c], [eSve kn, y, z], kn, time, ts⟩ 1 a with
    | none =>
      have k5 := i2 hin
      refine AC_of Try.func182 rfl Try.ntmps182 Try.results182 (by kernel_rfl) rfl ?_
      simp only [List.zipIdx, List.map, Nat.zero_add, Nat.reduceAdd]
      repeat (first | apply Aw_seq | apply Aw_block | apply Aw_skip | apply Aw_exit | refine Aw_condt rfl ?_ | refine Aw_condf rfl ?_ | (refine qr ?_; simp only [go_sem, Nat.reduceEqDiff, reduceIte, Nat.reduceAdd, Nat.reduceMul, Nat.reduceSub, Nat.reduceLT, Nat.reduceLeDiff, Nat.reduceBEq, c2, w1]) | (refine qd (by kernel_rfl) (by kernel_rfl) ?_; simp only [go_sem, Nat.reduceEqDiff, reduceIte, Nat.reduceAdd, Nat.reduceMul, Nat.reduceSub, Nat.reduceLT, Nat.reduceLeDiff, Nat.reduceBEq, c2, w1]) | refine dk (by kernel_rfl) ?_ | (refine qp (k1) (by simp only [go_sem, Nat.reduceEqDiff, reduceIte, Nat.reduceAdd, Nat.reduceMul, Nat.reduceSub, Nat.reduceLT, Nat.reduceLeDiff, Nat.reduceBEq, c2, w1]; first | done | rfl) rfl (by simp only [go_sem, Nat.reduceLT]) rfl rfl ?_; simp only [go_sem, Nat.reduceEqDiff, reduceIte, Nat.reduceAdd, Nat.reduceMul, Nat.reduceSub, Nat.reduceLT, Nat.reduceLeDiff, Nat.reduceBEq, c2, w1]) | (refine qp (l6In_ac _ _ _) (by simp only [go_sem, Nat.reduceEqDiff, reduceIte, Nat.reduceAdd, Nat.reduceMul, Nat.reduceSub, Nat.reduceLT, Nat.reduceLeDiff, Nat.reduceBEq, c2, w1]; first | done | rfl) rfl (by simp only [go_sem, Nat.reduceLT]) rfl rfl ?_; simp only [go_sem, Nat.reduceEqDiff, reduceIte, Nat.reduceAdd, Nat.reduceMul, Nat.reduceSub, Nat.reduceLT, Nat.reduceLeDiff, Nat.reduceBEq, c2, w1]) | (refine qx (call_N (L := []) (k3) rfl (.cons (.nm rfl) (.nil)) (.inl rfl) rfl) (by simp only [go_sem, Nat.reduceEqDiff, reduceIte, Nat.reduceAdd, Nat.reduceMul, Nat.reduceSub, Nat.reduceLT, Nat.reduceLeDiff, Nat.reduceBEq, c2, w1]; first | done | rfl) rfl (by simp only [go_sem, Nat.reduceLT]) ?_; simp only [go_sem, Nat.reduceEqDiff, reduceIte, Nat.reduceAdd, Nat.reduceMul, Nat.reduceSub, Nat.reduceLT, Nat.reduceLeDiff, Nat.reduceBEq, c2, w1]) | (refine qx (call_L (N' := [10, 11, 21]) (L := []) (k4) rfl (.cons (.nm rfl) (.cons (.nm rfl) (.cons (.nm rfl) (.nil)))) (by decide) (by decide) (by decide) (by simp only [go_sem, Nat.reduceEqDiff, reduceIte, Nat.reduceAdd, Nat.reduceMul, Nat.reduceSub, Nat.reduceLT, Nat.reduceLeDiff, Nat.reduceBEq, c2, w1]) (.inl rfl) rfl (by decide)) (by simp only [go_sem, Nat.reduceEqDiff, reduceIte, Nat.reduceAdd, Nat.reduceMul, Nat.reduceSub, Nat.reduceLT, Nat.reduceLeDiff, Nat.reduceBEq, c2, w1]; first | done | rfl) rfl (by simp only [go_sem, Nat.reduceLT]) ?_; simp only [go_sem, Nat.reduceEqDiff, reduceIte, Nat.reduceAdd, Nat.reduceMul, Nat.reduceSub, Nat.reduceLT, Nat.reduceLeDiff, Nat.reduceBEq, c2, w1]) | (refine qx (call_L (N' := [10, 11]) (L := []) (k5) rfl (.cons (.nm rfl) (.cons (.nm rfl) (.cons (.nm rfl) (.nil)))) (by decide) (by decide) (by decide) (by simp only [go_sem, Nat.reduceEqDiff, reduceIte, Nat.reduceAdd, Nat.reduceMul, Nat.reduceSub, Nat.reduceLT, Nat.reduceLeDiff, Nat.reduceBEq, c2, w1]) (.inl rfl) rfl (by decide)) (by simp only [go_sem, Nat.reduceEqDiff, reduceIte, Nat.reduceAdd, Nat.reduceMul, Nat.reduceSub, Nat.reduceLT, Nat.reduceLeDiff, Nat.reduceBEq, c2, w1]; first | done | rfl) rfl (by simp only [go_sem, Nat.reduceLT]) ?_; simp only [go_sem, Nat.reduceEqDiff, reduceIte, Nat.reduceAdd, Nat.reduceMul, Nat.reduceSub, Nat.reduceLT, Nat.reduceLeDiff, Nat.reduceBEq, c2, w1]))
      exact Aw_ret (ret0 (.inl rfl) (by simp only [go_sem, Nat.reduceEqDiff, reduceIte, Nat.reduceAdd, Nat.reduceMul, Nat.reduceSub, Nat.reduceLT, Nat.reduceLeDiff, Nat.reduceBEq]; rfl) (by rfl) rfl)
    | some s2 =>
      have k5 := i1 s2 hin
      refine hT_settle ?_
      refine AC_of Try.func182 rfl Try.ntmps182 Try.results182 (by kernel_rfl) rfl ?_
      simp only [List.zipIdx, List.map, Nat.zero_add, Nat.reduceAdd]
      repeat (first | apply Aw_seq | apply Aw_block | apply Aw_skip | apply Aw_exit | refine Aw_condt rfl ?_ | refine Aw_condf rfl ?_ | (refine qr ?_; simp only [go_sem, Nat.reduceEqDiff, reduceIte, Nat.reduceAdd, Nat.reduceMul, Nat.reduceSub, Nat.reduceLT, Nat.reduceLeDiff, Nat.reduceBEq, c2, w1]) | (refine qd (by kernel_rfl) (by kernel_rfl) ?_; simp only [go_sem, Nat.reduceEqDiff, reduceIte, Nat.reduceAdd, Nat.reduceMul, Nat.reduceSub, Nat.reduceLT, Nat.reduceLeDiff, Nat.reduceBEq, c2, w1]) | refine dk (by kernel_rfl) ?_ | (refine qp (k1) (by simp only [go_sem, Nat.reduceEqDiff, reduceIte, Nat.reduceAdd, Nat.reduceMul, Nat.reduceSub, Nat.reduceLT, Nat.reduceLeDiff, Nat.reduceBEq, c2, w1]; first | done | rfl) rfl (by simp only [go_sem, Nat.reduceLT]) rfl rfl ?_; simp only [go_sem, Nat.reduceEqDiff, reduceIte, Nat.reduceAdd, Nat.reduceMul, Nat.reduceSub, Nat.reduceLT, Nat.reduceLeDiff, Nat.reduceBEq, c2, w1]) | (refine qp (l6In_ac _ _ _) (by simp only [go_sem, Nat.reduceEqDiff, reduceIte, Nat.reduceAdd, Nat.reduceMul, Nat.reduceSub, Nat.reduceLT, Nat.reduceLeDiff, Nat.reduceBEq, c2, w1]; first | done | rfl) rfl (by simp only [go_sem, Nat.reduceLT]) rfl rfl ?_; simp only [go_sem, Nat.reduceEqDiff, reduceIte, Nat.reduceAdd, Nat.reduceMul, Nat.reduceSub, Nat.reduceLT, Nat.reduceLeDiff, Nat.reduceBEq, c2, w1]) | (refine qx (call_N (L := []) (k3) rfl (.cons (.nm rfl) (.nil)) (.inl rfl) rfl) (by simp only [go_sem, Nat.reduceEqDiff, reduceIte, Nat.reduceAdd, Nat.reduceMul, Nat.reduceSub, Nat.reduceLT, Nat.reduceLeDiff, Nat.reduceBEq, c2, w1]; first | done | rfl) rfl (by simp only [go_sem, Nat.reduceLT]) ?_; simp only [go_sem, Nat.reduceEqDiff, reduceIte, Nat.reduceAdd, Nat.reduceMul, Nat.reduceSub, Nat.reduceLT, Nat.reduceLeDiff, Nat.reduceBEq, c2, w1]) | (refine qx (call_L (N' := [10, 11, 21]) (L := []) (k4) rfl (.cons (.nm rfl) (.cons (.nm rfl) (.cons (.nm rfl) (.nil)))) (by decide) (by decide) (by decide) (by simp only [go_sem, Nat.reduceEqDiff, reduceIte, Nat.reduceAdd, Nat.reduceMul, Nat.reduceSub, Nat.reduceLT, Nat.reduceLeDiff, Nat.reduceBEq, c2, w1]) (.inl rfl) rfl (by decide)) (by simp only [go_sem, Nat.reduceEqDiff, reduceIte, Nat.reduceAdd, Nat.reduceMul, Nat.reduceSub, Nat.reduceLT, Nat.reduceLeDiff, Nat.reduceBEq, c2, w1]; first | done | rfl) rfl (by simp only [go_sem, Nat.reduceLT]) ?_; simp only [go_sem, Nat.reduceEqDiff, reduceIte, Nat.reduceAdd, Nat.reduceMul, Nat.reduceSub, Nat.reduceLT, Nat.reduceLeDiff, Nat.reduceBEq, c2, w1]) | (refine qx (call_L (N' := [10, 11]) (L := []) (k5) rfl (.cons (.nm rfl) (.cons (.nm rfl) (.cons (.nm rfl) (.nil)))) (by decide) (by decide) (by decide) (by simp only [go_sem, Nat.reduceEqDiff, reduceIte, Nat.reduceAdd, Nat.reduceMul, Nat.reduceSub, Nat.reduceLT, Nat.reduceLeDiff, Nat.reduceBEq, c2, w1]) (.inl rfl) rfl (by decide)) (by simp only [go_sem, Nat.reduceEqDiff, reduceIte, Nat.reduceAdd, Nat.reduceMul, Nat.reduceSub, Nat.reduceLT, Nat.reduceLeDiff, Nat.reduceBEq, c2, w1]; first | done | rfl) rfl (by simp only [go_sem, Nat.reduceLT]) ?_; simp only [go_sem, Nat.reduceEqDiff, reduceIte, Nat.reduceAdd, Nat.reduceMul, Nat.reduceSub, Nat.reduceLT, Nat.reduceLeDiff, Nat.reduceBEq, c2, w1]))
      exact Aw_ret (retL (M := [10, 11]) (.inl rfl) (by simp only [go_sem, Nat.reduceEqDiff, reduceIte, Nat.reduceAdd, Nat.reduceMul, Nat.reduceSub, Nat.reduceLT, Nat.reduceLeDiff, Nat.reduceBEq]; first | done | rfl) rfl rfl (by rfl) (by simp only [go_sem, Nat.reduceEqDiff, reduceIte, Nat.reduceAdd, Nat.reduceMul, Nat.reduceSub, Nat.reduceLT, Nat.reduceLeDiff, Nat.reduceBEq]; first | done | rfl | (and_intros <;> rfl)) (by decide) (by intro m hm; first | omega | (rcases m with _ | _ | _ | _ | m <;> first | exact ⟨by decide, rfl⟩ | omega)))
  · have hset : setM ⟨top, [a, b, c], [x, y, z], kn, time, ts⟩ 1 [] = some ⟨top, [a, [], c], [x, eSve kn, z], kn, time, ts⟩ := by
      unfold setM; rw [keysM_nil, sieve_nil hk]; simp
    have k4 := l12SetE1_ac top a b c x y z kn time ts hk
    have smx : SmH ⟨top, [a, [], c], [x, eSve kn, z], kn, time, ts⟩ := setM_sm sm (by omega) smR_nil hset
    obtain ⟨hq1, hq2⟩ := sm.lev b (by simp)
    have w1 : IntKind.i64.wrap (((1 : Nat) : Int) + 1) = ((2 : Nat) : Int) := rfl
    obtain ⟨i1, i2⟩ := into_ac 0 ⟨top, [a, [], c], [x, eSve kn, z], kn, time, ts⟩ 2 b rfl smx hq1 hq2
    rw [show Int.toNat ((1 : Nat) : Int) = 1 from rfl, hset, Option.bind_some, show ([a, b, c] : List (List Ent)).getD 1 [] = b from rfl]
    cases hin : intoM 0 ⟨top, [a, [], c], [x, eSve kn, z], kn, time, ts⟩ 2 b with
    | none =>
      have k5 := i2 hin
      refine AC_of Try.func182 rfl Try.ntmps182 Try.results182 (by kernel_rfl) rfl ?_
      simp only [List.zipIdx, List.map, Nat.zero_add, Nat.reduceAdd]
      repeat (first | apply Aw_seq | apply Aw_block | apply Aw_skip | apply Aw_exit | refine Aw_condt rfl ?_ | refine Aw_condf rfl ?_ | (refine qr ?_; simp only [go_sem, Nat.reduceEqDiff, reduceIte, Nat.reduceAdd, Nat.reduceMul, Nat.reduceSub, Nat.reduceLT, Nat.reduceLeDiff, Nat.reduceBEq, c2, w1]) | (refine qd (by kernel_rfl) (by kernel_rfl) ?_; simp only [go_sem, Nat.reduceEqDiff, reduceIte, Nat.reduceAdd, Nat.reduceMul, Nat.reduceSub, Nat.reduceLT, Nat.reduceLeDiff, Nat.reduceBEq, c2, w1]) | refine dk (by kernel_rfl) ?_ | (refine qp (k1) (by simp only [go_sem, Nat.reduceEqDiff, reduceIte, Nat.reduceAdd, Nat.reduceMul, Nat.reduceSub, Nat.reduceLT, Nat.reduceLeDiff, Nat.reduceBEq, c2, w1]; first | done | rfl) rfl (by simp only [go_sem, Nat.reduceLT]) rfl rfl ?_; simp only [go_sem, Nat.reduceEqDiff, reduceIte, Nat.reduceAdd, Nat.reduceMul, Nat.reduceSub, Nat.reduceLT, Nat.reduceLeDiff, Nat.reduceBEq, c2, w1]) | (refine qp (l6In_ac _ _ _) (by simp only [go_sem, Nat.reduceEqDiff, reduceIte, Nat.reduceAdd, Nat.reduceMul, Nat.reduceSub, Nat.reduceLT, Nat.reduceLeDiff, Nat.reduceBEq, c2, w1]; first | done | rfl) rfl (by simp only [go_sem, Nat.reduceLT]) rfl rfl ?_; simp only [go_sem, Nat.reduceEqDiff, reduceIte, Nat.reduceAdd, Nat.reduceMul, Nat.reduceSub, Nat.reduceLT, Nat.reduceLeDiff, Nat.reduceBEq, c2, w1]) | (refine qx (call_N (L := []) (k3) rfl (.cons (.nm rfl) (.nil)) (.inl rfl) rfl) (by simp only [go_sem, Nat.reduceEqDiff, reduceIte, Nat.reduceAdd, Nat.reduceMul, Nat.reduceSub, Nat.reduceLT, Nat.reduceLeDiff, Nat.reduceBEq, c2, w1]; first | done | rfl) rfl (by simp only [go_sem, Nat.reduceLT]) ?_; simp only [go_sem, Nat.reduceEqDiff, reduceIte, Nat.reduceAdd, Nat.reduceMul, Nat.reduceSub, Nat.reduceLT, Nat.reduceLeDiff, Nat.reduceBEq, c2, w1]) | (refine qx (call_L (N' := [10, 11, 21]) (L := []) (k4) rfl (.cons (.nm rfl) (.cons (.nm rfl) (.cons (.nm rfl) (.nil)))) (by decide) (by decide) (by decide) (by simp only [go_sem, Nat.reduceEqDiff, reduceIte, Nat.reduceAdd, Nat.reduceMul, Nat.reduceSub, Nat.reduceLT, Nat.reduceLeDiff, Nat.reduceBEq, c2, w1]) (.inl rfl) rfl (by decide)) (by simp only [go_sem, Nat.reduceEqDiff, reduceIte, Nat.reduceAdd, Nat.reduceMul, Nat.reduceSub, Nat.reduceLT, Nat.reduceLeDiff, Nat.reduceBEq, c2, w1]; first | done | rfl) rfl (by simp only [go_sem, Nat.reduceLT]) ?_; simp only [go_sem, Nat.reduceEqDiff, reduceIte, Nat.reduceAdd, Nat.reduceMul, Nat.reduceSub, Nat.reduceLT, Nat.reduceLeDiff, Nat.reduceBEq, c2, w1]) | (refine qx (call_L (N' := [10, 11]) (L := []) (k5) rfl (.cons (.nm rfl) (.cons (.nm rfl) (.cons (.nm rfl) (.nil)))) (by decide) (by decide) (by decide) (by simp only [go_sem, Nat.reduceEqDiff, reduceIte, Nat.reduceAdd, Nat.reduceMul, Nat.reduceSub, Nat.reduceLT, Nat.reduceLeDiff, Nat.reduceBEq, c2, w1]) (.inl rfl) rfl (by decide)) (by simp only [go_sem, Nat.reduceEqDiff, reduceIte, Nat.reduceAdd, Nat.reduceMul, Nat.reduceSub, Nat.reduceLT, Nat.reduceLeDiff, Nat.reduceBEq, c2, w1]; first | done | rfl) rfl (by simp only [go_sem, Nat.reduceLT]) ?_; simp only [go_sem, Nat.reduceEqDiff, reduceIte, Nat.reduceAdd, Nat.reduceMul, Nat.reduceSub, Nat.reduceLT, Nat.reduceLeDiff, Nat.reduceBEq, c2, w1]))
      exact Aw_ret (ret0 (.inl rfl) (by simp only [go_sem, Nat.reduceEqDiff, reduceIte, Nat.reduceAdd, Nat.reduceMul, Nat.reduceSub, Nat.reduceLT, Nat.reduceLeDiff, Nat.reduceBEq]; rfl) (by rfl) rfl)
    | some s2 =>
      have k5 := i1 s2 hin
      refine hT_settle ?_
      refine AC_of Try.func182 rfl Try.ntmps182 Try.results182 (by kernel_rfl) rfl ?_
      simp only [List.zipIdx, List.map, Nat.zero_add, Nat.reduceAdd]
      repeat (first | apply Aw_seq | apply Aw_block | apply Aw_skip | apply Aw_exit | refine Aw_condt rfl ?_ | refine Aw_condf rfl ?_ | (refine qr ?_; simp only [go_sem, Nat.reduceEqDiff, reduceIte, Nat.reduceAdd, Nat.reduceMul, Nat.reduceSub, Nat.reduceLT, Nat.reduceLeDiff, Nat.reduceBEq, c2, w1]) | (refine qd (by kernel_rfl) (by kernel_rfl) ?_; simp only [go_sem, Nat.reduceEqDiff, reduceIte, Nat.reduceAdd, Nat.reduceMul, Nat.reduceSub, Nat.reduceLT, Nat.reduceLeDiff, Nat.reduceBEq, c2, w1]) | refine dk (by kernel_rfl) ?_ | (refine qp (k1) (by simp only [go_sem, Nat.reduceEqDiff, reduceIte, Nat.reduceAdd, Nat.reduceMul, Nat.reduceSub, Nat.reduceLT, Nat.reduceLeDiff, Nat.reduceBEq, c2, w1]; first | done | rfl) rfl (by simp only [go_sem, Nat.reduceLT]) rfl rfl ?_; simp only [go_sem, Nat.reduceEqDiff, reduceIte, Nat.reduceAdd, Nat.reduceMul, Nat.reduceSub, Nat.reduceLT, Nat.reduceLeDiff, Nat.reduceBEq, c2, w1]) | (refine qp (l6In_ac _ _ _) (by simp only [go_sem, Nat.reduceEqDiff, reduceIte, Nat.reduceAdd, Nat.reduceMul, Nat.reduceSub, Nat.reduceLT, Nat.reduceLeDiff, Nat.reduceBEq, c2, w1]; first | done | rfl) rfl (by simp only [go_sem, Nat.reduceLT]) rfl rfl ?_; simp only [go_sem, Nat.reduceEqDiff, reduceIte, Nat.reduceAdd, Nat.reduceMul, Nat.reduceSub, Nat.reduceLT, Nat.reduceLeDiff, Nat.reduceBEq, c2, w1]) | (refine qx (call_N (L := []) (k3) rfl (.cons (.nm rfl) (.nil)) (.inl rfl) rfl) (by simp only [go_sem, Nat.reduceEqDiff, reduceIte, Nat.reduceAdd, Nat.reduceMul, Nat.reduceSub, Nat.reduceLT, Nat.reduceLeDiff, Nat.reduceBEq, c2, w1]; first | done | rfl) rfl (by simp only [go_sem, Nat.reduceLT]) ?_; simp only [go_sem, Nat.reduceEqDiff, reduceIte, Nat.reduceAdd, Nat.reduceMul, Nat.reduceSub, Nat.reduceLT, Nat.reduceLeDiff, Nat.reduceBEq, c2, w1]) | (refine qx (call_L (N' := [10, 11, 21]) (L := []) (k4) rfl (.cons (.nm rfl) (.cons (.nm rfl) (.cons (.nm rfl) (.nil)))) (by decide) (by decide) (by decide) (by simp only [go_sem, Nat.reduceEqDiff, reduceIte, Nat.reduceAdd, Nat.reduceMul, Nat.reduceSub, Nat.reduceLT, Nat.reduceLeDiff, Nat.reduceBEq, c2, w1]) (.inl rfl) rfl (by decide)) (by simp only [go_sem, Nat.reduceEqDiff, reduceIte, Nat.reduceAdd, Nat.reduceMul, Nat.reduceSub, Nat.reduceLT, Nat.reduceLeDiff, Nat.reduceBEq, c2, w1]; first | done | rfl) rfl (by simp only [go_sem, Nat.reduceLT]) ?_; simp only [go_sem, Nat.reduceEqDiff, reduceIte, Nat.reduceAdd, Nat.reduceMul, Nat.reduceSub, Nat.reduceLT, Nat.reduceLeDiff, Nat.reduceBEq, c2, w1]) | (refine qx (call_L (N' := [10, 11]) (L := []) (k5) rfl (.cons (.nm rfl) (.cons (.nm rfl) (.cons (.nm rfl) (.nil)))) (by decide) (by decide) (by decide) (by simp only [go_sem, Nat.reduceEqDiff, reduceIte, Nat.reduceAdd, Nat.reduceMul, Nat.reduceSub, Nat.reduceLT, Nat.reduceLeDiff, Nat.reduceBEq, c2, w1]) (.inl rfl) rfl (by decide)) (by simp only [go_sem, Nat.reduceEqDiff, reduceIte, Nat.reduceAdd, Nat.reduceMul, Nat.reduceSub, Nat.reduceLT, Nat.reduceLeDiff, Nat.reduceBEq, c2, w1]; first | done | rfl) rfl (by simp only [go_sem, Nat.reduceLT]) ?_; simp only [go_sem, Nat.reduceEqDiff, reduceIte, Nat.reduceAdd, Nat.reduceMul, Nat.reduceSub, Nat.reduceLT, Nat.reduceLeDiff, Nat.reduceBEq, c2, w1]))
      exact Aw_ret (retL (M := [10, 11]) (.inl rfl) (by simp only [go_sem, Nat.reduceEqDiff, reduceIte, Nat.reduceAdd, Nat.reduceMul, Nat.reduceSub, Nat.reduceLT, Nat.reduceLeDiff, Nat.reduceBEq]; first | done | rfl) rfl rfl (by rfl) (by simp only [go_sem, Nat.reduceEqDiff, reduceIte, Nat.reduceAdd, Nat.reduceMul, Nat.reduceSub, Nat.reduceLT, Nat.reduceLeDiff, Nat.reduceBEq]; first | done | rfl | (and_intros <;> rfl)) (by decide) (by intro m hm; first | omega | (rcases m with _ | _ | _ | _ | m <;> first | exact ⟨by decide, rfl⟩ | omega)))
end Go.Proofs.Ytcbhgglpgphimaa.Ab
namespace Go.Proofs.Ytcbhgglpgphimaa.Ab
set_option linter.deprecated false
set_option linter.unusedVariables false
set_option linter.unusedSimpArgs false
open Go Go.Proofs
set_option maxRecDepth 10000
set_option maxHeartbeats 8000000
set_option linter.unusedSimpArgs false
set_option linter.unusedVariables false
abbrev hTt (s : Sto) : TV := .agg [.d (.rs 4 (s.top.map entD)), .h 0, .h 1, .d (.s (.int .i64 s.keep)), .d (.s (.int .i64 s.time)), .h 2]
def hSt (s : Sto) : List (Option Obj) := [some (lvRow s.levels), some (svRow s.sieves), some (dRow 3 1 (s.times.map intD))]
@[go_sem] theorem r_hSt (s : Sto) : hSt s = [some (dRow 24 1 (s.levels.map lvD)), some (dRow 67 5 (s.sieves.map sveD)), some (dRow 3 1 (s.times.map intD))] := rfl
theorem copyT_ac (s : Sto) (hs : SmSt s) (hv : storeS s = true) : AC Try.prog 192 [stT s] noHp 0 ⟨.t (hTt s), hpL (hSt s), 3⟩ := by
  obtain ⟨h1, h2, h3, h4, h5, _⟩ := storeS_facts hv
  obtain ⟨top, levels, sieves, keep, time, ts⟩ := s
  dsimp only at h1 h2 h3 h4 h5
  obtain ⟨a, b, c, rfl⟩ := len3 h1
  obtain ⟨x, y, z, rfl⟩ := len3 h2
  have q1 := h5 a (by simp); have q2 := h5 b (by simp); have q3 := h5 c (by simp)
  have h := AC.setS [0, 4, 5, 6, 7, 8, 9] (l12Copy_ac top a b c x y z keep time ts (by omega) (by omega) (by omega) (by omega) (hs.rl x (by simp)) (hs.rl y (by simp)) (hs.rl z (by simp)) (by omega)) (y := .t (.agg [.d (.rs 4 (top.map entD)), .h 1, .h 2, .d (.s (.int .i64 keep)), .d (.s (.int .i64 time)), .h 3])) (os' := [none, some (lvRow [a, b, c]), some (svRow [x, y, z]), some (dRow 3 1 (ts.map intD))])
    (.cons (SetC.row0 rfl rfl) (.cons (.inl rfl) (.cons (.inl rfl) (.cons (.inl rfl) (.cons (.inl rfl) (.cons (.inl rfl) .nil))))))
    ⟨.inr ⟨rfl, rfl, rfl, .cons (.cons (SetC.row0 rfl rfl) .nil) (.cons (.cons (SetC.row0 rfl rfl) .nil) (.cons (.cons (SetC.row0 rfl rfl) .nil) .nil))⟩, rfl,
      .inr ⟨rfl, rfl, rfl, .cons (.cons (.inl rfl) (.cons (.inl rfl) (.cons (.inl rfl) (.cons (SetC.row0 rfl rfl) (.cons (.inl rfl) .nil))))) (.cons (.cons (.inl rfl) (.cons (.inl rfl) (.cons (.inl rfl) (.cons (SetC.row0 rfl rfl) (.cons (.inl rfl) .nil))))) (.cons (.cons (.inl rfl) (.cons (.inl rfl) (.cons (.inl rfl) (.cons (SetC.row0 rfl rfl) (.cons (.inl rfl) .nil))))) .nil))⟩, rfl, .inl rfl, rfl, trivial⟩
  refine AC.sel (M := [1, 2, 3]) h rfl rfl (selL rfl ?_) (by decide) fun m hm => absurd hm (by omega)
  simp only [go_sem, LeftL]
theorem hTt_settle {P : Program} {f : FuncId} {args : List TV} {s : Sto} {r : List TV} (hr : (AV.tup r).bd 0 = true) (h : AC P f args noHp 0 ⟨.tup (hTt s :: r), hpL (hSt s), 3⟩) : AC P f args noHp 0 ⟨.tup (stT s :: r), noHp, 0⟩ :=
  AC.settle0 [0, 1, 2] h (.cons (.cons (.inl rfl) (.cons (SetC.row0 rfl rfl) (.cons (SetC.row0 rfl rfl) (.cons (.inl rfl) (.cons (.inl rfl) (.cons (SetC.row0 rfl rfl) .nil)))))) (All2.of_get rfl fun i a b ha hb => by rw [ha] at hb; rw [Option.some.inj hb]; exact SetA.same (y := .t b) rfl)) (by simpa [AV.bd, TV.bd, CV.bd] using hr)
theorem AC.toL0 {P : Program} {f : FuncId} {args : List TV} {x : AV} (h : AC P f args noHp 0 ⟨x, noHp, 0⟩) : AC P f args noHp 0 ⟨x, hpL [], 0⟩ := by rw [hpL_nil]; exact h
def heldTs (s : Sto) : List Int := if s.times.getLast? = some s.time then s.times else s.times ++ [s.time]
def holdM (s : Sto) : Option Sto := if storeS s = true then (if timesM (heldTs s) s.time = true then some { s with times := heldTs s } else none) else none
abbrev resH (o : Option Sto) : AV := .tup [stT (o.getD zSto), iT (o.getD zSto).time, bT o.isSome]
abbrev zH : AV := .tup [zA, iT 0, bT false]
theorem zH_nil : NilA zH (resH none) := .cons (.cons (NilC.nil _) (.cons (NilC.nil _) (.cons (NilC.nil _) (.cons (.inl rfl) (.cons (.inl rfl) (.cons (NilC.nil _) .nil)))))) (.cons (NilT.refl _) (.cons (NilT.refl _) .nil))
theorem storeHoldS_ac (s : Sto) (hs : SmSt s) : AC Try.prog 179 [stT s] noHp 0 ⟨resH (holdM s), noHp, 0⟩ := by
  have k1 := sstoreOk_ac s hs
  unfold holdM
  cases c1 : storeS s
  · rw [c1] at k1
    refine AC.nilR (x := zH) ?_ zH_nil
    refine AC_of Try.func179 rfl Try.ntmps179 Try.results179 (by kernel_rfl) rfl ?_
    simp only [List.zipIdx, List.map, Nat.zero_add, Nat.reduceAdd]
    repeat (first | apply Aw_seq | apply Aw_block | apply Aw_skip | apply Aw_exit | refine Aw_condt rfl ?_ | refine Aw_condf rfl ?_ | (refine qr ?_; simp only [go_sem, Nat.reduceEqDiff, reduceIte, Nat.reduceAdd, Nat.reduceMul, Nat.reduceSub, Nat.reduceLT, Nat.reduceLeDiff, Nat.reduceBEq]) | (refine qd (by kernel_rfl) (by kernel_rfl) ?_; simp only [go_sem, Nat.reduceEqDiff, reduceIte, Nat.reduceAdd, Nat.reduceMul, Nat.reduceSub, Nat.reduceLT, Nat.reduceLeDiff, Nat.reduceBEq]) | refine dk (by kernel_rfl) ?_ | (refine qp (k1) (by simp only [go_sem, Nat.reduceEqDiff, reduceIte, Nat.reduceAdd, Nat.reduceMul, Nat.reduceSub, Nat.reduceLT, Nat.reduceLeDiff, Nat.reduceBEq]; first | done | rfl) rfl (by simp only [go_sem, Nat.reduceLT]) rfl rfl ?_; simp only [go_sem, Nat.reduceEqDiff, reduceIte, Nat.reduceAdd, Nat.reduceMul, Nat.reduceSub, Nat.reduceLT, Nat.reduceLeDiff, Nat.reduceBEq]))
    exact Aw_ret (ret0 (.inl rfl) (by simp only [go_sem, Nat.reduceEqDiff, reduceIte, Nat.reduceAdd, Nat.reduceMul, Nat.reduceSub, Nat.reduceLT, Nat.reduceLeDiff, Nat.reduceBEq]; rfl) (by rfl) rfl)
  rw [c1] at k1
  rw [if_pos rfl]
  have k3 := copyT_ac s hs c1
  obtain ⟨h1, h2, h3, h4, h5, _⟩ := storeS_facts c1
  have hap : (s.times.length + 1) * 8 ≤ 140737488355328 := by omega
  have hapA : ∀ (pre : s.times = [] ∨ ∃ j y, s.times.length = j + 1 ∧ s.times[j]? = some y ∧ decide (y = s.time) = false), AC Try.prog 179 [stT s] noHp 0 ⟨resH (if timesM (s.times ++ [s.time]) s.time = true then some { s with times := s.times ++ [s.time] } else none), noHp, 0⟩ := by
    intro pre
    have k4 := (l12Times_ac (s.times ++ [s.time]) s.time (by simp; omega)).toL0
    simp only [intsT, List.map_append, List.map_cons, List.map_nil, intD] at k4
    cases c2 : timesM (s.times ++ [s.time]) s.time
    · rw [c2] at k4
      refine AC.nilR (x := zH) ?_ zH_nil
      rcases pre with hz | ⟨j, y, hj, hy, hne⟩
      · have z0 : decide (((s.times.length : Nat) : Int) = 0) = true := by rw [hz]; rfl
        refine AC_of Try.func179 rfl Try.ntmps179 Try.results179 (by kernel_rfl) rfl ?_
        simp only [List.zipIdx, List.map, Nat.zero_add, Nat.reduceAdd]
        repeat (first | apply Aw_seq | apply Aw_block | apply Aw_skip | apply Aw_exit | refine Aw_condt rfl ?_ | refine Aw_condf rfl ?_ | (refine qr ?_; simp only [go_sem, Nat.reduceEqDiff, reduceIte, Nat.reduceAdd, Nat.reduceMul, Nat.reduceSub, Nat.reduceLT, Nat.reduceLeDiff, Nat.reduceBEq, z0, hap]) | (refine qd (by kernel_rfl) (by kernel_rfl) ?_; simp only [go_sem, Nat.reduceEqDiff, reduceIte, Nat.reduceAdd, Nat.reduceMul, Nat.reduceSub, Nat.reduceLT, Nat.reduceLeDiff, Nat.reduceBEq, z0, hap]) | refine dk (by kernel_rfl) ?_ | (refine qp (k1) (by simp only [go_sem, Nat.reduceEqDiff, reduceIte, Nat.reduceAdd, Nat.reduceMul, Nat.reduceSub, Nat.reduceLT, Nat.reduceLeDiff, Nat.reduceBEq, z0, hap]; first | done | rfl) rfl (by simp only [go_sem, Nat.reduceLT]) rfl rfl ?_; simp only [go_sem, Nat.reduceEqDiff, reduceIte, Nat.reduceAdd, Nat.reduceMul, Nat.reduceSub, Nat.reduceLT, Nat.reduceLeDiff, Nat.reduceBEq, z0, hap]) | (refine qx (call_N (L := []) (k3) rfl (.cons (.nm rfl) (.nil)) (.inl rfl) rfl) (by simp only [go_sem, Nat.reduceEqDiff, reduceIte, Nat.reduceAdd, Nat.reduceMul, Nat.reduceSub, Nat.reduceLT, Nat.reduceLeDiff, Nat.reduceBEq, z0, hap]; first | done | rfl) rfl (by simp only [go_sem, Nat.reduceLT]) ?_; simp only [go_sem, Nat.reduceEqDiff, reduceIte, Nat.reduceAdd, Nat.reduceMul, Nat.reduceSub, Nat.reduceLT, Nat.reduceLeDiff, Nat.reduceBEq, z0, hap]) | (refine qx (call_N (L := [24]) (k4) rfl (.cons (arg_lend (m := 24) rfl (by simp)) (.cons (.nm rfl) (.nil))) (.inr ⟨rfl, by simp⟩) rfl) (by simp only [go_sem, Nat.reduceEqDiff, reduceIte, Nat.reduceAdd, Nat.reduceMul, Nat.reduceSub, Nat.reduceLT, Nat.reduceLeDiff, Nat.reduceBEq, z0, hap]; first | done | rfl) rfl (by simp only [go_sem, Nat.reduceLT]) ?_; simp only [go_sem, Nat.reduceEqDiff, reduceIte, Nat.reduceAdd, Nat.reduceMul, Nat.reduceSub, Nat.reduceLT, Nat.reduceLeDiff, Nat.reduceBEq, z0, hap]))
        exact Aw_ret (ret0 (.inl rfl) (by simp only [go_sem, Nat.reduceEqDiff, reduceIte, Nat.reduceAdd, Nat.reduceMul, Nat.reduceSub, Nat.reduceLT, Nat.reduceLeDiff, Nat.reduceBEq]; rfl) (by rfl) rfl)
      · have z0 : decide (((s.times.length : Nat) : Int) = 0) = false := decide_eq_false (by omega)
        have w1 : IntKind.i64.wrap (((s.times.length : Nat) : Int) - 1) = (j : Int) := by rw [hj]; exact wrap_pred (m := j + 1) (by omega) (by omega)
        have hjl : j < s.times.length := by omega
        refine AC_of Try.func179 rfl Try.ntmps179 Try.results179 (by kernel_rfl) rfl ?_
        simp only [List.zipIdx, List.map, Nat.zero_add, Nat.reduceAdd]
        repeat (first | apply Aw_seq | apply Aw_block | apply Aw_skip | apply Aw_exit | refine Aw_condt rfl ?_ | refine Aw_condf rfl ?_ | (refine qr ?_; simp only [go_sem, Nat.reduceEqDiff, reduceIte, Nat.reduceAdd, Nat.reduceMul, Nat.reduceSub, Nat.reduceLT, Nat.reduceLeDiff, Nat.reduceBEq, z0, hap, w1, hy, hne, hjl]) | (refine qd (by kernel_rfl) (by kernel_rfl) ?_; simp only [go_sem, Nat.reduceEqDiff, reduceIte, Nat.reduceAdd, Nat.reduceMul, Nat.reduceSub, Nat.reduceLT, Nat.reduceLeDiff, Nat.reduceBEq, z0, hap, w1, hy, hne, hjl]) | refine dk (by kernel_rfl) ?_ | (refine qp (k1) (by simp only [go_sem, Nat.reduceEqDiff, reduceIte, Nat.reduceAdd, Nat.reduceMul, Nat.reduceSub, Nat.reduceLT, Nat.reduceLeDiff, Nat.reduceBEq, z0, hap, w1, hy, hne, hjl]; first | done | rfl) rfl (by simp only [go_sem, Nat.reduceLT]) rfl rfl ?_; simp only [go_sem, Nat.reduceEqDiff, reduceIte, Nat.reduceAdd, Nat.reduceMul, Nat.reduceSub, Nat.reduceLT, Nat.reduceLeDiff, Nat.reduceBEq, z0, hap, w1, hy, hne, hjl]) | (refine qx (call_N (L := []) (k3) rfl (.cons (.nm rfl) (.nil)) (.inl rfl) rfl) (by simp only [go_sem, Nat.reduceEqDiff, reduceIte, Nat.reduceAdd, Nat.reduceMul, Nat.reduceSub, Nat.reduceLT, Nat.reduceLeDiff, Nat.reduceBEq, z0, hap, w1, hy, hne, hjl]; first | done | rfl) rfl (by simp only [go_sem, Nat.reduceLT]) ?_; simp only [go_sem, Nat.reduceEqDiff, reduceIte, Nat.reduceAdd, Nat.reduceMul, Nat.reduceSub, Nat.reduceLT, Nat.reduceLeDiff, Nat.reduceBEq, z0, hap, w1, hy, hne, hjl]) | (refine qx (call_N (L := [24]) (k4) rfl (.cons (arg_lend (m := 24) rfl (by simp)) (.cons (.nm rfl) (.nil))) (.inr ⟨rfl, by simp⟩) rfl) (by simp only [go_sem, Nat.reduceEqDiff, reduceIte, Nat.reduceAdd, Nat.reduceMul, Nat.reduceSub, Nat.reduceLT, Nat.reduceLeDiff, Nat.reduceBEq, z0, hap, w1, hy, hne, hjl]; first | done | rfl) rfl (by simp only [go_sem, Nat.reduceLT]) ?_; simp only [go_sem, Nat.reduceEqDiff, reduceIte, Nat.reduceAdd, Nat.reduceMul, Nat.reduceSub, Nat.reduceLT, Nat.reduceLeDiff, Nat.reduceBEq, z0, hap, w1, hy, hne, hjl]) | (refine qx (call_N (L := [33]) (k4) rfl (.cons (arg_lend (m := 33) rfl (by simp)) (.cons (.nm rfl) (.nil))) (.inr ⟨rfl, by simp⟩) rfl) (by simp only [go_sem, Nat.reduceEqDiff, reduceIte, Nat.reduceAdd, Nat.reduceMul, Nat.reduceSub, Nat.reduceLT, Nat.reduceLeDiff, Nat.reduceBEq, z0, hap, w1, hy, hne, hjl]; first | done | rfl) rfl (by simp only [go_sem, Nat.reduceLT]) ?_; simp only [go_sem, Nat.reduceEqDiff, reduceIte, Nat.reduceAdd, Nat.reduceMul, Nat.reduceSub, Nat.reduceLT, Nat.reduceLeDiff, Nat.reduceBEq, z0, hap, w1, hy, hne, hjl]))
        exact Aw_ret (ret0 (.inl rfl) (by simp only [go_sem, Nat.reduceEqDiff, reduceIte, Nat.reduceAdd, Nat.reduceMul, Nat.reduceSub, Nat.reduceLT, Nat.reduceLeDiff, Nat.reduceBEq]; rfl) (by rfl) rfl)
    · rw [c2] at k4
      refine hTt_settle (s := { s with times := s.times ++ [s.time] }) rfl ?_
      rcases pre with hz | ⟨j, y, hj, hy, hne⟩
      · have z0 : decide (((s.times.length : Nat) : Int) = 0) = true := by rw [hz]; rfl
        refine AC_of Try.func179 rfl Try.ntmps179 Try.results179 (by kernel_rfl) rfl ?_
        simp only [List.zipIdx, List.map, Nat.zero_add, Nat.reduceAdd]
        repeat (first | apply Aw_seq | apply Aw_block | apply Aw_skip | apply Aw_exit | refine Aw_condt rfl ?_ | refine Aw_condf rfl ?_ | (refine qr ?_; simp only [go_sem, Nat.reduceEqDiff, reduceIte, Nat.reduceAdd, Nat.reduceMul, Nat.reduceSub, Nat.reduceLT, Nat.reduceLeDiff, Nat.reduceBEq, z0, hap]) | (refine qd (by kernel_rfl) (by kernel_rfl) ?_; simp only [go_sem, Nat.reduceEqDiff, reduceIte, Nat.reduceAdd, Nat.reduceMul, Nat.reduceSub, Nat.reduceLT, Nat.reduceLeDiff, Nat.reduceBEq, z0, hap]) | refine dk (by kernel_rfl) ?_ | (refine qp (k1) (by simp only [go_sem, Nat.reduceEqDiff, reduceIte, Nat.reduceAdd, Nat.reduceMul, Nat.reduceSub, Nat.reduceLT, Nat.reduceLeDiff, Nat.reduceBEq, z0, hap]; first | done | rfl) rfl (by simp only [go_sem, Nat.reduceLT]) rfl rfl ?_; simp only [go_sem, Nat.reduceEqDiff, reduceIte, Nat.reduceAdd, Nat.reduceMul, Nat.reduceSub, Nat.reduceLT, Nat.reduceLeDiff, Nat.reduceBEq, z0, hap]) | (refine qx (call_N (L := []) (k3) rfl (.cons (.nm rfl) (.nil)) (.inl rfl) rfl) (by simp only [go_sem, Nat.reduceEqDiff, reduceIte, Nat.reduceAdd, Nat.reduceMul, Nat.reduceSub, Nat.reduceLT, Nat.reduceLeDiff, Nat.reduceBEq, z0, hap]; first | done | rfl) rfl (by simp only [go_sem, Nat.reduceLT]) ?_; simp only [go_sem, Nat.reduceEqDiff, reduceIte, Nat.reduceAdd, Nat.reduceMul, Nat.reduceSub, Nat.reduceLT, Nat.reduceLeDiff, Nat.reduceBEq, z0, hap]) | (refine qx (call_N (L := [24]) (k4) rfl (.cons (arg_lend (m := 24) rfl (by simp)) (.cons (.nm rfl) (.nil))) (.inr ⟨rfl, by simp⟩) rfl) (by simp only [go_sem, Nat.reduceEqDiff, reduceIte, Nat.reduceAdd, Nat.reduceMul, Nat.reduceSub, Nat.reduceLT, Nat.reduceLeDiff, Nat.reduceBEq, z0, hap]; first | done | rfl) rfl (by simp only [go_sem, Nat.reduceLT]) ?_; simp only [go_sem, Nat.reduceEqDiff, reduceIte, Nat.reduceAdd, Nat.reduceMul, Nat.reduceSub, Nat.reduceLT, Nat.reduceLeDiff, Nat.reduceBEq, z0, hap]))
        exact Aw_ret (retL (M := [7, 8, 24]) (.inl rfl) (by simp only [go_sem, Nat.reduceEqDiff, reduceIte, Nat.reduceAdd, Nat.reduceMul, Nat.reduceSub, Nat.reduceLT, Nat.reduceLeDiff, Nat.reduceBEq]; first | done | rfl) rfl rfl (by rfl) (by simp only [go_sem, Nat.reduceEqDiff, reduceIte, Nat.reduceAdd, Nat.reduceMul, Nat.reduceSub, Nat.reduceLT, Nat.reduceLeDiff, Nat.reduceBEq, List.map_append, List.map_cons, List.map_nil]; first | done | rfl | (and_intros <;> rfl)) (by decide) (by intro m hm; first | omega | (rcases m with _ | _ | _ | _ | m <;> first | exact ⟨by decide, rfl⟩ | omega)))
      · have z0 : decide (((s.times.length : Nat) : Int) = 0) = false := decide_eq_false (by omega)
        have w1 : IntKind.i64.wrap (((s.times.length : Nat) : Int) - 1) = (j : Int) := by rw [hj]; exact wrap_pred (m := j + 1) (by omega) (by omega)
        have hjl : j < s.times.length := by omega
        refine AC_of Try.func179 rfl Try.ntmps179 Try.results179 (by kernel_rfl) rfl ?_
        simp only [List.zipIdx, List.map, Nat.zero_add, Nat.reduceAdd]
        repeat (first | apply Aw_seq | apply Aw_block | apply Aw_skip | apply Aw_exit | refine Aw_condt rfl ?_ | refine Aw_condf rfl ?_ | (refine qr ?_; simp only [go_sem, Nat.reduceEqDiff, reduceIte, Nat.reduceAdd, Nat.reduceMul, Nat.reduceSub, Nat.reduceLT, Nat.reduceLeDiff, Nat.reduceBEq, z0, hap, w1, hy, hne, hjl]) | (refine qd (by kernel_rfl) (by kernel_rfl) ?_; simp only [go_sem, Nat.reduceEqDiff, reduceIte, Nat.reduceAdd, Nat.reduceMul, Nat.reduceSub, Nat.reduceLT, Nat.reduceLeDiff, Nat.reduceBEq, z0, hap, w1, hy, hne, hjl]) | refine dk (by kernel_rfl) ?_ | (refine qp (k1) (by simp only [go_sem, Nat.reduceEqDiff, reduceIte, Nat.reduceAdd, Nat.reduceMul, Nat.reduceSub, Nat.reduceLT, Nat.reduceLeDiff, Nat.reduceBEq, z0, hap, w1, hy, hne, hjl]; first | done | rfl) rfl (by simp only [go_sem, Nat.reduceLT]) rfl rfl ?_; simp only [go_sem, Nat.reduceEqDiff, reduceIte, Nat.reduceAdd, Nat.reduceMul, Nat.reduceSub, Nat.reduceLT, Nat.reduceLeDiff, Nat.reduceBEq, z0, hap, w1, hy, hne, hjl]) | (refine qx (call_N (L := []) (k3) rfl (.cons (.nm rfl) (.nil)) (.inl rfl) rfl) (by simp only [go_sem, Nat.reduceEqDiff, reduceIte, Nat.reduceAdd, Nat.reduceMul, Nat.reduceSub, Nat.reduceLT, Nat.reduceLeDiff, Nat.reduceBEq, z0, hap, w1, hy, hne, hjl]; first | done | rfl) rfl (by simp only [go_sem, Nat.reduceLT]) ?_; simp only [go_sem, Nat.reduceEqDiff, reduceIte, Nat.reduceAdd, Nat.reduceMul, Nat.reduceSub, Nat.reduceLT, Nat.reduceLeDiff, Nat.reduceBEq, z0, hap, w1, hy, hne, hjl]) | (refine qx (call_N (L := [24]) (k4) rfl (.cons (arg_lend (m := 24) rfl (by simp)) (.cons (.nm rfl) (.nil))) (.inr ⟨rfl, by simp⟩) rfl) (by simp only [go_sem, Nat.reduceEqDiff, reduceIte, Nat.reduceAdd, Nat.reduceMul, Nat.reduceSub, Nat.reduceLT, Nat.reduceLeDiff, Nat.reduceBEq, z0, hap, w1, hy, hne, hjl]; first | done | rfl) rfl (by simp only [go_sem, Nat.reduceLT]) ?_; simp only [go_sem, Nat.reduceEqDiff, reduceIte, Nat.reduceAdd, Nat.reduceMul, Nat.reduceSub, Nat.reduceLT, Nat.reduceLeDiff, Nat.reduceBEq, z0, hap, w1, hy, hne, hjl]) | (refine qx (call_N (L := [33]) (k4) rfl (.cons (arg_lend (m := 33) rfl (by simp)) (.cons (.nm rfl) (.nil))) (.inr ⟨rfl, by simp⟩) rfl) (by simp only [go_sem, Nat.reduceEqDiff, reduceIte, Nat.reduceAdd, Nat.reduceMul, Nat.reduceSub, Nat.reduceLT, Nat.reduceLeDiff, Nat.reduceBEq, z0, hap, w1, hy, hne, hjl]; first | done | rfl) rfl (by simp only [go_sem, Nat.reduceLT]) ?_; simp only [go_sem, Nat.reduceEqDiff, reduceIte, Nat.reduceAdd, Nat.reduceMul, Nat.reduceSub, Nat.reduceLT, Nat.reduceLeDiff, Nat.reduceBEq, z0, hap, w1, hy, hne, hjl]))
        exact Aw_ret (retL (M := [7, 8, 33]) (.inl rfl) (by simp only [go_sem, Nat.reduceEqDiff, reduceIte, Nat.reduceAdd, Nat.reduceMul, Nat.reduceSub, Nat.reduceLT, Nat.reduceLeDiff, Nat.reduceBEq]; first | done | rfl) rfl rfl (by rfl) (by simp only [go_sem, Nat.reduceEqDiff, reduceIte, Nat.reduceAdd, Nat.reduceMul, Nat.reduceSub, Nat.reduceLT, Nat.reduceLeDiff, Nat.reduceBEq, List.map_append, List.map_cons, List.map_nil]; first | done | rfl | (and_intros <;> rfl)) (by decide) (by intro m hm; first | omega | (rcases m with _ | _ | _ | _ | m <;> first | exact ⟨by decide, rfl⟩ | omega)))
  by_cases hz : s.times = []
  · have hh : heldTs s = s.times ++ [s.time] := by unfold heldTs; rw [hz]; simp
    rw [hh]
    exact hapA (.inl hz)
  · obtain ⟨j, hj⟩ : ∃ j, s.times.length = j + 1 := ⟨s.times.length - 1, by have := List.length_pos_iff.2 hz; omega⟩
    obtain ⟨y, hy⟩ : ∃ y, s.times[j]? = some y := ⟨_, List.getElem?_eq_getElem (by omega)⟩
    have hlast : s.times.getLast? = some y := by rw [List.getLast?_eq_getElem?, hj]; exact hy
    cases c3 : decide (y = s.time)
    · have hh : heldTs s = s.times ++ [s.time] := by
        unfold heldTs; rw [hlast, if_neg]
        intro e; rw [Option.some.inj e] at c3; simp at c3
      rw [hh]
      exact hapA (.inr ⟨j, y, hj, hy, c3⟩)
    · have hh : heldTs s = s.times := by unfold heldTs; rw [hlast, of_decide_eq_true c3, if_pos rfl]
      rw [hh]
      have k4 := (l12Times_ac s.times s.time (by omega)).toL0
      have z0 : decide (((s.times.length : Nat) : Int) = 0) = false := decide_eq_false (by omega)
      have w1 : IntKind.i64.wrap (((s.times.length : Nat) : Int) - 1) = (j : Int) := by rw [hj]; exact wrap_pred (m := j + 1) (by omega) (by omega)
      have hjl : j < s.times.length := by omega
      cases c2 : timesM s.times s.time
      · rw [c2] at k4
        refine AC.nilR (x := zH) ?_ zH_nil
        refine AC_of Try.func179 rfl Try.ntmps179 Try.results179 (by kernel_rfl) rfl ?_
        simp only [List.zipIdx, List.map, Nat.zero_add, Nat.reduceAdd]
        repeat (first | apply Aw_seq | apply Aw_block | apply Aw_skip | apply Aw_exit | refine Aw_condt rfl ?_ | refine Aw_condf rfl ?_ | (refine qr ?_; simp only [go_sem, Nat.reduceEqDiff, reduceIte, Nat.reduceAdd, Nat.reduceMul, Nat.reduceSub, Nat.reduceLT, Nat.reduceLeDiff, Nat.reduceBEq, z0, w1, hy, c3, hjl]) | (refine qd (by kernel_rfl) (by kernel_rfl) ?_; simp only [go_sem, Nat.reduceEqDiff, reduceIte, Nat.reduceAdd, Nat.reduceMul, Nat.reduceSub, Nat.reduceLT, Nat.reduceLeDiff, Nat.reduceBEq, z0, w1, hy, c3, hjl]) | refine dk (by kernel_rfl) ?_ | (refine qp (k1) (by simp only [go_sem, Nat.reduceEqDiff, reduceIte, Nat.reduceAdd, Nat.reduceMul, Nat.reduceSub, Nat.reduceLT, Nat.reduceLeDiff, Nat.reduceBEq, z0, w1, hy, c3, hjl]; first | done | rfl) rfl (by simp only [go_sem, Nat.reduceLT]) rfl rfl ?_; simp only [go_sem, Nat.reduceEqDiff, reduceIte, Nat.reduceAdd, Nat.reduceMul, Nat.reduceSub, Nat.reduceLT, Nat.reduceLeDiff, Nat.reduceBEq, z0, w1, hy, c3, hjl]) | (refine qx (call_N (L := []) (k3) rfl (.cons (.nm rfl) (.nil)) (.inl rfl) rfl) (by simp only [go_sem, Nat.reduceEqDiff, reduceIte, Nat.reduceAdd, Nat.reduceMul, Nat.reduceSub, Nat.reduceLT, Nat.reduceLeDiff, Nat.reduceBEq, z0, w1, hy, c3, hjl]; first | done | rfl) rfl (by simp only [go_sem, Nat.reduceLT]) ?_; simp only [go_sem, Nat.reduceEqDiff, reduceIte, Nat.reduceAdd, Nat.reduceMul, Nat.reduceSub, Nat.reduceLT, Nat.reduceLeDiff, Nat.reduceBEq, z0, w1, hy, c3, hjl]) | (refine qx (call_N (L := [9]) (k4) rfl (.cons (arg_lend (m := 9) rfl (by simp)) (.cons (.nm rfl) (.nil))) (.inr ⟨rfl, by simp⟩) rfl) (by simp only [go_sem, Nat.reduceEqDiff, reduceIte, Nat.reduceAdd, Nat.reduceMul, Nat.reduceSub, Nat.reduceLT, Nat.reduceLeDiff, Nat.reduceBEq, z0, w1, hy, c3, hjl]; first | done | rfl) rfl (by simp only [go_sem, Nat.reduceLT]) ?_; simp only [go_sem, Nat.reduceEqDiff, reduceIte, Nat.reduceAdd, Nat.reduceMul, Nat.reduceSub, Nat.reduceLT, Nat.reduceLeDiff, Nat.reduceBEq, z0, w1, hy, c3, hjl]))
        exact Aw_ret (ret0 (.inl rfl) (by simp only [go_sem, Nat.reduceEqDiff, reduceIte, Nat.reduceAdd, Nat.reduceMul, Nat.reduceSub, Nat.reduceLT, Nat.reduceLeDiff, Nat.reduceBEq]; rfl) (by rfl) rfl)
      · rw [c2] at k4
        refine hTt_settle (s := { s with times := s.times }) rfl ?_
        refine AC_of Try.func179 rfl Try.ntmps179 Try.results179 (by kernel_rfl) rfl ?_
        simp only [List.zipIdx, List.map, Nat.zero_add, Nat.reduceAdd]
        repeat (first | apply Aw_seq | apply Aw_block | apply Aw_skip | apply Aw_exit | refine Aw_condt rfl ?_ | refine Aw_condf rfl ?_ | (refine qr ?_; simp only [go_sem, Nat.reduceEqDiff, reduceIte, Nat.reduceAdd, Nat.reduceMul, Nat.reduceSub, Nat.reduceLT, Nat.reduceLeDiff, Nat.reduceBEq, z0, w1, hy, c3, hjl]) | (refine qd (by kernel_rfl) (by kernel_rfl) ?_; simp only [go_sem, Nat.reduceEqDiff, reduceIte, Nat.reduceAdd, Nat.reduceMul, Nat.reduceSub, Nat.reduceLT, Nat.reduceLeDiff, Nat.reduceBEq, z0, w1, hy, c3, hjl]) | refine dk (by kernel_rfl) ?_ | (refine qp (k1) (by simp only [go_sem, Nat.reduceEqDiff, reduceIte, Nat.reduceAdd, Nat.reduceMul, Nat.reduceSub, Nat.reduceLT, Nat.reduceLeDiff, Nat.reduceBEq, z0, w1, hy, c3, hjl]; first | done | rfl) rfl (by simp only [go_sem, Nat.reduceLT]) rfl rfl ?_; simp only [go_sem, Nat.reduceEqDiff, reduceIte, Nat.reduceAdd, Nat.reduceMul, Nat.reduceSub, Nat.reduceLT, Nat.reduceLeDiff, Nat.reduceBEq, z0, w1, hy, c3, hjl]) | (refine qx (call_N (L := []) (k3) rfl (.cons (.nm rfl) (.nil)) (.inl rfl) rfl) (by simp only [go_sem, Nat.reduceEqDiff, reduceIte, Nat.reduceAdd, Nat.reduceMul, Nat.reduceSub, Nat.reduceLT, Nat.reduceLeDiff, Nat.reduceBEq, z0, w1, hy, c3, hjl]; first | done | rfl) rfl (by simp only [go_sem, Nat.reduceLT]) ?_; simp only [go_sem, Nat.reduceEqDiff, reduceIte, Nat.reduceAdd, Nat.reduceMul, Nat.reduceSub, Nat.reduceLT, Nat.reduceLeDiff, Nat.reduceBEq, z0, w1, hy, c3, hjl]) | (refine qx (call_N (L := [9]) (k4) rfl (.cons (arg_lend (m := 9) rfl (by simp)) (.cons (.nm rfl) (.nil))) (.inr ⟨rfl, by simp⟩) rfl) (by simp only [go_sem, Nat.reduceEqDiff, reduceIte, Nat.reduceAdd, Nat.reduceMul, Nat.reduceSub, Nat.reduceLT, Nat.reduceLeDiff, Nat.reduceBEq, z0, w1, hy, c3, hjl]; first | done | rfl) rfl (by simp only [go_sem, Nat.reduceLT]) ?_; simp only [go_sem, Nat.reduceEqDiff, reduceIte, Nat.reduceAdd, Nat.reduceMul, Nat.reduceSub, Nat.reduceLT, Nat.reduceLeDiff, Nat.reduceBEq, z0, w1, hy, c3, hjl]))
        exact Aw_ret (retL (M := [7, 8, 9]) (.inl rfl) (by simp only [go_sem, Nat.reduceEqDiff, reduceIte, Nat.reduceAdd, Nat.reduceMul, Nat.reduceSub, Nat.reduceLT, Nat.reduceLeDiff, Nat.reduceBEq]; first | done | rfl) rfl rfl (by rfl) (by simp only [go_sem, Nat.reduceEqDiff, reduceIte, Nat.reduceAdd, Nat.reduceMul, Nat.reduceSub, Nat.reduceLT, Nat.reduceLeDiff, Nat.reduceBEq]; first | done | rfl | (and_intros <;> rfl)) (by decide) (by intro m hm; first | omega | (rcases m with _ | _ | _ | _ | m <;> first | exact ⟨by decide, rfl⟩ | omega)))
def freeAt (ts : List Int) (t : Int) (i : Nat) : List Int := match ts[i]? with
  | some x => if x = t then [] else [x]
  | none => []
def freeTs (ts : List Int) (t : Int) : List Int := colI ts.length (freeAt ts t)
theorem freeAt_len (ts : List Int) (t : Int) (i : Nat) : (freeAt ts t i).length ≤ 1 := by unfold freeAt; split <;> (try split) <;> simp
def freeM (s : Sto) (t : Int) : Option Sto := if storeS s = true then (if (freeTs s.times t).length = s.times.length then none else some { s with times := freeTs s.times t }) else none
abbrev frT (s : Sto) : TV := .agg [.d (.rs 4 (s.top.map entD)), .h 0, .h 1, .d (.s (.int .i64 s.keep)), .d (.s (.int .i64 s.time)), .h 2]
def stHd (s : Sto) : Obj := ⟨35, 6, false, [[.d (.rs 4 (s.top.map entD)), .h 0, .h 1, .d (.s (.int .i64 s.keep)), .d (.s (.int .i64 s.time)), .d (.rs 1 (s.times.map intD))]]⟩
@[go_sem] theorem r_stHd (s : Sto) : stHd s = ⟨35, 6, false, [[.d (.rs 4 (s.top.map entD)), .h 0, .h 1, .d (.s (.int .i64 s.keep)), .d (.s (.int .i64 s.time)), .d (.rs 1 (s.times.map intD))]]⟩ := rfl
theorem storeFreeS_ac (s : Sto) (t : Int) (hs : SmSt s) : AC Try.prog 180 [stT s, iT t] noHp 0 ⟨resO (freeM s t), noHp, 0⟩ := by
  have k1 := sstoreOk_ac s hs
  unfold freeM
  cases c1 : storeS s
  · rw [c1] at k1
    refine AC.nilR (x := .tup [zA, bT false]) ?_ zA_nil
    refine AC_of Try.func180 rfl Try.ntmps180 Try.results180 (by kernel_rfl) rfl ?_
    simp only [List.zipIdx, List.map, Nat.zero_add, Nat.reduceAdd]
    repeat (first | apply Aw_seq | apply Aw_block | apply Aw_skip | apply Aw_exit | refine Aw_condt rfl ?_ | refine Aw_condf rfl ?_ | (refine qr ?_; simp only [go_sem, Nat.reduceEqDiff, reduceIte, Nat.reduceAdd, Nat.reduceMul, Nat.reduceSub, Nat.reduceLT, Nat.reduceLeDiff, Nat.reduceBEq]) | (refine qd (by kernel_rfl) (by kernel_rfl) ?_; simp only [go_sem, Nat.reduceEqDiff, reduceIte, Nat.reduceAdd, Nat.reduceMul, Nat.reduceSub, Nat.reduceLT, Nat.reduceLeDiff, Nat.reduceBEq]) | refine dk (by kernel_rfl) ?_ | (refine qp (k1) (by simp only [go_sem, Nat.reduceEqDiff, reduceIte, Nat.reduceAdd, Nat.reduceMul, Nat.reduceSub, Nat.reduceLT, Nat.reduceLeDiff, Nat.reduceBEq]; first | done | rfl) rfl (by simp only [go_sem, Nat.reduceLT]) rfl rfl ?_; simp only [go_sem, Nat.reduceEqDiff, reduceIte, Nat.reduceAdd, Nat.reduceMul, Nat.reduceSub, Nat.reduceLT, Nat.reduceLeDiff, Nat.reduceBEq]))
    exact Aw_ret (ret0 (.inl rfl) (by simp only [go_sem, Nat.reduceEqDiff, reduceIte, Nat.reduceAdd, Nat.reduceMul, Nat.reduceSub, Nat.reduceLT, Nat.reduceLeDiff, Nat.reduceBEq]; rfl) (by rfl) rfl)
  rw [c1] at k1
  rw [if_pos rfl]
  have k3 := copyV_ac s hs c1
  obtain ⟨h1, h2, h3, h4, h5, _⟩ := storeS_facts c1
  by_cases hc : (freeTs s.times t).length = s.times.length
  · rw [if_pos hc]
    have hci : decide ((((freeTs s.times t).length : Nat) : Int) = ((s.times.length : Nat) : Int)) = true := decide_eq_true (by omega)
    refine AC.nilR (x := .tup [zA, bT false]) ?_ zA_nil
    refine AC_of Try.func180 rfl Try.ntmps180 Try.results180 (by kernel_rfl) rfl ?_
    simp only [List.zipIdx, List.map, Nat.zero_add, Nat.reduceAdd]
    repeat (first | apply Aw_seq | apply Aw_block | apply Aw_skip | apply Aw_exit | refine Aw_condt rfl ?_ | refine Aw_condf rfl ?_ | (refine qr ?_; simp only [go_sem, Nat.reduceEqDiff, reduceIte, Nat.reduceAdd, Nat.reduceMul, Nat.reduceSub, Nat.reduceLT, Nat.reduceLeDiff, Nat.reduceBEq]) | (refine qd (by kernel_rfl) (by kernel_rfl) ?_; simp only [go_sem, Nat.reduceEqDiff, reduceIte, Nat.reduceAdd, Nat.reduceMul, Nat.reduceSub, Nat.reduceLT, Nat.reduceLeDiff, Nat.reduceBEq]) | refine dk (by kernel_rfl) ?_ | (refine qp (k1) (by simp only [go_sem, Nat.reduceEqDiff, reduceIte, Nat.reduceAdd, Nat.reduceMul, Nat.reduceSub, Nat.reduceLT, Nat.reduceLeDiff, Nat.reduceBEq]; first | done | rfl) rfl (by simp only [go_sem, Nat.reduceLT]) rfl rfl ?_; simp only [go_sem, Nat.reduceEqDiff, reduceIte, Nat.reduceAdd, Nat.reduceMul, Nat.reduceSub, Nat.reduceLT, Nat.reduceLeDiff, Nat.reduceBEq]) | (refine qx (call_N (L := []) (k3) rfl (.cons (.nm rfl) (.nil)) (.inl rfl) rfl) (by simp only [go_sem, Nat.reduceEqDiff, reduceIte, Nat.reduceAdd, Nat.reduceMul, Nat.reduceSub, Nat.reduceLT, Nat.reduceLeDiff, Nat.reduceBEq]; first | done | rfl) rfl (by simp only [go_sem, Nat.reduceLT]) ?_; simp only [go_sem, Nat.reduceEqDiff, reduceIte, Nat.reduceAdd, Nat.reduceMul, Nat.reduceSub, Nat.reduceLT, Nat.reduceLeDiff, Nat.reduceBEq]))
    refine Aw.rw (rwL (l' := [(7, .t (iT (0 : Nat))), (6, .t (.c (.h 4))), (5, .t (bT false)), (4, .t (.c (.ph 3 0 0))), (2, .t (.c (.ph 2 0 0))), (1, .t (iT t))]) (os := [some (lvRow s.levels), some (svRow s.sieves), some (stHd s), some zO, some (dRow 3 1 ((colI 0 (freeAt s.times t)).map intD))]) (M := [6, 7, 0, 1, 9]) (n' := 5) (by repeat (first | exact trivial | refine ⟨rfl, rfl, ?_⟩)) (by rfl) (by simp only [go_sem, Nat.reduceEqDiff, reduceIte, Nat.reduceAdd, Nat.reduceMul, Nat.reduceSub, Nat.reduceLT, Nat.reduceLeDiff, Nat.reduceBEq, colI_0, List.map_nil]; first | done | rfl) (by decide) (by intro m hm; first | omega | (rcases m with _ | _ | _ | _ | m <;> first | exact ⟨by decide, rfl⟩ | omega))) ?_
    refine Aw_loop_rw (ι := { i : Nat // i ≤ s.times.length }) (fun q => S [(7, .t (iT (q.1 : Nat))), (6, .t (.c (.h 4))), (5, .t (bT false)), (4, .t (.c (.ph 3 0 0))), (2, .t (.c (.ph 2 0 0))), (1, .t (iT t))] (hpL [some (lvRow s.levels), some (svRow s.sieves), some (stHd s), some zO, some (dRow 3 1 ((colI q.1 (freeAt s.times t)).map intD))]) 5) (fun q => s.times.length - q.1) ⟨0, Nat.zero_le _⟩ ?_
    rintro ⟨i, hi⟩
    dsimp only
    by_cases hlt : i < s.times.length
    · have g1 : (i : Int) < (s.times.length : Int) := by omega
      have w1 := wrap_succ hlt (by omega)
      obtain ⟨x, hx⟩ : ∃ e, s.times[i]? = some e := ⟨_, List.getElem?_eq_getElem hlt⟩
      have hb : ((colI i (freeAt s.times t)).length + 1) * 8 ≤ 140737488355328 := by have := colI_len (n := i) (freeAt_len s.times t); omega
      cases c : decide (x = t)
      · have hcc : colI (i + 1) (freeAt s.times t) = colI i (freeAt s.times t) ++ [x] := by rw [colI_succ]; simp at c; simp [freeAt, hx, c]
        repeat (first | apply Aw_seq | apply Aw_block | apply Aw_skip | apply Aw_exit | refine Aw_condt rfl ?_ | refine Aw_condf rfl ?_ | (refine qr ?_; simp only [go_sem, Nat.reduceEqDiff, reduceIte, Nat.reduceAdd, Nat.reduceMul, Nat.reduceSub, Nat.reduceLT, Nat.reduceLeDiff, Nat.reduceBEq, g1, w1, hx, c, hb]) | (refine qd (by kernel_rfl) (by kernel_rfl) ?_; simp only [go_sem, Nat.reduceEqDiff, reduceIte, Nat.reduceAdd, Nat.reduceMul, Nat.reduceSub, Nat.reduceLT, Nat.reduceLeDiff, Nat.reduceBEq, g1, w1, hx, c, hb]) | refine dk (by kernel_rfl) ?_)
        refine ⟨⟨i + 1, hlt⟩, [0, 1, 2, 3, 24], ?_, rwL (by repeat (first | exact trivial | refine ⟨rfl, rfl, ?_⟩)) (by rfl) (by simp only [go_sem, Nat.reduceEqDiff, reduceIte, Nat.reduceAdd, Nat.reduceMul, Nat.reduceSub, Nat.reduceLT, Nat.reduceLeDiff, Nat.reduceBEq, hcc, List.map_append, List.map_cons, List.map_nil]; first | done | rfl) (by decide) (by intro m hm; first | omega | (rcases m with _ | _ | _ | _ | m <;> first | exact ⟨by decide, rfl⟩ | omega))⟩
        show s.times.length - (i + 1) < s.times.length - i; omega
      · have hcc : colI (i + 1) (freeAt s.times t) = colI i (freeAt s.times t) := by rw [colI_succ]; simp at c; simp [freeAt, hx, c]
        repeat (first | apply Aw_seq | apply Aw_block | apply Aw_skip | apply Aw_exit | refine Aw_condt rfl ?_ | refine Aw_condf rfl ?_ | (refine qr ?_; simp only [go_sem, Nat.reduceEqDiff, reduceIte, Nat.reduceAdd, Nat.reduceMul, Nat.reduceSub, Nat.reduceLT, Nat.reduceLeDiff, Nat.reduceBEq, g1, w1, hx, c]) | (refine qd (by kernel_rfl) (by kernel_rfl) ?_; simp only [go_sem, Nat.reduceEqDiff, reduceIte, Nat.reduceAdd, Nat.reduceMul, Nat.reduceSub, Nat.reduceLT, Nat.reduceLeDiff, Nat.reduceBEq, g1, w1, hx, c]) | refine dk (by kernel_rfl) ?_)
        refine ⟨⟨i + 1, hlt⟩, [0, 1, 2, 3, 4], ?_, rwL (by repeat (first | exact trivial | refine ⟨rfl, rfl, ?_⟩)) (by rfl) (by simp only [go_sem, Nat.reduceEqDiff, reduceIte, Nat.reduceAdd, Nat.reduceMul, Nat.reduceSub, Nat.reduceLT, Nat.reduceLeDiff, Nat.reduceBEq, hcc]; first | done | rfl) (by decide) (by intro m hm; first | omega | (rcases m with _ | _ | _ | _ | m <;> first | exact ⟨by decide, rfl⟩ | omega))⟩
        show s.times.length - (i + 1) < s.times.length - i; omega
    · have g1 : ¬ (i : Int) < (s.times.length : Int) := by omega
      obtain rfl : i = s.times.length := by omega
      have ef : colI s.times.length (freeAt s.times t) = freeTs s.times t := rfl
      rw [ef]
      repeat (first | apply Aw_seq | apply Aw_block | apply Aw_skip | apply Aw_exit | refine Aw_condt rfl ?_ | refine Aw_condf rfl ?_ | (refine qr ?_; simp only [go_sem, Nat.reduceEqDiff, reduceIte, Nat.reduceAdd, Nat.reduceMul, Nat.reduceSub, Nat.reduceLT, Nat.reduceLeDiff, Nat.reduceBEq, g1, hci]) | (refine qd (by kernel_rfl) (by kernel_rfl) ?_; simp only [go_sem, Nat.reduceEqDiff, reduceIte, Nat.reduceAdd, Nat.reduceMul, Nat.reduceSub, Nat.reduceLT, Nat.reduceLeDiff, Nat.reduceBEq, g1, hci]) | refine dk (by kernel_rfl) ?_)
      exact Aw_ret (ret0 (.inl rfl) (by simp only [go_sem, Nat.reduceEqDiff, reduceIte, Nat.reduceAdd, Nat.reduceMul, Nat.reduceSub, Nat.reduceLT, Nat.reduceLeDiff, Nat.reduceBEq]; rfl) (by rfl) rfl)
  · rw [if_neg hc]
    have hci : decide ((((freeTs s.times t).length : Nat) : Int) = ((s.times.length : Nat) : Int)) = false := decide_eq_false (by omega)
    refine hTt_settle (s := { s with times := freeTs s.times t }) rfl ?_
    refine AC_of Try.func180 rfl Try.ntmps180 Try.results180 (by kernel_rfl) rfl ?_
    simp only [List.zipIdx, List.map, Nat.zero_add, Nat.reduceAdd]
    repeat (first | apply Aw_seq | apply Aw_block | apply Aw_skip | apply Aw_exit | refine Aw_condt rfl ?_ | refine Aw_condf rfl ?_ | (refine qr ?_; simp only [go_sem, Nat.reduceEqDiff, reduceIte, Nat.reduceAdd, Nat.reduceMul, Nat.reduceSub, Nat.reduceLT, Nat.reduceLeDiff, Nat.reduceBEq]) | (refine qd (by kernel_rfl) (by kernel_rfl) ?_; simp only [go_sem, Nat.reduceEqDiff, reduceIte, Nat.reduceAdd, Nat.reduceMul, Nat.reduceSub, Nat.reduceLT, Nat.reduceLeDiff, Nat.reduceBEq]) | refine dk (by kernel_rfl) ?_ | (refine qp (k1) (by simp only [go_sem, Nat.reduceEqDiff, reduceIte, Nat.reduceAdd, Nat.reduceMul, Nat.reduceSub, Nat.reduceLT, Nat.reduceLeDiff, Nat.reduceBEq]; first | done | rfl) rfl (by simp only [go_sem, Nat.reduceLT]) rfl rfl ?_; simp only [go_sem, Nat.reduceEqDiff, reduceIte, Nat.reduceAdd, Nat.reduceMul, Nat.reduceSub, Nat.reduceLT, Nat.reduceLeDiff, Nat.reduceBEq]) | (refine qx (call_N (L := []) (k3) rfl (.cons (.nm rfl) (.nil)) (.inl rfl) rfl) (by simp only [go_sem, Nat.reduceEqDiff, reduceIte, Nat.reduceAdd, Nat.reduceMul, Nat.reduceSub, Nat.reduceLT, Nat.reduceLeDiff, Nat.reduceBEq]; first | done | rfl) rfl (by simp only [go_sem, Nat.reduceLT]) ?_; simp only [go_sem, Nat.reduceEqDiff, reduceIte, Nat.reduceAdd, Nat.reduceMul, Nat.reduceSub, Nat.reduceLT, Nat.reduceLeDiff, Nat.reduceBEq]))
    refine Aw.rw (rwL (l' := [(7, .t (iT (0 : Nat))), (6, .t (.c (.h 4))), (5, .t (bT false)), (4, .t (.c (.ph 3 0 0))), (2, .t (.c (.ph 2 0 0))), (1, .t (iT t))]) (os := [some (lvRow s.levels), some (svRow s.sieves), some (stHd s), some zO, some (dRow 3 1 ((colI 0 (freeAt s.times t)).map intD))]) (M := [6, 7, 0, 1, 9]) (n' := 5) (by repeat (first | exact trivial | refine ⟨rfl, rfl, ?_⟩)) (by rfl) (by simp only [go_sem, Nat.reduceEqDiff, reduceIte, Nat.reduceAdd, Nat.reduceMul, Nat.reduceSub, Nat.reduceLT, Nat.reduceLeDiff, Nat.reduceBEq, colI_0, List.map_nil]; first | done | rfl) (by decide) (by intro m hm; first | omega | (rcases m with _ | _ | _ | _ | m <;> first | exact ⟨by decide, rfl⟩ | omega))) ?_
    refine Aw_loop_rw (ι := { i : Nat // i ≤ s.times.length }) (fun q => S [(7, .t (iT (q.1 : Nat))), (6, .t (.c (.h 4))), (5, .t (bT false)), (4, .t (.c (.ph 3 0 0))), (2, .t (.c (.ph 2 0 0))), (1, .t (iT t))] (hpL [some (lvRow s.levels), some (svRow s.sieves), some (stHd s), some zO, some (dRow 3 1 ((colI q.1 (freeAt s.times t)).map intD))]) 5) (fun q => s.times.length - q.1) ⟨0, Nat.zero_le _⟩ ?_
    rintro ⟨i, hi⟩
    dsimp only
    by_cases hlt : i < s.times.length
    · have g1 : (i : Int) < (s.times.length : Int) := by omega
      have w1 := wrap_succ hlt (by omega)
      obtain ⟨x, hx⟩ : ∃ e, s.times[i]? = some e := ⟨_, List.getElem?_eq_getElem hlt⟩
      have hb : ((colI i (freeAt s.times t)).length + 1) * 8 ≤ 140737488355328 := by have := colI_len (n := i) (freeAt_len s.times t); omega
      cases c : decide (x = t)
      · have hcc : colI (i + 1) (freeAt s.times t) = colI i (freeAt s.times t) ++ [x] := by rw [colI_succ]; simp at c; simp [freeAt, hx, c]
        repeat (first | apply Aw_seq | apply Aw_block | apply Aw_skip | apply Aw_exit | refine Aw_condt rfl ?_ | refine Aw_condf rfl ?_ | (refine qr ?_; simp only [go_sem, Nat.reduceEqDiff, reduceIte, Nat.reduceAdd, Nat.reduceMul, Nat.reduceSub, Nat.reduceLT, Nat.reduceLeDiff, Nat.reduceBEq, g1, w1, hx, c, hb]) | (refine qd (by kernel_rfl) (by kernel_rfl) ?_; simp only [go_sem, Nat.reduceEqDiff, reduceIte, Nat.reduceAdd, Nat.reduceMul, Nat.reduceSub, Nat.reduceLT, Nat.reduceLeDiff, Nat.reduceBEq, g1, w1, hx, c, hb]) | refine dk (by kernel_rfl) ?_)
        refine ⟨⟨i + 1, hlt⟩, [0, 1, 2, 3, 24], ?_, rwL (by repeat (first | exact trivial | refine ⟨rfl, rfl, ?_⟩)) (by rfl) (by simp only [go_sem, Nat.reduceEqDiff, reduceIte, Nat.reduceAdd, Nat.reduceMul, Nat.reduceSub, Nat.reduceLT, Nat.reduceLeDiff, Nat.reduceBEq, hcc, List.map_append, List.map_cons, List.map_nil]; first | done | rfl) (by decide) (by intro m hm; first | omega | (rcases m with _ | _ | _ | _ | m <;> first | exact ⟨by decide, rfl⟩ | omega))⟩
        show s.times.length - (i + 1) < s.times.length - i; omega
      · have hcc : colI (i + 1) (freeAt s.times t) = colI i (freeAt s.times t) := by rw [colI_succ]; simp at c; simp [freeAt, hx, c]
        repeat (first | apply Aw_seq | apply Aw_block | apply Aw_skip | apply Aw_exit | refine Aw_condt rfl ?_ | refine Aw_condf rfl ?_ | (refine qr ?_; simp only [go_sem, Nat.reduceEqDiff, reduceIte, Nat.reduceAdd, Nat.reduceMul, Nat.reduceSub, Nat.reduceLT, Nat.reduceLeDiff, Nat.reduceBEq, g1, w1, hx, c]) | (refine qd (by kernel_rfl) (by kernel_rfl) ?_; simp only [go_sem, Nat.reduceEqDiff, reduceIte, Nat.reduceAdd, Nat.reduceMul, Nat.reduceSub, Nat.reduceLT, Nat.reduceLeDiff, Nat.reduceBEq, g1, w1, hx, c]) | refine dk (by kernel_rfl) ?_)
        refine ⟨⟨i + 1, hlt⟩, [0, 1, 2, 3, 4], ?_, rwL (by repeat (first | exact trivial | refine ⟨rfl, rfl, ?_⟩)) (by rfl) (by simp only [go_sem, Nat.reduceEqDiff, reduceIte, Nat.reduceAdd, Nat.reduceMul, Nat.reduceSub, Nat.reduceLT, Nat.reduceLeDiff, Nat.reduceBEq, hcc]; first | done | rfl) (by decide) (by intro m hm; first | omega | (rcases m with _ | _ | _ | _ | m <;> first | exact ⟨by decide, rfl⟩ | omega))⟩
        show s.times.length - (i + 1) < s.times.length - i; omega
    · have g1 : ¬ (i : Int) < (s.times.length : Int) := by omega
      obtain rfl : i = s.times.length := by omega
      have ef : colI s.times.length (freeAt s.times t) = freeTs s.times t := rfl
      rw [ef]
      repeat (first | apply Aw_seq | apply Aw_block | apply Aw_skip | apply Aw_exit | refine Aw_condt rfl ?_ | refine Aw_condf rfl ?_ | (refine qr ?_; simp only [go_sem, Nat.reduceEqDiff, reduceIte, Nat.reduceAdd, Nat.reduceMul, Nat.reduceSub, Nat.reduceLT, Nat.reduceLeDiff, Nat.reduceBEq, g1, hci]) | (refine qd (by kernel_rfl) (by kernel_rfl) ?_; simp only [go_sem, Nat.reduceEqDiff, reduceIte, Nat.reduceAdd, Nat.reduceMul, Nat.reduceSub, Nat.reduceLT, Nat.reduceLeDiff, Nat.reduceBEq, g1, hci]) | refine dk (by kernel_rfl) ?_)
      exact Aw_ret (retL (M := [0, 1, 4]) (.inl rfl) (by simp only [go_sem, Nat.reduceEqDiff, reduceIte, Nat.reduceAdd, Nat.reduceMul, Nat.reduceSub, Nat.reduceLT, Nat.reduceLeDiff, Nat.reduceBEq]; first | done | rfl) rfl rfl (by rfl) (by simp only [go_sem, Nat.reduceEqDiff, reduceIte, Nat.reduceAdd, Nat.reduceMul, Nat.reduceSub, Nat.reduceLT, Nat.reduceLeDiff, Nat.reduceBEq]; first | done | rfl | (and_intros <;> rfl)) (by decide) (by intro m hm; first | omega | (rcases m with _ | _ | _ | _ | m <;> first | exact ⟨by decide, rfl⟩ | omega)))
end Go.Proofs.Ytcbhgglpgphimaa.Ab
namespace Go.Proofs.Ytcbhgglpgphimaa.Ab
set_option linter.deprecated false
set_option linter.unusedVariables false
set_option linter.unusedSimpArgs false
open Go Go.Proofs
set_option maxRecDepth 10000
set_option maxHeartbeats 8000000
set_option linter.unusedSimpArgs false
set_option linter.unusedVariables false
structure Deed where
  kind : Int
  key : ByteArray
  num : Int
def deedD (d : Deed) : List D := [.s (.int .i64 d.kind), .s (.string d.key), .s (.int .i64 d.num)]
@[go_sem] theorem r_deedD (d : Deed) : deedD d = [.s (.int .i64 d.kind), .s (.string d.key), .s (.int .i64 d.num)] := rfl
abbrev deedT (d : Deed) : TV := .agg [.d (.s (.int .i64 d.kind)), .d (.s (.string d.key)), .d (.s (.int .i64 d.num))]
abbrev deedsT (ds : List Deed) : TV := .c (.d (.rs 3 (ds.map deedD)))
def doM (s : Sto) (d : Deed) : Option Sto := if d.kind = 1 then putM s d.key d.num else if d.kind = 2 then takeM s d.key else if d.kind = 3 then holdM s else if d.kind = 4 then freeM s d.num else if d.kind = 5 then sDownM s else if d.kind = 6 then sJoinM s d.num else none
theorem l13Do_ac (s : Sto) (d : Deed) (hs : SmSt s) (hk : smK d.key) : AC Try.prog 151 [stT s, deedT d] noHp 0 ⟨resO (doM s d), noHp, 0⟩ := by
  unfold doM
  cases c1 : decide (d.kind = 1)
  case true =>
    rw [if_pos (of_decide_eq_true c1)]
    refine AC_of Try.func151 rfl Try.ntmps151 Try.results151 (by kernel_rfl) rfl ?_
    simp only [List.zipIdx, List.map, Nat.zero_add, Nat.reduceAdd]
    repeat (first | apply Aw_seq | apply Aw_block | apply Aw_skip | apply Aw_exit | refine Aw_condt rfl ?_ | refine Aw_condf rfl ?_ | (refine qr ?_; simp only [go_sem, Nat.reduceEqDiff, reduceIte, Nat.reduceAdd, Nat.reduceMul, Nat.reduceSub, Nat.reduceLT, Nat.reduceLeDiff, Nat.reduceBEq, c1]) | (refine qd (by kernel_rfl) (by kernel_rfl) ?_; simp only [go_sem, Nat.reduceEqDiff, reduceIte, Nat.reduceAdd, Nat.reduceMul, Nat.reduceSub, Nat.reduceLT, Nat.reduceLeDiff, Nat.reduceBEq, c1]) | refine dk (by kernel_rfl) ?_ | (refine qp (storePutS_ac s d.key d.num hs hk) (by simp only [go_sem, Nat.reduceEqDiff, reduceIte, Nat.reduceAdd, Nat.reduceMul, Nat.reduceSub, Nat.reduceLT, Nat.reduceLeDiff, Nat.reduceBEq, c1]; first | done | rfl) rfl (by simp only [go_sem, Nat.reduceLT]) rfl rfl ?_; simp only [go_sem, Nat.reduceEqDiff, reduceIte, Nat.reduceAdd, Nat.reduceMul, Nat.reduceSub, Nat.reduceLT, Nat.reduceLeDiff, Nat.reduceBEq, c1]))
    exact Aw_ret (ret0 (.inl rfl) (by simp only [go_sem, Nat.reduceEqDiff, reduceIte, Nat.reduceAdd, Nat.reduceMul, Nat.reduceSub, Nat.reduceLT, Nat.reduceLeDiff, Nat.reduceBEq]; rfl) (by rfl) rfl)
  rw [if_neg (of_decide_eq_false c1)]
  cases c2 : decide (d.kind = 2)
  case true =>
    rw [if_pos (of_decide_eq_true c2)]
    refine AC_of Try.func151 rfl Try.ntmps151 Try.results151 (by kernel_rfl) rfl ?_
    simp only [List.zipIdx, List.map, Nat.zero_add, Nat.reduceAdd]
    repeat (first | apply Aw_seq | apply Aw_block | apply Aw_skip | apply Aw_exit | refine Aw_condt rfl ?_ | refine Aw_condf rfl ?_ | (refine qr ?_; simp only [go_sem, Nat.reduceEqDiff, reduceIte, Nat.reduceAdd, Nat.reduceMul, Nat.reduceSub, Nat.reduceLT, Nat.reduceLeDiff, Nat.reduceBEq, c1, c2]) | (refine qd (by kernel_rfl) (by kernel_rfl) ?_; simp only [go_sem, Nat.reduceEqDiff, reduceIte, Nat.reduceAdd, Nat.reduceMul, Nat.reduceSub, Nat.reduceLT, Nat.reduceLeDiff, Nat.reduceBEq, c1, c2]) | refine dk (by kernel_rfl) ?_ | (refine qp (storeTakeS_ac s d.key hs hk) (by simp only [go_sem, Nat.reduceEqDiff, reduceIte, Nat.reduceAdd, Nat.reduceMul, Nat.reduceSub, Nat.reduceLT, Nat.reduceLeDiff, Nat.reduceBEq, c1, c2]; first | done | rfl) rfl (by simp only [go_sem, Nat.reduceLT]) rfl rfl ?_; simp only [go_sem, Nat.reduceEqDiff, reduceIte, Nat.reduceAdd, Nat.reduceMul, Nat.reduceSub, Nat.reduceLT, Nat.reduceLeDiff, Nat.reduceBEq, c1, c2]))
    exact Aw_ret (ret0 (.inl rfl) (by simp only [go_sem, Nat.reduceEqDiff, reduceIte, Nat.reduceAdd, Nat.reduceMul, Nat.reduceSub, Nat.reduceLT, Nat.reduceLeDiff, Nat.reduceBEq]; rfl) (by rfl) rfl)
  rw [if_neg (of_decide_eq_false c2)]
  cases c3 : decide (d.kind = 3)
  case true =>
    rw [if_pos (of_decide_eq_true c3)]
    refine AC_of Try.func151 rfl Try.ntmps151 Try.results151 (by kernel_rfl) rfl ?_
    simp only [List.zipIdx, List.map, Nat.zero_add, Nat.reduceAdd]
    repeat (first | apply Aw_seq | apply Aw_block | apply Aw_skip | apply Aw_exit | refine Aw_condt rfl ?_ | refine Aw_condf rfl ?_ | (refine qr ?_; simp only [go_sem, Nat.reduceEqDiff, reduceIte, Nat.reduceAdd, Nat.reduceMul, Nat.reduceSub, Nat.reduceLT, Nat.reduceLeDiff, Nat.reduceBEq, c1, c2, c3]) | (refine qd (by kernel_rfl) (by kernel_rfl) ?_; simp only [go_sem, Nat.reduceEqDiff, reduceIte, Nat.reduceAdd, Nat.reduceMul, Nat.reduceSub, Nat.reduceLT, Nat.reduceLeDiff, Nat.reduceBEq, c1, c2, c3]) | refine dk (by kernel_rfl) ?_ | (refine qp (storeHoldS_ac s hs) (by simp only [go_sem, Nat.reduceEqDiff, reduceIte, Nat.reduceAdd, Nat.reduceMul, Nat.reduceSub, Nat.reduceLT, Nat.reduceLeDiff, Nat.reduceBEq, c1, c2, c3]; first | done | rfl) rfl (by simp only [go_sem, Nat.reduceLT]) rfl rfl ?_; simp only [go_sem, Nat.reduceEqDiff, reduceIte, Nat.reduceAdd, Nat.reduceMul, Nat.reduceSub, Nat.reduceLT, Nat.reduceLeDiff, Nat.reduceBEq, c1, c2, c3]))
    exact Aw_ret (ret0 (.inl rfl) (by simp only [go_sem, Nat.reduceEqDiff, reduceIte, Nat.reduceAdd, Nat.reduceMul, Nat.reduceSub, Nat.reduceLT, Nat.reduceLeDiff, Nat.reduceBEq]; rfl) (by rfl) rfl)
  rw [if_neg (of_decide_eq_false c3)]
  cases c4 : decide (d.kind = 4)
  case true =>
    rw [if_pos (of_decide_eq_true c4)]
    refine AC_of Try.func151 rfl Try.ntmps151 Try.results151 (by kernel_rfl) rfl ?_
    simp only [List.zipIdx, List.map, Nat.zero_add, Nat.reduceAdd]
    repeat (first | apply Aw_seq | apply Aw_block | apply Aw_skip | apply Aw_exit | refine Aw_condt rfl ?_ | refine Aw_condf rfl ?_ | (refine qr ?_; simp only [go_sem, Nat.reduceEqDiff, reduceIte, Nat.reduceAdd, Nat.reduceMul, Nat.reduceSub, Nat.reduceLT, Nat.reduceLeDiff, Nat.reduceBEq, c1, c2, c3, c4]) | (refine qd (by kernel_rfl) (by kernel_rfl) ?_; simp only [go_sem, Nat.reduceEqDiff, reduceIte, Nat.reduceAdd, Nat.reduceMul, Nat.reduceSub, Nat.reduceLT, Nat.reduceLeDiff, Nat.reduceBEq, c1, c2, c3, c4]) | refine dk (by kernel_rfl) ?_ | (refine qp (storeFreeS_ac s d.num hs) (by simp only [go_sem, Nat.reduceEqDiff, reduceIte, Nat.reduceAdd, Nat.reduceMul, Nat.reduceSub, Nat.reduceLT, Nat.reduceLeDiff, Nat.reduceBEq, c1, c2, c3, c4]; first | done | rfl) rfl (by simp only [go_sem, Nat.reduceLT]) rfl rfl ?_; simp only [go_sem, Nat.reduceEqDiff, reduceIte, Nat.reduceAdd, Nat.reduceMul, Nat.reduceSub, Nat.reduceLT, Nat.reduceLeDiff, Nat.reduceBEq, c1, c2, c3, c4]))
    exact Aw_ret (ret0 (.inl rfl) (by simp only [go_sem, Nat.reduceEqDiff, reduceIte, Nat.reduceAdd, Nat.reduceMul, Nat.reduceSub, Nat.reduceLT, Nat.reduceLeDiff, Nat.reduceBEq]; rfl) (by rfl) rfl)
  rw [if_neg (of_decide_eq_false c4)]
  cases c5 : decide (d.kind = 5)
  case true =>
    rw [if_pos (of_decide_eq_true c5)]
    refine AC_of Try.func151 rfl Try.ntmps151 Try.results151 (by kernel_rfl) rfl ?_
    simp only [List.zipIdx, List.map, Nat.zero_add, Nat.reduceAdd]
    repeat (first | apply Aw_seq | apply Aw_block | apply Aw_skip | apply Aw_exit | refine Aw_condt rfl ?_ | refine Aw_condf rfl ?_ | (refine qr ?_; simp only [go_sem, Nat.reduceEqDiff, reduceIte, Nat.reduceAdd, Nat.reduceMul, Nat.reduceSub, Nat.reduceLT, Nat.reduceLeDiff, Nat.reduceBEq, c1, c2, c3, c4, c5]) | (refine qd (by kernel_rfl) (by kernel_rfl) ?_; simp only [go_sem, Nat.reduceEqDiff, reduceIte, Nat.reduceAdd, Nat.reduceMul, Nat.reduceSub, Nat.reduceLT, Nat.reduceLeDiff, Nat.reduceBEq, c1, c2, c3, c4, c5]) | refine dk (by kernel_rfl) ?_ | (refine qp (storeDownS_ac s hs) (by simp only [go_sem, Nat.reduceEqDiff, reduceIte, Nat.reduceAdd, Nat.reduceMul, Nat.reduceSub, Nat.reduceLT, Nat.reduceLeDiff, Nat.reduceBEq, c1, c2, c3, c4, c5]; first | done | rfl) rfl (by simp only [go_sem, Nat.reduceLT]) rfl rfl ?_; simp only [go_sem, Nat.reduceEqDiff, reduceIte, Nat.reduceAdd, Nat.reduceMul, Nat.reduceSub, Nat.reduceLT, Nat.reduceLeDiff, Nat.reduceBEq, c1, c2, c3, c4, c5]))
    exact Aw_ret (ret0 (.inl rfl) (by simp only [go_sem, Nat.reduceEqDiff, reduceIte, Nat.reduceAdd, Nat.reduceMul, Nat.reduceSub, Nat.reduceLT, Nat.reduceLeDiff, Nat.reduceBEq]; rfl) (by rfl) rfl)
  rw [if_neg (of_decide_eq_false c5)]
  cases c6 : decide (d.kind = 6)
  case true =>
    rw [if_pos (of_decide_eq_true c6)]
    refine AC_of Try.func151 rfl Try.ntmps151 Try.results151 (by kernel_rfl) rfl ?_
    simp only [List.zipIdx, List.map, Nat.zero_add, Nat.reduceAdd]
    repeat (first | apply Aw_seq | apply Aw_block | apply Aw_skip | apply Aw_exit | refine Aw_condt rfl ?_ | refine Aw_condf rfl ?_ | (refine qr ?_; simp only [go_sem, Nat.reduceEqDiff, reduceIte, Nat.reduceAdd, Nat.reduceMul, Nat.reduceSub, Nat.reduceLT, Nat.reduceLeDiff, Nat.reduceBEq, c1, c2, c3, c4, c5, c6]) | (refine qd (by kernel_rfl) (by kernel_rfl) ?_; simp only [go_sem, Nat.reduceEqDiff, reduceIte, Nat.reduceAdd, Nat.reduceMul, Nat.reduceSub, Nat.reduceLT, Nat.reduceLeDiff, Nat.reduceBEq, c1, c2, c3, c4, c5, c6]) | refine dk (by kernel_rfl) ?_ | (refine qp (storeJoinS_ac s d.num hs) (by simp only [go_sem, Nat.reduceEqDiff, reduceIte, Nat.reduceAdd, Nat.reduceMul, Nat.reduceSub, Nat.reduceLT, Nat.reduceLeDiff, Nat.reduceBEq, c1, c2, c3, c4, c5, c6]; first | done | rfl) rfl (by simp only [go_sem, Nat.reduceLT]) rfl rfl ?_; simp only [go_sem, Nat.reduceEqDiff, reduceIte, Nat.reduceAdd, Nat.reduceMul, Nat.reduceSub, Nat.reduceLT, Nat.reduceLeDiff, Nat.reduceBEq, c1, c2, c3, c4, c5, c6]))
    exact Aw_ret (ret0 (.inl rfl) (by simp only [go_sem, Nat.reduceEqDiff, reduceIte, Nat.reduceAdd, Nat.reduceMul, Nat.reduceSub, Nat.reduceLT, Nat.reduceLeDiff, Nat.reduceBEq]; rfl) (by rfl) rfl)
  rw [if_neg (of_decide_eq_false c6)]
  refine AC.nilR (x := .tup [zA, bT false]) ?_ zA_nil
  refine AC_of Try.func151 rfl Try.ntmps151 Try.results151 (by kernel_rfl) rfl ?_
  simp only [List.zipIdx, List.map, Nat.zero_add, Nat.reduceAdd]
  repeat (first | apply Aw_seq | apply Aw_block | apply Aw_skip | apply Aw_exit | refine Aw_condt rfl ?_ | refine Aw_condf rfl ?_ | (refine qr ?_; simp only [go_sem, Nat.reduceEqDiff, reduceIte, Nat.reduceAdd, Nat.reduceMul, Nat.reduceSub, Nat.reduceLT, Nat.reduceLeDiff, Nat.reduceBEq, c1, c2, c3, c4, c5, c6]) | (refine qd (by kernel_rfl) (by kernel_rfl) ?_; simp only [go_sem, Nat.reduceEqDiff, reduceIte, Nat.reduceAdd, Nat.reduceMul, Nat.reduceSub, Nat.reduceLT, Nat.reduceLeDiff, Nat.reduceBEq, c1, c2, c3, c4, c5, c6]) | refine dk (by kernel_rfl) ?_)
  exact Aw_ret (ret0 (.inl rfl) (by simp only [go_sem, Nat.reduceEqDiff, reduceIte, Nat.reduceAdd, Nat.reduceMul, Nat.reduceSub, Nat.reduceLT, Nat.reduceLeDiff, Nat.reduceBEq]; rfl) (by rfl) rfl)
theorem setM_st {s s' : Sto} {i : Nat} {r : List Ent} (hs : SmSt s) (hr : SmR r) (h : setM s i r = some s') : SmSt s' := by
  obtain ⟨x, rfl, hx, hl⟩ := setM_ok h
  refine ⟨hs.top, fun q hq => ?_, by simpa using hs.ll, by simpa using hs.sl, fun y hy => ?_, hs.tl⟩
  · rcases List.mem_or_eq_of_mem_set hq with h | rfl
    · exact hs.lev q h
    · exact hr
  · rcases List.mem_or_eq_of_mem_set hy with h | rfl
    · exact hs.rl y h
    · exact sieveM_len hx
theorem intoM_st : ∀ (d : Nat) {s s' : Sto} {i : Nat} {r : List Ent}, i + d = 2 → SmH s → SmSt s → SmR r → r.length ≤ 1000 → intoM d s i r = some s' → SmSt s'
  | 0, s, s', i, r, hi, hh, hs, hr, hl, h => by
    have hq : SmR (s.levels.getD i []) ∧ (s.levels.getD i []).length ≤ 1000 := by
      rw [List.getD_eq_getElem?_getD, List.getElem?_eq_getElem (by rw [hh.ll]; omega)]; exact hh.lev _ (List.getElem_mem _)
    exact setM_st hs (smR_trim (smR_join hr hq.1 hl hq.2) _ _) h
  | d + 1, s, s', i, r, hi, hh, hs, hr, hl, h => by
    have hq : SmR (s.levels.getD i []) ∧ (s.levels.getD i []).length ≤ 1000 := by
      rw [List.getD_eq_getElem?_getD, List.getElem?_eq_getElem (by rw [hh.ll]; omega)]; exact hh.lev _ (List.getElem_mem _)
    simp only [intoM] at h
    split at h
    · rename_i x hx
      obtain rfl := Option.some.inj h
      exact setM_st hs (smR_trim (smR_join hr hq.1 hl hq.2) _ _) hx
    · obtain ⟨s1, h1, h2⟩ := Option.bind_eq_some_iff.1 h
      exact setM_st (intoM_st d (by omega) hh hs hq.1 hq.2 h1) (smR_trim hr _ _) h2
theorem downM_st {s s' : Sto} (hs : SmSt s) (hv : storeS s = true) (h : downM s = some s') : SmSt s' ∧ s'.top = [] := by
  have sm := valid_sm hs hv
  obtain ⟨h1, h2, h3, h4, h5, _⟩ := storeS_facts hv
  have g : SmSt (noTop s) := ⟨smR_nil, hs.lev, hs.ll, hs.sl, hs.rl, hs.tl⟩
  exact ⟨intoM_st 2 (s := noTop s) rfl ⟨sm.ll, sm.sl, sm.lev, sm.tl⟩ g hs.top (by omega) h, (intoM_sm 2 (s := noTop s) (i := 0) rfl ⟨sm.ll, sm.sl, sm.lev, sm.tl⟩ hs.top (by omega) h).2.2.1⟩
theorem smR_one {e : Ent} (h : smK e.key) : SmR [e] := ⟨by simp, by simpa using h⟩
theorem addM_st {s s' : Sto} {e : Ent} (hs : SmSt s) (he : smK e.key) (h : addM s e = some s') : SmSt s' := by
  unfold addM at h
  split at h
  · rename_i hc
    rw [Bool.and_eq_true] at hc
    obtain ⟨h1, h2, h3, h4, h5, _⟩ := storeS_facts hc.1
    split at h
    · obtain ⟨x, hx, rfl⟩ := Option.map_eq_some_iff.1 h
      obtain ⟨g, gt⟩ := downM_st hs hc.1 hx
      exact ⟨smR_join (smR_one he) g.top (by simp) (by rw [gt]; simp), g.lev, g.ll, g.sl, g.rl, g.tl⟩
    · obtain rfl := Option.some.inj h
      exact ⟨smR_join (smR_one he) hs.top (by simp) (by omega), hs.lev, hs.ll, hs.sl, hs.rl, hs.tl⟩
  · cases h
theorem doM_st {s s' : Sto} {d : Deed} (hs : SmSt s) (hk : smK d.key) (h : doM s d = some s') : SmSt s' := by
  unfold doM at h
  split at h
  · exact addM_st (e := ⟨d.key, d.num, false, nextT s⟩) hs hk h
  split at h
  · exact addM_st (e := ⟨d.key, 0, true, nextT s⟩) hs hk h
  split at h
  · unfold holdM at h
    split at h
    · rename_i hv
      obtain ⟨h1, h2, h3, h4, h5, _⟩ := storeS_facts hv
      split at h
      · obtain rfl := Option.some.inj h
        have hl : (heldTs s).length ≤ 1099511627776 := by
          unfold heldTs
          split
          · omega
          · simp only [List.length_append, List.length_cons, List.length_nil]; omega
        exact ⟨hs.top, hs.lev, hs.ll, hs.sl, hs.rl, hl⟩
      · cases h
    · cases h
  split at h
  · unfold freeM at h
    split at h
    · split at h
      · cases h
      · obtain rfl := Option.some.inj h
        exact ⟨hs.top, hs.lev, hs.ll, hs.sl, hs.rl, Nat.le_trans (colI_len (freeAt_len _ _)) hs.tl⟩
    · cases h
  split at h
  · unfold sDownM at h
    split at h
    · rename_i hv; exact (downM_st hs hv h).1
    · cases h
  split at h
  · unfold sJoinM at h
    split at h
    · rename_i hc
      rw [Bool.and_eq_true] at hc
      have sm := valid_sm hs hc.1
      have c2 := hc.2
      unfold inB at c2
      rw [Bool.and_eq_true] at c2
      have g1 := of_decide_eq_true c2.1; have g2 := of_decide_eq_true c2.2
      obtain ⟨x, hx, h2⟩ := Option.bind_eq_some_iff.1 h
      have smx := setM_sm sm (by omega) smR_nil hx
      have hq : SmR (s.levels.getD d.num.toNat []) ∧ (s.levels.getD d.num.toNat []).length ≤ 1000 := by
        rw [List.getD_eq_getElem?_getD, List.getElem?_eq_getElem (by rw [sm.ll]; omega)]; exact sm.lev _ (List.getElem_mem _)
      exact intoM_st _ (by omega) smx (setM_st hs smR_nil hx) hq.1 hq.2 h2
    · cases h
  · cases h
end Go.Proofs.Ytcbhgglpgphimaa.Ab
namespace Go.Proofs.Ytcbhgglpgphimaa.Ab
set_option linter.deprecated false
set_option linter.unusedVariables false
set_option linter.unusedSimpArgs false
open Go Go.Proofs
set_option maxRecDepth 10000
set_option maxHeartbeats 8000000
set_option linter.unusedSimpArgs false
set_option linter.unusedVariables false
/-- The entry that a deed writes. -/
def entOf (d : Deed) (x : Sto) : Ent := if d.kind = 2 then ⟨d.key, 0, true, x.time⟩ else ⟨d.key, d.num, false, x.time⟩
def pastStep (q : Sto × List Ent) (d : Deed) : Sto × List Ent := match doM q.1 d with
  | none => q
  | some x => (x, if q.1.time < x.time then q.2 ++ [entOf d x] else q.2)
def pastTo (s : Sto) (ds : List Deed) (i : Nat) : Sto × List Ent := (ds.take i).foldl pastStep (s, [])
def pastM (s : Sto) (ds : List Deed) : List Ent := if storeS s = true ∧ ds.length ≤ 40 then (pastTo s ds ds.length).2 else []
theorem pastTo_succ {s : Sto} {ds : List Deed} {i : Nat} {d : Deed} (h : ds[i]? = some d) : pastTo s ds (i + 1) = pastStep (pastTo s ds i) d := by
  unfold pastTo
  rw [List.take_add_one, h]
  simp [List.foldl_append]
structure SmD (ds : List Deed) : Prop where
  key : ∀ d ∈ ds, smK d.key
theorem pastTo_st {s : Sto} {ds : List Deed} (hs : SmSt s) (hd : SmD ds) : ∀ i, i ≤ ds.length → SmSt (pastTo s ds i).1 ∧ (pastTo s ds i).2.length ≤ i ∧ ∀ e ∈ (pastTo s ds i).2, smK e.key := by
  intro i
  induction i with
  | zero => intro _; exact ⟨hs, by simp [pastTo], by simp [pastTo]⟩
  | succ i ih =>
    intro hi
    obtain ⟨h1, h2, h3⟩ := ih (by omega)
    obtain ⟨d, hd2⟩ : ∃ d, ds[i]? = some d := ⟨_, List.getElem?_eq_getElem (by omega)⟩
    have hk := hd.key d (List.mem_of_getElem? hd2)
    rw [pastTo_succ hd2]
    unfold pastStep
    cases hm : doM (pastTo s ds i).1 d with
    | none => dsimp only; exact ⟨h1, by omega, h3⟩
    | some x =>
      refine ⟨doM_st h1 hk hm, ?_, ?_⟩
      · dsimp only; split
        · simp; omega
        · omega
      · dsimp only; split
        · intro e he
          rcases List.mem_append.1 he with he | he
          · exact h3 e he
          · obtain rfl : e = entOf d x := by simpa using he
            unfold entOf; split <;> exact hk
        · exact h3
theorem pastM_len {s : Sto} {ds : List Deed} (hs : SmSt s) (hd : SmD ds) : (pastM s ds).length ≤ 40 ∧ ∀ e ∈ pastM s ds, smK e.key := by
  unfold pastM
  split
  · rename_i h
    have := pastTo_st hs hd ds.length (Nat.le_refl _)
    exact ⟨by omega, this.2.2⟩
  · simp
theorem pastAll_ac (s : Sto) (ds : List Deed) (hs : SmSt s) (hd : SmD ds) (hl : ds.length ≤ 1099511627776) : AC Try.prog 122 [stT s, deedsT ds] noHp 0 ⟨.t (.c (.h 0)), hpL [some (eRow (pastM s ds))], 1⟩ := by
  refine AC_of Try.func122 rfl Try.ntmps122 Try.results122 (by kernel_rfl) rfl ?_
  simp only [List.zipIdx, List.map, Nat.zero_add, Nat.reduceAdd]
  have k1 := sstoreOk_ac s hs
  unfold pastM
  cases c1 : storeS s
  · rw [c1] at k1
    rw [if_neg (by simp)]
    repeat (first | apply Aw_seq | apply Aw_block | apply Aw_skip | apply Aw_exit | refine Aw_condt rfl ?_ | refine Aw_condf rfl ?_ | (refine qr ?_; simp only [go_sem, Nat.reduceEqDiff, reduceIte, Nat.reduceAdd, Nat.reduceMul, Nat.reduceSub, Nat.reduceLT, Nat.reduceLeDiff, Nat.reduceBEq]) | (refine qd (by kernel_rfl) (by kernel_rfl) ?_; simp only [go_sem, Nat.reduceEqDiff, reduceIte, Nat.reduceAdd, Nat.reduceMul, Nat.reduceSub, Nat.reduceLT, Nat.reduceLeDiff, Nat.reduceBEq]) | refine dk (by kernel_rfl) ?_ | (refine qp (k1) (by simp only [go_sem, Nat.reduceEqDiff, reduceIte, Nat.reduceAdd, Nat.reduceMul, Nat.reduceSub, Nat.reduceLT, Nat.reduceLeDiff, Nat.reduceBEq]; first | done | rfl) rfl (by simp only [go_sem, Nat.reduceLT]) rfl rfl ?_; simp only [go_sem, Nat.reduceEqDiff, reduceIte, Nat.reduceAdd, Nat.reduceMul, Nat.reduceSub, Nat.reduceLT, Nat.reduceLeDiff, Nat.reduceBEq]))
    exact Aw_ret (retL (M := [2]) (.inl rfl) (by simp only [go_sem, Nat.reduceEqDiff, reduceIte, Nat.reduceAdd, Nat.reduceMul, Nat.reduceSub, Nat.reduceLT, Nat.reduceLeDiff, Nat.reduceBEq]; first | done | rfl) rfl rfl (by rfl) (by simp only [go_sem, Nat.reduceEqDiff, reduceIte, Nat.reduceAdd, Nat.reduceMul, Nat.reduceSub, Nat.reduceLT, Nat.reduceLeDiff, Nat.reduceBEq]; first | done | rfl | (and_intros <;> rfl)) (by decide) (by intro m hm; first | omega | (rcases m with _ | _ | _ | _ | m <;> first | exact ⟨by decide, rfl⟩ | omega)))
  rw [c1] at k1
  by_cases c2 : ds.length ≤ 40
  case neg =>
    have g2 : decide ((40 : Int) < (ds.length : Int)) = true := decide_eq_true (by omega)
    rw [if_neg (by simp [c2])]
    repeat (first | apply Aw_seq | apply Aw_block | apply Aw_skip | apply Aw_exit | refine Aw_condt rfl ?_ | refine Aw_condf rfl ?_ | (refine qr ?_; simp only [go_sem, Nat.reduceEqDiff, reduceIte, Nat.reduceAdd, Nat.reduceMul, Nat.reduceSub, Nat.reduceLT, Nat.reduceLeDiff, Nat.reduceBEq, g2]) | (refine qd (by kernel_rfl) (by kernel_rfl) ?_; simp only [go_sem, Nat.reduceEqDiff, reduceIte, Nat.reduceAdd, Nat.reduceMul, Nat.reduceSub, Nat.reduceLT, Nat.reduceLeDiff, Nat.reduceBEq, g2]) | refine dk (by kernel_rfl) ?_ | (refine qp (k1) (by simp only [go_sem, Nat.reduceEqDiff, reduceIte, Nat.reduceAdd, Nat.reduceMul, Nat.reduceSub, Nat.reduceLT, Nat.reduceLeDiff, Nat.reduceBEq, g2]; first | done | rfl) rfl (by simp only [go_sem, Nat.reduceLT]) rfl rfl ?_; simp only [go_sem, Nat.reduceEqDiff, reduceIte, Nat.reduceAdd, Nat.reduceMul, Nat.reduceSub, Nat.reduceLT, Nat.reduceLeDiff, Nat.reduceBEq, g2]))
    exact Aw_ret (retL (M := [2]) (.inl rfl) (by simp only [go_sem, Nat.reduceEqDiff, reduceIte, Nat.reduceAdd, Nat.reduceMul, Nat.reduceSub, Nat.reduceLT, Nat.reduceLeDiff, Nat.reduceBEq]; first | done | rfl) rfl rfl (by rfl) (by simp only [go_sem, Nat.reduceEqDiff, reduceIte, Nat.reduceAdd, Nat.reduceMul, Nat.reduceSub, Nat.reduceLT, Nat.reduceLeDiff, Nat.reduceBEq]; first | done | rfl | (and_intros <;> rfl)) (by decide) (by intro m hm; first | omega | (rcases m with _ | _ | _ | _ | m <;> first | exact ⟨by decide, rfl⟩ | omega)))
  have g2 : decide ((40 : Int) < (ds.length : Int)) = false := decide_eq_false (by omega)
  rw [if_pos ⟨rfl, c2⟩]
  have e0 : pastTo s ds 0 = (s, []) := rfl
  repeat (first | apply Aw_seq | apply Aw_block | apply Aw_skip | apply Aw_exit | refine Aw_condt rfl ?_ | refine Aw_condf rfl ?_ | (refine qr ?_; simp only [go_sem, Nat.reduceEqDiff, reduceIte, Nat.reduceAdd, Nat.reduceMul, Nat.reduceSub, Nat.reduceLT, Nat.reduceLeDiff, Nat.reduceBEq, g2]) | (refine qd (by kernel_rfl) (by kernel_rfl) ?_; simp only [go_sem, Nat.reduceEqDiff, reduceIte, Nat.reduceAdd, Nat.reduceMul, Nat.reduceSub, Nat.reduceLT, Nat.reduceLeDiff, Nat.reduceBEq, g2]) | refine dk (by kernel_rfl) ?_ | (refine qp (k1) (by simp only [go_sem, Nat.reduceEqDiff, reduceIte, Nat.reduceAdd, Nat.reduceMul, Nat.reduceSub, Nat.reduceLT, Nat.reduceLeDiff, Nat.reduceBEq, g2]; first | done | rfl) rfl (by simp only [go_sem, Nat.reduceLT]) rfl rfl ?_; simp only [go_sem, Nat.reduceEqDiff, reduceIte, Nat.reduceAdd, Nat.reduceMul, Nat.reduceSub, Nat.reduceLT, Nat.reduceLeDiff, Nat.reduceBEq, g2]))
  refine Aw.rw (rwL (l' := [(6, .t (iT (0 : Nat))), (5, .t (.c (.h 1))), (2, .t (.c (.ph 0 0 0))), (1, .t (deedsT ds))]) (os := [some (stO (pastTo s ds 0).1), some (eRow (pastTo s ds 0).2)]) (M := [0, 2]) (n' := 2) (by repeat (first | exact trivial | refine ⟨rfl, rfl, ?_⟩)) (by rfl) (by simp only [go_sem, Nat.reduceEqDiff, reduceIte, Nat.reduceAdd, Nat.reduceMul, Nat.reduceSub, Nat.reduceLT, Nat.reduceLeDiff, Nat.reduceBEq, e0, List.map_nil]; first | done | rfl) (by decide) (by intro m hm; first | omega | (rcases m with _ | _ | _ | _ | m <;> first | exact ⟨by decide, rfl⟩ | omega))) ?_
  refine Aw_loop_rw (ι := { i : Nat // i ≤ ds.length }) (fun q => S [(6, .t (iT (q.1 : Nat))), (5, .t (.c (.h 1))), (2, .t (.c (.ph 0 0 0))), (1, .t (deedsT ds))] (hpL [some (stO (pastTo s ds q.1).1), some (eRow (pastTo s ds q.1).2)]) 2) (fun q => ds.length - q.1) ⟨0, Nat.zero_le _⟩ ?_
  rintro ⟨i, hi⟩
  dsimp only
  by_cases hlt : i < ds.length
  · have g1 : (i : Int) < (ds.length : Int) := by omega
    have w1 := wrap_succ hlt (by omega)
    obtain ⟨d, hx⟩ : ∃ e, ds[i]? = some e := ⟨_, List.getElem?_eq_getElem hlt⟩
    have hk := hd.key d (List.mem_of_getElem? hx)
    obtain ⟨p1, p2, p3⟩ := pastTo_st hs hd i hi
    have e1 := pastTo_succ (s := s) hx
    generalize pastTo s ds i = q at p1 p2 p3 e1 ⊢
    obtain ⟨cs, out⟩ := q
    dsimp only at p1 p2 p3
    have hap : (out.length + 1) * 40 ≤ 140737488355328 := by omega
    have k2 := l13Do_ac cs d p1 hk
    dsimp only
    cases hm : doM cs d with
    | none =>
      rw [hm] at k2
      have e2 : pastTo s ds (i + 1) = (cs, out) := by rw [e1]; unfold pastStep; simp only [hm]
      repeat (first | apply Aw_seq | apply Aw_block | apply Aw_skip | apply Aw_exit | refine Aw_condt rfl ?_ | refine Aw_condf rfl ?_ | (refine qr ?_; simp only [go_sem, Nat.reduceEqDiff, reduceIte, Nat.reduceAdd, Nat.reduceMul, Nat.reduceSub, Nat.reduceLT, Nat.reduceLeDiff, Nat.reduceBEq, g1, w1, hx]) | (refine qd (by kernel_rfl) (by kernel_rfl) ?_; simp only [go_sem, Nat.reduceEqDiff, reduceIte, Nat.reduceAdd, Nat.reduceMul, Nat.reduceSub, Nat.reduceLT, Nat.reduceLeDiff, Nat.reduceBEq, g1, w1, hx]) | refine dk (by kernel_rfl) ?_ | (refine qp (k2) (by simp only [go_sem, Nat.reduceEqDiff, reduceIte, Nat.reduceAdd, Nat.reduceMul, Nat.reduceSub, Nat.reduceLT, Nat.reduceLeDiff, Nat.reduceBEq, g1, w1, hx]; first | done | rfl) rfl (by simp only [go_sem, Nat.reduceLT]) rfl rfl ?_; simp only [go_sem, Nat.reduceEqDiff, reduceIte, Nat.reduceAdd, Nat.reduceMul, Nat.reduceSub, Nat.reduceLT, Nat.reduceLeDiff, Nat.reduceBEq, g1, w1, hx]))
      refine ⟨⟨i + 1, hlt⟩, [0, 1], ?_, rwL (by repeat (first | exact trivial | refine ⟨rfl, rfl, ?_⟩)) (by rfl) (by simp only [go_sem, Nat.reduceEqDiff, reduceIte, Nat.reduceAdd, Nat.reduceMul, Nat.reduceSub, Nat.reduceLT, Nat.reduceLeDiff, Nat.reduceBEq, e2]; first | done | rfl) (by decide) (by intro m hm; first | omega | (rcases m with _ | _ | _ | _ | m <;> first | exact ⟨by decide, rfl⟩ | omega))⟩
      show ds.length - (i + 1) < ds.length - i; omega
    | some x =>
      rw [hm] at k2
      have k2 : AC Try.prog 151 [stT cs, deedT d] noHp 0 ⟨.tup [stT x, bT true], noHp, 0⟩ := k2
      cases c3 : decide (cs.time < x.time)
      · have e2 : pastTo s ds (i + 1) = (x, out) := by rw [e1]; unfold pastStep; simp only [hm]; rw [if_neg (of_decide_eq_false c3)]
        repeat (first | apply Aw_seq | apply Aw_block | apply Aw_skip | apply Aw_exit | refine Aw_condt rfl ?_ | refine Aw_condf rfl ?_ | (refine qr ?_; simp only [go_sem, Nat.reduceEqDiff, reduceIte, Nat.reduceAdd, Nat.reduceMul, Nat.reduceSub, Nat.reduceLT, Nat.reduceLeDiff, Nat.reduceBEq, g1, w1, hx, c3]) | (refine qd (by kernel_rfl) (by kernel_rfl) ?_; simp only [go_sem, Nat.reduceEqDiff, reduceIte, Nat.reduceAdd, Nat.reduceMul, Nat.reduceSub, Nat.reduceLT, Nat.reduceLeDiff, Nat.reduceBEq, g1, w1, hx, c3]) | refine dk (by kernel_rfl) ?_ | (refine qp (k2) (by simp only [go_sem, Nat.reduceEqDiff, reduceIte, Nat.reduceAdd, Nat.reduceMul, Nat.reduceSub, Nat.reduceLT, Nat.reduceLeDiff, Nat.reduceBEq, g1, w1, hx, c3]; first | done | rfl) rfl (by simp only [go_sem, Nat.reduceLT]) rfl rfl ?_; simp only [go_sem, Nat.reduceEqDiff, reduceIte, Nat.reduceAdd, Nat.reduceMul, Nat.reduceSub, Nat.reduceLT, Nat.reduceLeDiff, Nat.reduceBEq, g1, w1, hx, c3]))
        refine ⟨⟨i + 1, hlt⟩, [0, 1], ?_, rwL (by repeat (first | exact trivial | refine ⟨rfl, rfl, ?_⟩)) (by rfl) (by simp only [go_sem, Nat.reduceEqDiff, reduceIte, Nat.reduceAdd, Nat.reduceMul, Nat.reduceSub, Nat.reduceLT, Nat.reduceLeDiff, Nat.reduceBEq, e2]; first | done | rfl) (by decide) (by intro m hm; first | omega | (rcases m with _ | _ | _ | _ | m <;> first | exact ⟨by decide, rfl⟩ | omega))⟩
        show ds.length - (i + 1) < ds.length - i; omega
      · cases c4 : decide (d.kind = 2)
        · have e2 : pastTo s ds (i + 1) = (x, out ++ [⟨d.key, d.num, false, x.time⟩]) := by rw [e1]; unfold pastStep entOf; simp only [hm]; rw [if_pos (of_decide_eq_true c3), if_neg (of_decide_eq_false c4)]
          repeat (first | apply Aw_seq | apply Aw_block | apply Aw_skip | apply Aw_exit | refine Aw_condt rfl ?_ | refine Aw_condf rfl ?_ | (refine qr ?_; simp only [go_sem, Nat.reduceEqDiff, reduceIte, Nat.reduceAdd, Nat.reduceMul, Nat.reduceSub, Nat.reduceLT, Nat.reduceLeDiff, Nat.reduceBEq, g1, w1, hx, c3, c4, hap]) | (refine qd (by kernel_rfl) (by kernel_rfl) ?_; simp only [go_sem, Nat.reduceEqDiff, reduceIte, Nat.reduceAdd, Nat.reduceMul, Nat.reduceSub, Nat.reduceLT, Nat.reduceLeDiff, Nat.reduceBEq, g1, w1, hx, c3, c4, hap]) | refine dk (by kernel_rfl) ?_ | (refine qp (k2) (by simp only [go_sem, Nat.reduceEqDiff, reduceIte, Nat.reduceAdd, Nat.reduceMul, Nat.reduceSub, Nat.reduceLT, Nat.reduceLeDiff, Nat.reduceBEq, g1, w1, hx, c3, c4, hap]; first | done | rfl) rfl (by simp only [go_sem, Nat.reduceLT]) rfl rfl ?_; simp only [go_sem, Nat.reduceEqDiff, reduceIte, Nat.reduceAdd, Nat.reduceMul, Nat.reduceSub, Nat.reduceLT, Nat.reduceLeDiff, Nat.reduceBEq, g1, w1, hx, c3, c4, hap]))
          refine ⟨⟨i + 1, hlt⟩, [0, 48], ?_, rwL (by repeat (first | exact trivial | refine ⟨rfl, rfl, ?_⟩)) (by rfl) (by simp only [go_sem, Nat.reduceEqDiff, reduceIte, Nat.reduceAdd, Nat.reduceMul, Nat.reduceSub, Nat.reduceLT, Nat.reduceLeDiff, Nat.reduceBEq, e2, List.map_append, List.map_cons, List.map_nil]; first | done | rfl) (by decide) (by intro m hm; first | omega | (rcases m with _ | _ | _ | _ | m <;> first | exact ⟨by decide, rfl⟩ | omega))⟩
          show ds.length - (i + 1) < ds.length - i; omega
        · have e2 : pastTo s ds (i + 1) = (x, out ++ [⟨d.key, 0, true, x.time⟩]) := by rw [e1]; unfold pastStep entOf; simp only [hm]; rw [if_pos (of_decide_eq_true c3), if_pos (of_decide_eq_true c4)]
          repeat (first | apply Aw_seq | apply Aw_block | apply Aw_skip | apply Aw_exit | refine Aw_condt rfl ?_ | refine Aw_condf rfl ?_ | (refine qr ?_; simp only [go_sem, Nat.reduceEqDiff, reduceIte, Nat.reduceAdd, Nat.reduceMul, Nat.reduceSub, Nat.reduceLT, Nat.reduceLeDiff, Nat.reduceBEq, g1, w1, hx, c3, c4, hap]) | (refine qd (by kernel_rfl) (by kernel_rfl) ?_; simp only [go_sem, Nat.reduceEqDiff, reduceIte, Nat.reduceAdd, Nat.reduceMul, Nat.reduceSub, Nat.reduceLT, Nat.reduceLeDiff, Nat.reduceBEq, g1, w1, hx, c3, c4, hap]) | refine dk (by kernel_rfl) ?_ | (refine qp (k2) (by simp only [go_sem, Nat.reduceEqDiff, reduceIte, Nat.reduceAdd, Nat.reduceMul, Nat.reduceSub, Nat.reduceLT, Nat.reduceLeDiff, Nat.reduceBEq, g1, w1, hx, c3, c4, hap]; first | done | rfl) rfl (by simp only [go_sem, Nat.reduceLT]) rfl rfl ?_; simp only [go_sem, Nat.reduceEqDiff, reduceIte, Nat.reduceAdd, Nat.reduceMul, Nat.reduceSub, Nat.reduceLT, Nat.reduceLeDiff, Nat.reduceBEq, g1, w1, hx, c3, c4, hap]))
          refine ⟨⟨i + 1, hlt⟩, [0, 57], ?_, rwL (by repeat (first | exact trivial | refine ⟨rfl, rfl, ?_⟩)) (by rfl) (by simp only [go_sem, Nat.reduceEqDiff, reduceIte, Nat.reduceAdd, Nat.reduceMul, Nat.reduceSub, Nat.reduceLT, Nat.reduceLeDiff, Nat.reduceBEq, e2, List.map_append, List.map_cons, List.map_nil]; first | done | rfl) (by decide) (by intro m hm; first | omega | (rcases m with _ | _ | _ | _ | m <;> first | exact ⟨by decide, rfl⟩ | omega))⟩
          show ds.length - (i + 1) < ds.length - i; omega
  · have g1 : ¬ (i : Int) < (ds.length : Int) := by omega
    obtain rfl : i = ds.length := by omega
    repeat (first | apply Aw_seq | apply Aw_block | apply Aw_skip | apply Aw_exit | refine Aw_condt rfl ?_ | refine Aw_condf rfl ?_ | (refine qr ?_; simp only [go_sem, Nat.reduceEqDiff, reduceIte, Nat.reduceAdd, Nat.reduceMul, Nat.reduceSub, Nat.reduceLT, Nat.reduceLeDiff, Nat.reduceBEq, g1]) | (refine qd (by kernel_rfl) (by kernel_rfl) ?_; simp only [go_sem, Nat.reduceEqDiff, reduceIte, Nat.reduceAdd, Nat.reduceMul, Nat.reduceSub, Nat.reduceLT, Nat.reduceLeDiff, Nat.reduceBEq, g1]) | refine dk (by kernel_rfl) ?_)
    exact Aw_ret (retL (M := [1]) (.inl rfl) (by simp only [go_sem, Nat.reduceEqDiff, reduceIte, Nat.reduceAdd, Nat.reduceMul, Nat.reduceSub, Nat.reduceLT, Nat.reduceLeDiff, Nat.reduceBEq]; first | done | rfl) rfl rfl (by rfl) (by simp only [go_sem, Nat.reduceEqDiff, reduceIte, Nat.reduceAdd, Nat.reduceMul, Nat.reduceSub, Nat.reduceLT, Nat.reduceLeDiff, Nat.reduceBEq]; first | done | rfl | (and_intros <;> rfl)) (by decide) (by intro m hm; first | omega | (rcases m with _ | _ | _ | _ | m <;> first | exact ⟨by decide, rfl⟩ | omega)))
theorem pastAllS_ac (s : Sto) (ds : List Deed) (hs : SmSt s) (hd : SmD ds) (hl : ds.length ≤ 1099511627776) : AC Try.prog 122 [stT s, deedsT ds] noHp 0 ⟨.t (runT (pastM s ds)), noHp, 0⟩ := AC.settle0 [0] (pastAll_ac s ds hs hd hl) (SetC.row0 rfl rfl) rfl
end Go.Proofs.Ytcbhgglpgphimaa.Ab
namespace Go.Proofs.Ytcbhgglpgphimaa.Ab
set_option linter.deprecated false
set_option linter.unusedVariables false
set_option linter.unusedSimpArgs false
open Go Go.Proofs
set_option maxRecDepth 10000
set_option maxHeartbeats 8000000
set_option linter.unusedSimpArgs false
set_option linter.unusedVariables false
def u8D (n : Int) : List D := [.s (.int .u8 n)]
@[go_sem] theorem r_u8D (n : Int) : u8D n = [.s (.int .u8 n)] := rfl
abbrev bytesT (b : List Int) : TV := .c (.d (.rs 1 (b.map u8D)))
def rdO (b : List Int) (p : Nat) : Obj := ⟨136, 2, false, [[.d (.rs 1 (b.map u8D)), .d (.s (.int .i64 p))]]⟩
@[go_sem] theorem r_rdO (b : List Int) (p : Nat) : rdO b p = ⟨136, 2, false, [[.d (.rs 1 (b.map u8D)), .d (.s (.int .i64 p))]]⟩ := rfl
def byteL (b : List Int) : Prop := b.length ≤ 2000 ∧ ∀ c ∈ b, 0 ≤ c ∧ c ≤ 255
theorem l6Open_ac (b : List Int) (hl : b.length ≤ 1099511627776) : AC Try.prog 73 [bytesT b] noHp 0 ⟨.t (.c (.ph 0 0 0)), hpL [some (rdO (b.take 2000) 0)], 1⟩ := by
  refine AC_of Try.func73 rfl Try.ntmps73 Try.results73 (by kernel_rfl) rfl ?_
  simp only [List.zipIdx, List.map, Nat.zero_add, Nat.reduceAdd]
  by_cases h : b.length ≤ 2000
  · have g1 : decide ((2000 : Int) < (b.length : Int)) = false := decide_eq_false (by omega)
    rw [List.take_of_length_le h]
    repeat (first | apply Aw_seq | apply Aw_block | apply Aw_skip | apply Aw_exit | refine Aw_condt rfl ?_ | refine Aw_condf rfl ?_ | (refine qr ?_; simp only [go_sem, Nat.reduceEqDiff, reduceIte, Nat.reduceAdd, Nat.reduceMul, Nat.reduceSub, Nat.reduceLT, Nat.reduceLeDiff, Nat.reduceBEq, g1]) | (refine qd (by kernel_rfl) (by kernel_rfl) ?_; simp only [go_sem, Nat.reduceEqDiff, reduceIte, Nat.reduceAdd, Nat.reduceMul, Nat.reduceSub, Nat.reduceLT, Nat.reduceLeDiff, Nat.reduceBEq, g1]) | refine dk (by kernel_rfl) ?_)
    exact Aw_ret (retL (M := [6]) (.inl rfl) (by simp only [go_sem, Nat.reduceEqDiff, reduceIte, Nat.reduceAdd, Nat.reduceMul, Nat.reduceSub, Nat.reduceLT, Nat.reduceLeDiff, Nat.reduceBEq]; first | done | rfl) rfl rfl (by rfl) (by simp only [go_sem, Nat.reduceEqDiff, reduceIte, Nat.reduceAdd, Nat.reduceMul, Nat.reduceSub, Nat.reduceLT, Nat.reduceLeDiff, Nat.reduceBEq]; first | done | rfl | (and_intros <;> rfl)) (by decide) (by intro m hm; first | omega | (rcases m with _ | _ | _ | _ | m <;> first | exact ⟨by decide, rfl⟩ | omega)))
  · have g1 : decide ((2000 : Int) < (b.length : Int)) = true := decide_eq_true (by omega)
    have g2 : ((2000 : Int) ≤ (b.length : Int)) = True := eq_true (by omega)
    have g3 : ((0 : Int) ≤ 2000) = True := eq_true (by omega)
    have g4 : Int.toNat 2000 = 2000 := rfl
    have g5 : (List.map u8D b).take 2000 = List.map u8D (b.take 2000) := by rw [List.map_take]
    repeat (first | apply Aw_seq | apply Aw_block | apply Aw_skip | apply Aw_exit | refine Aw_condt rfl ?_ | refine Aw_condf rfl ?_ | (refine qr ?_; simp only [go_sem, Nat.reduceEqDiff, reduceIte, Nat.reduceAdd, Nat.reduceMul, Nat.reduceSub, Nat.reduceLT, Nat.reduceLeDiff, Nat.reduceBEq, g1, g2, g3, g4, g5]) | (refine qd (by kernel_rfl) (by kernel_rfl) ?_; simp only [go_sem, Nat.reduceEqDiff, reduceIte, Nat.reduceAdd, Nat.reduceMul, Nat.reduceSub, Nat.reduceLT, Nat.reduceLeDiff, Nat.reduceBEq, g1, g2, g3, g4, g5]) | refine dk (by kernel_rfl) ?_)
    exact Aw_ret (retL (M := [9]) (.inl rfl) (by simp only [go_sem, Nat.reduceEqDiff, reduceIte, Nat.reduceAdd, Nat.reduceMul, Nat.reduceSub, Nat.reduceLT, Nat.reduceLeDiff, Nat.reduceBEq]; first | done | rfl) rfl rfl (by rfl) (by simp only [go_sem, Nat.reduceEqDiff, reduceIte, Nat.reduceAdd, Nat.reduceMul, Nat.reduceSub, Nat.reduceLT, Nat.reduceLeDiff, Nat.reduceBEq]; first | done | rfl | (and_intros <;> rfl)) (by decide) (by intro m hm; first | omega | (rcases m with _ | _ | _ | _ | m <;> first | exact ⟨by decide, rfl⟩ | omega)))
theorem wn {x : Int} {m : Nat} (e : x = (m : Int)) (h : m ≤ 1099511627776) : IntKind.i64.wrap x = (m : Int) := by rw [e]; exact wrap_nat h
theorem xorN (X Y : Nat) (hX : X ≤ 1099511627776) (hY : Y ≤ 1099511627776) : ∃ v : Nat, IntKind.i64.wrap (((BitVec.ofInt IntKind.i64.bits (X : Int) ^^^ BitVec.ofInt IntKind.i64.bits (Y : Int)).toNat : Nat) : Int) = v := by
  have e62 : (2 : Nat) ^ 62 = 4611686018427387904 := by decide
  have e64 : (2 : Nat) ^ 64 = 18446744073709551616 := by decide
  have hx := Nat.xor_lt_two_pow (n := 62) (show X < 2 ^ 62 by omega) (show Y < 2 ^ 62 by omega)
  have hb : ∀ q : Nat, q < 2 ^ 62 → (BitVec.ofInt IntKind.i64.bits (q : Int)).toNat = q := fun q hq => by
    show (BitVec.ofInt 64 (q : Int)).toNat = q
    rw [BitVec.ofInt_natCast, BitVec.toNat_ofNat]; exact Nat.mod_eq_of_lt (by omega)
  refine ⟨X ^^^ Y, ?_⟩
  rw [BitVec.toNat_xor, hb X (by omega), hb Y (by omega)]
  simp only [IntKind.wrap, IntKind.bits, IntKind.signed]
  simp
  omega
theorem byte_at {b : List Int} (hb : byteL b) {i : Nat} (h : i < b.length) : ∃ n : Nat, n ≤ 255 ∧ b[i]? = some (n : Int) := by
  have := hb.2 b[i] (List.getElem_mem h)
  exact ⟨b[i].toNat, by omega, by rw [List.getElem?_eq_getElem h]; congr 1; omega⟩
theorem pick_ac (b : List Int) (p : Nat) (n : Int) (hb : byteL b) (hp : p ≤ 1000000) (hn : n ≤ 1099511627776) : ∃ v : Nat, (1 ≤ n → (v : Int) < n) ∧ (¬ 1 ≤ n → v = 0) ∧ AC Try.prog 76 [.c (.ph 0 0 0), iT n] (hpL [some (rdO b p)]) 1 ⟨.t (iT v), hpL [some (rdO b (p + 1))], 1⟩ := by
  have w1 : IntKind.i64.wrap ((p : Int) + 1) = ((p + 1 : Nat) : Int) := wn (by omega) (by omega)
  have w2 : IntKind.i64.wrap (((p + 1 : Nat) : Int) - 1) = (p : Int) := wn (by omega) (by omega)
  have z0 : ((0 : Nat) : Int) = 0 := rfl
  by_cases c1 : 1 ≤ n
  case neg =>
    refine ⟨0, fun h => absurd h c1, fun _ => rfl, ?_⟩
    have g1 : decide (n < 1) = true := decide_eq_true (by omega)
    refine AC_of Try.func76 rfl Try.ntmps76 Try.results76 (by kernel_rfl) rfl ?_
    simp only [List.zipIdx, List.map, Nat.zero_add, Nat.reduceAdd]
    repeat (first | apply Aw_seq | apply Aw_block | apply Aw_skip | apply Aw_exit | refine Aw_condt rfl ?_ | refine Aw_condf rfl ?_ | (refine qr ?_; simp only [go_sem, Nat.reduceEqDiff, reduceIte, Nat.reduceAdd, Nat.reduceMul, Nat.reduceSub, Nat.reduceLT, Nat.reduceLeDiff, Nat.reduceBEq, w1, g1]) | (refine qd (by kernel_rfl) (by kernel_rfl) ?_; simp only [go_sem, Nat.reduceEqDiff, reduceIte, Nat.reduceAdd, Nat.reduceMul, Nat.reduceSub, Nat.reduceLT, Nat.reduceLeDiff, Nat.reduceBEq, w1, g1]) | refine dk (by kernel_rfl) ?_)
    exact Aw_ret (retL (M := [0]) (.inl rfl) (by simp only [go_sem, Nat.reduceEqDiff, reduceIte, Nat.reduceAdd, Nat.reduceMul, Nat.reduceSub, Nat.reduceLT, Nat.reduceLeDiff, Nat.reduceBEq]; first | done | rfl) rfl rfl (by rfl) (by simp only [go_sem, Nat.reduceEqDiff, reduceIte, Nat.reduceAdd, Nat.reduceMul, Nat.reduceSub, Nat.reduceLT, Nat.reduceLeDiff, Nat.reduceBEq]; first | done | rfl | (and_intros <;> rfl)) (by decide) (by intro m hm; first | omega | (rcases m with _ | _ | _ | _ | m <;> first | exact ⟨by decide, rfl⟩ | omega)))
  have g1 : decide (n < 1) = false := decide_eq_false (by omega)
  have gn : (n = 0) = False := eq_false (by omega)
  by_cases c2 : b.length = 0
  · refine ⟨0, fun _ => by omega, fun h => absurd c1 h, ?_⟩
    have g2 : decide (((b.length : Nat) : Int) = 0) = true := decide_eq_true (by omega)
    refine AC_of Try.func76 rfl Try.ntmps76 Try.results76 (by kernel_rfl) rfl ?_
    simp only [List.zipIdx, List.map, Nat.zero_add, Nat.reduceAdd]
    repeat (first | apply Aw_seq | apply Aw_block | apply Aw_skip | apply Aw_exit | refine Aw_condt rfl ?_ | refine Aw_condf rfl ?_ | (refine qr ?_; simp only [go_sem, Nat.reduceEqDiff, reduceIte, Nat.reduceAdd, Nat.reduceMul, Nat.reduceSub, Nat.reduceLT, Nat.reduceLeDiff, Nat.reduceBEq, w1, g1, g2]) | (refine qd (by kernel_rfl) (by kernel_rfl) ?_; simp only [go_sem, Nat.reduceEqDiff, reduceIte, Nat.reduceAdd, Nat.reduceMul, Nat.reduceSub, Nat.reduceLT, Nat.reduceLeDiff, Nat.reduceBEq, w1, g1, g2]) | refine dk (by kernel_rfl) ?_)
    exact Aw_ret (retL (M := [0]) (.inl rfl) (by simp only [go_sem, Nat.reduceEqDiff, reduceIte, Nat.reduceAdd, Nat.reduceMul, Nat.reduceSub, Nat.reduceLT, Nat.reduceLeDiff, Nat.reduceBEq]; first | done | rfl) rfl rfl (by rfl) (by simp only [go_sem, Nat.reduceEqDiff, reduceIte, Nat.reduceAdd, Nat.reduceMul, Nat.reduceSub, Nat.reduceLT, Nat.reduceLeDiff, Nat.reduceBEq]; first | done | rfl | (and_intros <;> rfl)) (by decide) (by intro m hm; first | omega | (rcases m with _ | _ | _ | _ | m <;> first | exact ⟨by decide, rfl⟩ | omega)))
  have g2 : decide (((b.length : Nat) : Int) = 0) = false := decide_eq_false (by omega)
  have gl : (((b.length : Nat) : Int) = 0) = False := eq_false (by omega)
  have hL := hb.1
  have tm : ∀ x : Nat, ∃ v : Nat, (x : Int).tmod n = v ∧ (v : Int) < n := fun x => by
    have h1 := Int.tmod_nonneg n (show (0 : Int) ≤ (x : Int) by omega)
    have h2 := Int.tmod_lt_of_pos (x : Int) (show (0 : Int) < n by omega)
    exact ⟨((x : Int).tmod n).toNat, by omega, by omega⟩
  by_cases c3 : p < b.length
  · obtain ⟨x, hx1, hx⟩ := byte_at hb c3
    obtain ⟨v, hv, hv2⟩ := tm x
    refine ⟨v, fun _ => hv2, fun h => absurd c1 h, ?_⟩
    have g3 : decide ((p : Int) < ((b.length : Nat) : Int)) = true := decide_eq_true (by omega)
    have wx : IntKind.i64.wrap (x : Int) = x := wrap_nat (by omega)
    refine AC_of Try.func76 rfl Try.ntmps76 Try.results76 (by kernel_rfl) rfl ?_
    simp only [List.zipIdx, List.map, Nat.zero_add, Nat.reduceAdd]
    repeat (first | apply Aw_seq | apply Aw_block | apply Aw_skip | apply Aw_exit | refine Aw_condt rfl ?_ | refine Aw_condf rfl ?_ | (refine qr ?_; simp only [go_sem, Nat.reduceEqDiff, reduceIte, Nat.reduceAdd, Nat.reduceMul, Nat.reduceSub, Nat.reduceLT, Nat.reduceLeDiff, Nat.reduceBEq, w1, w2, g1, g2, g3, hx, wx, gn, hv]) | (refine qd (by kernel_rfl) (by kernel_rfl) ?_; simp only [go_sem, Nat.reduceEqDiff, reduceIte, Nat.reduceAdd, Nat.reduceMul, Nat.reduceSub, Nat.reduceLT, Nat.reduceLeDiff, Nat.reduceBEq, w1, w2, g1, g2, g3, hx, wx, gn, hv]) | refine dk (by kernel_rfl) ?_)
    exact Aw_ret (retL (M := [0]) (.inl rfl) (by simp only [go_sem, Nat.reduceEqDiff, reduceIte, Nat.reduceAdd, Nat.reduceMul, Nat.reduceSub, Nat.reduceLT, Nat.reduceLeDiff, Nat.reduceBEq]; first | done | rfl) rfl rfl (by rfl) (by simp only [go_sem, Nat.reduceEqDiff, reduceIte, Nat.reduceAdd, Nat.reduceMul, Nat.reduceSub, Nat.reduceLT, Nat.reduceLeDiff, Nat.reduceBEq]; first | done | rfl | (and_intros <;> rfl)) (by decide) (by intro m hm; first | omega | (rcases m with _ | _ | _ | _ | m <;> first | exact ⟨by decide, rfl⟩ | omega)))
  · have g3 : decide ((p : Int) < ((b.length : Nat) : Int)) = false := decide_eq_false (by omega)
    have hi1 : p % b.length < b.length := Nat.mod_lt _ (by omega)
    have hi2 : (p * 7 + 3) % b.length < b.length := Nat.mod_lt _ (by omega)
    obtain ⟨x1, b1, hx1⟩ := byte_at hb hi1
    obtain ⟨x2, b2, hx2⟩ := byte_at hb hi2
    have hq : p / b.length ≤ p := Nat.div_le_self _ _
    have t1 : (p : Int).tmod ((b.length : Nat) : Int) = ((p % b.length : Nat) : Int) := rfl
    have e7 : IntKind.i64.wrap ((p : Int) * 7) = ((p * 7 : Nat) : Int) := wn (by omega) (by omega)
    have e73 : IntKind.i64.wrap (((p * 7 : Nat) : Int) + 3) = ((p * 7 + 3 : Nat) : Int) := wn (by omega) (by omega)
    have t2 : ((p * 7 + 3 : Nat) : Int).tmod ((b.length : Nat) : Int) = (((p * 7 + 3) % b.length : Nat) : Int) := rfl
    have t3 : (p : Int).tdiv ((b.length : Nat) : Int) = ((p / b.length : Nat) : Int) := rfl
    obtain ⟨q, hqe⟩ : ∃ q, q = p / b.length := ⟨_, rfl⟩
    rw [← hqe] at t3 hq
    have wq : IntKind.i64.wrap (q : Int) = q := wrap_nat (by omega)
    have wx1 : IntKind.i64.wrap (x1 : Int) = x1 := wrap_nat (by omega)
    have wx2 : IntKind.i64.wrap (x2 : Int) = x2 := wrap_nat (by omega)
    have m1 : IntKind.i64.wrap ((x1 : Int) * 131) = ((x1 * 131 : Nat) : Int) := wn (by omega) (by omega)
    have m2 : IntKind.i64.wrap ((x2 : Int) * 1117) = ((x2 * 1117 : Nat) : Int) := wn (by omega) (by omega)
    have m3 : IntKind.i64.wrap (((x1 * 131 : Nat) : Int) + ((x2 * 1117 : Nat) : Int)) = ((x1 * 131 + x2 * 1117 : Nat) : Int) := wn (by omega) (by omega)
    have m4 : IntKind.i64.wrap ((p : Int) * 29) = ((p * 29 : Nat) : Int) := wn (by omega) (by omega)
    have m5 : IntKind.i64.wrap (((x1 * 131 + x2 * 1117 : Nat) : Int) + ((p * 29 : Nat) : Int)) = ((x1 * 131 + x2 * 1117 + p * 29 : Nat) : Int) := wn (by omega) (by omega)
    have m6 : IntKind.i64.wrap ((q : Int) * 53) = ((q * 53 : Nat) : Int) := wn (by omega) (by omega)
    obtain ⟨X, hX⟩ : ∃ X, X = x1 * 131 + x2 * 1117 + p * 29 + q * 53 := ⟨_, rfl⟩
    have m7 : IntKind.i64.wrap (((x1 * 131 + x2 * 1117 + p * 29 : Nat) : Int) + ((q * 53 : Nat) : Int)) = (X : Int) := wn (by omega) (by omega)
    have t4 : (X : Int).tdiv 64 = ((X / 64 : Nat) : Int) := rfl
    have m8 : IntKind.i64.wrap ((X / 64 : Nat) : Int) = ((X / 64 : Nat) : Int) := wrap_nat (by omega)
    have s0 : ((64 : Int) = 0) = False := eq_false (by decide)
    obtain ⟨u, hu⟩ := xorN X (X / 64) (by omega) (by omega)
    obtain ⟨v, hv, hv2⟩ := tm u
    refine ⟨v, fun _ => hv2, fun h => absurd c1 h, ?_⟩
    refine AC_of Try.func76 rfl Try.ntmps76 Try.results76 (by kernel_rfl) rfl ?_
    simp only [List.zipIdx, List.map, Nat.zero_add, Nat.reduceAdd]
    repeat (first | apply Aw_seq | apply Aw_block | apply Aw_skip | apply Aw_exit | refine Aw_condt rfl ?_ | refine Aw_condf rfl ?_ | (refine qr ?_; simp only [go_sem, Nat.reduceEqDiff, reduceIte, Nat.reduceAdd, Nat.reduceMul, Nat.reduceSub, Nat.reduceLT, Nat.reduceLeDiff, Nat.reduceBEq, w1, w2, g1, g2, gl, g3, t1, hx1, wx1, m1, e7, e73, t2, hx2, wx2, m2, m3, m4, m5, t3, wq, m6, m7, t4, m8, s0, gn]) | (refine qd (by kernel_rfl) (by kernel_rfl) ?_; simp only [go_sem, Nat.reduceEqDiff, reduceIte, Nat.reduceAdd, Nat.reduceMul, Nat.reduceSub, Nat.reduceLT, Nat.reduceLeDiff, Nat.reduceBEq, w1, w2, g1, g2, gl, g3, t1, hx1, wx1, m1, e7, e73, t2, hx2, wx2, m2, m3, m4, m5, t3, wq, m6, m7, t4, m8, s0, gn]) | refine dk (by kernel_rfl) ?_)
    generalize hg : IntKind.i64.wrap ((BitVec.toNat _ : Nat) : Int) = w
    obtain rfl : w = (u : Int) := hg.symm.trans hu
    rw [hv]
    exact Aw_ret (retL (M := [0]) (.inl rfl) (by simp only [go_sem, Nat.reduceEqDiff, reduceIte, Nat.reduceAdd, Nat.reduceMul, Nat.reduceSub, Nat.reduceLT, Nat.reduceLeDiff, Nat.reduceBEq]; first | done | rfl) rfl rfl (by rfl) (by simp only [go_sem, Nat.reduceEqDiff, reduceIte, Nat.reduceAdd, Nat.reduceMul, Nat.reduceSub, Nat.reduceLT, Nat.reduceLeDiff, Nat.reduceBEq]; first | done | rfl | (and_intros <;> rfl)) (by decide) (by intro m hm; first | omega | (rcases m with _ | _ | _ | _ | m <;> first | exact ⟨by decide, rfl⟩ | omega)))
end Go.Proofs.Ytcbhgglpgphimaa.Ab
namespace Go.Proofs.Ytcbhgglpgphimaa.Ab
set_option linter.deprecated false
set_option linter.unusedVariables false
set_option linter.unusedSimpArgs false
open Go Go.Proofs
set_option maxRecDepth 10000
set_option maxHeartbeats 8000000
set_option linter.unusedSimpArgs false
set_option linter.unusedVariables false
def putL (k : ByteArray) : List ByteArray → Bool → List ByteArray → Option (List ByteArray)
  | [], done, out => some (if done = true then out else out ++ [k])
  | x :: r, done, out => if x = k then none else putL k r (done || !klt x k) ((if (!done && !klt x k) = true then out ++ [k] else out) ++ [x])
def putK (ks : List ByteArray) (k : ByteArray) : List ByteArray := (putL k ks false []).getD ks
theorem putL_mem {k : ByteArray} : ∀ {xs : List ByteArray} {d : Bool} {out o : List ByteArray}, putL k xs d out = some o → (∀ y ∈ o, y ∈ out ∨ y ∈ xs ∨ y = k) ∧ o.length ≤ out.length + xs.length + (if d = true then 0 else 1)
  | [], d, out, o, h => by
    simp only [putL, Option.some.injEq] at h
    subst h
    cases d
    · exact ⟨fun y hy => by simp at hy; rcases hy with h | h; exact .inl h; exact .inr (.inr h), by simp⟩
    · exact ⟨fun y hy => .inl (by simpa using hy), by simp⟩
  | x :: r, d, out, o, h => by
    simp only [putL] at h
    split at h
    · cases h
    · obtain ⟨h1, h2⟩ := putL_mem h
      constructor
      · intro y hy
        rcases h1 y hy with h | h | h
        · rcases List.mem_append.1 h with h | h
          · split at h
            · rcases List.mem_append.1 h with h | h
              · exact .inl h
              · exact .inr (.inr (by simpa using h))
            · exact .inl h
          · exact .inr (.inl (by simp at h; simp [h]))
        · exact .inr (.inl (by simp [h]))
        · exact .inr (.inr h)
      · refine Nat.le_trans h2 ?_
        cases d <;> cases klt x k <;> simp <;> omega
@[go_sem] theorem d_ft2 (e k : Nat) (a : List (List D)) (x y : D) : (⟨e, k, true, List.map (fun x => List.map CV.d x) a ++ [[.d x], [.d y]]⟩ : Obj) = dRow e k (a ++ [[x], [y]]) := by simp [dRow]
theorem lenA {α : Type} {out : List α} {i : Nat} {k x : α} (h : out.length ≤ i + (if false = true then 1 else 0)) : (out ++ [k] ++ [x]).length ≤ i + 1 + (if true = true then 1 else 0) := by simp at h ⊢; omega
theorem lenB {α : Type} {out : List α} {i : Nat} {b : Bool} {x : α} (h : out.length ≤ i + (if b = true then 1 else 0)) : (out ++ [x]).length ≤ i + 1 + (if b = true then 1 else 0) := by cases b <;> simp at h ⊢ <;> omega
theorem lenC {α : Type} {out : List α} {i n : Nat} {b : Bool} (h : out.length ≤ i + (if b = true then 1 else 0)) (hi : i ≤ n) (hn : n ≤ 100000) : (out.length + 1) * 16 ≤ 140737488355328 ∧ (out.length + 1 + 1) * 16 ≤ 140737488355328 := by cases b <;> simp at h <;> omega
structure PuI (ks : List ByteArray) (k : ByteArray) where
  i : Nat
  d : Bool
  out : List ByteArray
  hi : i ≤ ks.length
  hl : out.length ≤ i + (if d = true then 1 else 0)
  h : putL k (ks.drop i) d out = putL k ks false []
theorem l2Put_no (ks : List ByteArray) (k : ByteArray) (hl : ks.length ≤ 100000) (h0 : putL k ks false [] = none) : AC Try.prog 79 [strsT ks, sT k] noHp 0 ⟨.t (strsT ks), noHp, 0⟩ := by
  refine AC_of Try.func79 rfl Try.ntmps79 Try.results79 (by kernel_rfl) rfl ?_
  simp only [List.zipIdx, List.map, Nat.zero_add, Nat.reduceAdd]
  repeat (first | apply Aw_seq | apply Aw_block | apply Aw_skip | apply Aw_exit | refine Aw_condt rfl ?_ | refine Aw_condf rfl ?_ | (refine qr ?_; simp only [go_sem, Nat.reduceEqDiff, reduceIte, Nat.reduceAdd, Nat.reduceMul, Nat.reduceSub, Nat.reduceLT, Nat.reduceLeDiff, Nat.reduceBEq]) | (refine qd (by kernel_rfl) (by kernel_rfl) ?_; simp only [go_sem, Nat.reduceEqDiff, reduceIte, Nat.reduceAdd, Nat.reduceMul, Nat.reduceSub, Nat.reduceLT, Nat.reduceLeDiff, Nat.reduceBEq]) | refine dk (by kernel_rfl) ?_)
  refine Aw.rw (rwL (l' := [(7, .t (iT (0 : Nat))), (6, .t (bT false)), (5, .t (.c (.h 0))), (1, .t (sT k)), (0, .t (strsT ks))]) (os := [some (kRow [])]) (M := [1]) (n' := 1) (by repeat (first | exact trivial | refine ⟨rfl, rfl, ?_⟩)) (by rfl) (by simp only [go_sem, Nat.reduceEqDiff, reduceIte, Nat.reduceAdd, Nat.reduceMul, Nat.reduceSub, Nat.reduceLT, Nat.reduceLeDiff, Nat.reduceBEq, List.map_nil]; first | done | rfl) (by decide) (by intro m hm; first | omega | (rcases m with _ | _ | _ | _ | m <;> first | exact ⟨by decide, rfl⟩ | omega))) ?_
  refine Aw_loop_rw (ι := PuI ks k) (fun q => S [(7, .t (iT (q.i : Nat))), (6, .t (bT q.d)), (5, .t (.c (.h 0))), (1, .t (sT k)), (0, .t (strsT ks))] (hpL [some (kRow q.out)]) 1) (fun q => ks.length - q.i) ⟨0, false, [], Nat.zero_le _, by simp, rfl⟩ ?_
  rintro ⟨i, d, out, hi, hlo, h⟩
  dsimp only
  by_cases hlt : i < ks.length
  · have g1 : (i : Int) < (ks.length : Int) := by omega
    have w1 := wrap_succ hlt (by omega)
    obtain ⟨x, hx⟩ : ∃ e, ks[i]? = some e := ⟨_, List.getElem?_eq_getElem hlt⟩
    have hd : ks.drop i = x :: ks.drop (i + 1) := by rw [List.drop_eq_getElem_cons hlt]; congr 1; rw [List.getElem?_eq_getElem hlt] at hx; exact Option.some.inj hx
    obtain ⟨q1, q2⟩ := lenC hlo hi hl
    rw [hd] at h
    cases c1 : decide (x = k)
    · have hne := of_decide_eq_false c1
      simp only [putL, if_neg hne] at h
      cases d
      · cases c2 : klt x k
        · have h' : putL k (ks.drop (i + 1)) true (out ++ [k] ++ [x]) = putL k ks false [] := by rw [← h, c2]; rfl
          repeat (first | apply Aw_seq | apply Aw_block | apply Aw_skip | apply Aw_exit | refine Aw_condt rfl ?_ | refine Aw_condf rfl ?_ | (refine qr ?_; simp only [go_sem, Nat.reduceEqDiff, reduceIte, Nat.reduceAdd, Nat.reduceMul, Nat.reduceSub, Nat.reduceLT, Nat.reduceLeDiff, Nat.reduceBEq, g1, w1, hx, c1, c2, q1, q2]) | (refine qd (by kernel_rfl) (by kernel_rfl) ?_; simp only [go_sem, Nat.reduceEqDiff, reduceIte, Nat.reduceAdd, Nat.reduceMul, Nat.reduceSub, Nat.reduceLT, Nat.reduceLeDiff, Nat.reduceBEq, g1, w1, hx, c1, c2, q1, q2]) | refine dk (by kernel_rfl) ?_)
          refine ⟨⟨i + 1, true, out ++ [k] ++ [x], hlt, lenA hlo, h'⟩, [33], ?_, rwL (by repeat (first | exact trivial | refine ⟨rfl, rfl, ?_⟩)) (by rfl) (by simp only [go_sem, Nat.reduceEqDiff, reduceIte, Nat.reduceAdd, Nat.reduceMul, Nat.reduceSub, Nat.reduceLT, Nat.reduceLeDiff, Nat.reduceBEq, List.map_append, List.map_cons, List.map_nil, List.append_assoc]; first | done | rfl) (by decide) (by intro m hm; first | omega | (rcases m with _ | _ | _ | _ | m <;> first | exact ⟨by decide, rfl⟩ | omega))⟩
          show ks.length - (i + 1) < ks.length - i; omega
        · have h' : putL k (ks.drop (i + 1)) false (out ++ [x]) = putL k ks false [] := by rw [← h, c2]; rfl
          repeat (first | apply Aw_seq | apply Aw_block | apply Aw_skip | apply Aw_exit | refine Aw_condt rfl ?_ | refine Aw_condf rfl ?_ | (refine qr ?_; simp only [go_sem, Nat.reduceEqDiff, reduceIte, Nat.reduceAdd, Nat.reduceMul, Nat.reduceSub, Nat.reduceLT, Nat.reduceLeDiff, Nat.reduceBEq, g1, w1, hx, c1, c2, q1]) | (refine qd (by kernel_rfl) (by kernel_rfl) ?_; simp only [go_sem, Nat.reduceEqDiff, reduceIte, Nat.reduceAdd, Nat.reduceMul, Nat.reduceSub, Nat.reduceLT, Nat.reduceLeDiff, Nat.reduceBEq, g1, w1, hx, c1, c2, q1]) | refine dk (by kernel_rfl) ?_)
          refine ⟨⟨i + 1, false, out ++ [x], hlt, lenB hlo, h'⟩, [27], ?_, rwL (by repeat (first | exact trivial | refine ⟨rfl, rfl, ?_⟩)) (by rfl) (by simp only [go_sem, Nat.reduceEqDiff, reduceIte, Nat.reduceAdd, Nat.reduceMul, Nat.reduceSub, Nat.reduceLT, Nat.reduceLeDiff, Nat.reduceBEq, List.map_append, List.map_cons, List.map_nil]; first | done | rfl) (by decide) (by intro m hm; first | omega | (rcases m with _ | _ | _ | _ | m <;> first | exact ⟨by decide, rfl⟩ | omega))⟩
          show ks.length - (i + 1) < ks.length - i; omega
      · have h' : putL k (ks.drop (i + 1)) true (out ++ [x]) = putL k ks false [] := by rw [← h]; cases klt x k <;> rfl
        repeat (first | apply Aw_seq | apply Aw_block | apply Aw_skip | apply Aw_exit | refine Aw_condt rfl ?_ | refine Aw_condf rfl ?_ | (refine qr ?_; simp only [go_sem, Nat.reduceEqDiff, reduceIte, Nat.reduceAdd, Nat.reduceMul, Nat.reduceSub, Nat.reduceLT, Nat.reduceLeDiff, Nat.reduceBEq, g1, w1, hx, c1, q1]) | (refine qd (by kernel_rfl) (by kernel_rfl) ?_; simp only [go_sem, Nat.reduceEqDiff, reduceIte, Nat.reduceAdd, Nat.reduceMul, Nat.reduceSub, Nat.reduceLT, Nat.reduceLeDiff, Nat.reduceBEq, g1, w1, hx, c1, q1]) | refine dk (by kernel_rfl) ?_)
        refine ⟨⟨i + 1, true, out ++ [x], hlt, lenB hlo, h'⟩, [21], ?_, rwL (by repeat (first | exact trivial | refine ⟨rfl, rfl, ?_⟩)) (by rfl) (by simp only [go_sem, Nat.reduceEqDiff, reduceIte, Nat.reduceAdd, Nat.reduceMul, Nat.reduceSub, Nat.reduceLT, Nat.reduceLeDiff, Nat.reduceBEq, List.map_append, List.map_cons, List.map_nil]; first | done | rfl) (by decide) (by intro m hm; first | omega | (rcases m with _ | _ | _ | _ | m <;> first | exact ⟨by decide, rfl⟩ | omega))⟩
        show ks.length - (i + 1) < ks.length - i; omega
    · repeat (first | apply Aw_seq | apply Aw_block | apply Aw_skip | apply Aw_exit | refine Aw_condt rfl ?_ | refine Aw_condf rfl ?_ | (refine qr ?_; simp only [go_sem, Nat.reduceEqDiff, reduceIte, Nat.reduceAdd, Nat.reduceMul, Nat.reduceSub, Nat.reduceLT, Nat.reduceLeDiff, Nat.reduceBEq, g1, hx, c1]) | (refine qd (by kernel_rfl) (by kernel_rfl) ?_; simp only [go_sem, Nat.reduceEqDiff, reduceIte, Nat.reduceAdd, Nat.reduceMul, Nat.reduceSub, Nat.reduceLT, Nat.reduceLeDiff, Nat.reduceBEq, g1, hx, c1]) | refine dk (by kernel_rfl) ?_)
      exact Aw_ret (ret0 (.inl rfl) (by simp only [go_sem, Nat.reduceEqDiff, reduceIte, Nat.reduceAdd, Nat.reduceMul, Nat.reduceSub, Nat.reduceLT, Nat.reduceLeDiff, Nat.reduceBEq]; rfl) (by rfl) rfl)
  · have g1 : ¬ (i : Int) < (ks.length : Int) := by omega
    rw [List.drop_eq_nil_of_le (by omega), h0] at h
    simp [putL] at h
theorem l2Put_ok (ks o : List ByteArray) (k : ByteArray) (hl : ks.length ≤ 100000) (h0 : putL k ks false [] = some o) : AC Try.prog 79 [strsT ks, sT k] noHp 0 ⟨.t (.c (.h 0)), hpL [some (kRow o)], 1⟩ := by
  refine AC_of Try.func79 rfl Try.ntmps79 Try.results79 (by kernel_rfl) rfl ?_
  simp only [List.zipIdx, List.map, Nat.zero_add, Nat.reduceAdd]
  repeat (first | apply Aw_seq | apply Aw_block | apply Aw_skip | apply Aw_exit | refine Aw_condt rfl ?_ | refine Aw_condf rfl ?_ | (refine qr ?_; simp only [go_sem, Nat.reduceEqDiff, reduceIte, Nat.reduceAdd, Nat.reduceMul, Nat.reduceSub, Nat.reduceLT, Nat.reduceLeDiff, Nat.reduceBEq]) | (refine qd (by kernel_rfl) (by kernel_rfl) ?_; simp only [go_sem, Nat.reduceEqDiff, reduceIte, Nat.reduceAdd, Nat.reduceMul, Nat.reduceSub, Nat.reduceLT, Nat.reduceLeDiff, Nat.reduceBEq]) | refine dk (by kernel_rfl) ?_)
  refine Aw.rw (rwL (l' := [(7, .t (iT (0 : Nat))), (6, .t (bT false)), (5, .t (.c (.h 0))), (1, .t (sT k)), (0, .t (strsT ks))]) (os := [some (kRow [])]) (M := [1]) (n' := 1) (by repeat (first | exact trivial | refine ⟨rfl, rfl, ?_⟩)) (by rfl) (by simp only [go_sem, Nat.reduceEqDiff, reduceIte, Nat.reduceAdd, Nat.reduceMul, Nat.reduceSub, Nat.reduceLT, Nat.reduceLeDiff, Nat.reduceBEq, List.map_nil]; first | done | rfl) (by decide) (by intro m hm; first | omega | (rcases m with _ | _ | _ | _ | m <;> first | exact ⟨by decide, rfl⟩ | omega))) ?_
  refine Aw_loop_rw (ι := PuI ks k) (fun q => S [(7, .t (iT (q.i : Nat))), (6, .t (bT q.d)), (5, .t (.c (.h 0))), (1, .t (sT k)), (0, .t (strsT ks))] (hpL [some (kRow q.out)]) 1) (fun q => ks.length - q.i) ⟨0, false, [], Nat.zero_le _, by simp, rfl⟩ ?_
  rintro ⟨i, d, out, hi, hlo, h⟩
  dsimp only
  by_cases hlt : i < ks.length
  · have g1 : (i : Int) < (ks.length : Int) := by omega
    have w1 := wrap_succ hlt (by omega)
    obtain ⟨x, hx⟩ : ∃ e, ks[i]? = some e := ⟨_, List.getElem?_eq_getElem hlt⟩
    have hd : ks.drop i = x :: ks.drop (i + 1) := by rw [List.drop_eq_getElem_cons hlt]; congr 1; rw [List.getElem?_eq_getElem hlt] at hx; exact Option.some.inj hx
    obtain ⟨q1, q2⟩ := lenC hlo hi hl
    rw [hd] at h
    cases c1 : decide (x = k)
    · have hne := of_decide_eq_false c1
      simp only [putL, if_neg hne] at h
      cases d
      · cases c2 : klt x k
        · have h' : putL k (ks.drop (i + 1)) true (out ++ [k] ++ [x]) = putL k ks false [] := by rw [← h, c2]; rfl
          repeat (first | apply Aw_seq | apply Aw_block | apply Aw_skip | apply Aw_exit | refine Aw_condt rfl ?_ | refine Aw_condf rfl ?_ | (refine qr ?_; simp only [go_sem, Nat.reduceEqDiff, reduceIte, Nat.reduceAdd, Nat.reduceMul, Nat.reduceSub, Nat.reduceLT, Nat.reduceLeDiff, Nat.reduceBEq, g1, w1, hx, c1, c2, q1, q2]) | (refine qd (by kernel_rfl) (by kernel_rfl) ?_; simp only [go_sem, Nat.reduceEqDiff, reduceIte, Nat.reduceAdd, Nat.reduceMul, Nat.reduceSub, Nat.reduceLT, Nat.reduceLeDiff, Nat.reduceBEq, g1, w1, hx, c1, c2, q1, q2]) | refine dk (by kernel_rfl) ?_)
          refine ⟨⟨i + 1, true, out ++ [k] ++ [x], hlt, lenA hlo, h'⟩, [33], ?_, rwL (by repeat (first | exact trivial | refine ⟨rfl, rfl, ?_⟩)) (by rfl) (by simp only [go_sem, Nat.reduceEqDiff, reduceIte, Nat.reduceAdd, Nat.reduceMul, Nat.reduceSub, Nat.reduceLT, Nat.reduceLeDiff, Nat.reduceBEq, List.map_append, List.map_cons, List.map_nil, List.append_assoc]; first | done | rfl) (by decide) (by intro m hm; first | omega | (rcases m with _ | _ | _ | _ | m <;> first | exact ⟨by decide, rfl⟩ | omega))⟩
          show ks.length - (i + 1) < ks.length - i; omega
        · have h' : putL k (ks.drop (i + 1)) false (out ++ [x]) = putL k ks false [] := by rw [← h, c2]; rfl
          repeat (first | apply Aw_seq | apply Aw_block | apply Aw_skip | apply Aw_exit | refine Aw_condt rfl ?_ | refine Aw_condf rfl ?_ | (refine qr ?_; simp only [go_sem, Nat.reduceEqDiff, reduceIte, Nat.reduceAdd, Nat.reduceMul, Nat.reduceSub, Nat.reduceLT, Nat.reduceLeDiff, Nat.reduceBEq, g1, w1, hx, c1, c2, q1]) | (refine qd (by kernel_rfl) (by kernel_rfl) ?_; simp only [go_sem, Nat.reduceEqDiff, reduceIte, Nat.reduceAdd, Nat.reduceMul, Nat.reduceSub, Nat.reduceLT, Nat.reduceLeDiff, Nat.reduceBEq, g1, w1, hx, c1, c2, q1]) | refine dk (by kernel_rfl) ?_)
          refine ⟨⟨i + 1, false, out ++ [x], hlt, lenB hlo, h'⟩, [27], ?_, rwL (by repeat (first | exact trivial | refine ⟨rfl, rfl, ?_⟩)) (by rfl) (by simp only [go_sem, Nat.reduceEqDiff, reduceIte, Nat.reduceAdd, Nat.reduceMul, Nat.reduceSub, Nat.reduceLT, Nat.reduceLeDiff, Nat.reduceBEq, List.map_append, List.map_cons, List.map_nil]; first | done | rfl) (by decide) (by intro m hm; first | omega | (rcases m with _ | _ | _ | _ | m <;> first | exact ⟨by decide, rfl⟩ | omega))⟩
          show ks.length - (i + 1) < ks.length - i; omega
      · have h' : putL k (ks.drop (i + 1)) true (out ++ [x]) = putL k ks false [] := by rw [← h]; cases klt x k <;> rfl
        repeat (first | apply Aw_seq | apply Aw_block | apply Aw_skip | apply Aw_exit | refine Aw_condt rfl ?_ | refine Aw_condf rfl ?_ | (refine qr ?_; simp only [go_sem, Nat.reduceEqDiff, reduceIte, Nat.reduceAdd, Nat.reduceMul, Nat.reduceSub, Nat.reduceLT, Nat.reduceLeDiff, Nat.reduceBEq, g1, w1, hx, c1, q1]) | (refine qd (by kernel_rfl) (by kernel_rfl) ?_; simp only [go_sem, Nat.reduceEqDiff, reduceIte, Nat.reduceAdd, Nat.reduceMul, Nat.reduceSub, Nat.reduceLT, Nat.reduceLeDiff, Nat.reduceBEq, g1, w1, hx, c1, q1]) | refine dk (by kernel_rfl) ?_)
        refine ⟨⟨i + 1, true, out ++ [x], hlt, lenB hlo, h'⟩, [21], ?_, rwL (by repeat (first | exact trivial | refine ⟨rfl, rfl, ?_⟩)) (by rfl) (by simp only [go_sem, Nat.reduceEqDiff, reduceIte, Nat.reduceAdd, Nat.reduceMul, Nat.reduceSub, Nat.reduceLT, Nat.reduceLeDiff, Nat.reduceBEq, List.map_append, List.map_cons, List.map_nil]; first | done | rfl) (by decide) (by intro m hm; first | omega | (rcases m with _ | _ | _ | _ | m <;> first | exact ⟨by decide, rfl⟩ | omega))⟩
        show ks.length - (i + 1) < ks.length - i; omega
    · rw [h0] at h
      simp [putL, of_decide_eq_true c1] at h
  · have g1 : ¬ (i : Int) < (ks.length : Int) := by omega
    obtain ⟨q1, q2⟩ := lenC hlo hi hl
    rw [List.drop_eq_nil_of_le (by omega), h0] at h
    cases d
    · have ho : o = out ++ [k] := by simpa [putL] using h.symm
      subst ho
      repeat (first | apply Aw_seq | apply Aw_block | apply Aw_skip | apply Aw_exit | refine Aw_condt rfl ?_ | refine Aw_condf rfl ?_ | (refine qr ?_; simp only [go_sem, Nat.reduceEqDiff, reduceIte, Nat.reduceAdd, Nat.reduceMul, Nat.reduceSub, Nat.reduceLT, Nat.reduceLeDiff, Nat.reduceBEq, g1, q1]) | (refine qd (by kernel_rfl) (by kernel_rfl) ?_; simp only [go_sem, Nat.reduceEqDiff, reduceIte, Nat.reduceAdd, Nat.reduceMul, Nat.reduceSub, Nat.reduceLT, Nat.reduceLeDiff, Nat.reduceBEq, g1, q1]) | refine dk (by kernel_rfl) ?_)
      exact Aw_ret (retL (M := [10]) (.inl rfl) (by simp only [go_sem, Nat.reduceEqDiff, reduceIte, Nat.reduceAdd, Nat.reduceMul, Nat.reduceSub, Nat.reduceLT, Nat.reduceLeDiff, Nat.reduceBEq]; first | done | rfl) rfl rfl (by rfl) (by simp only [go_sem, Nat.reduceEqDiff, reduceIte, Nat.reduceAdd, Nat.reduceMul, Nat.reduceSub, Nat.reduceLT, Nat.reduceLeDiff, Nat.reduceBEq, List.map_append, List.map_cons, List.map_nil]; first | done | rfl | (and_intros <;> rfl)) (by decide) (by intro m hm; first | omega | (rcases m with _ | _ | _ | _ | m <;> first | exact ⟨by decide, rfl⟩ | omega)))
    · have ho : o = out := by simpa [putL] using h.symm
      subst ho
      repeat (first | apply Aw_seq | apply Aw_block | apply Aw_skip | apply Aw_exit | refine Aw_condt rfl ?_ | refine Aw_condf rfl ?_ | (refine qr ?_; simp only [go_sem, Nat.reduceEqDiff, reduceIte, Nat.reduceAdd, Nat.reduceMul, Nat.reduceSub, Nat.reduceLT, Nat.reduceLeDiff, Nat.reduceBEq, g1]) | (refine qd (by kernel_rfl) (by kernel_rfl) ?_; simp only [go_sem, Nat.reduceEqDiff, reduceIte, Nat.reduceAdd, Nat.reduceMul, Nat.reduceSub, Nat.reduceLT, Nat.reduceLeDiff, Nat.reduceBEq, g1]) | refine dk (by kernel_rfl) ?_)
      exact Aw_ret (retL (M := [0]) (.inl rfl) (by simp only [go_sem, Nat.reduceEqDiff, reduceIte, Nat.reduceAdd, Nat.reduceMul, Nat.reduceSub, Nat.reduceLT, Nat.reduceLeDiff, Nat.reduceBEq]; first | done | rfl) rfl rfl (by rfl) (by simp only [go_sem, Nat.reduceEqDiff, reduceIte, Nat.reduceAdd, Nat.reduceMul, Nat.reduceSub, Nat.reduceLT, Nat.reduceLeDiff, Nat.reduceBEq]; first | done | rfl | (and_intros <;> rfl)) (by decide) (by intro m hm; first | omega | (rcases m with _ | _ | _ | _ | m <;> first | exact ⟨by decide, rfl⟩ | omega)))
theorem l2Put_ac (ks : List ByteArray) (k : ByteArray) (hl : ks.length ≤ 100000) : AC Try.prog 79 [strsT ks, sT k] noHp 0 ⟨.t (strsT (putK ks k)), noHp, 0⟩ := by
  unfold putK
  cases h : putL k ks false [] with
  | none => exact l2Put_no ks k hl h
  | some o => exact AC.settle0 [0] (l2Put_ok ks o k hl h) (SetC.row0 rfl rfl) rfl
theorem putK_mem {ks : List ByteArray} {k : ByteArray} : (∀ y ∈ putK ks k, y ∈ ks ∨ y = k) ∧ (putK ks k).length ≤ ks.length + 1 := by
  unfold putK
  cases h : putL k ks false [] with
  | none => exact ⟨fun y hy => .inl hy, by simp⟩
  | some o =>
    obtain ⟨h1, h2⟩ := putL_mem h
    exact ⟨fun y hy => by rcases h1 y hy with h | h | h; simp at h; exact .inl h; exact .inr h, by simpa using h2⟩
end Go.Proofs.Ytcbhgglpgphimaa.Ab
namespace Go.Proofs.Ytcbhgglpgphimaa.Ab
set_option linter.deprecated false
set_option linter.unusedVariables false
set_option linter.unusedSimpArgs false
open Go Go.Proofs
set_option maxRecDepth 10000
set_option maxHeartbeats 8000000
set_option linter.unusedSimpArgs false
set_option linter.unusedVariables false
open Classical in
noncomputable def pickV (b : List Int) (p : Nat) (n : Int) : Nat := if h : byteL b ∧ p ≤ 1000000 ∧ n ≤ 1099511627776 then Classical.choose (pick_ac b p n h.1 h.2.1 h.2.2) else 0
theorem pickV_ac {b : List Int} {p : Nat} {n : Int} (hb : byteL b) (hp : p ≤ 1000000) (hn : n ≤ 1099511627776) : AC Try.prog 76 [.c (.ph 0 0 0), iT n] (hpL [some (rdO b p)]) 1 ⟨.t (iT (pickV b p n)), hpL [some (rdO b (p + 1))], 1⟩ := by
  unfold pickV
  rw [dif_pos ⟨hb, hp, hn⟩]
  exact (Classical.choose_spec (pick_ac b p n hb hp hn)).2.2
theorem pickV_lt {b : List Int} {p : Nat} {n : Int} (hb : byteL b) (hp : p ≤ 1000000) (hn : n ≤ 1099511627776) (h1 : 1 ≤ n) : (pickV b p n : Int) < n := by
  unfold pickV
  rw [dif_pos ⟨hb, hp, hn⟩]
  exact (Classical.choose_spec (pick_ac b p n hb hp hn)).1 h1
noncomputable def ofV (b : List Int) (p : Nat) (l : List ByteArray) : ByteArray := l.getD (pickV b p (l.length : Int)) zs
theorem ofV_at {b : List Int} {p : Nat} {l : List ByteArray} (hb : byteL b) (hp : p ≤ 1000000) (h0 : 0 < l.length) (h1 : l.length ≤ 1000) : l[pickV b p (l.length : Int)]? = some (ofV b p l) := by
  have := pickV_lt (n := (l.length : Int)) hb hp (by omega) (by omega)
  unfold ofV
  rw [List.getD_eq_getElem?_getD, List.getElem?_eq_getElem (by omega)]; rfl
theorem of_ac {b : List Int} {p : Nat} {l : List ByteArray} (hb : byteL b) (hp : p ≤ 1000000) (h0 : 0 < l.length) (h1 : l.length ≤ 1000) : AC Try.prog 125 [.c (.ph 0 0 0), .c (.h 1)] (hpL [some (rdO b p), some (kRow l)]) 2 ⟨.t (sT (ofV b p l)), hpL [some (rdO b (p + 1)), none], 2⟩ := by
  refine AC_of Try.func125 rfl Try.ntmps125 Try.results125 (by kernel_rfl) rfl ?_
  simp only [List.zipIdx, List.map, Nat.zero_add, Nat.reduceAdd]
  have k := pickV_ac (n := (l.length : Int)) hb hp (by omega)
  have hx := ofV_at hb hp h0 h1
  have hlt := (List.getElem?_eq_some_iff.1 hx).1
  repeat (first | apply Aw_seq | apply Aw_block | apply Aw_skip | apply Aw_exit | refine Aw_condt rfl ?_ | refine Aw_condf rfl ?_ | (refine qr ?_; simp only [go_sem, Nat.reduceEqDiff, reduceIte, Nat.reduceAdd, Nat.reduceMul, Nat.reduceSub, Nat.reduceLT, Nat.reduceLeDiff, Nat.reduceBEq, hx, hlt]) | (refine qd (by kernel_rfl) (by kernel_rfl) ?_; simp only [go_sem, Nat.reduceEqDiff, reduceIte, Nat.reduceAdd, Nat.reduceMul, Nat.reduceSub, Nat.reduceLT, Nat.reduceLeDiff, Nat.reduceBEq, hx, hlt]) | refine dk (by kernel_rfl) ?_ | (refine qx (call_L (N' := [0]) (L := []) (k) rfl (.cons (.nm rfl) (.cons (.nm rfl) (.nil))) (by decide) (by decide) (by decide) (by simp only [go_sem, Nat.reduceEqDiff, reduceIte, Nat.reduceAdd, Nat.reduceMul, Nat.reduceSub, Nat.reduceLT, Nat.reduceLeDiff, Nat.reduceBEq, hx, hlt]) (.inl rfl) rfl (by decide)) (by simp only [go_sem, Nat.reduceEqDiff, reduceIte, Nat.reduceAdd, Nat.reduceMul, Nat.reduceSub, Nat.reduceLT, Nat.reduceLeDiff, Nat.reduceBEq, hx, hlt]; first | done | rfl) rfl (by simp only [go_sem, Nat.reduceLT]) ?_; simp only [go_sem, Nat.reduceEqDiff, reduceIte, Nat.reduceAdd, Nat.reduceMul, Nat.reduceSub, Nat.reduceLT, Nat.reduceLeDiff, Nat.reduceBEq, hx, hlt]))
  exact Aw_ret (retL (M := [0, 1]) (.inl rfl) (by simp only [go_sem, Nat.reduceEqDiff, reduceIte, Nat.reduceAdd, Nat.reduceMul, Nat.reduceSub, Nat.reduceLT, Nat.reduceLeDiff, Nat.reduceBEq]; first | done | rfl) rfl rfl (by rfl) (by simp only [go_sem, Nat.reduceEqDiff, reduceIte, Nat.reduceAdd, Nat.reduceMul, Nat.reduceSub, Nat.reduceLT, Nat.reduceLeDiff, Nat.reduceBEq]; first | done | rfl | (and_intros <;> rfl)) (by decide) (by intro m hm; first | omega | (rcases m with _ | _ | _ | _ | m <;> first | exact ⟨by decide, rfl⟩ | omega)))
@[go_sem] theorem d_five (e k : Nat) (a b c d f : D) : (⟨e, k, true, [[.d a], [.d b], [.d c], [.d d], [.d f]]⟩ : Obj) = dRow e k [[a], [b], [c], [d], [f]] := rfl
@[go_sem] theorem d_three (e k : Nat) (a b c : D) : (⟨e, k, true, [[.d a], [.d b], [.d c]]⟩ : Obj) = dRow e k [[a], [b], [c]] := rfl
def five : List ByteArray := [bs [97], bs [98], bs [97], bs [99], bs [100]]
def three : List ByteArray := [bs [97], bs [98], bs [100]]
theorem ofV_mem {b : List Int} {p : Nat} {l : List ByteArray} (hb : byteL b) (hp : p ≤ 1000000) (h0 : 0 < l.length) (h1 : l.length ≤ 1000) : ofV b p l ∈ l := List.mem_of_getElem? (ofV_at hb hp h0 h1)
theorem five_size {s : ByteArray} (h : s ∈ five) : s.size = 1 := by
  have : five.all (fun s => s.size == 1) = true := rfl
  simpa using List.all_eq_true.1 this s h
theorem three_size {s : ByteArray} (h : s ∈ three) : s.size = 1 := by
  have : three.all (fun s => s.size == 1) = true := rfl
  simpa using List.all_eq_true.1 this s h
noncomputable def keyL (b : List Int) : Nat → ByteArray → Nat → ByteArray × Nat
  | 0, s, p => (s, p)
  | n + 1, s, p => keyL b n (s ++ ofV b p five) (p + 1)
noncomputable def keyV (b : List Int) (p : Nat) : ByteArray × Nat := keyL b (pickV b p 6) zs (p + 1)
theorem keyL_fin {b : List Int} (hb : byteL b) : ∀ (n : Nat) (s : ByteArray) (p : Nat), p + n ≤ 1000000 → (keyL b n s p).1.size = s.size + n ∧ (keyL b n s p).2 = p + n
  | 0, s, p, _ => ⟨rfl, rfl⟩
  | n + 1, s, p, h => by
    have h1 := five_size (ofV_mem (l := five) hb (show p ≤ 1000000 by omega) (by decide) (by decide))
    obtain ⟨h2, h3⟩ := keyL_fin hb n (s ++ ofV b p five) (p + 1) (by omega)
    have e : (s ++ ofV b p five).size = s.size + 1 := by rw [ByteArray.size_append, h1]
    exact ⟨by simp only [keyL]; rw [h2, e]; omega, by simp only [keyL]; rw [h3]; omega⟩
theorem keyV_fin {b : List Int} (hb : byteL b) {p : Nat} (hp : p ≤ 900000) : (keyV b p).1.size ≤ 5 ∧ (keyV b p).2 ≤ p + 6 := by
  have h := pickV_lt (n := 6) hb (show p ≤ 1000000 by omega) (by omega) (by omega)
  obtain ⟨h1, h2⟩ := keyL_fin hb (pickV b p 6) zs (p + 1) (by omega)
  have z : zs.size = 0 := rfl
  unfold keyV
  rw [h1, h2, z]
  constructor <;> omega
structure KyI (b : List Int) (p0 : Nat) where
  n : Nat
  s : ByteArray
  p : Nat
  hn : n ≤ 5
  hs : s.size + n ≤ 100
  hp : p + n ≤ 1000000
  h : keyL b n s p = keyV b p0
theorem l71Key_ac {b : List Int} {p : Nat} (hb : byteL b) (hp : p ≤ 900000) : AC Try.prog 124 [.c (.ph 0 0 0)] (hpL [some (rdO b p)]) 1 ⟨.t (sT (keyV b p).1), hpL [some (rdO b (keyV b p).2)], 1⟩ := by
  refine AC_of Try.func124 rfl Try.ntmps124 Try.results124 (by kernel_rfl) rfl ?_
  simp only [List.zipIdx, List.map, Nat.zero_add, Nat.reduceAdd]
  have k := pickV_ac (n := 6) hb (show p ≤ 1000000 by omega) (by omega)
  have h6 := pickV_lt (n := 6) hb (show p ≤ 1000000 by omega) (by omega) (by omega)
  repeat (first | apply Aw_seq | apply Aw_block | apply Aw_skip | apply Aw_exit | refine Aw_condt rfl ?_ | refine Aw_condf rfl ?_ | (refine qr ?_; simp only [go_sem, Nat.reduceEqDiff, reduceIte, Nat.reduceAdd, Nat.reduceMul, Nat.reduceSub, Nat.reduceLT, Nat.reduceLeDiff, Nat.reduceBEq]) | (refine qd (by kernel_rfl) (by kernel_rfl) ?_; simp only [go_sem, Nat.reduceEqDiff, reduceIte, Nat.reduceAdd, Nat.reduceMul, Nat.reduceSub, Nat.reduceLT, Nat.reduceLeDiff, Nat.reduceBEq]) | refine dk (by kernel_rfl) ?_ | (refine qx (call_L (N' := [0]) (L := []) (k) rfl (.cons (.nm rfl) (.cons (.nm rfl) (.nil))) (by decide) (by decide) (by decide) (by simp only [go_sem, Nat.reduceEqDiff, reduceIte, Nat.reduceAdd, Nat.reduceMul, Nat.reduceSub, Nat.reduceLT, Nat.reduceLeDiff, Nat.reduceBEq]) (.inl rfl) rfl (by decide)) (by simp only [go_sem, Nat.reduceEqDiff, reduceIte, Nat.reduceAdd, Nat.reduceMul, Nat.reduceSub, Nat.reduceLT, Nat.reduceLeDiff, Nat.reduceBEq]; first | done | rfl) rfl (by simp only [go_sem, Nat.reduceLT]) ?_; simp only [go_sem, Nat.reduceEqDiff, reduceIte, Nat.reduceAdd, Nat.reduceMul, Nat.reduceSub, Nat.reduceLT, Nat.reduceLeDiff, Nat.reduceBEq]))
  refine Aw.rw (rwL (l' := [(4, .t (iT (pickV b p 6 : Nat))), (3, .t (sT zs)), (0, .t (.c (.ph 0 0 0)))]) (os := [some (rdO b (p + 1))]) (M := [0]) (n' := 1) (by repeat (first | exact trivial | refine ⟨rfl, rfl, ?_⟩)) (by rfl) (by simp only [go_sem, Nat.reduceEqDiff, reduceIte, Nat.reduceAdd, Nat.reduceMul, Nat.reduceSub, Nat.reduceLT, Nat.reduceLeDiff, Nat.reduceBEq]; first | done | rfl) (by decide) (by intro m hm; first | omega | (rcases m with _ | _ | _ | _ | m <;> first | exact ⟨by decide, rfl⟩ | omega))) ?_
  refine Aw_loop_rw (ι := KyI b p) (fun q => S [(4, .t (iT (q.n : Nat))), (3, .t (sT q.s)), (0, .t (.c (.ph 0 0 0)))] (hpL [some (rdO b q.p)]) 1) (fun q => q.n) ⟨pickV b p 6, zs, p + 1, by omega, by show 0 + _ ≤ _; omega, by omega, rfl⟩ ?_
  rintro ⟨n, s, q, hn, hs, hq, h⟩
  dsimp only
  rcases n with _ | n
  · have g1 : decide ((0 : Int) < ((0 : Nat) : Int)) = false := rfl
    rw [← h]
    repeat (first | apply Aw_seq | apply Aw_block | apply Aw_skip | apply Aw_exit | refine Aw_condt rfl ?_ | refine Aw_condf rfl ?_ | (refine qr ?_; simp only [go_sem, Nat.reduceEqDiff, reduceIte, Nat.reduceAdd, Nat.reduceMul, Nat.reduceSub, Nat.reduceLT, Nat.reduceLeDiff, Nat.reduceBEq, g1]) | (refine qd (by kernel_rfl) (by kernel_rfl) ?_; simp only [go_sem, Nat.reduceEqDiff, reduceIte, Nat.reduceAdd, Nat.reduceMul, Nat.reduceSub, Nat.reduceLT, Nat.reduceLeDiff, Nat.reduceBEq, g1]) | refine dk (by kernel_rfl) ?_)
    exact Aw_ret (retL (M := [0]) (.inl rfl) (by simp only [go_sem, Nat.reduceEqDiff, reduceIte, Nat.reduceAdd, Nat.reduceMul, Nat.reduceSub, Nat.reduceLT, Nat.reduceLeDiff, Nat.reduceBEq]; first | done | rfl) rfl rfl (by rfl) (by simp only [go_sem, Nat.reduceEqDiff, reduceIte, Nat.reduceAdd, Nat.reduceMul, Nat.reduceSub, Nat.reduceLT, Nat.reduceLeDiff, Nat.reduceBEq, keyL]; first | done | rfl | (and_intros <;> rfl)) (by decide) (by intro m hm; first | omega | (rcases m with _ | _ | _ | _ | m <;> first | exact ⟨by decide, rfl⟩ | omega)))
  · have g1 : decide ((0 : Int) < ((n + 1 : Nat) : Int)) = true := decide_eq_true (by omega)
    have w1 : IntKind.i64.wrap (((n + 1 : Nat) : Int) - 1) = (n : Int) := wn (by omega) (by omega)
    have ko : AC Try.prog 125 [.c (.ph 0 0 0), .c (.h 1)] (hpL [some (rdO b q), some (kRow [bs [97], bs [98], bs [97], bs [99], bs [100]])]) 2 ⟨.t (sT (ofV b q five)), hpL [some (rdO b (q + 1)), none], 2⟩ := of_ac (l := five) hb (show q ≤ 1000000 by omega) (by decide) (by decide)
    have e5 := five_size (ofV_mem (l := five) hb (show q ≤ 1000000 by omega) (by decide) (by decide))
    have gs : (s.size + (ofV b q five).size ≤ 9223372036854775807) = True := eq_true (by rw [e5]; omega)
    have hs2 : (s ++ ofV b q five).size = s.size + 1 := by rw [ByteArray.size_append, e5]
    repeat (first | apply Aw_seq | apply Aw_block | apply Aw_skip | apply Aw_exit | refine Aw_condt rfl ?_ | refine Aw_condf rfl ?_ | (refine qr ?_; simp only [go_sem, Nat.reduceEqDiff, reduceIte, Nat.reduceAdd, Nat.reduceMul, Nat.reduceSub, Nat.reduceLT, Nat.reduceLeDiff, Nat.reduceBEq, g1, w1, gs]) | (refine qd (by kernel_rfl) (by kernel_rfl) ?_; simp only [go_sem, Nat.reduceEqDiff, reduceIte, Nat.reduceAdd, Nat.reduceMul, Nat.reduceSub, Nat.reduceLT, Nat.reduceLeDiff, Nat.reduceBEq, g1, w1, gs]) | refine dk (by kernel_rfl) ?_ | (refine qx (call_L (N' := [0, 5]) (L := []) (ko) rfl (.cons (.nm rfl) (.cons (.nm rfl) (.nil))) (by decide) (by decide) (by decide) (by simp only [go_sem, Nat.reduceEqDiff, reduceIte, Nat.reduceAdd, Nat.reduceMul, Nat.reduceSub, Nat.reduceLT, Nat.reduceLeDiff, Nat.reduceBEq, g1, w1, gs]) (.inl rfl) rfl (by decide)) (by simp only [go_sem, Nat.reduceEqDiff, reduceIte, Nat.reduceAdd, Nat.reduceMul, Nat.reduceSub, Nat.reduceLT, Nat.reduceLeDiff, Nat.reduceBEq, g1, w1, gs]; first | done | rfl) rfl (by simp only [go_sem, Nat.reduceLT]) ?_; simp only [go_sem, Nat.reduceEqDiff, reduceIte, Nat.reduceAdd, Nat.reduceMul, Nat.reduceSub, Nat.reduceLT, Nat.reduceLeDiff, Nat.reduceBEq, g1, w1, gs]))
    refine ⟨⟨n, s ++ ofV b q five, q + 1, by omega, by rw [hs2]; omega, by omega, h⟩, [0], ?_, rwL (by repeat (first | exact trivial | refine ⟨rfl, rfl, ?_⟩)) (by rfl) (by simp only [go_sem, Nat.reduceEqDiff, reduceIte, Nat.reduceAdd, Nat.reduceMul, Nat.reduceSub, Nat.reduceLT, Nat.reduceLeDiff, Nat.reduceBEq]; first | done | rfl) (by decide) (by intro m hm; first | omega | (rcases m with _ | _ | _ | _ | m <;> first | exact ⟨by decide, rfl⟩ | omega))⟩
    show n < n + 1; omega
end Go.Proofs.Ytcbhgglpgphimaa.Ab
namespace Go.Proofs.Ytcbhgglpgphimaa.Ab
set_option linter.deprecated false
set_option linter.unusedVariables false
set_option linter.unusedSimpArgs false
open Go Go.Proofs
set_option maxRecDepth 10000
set_option maxHeartbeats 8000000
set_option linter.unusedSimpArgs false
set_option linter.unusedVariables false
noncomputable def nearV (b : List Int) (p : Nat) (l : List ByteArray) : ByteArray × Nat :=
  if l.length = 0 then keyV b p else if pickV b p 4 = 0 then keyV b (p + 1) else
    let k := ofV b (p + 1) l
    if pickV b (p + 2) 4 = 0 then (k.extract 0 (pickV b (p + 3) ((k.size + 1 : Nat) : Int)), p + 4)
    else if pickV b (p + 2) 4 = 1 then (if k.size < 5 then (k ++ ofV b (p + 3) three, p + 4) else (k, p + 3)) else (k, p + 3)
theorem nearV_fin {b : List Int} (hb : byteL b) {p K : Nat} {l : List ByteArray} (hp : p ≤ 800000) (hl : l.length ≤ 1000) (hK : 5 ≤ K) (hs : ∀ s ∈ l, s.size ≤ K) : (nearV b p l).1.size ≤ K ∧ (nearV b p l).2 ≤ p + 7 := by
  unfold nearV
  split
  · have := keyV_fin hb (show p ≤ 900000 by omega); omega
  split
  · have := keyV_fin hb (show p + 1 ≤ 900000 by omega); omega
  have hk := hs _ (ofV_mem (l := l) hb (show p + 1 ≤ 1000000 by omega) (by omega) hl)
  dsimp only
  split
  · exact ⟨by rw [ByteArray.size_extract]; omega, by dsimp only; omega⟩
  split
  · split
    · have h3 := three_size (ofV_mem (l := three) hb (show p + 3 ≤ 1000000 by omega) (by decide) (by decide))
      exact ⟨by rw [ByteArray.size_append, h3]; omega, by dsimp only; omega⟩
    · exact ⟨hk, by dsimp only; omega⟩
  · exact ⟨hk, by dsimp only; omega⟩
theorem l71Near_ac {b : List Int} {p : Nat} {l : List ByteArray} (hb : byteL b) (hp : p ≤ 800000) (hl : l.length ≤ 1000) (hs : ∀ s ∈ l, s.size ≤ 1000000) : AC Try.prog 75 [.c (.ph 0 0 0), strsT l] (hpL [some (rdO b p)]) 1 ⟨.t (sT (nearV b p l).1), hpL [some (rdO b (nearV b p l).2)], 1⟩ := by
  by_cases c0 : l.length = 0
  · have e : nearV b p l = keyV b p := by unfold nearV; rw [if_pos c0]
    have g0 : decide (((l.length : Nat) : Int) = 0) = true := decide_eq_true (by omega)
    have kk := l71Key_ac hb (show p ≤ 900000 by omega)
    rw [e]
    refine AC_of Try.func75 rfl Try.ntmps75 Try.results75 (by kernel_rfl) rfl ?_
    simp only [List.zipIdx, List.map, Nat.zero_add, Nat.reduceAdd]
    repeat (first | apply Aw_seq | apply Aw_block | apply Aw_skip | apply Aw_exit | refine Aw_condt rfl ?_ | refine Aw_condf rfl ?_ | (refine qr ?_; simp only [go_sem, Nat.reduceEqDiff, reduceIte, Nat.reduceAdd, Nat.reduceMul, Nat.reduceSub, Nat.reduceLT, Nat.reduceLeDiff, Nat.reduceBEq, g0]) | (refine qd (by kernel_rfl) (by kernel_rfl) ?_; simp only [go_sem, Nat.reduceEqDiff, reduceIte, Nat.reduceAdd, Nat.reduceMul, Nat.reduceSub, Nat.reduceLT, Nat.reduceLeDiff, Nat.reduceBEq, g0]) | refine dk (by kernel_rfl) ?_ | (refine qx (call_L (N' := [0]) (L := []) (kk) rfl (.cons (.nm rfl) (.nil)) (by decide) (by decide) (by decide) (by simp only [go_sem, Nat.reduceEqDiff, reduceIte, Nat.reduceAdd, Nat.reduceMul, Nat.reduceSub, Nat.reduceLT, Nat.reduceLeDiff, Nat.reduceBEq, g0]; first | done | rfl) (.inl rfl) rfl (by decide)) (by simp only [go_sem, Nat.reduceEqDiff, reduceIte, Nat.reduceAdd, Nat.reduceMul, Nat.reduceSub, Nat.reduceLT, Nat.reduceLeDiff, Nat.reduceBEq, g0]; first | done | rfl) rfl (by simp only [go_sem, Nat.reduceLT]) ?_; simp only [go_sem, Nat.reduceEqDiff, reduceIte, Nat.reduceAdd, Nat.reduceMul, Nat.reduceSub, Nat.reduceLT, Nat.reduceLeDiff, Nat.reduceBEq, g0]))
    exact Aw_ret (retL (M := [0]) (.inl rfl) (by simp only [go_sem, Nat.reduceEqDiff, reduceIte, Nat.reduceAdd, Nat.reduceMul, Nat.reduceSub, Nat.reduceLT, Nat.reduceLeDiff, Nat.reduceBEq]; first | done | rfl) rfl rfl (by rfl) (by simp only [go_sem, Nat.reduceEqDiff, reduceIte, Nat.reduceAdd, Nat.reduceMul, Nat.reduceSub, Nat.reduceLT, Nat.reduceLeDiff, Nat.reduceBEq]; first | done | rfl | (and_intros <;> rfl)) (by decide) (by intro m hm; first | omega | (rcases m with _ | _ | _ | _ | m <;> first | exact ⟨by decide, rfl⟩ | omega)))
  have g0 : decide (((l.length : Nat) : Int) = 0) = false := decide_eq_false (by omega)
  have k1 := pickV_ac (n := 4) hb (show p ≤ 1000000 by omega) (by omega)
  by_cases c1 : pickV b p 4 = 0
  · have e : nearV b p l = keyV b (p + 1) := by unfold nearV; rw [if_neg c0, if_pos c1]
    have kk := l71Key_ac hb (show p + 1 ≤ 900000 by omega)
    have g1 : decide (((pickV b p 4 : Nat) : Int) = 0) = true := decide_eq_true (by omega)
    rw [e]
    refine AC_of Try.func75 rfl Try.ntmps75 Try.results75 (by kernel_rfl) rfl ?_
    simp only [List.zipIdx, List.map, Nat.zero_add, Nat.reduceAdd]
    repeat (first | apply Aw_seq | apply Aw_block | apply Aw_skip | apply Aw_exit | refine Aw_condt rfl ?_ | refine Aw_condf rfl ?_ | (refine qr ?_; simp only [go_sem, Nat.reduceEqDiff, reduceIte, Nat.reduceAdd, Nat.reduceMul, Nat.reduceSub, Nat.reduceLT, Nat.reduceLeDiff, Nat.reduceBEq, g0, g1]) | (refine qd (by kernel_rfl) (by kernel_rfl) ?_; simp only [go_sem, Nat.reduceEqDiff, reduceIte, Nat.reduceAdd, Nat.reduceMul, Nat.reduceSub, Nat.reduceLT, Nat.reduceLeDiff, Nat.reduceBEq, g0, g1]) | refine dk (by kernel_rfl) ?_ | (refine qx (call_L (N' := [0]) (L := []) (k1) rfl (.cons (.nm rfl) (.cons (.nm rfl) (.nil))) (by decide) (by decide) (by decide) (by simp only [go_sem, Nat.reduceEqDiff, reduceIte, Nat.reduceAdd, Nat.reduceMul, Nat.reduceSub, Nat.reduceLT, Nat.reduceLeDiff, Nat.reduceBEq, g0, g1]; first | done | rfl) (.inl rfl) rfl (by decide)) (by simp only [go_sem, Nat.reduceEqDiff, reduceIte, Nat.reduceAdd, Nat.reduceMul, Nat.reduceSub, Nat.reduceLT, Nat.reduceLeDiff, Nat.reduceBEq, g0, g1]; first | done | rfl) rfl (by simp only [go_sem, Nat.reduceLT]) ?_; simp only [go_sem, Nat.reduceEqDiff, reduceIte, Nat.reduceAdd, Nat.reduceMul, Nat.reduceSub, Nat.reduceLT, Nat.reduceLeDiff, Nat.reduceBEq, g0, g1]) | (refine qx (call_L (N' := [0]) (L := []) (kk) rfl (.cons (.nm rfl) (.nil)) (by decide) (by decide) (by decide) (by simp only [go_sem, Nat.reduceEqDiff, reduceIte, Nat.reduceAdd, Nat.reduceMul, Nat.reduceSub, Nat.reduceLT, Nat.reduceLeDiff, Nat.reduceBEq, g0, g1]; first | done | rfl) (.inl rfl) rfl (by decide)) (by simp only [go_sem, Nat.reduceEqDiff, reduceIte, Nat.reduceAdd, Nat.reduceMul, Nat.reduceSub, Nat.reduceLT, Nat.reduceLeDiff, Nat.reduceBEq, g0, g1]; first | done | rfl) rfl (by simp only [go_sem, Nat.reduceLT]) ?_; simp only [go_sem, Nat.reduceEqDiff, reduceIte, Nat.reduceAdd, Nat.reduceMul, Nat.reduceSub, Nat.reduceLT, Nat.reduceLeDiff, Nat.reduceBEq, g0, g1]))
    exact Aw_ret (retL (M := [0]) (.inl rfl) (by simp only [go_sem, Nat.reduceEqDiff, reduceIte, Nat.reduceAdd, Nat.reduceMul, Nat.reduceSub, Nat.reduceLT, Nat.reduceLeDiff, Nat.reduceBEq]; first | done | rfl) rfl rfl (by rfl) (by simp only [go_sem, Nat.reduceEqDiff, reduceIte, Nat.reduceAdd, Nat.reduceMul, Nat.reduceSub, Nat.reduceLT, Nat.reduceLeDiff, Nat.reduceBEq]; first | done | rfl | (and_intros <;> rfl)) (by decide) (by intro m hm; first | omega | (rcases m with _ | _ | _ | _ | m <;> first | exact ⟨by decide, rfl⟩ | omega)))
  have g1 : decide (((pickV b p 4 : Nat) : Int) = 0) = false := decide_eq_false (by omega)
  have k2 := pickV_ac (n := (l.length : Int)) hb (show p + 1 ≤ 1000000 by omega) (by omega)
  have k3 := pickV_ac (n := 4) hb (show p + 1 + 1 ≤ 1000000 by omega) (by omega)
  have hx := ofV_at hb (show p + 1 ≤ 1000000 by omega) (show 0 < l.length by omega) hl
  obtain ⟨k, hk⟩ : ∃ k, k = ofV b (p + 1) l := ⟨_, rfl⟩
  rw [← hk] at hx
  have hks := hs k (List.mem_of_getElem? hx)
  by_cases c2 : pickV b (p + 1 + 1) 4 = 0
  · have e : nearV b p l = (k.extract 0 (pickV b (p + 1 + 1 + 1) ((k.size + 1 : Nat) : Int)), p + 4) := by unfold nearV; rw [if_neg c0, if_neg c1]; dsimp only; rw [if_pos c2, ← hk]
    have g2 : decide (((pickV b (p + 1 + 1) 4 : Nat) : Int) = 0) = true := decide_eq_true (by omega)
    have w1 : IntKind.i64.wrap ((k.size : Int) + 1) = ((k.size + 1 : Nat) : Int) := wn (by omega) (by omega)
    have k4 := pickV_ac (n := ((k.size + 1 : Nat) : Int)) hb (show p + 1 + 1 + 1 ≤ 1000000 by omega) (by omega)
    have h4 := pickV_lt (n := ((k.size + 1 : Nat) : Int)) hb (show p + 1 + 1 + 1 ≤ 1000000 by omega) (by omega) (by omega)
    have s1 : ((0 : Int) ≤ ((pickV b (p + 1 + 1 + 1) ((k.size + 1 : Nat) : Int) : Nat) : Int)) = True := eq_true (by omega)
    have s2 : (((pickV b (p + 1 + 1 + 1) ((k.size + 1 : Nat) : Int) : Nat) : Int) ≤ (k.size : Int)) = True := eq_true (by omega)
    have s3 : Int.toNat ((pickV b (p + 1 + 1 + 1) ((k.size + 1 : Nat) : Int) : Nat) : Int) = pickV b (p + 1 + 1 + 1) ((k.size + 1 : Nat) : Int) := rfl
    have s4 : Int.toNat 0 = 0 := rfl
    rw [e]
    refine AC_of Try.func75 rfl Try.ntmps75 Try.results75 (by kernel_rfl) rfl ?_
    simp only [List.zipIdx, List.map, Nat.zero_add, Nat.reduceAdd]
    repeat (first | apply Aw_seq | apply Aw_block | apply Aw_skip | apply Aw_exit | refine Aw_condt rfl ?_ | refine Aw_condf rfl ?_ | (refine qr ?_; simp only [go_sem, Nat.reduceEqDiff, reduceIte, Nat.reduceAdd, Nat.reduceMul, Nat.reduceSub, Nat.reduceLT, Nat.reduceLeDiff, Nat.reduceBEq, g0, g1, hx, g2, w1, s1, s2, s3, s4]) | (refine qd (by kernel_rfl) (by kernel_rfl) ?_; simp only [go_sem, Nat.reduceEqDiff, reduceIte, Nat.reduceAdd, Nat.reduceMul, Nat.reduceSub, Nat.reduceLT, Nat.reduceLeDiff, Nat.reduceBEq, g0, g1, hx, g2, w1, s1, s2, s3, s4]) | refine dk (by kernel_rfl) ?_ | (refine qx (call_L (N' := [0]) (L := []) (k1) rfl (.cons (.nm rfl) (.cons (.nm rfl) (.nil))) (by decide) (by decide) (by decide) (by simp only [go_sem, Nat.reduceEqDiff, reduceIte, Nat.reduceAdd, Nat.reduceMul, Nat.reduceSub, Nat.reduceLT, Nat.reduceLeDiff, Nat.reduceBEq, g0, g1, hx, g2, w1, s1, s2, s3, s4]; first | done | rfl) (.inl rfl) rfl (by decide)) (by simp only [go_sem, Nat.reduceEqDiff, reduceIte, Nat.reduceAdd, Nat.reduceMul, Nat.reduceSub, Nat.reduceLT, Nat.reduceLeDiff, Nat.reduceBEq, g0, g1, hx, g2, w1, s1, s2, s3, s4]; first | done | rfl) rfl (by simp only [go_sem, Nat.reduceLT]) ?_; simp only [go_sem, Nat.reduceEqDiff, reduceIte, Nat.reduceAdd, Nat.reduceMul, Nat.reduceSub, Nat.reduceLT, Nat.reduceLeDiff, Nat.reduceBEq, g0, g1, hx, g2, w1, s1, s2, s3, s4]) | (refine qx (call_L (N' := [0]) (L := []) (k2) rfl (.cons (.nm rfl) (.cons (.nm rfl) (.nil))) (by decide) (by decide) (by decide) (by simp only [go_sem, Nat.reduceEqDiff, reduceIte, Nat.reduceAdd, Nat.reduceMul, Nat.reduceSub, Nat.reduceLT, Nat.reduceLeDiff, Nat.reduceBEq, g0, g1, hx, g2, w1, s1, s2, s3, s4]; first | done | rfl) (.inl rfl) rfl (by decide)) (by simp only [go_sem, Nat.reduceEqDiff, reduceIte, Nat.reduceAdd, Nat.reduceMul, Nat.reduceSub, Nat.reduceLT, Nat.reduceLeDiff, Nat.reduceBEq, g0, g1, hx, g2, w1, s1, s2, s3, s4]; first | done | rfl) rfl (by simp only [go_sem, Nat.reduceLT]) ?_; simp only [go_sem, Nat.reduceEqDiff, reduceIte, Nat.reduceAdd, Nat.reduceMul, Nat.reduceSub, Nat.reduceLT, Nat.reduceLeDiff, Nat.reduceBEq, g0, g1, hx, g2, w1, s1, s2, s3, s4]) | (refine qx (call_L (N' := [0]) (L := []) (k3) rfl (.cons (.nm rfl) (.cons (.nm rfl) (.nil))) (by decide) (by decide) (by decide) (by simp only [go_sem, Nat.reduceEqDiff, reduceIte, Nat.reduceAdd, Nat.reduceMul, Nat.reduceSub, Nat.reduceLT, Nat.reduceLeDiff, Nat.reduceBEq, g0, g1, hx, g2, w1, s1, s2, s3, s4]; first | done | rfl) (.inl rfl) rfl (by decide)) (by simp only [go_sem, Nat.reduceEqDiff, reduceIte, Nat.reduceAdd, Nat.reduceMul, Nat.reduceSub, Nat.reduceLT, Nat.reduceLeDiff, Nat.reduceBEq, g0, g1, hx, g2, w1, s1, s2, s3, s4]; first | done | rfl) rfl (by simp only [go_sem, Nat.reduceLT]) ?_; simp only [go_sem, Nat.reduceEqDiff, reduceIte, Nat.reduceAdd, Nat.reduceMul, Nat.reduceSub, Nat.reduceLT, Nat.reduceLeDiff, Nat.reduceBEq, g0, g1, hx, g2, w1, s1, s2, s3, s4]) | (refine qx (call_L (N' := [0]) (L := []) (k4) rfl (.cons (.nm rfl) (.cons (.nm rfl) (.nil))) (by decide) (by decide) (by decide) (by simp only [go_sem, Nat.reduceEqDiff, reduceIte, Nat.reduceAdd, Nat.reduceMul, Nat.reduceSub, Nat.reduceLT, Nat.reduceLeDiff, Nat.reduceBEq, g0, g1, hx, g2, w1, s1, s2, s3, s4]; first | done | rfl) (.inl rfl) rfl (by decide)) (by simp only [go_sem, Nat.reduceEqDiff, reduceIte, Nat.reduceAdd, Nat.reduceMul, Nat.reduceSub, Nat.reduceLT, Nat.reduceLeDiff, Nat.reduceBEq, g0, g1, hx, g2, w1, s1, s2, s3, s4]; first | done | rfl) rfl (by simp only [go_sem, Nat.reduceLT]) ?_; simp only [go_sem, Nat.reduceEqDiff, reduceIte, Nat.reduceAdd, Nat.reduceMul, Nat.reduceSub, Nat.reduceLT, Nat.reduceLeDiff, Nat.reduceBEq, g0, g1, hx, g2, w1, s1, s2, s3, s4]))
    exact Aw_ret (retL (M := [0]) (.inl rfl) (by simp only [go_sem, Nat.reduceEqDiff, reduceIte, Nat.reduceAdd, Nat.reduceMul, Nat.reduceSub, Nat.reduceLT, Nat.reduceLeDiff, Nat.reduceBEq]; first | done | rfl) rfl rfl (by rfl) (by simp only [go_sem, Nat.reduceEqDiff, reduceIte, Nat.reduceAdd, Nat.reduceMul, Nat.reduceSub, Nat.reduceLT, Nat.reduceLeDiff, Nat.reduceBEq]; first | done | rfl | (and_intros <;> rfl)) (by decide) (by intro m hm; first | omega | (rcases m with _ | _ | _ | _ | m <;> first | exact ⟨by decide, rfl⟩ | omega)))
  have g2 : decide (((pickV b (p + 1 + 1) 4 : Nat) : Int) = 0) = false := decide_eq_false (by omega)
  by_cases c3 : pickV b (p + 1 + 1) 4 = 1
  · have g3 : decide (((pickV b (p + 1 + 1) 4 : Nat) : Int) = 1) = true := decide_eq_true (by omega)
    by_cases c4 : k.size < 5
    · have e : nearV b p l = (k ++ ofV b (p + 1 + 1 + 1) three, p + 4) := by unfold nearV; rw [if_neg c0, if_neg c1]; dsimp only; rw [if_neg c2, if_pos c3, ← hk, if_pos c4]
      have g4 : decide ((k.size : Int) < 5) = true := decide_eq_true (by omega)
      have e3 := three_size (ofV_mem (l := three) hb (show p + 1 + 1 + 1 ≤ 1000000 by omega) (by decide) (by decide))
      have gs : (k.size + (ofV b (p + 1 + 1 + 1) three).size ≤ 9223372036854775807) = True := eq_true (by rw [e3]; omega)
      have ko : AC Try.prog 125 [.c (.ph 0 0 0), .c (.h 1)] (hpL [some (rdO b (p + 1 + 1 + 1)), some (kRow [bs [97], bs [98], bs [100]])]) 2 ⟨.t (sT (ofV b (p + 1 + 1 + 1) three)), hpL [some (rdO b (p + 1 + 1 + 1 + 1)), none], 2⟩ := of_ac (l := three) hb (show p + 1 + 1 + 1 ≤ 1000000 by omega) (by decide) (by decide)
      rw [e]
      refine AC_of Try.func75 rfl Try.ntmps75 Try.results75 (by kernel_rfl) rfl ?_
      simp only [List.zipIdx, List.map, Nat.zero_add, Nat.reduceAdd]
      repeat (first | apply Aw_seq | apply Aw_block | apply Aw_skip | apply Aw_exit | refine Aw_condt rfl ?_ | refine Aw_condf rfl ?_ | (refine qr ?_; simp only [go_sem, Nat.reduceEqDiff, reduceIte, Nat.reduceAdd, Nat.reduceMul, Nat.reduceSub, Nat.reduceLT, Nat.reduceLeDiff, Nat.reduceBEq, g0, g1, hx, g2, g3, g4, gs]) | (refine qd (by kernel_rfl) (by kernel_rfl) ?_; simp only [go_sem, Nat.reduceEqDiff, reduceIte, Nat.reduceAdd, Nat.reduceMul, Nat.reduceSub, Nat.reduceLT, Nat.reduceLeDiff, Nat.reduceBEq, g0, g1, hx, g2, g3, g4, gs]) | refine dk (by kernel_rfl) ?_ | (refine qx (call_L (N' := [0]) (L := []) (k1) rfl (.cons (.nm rfl) (.cons (.nm rfl) (.nil))) (by decide) (by decide) (by decide) (by simp only [go_sem, Nat.reduceEqDiff, reduceIte, Nat.reduceAdd, Nat.reduceMul, Nat.reduceSub, Nat.reduceLT, Nat.reduceLeDiff, Nat.reduceBEq, g0, g1, hx, g2, g3, g4, gs]; first | done | rfl) (.inl rfl) rfl (by decide)) (by simp only [go_sem, Nat.reduceEqDiff, reduceIte, Nat.reduceAdd, Nat.reduceMul, Nat.reduceSub, Nat.reduceLT, Nat.reduceLeDiff, Nat.reduceBEq, g0, g1, hx, g2, g3, g4, gs]; first | done | rfl) rfl (by simp only [go_sem, Nat.reduceLT]) ?_; simp only [go_sem, Nat.reduceEqDiff, reduceIte, Nat.reduceAdd, Nat.reduceMul, Nat.reduceSub, Nat.reduceLT, Nat.reduceLeDiff, Nat.reduceBEq, g0, g1, hx, g2, g3, g4, gs]) | (refine qx (call_L (N' := [0]) (L := []) (k2) rfl (.cons (.nm rfl) (.cons (.nm rfl) (.nil))) (by decide) (by decide) (by decide) (by simp only [go_sem, Nat.reduceEqDiff, reduceIte, Nat.reduceAdd, Nat.reduceMul, Nat.reduceSub, Nat.reduceLT, Nat.reduceLeDiff, Nat.reduceBEq, g0, g1, hx, g2, g3, g4, gs]; first | done | rfl) (.inl rfl) rfl (by decide)) (by simp only [go_sem, Nat.reduceEqDiff, reduceIte, Nat.reduceAdd, Nat.reduceMul, Nat.reduceSub, Nat.reduceLT, Nat.reduceLeDiff, Nat.reduceBEq, g0, g1, hx, g2, g3, g4, gs]; first | done | rfl) rfl (by simp only [go_sem, Nat.reduceLT]) ?_; simp only [go_sem, Nat.reduceEqDiff, reduceIte, Nat.reduceAdd, Nat.reduceMul, Nat.reduceSub, Nat.reduceLT, Nat.reduceLeDiff, Nat.reduceBEq, g0, g1, hx, g2, g3, g4, gs]) | (refine qx (call_L (N' := [0]) (L := []) (k3) rfl (.cons (.nm rfl) (.cons (.nm rfl) (.nil))) (by decide) (by decide) (by decide) (by simp only [go_sem, Nat.reduceEqDiff, reduceIte, Nat.reduceAdd, Nat.reduceMul, Nat.reduceSub, Nat.reduceLT, Nat.reduceLeDiff, Nat.reduceBEq, g0, g1, hx, g2, g3, g4, gs]; first | done | rfl) (.inl rfl) rfl (by decide)) (by simp only [go_sem, Nat.reduceEqDiff, reduceIte, Nat.reduceAdd, Nat.reduceMul, Nat.reduceSub, Nat.reduceLT, Nat.reduceLeDiff, Nat.reduceBEq, g0, g1, hx, g2, g3, g4, gs]; first | done | rfl) rfl (by simp only [go_sem, Nat.reduceLT]) ?_; simp only [go_sem, Nat.reduceEqDiff, reduceIte, Nat.reduceAdd, Nat.reduceMul, Nat.reduceSub, Nat.reduceLT, Nat.reduceLeDiff, Nat.reduceBEq, g0, g1, hx, g2, g3, g4, gs]) | (refine qx (call_L (N' := [0, 26]) (L := []) (ko) rfl (.cons (.nm rfl) (.cons (.nm rfl) (.nil))) (by decide) (by decide) (by decide) (by simp only [go_sem, Nat.reduceEqDiff, reduceIte, Nat.reduceAdd, Nat.reduceMul, Nat.reduceSub, Nat.reduceLT, Nat.reduceLeDiff, Nat.reduceBEq, g0, g1, hx, g2, g3, g4, gs]; first | done | rfl) (.inl rfl) rfl (by decide)) (by simp only [go_sem, Nat.reduceEqDiff, reduceIte, Nat.reduceAdd, Nat.reduceMul, Nat.reduceSub, Nat.reduceLT, Nat.reduceLeDiff, Nat.reduceBEq, g0, g1, hx, g2, g3, g4, gs]; first | done | rfl) rfl (by simp only [go_sem, Nat.reduceLT]) ?_; simp only [go_sem, Nat.reduceEqDiff, reduceIte, Nat.reduceAdd, Nat.reduceMul, Nat.reduceSub, Nat.reduceLT, Nat.reduceLeDiff, Nat.reduceBEq, g0, g1, hx, g2, g3, g4, gs]))
      exact Aw_ret (retL (M := [0]) (.inl rfl) (by simp only [go_sem, Nat.reduceEqDiff, reduceIte, Nat.reduceAdd, Nat.reduceMul, Nat.reduceSub, Nat.reduceLT, Nat.reduceLeDiff, Nat.reduceBEq]; first | done | rfl) rfl rfl (by rfl) (by simp only [go_sem, Nat.reduceEqDiff, reduceIte, Nat.reduceAdd, Nat.reduceMul, Nat.reduceSub, Nat.reduceLT, Nat.reduceLeDiff, Nat.reduceBEq]; first | done | rfl | (and_intros <;> rfl)) (by decide) (by intro m hm; first | omega | (rcases m with _ | _ | _ | _ | m <;> first | exact ⟨by decide, rfl⟩ | omega)))
    · have e : nearV b p l = (k, p + 3) := by unfold nearV; rw [if_neg c0, if_neg c1]; dsimp only; rw [if_neg c2, if_pos c3, ← hk, if_neg c4]
      have g4 : decide ((k.size : Int) < 5) = false := decide_eq_false (by omega)
      rw [e]
      refine AC_of Try.func75 rfl Try.ntmps75 Try.results75 (by kernel_rfl) rfl ?_
      simp only [List.zipIdx, List.map, Nat.zero_add, Nat.reduceAdd]
      repeat (first | apply Aw_seq | apply Aw_block | apply Aw_skip | apply Aw_exit | refine Aw_condt rfl ?_ | refine Aw_condf rfl ?_ | (refine qr ?_; simp only [go_sem, Nat.reduceEqDiff, reduceIte, Nat.reduceAdd, Nat.reduceMul, Nat.reduceSub, Nat.reduceLT, Nat.reduceLeDiff, Nat.reduceBEq, g0, g1, hx, g2, g3, g4]) | (refine qd (by kernel_rfl) (by kernel_rfl) ?_; simp only [go_sem, Nat.reduceEqDiff, reduceIte, Nat.reduceAdd, Nat.reduceMul, Nat.reduceSub, Nat.reduceLT, Nat.reduceLeDiff, Nat.reduceBEq, g0, g1, hx, g2, g3, g4]) | refine dk (by kernel_rfl) ?_ | (refine qx (call_L (N' := [0]) (L := []) (k1) rfl (.cons (.nm rfl) (.cons (.nm rfl) (.nil))) (by decide) (by decide) (by decide) (by simp only [go_sem, Nat.reduceEqDiff, reduceIte, Nat.reduceAdd, Nat.reduceMul, Nat.reduceSub, Nat.reduceLT, Nat.reduceLeDiff, Nat.reduceBEq, g0, g1, hx, g2, g3, g4]; first | done | rfl) (.inl rfl) rfl (by decide)) (by simp only [go_sem, Nat.reduceEqDiff, reduceIte, Nat.reduceAdd, Nat.reduceMul, Nat.reduceSub, Nat.reduceLT, Nat.reduceLeDiff, Nat.reduceBEq, g0, g1, hx, g2, g3, g4]; first | done | rfl) rfl (by simp only [go_sem, Nat.reduceLT]) ?_; simp only [go_sem, Nat.reduceEqDiff, reduceIte, Nat.reduceAdd, Nat.reduceMul, Nat.reduceSub, Nat.reduceLT, Nat.reduceLeDiff, Nat.reduceBEq, g0, g1, hx, g2, g3, g4]) | (refine qx (call_L (N' := [0]) (L := []) (k2) rfl (.cons (.nm rfl) (.cons (.nm rfl) (.nil))) (by decide) (by decide) (by decide) (by simp only [go_sem, Nat.reduceEqDiff, reduceIte, Nat.reduceAdd, Nat.reduceMul, Nat.reduceSub, Nat.reduceLT, Nat.reduceLeDiff, Nat.reduceBEq, g0, g1, hx, g2, g3, g4]; first | done | rfl) (.inl rfl) rfl (by decide)) (by simp only [go_sem, Nat.reduceEqDiff, reduceIte, Nat.reduceAdd, Nat.reduceMul, Nat.reduceSub, Nat.reduceLT, Nat.reduceLeDiff, Nat.reduceBEq, g0, g1, hx, g2, g3, g4]; first | done | rfl) rfl (by simp only [go_sem, Nat.reduceLT]) ?_; simp only [go_sem, Nat.reduceEqDiff, reduceIte, Nat.reduceAdd, Nat.reduceMul, Nat.reduceSub, Nat.reduceLT, Nat.reduceLeDiff, Nat.reduceBEq, g0, g1, hx, g2, g3, g4]) | (refine qx (call_L (N' := [0]) (L := []) (k3) rfl (.cons (.nm rfl) (.cons (.nm rfl) (.nil))) (by decide) (by decide) (by decide) (by simp only [go_sem, Nat.reduceEqDiff, reduceIte, Nat.reduceAdd, Nat.reduceMul, Nat.reduceSub, Nat.reduceLT, Nat.reduceLeDiff, Nat.reduceBEq, g0, g1, hx, g2, g3, g4]; first | done | rfl) (.inl rfl) rfl (by decide)) (by simp only [go_sem, Nat.reduceEqDiff, reduceIte, Nat.reduceAdd, Nat.reduceMul, Nat.reduceSub, Nat.reduceLT, Nat.reduceLeDiff, Nat.reduceBEq, g0, g1, hx, g2, g3, g4]; first | done | rfl) rfl (by simp only [go_sem, Nat.reduceLT]) ?_; simp only [go_sem, Nat.reduceEqDiff, reduceIte, Nat.reduceAdd, Nat.reduceMul, Nat.reduceSub, Nat.reduceLT, Nat.reduceLeDiff, Nat.reduceBEq, g0, g1, hx, g2, g3, g4]))
      exact Aw_ret (retL (M := [0]) (.inl rfl) (by simp only [go_sem, Nat.reduceEqDiff, reduceIte, Nat.reduceAdd, Nat.reduceMul, Nat.reduceSub, Nat.reduceLT, Nat.reduceLeDiff, Nat.reduceBEq]; first | done | rfl) rfl rfl (by rfl) (by simp only [go_sem, Nat.reduceEqDiff, reduceIte, Nat.reduceAdd, Nat.reduceMul, Nat.reduceSub, Nat.reduceLT, Nat.reduceLeDiff, Nat.reduceBEq]; first | done | rfl | (and_intros <;> rfl)) (by decide) (by intro m hm; first | omega | (rcases m with _ | _ | _ | _ | m <;> first | exact ⟨by decide, rfl⟩ | omega)))
  · have g3 : decide (((pickV b (p + 1 + 1) 4 : Nat) : Int) = 1) = false := decide_eq_false (by omega)
    have e : nearV b p l = (k, p + 3) := by unfold nearV; rw [if_neg c0, if_neg c1]; dsimp only; rw [if_neg c2, if_neg c3, ← hk]
    rw [e]
    refine AC_of Try.func75 rfl Try.ntmps75 Try.results75 (by kernel_rfl) rfl ?_
    simp only [List.zipIdx, List.map, Nat.zero_add, Nat.reduceAdd]
    repeat (first | apply Aw_seq | apply Aw_block | apply Aw_skip | apply Aw_exit | refine Aw_condt rfl ?_ | refine Aw_condf rfl ?_ | (refine qr ?_; simp only [go_sem, Nat.reduceEqDiff, reduceIte, Nat.reduceAdd, Nat.reduceMul, Nat.reduceSub, Nat.reduceLT, Nat.reduceLeDiff, Nat.reduceBEq, g0, g1, hx, g2, g3]) | (refine qd (by kernel_rfl) (by kernel_rfl) ?_; simp only [go_sem, Nat.reduceEqDiff, reduceIte, Nat.reduceAdd, Nat.reduceMul, Nat.reduceSub, Nat.reduceLT, Nat.reduceLeDiff, Nat.reduceBEq, g0, g1, hx, g2, g3]) | refine dk (by kernel_rfl) ?_ | (refine qx (call_L (N' := [0]) (L := []) (k1) rfl (.cons (.nm rfl) (.cons (.nm rfl) (.nil))) (by decide) (by decide) (by decide) (by simp only [go_sem, Nat.reduceEqDiff, reduceIte, Nat.reduceAdd, Nat.reduceMul, Nat.reduceSub, Nat.reduceLT, Nat.reduceLeDiff, Nat.reduceBEq, g0, g1, hx, g2, g3]; first | done | rfl) (.inl rfl) rfl (by decide)) (by simp only [go_sem, Nat.reduceEqDiff, reduceIte, Nat.reduceAdd, Nat.reduceMul, Nat.reduceSub, Nat.reduceLT, Nat.reduceLeDiff, Nat.reduceBEq, g0, g1, hx, g2, g3]; first | done | rfl) rfl (by simp only [go_sem, Nat.reduceLT]) ?_; simp only [go_sem, Nat.reduceEqDiff, reduceIte, Nat.reduceAdd, Nat.reduceMul, Nat.reduceSub, Nat.reduceLT, Nat.reduceLeDiff, Nat.reduceBEq, g0, g1, hx, g2, g3]) | (refine qx (call_L (N' := [0]) (L := []) (k2) rfl (.cons (.nm rfl) (.cons (.nm rfl) (.nil))) (by decide) (by decide) (by decide) (by simp only [go_sem, Nat.reduceEqDiff, reduceIte, Nat.reduceAdd, Nat.reduceMul, Nat.reduceSub, Nat.reduceLT, Nat.reduceLeDiff, Nat.reduceBEq, g0, g1, hx, g2, g3]; first | done | rfl) (.inl rfl) rfl (by decide)) (by simp only [go_sem, Nat.reduceEqDiff, reduceIte, Nat.reduceAdd, Nat.reduceMul, Nat.reduceSub, Nat.reduceLT, Nat.reduceLeDiff, Nat.reduceBEq, g0, g1, hx, g2, g3]; first | done | rfl) rfl (by simp only [go_sem, Nat.reduceLT]) ?_; simp only [go_sem, Nat.reduceEqDiff, reduceIte, Nat.reduceAdd, Nat.reduceMul, Nat.reduceSub, Nat.reduceLT, Nat.reduceLeDiff, Nat.reduceBEq, g0, g1, hx, g2, g3]) | (refine qx (call_L (N' := [0]) (L := []) (k3) rfl (.cons (.nm rfl) (.cons (.nm rfl) (.nil))) (by decide) (by decide) (by decide) (by simp only [go_sem, Nat.reduceEqDiff, reduceIte, Nat.reduceAdd, Nat.reduceMul, Nat.reduceSub, Nat.reduceLT, Nat.reduceLeDiff, Nat.reduceBEq, g0, g1, hx, g2, g3]; first | done | rfl) (.inl rfl) rfl (by decide)) (by simp only [go_sem, Nat.reduceEqDiff, reduceIte, Nat.reduceAdd, Nat.reduceMul, Nat.reduceSub, Nat.reduceLT, Nat.reduceLeDiff, Nat.reduceBEq, g0, g1, hx, g2, g3]; first | done | rfl) rfl (by simp only [go_sem, Nat.reduceLT]) ?_; simp only [go_sem, Nat.reduceEqDiff, reduceIte, Nat.reduceAdd, Nat.reduceMul, Nat.reduceSub, Nat.reduceLT, Nat.reduceLeDiff, Nat.reduceBEq, g0, g1, hx, g2, g3]))
    exact Aw_ret (retL (M := [0]) (.inl rfl) (by simp only [go_sem, Nat.reduceEqDiff, reduceIte, Nat.reduceAdd, Nat.reduceMul, Nat.reduceSub, Nat.reduceLT, Nat.reduceLeDiff, Nat.reduceBEq]; first | done | rfl) rfl rfl (by rfl) (by simp only [go_sem, Nat.reduceEqDiff, reduceIte, Nat.reduceAdd, Nat.reduceMul, Nat.reduceSub, Nat.reduceLT, Nat.reduceLeDiff, Nat.reduceBEq]; first | done | rfl | (and_intros <;> rfl)) (by decide) (by intro m hm; first | omega | (rcases m with _ | _ | _ | _ | m <;> first | exact ⟨by decide, rfl⟩ | omega)))
noncomputable def keysL (b : List Int) : Nat → List ByteArray → Nat → List ByteArray × Nat
  | 0, l, p => (l, p)
  | n + 1, l, p => keysL b n (putK l (nearV b p l).1) (nearV b p l).2
noncomputable def keysV (b : List Int) (p : Nat) (most : Nat) : List ByteArray × Nat := keysL b (pickV b p ((most + 1 : Nat) : Int)) [] (p + 1)
theorem keysL_fin {b : List Int} (hb : byteL b) : ∀ (n : Nat) (l : List ByteArray) (p : Nat), p + 7 * n ≤ 700000 → l.length + n ≤ 1000 → (∀ s ∈ l, s.size ≤ 5) → (keysL b n l p).1.length ≤ l.length + n ∧ (∀ s ∈ (keysL b n l p).1, s.size ≤ 5) ∧ (keysL b n l p).2 ≤ p + 7 * n
  | 0, l, p, _, _, h => ⟨by simp [keysL], h, by simp [keysL]⟩
  | n + 1, l, p, h1, h2, h3 => by
    obtain ⟨a1, a2⟩ := nearV_fin hb (p := p) (K := 5) (l := l) (by omega) (by omega) (by omega) h3
    obtain ⟨b1, b2⟩ := putK_mem (ks := l) (k := (nearV b p l).1)
    obtain ⟨c1, c2, c3⟩ := keysL_fin hb n (putK l (nearV b p l).1) (nearV b p l).2 (by omega) (by omega) (fun s hs => by
      rcases b1 s hs with h | h
      · exact h3 s h
      · rw [h]; exact a1)
    exact ⟨by simp only [keysL]; omega, by simp only [keysL]; exact c2, by simp only [keysL]; omega⟩
theorem keysV_fin {b : List Int} (hb : byteL b) {p most : Nat} (hp : p ≤ 600000) (hm : most ≤ 100) : (keysV b p most).1.length ≤ most ∧ (∀ s ∈ (keysV b p most).1, s.size ≤ 5) ∧ (keysV b p most).2 ≤ p + 1 + 7 * most := by
  have h := pickV_lt (n := ((most + 1 : Nat) : Int)) hb (show p ≤ 1000000 by omega) (by omega) (by omega)
  obtain ⟨h1, h2, h3⟩ := keysL_fin hb (pickV b p ((most + 1 : Nat) : Int)) [] (p + 1) (by omega) (by show 0 + _ ≤ _; omega) (by simp)
  unfold keysV
  rw [show ([] : List ByteArray).length = 0 from rfl] at h1
  exact ⟨by omega, h2, by omega⟩
structure KsI (b : List Int) (p0 most : Nat) where
  n : Nat
  l : List ByteArray
  p : Nat
  hn : l.length + n ≤ 1000
  hs : ∀ s ∈ l, s.size ≤ 5
  hp : p + 7 * n ≤ 700000
  h : keysL b n l p = keysV b p0 most
theorem l71Keys_ac {b : List Int} {p most : Nat} (hb : byteL b) (hp : p ≤ 600000) (hm : most ≤ 100) : AC Try.prog 152 [.c (.ph 0 0 0), iT most] (hpL [some (rdO b p)]) 1 ⟨.t (strsT (keysV b p most).1), hpL [some (rdO b (keysV b p most).2)], 1⟩ := by
  refine AC_of Try.func152 rfl Try.ntmps152 Try.results152 (by kernel_rfl) rfl ?_
  simp only [List.zipIdx, List.map, Nat.zero_add, Nat.reduceAdd]
  have w0 : IntKind.i64.wrap ((most : Int) + 1) = ((most + 1 : Nat) : Int) := wn (by omega) (by omega)
  have k := pickV_ac (n := ((most + 1 : Nat) : Int)) hb (show p ≤ 1000000 by omega) (by omega)
  have h6 := pickV_lt (n := ((most + 1 : Nat) : Int)) hb (show p ≤ 1000000 by omega) (by omega) (by omega)
  repeat (first | apply Aw_seq | apply Aw_block | apply Aw_skip | apply Aw_exit | refine Aw_condt rfl ?_ | refine Aw_condf rfl ?_ | (refine qr ?_; simp only [go_sem, Nat.reduceEqDiff, reduceIte, Nat.reduceAdd, Nat.reduceMul, Nat.reduceSub, Nat.reduceLT, Nat.reduceLeDiff, Nat.reduceBEq, w0]) | (refine qd (by kernel_rfl) (by kernel_rfl) ?_; simp only [go_sem, Nat.reduceEqDiff, reduceIte, Nat.reduceAdd, Nat.reduceMul, Nat.reduceSub, Nat.reduceLT, Nat.reduceLeDiff, Nat.reduceBEq, w0]) | refine dk (by kernel_rfl) ?_ | (refine qx (call_L (N' := [0]) (L := []) (k) rfl (.cons (.nm rfl) (.cons (.nm rfl) (.nil))) (by decide) (by decide) (by decide) (by simp only [go_sem, Nat.reduceEqDiff, reduceIte, Nat.reduceAdd, Nat.reduceMul, Nat.reduceSub, Nat.reduceLT, Nat.reduceLeDiff, Nat.reduceBEq, w0]; first | done | rfl) (.inl rfl) rfl (by decide)) (by simp only [go_sem, Nat.reduceEqDiff, reduceIte, Nat.reduceAdd, Nat.reduceMul, Nat.reduceSub, Nat.reduceLT, Nat.reduceLeDiff, Nat.reduceBEq, w0]; first | done | rfl) rfl (by simp only [go_sem, Nat.reduceLT]) ?_; simp only [go_sem, Nat.reduceEqDiff, reduceIte, Nat.reduceAdd, Nat.reduceMul, Nat.reduceSub, Nat.reduceLT, Nat.reduceLeDiff, Nat.reduceBEq, w0]))
  refine Aw.rw (rwL (l' := [(6, .t (iT (pickV b p ((most + 1 : Nat) : Int) : Nat))), (5, .t (.c (.h 1))), (0, .t (.c (.ph 0 0 0)))]) (os := [some (rdO b (p + 1)), some (kRow [])]) (M := [0, 2]) (n' := 2) (by repeat (first | exact trivial | refine ⟨rfl, rfl, ?_⟩)) (by rfl) (by simp only [go_sem, Nat.reduceEqDiff, reduceIte, Nat.reduceAdd, Nat.reduceMul, Nat.reduceSub, Nat.reduceLT, Nat.reduceLeDiff, Nat.reduceBEq, List.map_nil]; first | done | rfl) (by decide) (by intro m hm; first | omega | (rcases m with _ | _ | _ | _ | m <;> first | exact ⟨by decide, rfl⟩ | omega))) ?_
  refine Aw.setL (l' := [(6, .t (iT (pickV b p ((most + 1 : Nat) : Int) : Nat))), (5, .t (strsT [])), (0, .t (.c (.ph 0 0 0)))]) (os' := [some (rdO b (p + 1))]) (n' := 2) [1] (by repeat (first | exact trivial | refine ⟨SetA.same rfl, ?_⟩ | refine ⟨SetA.row rfl rfl (by decide), ?_⟩)) (by repeat (first | exact trivial | refine ⟨rfl, rfl, ?_⟩ | show SubL _ _ _ _)) (by decide) ?_
  refine Aw_loop_rw (ι := KsI b p most) (fun q => S [(6, .t (iT (q.n : Nat))), (5, .t (strsT q.l)), (0, .t (.c (.ph 0 0 0)))] (hpL [some (rdO b q.p)]) 2) (fun q => q.n) ⟨pickV b p ((most + 1 : Nat) : Int), [], p + 1, by show 0 + _ ≤ _; omega, by simp, by omega, rfl⟩ ?_
  rintro ⟨n, l, q, hn, hs, hq, h⟩
  dsimp only
  rcases n with _ | n
  · have g1 : decide ((0 : Int) < ((0 : Nat) : Int)) = false := rfl
    rw [← h]
    repeat (first | apply Aw_seq | apply Aw_block | apply Aw_skip | apply Aw_exit | refine Aw_condt rfl ?_ | refine Aw_condf rfl ?_ | (refine qr ?_; simp only [go_sem, Nat.reduceEqDiff, reduceIte, Nat.reduceAdd, Nat.reduceMul, Nat.reduceSub, Nat.reduceLT, Nat.reduceLeDiff, Nat.reduceBEq, g1]) | (refine qd (by kernel_rfl) (by kernel_rfl) ?_; simp only [go_sem, Nat.reduceEqDiff, reduceIte, Nat.reduceAdd, Nat.reduceMul, Nat.reduceSub, Nat.reduceLT, Nat.reduceLeDiff, Nat.reduceBEq, g1]) | refine dk (by kernel_rfl) ?_)
    exact Aw_ret (retL (M := [0]) (.inl rfl) (by simp only [go_sem, Nat.reduceEqDiff, reduceIte, Nat.reduceAdd, Nat.reduceMul, Nat.reduceSub, Nat.reduceLT, Nat.reduceLeDiff, Nat.reduceBEq]; first | done | rfl) rfl rfl (by rfl) (by simp only [go_sem, Nat.reduceEqDiff, reduceIte, Nat.reduceAdd, Nat.reduceMul, Nat.reduceSub, Nat.reduceLT, Nat.reduceLeDiff, Nat.reduceBEq, keysL]; first | done | rfl | (and_intros <;> rfl)) (by decide) (by intro m hm; first | omega | (rcases m with _ | _ | _ | _ | m <;> first | exact ⟨by decide, rfl⟩ | omega)))
  · have g1 : decide ((0 : Int) < ((n + 1 : Nat) : Int)) = true := decide_eq_true (by omega)
    have w1 : IntKind.i64.wrap (((n + 1 : Nat) : Int) - 1) = (n : Int) := wn (by omega) (by omega)
    have kn := l71Near_ac (l := l) hb (show q ≤ 800000 by omega) (by omega) (fun s h => by have := hs s h; omega)
    have kp := l2Put_ac l (nearV b q l).1 (by omega)
    obtain ⟨a1, a2⟩ := nearV_fin hb (p := q) (K := 5) (l := l) (by omega) (by omega) (by omega) hs
    obtain ⟨b1, b2⟩ := putK_mem (ks := l) (k := (nearV b q l).1)
    repeat (first | apply Aw_seq | apply Aw_block | apply Aw_skip | apply Aw_exit | refine Aw_condt rfl ?_ | refine Aw_condf rfl ?_ | (refine qr ?_; simp only [go_sem, Nat.reduceEqDiff, reduceIte, Nat.reduceAdd, Nat.reduceMul, Nat.reduceSub, Nat.reduceLT, Nat.reduceLeDiff, Nat.reduceBEq, g1, w1]) | (refine qd (by kernel_rfl) (by kernel_rfl) ?_; simp only [go_sem, Nat.reduceEqDiff, reduceIte, Nat.reduceAdd, Nat.reduceMul, Nat.reduceSub, Nat.reduceLT, Nat.reduceLeDiff, Nat.reduceBEq, g1, w1]) | refine dk (by kernel_rfl) ?_ | (refine qp (kp) (by simp only [go_sem, Nat.reduceEqDiff, reduceIte, Nat.reduceAdd, Nat.reduceMul, Nat.reduceSub, Nat.reduceLT, Nat.reduceLeDiff, Nat.reduceBEq, g1, w1]; first | done | rfl) rfl (by simp only [go_sem, Nat.reduceLT]) rfl rfl ?_; simp only [go_sem, Nat.reduceEqDiff, reduceIte, Nat.reduceAdd, Nat.reduceMul, Nat.reduceSub, Nat.reduceLT, Nat.reduceLeDiff, Nat.reduceBEq, g1, w1]) | (refine qx (call_L (N' := [0]) (L := []) (kn) rfl (.cons (.nm rfl) (.cons (.nm rfl) (.nil))) (by decide) (by decide) (by decide) (by simp only [go_sem, Nat.reduceEqDiff, reduceIte, Nat.reduceAdd, Nat.reduceMul, Nat.reduceSub, Nat.reduceLT, Nat.reduceLeDiff, Nat.reduceBEq, g1, w1]; first | done | rfl) (.inl rfl) rfl (by decide)) (by simp only [go_sem, Nat.reduceEqDiff, reduceIte, Nat.reduceAdd, Nat.reduceMul, Nat.reduceSub, Nat.reduceLT, Nat.reduceLeDiff, Nat.reduceBEq, g1, w1]; first | done | rfl) rfl (by simp only [go_sem, Nat.reduceLT]) ?_; simp only [go_sem, Nat.reduceEqDiff, reduceIte, Nat.reduceAdd, Nat.reduceMul, Nat.reduceSub, Nat.reduceLT, Nat.reduceLeDiff, Nat.reduceBEq, g1, w1]))
    refine ⟨⟨n, putK l (nearV b q l).1, (nearV b q l).2, by omega, fun s hs2 => (b1 s hs2).elim (hs s) (fun e => by rw [e]; exact a1), by omega, h⟩, [0], ?_, rwL (by repeat (first | exact trivial | refine ⟨rfl, rfl, ?_⟩)) (by rfl) (by simp only [go_sem, Nat.reduceEqDiff, reduceIte, Nat.reduceAdd, Nat.reduceMul, Nat.reduceSub, Nat.reduceLT, Nat.reduceLeDiff, Nat.reduceBEq]; first | done | rfl) (by decide) (by intro m hm; first | omega | (rcases m with _ | _ | _ | _ | m <;> first | exact ⟨by decide, rfl⟩ | omega))⟩
    show n < n + 1; omega
end Go.Proofs.Ytcbhgglpgphimaa.Ab
namespace Go.Proofs.Ytcbhgglpgphimaa.Ab
set_option linter.deprecated false
set_option linter.unusedVariables false
set_option linter.unusedSimpArgs false
open Go Go.Proofs
set_option maxRecDepth 10000
set_option maxHeartbeats 8000000
set_option linter.unusedSimpArgs false
set_option linter.unusedVariables false
noncomputable def deedV (b : List Int) (p : Nat) (l : List ByteArray) : Deed × Nat :=
  if pickV b p 10 < 5 then (⟨1, (nearV b (p + 1) l).1, (pickV b (nearV b (p + 1) l).2 100 : Nat)⟩, (nearV b (p + 1) l).2 + 1)
  else if pickV b p 10 = 5 then (⟨2, (nearV b (p + 1) l).1, 0⟩, (nearV b (p + 1) l).2)
  else if pickV b p 10 = 6 then (⟨3, zs, 0⟩, p + 1)
  else if pickV b p 10 = 7 then (⟨4, zs, (pickV b (p + 1) 20 : Nat)⟩, p + 2)
  else if pickV b p 10 = 8 then (⟨5, zs, 0⟩, p + 1)
  else (⟨6, zs, (pickV b (p + 1) 3 : Nat)⟩, p + 2)
theorem deedV_fin {b : List Int} (hb : byteL b) {p : Nat} {l : List ByteArray} (hp : p ≤ 500000) (hl : l.length ≤ 1000) (hs : ∀ s ∈ l, s.size ≤ 5) : (deedV b p l).1.key.size ≤ 5 ∧ (deedV b p l).2 ≤ p + 9 := by
  have h := nearV_fin hb (p := p + 1) (K := 5) (l := l) (by omega) hl (by omega) hs
  have z : zs.size = 0 := rfl
  unfold deedV
  (repeat' split) <;> dsimp only <;> (constructor <;> omega)
theorem l71Deed_ac {b : List Int} {p : Nat} {l : List ByteArray} (hb : byteL b) (hp : p ≤ 500000) (hl : l.length ≤ 1000) (hs : ∀ s ∈ l, s.size ≤ 5) : AC Try.prog 153 [.c (.ph 0 0 0), strsT l] (hpL [some (rdO b p)]) 1 ⟨.t (deedT (deedV b p l).1), hpL [some (rdO b (deedV b p l).2)], 1⟩ := by
  have k1 := pickV_ac (n := 10) hb (show p ≤ 1000000 by omega) (by omega)
  have h1 := pickV_lt (n := 10) hb (show p ≤ 1000000 by omega) (by omega) (by omega)
  have kn := l71Near_ac (l := l) hb (show p + 1 ≤ 800000 by omega) hl (fun s h => by have := hs s h; omega)
  have hn := nearV_fin hb (p := p + 1) (K := 5) (l := l) (by omega) hl (by omega) hs
  have k2 := pickV_ac (n := 100) hb (show (nearV b (p + 1) l).2 ≤ 1000000 by omega) (by omega)
  have k3 := pickV_ac (n := 20) hb (show p + 1 ≤ 1000000 by omega) (by omega)
  have k4 := pickV_ac (n := 3) hb (show p + 1 ≤ 1000000 by omega) (by omega)
  have hc : pickV b p 10 = 0 ∨ pickV b p 10 = 1 ∨ pickV b p 10 = 2 ∨ pickV b p 10 = 3 ∨ pickV b p 10 = 4 ∨ pickV b p 10 = 5 ∨ pickV b p 10 = 6 ∨ pickV b p 10 = 7 ∨ pickV b p 10 = 8 ∨ pickV b p 10 = 9 := by omega
  unfold deedV
  rcases hc with hv | hv | hv | hv | hv | hv | hv | hv | hv | hv
  · rw [hv] at k1
    have g0 : decide (((0 : Nat) : Int) = 0) = true := rfl
    simp only [hv]
    rw [if_pos (show 0 < 5 by decide)]
    refine AC_of Try.func153 rfl Try.ntmps153 Try.results153 (by kernel_rfl) rfl ?_
    simp only [List.zipIdx, List.map, Nat.zero_add, Nat.reduceAdd]
    repeat (first | apply Aw_seq | apply Aw_block | apply Aw_skip | apply Aw_exit | refine Aw_condt rfl ?_ | refine Aw_condf rfl ?_ | (refine qr ?_; simp only [go_sem, Nat.reduceEqDiff, reduceIte, Nat.reduceAdd, Nat.reduceMul, Nat.reduceSub, Nat.reduceLT, Nat.reduceLeDiff, Nat.reduceBEq, g0]) | (refine qd (by kernel_rfl) (by kernel_rfl) ?_; simp only [go_sem, Nat.reduceEqDiff, reduceIte, Nat.reduceAdd, Nat.reduceMul, Nat.reduceSub, Nat.reduceLT, Nat.reduceLeDiff, Nat.reduceBEq, g0]) | refine dk (by kernel_rfl) ?_ | (refine qx (call_L (N' := [0]) (L := []) (k1) rfl (.cons (.nm rfl) (.cons (.nm rfl) (.nil))) (by decide) (by decide) (by decide) (by simp only [go_sem, Nat.reduceEqDiff, reduceIte, Nat.reduceAdd, Nat.reduceMul, Nat.reduceSub, Nat.reduceLT, Nat.reduceLeDiff, Nat.reduceBEq, g0]; first | done | rfl) (.inl rfl) rfl (by decide)) (by simp only [go_sem, Nat.reduceEqDiff, reduceIte, Nat.reduceAdd, Nat.reduceMul, Nat.reduceSub, Nat.reduceLT, Nat.reduceLeDiff, Nat.reduceBEq, g0]; first | done | rfl) rfl (by simp only [go_sem, Nat.reduceLT]) ?_; simp only [go_sem, Nat.reduceEqDiff, reduceIte, Nat.reduceAdd, Nat.reduceMul, Nat.reduceSub, Nat.reduceLT, Nat.reduceLeDiff, Nat.reduceBEq, g0]) | (refine qx (call_L (N' := [0]) (L := []) (kn) rfl (.cons (.nm rfl) (.cons (.nm rfl) (.nil))) (by decide) (by decide) (by decide) (by simp only [go_sem, Nat.reduceEqDiff, reduceIte, Nat.reduceAdd, Nat.reduceMul, Nat.reduceSub, Nat.reduceLT, Nat.reduceLeDiff, Nat.reduceBEq, g0]; first | done | rfl) (.inl rfl) rfl (by decide)) (by simp only [go_sem, Nat.reduceEqDiff, reduceIte, Nat.reduceAdd, Nat.reduceMul, Nat.reduceSub, Nat.reduceLT, Nat.reduceLeDiff, Nat.reduceBEq, g0]; first | done | rfl) rfl (by simp only [go_sem, Nat.reduceLT]) ?_; simp only [go_sem, Nat.reduceEqDiff, reduceIte, Nat.reduceAdd, Nat.reduceMul, Nat.reduceSub, Nat.reduceLT, Nat.reduceLeDiff, Nat.reduceBEq, g0]) | (refine qx (call_L (N' := [0]) (L := []) (k2) rfl (.cons (.nm rfl) (.cons (.nm rfl) (.nil))) (by decide) (by decide) (by decide) (by simp only [go_sem, Nat.reduceEqDiff, reduceIte, Nat.reduceAdd, Nat.reduceMul, Nat.reduceSub, Nat.reduceLT, Nat.reduceLeDiff, Nat.reduceBEq, g0]; first | done | rfl) (.inl rfl) rfl (by decide)) (by simp only [go_sem, Nat.reduceEqDiff, reduceIte, Nat.reduceAdd, Nat.reduceMul, Nat.reduceSub, Nat.reduceLT, Nat.reduceLeDiff, Nat.reduceBEq, g0]; first | done | rfl) rfl (by simp only [go_sem, Nat.reduceLT]) ?_; simp only [go_sem, Nat.reduceEqDiff, reduceIte, Nat.reduceAdd, Nat.reduceMul, Nat.reduceSub, Nat.reduceLT, Nat.reduceLeDiff, Nat.reduceBEq, g0]))
    exact Aw_ret (retL (M := [0]) (.inl rfl) (by simp only [go_sem, Nat.reduceEqDiff, reduceIte, Nat.reduceAdd, Nat.reduceMul, Nat.reduceSub, Nat.reduceLT, Nat.reduceLeDiff, Nat.reduceBEq]; first | done | rfl) rfl rfl (by rfl) (by simp only [go_sem, Nat.reduceEqDiff, reduceIte, Nat.reduceAdd, Nat.reduceMul, Nat.reduceSub, Nat.reduceLT, Nat.reduceLeDiff, Nat.reduceBEq]; first | done | rfl | (and_intros <;> rfl)) (by decide) (by intro m hm; first | omega | (rcases m with _ | _ | _ | _ | m <;> first | exact ⟨by decide, rfl⟩ | omega)))
  · rw [hv] at k1
    have g0 : decide (((1 : Nat) : Int) = 0) = false := rfl
    have g1 : decide (((1 : Nat) : Int) = 1) = true := rfl
    simp only [hv]
    rw [if_pos (show 1 < 5 by decide)]
    refine AC_of Try.func153 rfl Try.ntmps153 Try.results153 (by kernel_rfl) rfl ?_
    simp only [List.zipIdx, List.map, Nat.zero_add, Nat.reduceAdd]
    repeat (first | apply Aw_seq | apply Aw_block | apply Aw_skip | apply Aw_exit | refine Aw_condt rfl ?_ | refine Aw_condf rfl ?_ | (refine qr ?_; simp only [go_sem, Nat.reduceEqDiff, reduceIte, Nat.reduceAdd, Nat.reduceMul, Nat.reduceSub, Nat.reduceLT, Nat.reduceLeDiff, Nat.reduceBEq, g0, g1]) | (refine qd (by kernel_rfl) (by kernel_rfl) ?_; simp only [go_sem, Nat.reduceEqDiff, reduceIte, Nat.reduceAdd, Nat.reduceMul, Nat.reduceSub, Nat.reduceLT, Nat.reduceLeDiff, Nat.reduceBEq, g0, g1]) | refine dk (by kernel_rfl) ?_ | (refine qx (call_L (N' := [0]) (L := []) (k1) rfl (.cons (.nm rfl) (.cons (.nm rfl) (.nil))) (by decide) (by decide) (by decide) (by simp only [go_sem, Nat.reduceEqDiff, reduceIte, Nat.reduceAdd, Nat.reduceMul, Nat.reduceSub, Nat.reduceLT, Nat.reduceLeDiff, Nat.reduceBEq, g0, g1]; first | done | rfl) (.inl rfl) rfl (by decide)) (by simp only [go_sem, Nat.reduceEqDiff, reduceIte, Nat.reduceAdd, Nat.reduceMul, Nat.reduceSub, Nat.reduceLT, Nat.reduceLeDiff, Nat.reduceBEq, g0, g1]; first | done | rfl) rfl (by simp only [go_sem, Nat.reduceLT]) ?_; simp only [go_sem, Nat.reduceEqDiff, reduceIte, Nat.reduceAdd, Nat.reduceMul, Nat.reduceSub, Nat.reduceLT, Nat.reduceLeDiff, Nat.reduceBEq, g0, g1]) | (refine qx (call_L (N' := [0]) (L := []) (kn) rfl (.cons (.nm rfl) (.cons (.nm rfl) (.nil))) (by decide) (by decide) (by decide) (by simp only [go_sem, Nat.reduceEqDiff, reduceIte, Nat.reduceAdd, Nat.reduceMul, Nat.reduceSub, Nat.reduceLT, Nat.reduceLeDiff, Nat.reduceBEq, g0, g1]; first | done | rfl) (.inl rfl) rfl (by decide)) (by simp only [go_sem, Nat.reduceEqDiff, reduceIte, Nat.reduceAdd, Nat.reduceMul, Nat.reduceSub, Nat.reduceLT, Nat.reduceLeDiff, Nat.reduceBEq, g0, g1]; first | done | rfl) rfl (by simp only [go_sem, Nat.reduceLT]) ?_; simp only [go_sem, Nat.reduceEqDiff, reduceIte, Nat.reduceAdd, Nat.reduceMul, Nat.reduceSub, Nat.reduceLT, Nat.reduceLeDiff, Nat.reduceBEq, g0, g1]) | (refine qx (call_L (N' := [0]) (L := []) (k2) rfl (.cons (.nm rfl) (.cons (.nm rfl) (.nil))) (by decide) (by decide) (by decide) (by simp only [go_sem, Nat.reduceEqDiff, reduceIte, Nat.reduceAdd, Nat.reduceMul, Nat.reduceSub, Nat.reduceLT, Nat.reduceLeDiff, Nat.reduceBEq, g0, g1]; first | done | rfl) (.inl rfl) rfl (by decide)) (by simp only [go_sem, Nat.reduceEqDiff, reduceIte, Nat.reduceAdd, Nat.reduceMul, Nat.reduceSub, Nat.reduceLT, Nat.reduceLeDiff, Nat.reduceBEq, g0, g1]; first | done | rfl) rfl (by simp only [go_sem, Nat.reduceLT]) ?_; simp only [go_sem, Nat.reduceEqDiff, reduceIte, Nat.reduceAdd, Nat.reduceMul, Nat.reduceSub, Nat.reduceLT, Nat.reduceLeDiff, Nat.reduceBEq, g0, g1]))
    exact Aw_ret (retL (M := [0]) (.inl rfl) (by simp only [go_sem, Nat.reduceEqDiff, reduceIte, Nat.reduceAdd, Nat.reduceMul, Nat.reduceSub, Nat.reduceLT, Nat.reduceLeDiff, Nat.reduceBEq]; first | done | rfl) rfl rfl (by rfl) (by simp only [go_sem, Nat.reduceEqDiff, reduceIte, Nat.reduceAdd, Nat.reduceMul, Nat.reduceSub, Nat.reduceLT, Nat.reduceLeDiff, Nat.reduceBEq]; first | done | rfl | (and_intros <;> rfl)) (by decide) (by intro m hm; first | omega | (rcases m with _ | _ | _ | _ | m <;> first | exact ⟨by decide, rfl⟩ | omega)))
  · rw [hv] at k1
    have g0 : decide (((2 : Nat) : Int) = 0) = false := rfl
    have g1 : decide (((2 : Nat) : Int) = 1) = false := rfl
    have g2 : decide (((2 : Nat) : Int) = 2) = true := rfl
    simp only [hv]
    rw [if_pos (show 2 < 5 by decide)]
    refine AC_of Try.func153 rfl Try.ntmps153 Try.results153 (by kernel_rfl) rfl ?_
    simp only [List.zipIdx, List.map, Nat.zero_add, Nat.reduceAdd]
    repeat (first | apply Aw_seq | apply Aw_block | apply Aw_skip | apply Aw_exit | refine Aw_condt rfl ?_ | refine Aw_condf rfl ?_ | (refine qr ?_; simp only [go_sem, Nat.reduceEqDiff, reduceIte, Nat.reduceAdd, Nat.reduceMul, Nat.reduceSub, Nat.reduceLT, Nat.reduceLeDiff, Nat.reduceBEq, g0, g1, g2]) | (refine qd (by kernel_rfl) (by kernel_rfl) ?_; simp only [go_sem, Nat.reduceEqDiff, reduceIte, Nat.reduceAdd, Nat.reduceMul, Nat.reduceSub, Nat.reduceLT, Nat.reduceLeDiff, Nat.reduceBEq, g0, g1, g2]) | refine dk (by kernel_rfl) ?_ | (refine qx (call_L (N' := [0]) (L := []) (k1) rfl (.cons (.nm rfl) (.cons (.nm rfl) (.nil))) (by decide) (by decide) (by decide) (by simp only [go_sem, Nat.reduceEqDiff, reduceIte, Nat.reduceAdd, Nat.reduceMul, Nat.reduceSub, Nat.reduceLT, Nat.reduceLeDiff, Nat.reduceBEq, g0, g1, g2]; first | done | rfl) (.inl rfl) rfl (by decide)) (by simp only [go_sem, Nat.reduceEqDiff, reduceIte, Nat.reduceAdd, Nat.reduceMul, Nat.reduceSub, Nat.reduceLT, Nat.reduceLeDiff, Nat.reduceBEq, g0, g1, g2]; first | done | rfl) rfl (by simp only [go_sem, Nat.reduceLT]) ?_; simp only [go_sem, Nat.reduceEqDiff, reduceIte, Nat.reduceAdd, Nat.reduceMul, Nat.reduceSub, Nat.reduceLT, Nat.reduceLeDiff, Nat.reduceBEq, g0, g1, g2]) | (refine qx (call_L (N' := [0]) (L := []) (kn) rfl (.cons (.nm rfl) (.cons (.nm rfl) (.nil))) (by decide) (by decide) (by decide) (by simp only [go_sem, Nat.reduceEqDiff, reduceIte, Nat.reduceAdd, Nat.reduceMul, Nat.reduceSub, Nat.reduceLT, Nat.reduceLeDiff, Nat.reduceBEq, g0, g1, g2]; first | done | rfl) (.inl rfl) rfl (by decide)) (by simp only [go_sem, Nat.reduceEqDiff, reduceIte, Nat.reduceAdd, Nat.reduceMul, Nat.reduceSub, Nat.reduceLT, Nat.reduceLeDiff, Nat.reduceBEq, g0, g1, g2]; first | done | rfl) rfl (by simp only [go_sem, Nat.reduceLT]) ?_; simp only [go_sem, Nat.reduceEqDiff, reduceIte, Nat.reduceAdd, Nat.reduceMul, Nat.reduceSub, Nat.reduceLT, Nat.reduceLeDiff, Nat.reduceBEq, g0, g1, g2]) | (refine qx (call_L (N' := [0]) (L := []) (k2) rfl (.cons (.nm rfl) (.cons (.nm rfl) (.nil))) (by decide) (by decide) (by decide) (by simp only [go_sem, Nat.reduceEqDiff, reduceIte, Nat.reduceAdd, Nat.reduceMul, Nat.reduceSub, Nat.reduceLT, Nat.reduceLeDiff, Nat.reduceBEq, g0, g1, g2]; first | done | rfl) (.inl rfl) rfl (by decide)) (by simp only [go_sem, Nat.reduceEqDiff, reduceIte, Nat.reduceAdd, Nat.reduceMul, Nat.reduceSub, Nat.reduceLT, Nat.reduceLeDiff, Nat.reduceBEq, g0, g1, g2]; first | done | rfl) rfl (by simp only [go_sem, Nat.reduceLT]) ?_; simp only [go_sem, Nat.reduceEqDiff, reduceIte, Nat.reduceAdd, Nat.reduceMul, Nat.reduceSub, Nat.reduceLT, Nat.reduceLeDiff, Nat.reduceBEq, g0, g1, g2]))
    exact Aw_ret (retL (M := [0]) (.inl rfl) (by simp only [go_sem, Nat.reduceEqDiff, reduceIte, Nat.reduceAdd, Nat.reduceMul, Nat.reduceSub, Nat.reduceLT, Nat.reduceLeDiff, Nat.reduceBEq]; first | done | rfl) rfl rfl (by rfl) (by simp only [go_sem, Nat.reduceEqDiff, reduceIte, Nat.reduceAdd, Nat.reduceMul, Nat.reduceSub, Nat.reduceLT, Nat.reduceLeDiff, Nat.reduceBEq]; first | done | rfl | (and_intros <;> rfl)) (by decide) (by intro m hm; first | omega | (rcases m with _ | _ | _ | _ | m <;> first | exact ⟨by decide, rfl⟩ | omega)))
  · rw [hv] at k1
    have g0 : decide (((3 : Nat) : Int) = 0) = false := rfl
    have g1 : decide (((3 : Nat) : Int) = 1) = false := rfl
    have g2 : decide (((3 : Nat) : Int) = 2) = false := rfl
    have g3 : decide (((3 : Nat) : Int) = 3) = true := rfl
    simp only [hv]
    rw [if_pos (show 3 < 5 by decide)]
    refine AC_of Try.func153 rfl Try.ntmps153 Try.results153 (by kernel_rfl) rfl ?_
    simp only [List.zipIdx, List.map, Nat.zero_add, Nat.reduceAdd]
    repeat (first | apply Aw_seq | apply Aw_block | apply Aw_skip | apply Aw_exit | refine Aw_condt rfl ?_ | refine Aw_condf rfl ?_ | (refine qr ?_; simp only [go_sem, Nat.reduceEqDiff, reduceIte, Nat.reduceAdd, Nat.reduceMul, Nat.reduceSub, Nat.reduceLT, Nat.reduceLeDiff, Nat.reduceBEq, g0, g1, g2, g3]) | (refine qd (by kernel_rfl) (by kernel_rfl) ?_; simp only [go_sem, Nat.reduceEqDiff, reduceIte, Nat.reduceAdd, Nat.reduceMul, Nat.reduceSub, Nat.reduceLT, Nat.reduceLeDiff, Nat.reduceBEq, g0, g1, g2, g3]) | refine dk (by kernel_rfl) ?_ | (refine qx (call_L (N' := [0]) (L := []) (k1) rfl (.cons (.nm rfl) (.cons (.nm rfl) (.nil))) (by decide) (by decide) (by decide) (by simp only [go_sem, Nat.reduceEqDiff, reduceIte, Nat.reduceAdd, Nat.reduceMul, Nat.reduceSub, Nat.reduceLT, Nat.reduceLeDiff, Nat.reduceBEq, g0, g1, g2, g3]; first | done | rfl) (.inl rfl) rfl (by decide)) (by simp only [go_sem, Nat.reduceEqDiff, reduceIte, Nat.reduceAdd, Nat.reduceMul, Nat.reduceSub, Nat.reduceLT, Nat.reduceLeDiff, Nat.reduceBEq, g0, g1, g2, g3]; first | done | rfl) rfl (by simp only [go_sem, Nat.reduceLT]) ?_; simp only [go_sem, Nat.reduceEqDiff, reduceIte, Nat.reduceAdd, Nat.reduceMul, Nat.reduceSub, Nat.reduceLT, Nat.reduceLeDiff, Nat.reduceBEq, g0, g1, g2, g3]) | (refine qx (call_L (N' := [0]) (L := []) (kn) rfl (.cons (.nm rfl) (.cons (.nm rfl) (.nil))) (by decide) (by decide) (by decide) (by simp only [go_sem, Nat.reduceEqDiff, reduceIte, Nat.reduceAdd, Nat.reduceMul, Nat.reduceSub, Nat.reduceLT, Nat.reduceLeDiff, Nat.reduceBEq, g0, g1, g2, g3]; first | done | rfl) (.inl rfl) rfl (by decide)) (by simp only [go_sem, Nat.reduceEqDiff, reduceIte, Nat.reduceAdd, Nat.reduceMul, Nat.reduceSub, Nat.reduceLT, Nat.reduceLeDiff, Nat.reduceBEq, g0, g1, g2, g3]; first | done | rfl) rfl (by simp only [go_sem, Nat.reduceLT]) ?_; simp only [go_sem, Nat.reduceEqDiff, reduceIte, Nat.reduceAdd, Nat.reduceMul, Nat.reduceSub, Nat.reduceLT, Nat.reduceLeDiff, Nat.reduceBEq, g0, g1, g2, g3]) | (refine qx (call_L (N' := [0]) (L := []) (k2) rfl (.cons (.nm rfl) (.cons (.nm rfl) (.nil))) (by decide) (by decide) (by decide) (by simp only [go_sem, Nat.reduceEqDiff, reduceIte, Nat.reduceAdd, Nat.reduceMul, Nat.reduceSub, Nat.reduceLT, Nat.reduceLeDiff, Nat.reduceBEq, g0, g1, g2, g3]; first | done | rfl) (.inl rfl) rfl (by decide)) (by simp only [go_sem, Nat.reduceEqDiff, reduceIte, Nat.reduceAdd, Nat.reduceMul, Nat.reduceSub, Nat.reduceLT, Nat.reduceLeDiff, Nat.reduceBEq, g0, g1, g2, g3]; first | done | rfl) rfl (by simp only [go_sem, Nat.reduceLT]) ?_; simp only [go_sem, Nat.reduceEqDiff, reduceIte, Nat.reduceAdd, Nat.reduceMul, Nat.reduceSub, Nat.reduceLT, Nat.reduceLeDiff, Nat.reduceBEq, g0, g1, g2, g3]))
    exact Aw_ret (retL (M := [0]) (.inl rfl) (by simp only [go_sem, Nat.reduceEqDiff, reduceIte, Nat.reduceAdd, Nat.reduceMul, Nat.reduceSub, Nat.reduceLT, Nat.reduceLeDiff, Nat.reduceBEq]; first | done | rfl) rfl rfl (by rfl) (by simp only [go_sem, Nat.reduceEqDiff, reduceIte, Nat.reduceAdd, Nat.reduceMul, Nat.reduceSub, Nat.reduceLT, Nat.reduceLeDiff, Nat.reduceBEq]; first | done | rfl | (and_intros <;> rfl)) (by decide) (by intro m hm; first | omega | (rcases m with _ | _ | _ | _ | m <;> first | exact ⟨by decide, rfl⟩ | omega)))
  · rw [hv] at k1
    have g0 : decide (((4 : Nat) : Int) = 0) = false := rfl
    have g1 : decide (((4 : Nat) : Int) = 1) = false := rfl
    have g2 : decide (((4 : Nat) : Int) = 2) = false := rfl
    have g3 : decide (((4 : Nat) : Int) = 3) = false := rfl
    have g4 : decide (((4 : Nat) : Int) = 4) = true := rfl
    simp only [hv]
    rw [if_pos (show 4 < 5 by decide)]
    refine AC_of Try.func153 rfl Try.ntmps153 Try.results153 (by kernel_rfl) rfl ?_
    simp only [List.zipIdx, List.map, Nat.zero_add, Nat.reduceAdd]
    repeat (first | apply Aw_seq | apply Aw_block | apply Aw_skip | apply Aw_exit | refine Aw_condt rfl ?_ | refine Aw_condf rfl ?_ | (refine qr ?_; simp only [go_sem, Nat.reduceEqDiff, reduceIte, Nat.reduceAdd, Nat.reduceMul, Nat.reduceSub, Nat.reduceLT, Nat.reduceLeDiff, Nat.reduceBEq, g0, g1, g2, g3, g4]) | (refine qd (by kernel_rfl) (by kernel_rfl) ?_; simp only [go_sem, Nat.reduceEqDiff, reduceIte, Nat.reduceAdd, Nat.reduceMul, Nat.reduceSub, Nat.reduceLT, Nat.reduceLeDiff, Nat.reduceBEq, g0, g1, g2, g3, g4]) | refine dk (by kernel_rfl) ?_ | (refine qx (call_L (N' := [0]) (L := []) (k1) rfl (.cons (.nm rfl) (.cons (.nm rfl) (.nil))) (by decide) (by decide) (by decide) (by simp only [go_sem, Nat.reduceEqDiff, reduceIte, Nat.reduceAdd, Nat.reduceMul, Nat.reduceSub, Nat.reduceLT, Nat.reduceLeDiff, Nat.reduceBEq, g0, g1, g2, g3, g4]; first | done | rfl) (.inl rfl) rfl (by decide)) (by simp only [go_sem, Nat.reduceEqDiff, reduceIte, Nat.reduceAdd, Nat.reduceMul, Nat.reduceSub, Nat.reduceLT, Nat.reduceLeDiff, Nat.reduceBEq, g0, g1, g2, g3, g4]; first | done | rfl) rfl (by simp only [go_sem, Nat.reduceLT]) ?_; simp only [go_sem, Nat.reduceEqDiff, reduceIte, Nat.reduceAdd, Nat.reduceMul, Nat.reduceSub, Nat.reduceLT, Nat.reduceLeDiff, Nat.reduceBEq, g0, g1, g2, g3, g4]) | (refine qx (call_L (N' := [0]) (L := []) (kn) rfl (.cons (.nm rfl) (.cons (.nm rfl) (.nil))) (by decide) (by decide) (by decide) (by simp only [go_sem, Nat.reduceEqDiff, reduceIte, Nat.reduceAdd, Nat.reduceMul, Nat.reduceSub, Nat.reduceLT, Nat.reduceLeDiff, Nat.reduceBEq, g0, g1, g2, g3, g4]; first | done | rfl) (.inl rfl) rfl (by decide)) (by simp only [go_sem, Nat.reduceEqDiff, reduceIte, Nat.reduceAdd, Nat.reduceMul, Nat.reduceSub, Nat.reduceLT, Nat.reduceLeDiff, Nat.reduceBEq, g0, g1, g2, g3, g4]; first | done | rfl) rfl (by simp only [go_sem, Nat.reduceLT]) ?_; simp only [go_sem, Nat.reduceEqDiff, reduceIte, Nat.reduceAdd, Nat.reduceMul, Nat.reduceSub, Nat.reduceLT, Nat.reduceLeDiff, Nat.reduceBEq, g0, g1, g2, g3, g4]) | (refine qx (call_L (N' := [0]) (L := []) (k2) rfl (.cons (.nm rfl) (.cons (.nm rfl) (.nil))) (by decide) (by decide) (by decide) (by simp only [go_sem, Nat.reduceEqDiff, reduceIte, Nat.reduceAdd, Nat.reduceMul, Nat.reduceSub, Nat.reduceLT, Nat.reduceLeDiff, Nat.reduceBEq, g0, g1, g2, g3, g4]; first | done | rfl) (.inl rfl) rfl (by decide)) (by simp only [go_sem, Nat.reduceEqDiff, reduceIte, Nat.reduceAdd, Nat.reduceMul, Nat.reduceSub, Nat.reduceLT, Nat.reduceLeDiff, Nat.reduceBEq, g0, g1, g2, g3, g4]; first | done | rfl) rfl (by simp only [go_sem, Nat.reduceLT]) ?_; simp only [go_sem, Nat.reduceEqDiff, reduceIte, Nat.reduceAdd, Nat.reduceMul, Nat.reduceSub, Nat.reduceLT, Nat.reduceLeDiff, Nat.reduceBEq, g0, g1, g2, g3, g4]))
    exact Aw_ret (retL (M := [0]) (.inl rfl) (by simp only [go_sem, Nat.reduceEqDiff, reduceIte, Nat.reduceAdd, Nat.reduceMul, Nat.reduceSub, Nat.reduceLT, Nat.reduceLeDiff, Nat.reduceBEq]; first | done | rfl) rfl rfl (by rfl) (by simp only [go_sem, Nat.reduceEqDiff, reduceIte, Nat.reduceAdd, Nat.reduceMul, Nat.reduceSub, Nat.reduceLT, Nat.reduceLeDiff, Nat.reduceBEq]; first | done | rfl | (and_intros <;> rfl)) (by decide) (by intro m hm; first | omega | (rcases m with _ | _ | _ | _ | m <;> first | exact ⟨by decide, rfl⟩ | omega)))
  · rw [hv] at k1
    have g0 : decide (((5 : Nat) : Int) = 0) = false := rfl
    have g1 : decide (((5 : Nat) : Int) = 1) = false := rfl
    have g2 : decide (((5 : Nat) : Int) = 2) = false := rfl
    have g3 : decide (((5 : Nat) : Int) = 3) = false := rfl
    have g4 : decide (((5 : Nat) : Int) = 4) = false := rfl
    have g5 : decide (((5 : Nat) : Int) = 5) = true := rfl
    simp only [hv]
    rw [if_neg (show ¬ 5 < 5 by decide), if_pos trivial]
    refine AC_of Try.func153 rfl Try.ntmps153 Try.results153 (by kernel_rfl) rfl ?_
    simp only [List.zipIdx, List.map, Nat.zero_add, Nat.reduceAdd]
    repeat (first | apply Aw_seq | apply Aw_block | apply Aw_skip | apply Aw_exit | refine Aw_condt rfl ?_ | refine Aw_condf rfl ?_ | (refine qr ?_; simp only [go_sem, Nat.reduceEqDiff, reduceIte, Nat.reduceAdd, Nat.reduceMul, Nat.reduceSub, Nat.reduceLT, Nat.reduceLeDiff, Nat.reduceBEq, g0, g1, g2, g3, g4, g5]) | (refine qd (by kernel_rfl) (by kernel_rfl) ?_; simp only [go_sem, Nat.reduceEqDiff, reduceIte, Nat.reduceAdd, Nat.reduceMul, Nat.reduceSub, Nat.reduceLT, Nat.reduceLeDiff, Nat.reduceBEq, g0, g1, g2, g3, g4, g5]) | refine dk (by kernel_rfl) ?_ | (refine qx (call_L (N' := [0]) (L := []) (k1) rfl (.cons (.nm rfl) (.cons (.nm rfl) (.nil))) (by decide) (by decide) (by decide) (by simp only [go_sem, Nat.reduceEqDiff, reduceIte, Nat.reduceAdd, Nat.reduceMul, Nat.reduceSub, Nat.reduceLT, Nat.reduceLeDiff, Nat.reduceBEq, g0, g1, g2, g3, g4, g5]; first | done | rfl) (.inl rfl) rfl (by decide)) (by simp only [go_sem, Nat.reduceEqDiff, reduceIte, Nat.reduceAdd, Nat.reduceMul, Nat.reduceSub, Nat.reduceLT, Nat.reduceLeDiff, Nat.reduceBEq, g0, g1, g2, g3, g4, g5]; first | done | rfl) rfl (by simp only [go_sem, Nat.reduceLT]) ?_; simp only [go_sem, Nat.reduceEqDiff, reduceIte, Nat.reduceAdd, Nat.reduceMul, Nat.reduceSub, Nat.reduceLT, Nat.reduceLeDiff, Nat.reduceBEq, g0, g1, g2, g3, g4, g5]) | (refine qx (call_L (N' := [0]) (L := []) (kn) rfl (.cons (.nm rfl) (.cons (.nm rfl) (.nil))) (by decide) (by decide) (by decide) (by simp only [go_sem, Nat.reduceEqDiff, reduceIte, Nat.reduceAdd, Nat.reduceMul, Nat.reduceSub, Nat.reduceLT, Nat.reduceLeDiff, Nat.reduceBEq, g0, g1, g2, g3, g4, g5]; first | done | rfl) (.inl rfl) rfl (by decide)) (by simp only [go_sem, Nat.reduceEqDiff, reduceIte, Nat.reduceAdd, Nat.reduceMul, Nat.reduceSub, Nat.reduceLT, Nat.reduceLeDiff, Nat.reduceBEq, g0, g1, g2, g3, g4, g5]; first | done | rfl) rfl (by simp only [go_sem, Nat.reduceLT]) ?_; simp only [go_sem, Nat.reduceEqDiff, reduceIte, Nat.reduceAdd, Nat.reduceMul, Nat.reduceSub, Nat.reduceLT, Nat.reduceLeDiff, Nat.reduceBEq, g0, g1, g2, g3, g4, g5]))
    exact Aw_ret (retL (M := [0]) (.inl rfl) (by simp only [go_sem, Nat.reduceEqDiff, reduceIte, Nat.reduceAdd, Nat.reduceMul, Nat.reduceSub, Nat.reduceLT, Nat.reduceLeDiff, Nat.reduceBEq]; first | done | rfl) rfl rfl (by rfl) (by simp only [go_sem, Nat.reduceEqDiff, reduceIte, Nat.reduceAdd, Nat.reduceMul, Nat.reduceSub, Nat.reduceLT, Nat.reduceLeDiff, Nat.reduceBEq]; first | done | rfl | (and_intros <;> rfl)) (by decide) (by intro m hm; first | omega | (rcases m with _ | _ | _ | _ | m <;> first | exact ⟨by decide, rfl⟩ | omega)))
  · rw [hv] at k1
    have g0 : decide (((6 : Nat) : Int) = 0) = false := rfl
    have g1 : decide (((6 : Nat) : Int) = 1) = false := rfl
    have g2 : decide (((6 : Nat) : Int) = 2) = false := rfl
    have g3 : decide (((6 : Nat) : Int) = 3) = false := rfl
    have g4 : decide (((6 : Nat) : Int) = 4) = false := rfl
    have g5 : decide (((6 : Nat) : Int) = 5) = false := rfl
    have g6 : decide (((6 : Nat) : Int) = 6) = true := rfl
    simp only [hv]
    rw [if_neg (show ¬ 6 < 5 by decide), if_neg (show ¬ (6 = 5) by decide), if_pos trivial]
    refine AC_of Try.func153 rfl Try.ntmps153 Try.results153 (by kernel_rfl) rfl ?_
    simp only [List.zipIdx, List.map, Nat.zero_add, Nat.reduceAdd]
    repeat (first | apply Aw_seq | apply Aw_block | apply Aw_skip | apply Aw_exit | refine Aw_condt rfl ?_ | refine Aw_condf rfl ?_ | (refine qr ?_; simp only [go_sem, Nat.reduceEqDiff, reduceIte, Nat.reduceAdd, Nat.reduceMul, Nat.reduceSub, Nat.reduceLT, Nat.reduceLeDiff, Nat.reduceBEq, g0, g1, g2, g3, g4, g5, g6]) | (refine qd (by kernel_rfl) (by kernel_rfl) ?_; simp only [go_sem, Nat.reduceEqDiff, reduceIte, Nat.reduceAdd, Nat.reduceMul, Nat.reduceSub, Nat.reduceLT, Nat.reduceLeDiff, Nat.reduceBEq, g0, g1, g2, g3, g4, g5, g6]) | refine dk (by kernel_rfl) ?_ | (refine qx (call_L (N' := [0]) (L := []) (k1) rfl (.cons (.nm rfl) (.cons (.nm rfl) (.nil))) (by decide) (by decide) (by decide) (by simp only [go_sem, Nat.reduceEqDiff, reduceIte, Nat.reduceAdd, Nat.reduceMul, Nat.reduceSub, Nat.reduceLT, Nat.reduceLeDiff, Nat.reduceBEq, g0, g1, g2, g3, g4, g5, g6]; first | done | rfl) (.inl rfl) rfl (by decide)) (by simp only [go_sem, Nat.reduceEqDiff, reduceIte, Nat.reduceAdd, Nat.reduceMul, Nat.reduceSub, Nat.reduceLT, Nat.reduceLeDiff, Nat.reduceBEq, g0, g1, g2, g3, g4, g5, g6]; first | done | rfl) rfl (by simp only [go_sem, Nat.reduceLT]) ?_; simp only [go_sem, Nat.reduceEqDiff, reduceIte, Nat.reduceAdd, Nat.reduceMul, Nat.reduceSub, Nat.reduceLT, Nat.reduceLeDiff, Nat.reduceBEq, g0, g1, g2, g3, g4, g5, g6]))
    exact Aw_ret (retL (M := [0]) (.inl rfl) (by simp only [go_sem, Nat.reduceEqDiff, reduceIte, Nat.reduceAdd, Nat.reduceMul, Nat.reduceSub, Nat.reduceLT, Nat.reduceLeDiff, Nat.reduceBEq]; first | done | rfl) rfl rfl (by rfl) (by simp only [go_sem, Nat.reduceEqDiff, reduceIte, Nat.reduceAdd, Nat.reduceMul, Nat.reduceSub, Nat.reduceLT, Nat.reduceLeDiff, Nat.reduceBEq]; first | done | rfl | (and_intros <;> rfl)) (by decide) (by intro m hm; first | omega | (rcases m with _ | _ | _ | _ | m <;> first | exact ⟨by decide, rfl⟩ | omega)))
  · rw [hv] at k1
    have g0 : decide (((7 : Nat) : Int) = 0) = false := rfl
    have g1 : decide (((7 : Nat) : Int) = 1) = false := rfl
    have g2 : decide (((7 : Nat) : Int) = 2) = false := rfl
    have g3 : decide (((7 : Nat) : Int) = 3) = false := rfl
    have g4 : decide (((7 : Nat) : Int) = 4) = false := rfl
    have g5 : decide (((7 : Nat) : Int) = 5) = false := rfl
    have g6 : decide (((7 : Nat) : Int) = 6) = false := rfl
    have g7 : decide (((7 : Nat) : Int) = 7) = true := rfl
    simp only [hv]
    rw [if_neg (show ¬ 7 < 5 by decide), if_neg (show ¬ (7 = 5) by decide), if_neg (show ¬ (7 = 6) by decide), if_pos trivial]
    refine AC_of Try.func153 rfl Try.ntmps153 Try.results153 (by kernel_rfl) rfl ?_
    simp only [List.zipIdx, List.map, Nat.zero_add, Nat.reduceAdd]
    repeat (first | apply Aw_seq | apply Aw_block | apply Aw_skip | apply Aw_exit | refine Aw_condt rfl ?_ | refine Aw_condf rfl ?_ | (refine qr ?_; simp only [go_sem, Nat.reduceEqDiff, reduceIte, Nat.reduceAdd, Nat.reduceMul, Nat.reduceSub, Nat.reduceLT, Nat.reduceLeDiff, Nat.reduceBEq, g0, g1, g2, g3, g4, g5, g6, g7]) | (refine qd (by kernel_rfl) (by kernel_rfl) ?_; simp only [go_sem, Nat.reduceEqDiff, reduceIte, Nat.reduceAdd, Nat.reduceMul, Nat.reduceSub, Nat.reduceLT, Nat.reduceLeDiff, Nat.reduceBEq, g0, g1, g2, g3, g4, g5, g6, g7]) | refine dk (by kernel_rfl) ?_ | (refine qx (call_L (N' := [0]) (L := []) (k1) rfl (.cons (.nm rfl) (.cons (.nm rfl) (.nil))) (by decide) (by decide) (by decide) (by simp only [go_sem, Nat.reduceEqDiff, reduceIte, Nat.reduceAdd, Nat.reduceMul, Nat.reduceSub, Nat.reduceLT, Nat.reduceLeDiff, Nat.reduceBEq, g0, g1, g2, g3, g4, g5, g6, g7]; first | done | rfl) (.inl rfl) rfl (by decide)) (by simp only [go_sem, Nat.reduceEqDiff, reduceIte, Nat.reduceAdd, Nat.reduceMul, Nat.reduceSub, Nat.reduceLT, Nat.reduceLeDiff, Nat.reduceBEq, g0, g1, g2, g3, g4, g5, g6, g7]; first | done | rfl) rfl (by simp only [go_sem, Nat.reduceLT]) ?_; simp only [go_sem, Nat.reduceEqDiff, reduceIte, Nat.reduceAdd, Nat.reduceMul, Nat.reduceSub, Nat.reduceLT, Nat.reduceLeDiff, Nat.reduceBEq, g0, g1, g2, g3, g4, g5, g6, g7]) | (refine qx (call_L (N' := [0]) (L := []) (k3) rfl (.cons (.nm rfl) (.cons (.nm rfl) (.nil))) (by decide) (by decide) (by decide) (by simp only [go_sem, Nat.reduceEqDiff, reduceIte, Nat.reduceAdd, Nat.reduceMul, Nat.reduceSub, Nat.reduceLT, Nat.reduceLeDiff, Nat.reduceBEq, g0, g1, g2, g3, g4, g5, g6, g7]; first | done | rfl) (.inl rfl) rfl (by decide)) (by simp only [go_sem, Nat.reduceEqDiff, reduceIte, Nat.reduceAdd, Nat.reduceMul, Nat.reduceSub, Nat.reduceLT, Nat.reduceLeDiff, Nat.reduceBEq, g0, g1, g2, g3, g4, g5, g6, g7]; first | done | rfl) rfl (by simp only [go_sem, Nat.reduceLT]) ?_; simp only [go_sem, Nat.reduceEqDiff, reduceIte, Nat.reduceAdd, Nat.reduceMul, Nat.reduceSub, Nat.reduceLT, Nat.reduceLeDiff, Nat.reduceBEq, g0, g1, g2, g3, g4, g5, g6, g7]))
    exact Aw_ret (retL (M := [0]) (.inl rfl) (by simp only [go_sem, Nat.reduceEqDiff, reduceIte, Nat.reduceAdd, Nat.reduceMul, Nat.reduceSub, Nat.reduceLT, Nat.reduceLeDiff, Nat.reduceBEq]; first | done | rfl) rfl rfl (by rfl) (by simp only [go_sem, Nat.reduceEqDiff, reduceIte, Nat.reduceAdd, Nat.reduceMul, Nat.reduceSub, Nat.reduceLT, Nat.reduceLeDiff, Nat.reduceBEq]; first | done | rfl | (and_intros <;> rfl)) (by decide) (by intro m hm; first | omega | (rcases m with _ | _ | _ | _ | m <;> first | exact ⟨by decide, rfl⟩ | omega)))
  · rw [hv] at k1
    have g0 : decide (((8 : Nat) : Int) = 0) = false := rfl
    have g1 : decide (((8 : Nat) : Int) = 1) = false := rfl
    have g2 : decide (((8 : Nat) : Int) = 2) = false := rfl
    have g3 : decide (((8 : Nat) : Int) = 3) = false := rfl
    have g4 : decide (((8 : Nat) : Int) = 4) = false := rfl
    have g5 : decide (((8 : Nat) : Int) = 5) = false := rfl
    have g6 : decide (((8 : Nat) : Int) = 6) = false := rfl
    have g7 : decide (((8 : Nat) : Int) = 7) = false := rfl
    have g8 : decide (((8 : Nat) : Int) = 8) = true := rfl
    simp only [hv]
    rw [if_neg (show ¬ 8 < 5 by decide), if_neg (show ¬ (8 = 5) by decide), if_neg (show ¬ (8 = 6) by decide), if_neg (show ¬ (8 = 7) by decide), if_pos trivial]
    refine AC_of Try.func153 rfl Try.ntmps153 Try.results153 (by kernel_rfl) rfl ?_
    simp only [List.zipIdx, List.map, Nat.zero_add, Nat.reduceAdd]
    repeat (first | apply Aw_seq | apply Aw_block | apply Aw_skip | apply Aw_exit | refine Aw_condt rfl ?_ | refine Aw_condf rfl ?_ | (refine qr ?_; simp only [go_sem, Nat.reduceEqDiff, reduceIte, Nat.reduceAdd, Nat.reduceMul, Nat.reduceSub, Nat.reduceLT, Nat.reduceLeDiff, Nat.reduceBEq, g0, g1, g2, g3, g4, g5, g6, g7, g8]) | (refine qd (by kernel_rfl) (by kernel_rfl) ?_; simp only [go_sem, Nat.reduceEqDiff, reduceIte, Nat.reduceAdd, Nat.reduceMul, Nat.reduceSub, Nat.reduceLT, Nat.reduceLeDiff, Nat.reduceBEq, g0, g1, g2, g3, g4, g5, g6, g7, g8]) | refine dk (by kernel_rfl) ?_ | (refine qx (call_L (N' := [0]) (L := []) (k1) rfl (.cons (.nm rfl) (.cons (.nm rfl) (.nil))) (by decide) (by decide) (by decide) (by simp only [go_sem, Nat.reduceEqDiff, reduceIte, Nat.reduceAdd, Nat.reduceMul, Nat.reduceSub, Nat.reduceLT, Nat.reduceLeDiff, Nat.reduceBEq, g0, g1, g2, g3, g4, g5, g6, g7, g8]; first | done | rfl) (.inl rfl) rfl (by decide)) (by simp only [go_sem, Nat.reduceEqDiff, reduceIte, Nat.reduceAdd, Nat.reduceMul, Nat.reduceSub, Nat.reduceLT, Nat.reduceLeDiff, Nat.reduceBEq, g0, g1, g2, g3, g4, g5, g6, g7, g8]; first | done | rfl) rfl (by simp only [go_sem, Nat.reduceLT]) ?_; simp only [go_sem, Nat.reduceEqDiff, reduceIte, Nat.reduceAdd, Nat.reduceMul, Nat.reduceSub, Nat.reduceLT, Nat.reduceLeDiff, Nat.reduceBEq, g0, g1, g2, g3, g4, g5, g6, g7, g8]))
    exact Aw_ret (retL (M := [0]) (.inl rfl) (by simp only [go_sem, Nat.reduceEqDiff, reduceIte, Nat.reduceAdd, Nat.reduceMul, Nat.reduceSub, Nat.reduceLT, Nat.reduceLeDiff, Nat.reduceBEq]; first | done | rfl) rfl rfl (by rfl) (by simp only [go_sem, Nat.reduceEqDiff, reduceIte, Nat.reduceAdd, Nat.reduceMul, Nat.reduceSub, Nat.reduceLT, Nat.reduceLeDiff, Nat.reduceBEq]; first | done | rfl | (and_intros <;> rfl)) (by decide) (by intro m hm; first | omega | (rcases m with _ | _ | _ | _ | m <;> first | exact ⟨by decide, rfl⟩ | omega)))
  · rw [hv] at k1
    have g0 : decide (((9 : Nat) : Int) = 0) = false := rfl
    have g1 : decide (((9 : Nat) : Int) = 1) = false := rfl
    have g2 : decide (((9 : Nat) : Int) = 2) = false := rfl
    have g3 : decide (((9 : Nat) : Int) = 3) = false := rfl
    have g4 : decide (((9 : Nat) : Int) = 4) = false := rfl
    have g5 : decide (((9 : Nat) : Int) = 5) = false := rfl
    have g6 : decide (((9 : Nat) : Int) = 6) = false := rfl
    have g7 : decide (((9 : Nat) : Int) = 7) = false := rfl
    have g8 : decide (((9 : Nat) : Int) = 8) = false := rfl
    simp only [hv]
    rw [if_neg (show ¬ 9 < 5 by decide), if_neg (show ¬ (9 = 5) by decide), if_neg (show ¬ (9 = 6) by decide), if_neg (show ¬ (9 = 7) by decide), if_neg (show ¬ (9 = 8) by decide)]
    refine AC_of Try.func153 rfl Try.ntmps153 Try.results153 (by kernel_rfl) rfl ?_
    simp only [List.zipIdx, List.map, Nat.zero_add, Nat.reduceAdd]
    repeat (first | apply Aw_seq | apply Aw_block | apply Aw_skip | apply Aw_exit | refine Aw_condt rfl ?_ | refine Aw_condf rfl ?_ | (refine qr ?_; simp only [go_sem, Nat.reduceEqDiff, reduceIte, Nat.reduceAdd, Nat.reduceMul, Nat.reduceSub, Nat.reduceLT, Nat.reduceLeDiff, Nat.reduceBEq, g0, g1, g2, g3, g4, g5, g6, g7, g8]) | (refine qd (by kernel_rfl) (by kernel_rfl) ?_; simp only [go_sem, Nat.reduceEqDiff, reduceIte, Nat.reduceAdd, Nat.reduceMul, Nat.reduceSub, Nat.reduceLT, Nat.reduceLeDiff, Nat.reduceBEq, g0, g1, g2, g3, g4, g5, g6, g7, g8]) | refine dk (by kernel_rfl) ?_ | (refine qx (call_L (N' := [0]) (L := []) (k1) rfl (.cons (.nm rfl) (.cons (.nm rfl) (.nil))) (by decide) (by decide) (by decide) (by simp only [go_sem, Nat.reduceEqDiff, reduceIte, Nat.reduceAdd, Nat.reduceMul, Nat.reduceSub, Nat.reduceLT, Nat.reduceLeDiff, Nat.reduceBEq, g0, g1, g2, g3, g4, g5, g6, g7, g8]; first | done | rfl) (.inl rfl) rfl (by decide)) (by simp only [go_sem, Nat.reduceEqDiff, reduceIte, Nat.reduceAdd, Nat.reduceMul, Nat.reduceSub, Nat.reduceLT, Nat.reduceLeDiff, Nat.reduceBEq, g0, g1, g2, g3, g4, g5, g6, g7, g8]; first | done | rfl) rfl (by simp only [go_sem, Nat.reduceLT]) ?_; simp only [go_sem, Nat.reduceEqDiff, reduceIte, Nat.reduceAdd, Nat.reduceMul, Nat.reduceSub, Nat.reduceLT, Nat.reduceLeDiff, Nat.reduceBEq, g0, g1, g2, g3, g4, g5, g6, g7, g8]) | (refine qx (call_L (N' := [0]) (L := []) (k4) rfl (.cons (.nm rfl) (.cons (.nm rfl) (.nil))) (by decide) (by decide) (by decide) (by simp only [go_sem, Nat.reduceEqDiff, reduceIte, Nat.reduceAdd, Nat.reduceMul, Nat.reduceSub, Nat.reduceLT, Nat.reduceLeDiff, Nat.reduceBEq, g0, g1, g2, g3, g4, g5, g6, g7, g8]; first | done | rfl) (.inl rfl) rfl (by decide)) (by simp only [go_sem, Nat.reduceEqDiff, reduceIte, Nat.reduceAdd, Nat.reduceMul, Nat.reduceSub, Nat.reduceLT, Nat.reduceLeDiff, Nat.reduceBEq, g0, g1, g2, g3, g4, g5, g6, g7, g8]; first | done | rfl) rfl (by simp only [go_sem, Nat.reduceLT]) ?_; simp only [go_sem, Nat.reduceEqDiff, reduceIte, Nat.reduceAdd, Nat.reduceMul, Nat.reduceSub, Nat.reduceLT, Nat.reduceLeDiff, Nat.reduceBEq, g0, g1, g2, g3, g4, g5, g6, g7, g8]))
    exact Aw_ret (retL (M := [0]) (.inl rfl) (by simp only [go_sem, Nat.reduceEqDiff, reduceIte, Nat.reduceAdd, Nat.reduceMul, Nat.reduceSub, Nat.reduceLT, Nat.reduceLeDiff, Nat.reduceBEq]; first | done | rfl) rfl rfl (by rfl) (by simp only [go_sem, Nat.reduceEqDiff, reduceIte, Nat.reduceAdd, Nat.reduceMul, Nat.reduceSub, Nat.reduceLT, Nat.reduceLeDiff, Nat.reduceBEq]; first | done | rfl | (and_intros <;> rfl)) (by decide) (by intro m hm; first | omega | (rcases m with _ | _ | _ | _ | m <;> first | exact ⟨by decide, rfl⟩ | omega)))
noncomputable def deedsL (b : List Int) (l : List ByteArray) : Nat → List Deed → Nat → List Deed × Nat
  | 0, o, p => (o, p)
  | n + 1, o, p => deedsL b l n (o ++ [(deedV b p l).1]) (deedV b p l).2
theorem deedsL_fin {b : List Int} (hb : byteL b) {l : List ByteArray} (hl : l.length ≤ 1000) (hs : ∀ s ∈ l, s.size ≤ 5) : ∀ (n : Nat) (o : List Deed) (p : Nat), p + 9 * n ≤ 500000 → o.length + n ≤ 1000 → (∀ d ∈ o, d.key.size ≤ 5) → (deedsL b l n o p).1.length = o.length + n ∧ (∀ d ∈ (deedsL b l n o p).1, d.key.size ≤ 5) ∧ (deedsL b l n o p).2 ≤ p + 9 * n
  | 0, o, p, _, _, h => ⟨by simp [deedsL], h, by simp [deedsL]⟩
  | n + 1, o, p, h1, h2, h3 => by
    obtain ⟨a1, a2⟩ := deedV_fin hb (p := p) (l := l) (by omega) hl hs
    obtain ⟨c1, c2, c3⟩ := deedsL_fin hb hl hs n (o ++ [(deedV b p l).1]) (deedV b p l).2 (by omega) (by simp; omega) (fun d hd => by
      rcases List.mem_append.1 hd with h | h
      · exact h3 d h
      · obtain rfl : d = (deedV b p l).1 := by simpa using h
        exact a1)
    simp only [List.length_append, List.length_cons, List.length_nil] at c1
    exact ⟨by simp only [deedsL]; omega, by simp only [deedsL]; exact c2, by simp only [deedsL]; omega⟩
def xTxt : ByteArray := bs [120]
noncomputable def deedsV (b : List Int) (p : Nat) (most : Nat) : List Deed × Nat :=
  let K := keysV b p 5
  let n := pickV b K.2 ((most + 1 : Nat) : Int)
  let r := deedsL b K.1 n [] (K.2 + 1)
  if pickV b r.2 24 = 0 then (r.1 ++ [⟨IntKind.i64.wrap (((pickV b (r.2 + 1) 9 : Nat) : Int) - 1), xTxt, -1⟩], r.2 + 2) else (r.1, r.2 + 1)
theorem deedsV_fin {b : List Int} (hb : byteL b) {p most : Nat} (hp : p ≤ 100000) (hm : most ≤ 100) : (deedsV b p most).1.length ≤ most + 1 ∧ (∀ d ∈ (deedsV b p most).1, d.key.size ≤ 5) ∧ (deedsV b p most).2 ≤ p + 2000 := by
  obtain ⟨a1, a2, a3⟩ := keysV_fin hb (p := p) (most := 5) (by omega) (by omega)
  have h1 := pickV_lt (n := ((most + 1 : Nat) : Int)) hb (show (keysV b p 5).2 ≤ 1000000 by omega) (by omega) (by omega)
  obtain ⟨c1, c2, c3⟩ := deedsL_fin hb (l := (keysV b p 5).1) (by omega) a2 (pickV b (keysV b p 5).2 ((most + 1 : Nat) : Int)) [] ((keysV b p 5).2 + 1) (by omega) (by show 0 + _ ≤ _; omega) (by simp)
  rw [show ([] : List Deed).length = 0 from rfl] at c1
  unfold deedsV
  dsimp only
  split
  · refine ⟨by simp only [List.length_append, List.length_cons, List.length_nil]; omega, fun d hd => ?_, by dsimp only; omega⟩
    rcases List.mem_append.1 hd with h | h
    · exact c2 d h
    · obtain rfl := by simpa using h
      show xTxt.size ≤ 5
      decide
  · exact ⟨by dsimp only; omega, c2, by dsimp only; omega⟩
end Go.Proofs.Ytcbhgglpgphimaa.Ab
