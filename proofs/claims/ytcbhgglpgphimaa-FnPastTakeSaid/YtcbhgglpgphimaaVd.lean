/-
  Contracts: the store's check, the reference's; both checks are one. No condition.
  The two checks of a store are one, in plain Lean. No condition.
  Contracts: the sizes of what a law is given. No condition.
  Contracts: what a law is given, laid out for the program; rows of our own that are read only from there on. No condition.
  Contracts: a law's comparisons, of what is the same; the law of the store's check. No condition.
  A slice that is nil is a row without elements: contracts told of the one serve for the other. Definitions and lemmas. No condition.
  Contracts: a new store. No condition.
  Contracts: runs that are joined, and trimmed, the reference's. No condition.
  Contracts: a run that is trimmed, the reference's. No condition.
  Contracts: a store anew, a level that is set, the reference's. No condition.
  Contract: a store anew, the reference's. No condition.
  Contracts: a run that is let into a level, the reference's. No condition.
  Contracts: the top that goes down, an entry that is added, the reference's. No condition.
-/
import Derived.Test.YtcbhgglpgphimaaVc
namespace Go.Proofs.Ytcbhgglpgphimaa.Ab
set_option linter.deprecated false
set_option linter.unusedVariables false
set_option linter.unusedSimpArgs false
open Go Go.Proofs
set_option maxRecDepth 10000
set_option maxHeartbeats 8000000
set_option linter.unusedSimpArgs false
set_option linter.unusedVariables false
def sPair (s : Sto) (i k : Nat) : Bool := match s.levels[i]?, s.levels[k]? with
  | some r, some b => newestM r b s.time
  | _, _ => true
def sAt (s : Sto) (i : Nat) : Bool := (match s.levels[i]?, s.sieves[i]? with
  | some r, some x => lvM s.keep i r x && newestM s.top r s.time
  | _, _ => true) && allI 3 (fun k => decide (k ≤ i) || sPair s i k)
def headS (s : Sto) : Bool := decide (s.levels.length = 3) && decide (s.sieves.length = 3) && inB 0 s.keep 5 && inB 0 s.time 999 && timesM s.times s.time && runOk s.top && decide (s.top.length ≤ 4)
def storeS (s : Sto) : Bool := headS s && allI 3 (sAt s)
theorem sstoreOk_ac (s : Sto) (hs : SmSt s) : AC Try.prog 37 [stT s] noHp 0 ⟨.t (bT (storeS s)), noHp, 0⟩ := by
  refine AC_of Try.func37 rfl Try.ntmps37 Try.results37 (by kernel_rfl) rfl ?_
  simp only [List.zipIdx, List.map, Nat.zero_add, Nat.reduceAdd]
  cases c1 : decide ((s.levels.length : Int) = 3)
  · repeat (first | apply Aw_seq | apply Aw_block | apply Aw_skip | apply Aw_exit | refine Aw_condt rfl ?_ | refine Aw_condf rfl ?_ | (refine qr ?_; simp only [go_sem, Nat.reduceEqDiff, reduceIte, Nat.reduceAdd, Nat.reduceMul, Nat.reduceSub, Nat.reduceLT, Nat.reduceLeDiff, Nat.reduceBEq, c1]) | (refine qd (by kernel_rfl) (by kernel_rfl) ?_; simp only [go_sem, Nat.reduceEqDiff, reduceIte, Nat.reduceAdd, Nat.reduceMul, Nat.reduceSub, Nat.reduceLT, Nat.reduceLeDiff, Nat.reduceBEq, c1]) | refine dk (by kernel_rfl) ?_)
    exact Aw_ret (ret0 (.inl rfl) (by simp only [go_sem, Nat.reduceEqDiff, reduceIte, Nat.reduceAdd, Nat.reduceMul, Nat.reduceSub, Nat.reduceLT, Nat.reduceLeDiff, Nat.reduceBEq]; rfl) (by unfold storeS headS; rw [decide_eq_false (by have := of_decide_eq_false c1; omega : ¬ s.levels.length = 3)]; rfl) rfl)
  cases c2 : decide ((s.sieves.length : Int) = 3)
  · repeat (first | apply Aw_seq | apply Aw_block | apply Aw_skip | apply Aw_exit | refine Aw_condt rfl ?_ | refine Aw_condf rfl ?_ | (refine qr ?_; simp only [go_sem, Nat.reduceEqDiff, reduceIte, Nat.reduceAdd, Nat.reduceMul, Nat.reduceSub, Nat.reduceLT, Nat.reduceLeDiff, Nat.reduceBEq, c1, c2]) | (refine qd (by kernel_rfl) (by kernel_rfl) ?_; simp only [go_sem, Nat.reduceEqDiff, reduceIte, Nat.reduceAdd, Nat.reduceMul, Nat.reduceSub, Nat.reduceLT, Nat.reduceLeDiff, Nat.reduceBEq, c1, c2]) | refine dk (by kernel_rfl) ?_)
    exact Aw_ret (ret0 (.inl rfl) (by simp only [go_sem, Nat.reduceEqDiff, reduceIte, Nat.reduceAdd, Nat.reduceMul, Nat.reduceSub, Nat.reduceLT, Nat.reduceLeDiff, Nat.reduceBEq]; rfl) (by unfold storeS headS; rw [decide_eq_false (by have := of_decide_eq_false c2; omega : ¬ s.sieves.length = 3)]; simp) rfl)
  cases c0 : inB 0 s.keep 5
  · repeat (first | apply Aw_seq | apply Aw_block | apply Aw_skip | apply Aw_exit | refine Aw_condt rfl ?_ | refine Aw_condf rfl ?_ | (refine qr ?_; simp only [go_sem, Nat.reduceEqDiff, reduceIte, Nat.reduceAdd, Nat.reduceMul, Nat.reduceSub, Nat.reduceLT, Nat.reduceLeDiff, Nat.reduceBEq, c1, c2, c0]) | (refine qd (by kernel_rfl) (by kernel_rfl) ?_; simp only [go_sem, Nat.reduceEqDiff, reduceIte, Nat.reduceAdd, Nat.reduceMul, Nat.reduceSub, Nat.reduceLT, Nat.reduceLeDiff, Nat.reduceBEq, c1, c2, c0]) | refine dk (by kernel_rfl) ?_ | (refine qp (l6In_ac _ _ _) (by simp only [go_sem, Nat.reduceEqDiff, reduceIte, Nat.reduceAdd, Nat.reduceMul, Nat.reduceSub, Nat.reduceLT, Nat.reduceLeDiff, Nat.reduceBEq, c1, c2, c0]; first | done | rfl) rfl (by simp only [go_sem, Nat.reduceLT]) rfl rfl ?_; simp only [go_sem, Nat.reduceEqDiff, reduceIte, Nat.reduceAdd, Nat.reduceMul, Nat.reduceSub, Nat.reduceLT, Nat.reduceLeDiff, Nat.reduceBEq, c1, c2, c0]))
    exact Aw_ret (ret0 (.inl rfl) (by simp only [go_sem, Nat.reduceEqDiff, reduceIte, Nat.reduceAdd, Nat.reduceMul, Nat.reduceSub, Nat.reduceLT, Nat.reduceLeDiff, Nat.reduceBEq]; rfl) (by unfold storeS headS; simp [c0]) rfl)
  cases c5 : inB 0 s.time 999
  · repeat (first | apply Aw_seq | apply Aw_block | apply Aw_skip | apply Aw_exit | refine Aw_condt rfl ?_ | refine Aw_condf rfl ?_ | (refine qr ?_; simp only [go_sem, Nat.reduceEqDiff, reduceIte, Nat.reduceAdd, Nat.reduceMul, Nat.reduceSub, Nat.reduceLT, Nat.reduceLeDiff, Nat.reduceBEq, c1, c2, c0, c5]) | (refine qd (by kernel_rfl) (by kernel_rfl) ?_; simp only [go_sem, Nat.reduceEqDiff, reduceIte, Nat.reduceAdd, Nat.reduceMul, Nat.reduceSub, Nat.reduceLT, Nat.reduceLeDiff, Nat.reduceBEq, c1, c2, c0, c5]) | refine dk (by kernel_rfl) ?_ | (refine qp (l6In_ac _ _ _) (by simp only [go_sem, Nat.reduceEqDiff, reduceIte, Nat.reduceAdd, Nat.reduceMul, Nat.reduceSub, Nat.reduceLT, Nat.reduceLeDiff, Nat.reduceBEq, c1, c2, c0, c5]; first | done | rfl) rfl (by simp only [go_sem, Nat.reduceLT]) rfl rfl ?_; simp only [go_sem, Nat.reduceEqDiff, reduceIte, Nat.reduceAdd, Nat.reduceMul, Nat.reduceSub, Nat.reduceLT, Nat.reduceLeDiff, Nat.reduceBEq, c1, c2, c0, c5]))
    exact Aw_ret (ret0 (.inl rfl) (by simp only [go_sem, Nat.reduceEqDiff, reduceIte, Nat.reduceAdd, Nat.reduceMul, Nat.reduceSub, Nat.reduceLT, Nat.reduceLeDiff, Nat.reduceBEq]; rfl) (by unfold storeS headS; simp [c5]) rfl)
  cases c6 : timesM s.times s.time
  · repeat (first | apply Aw_seq | apply Aw_block | apply Aw_skip | apply Aw_exit | refine Aw_condt rfl ?_ | refine Aw_condf rfl ?_ | (refine qr ?_; simp only [go_sem, Nat.reduceEqDiff, reduceIte, Nat.reduceAdd, Nat.reduceMul, Nat.reduceSub, Nat.reduceLT, Nat.reduceLeDiff, Nat.reduceBEq, c1, c2, c0, c5, c6]) | (refine qd (by kernel_rfl) (by kernel_rfl) ?_; simp only [go_sem, Nat.reduceEqDiff, reduceIte, Nat.reduceAdd, Nat.reduceMul, Nat.reduceSub, Nat.reduceLT, Nat.reduceLeDiff, Nat.reduceBEq, c1, c2, c0, c5, c6]) | refine dk (by kernel_rfl) ?_ | (refine qp (l6In_ac _ _ _) (by simp only [go_sem, Nat.reduceEqDiff, reduceIte, Nat.reduceAdd, Nat.reduceMul, Nat.reduceSub, Nat.reduceLT, Nat.reduceLeDiff, Nat.reduceBEq, c1, c2, c0, c5, c6]; first | done | rfl) rfl (by simp only [go_sem, Nat.reduceLT]) rfl rfl ?_; simp only [go_sem, Nat.reduceEqDiff, reduceIte, Nat.reduceAdd, Nat.reduceMul, Nat.reduceSub, Nat.reduceLT, Nat.reduceLeDiff, Nat.reduceBEq, c1, c2, c0, c5, c6]) | (refine qp (l12Times_ac _ _ hs.tl) (by simp only [go_sem, Nat.reduceEqDiff, reduceIte, Nat.reduceAdd, Nat.reduceMul, Nat.reduceSub, Nat.reduceLT, Nat.reduceLeDiff, Nat.reduceBEq, c1, c2, c0, c5, c6]; first | done | rfl) rfl (by simp only [go_sem, Nat.reduceLT]) rfl rfl ?_; simp only [go_sem, Nat.reduceEqDiff, reduceIte, Nat.reduceAdd, Nat.reduceMul, Nat.reduceSub, Nat.reduceLT, Nat.reduceLeDiff, Nat.reduceBEq, c1, c2, c0, c5, c6]))
    exact Aw_ret (ret0 (.inl rfl) (by simp only [go_sem, Nat.reduceEqDiff, reduceIte, Nat.reduceAdd, Nat.reduceMul, Nat.reduceSub, Nat.reduceLT, Nat.reduceLeDiff, Nat.reduceBEq]; rfl) (by unfold storeS headS; simp [c6]) rfl)
  cases c3 : runOk s.top
  · repeat (first | apply Aw_seq | apply Aw_block | apply Aw_skip | apply Aw_exit | refine Aw_condt rfl ?_ | refine Aw_condf rfl ?_ | (refine qr ?_; simp only [go_sem, Nat.reduceEqDiff, reduceIte, Nat.reduceAdd, Nat.reduceMul, Nat.reduceSub, Nat.reduceLT, Nat.reduceLeDiff, Nat.reduceBEq, c1, c2, c0, c5, c6, c3]) | (refine qd (by kernel_rfl) (by kernel_rfl) ?_; simp only [go_sem, Nat.reduceEqDiff, reduceIte, Nat.reduceAdd, Nat.reduceMul, Nat.reduceSub, Nat.reduceLT, Nat.reduceLeDiff, Nat.reduceBEq, c1, c2, c0, c5, c6, c3]) | refine dk (by kernel_rfl) ?_ | (refine qp (l6In_ac _ _ _) (by simp only [go_sem, Nat.reduceEqDiff, reduceIte, Nat.reduceAdd, Nat.reduceMul, Nat.reduceSub, Nat.reduceLT, Nat.reduceLeDiff, Nat.reduceBEq, c1, c2, c0, c5, c6, c3]; first | done | rfl) rfl (by simp only [go_sem, Nat.reduceLT]) rfl rfl ?_; simp only [go_sem, Nat.reduceEqDiff, reduceIte, Nat.reduceAdd, Nat.reduceMul, Nat.reduceSub, Nat.reduceLT, Nat.reduceLeDiff, Nat.reduceBEq, c1, c2, c0, c5, c6, c3]) | (refine qp (l12Times_ac _ _ hs.tl) (by simp only [go_sem, Nat.reduceEqDiff, reduceIte, Nat.reduceAdd, Nat.reduceMul, Nat.reduceSub, Nat.reduceLT, Nat.reduceLeDiff, Nat.reduceBEq, c1, c2, c0, c5, c6, c3]; first | done | rfl) rfl (by simp only [go_sem, Nat.reduceLT]) rfl rfl ?_; simp only [go_sem, Nat.reduceEqDiff, reduceIte, Nat.reduceAdd, Nat.reduceMul, Nat.reduceSub, Nat.reduceLT, Nat.reduceLeDiff, Nat.reduceBEq, c1, c2, c0, c5, c6, c3]) | (refine qp (srunOk_ac _ hs.top) (by simp only [go_sem, Nat.reduceEqDiff, reduceIte, Nat.reduceAdd, Nat.reduceMul, Nat.reduceSub, Nat.reduceLT, Nat.reduceLeDiff, Nat.reduceBEq, c1, c2, c0, c5, c6, c3]; first | done | rfl) rfl (by simp only [go_sem, Nat.reduceLT]) rfl rfl ?_; simp only [go_sem, Nat.reduceEqDiff, reduceIte, Nat.reduceAdd, Nat.reduceMul, Nat.reduceSub, Nat.reduceLT, Nat.reduceLeDiff, Nat.reduceBEq, c1, c2, c0, c5, c6, c3]))
    exact Aw_ret (ret0 (.inl rfl) (by simp only [go_sem, Nat.reduceEqDiff, reduceIte, Nat.reduceAdd, Nat.reduceMul, Nat.reduceSub, Nat.reduceLT, Nat.reduceLeDiff, Nat.reduceBEq]; rfl) (by unfold storeS headS; simp [c3]) rfl)
  cases c4 : decide ((4 : Int) < (s.top.length : Int))
  case true =>
    repeat (first | apply Aw_seq | apply Aw_block | apply Aw_skip | apply Aw_exit | refine Aw_condt rfl ?_ | refine Aw_condf rfl ?_ | (refine qr ?_; simp only [go_sem, Nat.reduceEqDiff, reduceIte, Nat.reduceAdd, Nat.reduceMul, Nat.reduceSub, Nat.reduceLT, Nat.reduceLeDiff, Nat.reduceBEq, c1, c2, c0, c5, c6, c3, c4]) | (refine qd (by kernel_rfl) (by kernel_rfl) ?_; simp only [go_sem, Nat.reduceEqDiff, reduceIte, Nat.reduceAdd, Nat.reduceMul, Nat.reduceSub, Nat.reduceLT, Nat.reduceLeDiff, Nat.reduceBEq, c1, c2, c0, c5, c6, c3, c4]) | refine dk (by kernel_rfl) ?_ | (refine qp (l6In_ac _ _ _) (by simp only [go_sem, Nat.reduceEqDiff, reduceIte, Nat.reduceAdd, Nat.reduceMul, Nat.reduceSub, Nat.reduceLT, Nat.reduceLeDiff, Nat.reduceBEq, c1, c2, c0, c5, c6, c3, c4]; first | done | rfl) rfl (by simp only [go_sem, Nat.reduceLT]) rfl rfl ?_; simp only [go_sem, Nat.reduceEqDiff, reduceIte, Nat.reduceAdd, Nat.reduceMul, Nat.reduceSub, Nat.reduceLT, Nat.reduceLeDiff, Nat.reduceBEq, c1, c2, c0, c5, c6, c3, c4]) | (refine qp (l12Times_ac _ _ hs.tl) (by simp only [go_sem, Nat.reduceEqDiff, reduceIte, Nat.reduceAdd, Nat.reduceMul, Nat.reduceSub, Nat.reduceLT, Nat.reduceLeDiff, Nat.reduceBEq, c1, c2, c0, c5, c6, c3, c4]; first | done | rfl) rfl (by simp only [go_sem, Nat.reduceLT]) rfl rfl ?_; simp only [go_sem, Nat.reduceEqDiff, reduceIte, Nat.reduceAdd, Nat.reduceMul, Nat.reduceSub, Nat.reduceLT, Nat.reduceLeDiff, Nat.reduceBEq, c1, c2, c0, c5, c6, c3, c4]) | (refine qp (srunOk_ac _ hs.top) (by simp only [go_sem, Nat.reduceEqDiff, reduceIte, Nat.reduceAdd, Nat.reduceMul, Nat.reduceSub, Nat.reduceLT, Nat.reduceLeDiff, Nat.reduceBEq, c1, c2, c0, c5, c6, c3, c4]; first | done | rfl) rfl (by simp only [go_sem, Nat.reduceLT]) rfl rfl ?_; simp only [go_sem, Nat.reduceEqDiff, reduceIte, Nat.reduceAdd, Nat.reduceMul, Nat.reduceSub, Nat.reduceLT, Nat.reduceLeDiff, Nat.reduceBEq, c1, c2, c0, c5, c6, c3, c4]))
    exact Aw_ret (ret0 (.inl rfl) (by simp only [go_sem, Nat.reduceEqDiff, reduceIte, Nat.reduceAdd, Nat.reduceMul, Nat.reduceSub, Nat.reduceLT, Nat.reduceLeDiff, Nat.reduceBEq]; rfl) (by unfold storeS headS; rw [decide_eq_false (by have := of_decide_eq_true c4; omega : ¬ s.top.length ≤ 4)]; simp) rfl)
  repeat (first | apply Aw_seq | apply Aw_block | apply Aw_skip | apply Aw_exit | refine Aw_condt rfl ?_ | refine Aw_condf rfl ?_ | (refine qr ?_; simp only [go_sem, Nat.reduceEqDiff, reduceIte, Nat.reduceAdd, Nat.reduceMul, Nat.reduceSub, Nat.reduceLT, Nat.reduceLeDiff, Nat.reduceBEq, c1, c2, c0, c5, c6, c3, c4]) | (refine qd (by kernel_rfl) (by kernel_rfl) ?_; simp only [go_sem, Nat.reduceEqDiff, reduceIte, Nat.reduceAdd, Nat.reduceMul, Nat.reduceSub, Nat.reduceLT, Nat.reduceLeDiff, Nat.reduceBEq, c1, c2, c0, c5, c6, c3, c4]) | refine dk (by kernel_rfl) ?_ | (refine qp (l6In_ac _ _ _) (by simp only [go_sem, Nat.reduceEqDiff, reduceIte, Nat.reduceAdd, Nat.reduceMul, Nat.reduceSub, Nat.reduceLT, Nat.reduceLeDiff, Nat.reduceBEq, c1, c2, c0, c5, c6, c3, c4]; first | done | rfl) rfl (by simp only [go_sem, Nat.reduceLT]) rfl rfl ?_; simp only [go_sem, Nat.reduceEqDiff, reduceIte, Nat.reduceAdd, Nat.reduceMul, Nat.reduceSub, Nat.reduceLT, Nat.reduceLeDiff, Nat.reduceBEq, c1, c2, c0, c5, c6, c3, c4]) | (refine qp (l12Times_ac _ _ hs.tl) (by simp only [go_sem, Nat.reduceEqDiff, reduceIte, Nat.reduceAdd, Nat.reduceMul, Nat.reduceSub, Nat.reduceLT, Nat.reduceLeDiff, Nat.reduceBEq, c1, c2, c0, c5, c6, c3, c4]; first | done | rfl) rfl (by simp only [go_sem, Nat.reduceLT]) rfl rfl ?_; simp only [go_sem, Nat.reduceEqDiff, reduceIte, Nat.reduceAdd, Nat.reduceMul, Nat.reduceSub, Nat.reduceLT, Nat.reduceLeDiff, Nat.reduceBEq, c1, c2, c0, c5, c6, c3, c4]) | (refine qp (srunOk_ac _ hs.top) (by simp only [go_sem, Nat.reduceEqDiff, reduceIte, Nat.reduceAdd, Nat.reduceMul, Nat.reduceSub, Nat.reduceLT, Nat.reduceLeDiff, Nat.reduceBEq, c1, c2, c0, c5, c6, c3, c4]; first | done | rfl) rfl (by simp only [go_sem, Nat.reduceLT]) rfl rfl ?_; simp only [go_sem, Nat.reduceEqDiff, reduceIte, Nat.reduceAdd, Nat.reduceMul, Nat.reduceSub, Nat.reduceLT, Nat.reduceLeDiff, Nat.reduceBEq, c1, c2, c0, c5, c6, c3, c4]))
  have d1 : s.levels.length = 3 := by have := of_decide_eq_true c1; omega
  have d2 : s.sieves.length = 3 := by have := of_decide_eq_true c2; omega
  have d4 : s.top.length ≤ 4 := by have := of_decide_eq_false c4; omega
  have hh : headS s = true := by
    unfold headS
    rw [decide_eq_true d1, decide_eq_true d2, decide_eq_true d4, c0, c3, c5, c6]; rfl
  refine Aw.rw (rwL (l' := [(3, .t (iT (0 : Nat))), (1, .t (.c (.ph 0 0 0)))]) (os := [some (stO s)]) (M := [0]) (n' := 1) (by repeat (first | exact trivial | refine ⟨rfl, rfl, ?_⟩)) (by rfl) (by simp only [go_sem, Nat.reduceEqDiff, reduceIte, Nat.reduceAdd, Nat.reduceMul, Nat.reduceSub, Nat.reduceLT, Nat.reduceLeDiff, Nat.reduceBEq]; first | done | rfl) (by decide) (by intro m hm; first | omega | (rcases m with _ | _ | _ | _ | m <;> first | exact ⟨by decide, rfl⟩ | omega))) ?_
  refine Aw_loop_rw (ι := { i : Nat // i ≤ 3 ∧ ∀ j, j < i → sAt s j = true }) (fun i => S [(3, .t (iT (i.1 : Nat))), (1, .t (.c (.ph 0 0 0)))] (hpL [some (stO s)]) 1) (fun i => 3 - i.1) ⟨0, by omega, fun j hj => absurd hj (by omega)⟩ ?_
  rintro ⟨i, hi, hp⟩
  dsimp only
  by_cases hlt : i < 3
  · have h1 : decide ((i : Int) < 3) = true := decide_eq_true (by omega)
    have h2 := wrap_succ (m := 3) hlt (by omega)
    obtain ⟨r, hr⟩ : ∃ r, s.levels[i]? = some r := ⟨_, List.getElem?_eq_getElem (by omega)⟩
    obtain ⟨x, hx⟩ : ∃ x, s.sieves[i]? = some x := ⟨_, List.getElem?_eq_getElem (by omega)⟩
    have hsr := hs.lev r (List.mem_of_getElem? hr)
    have k1 := l12Level_ac s i r x (by omega) hr hx hsr
    have k2 := l12Newest_ac s.top r s.time hs.top.len hsr
    have bad : sAt s i = false → storeS s = false := fun h => by unfold storeS; rw [allI_f (i := i) hlt h, Bool.and_false]
    have hat : sAt s i = (lvM s.keep i r x && newestM s.top r s.time && allI 3 (fun k => decide (k ≤ i) || sPair s i k)) := by unfold sAt; rw [hr, hx]
    cases a1 : lvM s.keep i r x
    · rw [a1] at k1
      rw [bad (by rw [hat, a1]; rfl)]
      repeat (first | apply Aw_seq | apply Aw_block | apply Aw_skip | apply Aw_exit | refine Aw_condt rfl ?_ | refine Aw_condf rfl ?_ | (refine qr ?_; simp only [go_sem, Nat.reduceEqDiff, reduceIte, Nat.reduceAdd, Nat.reduceMul, Nat.reduceSub, Nat.reduceLT, Nat.reduceLeDiff, Nat.reduceBEq, h1, hr]) | (refine qd (by kernel_rfl) (by kernel_rfl) ?_; simp only [go_sem, Nat.reduceEqDiff, reduceIte, Nat.reduceAdd, Nat.reduceMul, Nat.reduceSub, Nat.reduceLT, Nat.reduceLeDiff, Nat.reduceBEq, h1, hr]) | refine dk (by kernel_rfl) ?_ | (refine qp (k1) (by simp only [go_sem, Nat.reduceEqDiff, reduceIte, Nat.reduceAdd, Nat.reduceMul, Nat.reduceSub, Nat.reduceLT, Nat.reduceLeDiff, Nat.reduceBEq, h1, hr]; first | done | rfl) rfl (by simp only [go_sem, Nat.reduceLT]) rfl rfl ?_; simp only [go_sem, Nat.reduceEqDiff, reduceIte, Nat.reduceAdd, Nat.reduceMul, Nat.reduceSub, Nat.reduceLT, Nat.reduceLeDiff, Nat.reduceBEq, h1, hr]))
      exact Aw_ret (ret0 (.inl rfl) (by simp only [go_sem, Nat.reduceEqDiff, reduceIte, Nat.reduceAdd, Nat.reduceMul, Nat.reduceSub, Nat.reduceLT, Nat.reduceLeDiff, Nat.reduceBEq]; rfl) (by rfl) rfl)
    rw [a1] at k1
    cases a2 : newestM s.top r s.time
    · rw [a2] at k2
      rw [bad (by rw [hat, a2]; simp)]
      repeat (first | apply Aw_seq | apply Aw_block | apply Aw_skip | apply Aw_exit | refine Aw_condt rfl ?_ | refine Aw_condf rfl ?_ | (refine qr ?_; simp only [go_sem, Nat.reduceEqDiff, reduceIte, Nat.reduceAdd, Nat.reduceMul, Nat.reduceSub, Nat.reduceLT, Nat.reduceLeDiff, Nat.reduceBEq, h1, hr]) | (refine qd (by kernel_rfl) (by kernel_rfl) ?_; simp only [go_sem, Nat.reduceEqDiff, reduceIte, Nat.reduceAdd, Nat.reduceMul, Nat.reduceSub, Nat.reduceLT, Nat.reduceLeDiff, Nat.reduceBEq, h1, hr]) | refine dk (by kernel_rfl) ?_ | (refine qp (k1) (by simp only [go_sem, Nat.reduceEqDiff, reduceIte, Nat.reduceAdd, Nat.reduceMul, Nat.reduceSub, Nat.reduceLT, Nat.reduceLeDiff, Nat.reduceBEq, h1, hr]; first | done | rfl) rfl (by simp only [go_sem, Nat.reduceLT]) rfl rfl ?_; simp only [go_sem, Nat.reduceEqDiff, reduceIte, Nat.reduceAdd, Nat.reduceMul, Nat.reduceSub, Nat.reduceLT, Nat.reduceLeDiff, Nat.reduceBEq, h1, hr]) | (refine qp (k2) (by simp only [go_sem, Nat.reduceEqDiff, reduceIte, Nat.reduceAdd, Nat.reduceMul, Nat.reduceSub, Nat.reduceLT, Nat.reduceLeDiff, Nat.reduceBEq, h1, hr]; first | done | rfl) rfl (by simp only [go_sem, Nat.reduceLT]) rfl rfl ?_; simp only [go_sem, Nat.reduceEqDiff, reduceIte, Nat.reduceAdd, Nat.reduceMul, Nat.reduceSub, Nat.reduceLT, Nat.reduceLeDiff, Nat.reduceBEq, h1, hr]))
      exact Aw_ret (ret0 (.inl rfl) (by simp only [go_sem, Nat.reduceEqDiff, reduceIte, Nat.reduceAdd, Nat.reduceMul, Nat.reduceSub, Nat.reduceLT, Nat.reduceLeDiff, Nat.reduceBEq]; rfl) (by rfl) rfl)
    rw [a2] at k2
    repeat (first | apply Aw_seq | apply Aw_block | apply Aw_skip | apply Aw_exit | refine Aw_condt rfl ?_ | refine Aw_condf rfl ?_ | (refine qr ?_; simp only [go_sem, Nat.reduceEqDiff, reduceIte, Nat.reduceAdd, Nat.reduceMul, Nat.reduceSub, Nat.reduceLT, Nat.reduceLeDiff, Nat.reduceBEq, h1, hr, h2]) | (refine qd (by kernel_rfl) (by kernel_rfl) ?_; simp only [go_sem, Nat.reduceEqDiff, reduceIte, Nat.reduceAdd, Nat.reduceMul, Nat.reduceSub, Nat.reduceLT, Nat.reduceLeDiff, Nat.reduceBEq, h1, hr, h2]) | refine dk (by kernel_rfl) ?_ | (refine qp (k1) (by simp only [go_sem, Nat.reduceEqDiff, reduceIte, Nat.reduceAdd, Nat.reduceMul, Nat.reduceSub, Nat.reduceLT, Nat.reduceLeDiff, Nat.reduceBEq, h1, hr, h2]; first | done | rfl) rfl (by simp only [go_sem, Nat.reduceLT]) rfl rfl ?_; simp only [go_sem, Nat.reduceEqDiff, reduceIte, Nat.reduceAdd, Nat.reduceMul, Nat.reduceSub, Nat.reduceLT, Nat.reduceLeDiff, Nat.reduceBEq, h1, hr, h2]) | (refine qp (k2) (by simp only [go_sem, Nat.reduceEqDiff, reduceIte, Nat.reduceAdd, Nat.reduceMul, Nat.reduceSub, Nat.reduceLT, Nat.reduceLeDiff, Nat.reduceBEq, h1, hr, h2]; first | done | rfl) rfl (by simp only [go_sem, Nat.reduceLT]) rfl rfl ?_; simp only [go_sem, Nat.reduceEqDiff, reduceIte, Nat.reduceAdd, Nat.reduceMul, Nat.reduceSub, Nat.reduceLT, Nat.reduceLeDiff, Nat.reduceBEq, h1, hr, h2]))
    refine Aw.rw (rwL (l' := [(4, .t (iT ((i + 1 : Nat) : Int))), (3, .t (iT (i : Nat))), (1, .t (.c (.ph 0 0 0)))]) (os := [some (stO s)]) (M := [0]) (n' := 1) (by repeat (first | exact trivial | refine ⟨rfl, rfl, ?_⟩)) (by rfl) (by simp only [go_sem, Nat.reduceEqDiff, reduceIte, Nat.reduceAdd, Nat.reduceMul, Nat.reduceSub, Nat.reduceLT, Nat.reduceLeDiff, Nat.reduceBEq]; first | done | rfl) (by decide) (by intro m hm; first | omega | (rcases m with _ | _ | _ | _ | m <;> first | exact ⟨by decide, rfl⟩ | omega))) ?_
    refine Aw_loop_rw (ι := { k : Nat // k ≤ 3 ∧ i < k ∧ ∀ q, i < q → q < k → sPair s i q = true }) (fun k => S [(4, .t (iT (k.1 : Nat))), (3, .t (iT (i : Nat))), (1, .t (.c (.ph 0 0 0)))] (hpL [some (stO s)]) 1) (fun k => 3 - k.1) ⟨i + 1, by omega, by omega, fun q h1 h2 => absurd h1 (by omega)⟩ ?_
    rintro ⟨k, hk, hik, hq⟩
    dsimp only
    by_cases hkl : k < 3
    · have g1 : decide ((k : Int) < 3) = true := decide_eq_true (by omega)
      have g2 := wrap_succ (m := 3) hkl (by omega)
      obtain ⟨b, hb⟩ : ∃ b, s.levels[k]? = some b := ⟨_, List.getElem?_eq_getElem (by omega)⟩
      have k3 := l12Newest_ac r b s.time hsr.len (hs.lev b (List.mem_of_getElem? hb))
      have hpr : sPair s i k = newestM r b s.time := by unfold sPair; rw [hr, hb]
      cases a3 : newestM r b s.time
      · rw [a3] at k3
        rw [bad (by rw [hat, allI_f (i := k) hkl (by rw [hpr, a3, decide_eq_false (by omega)]; rfl), Bool.and_false])]
        repeat (first | apply Aw_seq | apply Aw_block | apply Aw_skip | apply Aw_exit | refine Aw_condt rfl ?_ | refine Aw_condf rfl ?_ | (refine qr ?_; simp only [go_sem, Nat.reduceEqDiff, reduceIte, Nat.reduceAdd, Nat.reduceMul, Nat.reduceSub, Nat.reduceLT, Nat.reduceLeDiff, Nat.reduceBEq, g1, hr, hb]) | (refine qd (by kernel_rfl) (by kernel_rfl) ?_; simp only [go_sem, Nat.reduceEqDiff, reduceIte, Nat.reduceAdd, Nat.reduceMul, Nat.reduceSub, Nat.reduceLT, Nat.reduceLeDiff, Nat.reduceBEq, g1, hr, hb]) | refine dk (by kernel_rfl) ?_ | (refine qp (k3) (by simp only [go_sem, Nat.reduceEqDiff, reduceIte, Nat.reduceAdd, Nat.reduceMul, Nat.reduceSub, Nat.reduceLT, Nat.reduceLeDiff, Nat.reduceBEq, g1, hr, hb]; first | done | rfl) rfl (by simp only [go_sem, Nat.reduceLT]) rfl rfl ?_; simp only [go_sem, Nat.reduceEqDiff, reduceIte, Nat.reduceAdd, Nat.reduceMul, Nat.reduceSub, Nat.reduceLT, Nat.reduceLeDiff, Nat.reduceBEq, g1, hr, hb]))
        exact Aw_ret (ret0 (.inl rfl) (by simp only [go_sem, Nat.reduceEqDiff, reduceIte, Nat.reduceAdd, Nat.reduceMul, Nat.reduceSub, Nat.reduceLT, Nat.reduceLeDiff, Nat.reduceBEq]; rfl) (by rfl) rfl)
      · rw [a3] at k3
        repeat (first | apply Aw_seq | apply Aw_block | apply Aw_skip | apply Aw_exit | refine Aw_condt rfl ?_ | refine Aw_condf rfl ?_ | (refine qr ?_; simp only [go_sem, Nat.reduceEqDiff, reduceIte, Nat.reduceAdd, Nat.reduceMul, Nat.reduceSub, Nat.reduceLT, Nat.reduceLeDiff, Nat.reduceBEq, g1, hr, hb, g2]) | (refine qd (by kernel_rfl) (by kernel_rfl) ?_; simp only [go_sem, Nat.reduceEqDiff, reduceIte, Nat.reduceAdd, Nat.reduceMul, Nat.reduceSub, Nat.reduceLT, Nat.reduceLeDiff, Nat.reduceBEq, g1, hr, hb, g2]) | refine dk (by kernel_rfl) ?_ | (refine qp (k3) (by simp only [go_sem, Nat.reduceEqDiff, reduceIte, Nat.reduceAdd, Nat.reduceMul, Nat.reduceSub, Nat.reduceLT, Nat.reduceLeDiff, Nat.reduceBEq, g1, hr, hb, g2]; first | done | rfl) rfl (by simp only [go_sem, Nat.reduceLT]) rfl rfl ?_; simp only [go_sem, Nat.reduceEqDiff, reduceIte, Nat.reduceAdd, Nat.reduceMul, Nat.reduceSub, Nat.reduceLT, Nat.reduceLeDiff, Nat.reduceBEq, g1, hr, hb, g2]))
        refine ⟨⟨k + 1, by omega, by omega, fun q q1 q2 => by rcases Nat.lt_succ_iff_lt_or_eq.1 q2 with h | rfl; exact hq q q1 h; rw [hpr, a3]⟩, [0], ?_, rwL (by repeat (first | exact trivial | refine ⟨rfl, rfl, ?_⟩)) (by rfl) (by simp only [go_sem, Nat.reduceEqDiff, reduceIte, Nat.reduceAdd, Nat.reduceMul, Nat.reduceSub, Nat.reduceLT, Nat.reduceLeDiff, Nat.reduceBEq]; first | done | rfl) (by decide) (by intro m hm; first | omega | (rcases m with _ | _ | _ | _ | m <;> first | exact ⟨by decide, rfl⟩ | omega))⟩
        show 3 - (k + 1) < 3 - k; omega
    · obtain rfl : k = 3 := by omega
      have g1 : decide (((3 : Nat) : Int) < 3) = false := rfl
      have hok : sAt s i = true := by
        rw [hat, a1, a2, allI_t (fun q hq3 => by
          by_cases h : q ≤ i
          · rw [decide_eq_true h]; rfl
          · rw [hq q (by omega) hq3, Bool.or_true])]; rfl
      repeat (first | apply Aw_seq | apply Aw_block | apply Aw_skip | apply Aw_exit | refine Aw_condt rfl ?_ | refine Aw_condf rfl ?_ | (refine qr ?_; simp only [go_sem, Nat.reduceEqDiff, reduceIte, Nat.reduceAdd, Nat.reduceMul, Nat.reduceSub, Nat.reduceLT, Nat.reduceLeDiff, Nat.reduceBEq, g1, h2]) | (refine qd (by kernel_rfl) (by kernel_rfl) ?_; simp only [go_sem, Nat.reduceEqDiff, reduceIte, Nat.reduceAdd, Nat.reduceMul, Nat.reduceSub, Nat.reduceLT, Nat.reduceLeDiff, Nat.reduceBEq, g1, h2]) | refine dk (by kernel_rfl) ?_)
      refine ⟨⟨i + 1, by omega, fun j hj => by rcases Nat.lt_succ_iff_lt_or_eq.1 hj with h | rfl; exact hp j h; exact hok⟩, [0], ?_, rwL (by repeat (first | exact trivial | refine ⟨rfl, rfl, ?_⟩)) (by rfl) (by simp only [go_sem, Nat.reduceEqDiff, reduceIte, Nat.reduceAdd, Nat.reduceMul, Nat.reduceSub, Nat.reduceLT, Nat.reduceLeDiff, Nat.reduceBEq]; first | done | rfl) (by decide) (by intro m hm; first | omega | (rcases m with _ | _ | _ | _ | m <;> first | exact ⟨by decide, rfl⟩ | omega))⟩
      show 3 - (i + 1) < 3 - i; omega
  · obtain rfl : i = 3 := by omega
    have h1 : decide (((3 : Nat) : Int) < 3) = false := rfl
    have hall : storeS s = true := by unfold storeS; rw [hh, allI_t hp]; rfl
    rw [hall]
    repeat (first | apply Aw_seq | apply Aw_block | apply Aw_skip | apply Aw_exit | refine Aw_condt rfl ?_ | refine Aw_condf rfl ?_ | (refine qr ?_; simp only [go_sem, Nat.reduceEqDiff, reduceIte, Nat.reduceAdd, Nat.reduceMul, Nat.reduceSub, Nat.reduceLT, Nat.reduceLeDiff, Nat.reduceBEq, h1]) | (refine qd (by kernel_rfl) (by kernel_rfl) ?_; simp only [go_sem, Nat.reduceEqDiff, reduceIte, Nat.reduceAdd, Nat.reduceMul, Nat.reduceSub, Nat.reduceLT, Nat.reduceLeDiff, Nat.reduceBEq, h1]) | refine dk (by kernel_rfl) ?_)
    exact Aw_ret (ret0 (.inl rfl) (by simp only [go_sem, Nat.reduceEqDiff, reduceIte, Nat.reduceAdd, Nat.reduceMul, Nat.reduceSub, Nat.reduceLT, Nat.reduceLeDiff, Nat.reduceBEq]; rfl) (by rfl) rfl)
end Go.Proofs.Ytcbhgglpgphimaa.Ab
namespace Go.Proofs.Ytcbhgglpgphimaa.Ab
set_option linter.deprecated false
set_option linter.unusedVariables false
set_option linter.unusedSimpArgs false
open Go
set_option linter.unusedVariables false
set_option linter.unusedSimpArgs false
theorem before_trans {a b c : Ent} (h : before a b = true) (k : before b c = true) : before a c = true := by
  unfold before at *
  simp only [Bool.or_eq_true, Bool.and_eq_true, decide_eq_true_eq] at *
  rcases h with h | ⟨h1, h2⟩ <;> rcases k with k | ⟨k1, k2⟩
  · exact .inl (klt_trans h k)
  · exact .inl (k1 ▸ h)
  · exact .inl (h1 ▸ k)
  · exact .inr ⟨h1.trans k1, by omega⟩
theorem run_pw {r : List Ent} (h : runOk r = true) : r.Pairwise (fun a b => before a b = true) ∧ (∀ e ∈ r, entOk e = true) ∧ r.length ≤ 40 := by
  unfold runOk at h
  rw [Bool.and_eq_true] at h
  have h1 := allI_iff.1 h.1
  have hk : ∀ e ∈ r, entOk e = true := fun e he => by
    obtain ⟨i, hi⟩ := List.mem_iff_getElem?.1 he
    have := h1 i (List.getElem?_eq_some_iff.1 hi).1
    unfold okAt at this; rw [hi] at this; simp only [Bool.and_eq_true] at this; exact this.1
  have hadj : ∀ j p k, r[j]? = some p → r[j + 1]? = some k → before p k = true := fun j p k hp hk => by
    have := h1 (j + 1) (List.getElem?_eq_some_iff.1 hk).1
    unfold okAt at this; rw [hk] at this; simp only [hp, Bool.and_eq_true] at this; exact this.2
  refine ⟨?_, hk, by simpa using h.2⟩
  rw [List.pairwise_iff_getElem]
  intro i j hi hj hij
  have key : ∀ d i (h1 : i < r.length) (h2 : i + d + 1 < r.length), before r[i] r[i + d + 1] = true := by
    intro d
    induction d with
    | zero => intro i h1 h2; exact hadj i _ _ (List.getElem?_eq_getElem h1) (List.getElem?_eq_getElem h2)
    | succ d ih =>
      intro i h1 h2
      exact before_trans (ih i h1 (by omega)) (hadj (i + d + 1) _ _ (List.getElem?_eq_getElem (by omega)) (List.getElem?_eq_getElem h2))
  have := key (j - i - 1) i hi (by omega)
  simpa [show i + (j - i - 1) + 1 = j by omega] using this
theorem entOk_time {e : Ent} (h : entOk e = true) : 1 ≤ e.time ∧ e.time ≤ 999 := by
  unfold entOk inB at h
  simp only [Bool.and_eq_true, decide_eq_true_eq] at h
  exact h.2
/-- What is found at the last time is the newest of its key. -/
theorem at_newest : ∀ {b : List Ent}, b.Pairwise (fun a b => before a b = true) → (∀ e ∈ b, e.time ≤ 999) → ∀ x : Ent, (match atM b x.key 999 with
    | some q => !decide (x.time ≤ q.time)
    | none => true) = b.all fun y => !older x y
  | [], _, _, x => rfl
  | y :: b, hp, ht, x => by
    rw [List.pairwise_cons] at hp
    have hy := ht y (by simp)
    unfold atM
    by_cases e : y.key = x.key
    · rw [List.find?_cons_of_pos (by simp [hit, e, hy])]
      simp only [List.all_cons]
      have h1 : older x y = decide (x.time ≤ y.time) := by unfold older; simp [e]
      rw [h1]
      cases hd : decide (x.time ≤ y.time) with
      | true => rfl
      | false =>
        have hgt := of_decide_eq_false hd
        have : (b.all fun z => !older x z) = true := by
          rw [List.all_eq_true]
          intro z hz
          have hb := hp.1 z hz
          unfold older
          unfold before at hb
          simp only [Bool.or_eq_true, Bool.and_eq_true, decide_eq_true_eq] at hb
          rcases hb with hb | ⟨_, hb⟩
          · have : x.key ≠ z.key := fun e2 => by rw [e, e2, klt_irrefl] at hb; cases hb
            simp [this]
          · have : ¬ x.time ≤ z.time := by omega
            simp [this]
        rw [this]; rfl
    · rw [List.find?_cons_of_neg (by simp [hit, e])]
      have ih := at_newest hp.2 (fun e he => ht e (by simp [he])) x
      unfold atM at ih
      rw [ih, List.all_cons]
      have h1 : older x y = false := by unfold older; rw [decide_eq_false (fun h : x.key = y.key => e h.symm)]; rfl
      rw [h1]; rfl
theorem nwAt_eq {b : List Ent} {now : Int} (hp : b.Pairwise (fun a b => before a b = true)) (ht : ∀ e ∈ b, e.time ≤ 999) (x : Ent) : nwAt b now x = (!decide (now < x.time) && b.all fun y => !older x y) := by
  have h := at_newest hp ht x
  unfold nwAt
  cases hA : atM b x.key 999 with
  | none => rw [hA] at h; simp only [] at h ⊢; rw [← h]
  | some q => rw [hA] at h; simp only [] at h ⊢; rw [← h]
theorem newest_iff {a b : List Ent} {now : Int} (hb : runOk b = true) : newestM a b now = true ↔ (∀ x ∈ a, x.time ≤ now) ∧ newerM a b = true := by
  obtain ⟨h1, h2, _⟩ := run_pw hb
  unfold newestM newerM
  rw [List.all_eq_true, List.all_eq_true]
  constructor
  · intro h
    refine ⟨fun x hx => ?_, fun x hx => ?_⟩
    · have := h x hx; rw [nwAt_eq h1 (fun e he => (entOk_time (h2 e he)).2) x] at this; simp only [Bool.and_eq_true, Bool.not_eq_true', decide_eq_false_iff_not] at this; omega
    · have := h x hx
      rw [nwAt_eq h1 (fun e he => (entOk_time (h2 e he)).2) x, Bool.and_eq_true] at this
      exact this.2
  · rintro ⟨h, k⟩ x hx
    rw [nwAt_eq h1 (fun e he => (entOk_time (h2 e he)).2) x, k x hx, Bool.and_true, Bool.not_eq_true', decide_eq_false_iff_not]
    have := h x hx; omega
theorem newer_app {a b c : List Ent} : newerM (a ++ b) c = (newerM a c && newerM b c) := by unfold newerM; rw [List.all_append]
theorem late_iff {s : Sto} {r : List Ent} : decide (0 ≤ lateI s r) = false ↔ ∀ x ∈ r, x.time ≤ s.time := by
  rw [decide_eq_false_iff_not]
  unfold lateI
  cases h : r.findIdx? (fun e => decide (s.time < e.time)) with
  | none =>
    rw [List.findIdx?_eq_none_iff] at h
    simp only []
    exact ⟨fun _ x hx => by have := h x hx; simp at this; omega, fun _ => by omega⟩
  | some i =>
    simp only []
    rw [List.findIdx?_eq_some_iff_getElem] at h
    obtain ⟨hi, h1, _⟩ := h
    constructor
    · intro h; omega
    · intro h2
      have := h2 _ (List.getElem_mem hi)
      simp at h1; omega
theorem lv_run {keep : Int} {i : Nat} {r : List Ent} {x : Sve} (h : lvM keep i r x = true) : runOk r = true ∧ inB 0 keep 5 = true := by
  unfold lvM at h
  simp only [Bool.and_eq_true] at h
  refine ⟨h.1.1.1, ?_⟩
  have := h.1.2
  unfold sieveM at this
  split at this
  · rename_i hc; exact hc.2
  · cases this
theorem len3 {α : Type} {l : List α} (h : l.length = 3) : ∃ a b c, l = [a, b, c] := by
  match l, h with
  | [a, b, c], _ => exact ⟨a, b, c, rfl⟩
theorem allI3 (p : Nat → Bool) : allI 3 p = (p 0 && (p 1 && p 2)) := by
  unfold allI
  show (List.range 3).all p = _
  rw [show List.range 3 = [0, 1, 2] from rfl]
  simp
theorem store_eq (s : Sto) : storeI s = storeS s := by
  by_cases hl : s.levels.length = 3
  case neg => unfold storeI storeS headM headS; rw [decide_eq_false hl]; rfl
  by_cases hx : s.sieves.length = 3
  case neg => unfold storeI storeS headM headS; rw [decide_eq_false hx]; simp
  obtain ⟨a, b, c, ea⟩ := len3 hl
  obtain ⟨x, y, z, ex⟩ := len3 hx
  have u0 : upTo s 0 = s.top := by simp [upTo]
  have u1 : upTo s 1 = s.top ++ a := by simp [upTo, ea]
  have u2 : upTo s 2 = s.top ++ (a ++ b) := by simp [upTo, ea]
  have i0 : iAt s 0 = (lvM s.keep 0 a x && newerM s.top a && !decide (0 ≤ lateI s s.top)) := by unfold iAt; rw [u0, ea, ex]; rfl
  have i1 : iAt s 1 = (lvM s.keep 1 b y && newerM (s.top ++ a) b && !decide (0 ≤ lateI s (s.top ++ a))) := by unfold iAt; rw [u1, ea, ex]; rfl
  have i2 : iAt s 2 = (lvM s.keep 2 c z && newerM (s.top ++ (a ++ b)) c && !decide (0 ≤ lateI s (s.top ++ (a ++ b)))) := by unfold iAt; rw [u2, ea, ex]; rfl
  have p01 : sPair s 0 1 = newestM a b s.time := by unfold sPair; rw [ea]; rfl
  have p02 : sPair s 0 2 = newestM a c s.time := by unfold sPair; rw [ea]; rfl
  have p12 : sPair s 1 2 = newestM b c s.time := by unfold sPair; rw [ea]; rfl
  have s0 : sAt s 0 = (lvM s.keep 0 a x && newestM s.top a s.time && (newestM a b s.time && newestM a c s.time)) := by
    unfold sAt; rw [allI3, p01, p02, ea, ex]; rfl
  have s1 : sAt s 1 = (lvM s.keep 1 b y && newestM s.top b s.time && newestM b c s.time) := by
    unfold sAt; rw [allI3, p12, ea, ex]; rfl
  have s2 : sAt s 2 = (lvM s.keep 2 c z && newestM s.top c s.time) := by
    unfold sAt; rw [allI3, ea, ex]; simp
  rw [Bool.eq_iff_iff]
  unfold storeI storeS headM headS
  rw [allI3, allI3, i0, i1, i2, s0, s1, s2]
  simp only [Bool.and_eq_true, Bool.not_eq_true', late_iff, newer_app, List.mem_append]
  constructor
  · rintro ⟨⟨⟨⟨⟨⟨h1, h2⟩, h3⟩, h4⟩, h5⟩, h6⟩, ⟨⟨l0, n0⟩, t0⟩, ⟨⟨l1, n1, n1'⟩, t1⟩, ⟨⟨l2, n2, n2', n2''⟩, t2⟩⟩
    obtain ⟨ra, hk⟩ := lv_run l0
    have rb := (lv_run l1).1
    have rc := (lv_run l2).1
    exact ⟨⟨⟨⟨⟨⟨⟨h1, h2⟩, hk⟩, h5⟩, h6⟩, h3⟩, h4⟩, ⟨⟨l0, (newest_iff ra).2 ⟨t0, n0⟩⟩, (newest_iff rb).2 ⟨fun e he => t1 e (.inr he), n1'⟩, (newest_iff rc).2 ⟨fun e he => t1 e (.inr he), n2'⟩⟩, ⟨⟨l1, (newest_iff rb).2 ⟨t0, n1⟩⟩, (newest_iff rc).2 ⟨fun e he => t2 e (.inr (.inr he)), n2''⟩⟩, l2, (newest_iff rc).2 ⟨t0, n2⟩⟩
  · rintro ⟨⟨⟨⟨⟨⟨⟨h1, h2⟩, hk⟩, h5⟩, h6⟩, h3⟩, h4⟩, ⟨⟨l0, n0⟩, n01, n02⟩, ⟨⟨l1, n1⟩, n12⟩, l2, n2⟩
    have ra := (lv_run l0).1
    have rb := (lv_run l1).1
    have rc := (lv_run l2).1
    rw [newest_iff ra] at n0
    rw [newest_iff rb] at n01 n1
    rw [newest_iff rc] at n02 n12 n2
    refine ⟨⟨⟨⟨⟨⟨h1, h2⟩, h3⟩, h4⟩, h5⟩, h6⟩, ⟨⟨l0, n0.2⟩, n0.1⟩, ⟨⟨l1, n1.2, n01.2⟩, fun e he => he.elim (n0.1 e) (n01.1 e)⟩, ⟨⟨l2, n2.2, n02.2, n12.2⟩, fun e he => ?_⟩⟩
    rcases he with he | he | he
    · exact n0.1 e he
    · exact n01.1 e he
    · exact n12.1 e he
end Go.Proofs.Ytcbhgglpgphimaa.Ab
namespace Go.Proofs.Ytcbhgglpgphimaa.Ab
set_option linter.deprecated false
set_option linter.unusedVariables false
set_option linter.unusedSimpArgs false
open Go Go.Proofs
set_option maxRecDepth 10000
set_option maxHeartbeats 8000000
set_option linter.unusedSimpArgs false
set_option linter.unusedVariables false
theorem wrap_far {x : Int} (h0 : -9223372036854775808 ≤ x) (h1 : x ≤ 9223372036854775807) : IntKind.i64.wrap x = x := by
  simp only [IntKind.wrap, IntKind.bits, IntKind.signed]
  by_cases h : 0 ≤ x
  · have : x % 2 ^ 64 = x := by omega
    simp [this]; omega
  · have : x % 2 ^ 64 = x + 2 ^ 64 := by omega
    simp [this]; omega
def szM (w l : Nat) : Int := if w ≤ l then ((l - w : Nat) : Int) else -1
theorem szM_ok {w l : Nat} (h : w ≤ l) : szM w l = ((l - w : Nat) : Int) := if_pos h
theorem szM_no {w l : Nat} (h : ¬ w ≤ l) : szM w l = -1 := if_neg h
theorem wrap_sub {l n : Nat} (h : n ≤ l) (hl : l ≤ 1048576) : IntKind.i64.wrap ((l : Int) - (n : Int)) = ((l - n : Nat) : Int) := by
  rw [show (l : Int) - (n : Int) = ((l - n : Nat) : Int) by omega]; exact wrap_nat (by omega)
theorem wrap_neg {l n : Nat} (h : ¬ n ≤ l) (hl : l ≤ 1048576) (hn : n ≤ 9223372036854775807) : decide (IntKind.i64.wrap ((l : Int) - (n : Int)) < 0) = true := by
  rw [wrap_far (by omega) (by omega)]; exact decide_eq_true (by omega)
theorem nneg (n : Nat) : decide ((n : Int) < 0) = false := decide_eq_false (by omega)
theorem neg1 : decide ((-1 : Int) < 0) = true := rfl
def wS {α : Type} (f : α → Nat) (xs : List α) : Nat := xs.length + (xs.map f).sum
def wI {α : Type} (f : α → Nat) (xs : List α) (i : Nat) : Nat := xs.length + ((xs.take i).map f).sum
theorem wI_0 {α : Type} (f : α → Nat) (xs : List α) : wI f xs 0 = xs.length := rfl
theorem wI_succ {α : Type} {f : α → Nat} {xs : List α} {i : Nat} {x : α} (h : xs[i]? = some x) : wI f xs (i + 1) = wI f xs i + f x := by
  unfold wI
  rw [List.take_add_one, h]
  simp [List.sum_append]; omega
theorem wI_end {α : Type} (f : α → Nat) (xs : List α) : wI f xs xs.length = wS f xs := by unfold wI wS; rw [List.take_length]
theorem wI_le {α : Type} (f : α → Nat) (xs : List α) (i : Nat) : wI f xs i ≤ wS f xs := by
  unfold wI wS
  have : (xs.map f).sum = ((xs.take i).map f).sum + ((xs.drop i).map f).sum := by
    conv => lhs; rw [← List.take_append_drop i xs]
    rw [List.map_append, List.sum_append]
  omega
abbrev big (n : Nat) : Prop := n ≤ 9223372036854775807
def wEnt (e : Ent) : Nat := e.key.size
theorem szEntry_ac (e : Ent) (l : Nat) (hl : l ≤ 1048576) (he : big e.key.size) : AC Try.prog 51 [entT e, iT l] noHp 0 ⟨.t (iT (szM (wEnt e) l)), noHp, 0⟩ := by
  refine AC_of Try.func51 rfl Try.ntmps51 Try.results51 (by kernel_rfl) rfl ?_
  simp only [List.zipIdx, List.map, Nat.zero_add, Nat.reduceAdd]
  unfold wEnt
  by_cases h : e.key.size ≤ l
  · have w1 := wrap_sub h hl
    have h1 := nneg (l - e.key.size)
    rw [szM_ok h]
    repeat (first | apply Aw_seq | apply Aw_block | apply Aw_skip | apply Aw_exit | refine Aw_condt rfl ?_ | refine Aw_condf rfl ?_ | (refine qr ?_; simp only [go_sem, Nat.reduceEqDiff, reduceIte, Nat.reduceAdd, Nat.reduceMul, Nat.reduceSub, Nat.reduceLT, Nat.reduceLeDiff, Nat.reduceBEq, w1, h1]) | (refine qd (by kernel_rfl) (by kernel_rfl) ?_; simp only [go_sem, Nat.reduceEqDiff, reduceIte, Nat.reduceAdd, Nat.reduceMul, Nat.reduceSub, Nat.reduceLT, Nat.reduceLeDiff, Nat.reduceBEq, w1, h1]) | refine dk (by kernel_rfl) ?_)
    exact Aw_ret (ret0 (.inl rfl) (by simp only [go_sem, Nat.reduceEqDiff, reduceIte, Nat.reduceAdd, Nat.reduceMul, Nat.reduceSub, Nat.reduceLT, Nat.reduceLeDiff, Nat.reduceBEq]; rfl) (by rfl) rfl)
  · have w1 := wrap_neg h hl he
    rw [szM_no h]
    repeat (first | apply Aw_seq | apply Aw_block | apply Aw_skip | apply Aw_exit | refine Aw_condt rfl ?_ | refine Aw_condf rfl ?_ | (refine qr ?_; simp only [go_sem, Nat.reduceEqDiff, reduceIte, Nat.reduceAdd, Nat.reduceMul, Nat.reduceSub, Nat.reduceLT, Nat.reduceLeDiff, Nat.reduceBEq, w1]) | (refine qd (by kernel_rfl) (by kernel_rfl) ?_; simp only [go_sem, Nat.reduceEqDiff, reduceIte, Nat.reduceAdd, Nat.reduceMul, Nat.reduceSub, Nat.reduceLT, Nat.reduceLeDiff, Nat.reduceBEq, w1]) | refine dk (by kernel_rfl) ?_)
    exact Aw_ret (ret0 (.inl rfl) (by simp only [go_sem, Nat.reduceEqDiff, reduceIte, Nat.reduceAdd, Nat.reduceMul, Nat.reduceSub, Nat.reduceLT, Nat.reduceLeDiff, Nat.reduceBEq]; rfl) (by rfl) rfl)
abbrev lvsT (r : List (List Ent)) : TV := .c (.d (.rs 1 (r.map lvD)))
abbrev svsT (r : List Sve) : TV := .c (.d (.rs 5 (r.map sveD)))
theorem szEntryS_ac (r : List Ent) (l : Nat) (hl : l ≤ 1048576) (hr : big r.length) (he : ∀ e ∈ r, big e.key.size) : AC Try.prog 13 [runT r, iT l] noHp 0 ⟨.t (iT (szM (wS wEnt r) l)), noHp, 0⟩ := by
  refine AC_of Try.func13 rfl Try.ntmps13 Try.results13 (by kernel_rfl) rfl ?_
  simp only [List.zipIdx, List.map, Nat.zero_add, Nat.reduceAdd]
  by_cases h : r.length ≤ l
  case neg =>
    have w1 := wrap_neg h hl hr
    rw [szM_no (by have := wI_le wEnt r 0; rw [wI_0] at this; omega)]
    repeat (first | apply Aw_seq | apply Aw_block | apply Aw_skip | apply Aw_exit | refine Aw_condt rfl ?_ | refine Aw_condf rfl ?_ | (refine qr ?_; simp only [go_sem, Nat.reduceEqDiff, reduceIte, Nat.reduceAdd, Nat.reduceMul, Nat.reduceSub, Nat.reduceLT, Nat.reduceLeDiff, Nat.reduceBEq, w1]) | (refine qd (by kernel_rfl) (by kernel_rfl) ?_; simp only [go_sem, Nat.reduceEqDiff, reduceIte, Nat.reduceAdd, Nat.reduceMul, Nat.reduceSub, Nat.reduceLT, Nat.reduceLeDiff, Nat.reduceBEq, w1]) | refine dk (by kernel_rfl) ?_)
    exact Aw_ret (ret0 (.inl rfl) (by simp only [go_sem, Nat.reduceEqDiff, reduceIte, Nat.reduceAdd, Nat.reduceMul, Nat.reduceSub, Nat.reduceLT, Nat.reduceLeDiff, Nat.reduceBEq]; rfl) (by rfl) rfl)
  have w1 := wrap_sub h hl
  have h0 := nneg (l - r.length)
  repeat (first | apply Aw_seq | apply Aw_block | apply Aw_skip | apply Aw_exit | refine Aw_condt rfl ?_ | refine Aw_condf rfl ?_ | (refine qr ?_; simp only [go_sem, Nat.reduceEqDiff, reduceIte, Nat.reduceAdd, Nat.reduceMul, Nat.reduceSub, Nat.reduceLT, Nat.reduceLeDiff, Nat.reduceBEq, w1, h0]) | (refine qd (by kernel_rfl) (by kernel_rfl) ?_; simp only [go_sem, Nat.reduceEqDiff, reduceIte, Nat.reduceAdd, Nat.reduceMul, Nat.reduceSub, Nat.reduceLT, Nat.reduceLeDiff, Nat.reduceBEq, w1, h0]) | refine dk (by kernel_rfl) ?_)
  refine Aw.rw (rw0 (l' := [(5, .t (iT (0 : Nat))), (1, .t (iT ((l - wI wEnt r 0 : Nat) : Int))), (0, .t (runT r))]) (n' := 0) (by repeat (first | exact trivial | refine ⟨rfl, rfl, ?_⟩))) ?_
  refine Aw_loop0 (ι := { i : Nat // i ≤ r.length ∧ (wI wEnt r i ≤ l) }) (fun q => [(5, .t (iT (q.1 : Nat))), (1, .t (iT ((l - wI wEnt r q.1 : Nat) : Int))), (0, .t (runT r))]) (fun q => r.length - q.1) ⟨0, Nat.zero_le _, h⟩ ?_
  rintro ⟨i, hi, hp⟩
  dsimp only
  by_cases hlt : i < r.length
  · have h1 : (i : Int) < (r.length : Int) := by omega
    have h2 := wrap_succ hlt (by omega)
    obtain ⟨e, hx⟩ : ∃ e, r[i]? = some e := ⟨_, List.getElem?_eq_getElem hlt⟩
    have k := szEntry_ac e (l - wI wEnt r i) (by omega) (he e (List.mem_of_getElem? hx))
    have e1 := wI_succ (f := wEnt) hx
    by_cases h3 : wEnt e ≤ l - wI wEnt r i
    · rw [szM_ok h3, show l - wI wEnt r i - wEnt e = l - wI wEnt r (i + 1) by omega] at k
      have h4 := nneg (l - wI wEnt r (i + 1))
      repeat (first | apply Aw_seq | apply Aw_block | apply Aw_skip | apply Aw_exit | refine Aw_condt rfl ?_ | refine Aw_condf rfl ?_ | (refine qr ?_; simp only [go_sem, Nat.reduceEqDiff, reduceIte, Nat.reduceAdd, Nat.reduceMul, Nat.reduceSub, Nat.reduceLT, Nat.reduceLeDiff, Nat.reduceBEq, h1, h2, hx, h4]) | (refine qd (by kernel_rfl) (by kernel_rfl) ?_; simp only [go_sem, Nat.reduceEqDiff, reduceIte, Nat.reduceAdd, Nat.reduceMul, Nat.reduceSub, Nat.reduceLT, Nat.reduceLeDiff, Nat.reduceBEq, h1, h2, hx, h4]) | refine dk (by kernel_rfl) ?_ | (refine qp (k) (by simp only [go_sem, Nat.reduceEqDiff, reduceIte, Nat.reduceAdd, Nat.reduceMul, Nat.reduceSub, Nat.reduceLT, Nat.reduceLeDiff, Nat.reduceBEq, h1, h2, hx, h4]; first | done | rfl) rfl (by simp only [go_sem, Nat.reduceLT]) rfl rfl ?_; simp only [go_sem, Nat.reduceEqDiff, reduceIte, Nat.reduceAdd, Nat.reduceMul, Nat.reduceSub, Nat.reduceLT, Nat.reduceLeDiff, Nat.reduceBEq, h1, h2, hx, h4]))
      exact ⟨⟨i + 1, by omega, by omega⟩, (by simp only []; omega), rw0 (by repeat (first | exact trivial | refine ⟨rfl, rfl, ?_⟩))⟩
    · rw [szM_no h3] at k
      rw [szM_no (w := wS wEnt r) (by have := wI_le wEnt r (i + 1); omega)]
      repeat (first | apply Aw_seq | apply Aw_block | apply Aw_skip | apply Aw_exit | refine Aw_condt rfl ?_ | refine Aw_condf rfl ?_ | (refine qr ?_; simp only [go_sem, Nat.reduceEqDiff, reduceIte, Nat.reduceAdd, Nat.reduceMul, Nat.reduceSub, Nat.reduceLT, Nat.reduceLeDiff, Nat.reduceBEq, h1, h2, hx, neg1]) | (refine qd (by kernel_rfl) (by kernel_rfl) ?_; simp only [go_sem, Nat.reduceEqDiff, reduceIte, Nat.reduceAdd, Nat.reduceMul, Nat.reduceSub, Nat.reduceLT, Nat.reduceLeDiff, Nat.reduceBEq, h1, h2, hx, neg1]) | refine dk (by kernel_rfl) ?_ | (refine qp (k) (by simp only [go_sem, Nat.reduceEqDiff, reduceIte, Nat.reduceAdd, Nat.reduceMul, Nat.reduceSub, Nat.reduceLT, Nat.reduceLeDiff, Nat.reduceBEq, h1, h2, hx, neg1]; first | done | rfl) rfl (by simp only [go_sem, Nat.reduceLT]) rfl rfl ?_; simp only [go_sem, Nat.reduceEqDiff, reduceIte, Nat.reduceAdd, Nat.reduceMul, Nat.reduceSub, Nat.reduceLT, Nat.reduceLeDiff, Nat.reduceBEq, h1, h2, hx, neg1]))
      exact Aw_ret (ret0 (.inl rfl) (by simp only [go_sem, Nat.reduceEqDiff, reduceIte, Nat.reduceAdd, Nat.reduceMul, Nat.reduceSub, Nat.reduceLT, Nat.reduceLeDiff, Nat.reduceBEq]; rfl) (by rfl) rfl)
  · have h1 : ¬ (i : Int) < (r.length : Int) := by omega
    obtain rfl : i = r.length := by omega
    rw [wI_end] at hp ⊢
    rw [szM_ok hp]
    repeat (first | apply Aw_seq | apply Aw_block | apply Aw_skip | apply Aw_exit | refine Aw_condt rfl ?_ | refine Aw_condf rfl ?_ | (refine qr ?_; simp only [go_sem, Nat.reduceEqDiff, reduceIte, Nat.reduceAdd, Nat.reduceMul, Nat.reduceSub, Nat.reduceLT, Nat.reduceLeDiff, Nat.reduceBEq, h1]) | (refine qd (by kernel_rfl) (by kernel_rfl) ?_; simp only [go_sem, Nat.reduceEqDiff, reduceIte, Nat.reduceAdd, Nat.reduceMul, Nat.reduceSub, Nat.reduceLT, Nat.reduceLeDiff, Nat.reduceBEq, h1]) | refine dk (by kernel_rfl) ?_)
    exact Aw_ret (ret0 (.inl rfl) (by simp only [go_sem, Nat.reduceEqDiff, reduceIte, Nat.reduceAdd, Nat.reduceMul, Nat.reduceSub, Nat.reduceLT, Nat.reduceLeDiff, Nat.reduceBEq]; rfl) (by rfl) rfl)
def bigR (r : List Ent) : Prop := big r.length ∧ ∀ e ∈ r, big e.key.size
def wRun (r : List Ent) : Nat := wS wEnt r
theorem szEntrySS_ac (r : List (List Ent)) (l : Nat) (hl : l ≤ 1048576) (hr : big r.length) (he : ∀ e ∈ r, bigR e) : AC Try.prog 88 [lvsT r, iT l] noHp 0 ⟨.t (iT (szM (wS wRun r) l)), noHp, 0⟩ := by
  refine AC_of Try.func88 rfl Try.ntmps88 Try.results88 (by kernel_rfl) rfl ?_
  simp only [List.zipIdx, List.map, Nat.zero_add, Nat.reduceAdd]
  by_cases h : r.length ≤ l
  case neg =>
    have w1 := wrap_neg h hl hr
    rw [szM_no (by have := wI_le wRun r 0; rw [wI_0] at this; omega)]
    repeat (first | apply Aw_seq | apply Aw_block | apply Aw_skip | apply Aw_exit | refine Aw_condt rfl ?_ | refine Aw_condf rfl ?_ | (refine qr ?_; simp only [go_sem, Nat.reduceEqDiff, reduceIte, Nat.reduceAdd, Nat.reduceMul, Nat.reduceSub, Nat.reduceLT, Nat.reduceLeDiff, Nat.reduceBEq, w1]) | (refine qd (by kernel_rfl) (by kernel_rfl) ?_; simp only [go_sem, Nat.reduceEqDiff, reduceIte, Nat.reduceAdd, Nat.reduceMul, Nat.reduceSub, Nat.reduceLT, Nat.reduceLeDiff, Nat.reduceBEq, w1]) | refine dk (by kernel_rfl) ?_)
    exact Aw_ret (ret0 (.inl rfl) (by simp only [go_sem, Nat.reduceEqDiff, reduceIte, Nat.reduceAdd, Nat.reduceMul, Nat.reduceSub, Nat.reduceLT, Nat.reduceLeDiff, Nat.reduceBEq]; rfl) (by rfl) rfl)
  have w1 := wrap_sub h hl
  have h0 := nneg (l - r.length)
  repeat (first | apply Aw_seq | apply Aw_block | apply Aw_skip | apply Aw_exit | refine Aw_condt rfl ?_ | refine Aw_condf rfl ?_ | (refine qr ?_; simp only [go_sem, Nat.reduceEqDiff, reduceIte, Nat.reduceAdd, Nat.reduceMul, Nat.reduceSub, Nat.reduceLT, Nat.reduceLeDiff, Nat.reduceBEq, w1, h0]) | (refine qd (by kernel_rfl) (by kernel_rfl) ?_; simp only [go_sem, Nat.reduceEqDiff, reduceIte, Nat.reduceAdd, Nat.reduceMul, Nat.reduceSub, Nat.reduceLT, Nat.reduceLeDiff, Nat.reduceBEq, w1, h0]) | refine dk (by kernel_rfl) ?_)
  refine Aw.rw (rw0 (l' := [(5, .t (iT (0 : Nat))), (1, .t (iT ((l - wI wRun r 0 : Nat) : Int))), (0, .t (lvsT r))]) (n' := 0) (by repeat (first | exact trivial | refine ⟨rfl, rfl, ?_⟩))) ?_
  refine Aw_loop0 (ι := { i : Nat // i ≤ r.length ∧ (wI wRun r i ≤ l) }) (fun q => [(5, .t (iT (q.1 : Nat))), (1, .t (iT ((l - wI wRun r q.1 : Nat) : Int))), (0, .t (lvsT r))]) (fun q => r.length - q.1) ⟨0, Nat.zero_le _, h⟩ ?_
  rintro ⟨i, hi, hp⟩
  dsimp only
  by_cases hlt : i < r.length
  · have h1 : (i : Int) < (r.length : Int) := by omega
    have h2 := wrap_succ hlt (by omega)
    obtain ⟨e, hx⟩ : ∃ e, r[i]? = some e := ⟨_, List.getElem?_eq_getElem hlt⟩
    have k := szEntryS_ac e (l - wI wRun r i) (by omega) (he e (List.mem_of_getElem? hx)).1 (he e (List.mem_of_getElem? hx)).2
    rw [show wS wEnt e = wRun e from rfl] at k
    have e1 := wI_succ (f := wRun) hx
    by_cases h3 : wRun e ≤ l - wI wRun r i
    · rw [szM_ok h3, show l - wI wRun r i - wRun e = l - wI wRun r (i + 1) by omega] at k
      have h4 := nneg (l - wI wRun r (i + 1))
      repeat (first | apply Aw_seq | apply Aw_block | apply Aw_skip | apply Aw_exit | refine Aw_condt rfl ?_ | refine Aw_condf rfl ?_ | (refine qr ?_; simp only [go_sem, Nat.reduceEqDiff, reduceIte, Nat.reduceAdd, Nat.reduceMul, Nat.reduceSub, Nat.reduceLT, Nat.reduceLeDiff, Nat.reduceBEq, h1, h2, hx, h4]) | (refine qd (by kernel_rfl) (by kernel_rfl) ?_; simp only [go_sem, Nat.reduceEqDiff, reduceIte, Nat.reduceAdd, Nat.reduceMul, Nat.reduceSub, Nat.reduceLT, Nat.reduceLeDiff, Nat.reduceBEq, h1, h2, hx, h4]) | refine dk (by kernel_rfl) ?_ | (refine qp (k) (by simp only [go_sem, Nat.reduceEqDiff, reduceIte, Nat.reduceAdd, Nat.reduceMul, Nat.reduceSub, Nat.reduceLT, Nat.reduceLeDiff, Nat.reduceBEq, h1, h2, hx, h4]; first | done | rfl) rfl (by simp only [go_sem, Nat.reduceLT]) rfl rfl ?_; simp only [go_sem, Nat.reduceEqDiff, reduceIte, Nat.reduceAdd, Nat.reduceMul, Nat.reduceSub, Nat.reduceLT, Nat.reduceLeDiff, Nat.reduceBEq, h1, h2, hx, h4]))
      exact ⟨⟨i + 1, by omega, by omega⟩, (by simp only []; omega), rw0 (by repeat (first | exact trivial | refine ⟨rfl, rfl, ?_⟩))⟩
    · rw [szM_no h3] at k
      rw [szM_no (w := wS wRun r) (by have := wI_le wRun r (i + 1); omega)]
      repeat (first | apply Aw_seq | apply Aw_block | apply Aw_skip | apply Aw_exit | refine Aw_condt rfl ?_ | refine Aw_condf rfl ?_ | (refine qr ?_; simp only [go_sem, Nat.reduceEqDiff, reduceIte, Nat.reduceAdd, Nat.reduceMul, Nat.reduceSub, Nat.reduceLT, Nat.reduceLeDiff, Nat.reduceBEq, h1, h2, hx, neg1]) | (refine qd (by kernel_rfl) (by kernel_rfl) ?_; simp only [go_sem, Nat.reduceEqDiff, reduceIte, Nat.reduceAdd, Nat.reduceMul, Nat.reduceSub, Nat.reduceLT, Nat.reduceLeDiff, Nat.reduceBEq, h1, h2, hx, neg1]) | refine dk (by kernel_rfl) ?_ | (refine qp (k) (by simp only [go_sem, Nat.reduceEqDiff, reduceIte, Nat.reduceAdd, Nat.reduceMul, Nat.reduceSub, Nat.reduceLT, Nat.reduceLeDiff, Nat.reduceBEq, h1, h2, hx, neg1]; first | done | rfl) rfl (by simp only [go_sem, Nat.reduceLT]) rfl rfl ?_; simp only [go_sem, Nat.reduceEqDiff, reduceIte, Nat.reduceAdd, Nat.reduceMul, Nat.reduceSub, Nat.reduceLT, Nat.reduceLeDiff, Nat.reduceBEq, h1, h2, hx, neg1]))
      exact Aw_ret (ret0 (.inl rfl) (by simp only [go_sem, Nat.reduceEqDiff, reduceIte, Nat.reduceAdd, Nat.reduceMul, Nat.reduceSub, Nat.reduceLT, Nat.reduceLeDiff, Nat.reduceBEq]; rfl) (by rfl) rfl)
  · have h1 : ¬ (i : Int) < (r.length : Int) := by omega
    obtain rfl : i = r.length := by omega
    rw [wI_end] at hp ⊢
    rw [szM_ok hp]
    repeat (first | apply Aw_seq | apply Aw_block | apply Aw_skip | apply Aw_exit | refine Aw_condt rfl ?_ | refine Aw_condf rfl ?_ | (refine qr ?_; simp only [go_sem, Nat.reduceEqDiff, reduceIte, Nat.reduceAdd, Nat.reduceMul, Nat.reduceSub, Nat.reduceLT, Nat.reduceLeDiff, Nat.reduceBEq, h1]) | (refine qd (by kernel_rfl) (by kernel_rfl) ?_; simp only [go_sem, Nat.reduceEqDiff, reduceIte, Nat.reduceAdd, Nat.reduceMul, Nat.reduceSub, Nat.reduceLT, Nat.reduceLeDiff, Nat.reduceBEq, h1]) | refine dk (by kernel_rfl) ?_)
    exact Aw_ret (ret0 (.inl rfl) (by simp only [go_sem, Nat.reduceEqDiff, reduceIte, Nat.reduceAdd, Nat.reduceMul, Nat.reduceSub, Nat.reduceLT, Nat.reduceLeDiff, Nat.reduceBEq]; rfl) (by rfl) rfl)
theorem szStringS_ac (r : List ByteArray) (l : Nat) (hl : l ≤ 1048576) (hr : big r.length) (he : ∀ e ∈ r, big e.size) : AC Try.prog 165 [strsT r, iT l] noHp 0 ⟨.t (iT (szM (wS ByteArray.size r) l)), noHp, 0⟩ := by
  refine AC_of Try.func165 rfl Try.ntmps165 Try.results165 (by kernel_rfl) rfl ?_
  simp only [List.zipIdx, List.map, Nat.zero_add, Nat.reduceAdd]
  by_cases h : r.length ≤ l
  case neg =>
    have w1 := wrap_neg h hl hr
    rw [szM_no (by have := wI_le ByteArray.size r 0; rw [wI_0] at this; omega)]
    repeat (first | apply Aw_seq | apply Aw_block | apply Aw_skip | apply Aw_exit | refine Aw_condt rfl ?_ | refine Aw_condf rfl ?_ | (refine qr ?_; simp only [go_sem, Nat.reduceEqDiff, reduceIte, Nat.reduceAdd, Nat.reduceMul, Nat.reduceSub, Nat.reduceLT, Nat.reduceLeDiff, Nat.reduceBEq, w1]) | (refine qd (by kernel_rfl) (by kernel_rfl) ?_; simp only [go_sem, Nat.reduceEqDiff, reduceIte, Nat.reduceAdd, Nat.reduceMul, Nat.reduceSub, Nat.reduceLT, Nat.reduceLeDiff, Nat.reduceBEq, w1]) | refine dk (by kernel_rfl) ?_)
    exact Aw_ret (ret0 (.inl rfl) (by simp only [go_sem, Nat.reduceEqDiff, reduceIte, Nat.reduceAdd, Nat.reduceMul, Nat.reduceSub, Nat.reduceLT, Nat.reduceLeDiff, Nat.reduceBEq]; rfl) (by rfl) rfl)
  have w1 := wrap_sub h hl
  have h0 := nneg (l - r.length)
  repeat (first | apply Aw_seq | apply Aw_block | apply Aw_skip | apply Aw_exit | refine Aw_condt rfl ?_ | refine Aw_condf rfl ?_ | (refine qr ?_; simp only [go_sem, Nat.reduceEqDiff, reduceIte, Nat.reduceAdd, Nat.reduceMul, Nat.reduceSub, Nat.reduceLT, Nat.reduceLeDiff, Nat.reduceBEq, w1, h0]) | (refine qd (by kernel_rfl) (by kernel_rfl) ?_; simp only [go_sem, Nat.reduceEqDiff, reduceIte, Nat.reduceAdd, Nat.reduceMul, Nat.reduceSub, Nat.reduceLT, Nat.reduceLeDiff, Nat.reduceBEq, w1, h0]) | refine dk (by kernel_rfl) ?_)
  refine Aw.rw (rw0 (l' := [(5, .t (iT (0 : Nat))), (1, .t (iT ((l - wI ByteArray.size r 0 : Nat) : Int))), (0, .t (strsT r))]) (n' := 0) (by repeat (first | exact trivial | refine ⟨rfl, rfl, ?_⟩))) ?_
  refine Aw_loop0 (ι := { i : Nat // i ≤ r.length ∧ (wI ByteArray.size r i ≤ l) }) (fun q => [(5, .t (iT (q.1 : Nat))), (1, .t (iT ((l - wI ByteArray.size r q.1 : Nat) : Int))), (0, .t (strsT r))]) (fun q => r.length - q.1) ⟨0, Nat.zero_le _, h⟩ ?_
  rintro ⟨i, hi, hp⟩
  dsimp only
  by_cases hlt : i < r.length
  · have h1 : (i : Int) < (r.length : Int) := by omega
    have h2 := wrap_succ hlt (by omega)
    obtain ⟨e, hx⟩ : ∃ e, r[i]? = some e := ⟨_, List.getElem?_eq_getElem hlt⟩
    have hk := he e (List.mem_of_getElem? hx)
    have e1 := wI_succ (f := ByteArray.size) hx
    by_cases h3 : ByteArray.size e ≤ l - wI ByteArray.size r i
    · have w2 := wrap_sub (n := e.size) h3 (by omega)
      rw [show l - wI ByteArray.size r i - e.size = l - wI ByteArray.size r (i + 1) by omega] at w2
      have h4 := nneg (l - wI ByteArray.size r (i + 1))
      repeat (first | apply Aw_seq | apply Aw_block | apply Aw_skip | apply Aw_exit | refine Aw_condt rfl ?_ | refine Aw_condf rfl ?_ | (refine qr ?_; simp only [go_sem, Nat.reduceEqDiff, reduceIte, Nat.reduceAdd, Nat.reduceMul, Nat.reduceSub, Nat.reduceLT, Nat.reduceLeDiff, Nat.reduceBEq, h1, h2, hx, w2, h4]) | (refine qd (by kernel_rfl) (by kernel_rfl) ?_; simp only [go_sem, Nat.reduceEqDiff, reduceIte, Nat.reduceAdd, Nat.reduceMul, Nat.reduceSub, Nat.reduceLT, Nat.reduceLeDiff, Nat.reduceBEq, h1, h2, hx, w2, h4]) | refine dk (by kernel_rfl) ?_)
      exact ⟨⟨i + 1, by omega, by omega⟩, (by simp only []; omega), rw0 (by repeat (first | exact trivial | refine ⟨rfl, rfl, ?_⟩))⟩
    · have w2 := wrap_neg (n := e.size) h3 (by omega) hk
      rw [szM_no (w := wS ByteArray.size r) (by have := wI_le ByteArray.size r (i + 1); omega)]
      repeat (first | apply Aw_seq | apply Aw_block | apply Aw_skip | apply Aw_exit | refine Aw_condt rfl ?_ | refine Aw_condf rfl ?_ | (refine qr ?_; simp only [go_sem, Nat.reduceEqDiff, reduceIte, Nat.reduceAdd, Nat.reduceMul, Nat.reduceSub, Nat.reduceLT, Nat.reduceLeDiff, Nat.reduceBEq, h1, h2, hx, w2]) | (refine qd (by kernel_rfl) (by kernel_rfl) ?_; simp only [go_sem, Nat.reduceEqDiff, reduceIte, Nat.reduceAdd, Nat.reduceMul, Nat.reduceSub, Nat.reduceLT, Nat.reduceLeDiff, Nat.reduceBEq, h1, h2, hx, w2]) | refine dk (by kernel_rfl) ?_)
      exact Aw_ret (ret0 (.inl rfl) (by simp only [go_sem, Nat.reduceEqDiff, reduceIte, Nat.reduceAdd, Nat.reduceMul, Nat.reduceSub, Nat.reduceLT, Nat.reduceLeDiff, Nat.reduceBEq]; rfl) (by rfl) rfl)
  · have h1 : ¬ (i : Int) < (r.length : Int) := by omega
    obtain rfl : i = r.length := by omega
    rw [wI_end] at hp ⊢
    rw [szM_ok hp]
    repeat (first | apply Aw_seq | apply Aw_block | apply Aw_skip | apply Aw_exit | refine Aw_condt rfl ?_ | refine Aw_condf rfl ?_ | (refine qr ?_; simp only [go_sem, Nat.reduceEqDiff, reduceIte, Nat.reduceAdd, Nat.reduceMul, Nat.reduceSub, Nat.reduceLT, Nat.reduceLeDiff, Nat.reduceBEq, h1]) | (refine qd (by kernel_rfl) (by kernel_rfl) ?_; simp only [go_sem, Nat.reduceEqDiff, reduceIte, Nat.reduceAdd, Nat.reduceMul, Nat.reduceSub, Nat.reduceLT, Nat.reduceLeDiff, Nat.reduceBEq, h1]) | refine dk (by kernel_rfl) ?_)
    exact Aw_ret (ret0 (.inl rfl) (by simp only [go_sem, Nat.reduceEqDiff, reduceIte, Nat.reduceAdd, Nat.reduceMul, Nat.reduceSub, Nat.reduceLT, Nat.reduceLeDiff, Nat.reduceBEq]; rfl) (by rfl) rfl)
structure bigS (s : Sve) : Prop where
  letters : big s.letters.size
  more : big s.more.size
  first : big s.first.size
  rl : big s.rests.length
  rests : ∀ e ∈ s.rests, big e.size
def wSve (s : Sve) : Nat := s.letters.size + s.more.size + s.first.size + wS ByteArray.size s.rests
theorem szSieve_ac (s : Sve) (l : Nat) (hl : l ≤ 1048576) (hs : bigS s) : AC Try.prog 130 [sveP s, iT l] noHp 0 ⟨.t (iT (szM (wSve s) l)), noHp, 0⟩ := by
  refine AC_of Try.func130 rfl Try.ntmps130 Try.results130 (by kernel_rfl) rfl ?_
  simp only [List.zipIdx, List.map, Nat.zero_add, Nat.reduceAdd]
  by_cases h : s.letters.size ≤ l
  case neg =>
    have w1 := wrap_neg h hl hs.letters
    rw [szM_no (by unfold wSve; omega)]
    repeat (first | apply Aw_seq | apply Aw_block | apply Aw_skip | apply Aw_exit | refine Aw_condt rfl ?_ | refine Aw_condf rfl ?_ | (refine qr ?_; simp only [go_sem, Nat.reduceEqDiff, reduceIte, Nat.reduceAdd, Nat.reduceMul, Nat.reduceSub, Nat.reduceLT, Nat.reduceLeDiff, Nat.reduceBEq, w1]) | (refine qd (by kernel_rfl) (by kernel_rfl) ?_; simp only [go_sem, Nat.reduceEqDiff, reduceIte, Nat.reduceAdd, Nat.reduceMul, Nat.reduceSub, Nat.reduceLT, Nat.reduceLeDiff, Nat.reduceBEq, w1]) | refine dk (by kernel_rfl) ?_)
    exact Aw_ret (ret0 (.inl rfl) (by simp only [go_sem, Nat.reduceEqDiff, reduceIte, Nat.reduceAdd, Nat.reduceMul, Nat.reduceSub, Nat.reduceLT, Nat.reduceLeDiff, Nat.reduceBEq]; rfl) (by rfl) rfl)
  have w1 := wrap_sub h hl
  have h0 := nneg (l - s.letters.size)
  obtain ⟨l1, e1⟩ : ∃ l1, l1 = l - s.letters.size := ⟨_, rfl⟩
  rw [← e1] at w1 h0
  by_cases h2 : s.more.size ≤ l1
  case neg =>
    have w2 := wrap_neg h2 (by omega) hs.more
    rw [szM_no (by unfold wSve; omega)]
    repeat (first | apply Aw_seq | apply Aw_block | apply Aw_skip | apply Aw_exit | refine Aw_condt rfl ?_ | refine Aw_condf rfl ?_ | (refine qr ?_; simp only [go_sem, Nat.reduceEqDiff, reduceIte, Nat.reduceAdd, Nat.reduceMul, Nat.reduceSub, Nat.reduceLT, Nat.reduceLeDiff, Nat.reduceBEq, w1, h0, w2]) | (refine qd (by kernel_rfl) (by kernel_rfl) ?_; simp only [go_sem, Nat.reduceEqDiff, reduceIte, Nat.reduceAdd, Nat.reduceMul, Nat.reduceSub, Nat.reduceLT, Nat.reduceLeDiff, Nat.reduceBEq, w1, h0, w2]) | refine dk (by kernel_rfl) ?_)
    exact Aw_ret (ret0 (.inl rfl) (by simp only [go_sem, Nat.reduceEqDiff, reduceIte, Nat.reduceAdd, Nat.reduceMul, Nat.reduceSub, Nat.reduceLT, Nat.reduceLeDiff, Nat.reduceBEq]; rfl) (by rfl) rfl)
  have w2 := wrap_sub h2 (by omega)
  have h3 := nneg (l1 - s.more.size)
  obtain ⟨l2, e2⟩ : ∃ l2, l2 = l1 - s.more.size := ⟨_, rfl⟩
  rw [← e2] at w2 h3
  by_cases h4 : s.first.size ≤ l2
  case neg =>
    have w3 := wrap_neg h4 (by omega) hs.first
    rw [szM_no (by unfold wSve; omega)]
    repeat (first | apply Aw_seq | apply Aw_block | apply Aw_skip | apply Aw_exit | refine Aw_condt rfl ?_ | refine Aw_condf rfl ?_ | (refine qr ?_; simp only [go_sem, Nat.reduceEqDiff, reduceIte, Nat.reduceAdd, Nat.reduceMul, Nat.reduceSub, Nat.reduceLT, Nat.reduceLeDiff, Nat.reduceBEq, w1, h0, w2, h3, w3]) | (refine qd (by kernel_rfl) (by kernel_rfl) ?_; simp only [go_sem, Nat.reduceEqDiff, reduceIte, Nat.reduceAdd, Nat.reduceMul, Nat.reduceSub, Nat.reduceLT, Nat.reduceLeDiff, Nat.reduceBEq, w1, h0, w2, h3, w3]) | refine dk (by kernel_rfl) ?_)
    exact Aw_ret (ret0 (.inl rfl) (by simp only [go_sem, Nat.reduceEqDiff, reduceIte, Nat.reduceAdd, Nat.reduceMul, Nat.reduceSub, Nat.reduceLT, Nat.reduceLeDiff, Nat.reduceBEq]; rfl) (by rfl) rfl)
  have w3 := wrap_sub h4 (by omega)
  have h5 := nneg (l2 - s.first.size)
  obtain ⟨l3, e3⟩ : ∃ l3, l3 = l2 - s.first.size := ⟨_, rfl⟩
  rw [← e3] at w3 h5
  have k := szStringS_ac s.rests l3 (by omega) hs.rl hs.rests
  by_cases h6 : wS ByteArray.size s.rests ≤ l3
  · rw [szM_ok h6] at k
    have h7 := nneg (l3 - wS ByteArray.size s.rests)
    rw [szM_ok (w := wSve s) (by unfold wSve; omega), show l - wSve s = l3 - wS ByteArray.size s.rests by unfold wSve; omega]
    repeat (first | apply Aw_seq | apply Aw_block | apply Aw_skip | apply Aw_exit | refine Aw_condt rfl ?_ | refine Aw_condf rfl ?_ | (refine qr ?_; simp only [go_sem, Nat.reduceEqDiff, reduceIte, Nat.reduceAdd, Nat.reduceMul, Nat.reduceSub, Nat.reduceLT, Nat.reduceLeDiff, Nat.reduceBEq, w1, h0, w2, h3, w3, h5, h7]) | (refine qd (by kernel_rfl) (by kernel_rfl) ?_; simp only [go_sem, Nat.reduceEqDiff, reduceIte, Nat.reduceAdd, Nat.reduceMul, Nat.reduceSub, Nat.reduceLT, Nat.reduceLeDiff, Nat.reduceBEq, w1, h0, w2, h3, w3, h5, h7]) | refine dk (by kernel_rfl) ?_ | (refine qp (k) (by simp only [go_sem, Nat.reduceEqDiff, reduceIte, Nat.reduceAdd, Nat.reduceMul, Nat.reduceSub, Nat.reduceLT, Nat.reduceLeDiff, Nat.reduceBEq, w1, h0, w2, h3, w3, h5, h7]; first | done | rfl) rfl (by simp only [go_sem, Nat.reduceLT]) rfl rfl ?_; simp only [go_sem, Nat.reduceEqDiff, reduceIte, Nat.reduceAdd, Nat.reduceMul, Nat.reduceSub, Nat.reduceLT, Nat.reduceLeDiff, Nat.reduceBEq, w1, h0, w2, h3, w3, h5, h7]))
    exact Aw_ret (ret0 (.inl rfl) (by simp only [go_sem, Nat.reduceEqDiff, reduceIte, Nat.reduceAdd, Nat.reduceMul, Nat.reduceSub, Nat.reduceLT, Nat.reduceLeDiff, Nat.reduceBEq]; rfl) (by rfl) rfl)
  · rw [szM_no h6] at k
    rw [szM_no (by unfold wSve; omega)]
    repeat (first | apply Aw_seq | apply Aw_block | apply Aw_skip | apply Aw_exit | refine Aw_condt rfl ?_ | refine Aw_condf rfl ?_ | (refine qr ?_; simp only [go_sem, Nat.reduceEqDiff, reduceIte, Nat.reduceAdd, Nat.reduceMul, Nat.reduceSub, Nat.reduceLT, Nat.reduceLeDiff, Nat.reduceBEq, w1, h0, w2, h3, w3, h5, neg1]) | (refine qd (by kernel_rfl) (by kernel_rfl) ?_; simp only [go_sem, Nat.reduceEqDiff, reduceIte, Nat.reduceAdd, Nat.reduceMul, Nat.reduceSub, Nat.reduceLT, Nat.reduceLeDiff, Nat.reduceBEq, w1, h0, w2, h3, w3, h5, neg1]) | refine dk (by kernel_rfl) ?_ | (refine qp (k) (by simp only [go_sem, Nat.reduceEqDiff, reduceIte, Nat.reduceAdd, Nat.reduceMul, Nat.reduceSub, Nat.reduceLT, Nat.reduceLeDiff, Nat.reduceBEq, w1, h0, w2, h3, w3, h5, neg1]; first | done | rfl) rfl (by simp only [go_sem, Nat.reduceLT]) rfl rfl ?_; simp only [go_sem, Nat.reduceEqDiff, reduceIte, Nat.reduceAdd, Nat.reduceMul, Nat.reduceSub, Nat.reduceLT, Nat.reduceLeDiff, Nat.reduceBEq, w1, h0, w2, h3, w3, h5, neg1]))
    exact Aw_ret (ret0 (.inl rfl) (by simp only [go_sem, Nat.reduceEqDiff, reduceIte, Nat.reduceAdd, Nat.reduceMul, Nat.reduceSub, Nat.reduceLT, Nat.reduceLeDiff, Nat.reduceBEq]; rfl) (by rfl) rfl)
theorem szSieveS_ac (r : List Sve) (l : Nat) (hl : l ≤ 1048576) (hr : big r.length) (he : ∀ e ∈ r, bigS e) : AC Try.prog 89 [svsT r, iT l] noHp 0 ⟨.t (iT (szM (wS wSve r) l)), noHp, 0⟩ := by
  refine AC_of Try.func89 rfl Try.ntmps89 Try.results89 (by kernel_rfl) rfl ?_
  simp only [List.zipIdx, List.map, Nat.zero_add, Nat.reduceAdd]
  by_cases h : r.length ≤ l
  case neg =>
    have w1 := wrap_neg h hl hr
    rw [szM_no (by have := wI_le wSve r 0; rw [wI_0] at this; omega)]
    repeat (first | apply Aw_seq | apply Aw_block | apply Aw_skip | apply Aw_exit | refine Aw_condt rfl ?_ | refine Aw_condf rfl ?_ | (refine qr ?_; simp only [go_sem, Nat.reduceEqDiff, reduceIte, Nat.reduceAdd, Nat.reduceMul, Nat.reduceSub, Nat.reduceLT, Nat.reduceLeDiff, Nat.reduceBEq, w1]) | (refine qd (by kernel_rfl) (by kernel_rfl) ?_; simp only [go_sem, Nat.reduceEqDiff, reduceIte, Nat.reduceAdd, Nat.reduceMul, Nat.reduceSub, Nat.reduceLT, Nat.reduceLeDiff, Nat.reduceBEq, w1]) | refine dk (by kernel_rfl) ?_)
    exact Aw_ret (ret0 (.inl rfl) (by simp only [go_sem, Nat.reduceEqDiff, reduceIte, Nat.reduceAdd, Nat.reduceMul, Nat.reduceSub, Nat.reduceLT, Nat.reduceLeDiff, Nat.reduceBEq]; rfl) (by rfl) rfl)
  have w1 := wrap_sub h hl
  have h0 := nneg (l - r.length)
  repeat (first | apply Aw_seq | apply Aw_block | apply Aw_skip | apply Aw_exit | refine Aw_condt rfl ?_ | refine Aw_condf rfl ?_ | (refine qr ?_; simp only [go_sem, Nat.reduceEqDiff, reduceIte, Nat.reduceAdd, Nat.reduceMul, Nat.reduceSub, Nat.reduceLT, Nat.reduceLeDiff, Nat.reduceBEq, w1, h0]) | (refine qd (by kernel_rfl) (by kernel_rfl) ?_; simp only [go_sem, Nat.reduceEqDiff, reduceIte, Nat.reduceAdd, Nat.reduceMul, Nat.reduceSub, Nat.reduceLT, Nat.reduceLeDiff, Nat.reduceBEq, w1, h0]) | refine dk (by kernel_rfl) ?_)
  refine Aw.rw (rw0 (l' := [(5, .t (iT (0 : Nat))), (1, .t (iT ((l - wI wSve r 0 : Nat) : Int))), (0, .t (svsT r))]) (n' := 0) (by repeat (first | exact trivial | refine ⟨rfl, rfl, ?_⟩))) ?_
  refine Aw_loop0 (ι := { i : Nat // i ≤ r.length ∧ (wI wSve r i ≤ l) }) (fun q => [(5, .t (iT (q.1 : Nat))), (1, .t (iT ((l - wI wSve r q.1 : Nat) : Int))), (0, .t (svsT r))]) (fun q => r.length - q.1) ⟨0, Nat.zero_le _, h⟩ ?_
  rintro ⟨i, hi, hp⟩
  dsimp only
  by_cases hlt : i < r.length
  · have h1 : (i : Int) < (r.length : Int) := by omega
    have h2 := wrap_succ hlt (by omega)
    obtain ⟨e, hx⟩ : ∃ e, r[i]? = some e := ⟨_, List.getElem?_eq_getElem hlt⟩
    have k := szSieve_ac e (l - wI wSve r i) (by omega) (he e (List.mem_of_getElem? hx))
    have e1 := wI_succ (f := wSve) hx
    by_cases h3 : wSve e ≤ l - wI wSve r i
    · rw [szM_ok h3, show l - wI wSve r i - wSve e = l - wI wSve r (i + 1) by omega] at k
      have h4 := nneg (l - wI wSve r (i + 1))
      repeat (first | apply Aw_seq | apply Aw_block | apply Aw_skip | apply Aw_exit | refine Aw_condt rfl ?_ | refine Aw_condf rfl ?_ | (refine qr ?_; simp only [go_sem, Nat.reduceEqDiff, reduceIte, Nat.reduceAdd, Nat.reduceMul, Nat.reduceSub, Nat.reduceLT, Nat.reduceLeDiff, Nat.reduceBEq, h1, h2, hx, h4]) | (refine qd (by kernel_rfl) (by kernel_rfl) ?_; simp only [go_sem, Nat.reduceEqDiff, reduceIte, Nat.reduceAdd, Nat.reduceMul, Nat.reduceSub, Nat.reduceLT, Nat.reduceLeDiff, Nat.reduceBEq, h1, h2, hx, h4]) | refine dk (by kernel_rfl) ?_ | (refine qp (k) (by simp only [go_sem, Nat.reduceEqDiff, reduceIte, Nat.reduceAdd, Nat.reduceMul, Nat.reduceSub, Nat.reduceLT, Nat.reduceLeDiff, Nat.reduceBEq, h1, h2, hx, h4]; first | done | rfl) rfl (by simp only [go_sem, Nat.reduceLT]) rfl rfl ?_; simp only [go_sem, Nat.reduceEqDiff, reduceIte, Nat.reduceAdd, Nat.reduceMul, Nat.reduceSub, Nat.reduceLT, Nat.reduceLeDiff, Nat.reduceBEq, h1, h2, hx, h4]))
      exact ⟨⟨i + 1, by omega, by omega⟩, (by simp only []; omega), rw0 (by repeat (first | exact trivial | refine ⟨rfl, rfl, ?_⟩))⟩
    · rw [szM_no h3] at k
      rw [szM_no (w := wS wSve r) (by have := wI_le wSve r (i + 1); omega)]
      repeat (first | apply Aw_seq | apply Aw_block | apply Aw_skip | apply Aw_exit | refine Aw_condt rfl ?_ | refine Aw_condf rfl ?_ | (refine qr ?_; simp only [go_sem, Nat.reduceEqDiff, reduceIte, Nat.reduceAdd, Nat.reduceMul, Nat.reduceSub, Nat.reduceLT, Nat.reduceLeDiff, Nat.reduceBEq, h1, h2, hx, neg1]) | (refine qd (by kernel_rfl) (by kernel_rfl) ?_; simp only [go_sem, Nat.reduceEqDiff, reduceIte, Nat.reduceAdd, Nat.reduceMul, Nat.reduceSub, Nat.reduceLT, Nat.reduceLeDiff, Nat.reduceBEq, h1, h2, hx, neg1]) | refine dk (by kernel_rfl) ?_ | (refine qp (k) (by simp only [go_sem, Nat.reduceEqDiff, reduceIte, Nat.reduceAdd, Nat.reduceMul, Nat.reduceSub, Nat.reduceLT, Nat.reduceLeDiff, Nat.reduceBEq, h1, h2, hx, neg1]; first | done | rfl) rfl (by simp only [go_sem, Nat.reduceLT]) rfl rfl ?_; simp only [go_sem, Nat.reduceEqDiff, reduceIte, Nat.reduceAdd, Nat.reduceMul, Nat.reduceSub, Nat.reduceLT, Nat.reduceLeDiff, Nat.reduceBEq, h1, h2, hx, neg1]))
      exact Aw_ret (ret0 (.inl rfl) (by simp only [go_sem, Nat.reduceEqDiff, reduceIte, Nat.reduceAdd, Nat.reduceMul, Nat.reduceSub, Nat.reduceLT, Nat.reduceLeDiff, Nat.reduceBEq]; rfl) (by rfl) rfl)
  · have h1 : ¬ (i : Int) < (r.length : Int) := by omega
    obtain rfl : i = r.length := by omega
    rw [wI_end] at hp ⊢
    rw [szM_ok hp]
    repeat (first | apply Aw_seq | apply Aw_block | apply Aw_skip | apply Aw_exit | refine Aw_condt rfl ?_ | refine Aw_condf rfl ?_ | (refine qr ?_; simp only [go_sem, Nat.reduceEqDiff, reduceIte, Nat.reduceAdd, Nat.reduceMul, Nat.reduceSub, Nat.reduceLT, Nat.reduceLeDiff, Nat.reduceBEq, h1]) | (refine qd (by kernel_rfl) (by kernel_rfl) ?_; simp only [go_sem, Nat.reduceEqDiff, reduceIte, Nat.reduceAdd, Nat.reduceMul, Nat.reduceSub, Nat.reduceLT, Nat.reduceLeDiff, Nat.reduceBEq, h1]) | refine dk (by kernel_rfl) ?_)
    exact Aw_ret (ret0 (.inl rfl) (by simp only [go_sem, Nat.reduceEqDiff, reduceIte, Nat.reduceAdd, Nat.reduceMul, Nat.reduceSub, Nat.reduceLT, Nat.reduceLeDiff, Nat.reduceBEq]; rfl) (by rfl) rfl)
theorem szIntS_ac (r : List Int) (l : Nat) (hl : l ≤ 1048576) (hr : big r.length) : AC Try.prog 90 [intsT r, iT l] noHp 0 ⟨.t (iT (szM r.length l)), noHp, 0⟩ := by
  refine AC_of Try.func90 rfl Try.ntmps90 Try.results90 (by kernel_rfl) rfl ?_
  simp only [List.zipIdx, List.map, Nat.zero_add, Nat.reduceAdd]
  by_cases h : r.length ≤ l
  · have w1 := wrap_sub h hl
    have h1 := nneg (l - r.length)
    rw [szM_ok h]
    repeat (first | apply Aw_seq | apply Aw_block | apply Aw_skip | apply Aw_exit | refine Aw_condt rfl ?_ | refine Aw_condf rfl ?_ | (refine qr ?_; simp only [go_sem, Nat.reduceEqDiff, reduceIte, Nat.reduceAdd, Nat.reduceMul, Nat.reduceSub, Nat.reduceLT, Nat.reduceLeDiff, Nat.reduceBEq, w1, h1]) | (refine qd (by kernel_rfl) (by kernel_rfl) ?_; simp only [go_sem, Nat.reduceEqDiff, reduceIte, Nat.reduceAdd, Nat.reduceMul, Nat.reduceSub, Nat.reduceLT, Nat.reduceLeDiff, Nat.reduceBEq, w1, h1]) | refine dk (by kernel_rfl) ?_)
    exact Aw_ret (ret0 (.inl rfl) (by simp only [go_sem, Nat.reduceEqDiff, reduceIte, Nat.reduceAdd, Nat.reduceMul, Nat.reduceSub, Nat.reduceLT, Nat.reduceLeDiff, Nat.reduceBEq]; rfl) (by rfl) rfl)
  · have w1 := wrap_neg h hl hr
    rw [szM_no h]
    repeat (first | apply Aw_seq | apply Aw_block | apply Aw_skip | apply Aw_exit | refine Aw_condt rfl ?_ | refine Aw_condf rfl ?_ | (refine qr ?_; simp only [go_sem, Nat.reduceEqDiff, reduceIte, Nat.reduceAdd, Nat.reduceMul, Nat.reduceSub, Nat.reduceLT, Nat.reduceLeDiff, Nat.reduceBEq, w1]) | (refine qd (by kernel_rfl) (by kernel_rfl) ?_; simp only [go_sem, Nat.reduceEqDiff, reduceIte, Nat.reduceAdd, Nat.reduceMul, Nat.reduceSub, Nat.reduceLT, Nat.reduceLeDiff, Nat.reduceBEq, w1]) | refine dk (by kernel_rfl) ?_)
    exact Aw_ret (ret0 (.inl rfl) (by simp only [go_sem, Nat.reduceEqDiff, reduceIte, Nat.reduceAdd, Nat.reduceMul, Nat.reduceSub, Nat.reduceLT, Nat.reduceLeDiff, Nat.reduceBEq]; rfl) (by rfl) rfl)
structure bigT (s : Sto) : Prop where
  top : bigR s.top
  ll : big s.levels.length
  levels : ∀ e ∈ s.levels, bigR e
  sl : big s.sieves.length
  sieves : ∀ e ∈ s.sieves, bigS e
  times : big s.times.length
def wSto (s : Sto) : Nat := wRun s.top + wS wRun s.levels + wS wSve s.sieves + s.times.length
theorem szStore_ac (s : Sto) (l : Nat) (hl : l ≤ 1048576) (hs : bigT s) : AC Try.prog 36 [stT s, iT l] noHp 0 ⟨.t (iT (szM (wSto s) l)), noHp, 0⟩ := by
  refine AC_of Try.func36 rfl Try.ntmps36 Try.results36 (by kernel_rfl) rfl ?_
  simp only [List.zipIdx, List.map, Nat.zero_add, Nat.reduceAdd]
  have k1 := szEntryS_ac s.top l hl hs.top.1 hs.top.2
  rw [show wS wEnt s.top = wRun s.top from rfl] at k1
  by_cases h1 : wRun s.top ≤ l
  case neg =>
    rw [szM_no h1] at k1
    rw [szM_no (by unfold wSto; omega)]
    repeat (first | apply Aw_seq | apply Aw_block | apply Aw_skip | apply Aw_exit | refine Aw_condt rfl ?_ | refine Aw_condf rfl ?_ | (refine qr ?_; simp only [go_sem, Nat.reduceEqDiff, reduceIte, Nat.reduceAdd, Nat.reduceMul, Nat.reduceSub, Nat.reduceLT, Nat.reduceLeDiff, Nat.reduceBEq, neg1]) | (refine qd (by kernel_rfl) (by kernel_rfl) ?_; simp only [go_sem, Nat.reduceEqDiff, reduceIte, Nat.reduceAdd, Nat.reduceMul, Nat.reduceSub, Nat.reduceLT, Nat.reduceLeDiff, Nat.reduceBEq, neg1]) | refine dk (by kernel_rfl) ?_ | (refine qp (k1) (by simp only [go_sem, Nat.reduceEqDiff, reduceIte, Nat.reduceAdd, Nat.reduceMul, Nat.reduceSub, Nat.reduceLT, Nat.reduceLeDiff, Nat.reduceBEq, neg1]; first | done | rfl) rfl (by simp only [go_sem, Nat.reduceLT]) rfl rfl ?_; simp only [go_sem, Nat.reduceEqDiff, reduceIte, Nat.reduceAdd, Nat.reduceMul, Nat.reduceSub, Nat.reduceLT, Nat.reduceLeDiff, Nat.reduceBEq, neg1]))
    exact Aw_ret (ret0 (.inl rfl) (by simp only [go_sem, Nat.reduceEqDiff, reduceIte, Nat.reduceAdd, Nat.reduceMul, Nat.reduceSub, Nat.reduceLT, Nat.reduceLeDiff, Nat.reduceBEq]; rfl) (by rfl) rfl)
  obtain ⟨l1, e1⟩ : ∃ l1, l1 = l - wRun s.top := ⟨_, rfl⟩
  rw [szM_ok h1, ← e1] at k1
  have n1 := nneg l1
  have k2 := szEntrySS_ac s.levels l1 (by omega) hs.ll hs.levels
  by_cases h2 : wS wRun s.levels ≤ l1
  case neg =>
    rw [szM_no h2] at k2
    rw [szM_no (by unfold wSto; omega)]
    repeat (first | apply Aw_seq | apply Aw_block | apply Aw_skip | apply Aw_exit | refine Aw_condt rfl ?_ | refine Aw_condf rfl ?_ | (refine qr ?_; simp only [go_sem, Nat.reduceEqDiff, reduceIte, Nat.reduceAdd, Nat.reduceMul, Nat.reduceSub, Nat.reduceLT, Nat.reduceLeDiff, Nat.reduceBEq, n1, neg1]) | (refine qd (by kernel_rfl) (by kernel_rfl) ?_; simp only [go_sem, Nat.reduceEqDiff, reduceIte, Nat.reduceAdd, Nat.reduceMul, Nat.reduceSub, Nat.reduceLT, Nat.reduceLeDiff, Nat.reduceBEq, n1, neg1]) | refine dk (by kernel_rfl) ?_ | (refine qp (k1) (by simp only [go_sem, Nat.reduceEqDiff, reduceIte, Nat.reduceAdd, Nat.reduceMul, Nat.reduceSub, Nat.reduceLT, Nat.reduceLeDiff, Nat.reduceBEq, n1, neg1]; first | done | rfl) rfl (by simp only [go_sem, Nat.reduceLT]) rfl rfl ?_; simp only [go_sem, Nat.reduceEqDiff, reduceIte, Nat.reduceAdd, Nat.reduceMul, Nat.reduceSub, Nat.reduceLT, Nat.reduceLeDiff, Nat.reduceBEq, n1, neg1]) | (refine qp (k2) (by simp only [go_sem, Nat.reduceEqDiff, reduceIte, Nat.reduceAdd, Nat.reduceMul, Nat.reduceSub, Nat.reduceLT, Nat.reduceLeDiff, Nat.reduceBEq, n1, neg1]; first | done | rfl) rfl (by simp only [go_sem, Nat.reduceLT]) rfl rfl ?_; simp only [go_sem, Nat.reduceEqDiff, reduceIte, Nat.reduceAdd, Nat.reduceMul, Nat.reduceSub, Nat.reduceLT, Nat.reduceLeDiff, Nat.reduceBEq, n1, neg1]))
    exact Aw_ret (ret0 (.inl rfl) (by simp only [go_sem, Nat.reduceEqDiff, reduceIte, Nat.reduceAdd, Nat.reduceMul, Nat.reduceSub, Nat.reduceLT, Nat.reduceLeDiff, Nat.reduceBEq]; rfl) (by rfl) rfl)
  obtain ⟨l2, e2⟩ : ∃ l2, l2 = l1 - wS wRun s.levels := ⟨_, rfl⟩
  rw [szM_ok h2, ← e2] at k2
  have n2 := nneg l2
  have k3 := szSieveS_ac s.sieves l2 (by omega) hs.sl hs.sieves
  by_cases h3 : wS wSve s.sieves ≤ l2
  case neg =>
    rw [szM_no h3] at k3
    rw [szM_no (by unfold wSto; omega)]
    repeat (first | apply Aw_seq | apply Aw_block | apply Aw_skip | apply Aw_exit | refine Aw_condt rfl ?_ | refine Aw_condf rfl ?_ | (refine qr ?_; simp only [go_sem, Nat.reduceEqDiff, reduceIte, Nat.reduceAdd, Nat.reduceMul, Nat.reduceSub, Nat.reduceLT, Nat.reduceLeDiff, Nat.reduceBEq, n1, n2, neg1]) | (refine qd (by kernel_rfl) (by kernel_rfl) ?_; simp only [go_sem, Nat.reduceEqDiff, reduceIte, Nat.reduceAdd, Nat.reduceMul, Nat.reduceSub, Nat.reduceLT, Nat.reduceLeDiff, Nat.reduceBEq, n1, n2, neg1]) | refine dk (by kernel_rfl) ?_ | (refine qp (k1) (by simp only [go_sem, Nat.reduceEqDiff, reduceIte, Nat.reduceAdd, Nat.reduceMul, Nat.reduceSub, Nat.reduceLT, Nat.reduceLeDiff, Nat.reduceBEq, n1, n2, neg1]; first | done | rfl) rfl (by simp only [go_sem, Nat.reduceLT]) rfl rfl ?_; simp only [go_sem, Nat.reduceEqDiff, reduceIte, Nat.reduceAdd, Nat.reduceMul, Nat.reduceSub, Nat.reduceLT, Nat.reduceLeDiff, Nat.reduceBEq, n1, n2, neg1]) | (refine qp (k2) (by simp only [go_sem, Nat.reduceEqDiff, reduceIte, Nat.reduceAdd, Nat.reduceMul, Nat.reduceSub, Nat.reduceLT, Nat.reduceLeDiff, Nat.reduceBEq, n1, n2, neg1]; first | done | rfl) rfl (by simp only [go_sem, Nat.reduceLT]) rfl rfl ?_; simp only [go_sem, Nat.reduceEqDiff, reduceIte, Nat.reduceAdd, Nat.reduceMul, Nat.reduceSub, Nat.reduceLT, Nat.reduceLeDiff, Nat.reduceBEq, n1, n2, neg1]) | (refine qp (k3) (by simp only [go_sem, Nat.reduceEqDiff, reduceIte, Nat.reduceAdd, Nat.reduceMul, Nat.reduceSub, Nat.reduceLT, Nat.reduceLeDiff, Nat.reduceBEq, n1, n2, neg1]; first | done | rfl) rfl (by simp only [go_sem, Nat.reduceLT]) rfl rfl ?_; simp only [go_sem, Nat.reduceEqDiff, reduceIte, Nat.reduceAdd, Nat.reduceMul, Nat.reduceSub, Nat.reduceLT, Nat.reduceLeDiff, Nat.reduceBEq, n1, n2, neg1]))
    exact Aw_ret (ret0 (.inl rfl) (by simp only [go_sem, Nat.reduceEqDiff, reduceIte, Nat.reduceAdd, Nat.reduceMul, Nat.reduceSub, Nat.reduceLT, Nat.reduceLeDiff, Nat.reduceBEq]; rfl) (by rfl) rfl)
  obtain ⟨l3, e3⟩ : ∃ l3, l3 = l2 - wS wSve s.sieves := ⟨_, rfl⟩
  rw [szM_ok h3, ← e3] at k3
  have n3 := nneg l3
  have k4 := szIntS_ac s.times l3 (by omega) hs.times
  by_cases h4 : s.times.length ≤ l3
  · rw [szM_ok h4] at k4
    have n4 := nneg (l3 - s.times.length)
    rw [szM_ok (w := wSto s) (by unfold wSto; omega), show l - wSto s = l3 - s.times.length by unfold wSto; omega]
    repeat (first | apply Aw_seq | apply Aw_block | apply Aw_skip | apply Aw_exit | refine Aw_condt rfl ?_ | refine Aw_condf rfl ?_ | (refine qr ?_; simp only [go_sem, Nat.reduceEqDiff, reduceIte, Nat.reduceAdd, Nat.reduceMul, Nat.reduceSub, Nat.reduceLT, Nat.reduceLeDiff, Nat.reduceBEq, n1, n2, n3, n4]) | (refine qd (by kernel_rfl) (by kernel_rfl) ?_; simp only [go_sem, Nat.reduceEqDiff, reduceIte, Nat.reduceAdd, Nat.reduceMul, Nat.reduceSub, Nat.reduceLT, Nat.reduceLeDiff, Nat.reduceBEq, n1, n2, n3, n4]) | refine dk (by kernel_rfl) ?_ | (refine qp (k1) (by simp only [go_sem, Nat.reduceEqDiff, reduceIte, Nat.reduceAdd, Nat.reduceMul, Nat.reduceSub, Nat.reduceLT, Nat.reduceLeDiff, Nat.reduceBEq, n1, n2, n3, n4]; first | done | rfl) rfl (by simp only [go_sem, Nat.reduceLT]) rfl rfl ?_; simp only [go_sem, Nat.reduceEqDiff, reduceIte, Nat.reduceAdd, Nat.reduceMul, Nat.reduceSub, Nat.reduceLT, Nat.reduceLeDiff, Nat.reduceBEq, n1, n2, n3, n4]) | (refine qp (k2) (by simp only [go_sem, Nat.reduceEqDiff, reduceIte, Nat.reduceAdd, Nat.reduceMul, Nat.reduceSub, Nat.reduceLT, Nat.reduceLeDiff, Nat.reduceBEq, n1, n2, n3, n4]; first | done | rfl) rfl (by simp only [go_sem, Nat.reduceLT]) rfl rfl ?_; simp only [go_sem, Nat.reduceEqDiff, reduceIte, Nat.reduceAdd, Nat.reduceMul, Nat.reduceSub, Nat.reduceLT, Nat.reduceLeDiff, Nat.reduceBEq, n1, n2, n3, n4]) | (refine qp (k3) (by simp only [go_sem, Nat.reduceEqDiff, reduceIte, Nat.reduceAdd, Nat.reduceMul, Nat.reduceSub, Nat.reduceLT, Nat.reduceLeDiff, Nat.reduceBEq, n1, n2, n3, n4]; first | done | rfl) rfl (by simp only [go_sem, Nat.reduceLT]) rfl rfl ?_; simp only [go_sem, Nat.reduceEqDiff, reduceIte, Nat.reduceAdd, Nat.reduceMul, Nat.reduceSub, Nat.reduceLT, Nat.reduceLeDiff, Nat.reduceBEq, n1, n2, n3, n4]) | (refine qp (k4) (by simp only [go_sem, Nat.reduceEqDiff, reduceIte, Nat.reduceAdd, Nat.reduceMul, Nat.reduceSub, Nat.reduceLT, Nat.reduceLeDiff, Nat.reduceBEq, n1, n2, n3, n4]; first | done | rfl) rfl (by simp only [go_sem, Nat.reduceLT]) rfl rfl ?_; simp only [go_sem, Nat.reduceEqDiff, reduceIte, Nat.reduceAdd, Nat.reduceMul, Nat.reduceSub, Nat.reduceLT, Nat.reduceLeDiff, Nat.reduceBEq, n1, n2, n3, n4]))
    exact Aw_ret (ret0 (.inl rfl) (by simp only [go_sem, Nat.reduceEqDiff, reduceIte, Nat.reduceAdd, Nat.reduceMul, Nat.reduceSub, Nat.reduceLT, Nat.reduceLeDiff, Nat.reduceBEq]; rfl) (by rfl) rfl)
  · rw [szM_no h4] at k4
    rw [szM_no (by unfold wSto; omega)]
    repeat (first | apply Aw_seq | apply Aw_block | apply Aw_skip | apply Aw_exit | refine Aw_condt rfl ?_ | refine Aw_condf rfl ?_ | (refine qr ?_; simp only [go_sem, Nat.reduceEqDiff, reduceIte, Nat.reduceAdd, Nat.reduceMul, Nat.reduceSub, Nat.reduceLT, Nat.reduceLeDiff, Nat.reduceBEq, n1, n2, n3, neg1]) | (refine qd (by kernel_rfl) (by kernel_rfl) ?_; simp only [go_sem, Nat.reduceEqDiff, reduceIte, Nat.reduceAdd, Nat.reduceMul, Nat.reduceSub, Nat.reduceLT, Nat.reduceLeDiff, Nat.reduceBEq, n1, n2, n3, neg1]) | refine dk (by kernel_rfl) ?_ | (refine qp (k1) (by simp only [go_sem, Nat.reduceEqDiff, reduceIte, Nat.reduceAdd, Nat.reduceMul, Nat.reduceSub, Nat.reduceLT, Nat.reduceLeDiff, Nat.reduceBEq, n1, n2, n3, neg1]; first | done | rfl) rfl (by simp only [go_sem, Nat.reduceLT]) rfl rfl ?_; simp only [go_sem, Nat.reduceEqDiff, reduceIte, Nat.reduceAdd, Nat.reduceMul, Nat.reduceSub, Nat.reduceLT, Nat.reduceLeDiff, Nat.reduceBEq, n1, n2, n3, neg1]) | (refine qp (k2) (by simp only [go_sem, Nat.reduceEqDiff, reduceIte, Nat.reduceAdd, Nat.reduceMul, Nat.reduceSub, Nat.reduceLT, Nat.reduceLeDiff, Nat.reduceBEq, n1, n2, n3, neg1]; first | done | rfl) rfl (by simp only [go_sem, Nat.reduceLT]) rfl rfl ?_; simp only [go_sem, Nat.reduceEqDiff, reduceIte, Nat.reduceAdd, Nat.reduceMul, Nat.reduceSub, Nat.reduceLT, Nat.reduceLeDiff, Nat.reduceBEq, n1, n2, n3, neg1]) | (refine qp (k3) (by simp only [go_sem, Nat.reduceEqDiff, reduceIte, Nat.reduceAdd, Nat.reduceMul, Nat.reduceSub, Nat.reduceLT, Nat.reduceLeDiff, Nat.reduceBEq, n1, n2, n3, neg1]; first | done | rfl) rfl (by simp only [go_sem, Nat.reduceLT]) rfl rfl ?_; simp only [go_sem, Nat.reduceEqDiff, reduceIte, Nat.reduceAdd, Nat.reduceMul, Nat.reduceSub, Nat.reduceLT, Nat.reduceLeDiff, Nat.reduceBEq, n1, n2, n3, neg1]) | (refine qp (k4) (by simp only [go_sem, Nat.reduceEqDiff, reduceIte, Nat.reduceAdd, Nat.reduceMul, Nat.reduceSub, Nat.reduceLT, Nat.reduceLeDiff, Nat.reduceBEq, n1, n2, n3, neg1]; first | done | rfl) rfl (by simp only [go_sem, Nat.reduceLT]) rfl rfl ?_; simp only [go_sem, Nat.reduceEqDiff, reduceIte, Nat.reduceAdd, Nat.reduceMul, Nat.reduceSub, Nat.reduceLT, Nat.reduceLeDiff, Nat.reduceBEq, n1, n2, n3, neg1]))
    exact Aw_ret (ret0 (.inl rfl) (by simp only [go_sem, Nat.reduceEqDiff, reduceIte, Nat.reduceAdd, Nat.reduceMul, Nat.reduceSub, Nat.reduceLT, Nat.reduceLeDiff, Nat.reduceBEq]; rfl) (by rfl) rfl)
end Go.Proofs.Ytcbhgglpgphimaa.Ab
namespace Go.Proofs.Ytcbhgglpgphimaa.Ab
set_option linter.deprecated false
set_option linter.unusedVariables false
set_option linter.unusedSimpArgs false
open Go Go.Proofs
set_option maxRecDepth 10000
set_option maxHeartbeats 8000000
set_option linter.unusedSimpArgs false
set_option linter.unusedVariables false
def tkD {α : Type} (f : α → List D) (z : List D) (xs : List α) (i : Nat) : List (List D) := (xs.take i).map f ++ List.replicate (xs.length - i) z
theorem tkD_0 {α : Type} (f : α → List D) (z : List D) (xs : List α) : List.replicate xs.length (z.map CV.d) = (tkD f z xs 0).map (·.map .d) := by simp [tkD]
theorem tkD_end {α : Type} (f : α → List D) (z : List D) (xs : List α) : tkD f z xs xs.length = xs.map f := by simp [tkD]
theorem tkD_len {α : Type} (f : α → List D) (z : List D) (xs : List α) {i : Nat} (h : i ≤ xs.length) : ((tkD f z xs i).map (·.map CV.d)).length = xs.length := by simp [tkD]; omega
theorem tkD_ln {α : Type} (f : α → List D) (z : List D) (xs : List α) {i : Nat} (h : i ≤ xs.length) : (tkD f z xs i).length = xs.length := by simp [tkD]; omega
theorem tkD_get {α : Type} (f : α → List D) (z : List D) {xs : List α} {i : Nat} (h : i < xs.length) : ((tkD f z xs i).map (·.map CV.d))[i]? = some (z.map .d) := by
  unfold tkD
  rw [List.getElem?_map, List.getElem?_append_right (by simp; omega), List.getElem?_replicate, if_pos (by simp; omega)]
  rfl
theorem tkD_set {α : Type} (f : α → List D) (z : List D) {xs : List α} {i : Nat} {x : α} (h : xs[i]? = some x) : ((tkD f z xs i).map (·.map CV.d)).set i ((f x).map .d) = (tkD f z xs (i + 1)).map (·.map .d) := by
  have hi : i < xs.length := (List.getElem?_eq_some_iff.1 h).1
  unfold tkD
  rw [List.take_add_one, h, show xs.length - i = (xs.length - (i + 1)) + 1 by omega, List.replicate_succ]
  simp only [List.map_append, List.map_cons, Option.toList_some, List.map_nil, List.append_assoc]
  rw [List.set_append_right _ _ (by simp; omega)]
  simp [Nat.min_eq_left (Nat.le_of_lt hi)]
theorem toEntry_ac (e : Ent) : AC Try.prog 53 [entT e] noHp 0 ⟨.t (entT e), noHp, 0⟩ := by
  refine AC_of Try.func53 rfl Try.ntmps53 Try.results53 (by kernel_rfl) rfl ?_
  simp only [List.zipIdx, List.map, Nat.zero_add, Nat.reduceAdd]
  repeat (first | apply Aw_seq | apply Aw_block | apply Aw_skip | apply Aw_exit | refine Aw_condt rfl ?_ | refine Aw_condf rfl ?_ | (refine qr ?_; simp only [go_sem, Nat.reduceEqDiff, reduceIte, Nat.reduceAdd, Nat.reduceMul, Nat.reduceSub, Nat.reduceLT, Nat.reduceLeDiff, Nat.reduceBEq]) | (refine qd (by kernel_rfl) (by kernel_rfl) ?_; simp only [go_sem, Nat.reduceEqDiff, reduceIte, Nat.reduceAdd, Nat.reduceMul, Nat.reduceSub, Nat.reduceLT, Nat.reduceLeDiff, Nat.reduceBEq]) | refine dk (by kernel_rfl) ?_)
  exact Aw_ret (ret0 (.inl rfl) (by simp only [go_sem, Nat.reduceEqDiff, reduceIte, Nat.reduceAdd, Nat.reduceMul, Nat.reduceSub, Nat.reduceLT, Nat.reduceLeDiff, Nat.reduceBEq]; rfl) (by rfl) rfl)
theorem toEntrySR_ac (r : List Ent) (hl : r.length ≤ 1048576) : AC Try.prog 15 [runT r] noHp 0 ⟨.t (.c (.h 0)), hpL [some (dRow 47 4 (r.map entD))], 1⟩ := by
  refine AC_of Try.func15 rfl Try.ntmps15 Try.results15 (by kernel_rfl) rfl ?_
  simp only [List.zipIdx, List.map, Nat.zero_add, Nat.reduceAdd]
  have t0 : ((r.length : Nat) : Int).toNat = r.length := rfl
  have t1 : (0 : Int) ≤ ((r.length : Nat) : Int) := by omega
  have t2 : ((r.length : Nat) : Int) ≤ 140737488355328 := by omega
  have t3 : decide (r.length * 40 ≤ 140737488355328) = true := decide_eq_true (by omega)
  have t4 := of_decide_eq_true t3
  have t5 := tkD_0 entD [.s (.string zs), .s (.int .i64 0), .s (.bool false), .s (.int .i64 0)] r
  simp only [List.map] at t5
  repeat (first | apply Aw_seq | apply Aw_block | apply Aw_skip | apply Aw_exit | refine Aw_condt rfl ?_ | refine Aw_condf rfl ?_ | (refine qr ?_; simp only [go_sem, Nat.reduceEqDiff, reduceIte, Nat.reduceAdd, Nat.reduceMul, Nat.reduceSub, Nat.reduceLT, Nat.reduceLeDiff, Nat.reduceBEq, t0, t1, t2, t4]) | (refine qd (by kernel_rfl) (by kernel_rfl) ?_; simp only [go_sem, Nat.reduceEqDiff, reduceIte, Nat.reduceAdd, Nat.reduceMul, Nat.reduceSub, Nat.reduceLT, Nat.reduceLeDiff, Nat.reduceBEq, t0, t1, t2, t4]) | refine dk (by kernel_rfl) ?_)
  refine Aw.rw (rwL (l' := [(4, .t (iT (0 : Nat))), (3, .t (.c (.h 0))), (0, .t (runT r))]) (os := [some (dRow 47 4 (tkD entD [.s (.string zs), .s (.int .i64 0), .s (.bool false), .s (.int .i64 0)] r 0))]) (M := [3]) (n' := 1) (by repeat (first | exact trivial | refine ⟨rfl, rfl, ?_⟩)) (by rfl) (by simp only [go_sem, Nat.reduceEqDiff, reduceIte, Nat.reduceAdd, Nat.reduceMul, Nat.reduceSub, Nat.reduceLT, Nat.reduceLeDiff, Nat.reduceBEq, t5]; first | done | rfl) (by decide) (by intro m hm; first | omega | (rcases m with _ | _ | _ | _ | m <;> first | exact ⟨by decide, rfl⟩ | omega))) ?_
  refine Aw_loop_rw (ι := { j : Nat // j ≤ r.length }) (fun j => S [(4, .t (iT (j.1 : Nat))), (3, .t (.c (.h 0))), (0, .t (runT r))] (hpL [some (dRow 47 4 (tkD entD [.s (.string zs), .s (.int .i64 0), .s (.bool false), .s (.int .i64 0)] r j.1))]) 1) (fun j => r.length - j.1) ⟨0, Nat.zero_le _⟩ ?_
  rintro ⟨i, hi⟩
  dsimp only
  by_cases hlt : i < r.length
  · have h1 : (i : Int) < (r.length : Int) := by omega
    have h2 := wrap_succ hlt (by omega)
    obtain ⟨e, hx⟩ : ∃ e, r[i]? = some e := ⟨_, List.getElem?_eq_getElem hlt⟩
    have g1 := tkD_ln entD [.s (.string zs), .s (.int .i64 0), .s (.bool false), .s (.int .i64 0)] r hi
    have g2 := tkD_get entD [.s (.string zs), .s (.int .i64 0), .s (.bool false), .s (.int .i64 0)] hlt
    have g3 := tkD_set entD [.s (.string zs), .s (.int .i64 0), .s (.bool false), .s (.int .i64 0)] hx
    simp only [List.map] at g2
    rw [show ((entD e).map CV.d) = [.d (.s (.string e.key)), .d (.s (.int .i64 e.val)), .d (.s (.bool e.gone)), .d (.s (.int .i64 e.time))] from rfl] at g3
    repeat (first | apply Aw_seq | apply Aw_block | apply Aw_skip | apply Aw_exit | refine Aw_condt rfl ?_ | refine Aw_condf rfl ?_ | (refine qr ?_; simp only [go_sem, Nat.reduceEqDiff, reduceIte, Nat.reduceAdd, Nat.reduceMul, Nat.reduceSub, Nat.reduceLT, Nat.reduceLeDiff, Nat.reduceBEq, h1, h2, hx, hlt, g1, g2, t0]) | (refine qd (by kernel_rfl) (by kernel_rfl) ?_; simp only [go_sem, Nat.reduceEqDiff, reduceIte, Nat.reduceAdd, Nat.reduceMul, Nat.reduceSub, Nat.reduceLT, Nat.reduceLeDiff, Nat.reduceBEq, h1, h2, hx, hlt, g1, g2, t0]) | refine dk (by kernel_rfl) ?_ | (refine qp (toEntry_ac e) (by simp only [go_sem, Nat.reduceEqDiff, reduceIte, Nat.reduceAdd, Nat.reduceMul, Nat.reduceSub, Nat.reduceLT, Nat.reduceLeDiff, Nat.reduceBEq, h1, h2, hx, hlt, g1, g2, t0]; first | done | rfl) rfl (by simp only [go_sem, Nat.reduceLT]) rfl rfl ?_; simp only [go_sem, Nat.reduceEqDiff, reduceIte, Nat.reduceAdd, Nat.reduceMul, Nat.reduceSub, Nat.reduceLT, Nat.reduceLeDiff, Nat.reduceBEq, h1, h2, hx, hlt, g1, g2, t0]))
    refine ⟨⟨i + 1, hlt⟩, [0], ?_, rwL (by repeat (first | exact trivial | refine ⟨rfl, rfl, ?_⟩)) (by rfl) (by simp only [go_sem, Nat.reduceEqDiff, reduceIte, Nat.reduceAdd, Nat.reduceMul, Nat.reduceSub, Nat.reduceLT, Nat.reduceLeDiff, Nat.reduceBEq, g3]; first | done | rfl) (by decide) (by intro m hm; first | omega | (rcases m with _ | _ | _ | _ | m <;> first | exact ⟨by decide, rfl⟩ | omega))⟩
    show r.length - (i + 1) < r.length - i; omega
  · have h1 : ¬ (i : Int) < (r.length : Int) := by omega
    obtain rfl : i = r.length := by omega
    repeat (first | apply Aw_seq | apply Aw_block | apply Aw_skip | apply Aw_exit | refine Aw_condt rfl ?_ | refine Aw_condf rfl ?_ | (refine qr ?_; simp only [go_sem, Nat.reduceEqDiff, reduceIte, Nat.reduceAdd, Nat.reduceMul, Nat.reduceSub, Nat.reduceLT, Nat.reduceLeDiff, Nat.reduceBEq, h1]) | (refine qd (by kernel_rfl) (by kernel_rfl) ?_; simp only [go_sem, Nat.reduceEqDiff, reduceIte, Nat.reduceAdd, Nat.reduceMul, Nat.reduceSub, Nat.reduceLT, Nat.reduceLeDiff, Nat.reduceBEq, h1]) | refine dk (by kernel_rfl) ?_)
    exact Aw_ret (retL (M := [0]) (.inl rfl) (by simp only [go_sem, Nat.reduceEqDiff, reduceIte, Nat.reduceAdd, Nat.reduceMul, Nat.reduceSub, Nat.reduceLT, Nat.reduceLeDiff, Nat.reduceBEq]; first | done | rfl) rfl rfl (by rfl) (by simp only [go_sem, Nat.reduceEqDiff, reduceIte, Nat.reduceAdd, Nat.reduceMul, Nat.reduceSub, Nat.reduceLT, Nat.reduceLeDiff, Nat.reduceBEq, tkD_end]; first | done | rfl) (by decide) (by intro m hm; first | omega | (rcases m with _ | _ | _ | _ | m <;> first | exact ⟨by decide, rfl⟩ | omega)))
theorem toEntryS_ac (r : List Ent) (hl : r.length ≤ 1048576) : AC Try.prog 15 [runT r] noHp 0 ⟨.t (runT r), noHp, 0⟩ := AC.settle0 [0] (toEntrySR_ac r hl) (SetC.row0 rfl rfl) rfl
theorem toEntrySSR_ac (r : List (List Ent)) (hl : r.length ≤ 1048576) (he : ∀ e ∈ r, e.length ≤ 1048576) : AC Try.prog 94 [lvsT r] noHp 0 ⟨.t (.c (.h 0)), hpL [some (dRow 24 1 (r.map lvD))], 1⟩ := by
  refine AC_of Try.func94 rfl Try.ntmps94 Try.results94 (by kernel_rfl) rfl ?_
  simp only [List.zipIdx, List.map, Nat.zero_add, Nat.reduceAdd]
  have t0 : ((r.length : Nat) : Int).toNat = r.length := rfl
  have t1 : (0 : Int) ≤ ((r.length : Nat) : Int) := by omega
  have t2 : ((r.length : Nat) : Int) ≤ 140737488355328 := by omega
  have t3 : decide (r.length * 24 ≤ 140737488355328) = true := decide_eq_true (by omega)
  have t4 := of_decide_eq_true t3
  have t5 := tkD_0 lvD [.s (.slice none 0 0)] r
  simp only [List.map] at t5
  repeat (first | apply Aw_seq | apply Aw_block | apply Aw_skip | apply Aw_exit | refine Aw_condt rfl ?_ | refine Aw_condf rfl ?_ | (refine qr ?_; simp only [go_sem, Nat.reduceEqDiff, reduceIte, Nat.reduceAdd, Nat.reduceMul, Nat.reduceSub, Nat.reduceLT, Nat.reduceLeDiff, Nat.reduceBEq, t0, t1, t2, t4]) | (refine qd (by kernel_rfl) (by kernel_rfl) ?_; simp only [go_sem, Nat.reduceEqDiff, reduceIte, Nat.reduceAdd, Nat.reduceMul, Nat.reduceSub, Nat.reduceLT, Nat.reduceLeDiff, Nat.reduceBEq, t0, t1, t2, t4]) | refine dk (by kernel_rfl) ?_)
  refine Aw.rw (rwL (l' := [(4, .t (iT (0 : Nat))), (3, .t (.c (.h 0))), (0, .t (lvsT r))]) (os := [some (dRow 24 1 (tkD lvD [.s (.slice none 0 0)] r 0))]) (M := [3]) (n' := 1) (by repeat (first | exact trivial | refine ⟨rfl, rfl, ?_⟩)) (by rfl) (by simp only [go_sem, Nat.reduceEqDiff, reduceIte, Nat.reduceAdd, Nat.reduceMul, Nat.reduceSub, Nat.reduceLT, Nat.reduceLeDiff, Nat.reduceBEq, t5]; first | done | rfl) (by decide) (by intro m hm; first | omega | (rcases m with _ | _ | _ | _ | m <;> first | exact ⟨by decide, rfl⟩ | omega))) ?_
  refine Aw_loop_rw (ι := { j : Nat // j ≤ r.length }) (fun j => S [(4, .t (iT (j.1 : Nat))), (3, .t (.c (.h 0))), (0, .t (lvsT r))] (hpL [some (dRow 24 1 (tkD lvD [.s (.slice none 0 0)] r j.1))]) 1) (fun j => r.length - j.1) ⟨0, Nat.zero_le _⟩ ?_
  rintro ⟨i, hi⟩
  dsimp only
  by_cases hlt : i < r.length
  · have h1 : (i : Int) < (r.length : Int) := by omega
    have h2 := wrap_succ hlt (by omega)
    obtain ⟨e, hx⟩ : ∃ e, r[i]? = some e := ⟨_, List.getElem?_eq_getElem hlt⟩
    have g1 := tkD_ln lvD [.s (.slice none 0 0)] r hi
    have g2 := tkD_get lvD [.s (.slice none 0 0)] hlt
    have g3 := tkD_set lvD [.s (.slice none 0 0)] hx
    simp only [List.map] at g2
    rw [show ((lvD e).map CV.d) = [.d (.rs 4 (e.map entD))] from rfl] at g3
    repeat (first | apply Aw_seq | apply Aw_block | apply Aw_skip | apply Aw_exit | refine Aw_condt rfl ?_ | refine Aw_condf rfl ?_ | (refine qr ?_; simp only [go_sem, Nat.reduceEqDiff, reduceIte, Nat.reduceAdd, Nat.reduceMul, Nat.reduceSub, Nat.reduceLT, Nat.reduceLeDiff, Nat.reduceBEq, h1, h2, hx, hlt, g1, g2, t0]) | (refine qd (by kernel_rfl) (by kernel_rfl) ?_; simp only [go_sem, Nat.reduceEqDiff, reduceIte, Nat.reduceAdd, Nat.reduceMul, Nat.reduceSub, Nat.reduceLT, Nat.reduceLeDiff, Nat.reduceBEq, h1, h2, hx, hlt, g1, g2, t0]) | refine dk (by kernel_rfl) ?_ | (refine qp (toEntryS_ac e (he e (List.mem_of_getElem? hx))) (by simp only [go_sem, Nat.reduceEqDiff, reduceIte, Nat.reduceAdd, Nat.reduceMul, Nat.reduceSub, Nat.reduceLT, Nat.reduceLeDiff, Nat.reduceBEq, h1, h2, hx, hlt, g1, g2, t0]; first | done | rfl) rfl (by simp only [go_sem, Nat.reduceLT]) rfl rfl ?_; simp only [go_sem, Nat.reduceEqDiff, reduceIte, Nat.reduceAdd, Nat.reduceMul, Nat.reduceSub, Nat.reduceLT, Nat.reduceLeDiff, Nat.reduceBEq, h1, h2, hx, hlt, g1, g2, t0]))
    refine ⟨⟨i + 1, hlt⟩, [0], ?_, rwL (by repeat (first | exact trivial | refine ⟨rfl, rfl, ?_⟩)) (by rfl) (by simp only [go_sem, Nat.reduceEqDiff, reduceIte, Nat.reduceAdd, Nat.reduceMul, Nat.reduceSub, Nat.reduceLT, Nat.reduceLeDiff, Nat.reduceBEq, g3]; first | done | rfl) (by decide) (by intro m hm; first | omega | (rcases m with _ | _ | _ | _ | m <;> first | exact ⟨by decide, rfl⟩ | omega))⟩
    show r.length - (i + 1) < r.length - i; omega
  · have h1 : ¬ (i : Int) < (r.length : Int) := by omega
    obtain rfl : i = r.length := by omega
    repeat (first | apply Aw_seq | apply Aw_block | apply Aw_skip | apply Aw_exit | refine Aw_condt rfl ?_ | refine Aw_condf rfl ?_ | (refine qr ?_; simp only [go_sem, Nat.reduceEqDiff, reduceIte, Nat.reduceAdd, Nat.reduceMul, Nat.reduceSub, Nat.reduceLT, Nat.reduceLeDiff, Nat.reduceBEq, h1]) | (refine qd (by kernel_rfl) (by kernel_rfl) ?_; simp only [go_sem, Nat.reduceEqDiff, reduceIte, Nat.reduceAdd, Nat.reduceMul, Nat.reduceSub, Nat.reduceLT, Nat.reduceLeDiff, Nat.reduceBEq, h1]) | refine dk (by kernel_rfl) ?_)
    exact Aw_ret (retL (M := [0]) (.inl rfl) (by simp only [go_sem, Nat.reduceEqDiff, reduceIte, Nat.reduceAdd, Nat.reduceMul, Nat.reduceSub, Nat.reduceLT, Nat.reduceLeDiff, Nat.reduceBEq]; first | done | rfl) rfl rfl (by rfl) (by simp only [go_sem, Nat.reduceEqDiff, reduceIte, Nat.reduceAdd, Nat.reduceMul, Nat.reduceSub, Nat.reduceLT, Nat.reduceLeDiff, Nat.reduceBEq, tkD_end]; first | done | rfl) (by decide) (by intro m hm; first | omega | (rcases m with _ | _ | _ | _ | m <;> first | exact ⟨by decide, rfl⟩ | omega)))
theorem toEntrySS_ac (r : List (List Ent)) (hl : r.length ≤ 1048576) (he : ∀ e ∈ r, e.length ≤ 1048576) : AC Try.prog 94 [lvsT r] noHp 0 ⟨.t (lvsT r), noHp, 0⟩ := AC.settle0 [0] (toEntrySSR_ac r hl he) (SetC.row0 rfl rfl) rfl
theorem toStringSR_ac (r : List ByteArray) (hl : r.length ≤ 1048576) : AC Try.prog 168 [strsT r] noHp 0 ⟨.t (.c (.h 0)), hpL [some (dRow 9 1 (r.map strD))], 1⟩ := by
  refine AC_of Try.func168 rfl Try.ntmps168 Try.results168 (by kernel_rfl) rfl ?_
  simp only [List.zipIdx, List.map, Nat.zero_add, Nat.reduceAdd]
  have t0 : ((r.length : Nat) : Int).toNat = r.length := rfl
  have t1 : (0 : Int) ≤ ((r.length : Nat) : Int) := by omega
  have t2 : ((r.length : Nat) : Int) ≤ 140737488355328 := by omega
  have t3 : decide (r.length * 16 ≤ 140737488355328) = true := decide_eq_true (by omega)
  have t4 := of_decide_eq_true t3
  have t5 := tkD_0 strD [.s (.string zs)] r
  simp only [List.map] at t5
  repeat (first | apply Aw_seq | apply Aw_block | apply Aw_skip | apply Aw_exit | refine Aw_condt rfl ?_ | refine Aw_condf rfl ?_ | (refine qr ?_; simp only [go_sem, Nat.reduceEqDiff, reduceIte, Nat.reduceAdd, Nat.reduceMul, Nat.reduceSub, Nat.reduceLT, Nat.reduceLeDiff, Nat.reduceBEq, t0, t1, t2, t4]) | (refine qd (by kernel_rfl) (by kernel_rfl) ?_; simp only [go_sem, Nat.reduceEqDiff, reduceIte, Nat.reduceAdd, Nat.reduceMul, Nat.reduceSub, Nat.reduceLT, Nat.reduceLeDiff, Nat.reduceBEq, t0, t1, t2, t4]) | refine dk (by kernel_rfl) ?_)
  refine Aw.rw (rwL (l' := [(4, .t (iT (0 : Nat))), (3, .t (.c (.h 0))), (0, .t (strsT r))]) (os := [some (dRow 9 1 (tkD strD [.s (.string zs)] r 0))]) (M := [3]) (n' := 1) (by repeat (first | exact trivial | refine ⟨rfl, rfl, ?_⟩)) (by rfl) (by simp only [go_sem, Nat.reduceEqDiff, reduceIte, Nat.reduceAdd, Nat.reduceMul, Nat.reduceSub, Nat.reduceLT, Nat.reduceLeDiff, Nat.reduceBEq, t5]; first | done | rfl) (by decide) (by intro m hm; first | omega | (rcases m with _ | _ | _ | _ | m <;> first | exact ⟨by decide, rfl⟩ | omega))) ?_
  refine Aw_loop_rw (ι := { j : Nat // j ≤ r.length }) (fun j => S [(4, .t (iT (j.1 : Nat))), (3, .t (.c (.h 0))), (0, .t (strsT r))] (hpL [some (dRow 9 1 (tkD strD [.s (.string zs)] r j.1))]) 1) (fun j => r.length - j.1) ⟨0, Nat.zero_le _⟩ ?_
  rintro ⟨i, hi⟩
  dsimp only
  by_cases hlt : i < r.length
  · have h1 : (i : Int) < (r.length : Int) := by omega
    have h2 := wrap_succ hlt (by omega)
    obtain ⟨e, hx⟩ : ∃ e, r[i]? = some e := ⟨_, List.getElem?_eq_getElem hlt⟩
    have g1 := tkD_ln strD [.s (.string zs)] r hi
    have g2 := tkD_get strD [.s (.string zs)] hlt
    have g3 := tkD_set strD [.s (.string zs)] hx
    simp only [List.map] at g2
    rw [show ((strD e).map CV.d) = [.d (.s (.string e))] from rfl] at g3
    repeat (first | apply Aw_seq | apply Aw_block | apply Aw_skip | apply Aw_exit | refine Aw_condt rfl ?_ | refine Aw_condf rfl ?_ | (refine qr ?_; simp only [go_sem, Nat.reduceEqDiff, reduceIte, Nat.reduceAdd, Nat.reduceMul, Nat.reduceSub, Nat.reduceLT, Nat.reduceLeDiff, Nat.reduceBEq, h1, h2, hx, hlt, g1, g2, t0]) | (refine qd (by kernel_rfl) (by kernel_rfl) ?_; simp only [go_sem, Nat.reduceEqDiff, reduceIte, Nat.reduceAdd, Nat.reduceMul, Nat.reduceSub, Nat.reduceLT, Nat.reduceLeDiff, Nat.reduceBEq, h1, h2, hx, hlt, g1, g2, t0]) | refine dk (by kernel_rfl) ?_)
    refine ⟨⟨i + 1, hlt⟩, [0], ?_, rwL (by repeat (first | exact trivial | refine ⟨rfl, rfl, ?_⟩)) (by rfl) (by simp only [go_sem, Nat.reduceEqDiff, reduceIte, Nat.reduceAdd, Nat.reduceMul, Nat.reduceSub, Nat.reduceLT, Nat.reduceLeDiff, Nat.reduceBEq, g3]; first | done | rfl) (by decide) (by intro m hm; first | omega | (rcases m with _ | _ | _ | _ | m <;> first | exact ⟨by decide, rfl⟩ | omega))⟩
    show r.length - (i + 1) < r.length - i; omega
  · have h1 : ¬ (i : Int) < (r.length : Int) := by omega
    obtain rfl : i = r.length := by omega
    repeat (first | apply Aw_seq | apply Aw_block | apply Aw_skip | apply Aw_exit | refine Aw_condt rfl ?_ | refine Aw_condf rfl ?_ | (refine qr ?_; simp only [go_sem, Nat.reduceEqDiff, reduceIte, Nat.reduceAdd, Nat.reduceMul, Nat.reduceSub, Nat.reduceLT, Nat.reduceLeDiff, Nat.reduceBEq, h1]) | (refine qd (by kernel_rfl) (by kernel_rfl) ?_; simp only [go_sem, Nat.reduceEqDiff, reduceIte, Nat.reduceAdd, Nat.reduceMul, Nat.reduceSub, Nat.reduceLT, Nat.reduceLeDiff, Nat.reduceBEq, h1]) | refine dk (by kernel_rfl) ?_)
    exact Aw_ret (retL (M := [0]) (.inl rfl) (by simp only [go_sem, Nat.reduceEqDiff, reduceIte, Nat.reduceAdd, Nat.reduceMul, Nat.reduceSub, Nat.reduceLT, Nat.reduceLeDiff, Nat.reduceBEq]; first | done | rfl) rfl rfl (by rfl) (by simp only [go_sem, Nat.reduceEqDiff, reduceIte, Nat.reduceAdd, Nat.reduceMul, Nat.reduceSub, Nat.reduceLT, Nat.reduceLeDiff, Nat.reduceBEq, tkD_end]; first | done | rfl) (by decide) (by intro m hm; first | omega | (rcases m with _ | _ | _ | _ | m <;> first | exact ⟨by decide, rfl⟩ | omega)))
theorem toStringS_ac (r : List ByteArray) (hl : r.length ≤ 1048576) : AC Try.prog 168 [strsT r] noHp 0 ⟨.t (strsT r), noHp, 0⟩ := AC.settle0 [0] (toStringSR_ac r hl) (SetC.row0 rfl rfl) rfl
theorem toSieve_ac (s : Sve) (hl : s.rests.length ≤ 1048576) : AC Try.prog 135 [sveP s] noHp 0 ⟨.t (sveP s), noHp, 0⟩ := by
  refine AC_of Try.func135 rfl Try.ntmps135 Try.results135 (by kernel_rfl) rfl ?_
  simp only [List.zipIdx, List.map, Nat.zero_add, Nat.reduceAdd]
  repeat (first | apply Aw_seq | apply Aw_block | apply Aw_skip | apply Aw_exit | refine Aw_condt rfl ?_ | refine Aw_condf rfl ?_ | (refine qr ?_; simp only [go_sem, Nat.reduceEqDiff, reduceIte, Nat.reduceAdd, Nat.reduceMul, Nat.reduceSub, Nat.reduceLT, Nat.reduceLeDiff, Nat.reduceBEq]) | (refine qd (by kernel_rfl) (by kernel_rfl) ?_; simp only [go_sem, Nat.reduceEqDiff, reduceIte, Nat.reduceAdd, Nat.reduceMul, Nat.reduceSub, Nat.reduceLT, Nat.reduceLeDiff, Nat.reduceBEq]) | refine dk (by kernel_rfl) ?_ | (refine qp (toStringS_ac s.rests hl) (by simp only [go_sem, Nat.reduceEqDiff, reduceIte, Nat.reduceAdd, Nat.reduceMul, Nat.reduceSub, Nat.reduceLT, Nat.reduceLeDiff, Nat.reduceBEq]; first | done | rfl) rfl (by simp only [go_sem, Nat.reduceLT]) rfl rfl ?_; simp only [go_sem, Nat.reduceEqDiff, reduceIte, Nat.reduceAdd, Nat.reduceMul, Nat.reduceSub, Nat.reduceLT, Nat.reduceLeDiff, Nat.reduceBEq]))
  exact Aw_ret (ret0 (.inl rfl) (by simp only [go_sem, Nat.reduceEqDiff, reduceIte, Nat.reduceAdd, Nat.reduceMul, Nat.reduceSub, Nat.reduceLT, Nat.reduceLeDiff, Nat.reduceBEq]; rfl) (by rfl) rfl)
theorem toSieveSR_ac (r : List Sve) (hl : r.length ≤ 1048576) (he : ∀ e ∈ r, e.rests.length ≤ 1048576) : AC Try.prog 95 [svsT r] noHp 0 ⟨.t (.c (.h 0)), hpL [some (dRow 67 5 (r.map sveD))], 1⟩ := by
  refine AC_of Try.func95 rfl Try.ntmps95 Try.results95 (by kernel_rfl) rfl ?_
  simp only [List.zipIdx, List.map, Nat.zero_add, Nat.reduceAdd]
  have t0 : ((r.length : Nat) : Int).toNat = r.length := rfl
  have t1 : (0 : Int) ≤ ((r.length : Nat) : Int) := by omega
  have t2 : ((r.length : Nat) : Int) ≤ 140737488355328 := by omega
  have t3 : decide (r.length * 80 ≤ 140737488355328) = true := decide_eq_true (by omega)
  have t4 := of_decide_eq_true t3
  have t5 := tkD_0 sveD [.s (.string zs), .s (.string zs), .s (.string zs), .s (.slice none 0 0), .s (.int .i64 0)] r
  simp only [List.map] at t5
  repeat (first | apply Aw_seq | apply Aw_block | apply Aw_skip | apply Aw_exit | refine Aw_condt rfl ?_ | refine Aw_condf rfl ?_ | (refine qr ?_; simp only [go_sem, Nat.reduceEqDiff, reduceIte, Nat.reduceAdd, Nat.reduceMul, Nat.reduceSub, Nat.reduceLT, Nat.reduceLeDiff, Nat.reduceBEq, t0, t1, t2, t4]) | (refine qd (by kernel_rfl) (by kernel_rfl) ?_; simp only [go_sem, Nat.reduceEqDiff, reduceIte, Nat.reduceAdd, Nat.reduceMul, Nat.reduceSub, Nat.reduceLT, Nat.reduceLeDiff, Nat.reduceBEq, t0, t1, t2, t4]) | refine dk (by kernel_rfl) ?_)
  refine Aw.rw (rwL (l' := [(4, .t (iT (0 : Nat))), (3, .t (.c (.h 0))), (0, .t (svsT r))]) (os := [some (dRow 67 5 (tkD sveD [.s (.string zs), .s (.string zs), .s (.string zs), .s (.slice none 0 0), .s (.int .i64 0)] r 0))]) (M := [3]) (n' := 1) (by repeat (first | exact trivial | refine ⟨rfl, rfl, ?_⟩)) (by rfl) (by simp only [go_sem, Nat.reduceEqDiff, reduceIte, Nat.reduceAdd, Nat.reduceMul, Nat.reduceSub, Nat.reduceLT, Nat.reduceLeDiff, Nat.reduceBEq, t5]; first | done | rfl) (by decide) (by intro m hm; first | omega | (rcases m with _ | _ | _ | _ | m <;> first | exact ⟨by decide, rfl⟩ | omega))) ?_
  refine Aw_loop_rw (ι := { j : Nat // j ≤ r.length }) (fun j => S [(4, .t (iT (j.1 : Nat))), (3, .t (.c (.h 0))), (0, .t (svsT r))] (hpL [some (dRow 67 5 (tkD sveD [.s (.string zs), .s (.string zs), .s (.string zs), .s (.slice none 0 0), .s (.int .i64 0)] r j.1))]) 1) (fun j => r.length - j.1) ⟨0, Nat.zero_le _⟩ ?_
  rintro ⟨i, hi⟩
  dsimp only
  by_cases hlt : i < r.length
  · have h1 : (i : Int) < (r.length : Int) := by omega
    have h2 := wrap_succ hlt (by omega)
    obtain ⟨e, hx⟩ : ∃ e, r[i]? = some e := ⟨_, List.getElem?_eq_getElem hlt⟩
    have g1 := tkD_ln sveD [.s (.string zs), .s (.string zs), .s (.string zs), .s (.slice none 0 0), .s (.int .i64 0)] r hi
    have g2 := tkD_get sveD [.s (.string zs), .s (.string zs), .s (.string zs), .s (.slice none 0 0), .s (.int .i64 0)] hlt
    have g3 := tkD_set sveD [.s (.string zs), .s (.string zs), .s (.string zs), .s (.slice none 0 0), .s (.int .i64 0)] hx
    simp only [List.map] at g2
    rw [show ((sveD e).map CV.d) = [.d (.s (.string e.letters)), .d (.s (.string e.more)), .d (.s (.string e.first)), .d (.rs 1 (e.rests.map strD)), .d (.s (.int .i64 e.keep))] from rfl] at g3
    repeat (first | apply Aw_seq | apply Aw_block | apply Aw_skip | apply Aw_exit | refine Aw_condt rfl ?_ | refine Aw_condf rfl ?_ | (refine qr ?_; simp only [go_sem, Nat.reduceEqDiff, reduceIte, Nat.reduceAdd, Nat.reduceMul, Nat.reduceSub, Nat.reduceLT, Nat.reduceLeDiff, Nat.reduceBEq, h1, h2, hx, hlt, g1, g2, t0]) | (refine qd (by kernel_rfl) (by kernel_rfl) ?_; simp only [go_sem, Nat.reduceEqDiff, reduceIte, Nat.reduceAdd, Nat.reduceMul, Nat.reduceSub, Nat.reduceLT, Nat.reduceLeDiff, Nat.reduceBEq, h1, h2, hx, hlt, g1, g2, t0]) | refine dk (by kernel_rfl) ?_ | (refine qp (toSieve_ac e (he e (List.mem_of_getElem? hx))) (by simp only [go_sem, Nat.reduceEqDiff, reduceIte, Nat.reduceAdd, Nat.reduceMul, Nat.reduceSub, Nat.reduceLT, Nat.reduceLeDiff, Nat.reduceBEq, h1, h2, hx, hlt, g1, g2, t0]; first | done | rfl) rfl (by simp only [go_sem, Nat.reduceLT]) rfl rfl ?_; simp only [go_sem, Nat.reduceEqDiff, reduceIte, Nat.reduceAdd, Nat.reduceMul, Nat.reduceSub, Nat.reduceLT, Nat.reduceLeDiff, Nat.reduceBEq, h1, h2, hx, hlt, g1, g2, t0]))
    refine ⟨⟨i + 1, hlt⟩, [0], ?_, rwL (by repeat (first | exact trivial | refine ⟨rfl, rfl, ?_⟩)) (by rfl) (by simp only [go_sem, Nat.reduceEqDiff, reduceIte, Nat.reduceAdd, Nat.reduceMul, Nat.reduceSub, Nat.reduceLT, Nat.reduceLeDiff, Nat.reduceBEq, g3]; first | done | rfl) (by decide) (by intro m hm; first | omega | (rcases m with _ | _ | _ | _ | m <;> first | exact ⟨by decide, rfl⟩ | omega))⟩
    show r.length - (i + 1) < r.length - i; omega
  · have h1 : ¬ (i : Int) < (r.length : Int) := by omega
    obtain rfl : i = r.length := by omega
    repeat (first | apply Aw_seq | apply Aw_block | apply Aw_skip | apply Aw_exit | refine Aw_condt rfl ?_ | refine Aw_condf rfl ?_ | (refine qr ?_; simp only [go_sem, Nat.reduceEqDiff, reduceIte, Nat.reduceAdd, Nat.reduceMul, Nat.reduceSub, Nat.reduceLT, Nat.reduceLeDiff, Nat.reduceBEq, h1]) | (refine qd (by kernel_rfl) (by kernel_rfl) ?_; simp only [go_sem, Nat.reduceEqDiff, reduceIte, Nat.reduceAdd, Nat.reduceMul, Nat.reduceSub, Nat.reduceLT, Nat.reduceLeDiff, Nat.reduceBEq, h1]) | refine dk (by kernel_rfl) ?_)
    exact Aw_ret (retL (M := [0]) (.inl rfl) (by simp only [go_sem, Nat.reduceEqDiff, reduceIte, Nat.reduceAdd, Nat.reduceMul, Nat.reduceSub, Nat.reduceLT, Nat.reduceLeDiff, Nat.reduceBEq]; first | done | rfl) rfl rfl (by rfl) (by simp only [go_sem, Nat.reduceEqDiff, reduceIte, Nat.reduceAdd, Nat.reduceMul, Nat.reduceSub, Nat.reduceLT, Nat.reduceLeDiff, Nat.reduceBEq, tkD_end]; first | done | rfl) (by decide) (by intro m hm; first | omega | (rcases m with _ | _ | _ | _ | m <;> first | exact ⟨by decide, rfl⟩ | omega)))
theorem toSieveS_ac (r : List Sve) (hl : r.length ≤ 1048576) (he : ∀ e ∈ r, e.rests.length ≤ 1048576) : AC Try.prog 95 [svsT r] noHp 0 ⟨.t (svsT r), noHp, 0⟩ := AC.settle0 [0] (toSieveSR_ac r hl he) (SetC.row0 rfl rfl) rfl
theorem toIntSR_ac (r : List Int) (hl : r.length ≤ 1048576) : AC Try.prog 96 [intsT r] noHp 0 ⟨.t (.c (.h 0)), hpL [some (dRow 3 1 (r.map intD))], 1⟩ := by
  refine AC_of Try.func96 rfl Try.ntmps96 Try.results96 (by kernel_rfl) rfl ?_
  simp only [List.zipIdx, List.map, Nat.zero_add, Nat.reduceAdd]
  have t0 : ((r.length : Nat) : Int).toNat = r.length := rfl
  have t1 : (0 : Int) ≤ ((r.length : Nat) : Int) := by omega
  have t2 : ((r.length : Nat) : Int) ≤ 140737488355328 := by omega
  have t3 : decide (r.length * 8 ≤ 140737488355328) = true := decide_eq_true (by omega)
  have t4 := of_decide_eq_true t3
  have t5 := tkD_0 intD [.s (.int .i64 0)] r
  simp only [List.map] at t5
  repeat (first | apply Aw_seq | apply Aw_block | apply Aw_skip | apply Aw_exit | refine Aw_condt rfl ?_ | refine Aw_condf rfl ?_ | (refine qr ?_; simp only [go_sem, Nat.reduceEqDiff, reduceIte, Nat.reduceAdd, Nat.reduceMul, Nat.reduceSub, Nat.reduceLT, Nat.reduceLeDiff, Nat.reduceBEq, t0, t1, t2, t4]) | (refine qd (by kernel_rfl) (by kernel_rfl) ?_; simp only [go_sem, Nat.reduceEqDiff, reduceIte, Nat.reduceAdd, Nat.reduceMul, Nat.reduceSub, Nat.reduceLT, Nat.reduceLeDiff, Nat.reduceBEq, t0, t1, t2, t4]) | refine dk (by kernel_rfl) ?_)
  refine Aw.rw (rwL (l' := [(4, .t (iT (0 : Nat))), (3, .t (.c (.h 0))), (0, .t (intsT r))]) (os := [some (dRow 3 1 (tkD intD [.s (.int .i64 0)] r 0))]) (M := [3]) (n' := 1) (by repeat (first | exact trivial | refine ⟨rfl, rfl, ?_⟩)) (by rfl) (by simp only [go_sem, Nat.reduceEqDiff, reduceIte, Nat.reduceAdd, Nat.reduceMul, Nat.reduceSub, Nat.reduceLT, Nat.reduceLeDiff, Nat.reduceBEq, t5]; first | done | rfl) (by decide) (by intro m hm; first | omega | (rcases m with _ | _ | _ | _ | m <;> first | exact ⟨by decide, rfl⟩ | omega))) ?_
  refine Aw_loop_rw (ι := { j : Nat // j ≤ r.length }) (fun j => S [(4, .t (iT (j.1 : Nat))), (3, .t (.c (.h 0))), (0, .t (intsT r))] (hpL [some (dRow 3 1 (tkD intD [.s (.int .i64 0)] r j.1))]) 1) (fun j => r.length - j.1) ⟨0, Nat.zero_le _⟩ ?_
  rintro ⟨i, hi⟩
  dsimp only
  by_cases hlt : i < r.length
  · have h1 : (i : Int) < (r.length : Int) := by omega
    have h2 := wrap_succ hlt (by omega)
    obtain ⟨e, hx⟩ : ∃ e, r[i]? = some e := ⟨_, List.getElem?_eq_getElem hlt⟩
    have g1 := tkD_ln intD [.s (.int .i64 0)] r hi
    have g2 := tkD_get intD [.s (.int .i64 0)] hlt
    have g3 := tkD_set intD [.s (.int .i64 0)] hx
    simp only [List.map] at g2
    rw [show ((intD e).map CV.d) = [.d (.s (.int .i64 e))] from rfl] at g3
    repeat (first | apply Aw_seq | apply Aw_block | apply Aw_skip | apply Aw_exit | refine Aw_condt rfl ?_ | refine Aw_condf rfl ?_ | (refine qr ?_; simp only [go_sem, Nat.reduceEqDiff, reduceIte, Nat.reduceAdd, Nat.reduceMul, Nat.reduceSub, Nat.reduceLT, Nat.reduceLeDiff, Nat.reduceBEq, h1, h2, hx, hlt, g1, g2, t0]) | (refine qd (by kernel_rfl) (by kernel_rfl) ?_; simp only [go_sem, Nat.reduceEqDiff, reduceIte, Nat.reduceAdd, Nat.reduceMul, Nat.reduceSub, Nat.reduceLT, Nat.reduceLeDiff, Nat.reduceBEq, h1, h2, hx, hlt, g1, g2, t0]) | refine dk (by kernel_rfl) ?_)
    refine ⟨⟨i + 1, hlt⟩, [0], ?_, rwL (by repeat (first | exact trivial | refine ⟨rfl, rfl, ?_⟩)) (by rfl) (by simp only [go_sem, Nat.reduceEqDiff, reduceIte, Nat.reduceAdd, Nat.reduceMul, Nat.reduceSub, Nat.reduceLT, Nat.reduceLeDiff, Nat.reduceBEq, g3]; first | done | rfl) (by decide) (by intro m hm; first | omega | (rcases m with _ | _ | _ | _ | m <;> first | exact ⟨by decide, rfl⟩ | omega))⟩
    show r.length - (i + 1) < r.length - i; omega
  · have h1 : ¬ (i : Int) < (r.length : Int) := by omega
    obtain rfl : i = r.length := by omega
    repeat (first | apply Aw_seq | apply Aw_block | apply Aw_skip | apply Aw_exit | refine Aw_condt rfl ?_ | refine Aw_condf rfl ?_ | (refine qr ?_; simp only [go_sem, Nat.reduceEqDiff, reduceIte, Nat.reduceAdd, Nat.reduceMul, Nat.reduceSub, Nat.reduceLT, Nat.reduceLeDiff, Nat.reduceBEq, h1]) | (refine qd (by kernel_rfl) (by kernel_rfl) ?_; simp only [go_sem, Nat.reduceEqDiff, reduceIte, Nat.reduceAdd, Nat.reduceMul, Nat.reduceSub, Nat.reduceLT, Nat.reduceLeDiff, Nat.reduceBEq, h1]) | refine dk (by kernel_rfl) ?_)
    exact Aw_ret (retL (M := [0]) (.inl rfl) (by simp only [go_sem, Nat.reduceEqDiff, reduceIte, Nat.reduceAdd, Nat.reduceMul, Nat.reduceSub, Nat.reduceLT, Nat.reduceLeDiff, Nat.reduceBEq]; first | done | rfl) rfl rfl (by rfl) (by simp only [go_sem, Nat.reduceEqDiff, reduceIte, Nat.reduceAdd, Nat.reduceMul, Nat.reduceSub, Nat.reduceLT, Nat.reduceLeDiff, Nat.reduceBEq, tkD_end]; first | done | rfl) (by decide) (by intro m hm; first | omega | (rcases m with _ | _ | _ | _ | m <;> first | exact ⟨by decide, rfl⟩ | omega)))
theorem toIntS_ac (r : List Int) (hl : r.length ≤ 1048576) : AC Try.prog 96 [intsT r] noHp 0 ⟨.t (intsT r), noHp, 0⟩ := AC.settle0 [0] (toIntSR_ac r hl) (SetC.row0 rfl rfl) rfl
structure midT (s : Sto) : Prop where
  top : s.top.length ≤ 1048576
  ll : s.levels.length ≤ 1048576
  levels : ∀ e ∈ s.levels, e.length ≤ 1048576
  sl : s.sieves.length ≤ 1048576
  sieves : ∀ e ∈ s.sieves, e.rests.length ≤ 1048576
  times : s.times.length ≤ 1048576
theorem toStore_ac (s : Sto) (h : midT s) : AC Try.prog 38 [stT s] noHp 0 ⟨.t (stT s), noHp, 0⟩ := by
  refine AC_of Try.func38 rfl Try.ntmps38 Try.results38 (by kernel_rfl) rfl ?_
  simp only [List.zipIdx, List.map, Nat.zero_add, Nat.reduceAdd]
  repeat (first | apply Aw_seq | apply Aw_block | apply Aw_skip | apply Aw_exit | refine Aw_condt rfl ?_ | refine Aw_condf rfl ?_ | (refine qr ?_; simp only [go_sem, Nat.reduceEqDiff, reduceIte, Nat.reduceAdd, Nat.reduceMul, Nat.reduceSub, Nat.reduceLT, Nat.reduceLeDiff, Nat.reduceBEq]) | (refine qd (by kernel_rfl) (by kernel_rfl) ?_; simp only [go_sem, Nat.reduceEqDiff, reduceIte, Nat.reduceAdd, Nat.reduceMul, Nat.reduceSub, Nat.reduceLT, Nat.reduceLeDiff, Nat.reduceBEq]) | refine dk (by kernel_rfl) ?_ | (refine qp (toEntryS_ac s.top h.top) (by simp only [go_sem, Nat.reduceEqDiff, reduceIte, Nat.reduceAdd, Nat.reduceMul, Nat.reduceSub, Nat.reduceLT, Nat.reduceLeDiff, Nat.reduceBEq]; first | done | rfl) rfl (by simp only [go_sem, Nat.reduceLT]) rfl rfl ?_; simp only [go_sem, Nat.reduceEqDiff, reduceIte, Nat.reduceAdd, Nat.reduceMul, Nat.reduceSub, Nat.reduceLT, Nat.reduceLeDiff, Nat.reduceBEq]) | (refine qp (toEntrySS_ac s.levels h.ll h.levels) (by simp only [go_sem, Nat.reduceEqDiff, reduceIte, Nat.reduceAdd, Nat.reduceMul, Nat.reduceSub, Nat.reduceLT, Nat.reduceLeDiff, Nat.reduceBEq]; first | done | rfl) rfl (by simp only [go_sem, Nat.reduceLT]) rfl rfl ?_; simp only [go_sem, Nat.reduceEqDiff, reduceIte, Nat.reduceAdd, Nat.reduceMul, Nat.reduceSub, Nat.reduceLT, Nat.reduceLeDiff, Nat.reduceBEq]) | (refine qp (toSieveS_ac s.sieves h.sl h.sieves) (by simp only [go_sem, Nat.reduceEqDiff, reduceIte, Nat.reduceAdd, Nat.reduceMul, Nat.reduceSub, Nat.reduceLT, Nat.reduceLeDiff, Nat.reduceBEq]; first | done | rfl) rfl (by simp only [go_sem, Nat.reduceLT]) rfl rfl ?_; simp only [go_sem, Nat.reduceEqDiff, reduceIte, Nat.reduceAdd, Nat.reduceMul, Nat.reduceSub, Nat.reduceLT, Nat.reduceLeDiff, Nat.reduceBEq]) | (refine qp (toIntS_ac s.times h.times) (by simp only [go_sem, Nat.reduceEqDiff, reduceIte, Nat.reduceAdd, Nat.reduceMul, Nat.reduceSub, Nat.reduceLT, Nat.reduceLeDiff, Nat.reduceBEq]; first | done | rfl) rfl (by simp only [go_sem, Nat.reduceLT]) rfl rfl ?_; simp only [go_sem, Nat.reduceEqDiff, reduceIte, Nat.reduceAdd, Nat.reduceMul, Nat.reduceSub, Nat.reduceLT, Nat.reduceLeDiff, Nat.reduceBEq]))
  exact Aw_ret (ret0 (.inl rfl) (by simp only [go_sem, Nat.reduceEqDiff, reduceIte, Nat.reduceAdd, Nat.reduceMul, Nat.reduceSub, Nat.reduceLT, Nat.reduceLeDiff, Nat.reduceBEq]; rfl) (by rfl) rfl)
end Go.Proofs.Ytcbhgglpgphimaa.Ab
namespace Go.Proofs.Ytcbhgglpgphimaa.Ab
set_option linter.deprecated false
set_option linter.unusedVariables false
set_option linter.unusedSimpArgs false
open Go Go.Proofs
set_option maxRecDepth 10000
set_option maxHeartbeats 8000000
set_option linter.unusedSimpArgs false
set_option linter.unusedVariables false
theorem iref (a : Int) : decide (a = a) = true := decide_eq_true rfl
theorem sref (a : ByteArray) : decide (a = a) = true := decide_eq_true rfl
theorem bref (a : Bool) : (a == a) = true := by cases a <;> rfl
theorem eqEntry_ac (e : Ent) : AC Try.prog 59 [entT e, entT e] noHp 0 ⟨.t (bT true), noHp, 0⟩ := by
  refine AC_of Try.func59 rfl Try.ntmps59 Try.results59 (by kernel_rfl) rfl ?_
  simp only [List.zipIdx, List.map, Nat.zero_add, Nat.reduceAdd]
  repeat (first | apply Aw_seq | apply Aw_block | apply Aw_skip | apply Aw_exit | refine Aw_condt rfl ?_ | refine Aw_condf rfl ?_ | (refine qr ?_; simp only [go_sem, Nat.reduceEqDiff, reduceIte, Nat.reduceAdd, Nat.reduceMul, Nat.reduceSub, Nat.reduceLT, Nat.reduceLeDiff, Nat.reduceBEq, iref, sref, bref]) | (refine qd (by kernel_rfl) (by kernel_rfl) ?_; simp only [go_sem, Nat.reduceEqDiff, reduceIte, Nat.reduceAdd, Nat.reduceMul, Nat.reduceSub, Nat.reduceLT, Nat.reduceLeDiff, Nat.reduceBEq, iref, sref, bref]) | refine dk (by kernel_rfl) ?_)
  exact Aw_ret (ret0 (.inl rfl) (by simp only [go_sem, Nat.reduceEqDiff, reduceIte, Nat.reduceAdd, Nat.reduceMul, Nat.reduceSub, Nat.reduceLT, Nat.reduceLeDiff, Nat.reduceBEq]; rfl) (by rfl) rfl)
theorem eqEntryS_ac (r : List Ent) (hl : r.length ≤ 1099511627776) : AC Try.prog 17 [runT r, runT r] noHp 0 ⟨.t (bT true), noHp, 0⟩ := by
  refine AC_of Try.func17 rfl Try.ntmps17 Try.results17 (by kernel_rfl) rfl ?_
  simp only [List.zipIdx, List.map, Nat.zero_add, Nat.reduceAdd]
  repeat (first | apply Aw_seq | apply Aw_block | apply Aw_skip | apply Aw_exit | refine Aw_condt rfl ?_ | refine Aw_condf rfl ?_ | (refine qr ?_; simp only [go_sem, Nat.reduceEqDiff, reduceIte, Nat.reduceAdd, Nat.reduceMul, Nat.reduceSub, Nat.reduceLT, Nat.reduceLeDiff, Nat.reduceBEq, iref]) | (refine qd (by kernel_rfl) (by kernel_rfl) ?_; simp only [go_sem, Nat.reduceEqDiff, reduceIte, Nat.reduceAdd, Nat.reduceMul, Nat.reduceSub, Nat.reduceLT, Nat.reduceLeDiff, Nat.reduceBEq, iref]) | refine dk (by kernel_rfl) ?_)
  refine Aw.rw (rw0 (l' := [(5, .t (iT (0 : Nat))), (1, .t (runT r)), (0, .t (runT r))]) (n' := 0) (by repeat (first | exact trivial | refine ⟨rfl, rfl, ?_⟩))) ?_
  refine Aw_loop0 (ι := { i : Nat // i ≤ r.length ∧ (True) }) (fun q => [(5, .t (iT (q.1 : Nat))), (1, .t (runT r)), (0, .t (runT r))]) (fun q => r.length - q.1) ⟨0, Nat.zero_le _, trivial⟩ ?_
  rintro ⟨i, hi, hp⟩
  dsimp only
  by_cases hlt : i < r.length
  · have h1 : (i : Int) < (r.length : Int) := by omega
    have h2 := wrap_succ hlt hl
    obtain ⟨e, hx⟩ : ∃ e, r[i]? = some e := ⟨_, List.getElem?_eq_getElem hlt⟩
    repeat (first | apply Aw_seq | apply Aw_block | apply Aw_skip | apply Aw_exit | refine Aw_condt rfl ?_ | refine Aw_condf rfl ?_ | (refine qr ?_; simp only [go_sem, Nat.reduceEqDiff, reduceIte, Nat.reduceAdd, Nat.reduceMul, Nat.reduceSub, Nat.reduceLT, Nat.reduceLeDiff, Nat.reduceBEq, h1, h2, hx, iref, sref, bref]) | (refine qd (by kernel_rfl) (by kernel_rfl) ?_; simp only [go_sem, Nat.reduceEqDiff, reduceIte, Nat.reduceAdd, Nat.reduceMul, Nat.reduceSub, Nat.reduceLT, Nat.reduceLeDiff, Nat.reduceBEq, h1, h2, hx, iref, sref, bref]) | refine dk (by kernel_rfl) ?_ | (refine qp (eqEntry_ac e) (by simp only [go_sem, Nat.reduceEqDiff, reduceIte, Nat.reduceAdd, Nat.reduceMul, Nat.reduceSub, Nat.reduceLT, Nat.reduceLeDiff, Nat.reduceBEq, h1, h2, hx, iref, sref, bref]; first | done | rfl) rfl (by simp only [go_sem, Nat.reduceLT]) rfl rfl ?_; simp only [go_sem, Nat.reduceEqDiff, reduceIte, Nat.reduceAdd, Nat.reduceMul, Nat.reduceSub, Nat.reduceLT, Nat.reduceLeDiff, Nat.reduceBEq, h1, h2, hx, iref, sref, bref]))
    exact ⟨⟨i + 1, by omega, trivial⟩, (by simp only []; omega), rw0 (by repeat (first | exact trivial | refine ⟨rfl, rfl, ?_⟩))⟩
  · have h1 : ¬ (i : Int) < (r.length : Int) := by omega
    repeat (first | apply Aw_seq | apply Aw_block | apply Aw_skip | apply Aw_exit | refine Aw_condt rfl ?_ | refine Aw_condf rfl ?_ | (refine qr ?_; simp only [go_sem, Nat.reduceEqDiff, reduceIte, Nat.reduceAdd, Nat.reduceMul, Nat.reduceSub, Nat.reduceLT, Nat.reduceLeDiff, Nat.reduceBEq, h1]) | (refine qd (by kernel_rfl) (by kernel_rfl) ?_; simp only [go_sem, Nat.reduceEqDiff, reduceIte, Nat.reduceAdd, Nat.reduceMul, Nat.reduceSub, Nat.reduceLT, Nat.reduceLeDiff, Nat.reduceBEq, h1]) | refine dk (by kernel_rfl) ?_)
    exact Aw_ret (ret0 (.inl rfl) (by simp only [go_sem, Nat.reduceEqDiff, reduceIte, Nat.reduceAdd, Nat.reduceMul, Nat.reduceSub, Nat.reduceLT, Nat.reduceLeDiff, Nat.reduceBEq]; rfl) (by rfl) rfl)
theorem eqEntrySS_ac (r : List (List Ent)) (hl : r.length ≤ 1099511627776) (he : ∀ e ∈ r, e.length ≤ 1099511627776) : AC Try.prog 64 [lvsT r, lvsT r] noHp 0 ⟨.t (bT true), noHp, 0⟩ := by
  refine AC_of Try.func64 rfl Try.ntmps64 Try.results64 (by kernel_rfl) rfl ?_
  simp only [List.zipIdx, List.map, Nat.zero_add, Nat.reduceAdd]
  repeat (first | apply Aw_seq | apply Aw_block | apply Aw_skip | apply Aw_exit | refine Aw_condt rfl ?_ | refine Aw_condf rfl ?_ | (refine qr ?_; simp only [go_sem, Nat.reduceEqDiff, reduceIte, Nat.reduceAdd, Nat.reduceMul, Nat.reduceSub, Nat.reduceLT, Nat.reduceLeDiff, Nat.reduceBEq, iref]) | (refine qd (by kernel_rfl) (by kernel_rfl) ?_; simp only [go_sem, Nat.reduceEqDiff, reduceIte, Nat.reduceAdd, Nat.reduceMul, Nat.reduceSub, Nat.reduceLT, Nat.reduceLeDiff, Nat.reduceBEq, iref]) | refine dk (by kernel_rfl) ?_)
  refine Aw.rw (rw0 (l' := [(5, .t (iT (0 : Nat))), (1, .t (lvsT r)), (0, .t (lvsT r))]) (n' := 0) (by repeat (first | exact trivial | refine ⟨rfl, rfl, ?_⟩))) ?_
  refine Aw_loop0 (ι := { i : Nat // i ≤ r.length ∧ (True) }) (fun q => [(5, .t (iT (q.1 : Nat))), (1, .t (lvsT r)), (0, .t (lvsT r))]) (fun q => r.length - q.1) ⟨0, Nat.zero_le _, trivial⟩ ?_
  rintro ⟨i, hi, hp⟩
  dsimp only
  by_cases hlt : i < r.length
  · have h1 : (i : Int) < (r.length : Int) := by omega
    have h2 := wrap_succ hlt hl
    obtain ⟨e, hx⟩ : ∃ e, r[i]? = some e := ⟨_, List.getElem?_eq_getElem hlt⟩
    repeat (first | apply Aw_seq | apply Aw_block | apply Aw_skip | apply Aw_exit | refine Aw_condt rfl ?_ | refine Aw_condf rfl ?_ | (refine qr ?_; simp only [go_sem, Nat.reduceEqDiff, reduceIte, Nat.reduceAdd, Nat.reduceMul, Nat.reduceSub, Nat.reduceLT, Nat.reduceLeDiff, Nat.reduceBEq, h1, h2, hx, iref, sref, bref]) | (refine qd (by kernel_rfl) (by kernel_rfl) ?_; simp only [go_sem, Nat.reduceEqDiff, reduceIte, Nat.reduceAdd, Nat.reduceMul, Nat.reduceSub, Nat.reduceLT, Nat.reduceLeDiff, Nat.reduceBEq, h1, h2, hx, iref, sref, bref]) | refine dk (by kernel_rfl) ?_ | (refine qp (eqEntryS_ac e (he e (List.mem_of_getElem? hx))) (by simp only [go_sem, Nat.reduceEqDiff, reduceIte, Nat.reduceAdd, Nat.reduceMul, Nat.reduceSub, Nat.reduceLT, Nat.reduceLeDiff, Nat.reduceBEq, h1, h2, hx, iref, sref, bref]; first | done | rfl) rfl (by simp only [go_sem, Nat.reduceLT]) rfl rfl ?_; simp only [go_sem, Nat.reduceEqDiff, reduceIte, Nat.reduceAdd, Nat.reduceMul, Nat.reduceSub, Nat.reduceLT, Nat.reduceLeDiff, Nat.reduceBEq, h1, h2, hx, iref, sref, bref]))
    exact ⟨⟨i + 1, by omega, trivial⟩, (by simp only []; omega), rw0 (by repeat (first | exact trivial | refine ⟨rfl, rfl, ?_⟩))⟩
  · have h1 : ¬ (i : Int) < (r.length : Int) := by omega
    repeat (first | apply Aw_seq | apply Aw_block | apply Aw_skip | apply Aw_exit | refine Aw_condt rfl ?_ | refine Aw_condf rfl ?_ | (refine qr ?_; simp only [go_sem, Nat.reduceEqDiff, reduceIte, Nat.reduceAdd, Nat.reduceMul, Nat.reduceSub, Nat.reduceLT, Nat.reduceLeDiff, Nat.reduceBEq, h1]) | (refine qd (by kernel_rfl) (by kernel_rfl) ?_; simp only [go_sem, Nat.reduceEqDiff, reduceIte, Nat.reduceAdd, Nat.reduceMul, Nat.reduceSub, Nat.reduceLT, Nat.reduceLeDiff, Nat.reduceBEq, h1]) | refine dk (by kernel_rfl) ?_)
    exact Aw_ret (ret0 (.inl rfl) (by simp only [go_sem, Nat.reduceEqDiff, reduceIte, Nat.reduceAdd, Nat.reduceMul, Nat.reduceSub, Nat.reduceLT, Nat.reduceLeDiff, Nat.reduceBEq]; rfl) (by rfl) rfl)
theorem eqStringS_ac (r : List ByteArray) (hl : r.length ≤ 1099511627776) : AC Try.prog 150 [strsT r, strsT r] noHp 0 ⟨.t (bT true), noHp, 0⟩ := by
  refine AC_of Try.func150 rfl Try.ntmps150 Try.results150 (by kernel_rfl) rfl ?_
  simp only [List.zipIdx, List.map, Nat.zero_add, Nat.reduceAdd]
  repeat (first | apply Aw_seq | apply Aw_block | apply Aw_skip | apply Aw_exit | refine Aw_condt rfl ?_ | refine Aw_condf rfl ?_ | (refine qr ?_; simp only [go_sem, Nat.reduceEqDiff, reduceIte, Nat.reduceAdd, Nat.reduceMul, Nat.reduceSub, Nat.reduceLT, Nat.reduceLeDiff, Nat.reduceBEq, iref]) | (refine qd (by kernel_rfl) (by kernel_rfl) ?_; simp only [go_sem, Nat.reduceEqDiff, reduceIte, Nat.reduceAdd, Nat.reduceMul, Nat.reduceSub, Nat.reduceLT, Nat.reduceLeDiff, Nat.reduceBEq, iref]) | refine dk (by kernel_rfl) ?_)
  refine Aw.rw (rw0 (l' := [(5, .t (iT (0 : Nat))), (1, .t (strsT r)), (0, .t (strsT r))]) (n' := 0) (by repeat (first | exact trivial | refine ⟨rfl, rfl, ?_⟩))) ?_
  refine Aw_loop0 (ι := { i : Nat // i ≤ r.length ∧ (True) }) (fun q => [(5, .t (iT (q.1 : Nat))), (1, .t (strsT r)), (0, .t (strsT r))]) (fun q => r.length - q.1) ⟨0, Nat.zero_le _, trivial⟩ ?_
  rintro ⟨i, hi, hp⟩
  dsimp only
  by_cases hlt : i < r.length
  · have h1 : (i : Int) < (r.length : Int) := by omega
    have h2 := wrap_succ hlt hl
    obtain ⟨e, hx⟩ : ∃ e, r[i]? = some e := ⟨_, List.getElem?_eq_getElem hlt⟩
    repeat (first | apply Aw_seq | apply Aw_block | apply Aw_skip | apply Aw_exit | refine Aw_condt rfl ?_ | refine Aw_condf rfl ?_ | (refine qr ?_; simp only [go_sem, Nat.reduceEqDiff, reduceIte, Nat.reduceAdd, Nat.reduceMul, Nat.reduceSub, Nat.reduceLT, Nat.reduceLeDiff, Nat.reduceBEq, h1, h2, hx, iref, sref, bref]) | (refine qd (by kernel_rfl) (by kernel_rfl) ?_; simp only [go_sem, Nat.reduceEqDiff, reduceIte, Nat.reduceAdd, Nat.reduceMul, Nat.reduceSub, Nat.reduceLT, Nat.reduceLeDiff, Nat.reduceBEq, h1, h2, hx, iref, sref, bref]) | refine dk (by kernel_rfl) ?_)
    exact ⟨⟨i + 1, by omega, trivial⟩, (by simp only []; omega), rw0 (by repeat (first | exact trivial | refine ⟨rfl, rfl, ?_⟩))⟩
  · have h1 : ¬ (i : Int) < (r.length : Int) := by omega
    repeat (first | apply Aw_seq | apply Aw_block | apply Aw_skip | apply Aw_exit | refine Aw_condt rfl ?_ | refine Aw_condf rfl ?_ | (refine qr ?_; simp only [go_sem, Nat.reduceEqDiff, reduceIte, Nat.reduceAdd, Nat.reduceMul, Nat.reduceSub, Nat.reduceLT, Nat.reduceLeDiff, Nat.reduceBEq, h1]) | (refine qd (by kernel_rfl) (by kernel_rfl) ?_; simp only [go_sem, Nat.reduceEqDiff, reduceIte, Nat.reduceAdd, Nat.reduceMul, Nat.reduceSub, Nat.reduceLT, Nat.reduceLeDiff, Nat.reduceBEq, h1]) | refine dk (by kernel_rfl) ?_)
    exact Aw_ret (ret0 (.inl rfl) (by simp only [go_sem, Nat.reduceEqDiff, reduceIte, Nat.reduceAdd, Nat.reduceMul, Nat.reduceSub, Nat.reduceLT, Nat.reduceLeDiff, Nat.reduceBEq]; rfl) (by rfl) rfl)
theorem eqSieve_ac (s : Sve) (hl : s.rests.length ≤ 1099511627776) : AC Try.prog 119 [sveP s, sveP s] noHp 0 ⟨.t (bT true), noHp, 0⟩ := by
  refine AC_of Try.func119 rfl Try.ntmps119 Try.results119 (by kernel_rfl) rfl ?_
  simp only [List.zipIdx, List.map, Nat.zero_add, Nat.reduceAdd]
  repeat (first | apply Aw_seq | apply Aw_block | apply Aw_skip | apply Aw_exit | refine Aw_condt rfl ?_ | refine Aw_condf rfl ?_ | (refine qr ?_; simp only [go_sem, Nat.reduceEqDiff, reduceIte, Nat.reduceAdd, Nat.reduceMul, Nat.reduceSub, Nat.reduceLT, Nat.reduceLeDiff, Nat.reduceBEq, iref, sref, bref]) | (refine qd (by kernel_rfl) (by kernel_rfl) ?_; simp only [go_sem, Nat.reduceEqDiff, reduceIte, Nat.reduceAdd, Nat.reduceMul, Nat.reduceSub, Nat.reduceLT, Nat.reduceLeDiff, Nat.reduceBEq, iref, sref, bref]) | refine dk (by kernel_rfl) ?_ | (refine qp (eqStringS_ac s.rests hl) (by simp only [go_sem, Nat.reduceEqDiff, reduceIte, Nat.reduceAdd, Nat.reduceMul, Nat.reduceSub, Nat.reduceLT, Nat.reduceLeDiff, Nat.reduceBEq, iref, sref, bref]; first | done | rfl) rfl (by simp only [go_sem, Nat.reduceLT]) rfl rfl ?_; simp only [go_sem, Nat.reduceEqDiff, reduceIte, Nat.reduceAdd, Nat.reduceMul, Nat.reduceSub, Nat.reduceLT, Nat.reduceLeDiff, Nat.reduceBEq, iref, sref, bref]))
  exact Aw_ret (ret0 (.inl rfl) (by simp only [go_sem, Nat.reduceEqDiff, reduceIte, Nat.reduceAdd, Nat.reduceMul, Nat.reduceSub, Nat.reduceLT, Nat.reduceLeDiff, Nat.reduceBEq]; rfl) (by rfl) rfl)
theorem eqSieveS_ac (r : List Sve) (hl : r.length ≤ 1099511627776) (he : ∀ e ∈ r, e.rests.length ≤ 1099511627776) : AC Try.prog 65 [svsT r, svsT r] noHp 0 ⟨.t (bT true), noHp, 0⟩ := by
  refine AC_of Try.func65 rfl Try.ntmps65 Try.results65 (by kernel_rfl) rfl ?_
  simp only [List.zipIdx, List.map, Nat.zero_add, Nat.reduceAdd]
  repeat (first | apply Aw_seq | apply Aw_block | apply Aw_skip | apply Aw_exit | refine Aw_condt rfl ?_ | refine Aw_condf rfl ?_ | (refine qr ?_; simp only [go_sem, Nat.reduceEqDiff, reduceIte, Nat.reduceAdd, Nat.reduceMul, Nat.reduceSub, Nat.reduceLT, Nat.reduceLeDiff, Nat.reduceBEq, iref]) | (refine qd (by kernel_rfl) (by kernel_rfl) ?_; simp only [go_sem, Nat.reduceEqDiff, reduceIte, Nat.reduceAdd, Nat.reduceMul, Nat.reduceSub, Nat.reduceLT, Nat.reduceLeDiff, Nat.reduceBEq, iref]) | refine dk (by kernel_rfl) ?_)
  refine Aw.rw (rw0 (l' := [(5, .t (iT (0 : Nat))), (1, .t (svsT r)), (0, .t (svsT r))]) (n' := 0) (by repeat (first | exact trivial | refine ⟨rfl, rfl, ?_⟩))) ?_
  refine Aw_loop0 (ι := { i : Nat // i ≤ r.length ∧ (True) }) (fun q => [(5, .t (iT (q.1 : Nat))), (1, .t (svsT r)), (0, .t (svsT r))]) (fun q => r.length - q.1) ⟨0, Nat.zero_le _, trivial⟩ ?_
  rintro ⟨i, hi, hp⟩
  dsimp only
  by_cases hlt : i < r.length
  · have h1 : (i : Int) < (r.length : Int) := by omega
    have h2 := wrap_succ hlt hl
    obtain ⟨e, hx⟩ : ∃ e, r[i]? = some e := ⟨_, List.getElem?_eq_getElem hlt⟩
    repeat (first | apply Aw_seq | apply Aw_block | apply Aw_skip | apply Aw_exit | refine Aw_condt rfl ?_ | refine Aw_condf rfl ?_ | (refine qr ?_; simp only [go_sem, Nat.reduceEqDiff, reduceIte, Nat.reduceAdd, Nat.reduceMul, Nat.reduceSub, Nat.reduceLT, Nat.reduceLeDiff, Nat.reduceBEq, h1, h2, hx, iref, sref, bref]) | (refine qd (by kernel_rfl) (by kernel_rfl) ?_; simp only [go_sem, Nat.reduceEqDiff, reduceIte, Nat.reduceAdd, Nat.reduceMul, Nat.reduceSub, Nat.reduceLT, Nat.reduceLeDiff, Nat.reduceBEq, h1, h2, hx, iref, sref, bref]) | refine dk (by kernel_rfl) ?_ | (refine qp (eqSieve_ac e (he e (List.mem_of_getElem? hx))) (by simp only [go_sem, Nat.reduceEqDiff, reduceIte, Nat.reduceAdd, Nat.reduceMul, Nat.reduceSub, Nat.reduceLT, Nat.reduceLeDiff, Nat.reduceBEq, h1, h2, hx, iref, sref, bref]; first | done | rfl) rfl (by simp only [go_sem, Nat.reduceLT]) rfl rfl ?_; simp only [go_sem, Nat.reduceEqDiff, reduceIte, Nat.reduceAdd, Nat.reduceMul, Nat.reduceSub, Nat.reduceLT, Nat.reduceLeDiff, Nat.reduceBEq, h1, h2, hx, iref, sref, bref]))
    exact ⟨⟨i + 1, by omega, trivial⟩, (by simp only []; omega), rw0 (by repeat (first | exact trivial | refine ⟨rfl, rfl, ?_⟩))⟩
  · have h1 : ¬ (i : Int) < (r.length : Int) := by omega
    repeat (first | apply Aw_seq | apply Aw_block | apply Aw_skip | apply Aw_exit | refine Aw_condt rfl ?_ | refine Aw_condf rfl ?_ | (refine qr ?_; simp only [go_sem, Nat.reduceEqDiff, reduceIte, Nat.reduceAdd, Nat.reduceMul, Nat.reduceSub, Nat.reduceLT, Nat.reduceLeDiff, Nat.reduceBEq, h1]) | (refine qd (by kernel_rfl) (by kernel_rfl) ?_; simp only [go_sem, Nat.reduceEqDiff, reduceIte, Nat.reduceAdd, Nat.reduceMul, Nat.reduceSub, Nat.reduceLT, Nat.reduceLeDiff, Nat.reduceBEq, h1]) | refine dk (by kernel_rfl) ?_)
    exact Aw_ret (ret0 (.inl rfl) (by simp only [go_sem, Nat.reduceEqDiff, reduceIte, Nat.reduceAdd, Nat.reduceMul, Nat.reduceSub, Nat.reduceLT, Nat.reduceLeDiff, Nat.reduceBEq]; rfl) (by rfl) rfl)
theorem eqIntS_ac (r : List Int) (hl : r.length ≤ 1099511627776) : AC Try.prog 66 [intsT r, intsT r] noHp 0 ⟨.t (bT true), noHp, 0⟩ := by
  refine AC_of Try.func66 rfl Try.ntmps66 Try.results66 (by kernel_rfl) rfl ?_
  simp only [List.zipIdx, List.map, Nat.zero_add, Nat.reduceAdd]
  repeat (first | apply Aw_seq | apply Aw_block | apply Aw_skip | apply Aw_exit | refine Aw_condt rfl ?_ | refine Aw_condf rfl ?_ | (refine qr ?_; simp only [go_sem, Nat.reduceEqDiff, reduceIte, Nat.reduceAdd, Nat.reduceMul, Nat.reduceSub, Nat.reduceLT, Nat.reduceLeDiff, Nat.reduceBEq, iref]) | (refine qd (by kernel_rfl) (by kernel_rfl) ?_; simp only [go_sem, Nat.reduceEqDiff, reduceIte, Nat.reduceAdd, Nat.reduceMul, Nat.reduceSub, Nat.reduceLT, Nat.reduceLeDiff, Nat.reduceBEq, iref]) | refine dk (by kernel_rfl) ?_)
  refine Aw.rw (rw0 (l' := [(5, .t (iT (0 : Nat))), (1, .t (intsT r)), (0, .t (intsT r))]) (n' := 0) (by repeat (first | exact trivial | refine ⟨rfl, rfl, ?_⟩))) ?_
  refine Aw_loop0 (ι := { i : Nat // i ≤ r.length ∧ (True) }) (fun q => [(5, .t (iT (q.1 : Nat))), (1, .t (intsT r)), (0, .t (intsT r))]) (fun q => r.length - q.1) ⟨0, Nat.zero_le _, trivial⟩ ?_
  rintro ⟨i, hi, hp⟩
  dsimp only
  by_cases hlt : i < r.length
  · have h1 : (i : Int) < (r.length : Int) := by omega
    have h2 := wrap_succ hlt hl
    obtain ⟨e, hx⟩ : ∃ e, r[i]? = some e := ⟨_, List.getElem?_eq_getElem hlt⟩
    repeat (first | apply Aw_seq | apply Aw_block | apply Aw_skip | apply Aw_exit | refine Aw_condt rfl ?_ | refine Aw_condf rfl ?_ | (refine qr ?_; simp only [go_sem, Nat.reduceEqDiff, reduceIte, Nat.reduceAdd, Nat.reduceMul, Nat.reduceSub, Nat.reduceLT, Nat.reduceLeDiff, Nat.reduceBEq, h1, h2, hx, iref, sref, bref]) | (refine qd (by kernel_rfl) (by kernel_rfl) ?_; simp only [go_sem, Nat.reduceEqDiff, reduceIte, Nat.reduceAdd, Nat.reduceMul, Nat.reduceSub, Nat.reduceLT, Nat.reduceLeDiff, Nat.reduceBEq, h1, h2, hx, iref, sref, bref]) | refine dk (by kernel_rfl) ?_)
    exact ⟨⟨i + 1, by omega, trivial⟩, (by simp only []; omega), rw0 (by repeat (first | exact trivial | refine ⟨rfl, rfl, ?_⟩))⟩
  · have h1 : ¬ (i : Int) < (r.length : Int) := by omega
    repeat (first | apply Aw_seq | apply Aw_block | apply Aw_skip | apply Aw_exit | refine Aw_condt rfl ?_ | refine Aw_condf rfl ?_ | (refine qr ?_; simp only [go_sem, Nat.reduceEqDiff, reduceIte, Nat.reduceAdd, Nat.reduceMul, Nat.reduceSub, Nat.reduceLT, Nat.reduceLeDiff, Nat.reduceBEq, h1]) | (refine qd (by kernel_rfl) (by kernel_rfl) ?_; simp only [go_sem, Nat.reduceEqDiff, reduceIte, Nat.reduceAdd, Nat.reduceMul, Nat.reduceSub, Nat.reduceLT, Nat.reduceLeDiff, Nat.reduceBEq, h1]) | refine dk (by kernel_rfl) ?_)
    exact Aw_ret (ret0 (.inl rfl) (by simp only [go_sem, Nat.reduceEqDiff, reduceIte, Nat.reduceAdd, Nat.reduceMul, Nat.reduceSub, Nat.reduceLT, Nat.reduceLeDiff, Nat.reduceBEq]; rfl) (by rfl) rfl)
structure farT (s : Sto) : Prop where
  top : s.top.length ≤ 1099511627776
  ll : s.levels.length ≤ 1099511627776
  levels : ∀ e ∈ s.levels, e.length ≤ 1099511627776
  sl : s.sieves.length ≤ 1099511627776
  sieves : ∀ e ∈ s.sieves, e.rests.length ≤ 1099511627776
  times : s.times.length ≤ 1099511627776
theorem midT.far {s : Sto} (h : midT s) : farT s := ⟨by have := h.top; omega, by have := h.ll; omega, fun e he => by have := h.levels e he; omega, by have := h.sl; omega, fun e he => by have := h.sieves e he; omega, by have := h.times; omega⟩
theorem eqStore_ac (s : Sto) (h : farT s) : AC Try.prog 22 [stT s, stT s] noHp 0 ⟨.t (bT true), noHp, 0⟩ := by
  refine AC_of Try.func22 rfl Try.ntmps22 Try.results22 (by kernel_rfl) rfl ?_
  simp only [List.zipIdx, List.map, Nat.zero_add, Nat.reduceAdd]
  repeat (first | apply Aw_seq | apply Aw_block | apply Aw_skip | apply Aw_exit | refine Aw_condt rfl ?_ | refine Aw_condf rfl ?_ | (refine qr ?_; simp only [go_sem, Nat.reduceEqDiff, reduceIte, Nat.reduceAdd, Nat.reduceMul, Nat.reduceSub, Nat.reduceLT, Nat.reduceLeDiff, Nat.reduceBEq, iref, sref, bref]) | (refine qd (by kernel_rfl) (by kernel_rfl) ?_; simp only [go_sem, Nat.reduceEqDiff, reduceIte, Nat.reduceAdd, Nat.reduceMul, Nat.reduceSub, Nat.reduceLT, Nat.reduceLeDiff, Nat.reduceBEq, iref, sref, bref]) | refine dk (by kernel_rfl) ?_ | (refine qp (eqEntryS_ac s.top h.top) (by simp only [go_sem, Nat.reduceEqDiff, reduceIte, Nat.reduceAdd, Nat.reduceMul, Nat.reduceSub, Nat.reduceLT, Nat.reduceLeDiff, Nat.reduceBEq, iref, sref, bref]; first | done | rfl) rfl (by simp only [go_sem, Nat.reduceLT]) rfl rfl ?_; simp only [go_sem, Nat.reduceEqDiff, reduceIte, Nat.reduceAdd, Nat.reduceMul, Nat.reduceSub, Nat.reduceLT, Nat.reduceLeDiff, Nat.reduceBEq, iref, sref, bref]) | (refine qp (eqEntrySS_ac s.levels h.ll h.levels) (by simp only [go_sem, Nat.reduceEqDiff, reduceIte, Nat.reduceAdd, Nat.reduceMul, Nat.reduceSub, Nat.reduceLT, Nat.reduceLeDiff, Nat.reduceBEq, iref, sref, bref]; first | done | rfl) rfl (by simp only [go_sem, Nat.reduceLT]) rfl rfl ?_; simp only [go_sem, Nat.reduceEqDiff, reduceIte, Nat.reduceAdd, Nat.reduceMul, Nat.reduceSub, Nat.reduceLT, Nat.reduceLeDiff, Nat.reduceBEq, iref, sref, bref]) | (refine qp (eqSieveS_ac s.sieves h.sl h.sieves) (by simp only [go_sem, Nat.reduceEqDiff, reduceIte, Nat.reduceAdd, Nat.reduceMul, Nat.reduceSub, Nat.reduceLT, Nat.reduceLeDiff, Nat.reduceBEq, iref, sref, bref]; first | done | rfl) rfl (by simp only [go_sem, Nat.reduceLT]) rfl rfl ?_; simp only [go_sem, Nat.reduceEqDiff, reduceIte, Nat.reduceAdd, Nat.reduceMul, Nat.reduceSub, Nat.reduceLT, Nat.reduceLeDiff, Nat.reduceBEq, iref, sref, bref]) | (refine qp (eqIntS_ac s.times h.times) (by simp only [go_sem, Nat.reduceEqDiff, reduceIte, Nat.reduceAdd, Nat.reduceMul, Nat.reduceSub, Nat.reduceLT, Nat.reduceLeDiff, Nat.reduceBEq, iref, sref, bref]; first | done | rfl) rfl (by simp only [go_sem, Nat.reduceLT]) rfl rfl ?_; simp only [go_sem, Nat.reduceEqDiff, reduceIte, Nat.reduceAdd, Nat.reduceMul, Nat.reduceSub, Nat.reduceLT, Nat.reduceLeDiff, Nat.reduceBEq, iref, sref, bref]))
  exact Aw_ret (ret0 (.inl rfl) (by simp only [go_sem, Nat.reduceEqDiff, reduceIte, Nat.reduceAdd, Nat.reduceMul, Nat.reduceSub, Nat.reduceLT, Nat.reduceLeDiff, Nat.reduceBEq]; rfl) (by rfl) rfl)
theorem wS_mem {α : Type} {f : α → Nat} {xs : List α} {x : α} (h : x ∈ xs) : f x ≤ wS f xs := by
  unfold wS
  have : ∀ ys : List Nat, ∀ y ∈ ys, y ≤ ys.sum := fun ys => by
    induction ys with
    | nil => intro y hy; simp at hy
    | cons a r ih => intro y hy; rcases List.mem_cons.1 hy with rfl | hy; simp; have := ih y hy; simp; omega
  have := this (xs.map f) (f x) (List.mem_map.2 ⟨x, h, rfl⟩)
  omega
theorem wS_len {α : Type} {f : α → Nat} {xs : List α} : xs.length ≤ wS f xs := by unfold wS; omega
theorem wRun_smR {r : List Ent} {n : Nat} (h : wRun r ≤ n) (hn : n ≤ 1048576) : SmR r := ⟨by have := wS_len (f := wEnt) (xs := r); unfold wRun at h; omega, fun e he => by have := wS_mem (f := wEnt) he; unfold wRun at h; unfold wEnt at this; unfold smK; unfold wEnt at h; omega⟩
theorem w_mid {s : Sto} (h : wSto s ≤ 1048576) : midT s := by
  unfold wSto at h
  refine ⟨?_, ?_, fun e he => ?_, ?_, fun e he => ?_, ?_⟩
  · have := wS_len (f := wEnt) (xs := s.top); unfold wRun at h; omega
  · have := wS_len (f := wRun) (xs := s.levels); omega
  · have := wS_mem (f := wRun) he; have h2 := wS_len (f := wEnt) (xs := e); unfold wRun at this h; omega
  · have := wS_len (f := wSve) (xs := s.sieves); omega
  · have := wS_mem (f := wSve) he; have h2 := wS_len (f := ByteArray.size) (xs := e.rests); unfold wSve at this h; omega
  · omega
end Go.Proofs.Ytcbhgglpgphimaa.Ab
namespace Go.Proofs.Ytcbhgglpgphimaa.Ab
set_option linter.deprecated false
set_option linter.unusedVariables false
set_option linter.unusedSimpArgs false
open Go Go.Proofs
set_option linter.unusedSimpArgs false
set_option linter.unusedVariables false
inductive NilD : D → D → Prop
  | refl (x : D) : NilD x x
  | nil (k : Nat) : NilD (.s (.slice none 0 0)) (.rs k [])
  | rs {k : Nat} {els els' : List (List D)} (hl : els.length = els'.length) (hk : ∀ (i : Nat) cs cs', els[i]? = some cs → els'[i]? = some cs' → cs.length = cs'.length) (h : ∀ (i j : Nat) cs cs' x y, els[i]? = some cs → els'[i]? = some cs' → cs[j]? = some x → cs'[j]? = some y → NilD x y) : NilD (.rs k els) (.rs k els')
theorem NilD.rep {w : World} {S : Nat → Prop} {x y : D} (h : NilD x y) : ∀ {v : Value}, RepD w S x v → RepD w S y v := by
  induction h with
  | refl x => exact fun h => h
  | nil k =>
    intro v h
    cases h
    exact .rs (A := none) (cap := 0) (fun _ _ => .bool false) (Nat.le_refl _) (Nat.zero_le _) (by simp) (fun i j hi => absurd hi (by simp)) (fun i j cs x hi => by simp at hi)
  | @rs k els els' hl hk h ih =>
    intro v hv
    cases hv with
    | rs vals l1 l2 l3 l4 l5 =>
      rw [hl] at l1 ⊢
      refine .rs vals l1 l2 (fun cs' hcs => ?_) (fun i j hi hj => l4 i j (by omega) hj) (fun i j cs' y hi hj => ?_)
      · obtain ⟨i, hi⟩ := List.mem_iff_getElem?.1 hcs
        have hil := (List.getElem?_eq_some_iff.1 hi).1
        have h1 : els[i]? = some els[i] := List.getElem?_eq_getElem (by omega)
        rw [← hk i _ _ h1 hi]; exact l3 _ (List.mem_of_getElem? h1)
      · have hil := (List.getElem?_eq_some_iff.1 hi).1
        have h1 : els[i]? = some els[i] := List.getElem?_eq_getElem (by omega)
        have hjl := (List.getElem?_eq_some_iff.1 hj).1
        have h2 := hk i _ _ h1 hi
        have h3 : els[i][j]? = some (els[i][j]'(by omega)) := List.getElem?_eq_getElem (by omega)
        exact ih i j _ _ _ _ h1 hi h3 hj (l5 i j _ _ h1 h3)
def NilC (x y : CV) : Prop := x = y ∨ ∃ a b, x = .d a ∧ y = .d b ∧ NilD a b
def NilT : TV → TV → Prop
  | .c x, .c y => NilC x y
  | .agg xs, .agg ys => All2 NilC xs ys
  | _, _ => False
def NilA : AV → AV → Prop
  | .t x, .t y => NilT x y
  | .tup xs, .tup ys => All2 NilT xs ys
  | _, _ => False
theorem NilC.rep {c : Cx} {x y : CV} (h : NilC x y) {v : Value} (hr : RepC c x v) : RepC c y v := by
  rcases h with rfl | ⟨a, b, rfl, rfl, h⟩
  · exact hr
  · exact h.rep hr
theorem NilT.rep {c : Cx} {x y : TV} (h : NilT x y) {v : Value} (hr : RepT c x v) : RepT c y v := by
  cases x with
  | c x => cases y with
    | c y => exact NilC.rep h hr
    | agg _ => exact h.elim
  | agg xs => cases y with
    | c _ => exact h.elim
    | agg ys =>
      obtain ⟨vs, e, hv⟩ := hr
      exact ⟨vs, e, all2_rep (R := NilC) (T' := RepC c) (fun _ _ _ h1 h2 => NilC.rep h1 h2) h hv⟩
theorem NilA.rep {c : Cx} {x y : AV} (h : NilA x y) {v : Value} (hr : RepA c x v) : RepA c y v := by
  cases x with
  | dead => cases y <;> exact h.elim
  | t x => cases y with
    | t y => exact NilT.rep h hr
    | _ => exact h.elim
  | tup xs => cases y with
    | tup ys =>
      obtain ⟨vs, e, hv⟩ := hr
      exact ⟨vs, e, all2_rep (R := NilT) (T' := RepT c) (fun _ _ _ h1 h2 => NilT.rep h1 h2) h hv⟩
    | _ => exact h.elim
theorem AC.nilR {P : Program} {f : FuncId} {args : List TV} {hp hp' : Hp} {k n : Nat} {x y : AV} (h : AC P f args hp k ⟨x, hp', n⟩) (hx : NilA x y) : AC P f args hp k ⟨y, hp', n⟩ :=
  ⟨h.1, fun c vs g hU hA => Calls.mono (h.2 c vs g hU hA) fun e w' ⟨v, c', h1, h2, h3, h4, h5, h6⟩ => ⟨v, c', h1, h2, h3, h4, hx.rep h5, h6⟩⟩
theorem AC.nilL {P : Program} {f : FuncId} {args args' : List TV} {hp : Hp} {k : Nat} {out : Out} (h : AC P f args' hp k out) (hx : All2 NilT args args') : AC P f args hp k out :=
  ⟨h.1, fun c vs g hU hA => h.2 c vs g hU (all2_rep (R := NilT) (T' := RepT c) (fun _ _ _ h1 h2 => NilT.rep h1 h2) hx hA)⟩
theorem NilT.refl (x : TV) : NilT x x := by
  cases x with
  | c x => exact .inl rfl
  | agg xs => exact All2.of_get rfl fun i a b ha hb => by rw [ha] at hb; exact .inl (Option.some.inj hb)
theorem NilC.nil (k : Nat) : NilC (.d (.s (.slice none 0 0))) (.d (.rs k [])) := .inr ⟨_, _, rfl, rfl, .nil k⟩
theorem nil3 (k : Nat) : NilC (.d (.rs 1 [[.s (.slice none 0 0)], [.s (.slice none 0 0)], [.s (.slice none 0 0)]])) (.d (.rs 1 [[.rs k []], [.rs k []], [.rs k []]])) :=
  .inr ⟨_, _, rfl, rfl, .rs rfl (fun i cs cs' h h' => by
    rcases i with _ | _ | _ | i <;> simp at h h' <;> subst h h' <;> rfl) (fun i j cs cs' x y h h' hx hy => by
    rcases i with _ | _ | _ | i <;> simp at h h' <;> subst h h' <;> (rcases j with _ | j <;> simp at hx hy <;> subst hx hy <;> exact .nil k))⟩
end Go.Proofs.Ytcbhgglpgphimaa.Ab
namespace Go.Proofs.Ytcbhgglpgphimaa.Ab
set_option linter.deprecated false
set_option linter.unusedVariables false
set_option linter.unusedSimpArgs false
open Go Go.Proofs
set_option maxRecDepth 10000
set_option maxHeartbeats 8000000
set_option linter.unusedSimpArgs false
set_option linter.unusedVariables false
def eSve (keep : Int) : Sve := ⟨zs, zs, zs, [], keep⟩
def eSto (keep : Int) : Sto := ⟨[], [[], [], []], [eSve keep, eSve keep, eSve keep], keep, 0, []⟩
def zSto : Sto := ⟨[], [], [], 0, 0, []⟩
theorem fork0 : Fork ([], 0) := ⟨by omega, .nil, by simp, by simp⟩
theorem subB {l L : List Nat} (h : l.all L.contains = true) : ∀ m ∈ l, m ∈ L := fun m hm => by simpa using List.all_eq_true.1 h m hm
theorem bfs0 (keep : Nat) : bfsF keep [([], 0)] = ⟨[], [], [], [], []⟩ := by
  have hn : node keep ([], 0) = zPut := by unfold node; rw [spl_nil]; rfl
  rw [bfsF_cons (by intro g hg; obtain rfl : g = ([], 0) := by simpa using hg
                    exact fork0), hn]
  rfl
theorem sieve0_ac (keep : Nat) (hk : keep ≤ 5) : AC Try.prog 63 [.c (.d (.s (.slice none 0 0))), iT keep] noHp 0 ⟨.t (.agg [.d (.s (.string zs)), .d (.s (.string zs)), .d (.s (.string zs)), .d (.rs 1 []), .d (.s (.int .i64 keep))]), noHp, 0⟩ := by
  have h := sieveOf_ac [] keep fork0 (by simp) hk
  rw [bfs0] at h
  exact AC.nilL (AC.settle0 [0] h (.cons (.inl rfl) (.cons (.inl rfl) (.cons (.inl rfl) (.cons (SetC.row0 rfl rfl) (.cons (.inl rfl) .nil))))) rfl) (.cons (NilC.nil 1) (.cons (NilT.refl _) .nil))
theorem storeNew_no (keep : Int) (hk : inB 0 keep 5 = false) : AC Try.prog 21 [iT keep] noHp 0 ⟨.tup [stT zSto, bT false], noHp, 0⟩ := by
  refine AC.nilR (x := .tup [.agg [.d (.s (.slice none 0 0)), .d (.s (.slice none 0 0)), .d (.s (.slice none 0 0)), .d (.s (.int .i64 0)), .d (.s (.int .i64 0)), .d (.s (.slice none 0 0))], bT false]) ?_ (.cons (.cons (NilC.nil _) (.cons (NilC.nil _) (.cons (NilC.nil _) (.cons (.inl rfl) (.cons (.inl rfl) (.cons (NilC.nil _) .nil)))))) (.cons (NilT.refl _) .nil))
  refine AC_of Try.func21 rfl Try.ntmps21 Try.results21 (by kernel_rfl) rfl ?_
  simp only [List.zipIdx, List.map, Nat.zero_add, Nat.reduceAdd]
  repeat (first | apply Aw_seq | apply Aw_block | apply Aw_skip | apply Aw_exit | refine Aw_condt rfl ?_ | refine Aw_condf rfl ?_ | (refine qr ?_; simp only [go_sem, Nat.reduceEqDiff, reduceIte, Nat.reduceAdd, Nat.reduceMul, Nat.reduceSub, Nat.reduceLT, Nat.reduceLeDiff, Nat.reduceBEq, hk]) | (refine qd (by kernel_rfl) (by kernel_rfl) ?_; simp only [go_sem, Nat.reduceEqDiff, reduceIte, Nat.reduceAdd, Nat.reduceMul, Nat.reduceSub, Nat.reduceLT, Nat.reduceLeDiff, Nat.reduceBEq, hk]) | refine dk (by kernel_rfl) ?_ | (refine qp (isKeep_ac _) (by simp only [go_sem, Nat.reduceEqDiff, reduceIte, Nat.reduceAdd, Nat.reduceMul, Nat.reduceSub, Nat.reduceLT, Nat.reduceLeDiff, Nat.reduceBEq, hk]; first | done | rfl) rfl (by simp only [go_sem, Nat.reduceLT]) rfl rfl ?_; simp only [go_sem, Nat.reduceEqDiff, reduceIte, Nat.reduceAdd, Nat.reduceMul, Nat.reduceSub, Nat.reduceLT, Nat.reduceLeDiff, Nat.reduceBEq, hk]))
  exact Aw_ret (ret0 (.inl rfl) (by simp only [go_sem, Nat.reduceEqDiff, reduceIte, Nat.reduceAdd, Nat.reduceMul, Nat.reduceSub, Nat.reduceLT, Nat.reduceLeDiff, Nat.reduceBEq]; rfl) (by rfl) rfl)
theorem sstoreNew_no (keep : Int) (hk : inB 0 keep 5 = false) : AC Try.prog 20 [iT keep] noHp 0 ⟨.tup [stT zSto, bT false], noHp, 0⟩ := by
  refine AC.nilR (x := .tup [.agg [.d (.s (.slice none 0 0)), .d (.s (.slice none 0 0)), .d (.s (.slice none 0 0)), .d (.s (.int .i64 0)), .d (.s (.int .i64 0)), .d (.s (.slice none 0 0))], bT false]) ?_ (.cons (.cons (NilC.nil _) (.cons (NilC.nil _) (.cons (NilC.nil _) (.cons (.inl rfl) (.cons (.inl rfl) (.cons (NilC.nil _) .nil)))))) (.cons (NilT.refl _) .nil))
  refine AC_of Try.func20 rfl Try.ntmps20 Try.results20 (by kernel_rfl) rfl ?_
  simp only [List.zipIdx, List.map, Nat.zero_add, Nat.reduceAdd]
  repeat (first | apply Aw_seq | apply Aw_block | apply Aw_skip | apply Aw_exit | refine Aw_condt rfl ?_ | refine Aw_condf rfl ?_ | (refine qr ?_; simp only [go_sem, Nat.reduceEqDiff, reduceIte, Nat.reduceAdd, Nat.reduceMul, Nat.reduceSub, Nat.reduceLT, Nat.reduceLeDiff, Nat.reduceBEq, hk]) | (refine qd (by kernel_rfl) (by kernel_rfl) ?_; simp only [go_sem, Nat.reduceEqDiff, reduceIte, Nat.reduceAdd, Nat.reduceMul, Nat.reduceSub, Nat.reduceLT, Nat.reduceLeDiff, Nat.reduceBEq, hk]) | refine dk (by kernel_rfl) ?_ | (refine qp (l6In_ac _ _ _) (by simp only [go_sem, Nat.reduceEqDiff, reduceIte, Nat.reduceAdd, Nat.reduceMul, Nat.reduceSub, Nat.reduceLT, Nat.reduceLeDiff, Nat.reduceBEq, hk]; first | done | rfl) rfl (by simp only [go_sem, Nat.reduceLT]) rfl rfl ?_; simp only [go_sem, Nat.reduceEqDiff, reduceIte, Nat.reduceAdd, Nat.reduceMul, Nat.reduceSub, Nat.reduceLT, Nat.reduceLeDiff, Nat.reduceBEq, hk]))
  exact Aw_ret (ret0 (.inl rfl) (by simp only [go_sem, Nat.reduceEqDiff, reduceIte, Nat.reduceAdd, Nat.reduceMul, Nat.reduceSub, Nat.reduceLT, Nat.reduceLeDiff, Nat.reduceBEq]; rfl) (by rfl) rfl)
theorem t3 : Int.toNat 3 = 3 := rfl
theorem c03 : ((0 : Int) ≤ 3) = True := eq_true (by omega)
theorem c3b : ((3 : Int) ≤ 140737488355328) = True := eq_true (by omega)
theorem rep3 (x : List CV) : List.replicate 3 x = [x, x, x] := rfl
theorem e03 : decide ((0 : Int) < 3) = true := rfl
theorem e13 : decide ((1 : Int) < 3) = true := rfl
theorem e23 : decide ((2 : Int) < 3) = true := rfl
theorem e33 : decide ((3 : Int) < 3) = false := rfl
theorem w01 : IntKind.i64.wrap (0 + 1) = 1 := rfl
theorem w12 : IntKind.i64.wrap (1 + 1) = 2 := rfl
theorem w23 : IntKind.i64.wrap (2 + 1) = 3 := rfl
theorem AC.setL {P : Program} {f : FuncId} {args : List TV} {hp : Hp} {k : Nat} {x y : AV} {os os' : List (Option Obj)} {n : Nat} (L : List Nat) (h : AC P f args hp k ⟨x, hpL os, n⟩) (hr : SetA (hpL os) L x y) (hs : SubL L 0 os os') : AC P f args hp k ⟨y, hpL os', n⟩ :=
  AC.settle h hr (fun m o' hm => by
    obtain ⟨h1, h2⟩ := subL_get hs m o' hm
    exact ⟨by simpa using h1, o', h2, .inl rfl⟩) (Nat.le_refl n)
def svRow (l : List Sve) : Obj := dRow 67 5 (l.map sveD)
@[go_sem] theorem r_svRow (l : List Sve) : svRow l = dRow 67 5 (l.map sveD) := rfl
def lvNil : Obj := dRow 24 1 [[.s (.slice none 0 0)], [.s (.slice none 0 0)], [.s (.slice none 0 0)]]
theorem inKeep {keep : Nat} (hk : keep ≤ 5) : inB 0 keep 5 = true := by unfold inB; rw [decide_eq_true (by omega), decide_eq_true (by omega)]; rfl
theorem storeNewR_ac (keep : Nat) (hk : keep ≤ 5) : AC Try.prog 21 [iT keep] noHp 0 ⟨.tup [.agg [.d (.s (.slice none 0 0)), .h 0, .h 1, .d (.s (.int .i64 keep)), .d (.s (.int .i64 0)), .d (.s (.slice none 0 0))], bT true], hpL [some lvNil, some (svRow [eSve keep, eSve keep, eSve keep])], 2⟩ := by
  refine AC_of Try.func21 rfl Try.ntmps21 Try.results21 (by kernel_rfl) rfl ?_
  simp only [List.zipIdx, List.map, Nat.zero_add, Nat.reduceAdd]
  have h5 := inKeep hk
  have k := sieve0_ac keep hk
  repeat (first | apply Aw_seq | apply Aw_block | apply Aw_skip | apply Aw_exit | refine Aw_condt rfl ?_ | refine Aw_condf rfl ?_ | (refine qr ?_; simp only [go_sem, Nat.reduceEqDiff, reduceIte, Nat.reduceAdd, Nat.reduceMul, Nat.reduceSub, Nat.reduceLT, Nat.reduceLeDiff, Nat.reduceBEq, h5, t3, c03, c3b, rep3]) | (refine qd (by kernel_rfl) (by kernel_rfl) ?_; simp only [go_sem, Nat.reduceEqDiff, reduceIte, Nat.reduceAdd, Nat.reduceMul, Nat.reduceSub, Nat.reduceLT, Nat.reduceLeDiff, Nat.reduceBEq, h5, t3, c03, c3b, rep3]) | refine dk (by kernel_rfl) ?_ | (refine qp (isKeep_ac _) (by simp only [go_sem, Nat.reduceEqDiff, reduceIte, Nat.reduceAdd, Nat.reduceMul, Nat.reduceSub, Nat.reduceLT, Nat.reduceLeDiff, Nat.reduceBEq, h5, t3, c03, c3b, rep3]; first | done | rfl) rfl (by simp only [go_sem, Nat.reduceLT]) rfl rfl ?_; simp only [go_sem, Nat.reduceEqDiff, reduceIte, Nat.reduceAdd, Nat.reduceMul, Nat.reduceSub, Nat.reduceLT, Nat.reduceLeDiff, Nat.reduceBEq, h5, t3, c03, c3b, rep3]))
  refine Aw_rounds 4 ?_
  refine AwR_succ ?_
  repeat (first | apply Aw_seq | apply Aw_block | apply Aw_skip | apply Aw_exit | refine Aw_condt rfl ?_ | refine Aw_condf rfl ?_ | (refine qr ?_; simp only [go_sem, Nat.reduceEqDiff, reduceIte, Nat.reduceAdd, Nat.reduceMul, Nat.reduceSub, Nat.reduceLT, Nat.reduceLeDiff, Nat.reduceBEq, e03, w01]) | (refine qd (by kernel_rfl) (by kernel_rfl) ?_; simp only [go_sem, Nat.reduceEqDiff, reduceIte, Nat.reduceAdd, Nat.reduceMul, Nat.reduceSub, Nat.reduceLT, Nat.reduceLeDiff, Nat.reduceBEq, e03, w01]) | refine dk (by kernel_rfl) ?_ | (refine qp (k) (by simp only [go_sem, Nat.reduceEqDiff, reduceIte, Nat.reduceAdd, Nat.reduceMul, Nat.reduceSub, Nat.reduceLT, Nat.reduceLeDiff, Nat.reduceBEq, e03, w01]; first | done | rfl) rfl (by simp only [go_sem, Nat.reduceLT]) rfl rfl ?_; simp only [go_sem, Nat.reduceEqDiff, reduceIte, Nat.reduceAdd, Nat.reduceMul, Nat.reduceSub, Nat.reduceLT, Nat.reduceLeDiff, Nat.reduceBEq, e03, w01]))
  exact Aw_ret (retL (M := [5, 35]) (.inl rfl) (by simp only [go_sem, Nat.reduceEqDiff, reduceIte, Nat.reduceAdd, Nat.reduceMul, Nat.reduceSub, Nat.reduceLT, Nat.reduceLeDiff, Nat.reduceBEq]; first | done | rfl) rfl rfl (by rfl) (by simp only [go_sem, Nat.reduceEqDiff, reduceIte, Nat.reduceAdd, Nat.reduceMul, Nat.reduceSub, Nat.reduceLT, Nat.reduceLeDiff, Nat.reduceBEq, lvNil, svRow, eSve, List.map, dRow_ren]; first | done | rfl | (and_intros <;> rfl)) (by decide) (by intro m hm; first | omega | (rcases m with _ | _ | _ | _ | m <;> first | exact ⟨by decide, rfl⟩ | omega)))
theorem storeNew_ok (keep : Nat) (hk : keep ≤ 5) : AC Try.prog 21 [iT keep] noHp 0 ⟨.tup [.agg [.d (.rs 4 []), .d (.rs 1 [lvD [], lvD [], lvD []]), .h 1, .d (.s (.int .i64 keep)), .d (.s (.int .i64 0)), .d (.rs 1 [])], bT true], hpL [none, some (svRow [eSve keep, eSve keep, eSve keep])], 2⟩ := by
  have h1 : AC Try.prog 21 [iT keep] noHp 0 ⟨.tup [.agg [.d (.s (.slice none 0 0)), .d (.rs 1 [[.s (.slice none 0 0)], [.s (.slice none 0 0)], [.s (.slice none 0 0)]]), .h 1, .d (.s (.int .i64 keep)), .d (.s (.int .i64 0)), .d (.s (.slice none 0 0))], bT true], hpL [none, some (svRow [eSve keep, eSve keep, eSve keep])], 2⟩ :=
    AC.setL [0] (storeNewR_ac keep hk) (.cons (.cons (.inl rfl) (.cons (SetC.row0 rfl rfl) (.cons (.inl rfl) (.cons (.inl rfl) (.cons (.inl rfl) (.cons (.inl rfl) .nil)))))) (.cons (.inl rfl) .nil)) ⟨rfl, rfl, trivial⟩
  exact AC.nilR h1 (.cons (.cons (NilC.nil _) (.cons (nil3 4) (.cons (.inl rfl) (.cons (.inl rfl) (.cons (.inl rfl) (.cons (NilC.nil _) .nil)))))) (.cons (NilT.refl _) .nil))
theorem sstoreNewR_ac (keep : Nat) (hk : keep ≤ 5) : AC Try.prog 20 [iT keep] noHp 0 ⟨.tup [.agg [.h 0, .h 2, .h 3, .d (.s (.int .i64 keep)), .d (.s (.int .i64 0)), .h 1], bT true],
    hpL [some (eRow []), some (dRow 3 1 []), some ⟨24, 1, true, [[.h 4], [.h 5], [.h 6]]⟩, some ⟨67, 5, true, [[.d (.s (.string zs)), .d (.s (.string zs)), .d (.s (.string zs)), .h 7, .d (.s (.int .i64 keep))], [.d (.s (.string zs)), .d (.s (.string zs)), .d (.s (.string zs)), .h 8, .d (.s (.int .i64 keep))], [.d (.s (.string zs)), .d (.s (.string zs)), .d (.s (.string zs)), .h 9, .d (.s (.int .i64 keep))]]⟩,
      some (eRow []), some (eRow []), some (eRow []), some (kRow []), some (kRow []), some (kRow [])], 10⟩ := by
  refine AC_of Try.func20 rfl Try.ntmps20 Try.results20 (by kernel_rfl) rfl ?_
  simp only [List.zipIdx, List.map, Nat.zero_add, Nat.reduceAdd]
  have h5 := inKeep hk
  repeat (first | apply Aw_seq | apply Aw_block | apply Aw_skip | apply Aw_exit | refine Aw_condt rfl ?_ | refine Aw_condf rfl ?_ | (refine qr ?_; simp only [go_sem, Nat.reduceEqDiff, reduceIte, Nat.reduceAdd, Nat.reduceMul, Nat.reduceSub, Nat.reduceLT, Nat.reduceLeDiff, Nat.reduceBEq, h5, t3, c03, c3b, rep3]) | (refine qd (by kernel_rfl) (by kernel_rfl) ?_; simp only [go_sem, Nat.reduceEqDiff, reduceIte, Nat.reduceAdd, Nat.reduceMul, Nat.reduceSub, Nat.reduceLT, Nat.reduceLeDiff, Nat.reduceBEq, h5, t3, c03, c3b, rep3]) | refine dk (by kernel_rfl) ?_ | (refine qp (l6In_ac _ _ _) (by simp only [go_sem, Nat.reduceEqDiff, reduceIte, Nat.reduceAdd, Nat.reduceMul, Nat.reduceSub, Nat.reduceLT, Nat.reduceLeDiff, Nat.reduceBEq, h5, t3, c03, c3b, rep3]; first | done | rfl) rfl (by simp only [go_sem, Nat.reduceLT]) rfl rfl ?_; simp only [go_sem, Nat.reduceEqDiff, reduceIte, Nat.reduceAdd, Nat.reduceMul, Nat.reduceSub, Nat.reduceLT, Nat.reduceLeDiff, Nat.reduceBEq, h5, t3, c03, c3b, rep3]))
  refine Aw_rounds 4 ?_
  refine AwR_succ ?_
  repeat (first | apply Aw_seq | apply Aw_block | apply Aw_skip | apply Aw_exit | refine Aw_condt rfl ?_ | refine Aw_condf rfl ?_ | (refine qr ?_; simp only [go_sem, Nat.reduceEqDiff, reduceIte, Nat.reduceAdd, Nat.reduceMul, Nat.reduceSub, Nat.reduceLT, Nat.reduceLeDiff, Nat.reduceBEq, e03, w01]) | (refine qd (by kernel_rfl) (by kernel_rfl) ?_; simp only [go_sem, Nat.reduceEqDiff, reduceIte, Nat.reduceAdd, Nat.reduceMul, Nat.reduceSub, Nat.reduceLT, Nat.reduceLeDiff, Nat.reduceBEq, e03, w01]) | refine dk (by kernel_rfl) ?_)
  exact Aw_ret (retL (M := [4, 6, 59, 68, 15, 36, 57, 22, 43, 64]) (.inl rfl) (by simp only [go_sem, Nat.reduceEqDiff, reduceIte, Nat.reduceAdd, Nat.reduceMul, Nat.reduceSub, Nat.reduceLT, Nat.reduceLeDiff, Nat.reduceBEq]; first | done | rfl) rfl rfl (by rfl) (by simp only [go_sem, Nat.reduceEqDiff, reduceIte, Nat.reduceAdd, Nat.reduceMul, Nat.reduceSub, Nat.reduceLT, Nat.reduceLeDiff, Nat.reduceBEq]; first | done | rfl | (and_intros <;> rfl)) (by decide) (by intro m hm; first | omega | (rcases m with _ | _ | _ | _ | m <;> first | exact ⟨by decide, rfl⟩ | omega)))
theorem sstoreNew_ok (keep : Nat) (hk : keep ≤ 5) : AC Try.prog 20 [iT keep] noHp 0 ⟨.tup [stT (eSto keep), bT true], noHp, 0⟩ := by
  refine AC.settle0 [0, 1, 2, 3, 4, 5, 6, 7, 8, 9] (sstoreNewR_ac keep hk) (.cons (.cons (SetC.row0 rfl rfl) (.cons (.inr ⟨3, _, rfl, rfl, subB rfl⟩) (.cons (.inr ⟨3, _, rfl, rfl, subB rfl⟩) (.cons (.inl rfl) (.cons (.inl rfl) (.cons (SetC.row0 rfl rfl) .nil)))))) (.cons (.inl rfl) .nil)) rfl
end Go.Proofs.Ytcbhgglpgphimaa.Ab
namespace Go.Proofs.Ytcbhgglpgphimaa.Ab
set_option linter.deprecated false
set_option linter.unusedVariables false
set_option linter.unusedSimpArgs false
open Go Go.Proofs
set_option maxRecDepth 10000
set_option maxHeartbeats 8000000
set_option linter.unusedSimpArgs false
set_option linter.unusedVariables false
def joinM (a b : List Ent) : List Ent := List.merge a b before
theorem joinM_nil (a : List Ent) : joinM a [] = a := by unfold joinM; exact List.merge_right a
theorem joinM_cc (x y : Ent) (a b : List Ent) : joinM (x :: a) (y :: b) = if before x y = true then x :: joinM a (y :: b) else y :: joinM (x :: a) b := by
  unfold joinM; rw [List.cons_merge_cons]
theorem joinM_nc (y : Ent) (b : List Ent) : joinM [] (y :: b) = y :: joinM [] b := by
  unfold joinM; simp
theorem joinM_len (a b : List Ent) : (joinM a b).length = a.length + b.length := by unfold joinM; rw [List.length_merge]
theorem mem_joinM {a b : List Ent} {e : Ent} (h : e ∈ joinM a b) : e ∈ a ∨ e ∈ b := by unfold joinM at h; exact List.mem_merge.1 h
structure JnI (a b : List Ent) where
  P : List Ent
  i : Nat
  k : Nat
  hi : i ≤ a.length
  hk : k ≤ b.length
  hl : P.length = i + k
  h : P ++ joinM (a.drop i) (b.drop k) = joinM a b
theorem l11Join_ac (a b : List Ent) (ha : a.length ≤ 100000) (hb : b.length ≤ 100000) : AC Try.prog 52 [runT a, runT b] noHp 0 ⟨.t (.c (.h 0)), hpL [some (eRow (joinM a b))], 1⟩ := by
  refine AC_of Try.func52 rfl Try.ntmps52 Try.results52 (by kernel_rfl) rfl ?_
  simp only [List.zipIdx, List.map, Nat.zero_add, Nat.reduceAdd]
  repeat (first | apply Aw_seq | apply Aw_block | apply Aw_skip | apply Aw_exit | refine Aw_condt rfl ?_ | refine Aw_condf rfl ?_ | (refine qr ?_; simp only [go_sem, Nat.reduceEqDiff, reduceIte, Nat.reduceAdd, Nat.reduceMul, Nat.reduceSub, Nat.reduceLT, Nat.reduceLeDiff, Nat.reduceBEq]) | (refine qd (by kernel_rfl) (by kernel_rfl) ?_; simp only [go_sem, Nat.reduceEqDiff, reduceIte, Nat.reduceAdd, Nat.reduceMul, Nat.reduceSub, Nat.reduceLT, Nat.reduceLeDiff, Nat.reduceBEq]) | refine dk (by kernel_rfl) ?_)
  refine Aw.rw (rwL (l' := [(7, .t (iT (0 : Nat))), (6, .t (iT (0 : Nat))), (5, .t (.c (.h 0))), (1, .t (runT b)), (0, .t (runT a))]) (os := [some (eRow [])]) (M := [1]) (n' := 1) (by repeat (first | exact trivial | refine ⟨rfl, rfl, ?_⟩)) (by rfl) (by simp only [go_sem, Nat.reduceEqDiff, reduceIte, Nat.reduceAdd, Nat.reduceMul, Nat.reduceSub, Nat.reduceLT, Nat.reduceLeDiff, Nat.reduceBEq]; first | done | rfl) (by decide) (by intro m hm; first | omega | (rcases m with _ | _ | _ | _ | m <;> first | exact ⟨by decide, rfl⟩ | omega))) ?_
  refine Aw_loop_rw (ι := JnI a b) (fun q => S [(7, .t (iT (q.k : Nat))), (6, .t (iT (q.i : Nat))), (5, .t (.c (.h 0))), (1, .t (runT b)), (0, .t (runT a))] (hpL [some (eRow q.P)]) 1) (fun q => b.length - q.k) ⟨[], 0, 0, Nat.zero_le _, Nat.zero_le _, rfl, rfl⟩ ?_
  rintro ⟨P, i, k, hi, hk, hl, h⟩
  dsimp only
  by_cases hlt : k < b.length
  · have h1 : (k : Int) < (b.length : Int) := by omega
    have w1 := wrap_succ hlt (by omega)
    obtain ⟨y, hy⟩ : ∃ e, b[k]? = some e := ⟨_, List.getElem?_eq_getElem hlt⟩
    have hbd : b.drop k = y :: b.drop (k + 1) := by rw [List.drop_eq_getElem_cons hlt]; congr 1; rw [List.getElem?_eq_getElem hlt] at hy; exact Option.some.inj hy
    repeat (first | apply Aw_seq | apply Aw_block | apply Aw_skip | apply Aw_exit | refine Aw_condt rfl ?_ | refine Aw_condf rfl ?_ | (refine qr ?_; simp only [go_sem, Nat.reduceEqDiff, reduceIte, Nat.reduceAdd, Nat.reduceMul, Nat.reduceSub, Nat.reduceLT, Nat.reduceLeDiff, Nat.reduceBEq, h1]) | (refine qd (by kernel_rfl) (by kernel_rfl) ?_; simp only [go_sem, Nat.reduceEqDiff, reduceIte, Nat.reduceAdd, Nat.reduceMul, Nat.reduceSub, Nat.reduceLT, Nat.reduceLeDiff, Nat.reduceBEq, h1]) | refine dk (by kernel_rfl) ?_)
    refine Aw.rw (rwL (l' := [(7, .t (iT (k : Nat))), (6, .t (iT (i : Nat))), (5, .t (.c (.h 0))), (1, .t (runT b)), (0, .t (runT a))]) (os := [some (eRow P)]) (M := [0]) (n' := 1) (by repeat (first | exact trivial | refine ⟨rfl, rfl, ?_⟩)) (by rfl) (by simp only [go_sem, Nat.reduceEqDiff, reduceIte, Nat.reduceAdd, Nat.reduceMul, Nat.reduceSub, Nat.reduceLT, Nat.reduceLeDiff, Nat.reduceBEq]; first | done | rfl) (by decide) (by intro m hm; first | omega | (rcases m with _ | _ | _ | _ | m <;> first | exact ⟨by decide, rfl⟩ | omega))) ?_
    refine Aw_loop_rw (ι := { q : JnI a b // q.k = k }) (fun q => S [(7, .t (iT (k : Nat))), (6, .t (iT (q.1.i : Nat))), (5, .t (.c (.h 0))), (1, .t (runT b)), (0, .t (runT a))] (hpL [some (eRow q.1.P)]) 1) (fun q => a.length - q.1.i) ⟨⟨P, i, k, hi, hk, hl, h⟩, rfl⟩ ?_
    clear h hl hi P i
    rintro ⟨⟨P, i, k', hi, hk', hl, h⟩, hkk⟩
    dsimp only at hkk ⊢
    subst hkk
    have hap : (P.length + 1) * 40 ≤ 140737488355328 := by omega
    by_cases hia : i < a.length
    · have h2 : (i : Int) < (a.length : Int) := by omega
      have w2 := wrap_succ hia (by omega)
      obtain ⟨x, hx⟩ : ∃ e, a[i]? = some e := ⟨_, List.getElem?_eq_getElem hia⟩
      have had : a.drop i = x :: a.drop (i + 1) := by rw [List.drop_eq_getElem_cons hia]; congr 1; rw [List.getElem?_eq_getElem hia] at hx; exact Option.some.inj hx
      cases c : before x y
      · have hj : (P ++ [y]) ++ joinM (a.drop i) (b.drop (k' + 1)) = joinM a b := by
          rw [← h, hbd, had, joinM_cc, if_neg (by rw [c]; simp)]; simp
        repeat (first | apply Aw_seq | apply Aw_block | apply Aw_skip | apply Aw_exit | refine Aw_condt rfl ?_ | refine Aw_condf rfl ?_ | (refine qr ?_; simp only [go_sem, Nat.reduceEqDiff, reduceIte, Nat.reduceAdd, Nat.reduceMul, Nat.reduceSub, Nat.reduceLT, Nat.reduceLeDiff, Nat.reduceBEq, h2, hx, hy, c, w1, hap]) | (refine qd (by kernel_rfl) (by kernel_rfl) ?_; simp only [go_sem, Nat.reduceEqDiff, reduceIte, Nat.reduceAdd, Nat.reduceMul, Nat.reduceSub, Nat.reduceLT, Nat.reduceLeDiff, Nat.reduceBEq, h2, hx, hy, c, w1, hap]) | refine dk (by kernel_rfl) ?_ | (refine qp (sbefore_ac _ _) (by simp only [go_sem, Nat.reduceEqDiff, reduceIte, Nat.reduceAdd, Nat.reduceMul, Nat.reduceSub, Nat.reduceLT, Nat.reduceLeDiff, Nat.reduceBEq, h2, hx, hy, c, w1, hap]; first | done | rfl) rfl (by simp only [go_sem, Nat.reduceLT]) rfl rfl ?_; simp only [go_sem, Nat.reduceEqDiff, reduceIte, Nat.reduceAdd, Nat.reduceMul, Nat.reduceSub, Nat.reduceLT, Nat.reduceLeDiff, Nat.reduceBEq, h2, hx, hy, c, w1, hap]))
        refine ⟨⟨P ++ [y], i, k' + 1, hi, hlt, by simp; omega, hj⟩, [21], ?_, rwL (by repeat (first | exact trivial | refine ⟨rfl, rfl, ?_⟩)) (by rfl) (by simp only [go_sem, Nat.reduceEqDiff, reduceIte, Nat.reduceAdd, Nat.reduceMul, Nat.reduceSub, Nat.reduceLT, Nat.reduceLeDiff, Nat.reduceBEq, List.map_append, List.map_cons, List.map_nil]; first | done | rfl) (by decide) (by intro m hm; first | omega | (rcases m with _ | _ | _ | _ | m <;> first | exact ⟨by decide, rfl⟩ | omega))⟩
        show b.length - (k' + 1) < b.length - k'; omega
      · have hj : (P ++ [x]) ++ joinM (a.drop (i + 1)) (b.drop k') = joinM a b := by
          rw [← h, hbd, had, joinM_cc, if_pos c]; simp
        repeat (first | apply Aw_seq | apply Aw_block | apply Aw_skip | apply Aw_exit | refine Aw_condt rfl ?_ | refine Aw_condf rfl ?_ | (refine qr ?_; simp only [go_sem, Nat.reduceEqDiff, reduceIte, Nat.reduceAdd, Nat.reduceMul, Nat.reduceSub, Nat.reduceLT, Nat.reduceLeDiff, Nat.reduceBEq, h2, hx, hy, c, w2, hap]) | (refine qd (by kernel_rfl) (by kernel_rfl) ?_; simp only [go_sem, Nat.reduceEqDiff, reduceIte, Nat.reduceAdd, Nat.reduceMul, Nat.reduceSub, Nat.reduceLT, Nat.reduceLeDiff, Nat.reduceBEq, h2, hx, hy, c, w2, hap]) | refine dk (by kernel_rfl) ?_ | (refine qp (sbefore_ac _ _) (by simp only [go_sem, Nat.reduceEqDiff, reduceIte, Nat.reduceAdd, Nat.reduceMul, Nat.reduceSub, Nat.reduceLT, Nat.reduceLeDiff, Nat.reduceBEq, h2, hx, hy, c, w2, hap]; first | done | rfl) rfl (by simp only [go_sem, Nat.reduceLT]) rfl rfl ?_; simp only [go_sem, Nat.reduceEqDiff, reduceIte, Nat.reduceAdd, Nat.reduceMul, Nat.reduceSub, Nat.reduceLT, Nat.reduceLeDiff, Nat.reduceBEq, h2, hx, hy, c, w2, hap]))
        refine ⟨⟨⟨P ++ [x], i + 1, k', hia, hk, by simp; omega, hj⟩, rfl⟩, [21], ?_, rwL (by repeat (first | exact trivial | refine ⟨rfl, rfl, ?_⟩)) (by rfl) (by simp only [go_sem, Nat.reduceEqDiff, reduceIte, Nat.reduceAdd, Nat.reduceMul, Nat.reduceSub, Nat.reduceLT, Nat.reduceLeDiff, Nat.reduceBEq, List.map_append, List.map_cons, List.map_nil]; first | done | rfl) (by decide) (by intro m hm; first | omega | (rcases m with _ | _ | _ | _ | m <;> first | exact ⟨by decide, rfl⟩ | omega))⟩
        show a.length - (i + 1) < a.length - i; omega
    · have h2 : ¬ (i : Int) < (a.length : Int) := by omega
      have hj : (P ++ [y]) ++ joinM (a.drop i) (b.drop (k' + 1)) = joinM a b := by
        rw [← h, hbd, List.drop_eq_nil_of_le (by omega : a.length ≤ i), joinM_nc]; simp
      repeat (first | apply Aw_seq | apply Aw_block | apply Aw_skip | apply Aw_exit | refine Aw_condt rfl ?_ | refine Aw_condf rfl ?_ | (refine qr ?_; simp only [go_sem, Nat.reduceEqDiff, reduceIte, Nat.reduceAdd, Nat.reduceMul, Nat.reduceSub, Nat.reduceLT, Nat.reduceLeDiff, Nat.reduceBEq, h2, hy, w1, hap]) | (refine qd (by kernel_rfl) (by kernel_rfl) ?_; simp only [go_sem, Nat.reduceEqDiff, reduceIte, Nat.reduceAdd, Nat.reduceMul, Nat.reduceSub, Nat.reduceLT, Nat.reduceLeDiff, Nat.reduceBEq, h2, hy, w1, hap]) | refine dk (by kernel_rfl) ?_)
      refine ⟨⟨P ++ [y], i, k' + 1, hi, hlt, by simp; omega, hj⟩, [13], ?_, rwL (by repeat (first | exact trivial | refine ⟨rfl, rfl, ?_⟩)) (by rfl) (by simp only [go_sem, Nat.reduceEqDiff, reduceIte, Nat.reduceAdd, Nat.reduceMul, Nat.reduceSub, Nat.reduceLT, Nat.reduceLeDiff, Nat.reduceBEq, List.map_append, List.map_cons, List.map_nil]; first | done | rfl) (by decide) (by intro m hm; first | omega | (rcases m with _ | _ | _ | _ | m <;> first | exact ⟨by decide, rfl⟩ | omega))⟩
      show b.length - (k' + 1) < b.length - k'; omega
  · have h1 : ¬ (k : Int) < (b.length : Int) := by omega
    have hj : P ++ a.drop i = joinM a b := by rw [← h, List.drop_eq_nil_of_le (by omega : b.length ≤ k), joinM_nil]
    have hap : (P.length + (a.length - i)) * 40 ≤ 140737488355328 := by omega
    rw [← hj]
    have i0 : (0 : Int) ≤ (i : Int) := by omega
    have i1 : (i : Int) ≤ (a.length : Int) := by omega
    have tn : Int.toNat ((i : Nat) : Int) = i := rfl
    have tn2 : Int.toNat ((a.length : Nat) : Int) = a.length := rfl
    have tk : List.take a.length (List.map entD a) = List.map entD a := by rw [List.take_of_length_le (by simp)]
    have td : List.drop i (List.map entD a) = List.map entD (a.drop i) := by rw [List.map_drop]
    repeat (first | apply Aw_seq | apply Aw_block | apply Aw_skip | apply Aw_exit | refine Aw_condt rfl ?_ | refine Aw_condf rfl ?_ | (refine qr ?_; simp only [go_sem, Nat.reduceEqDiff, reduceIte, Nat.reduceAdd, Nat.reduceMul, Nat.reduceSub, Nat.reduceLT, Nat.reduceLeDiff, Nat.reduceBEq, h1, hap, i0, i1, tn, tn2, tk, td, List.length_drop]) | (refine qd (by kernel_rfl) (by kernel_rfl) ?_; simp only [go_sem, Nat.reduceEqDiff, reduceIte, Nat.reduceAdd, Nat.reduceMul, Nat.reduceSub, Nat.reduceLT, Nat.reduceLeDiff, Nat.reduceBEq, h1, hap, i0, i1, tn, tn2, tk, td, List.length_drop]) | refine dk (by kernel_rfl) ?_)
    exact Aw_ret (retL (M := [9]) (.inl rfl) (by simp only [go_sem, Nat.reduceEqDiff, reduceIte, Nat.reduceAdd, Nat.reduceMul, Nat.reduceSub, Nat.reduceLT, Nat.reduceLeDiff, Nat.reduceBEq]; first | done | rfl) rfl rfl (by rfl) (by simp only [go_sem, Nat.reduceEqDiff, reduceIte, Nat.reduceAdd, Nat.reduceMul, Nat.reduceSub, Nat.reduceLT, Nat.reduceLeDiff, Nat.reduceBEq, List.map_append, List.map_cons, List.map_nil]; first | done | rfl | (and_intros <;> rfl)) (by decide) (by intro m hm; first | omega | (rcases m with _ | _ | _ | _ | m <;> first | exact ⟨by decide, rfl⟩ | omega)))
theorem l11JoinS_ac (a b : List Ent) (ha : a.length ≤ 100000) (hb : b.length ≤ 100000) : AC Try.prog 52 [runT a, runT b] noHp 0 ⟨.t (runT (joinM a b)), noHp, 0⟩ := AC.settle0 [0] (l11Join_ac a b ha hb) (SetC.row0 rfl rfl) rfl
/-- Whether an entry is seen, though one of its key stands ahead of it. -/
def gapM (ts : List Int) (e p : Ent) : Bool := ts.any fun t => decide (e.time ≤ t) && decide (t < p.time)
def seenAt (r : List Ent) (ts : List Int) (i : Nat) : Bool := match r[i]? with
  | some e => (match i with
    | 0 => true
    | j + 1 => match r[j]? with
      | some p => !decide (p.key = e.key) || gapM ts e p
      | none => true)
  | none => true
theorem any_hit {α : Type} {p : α → Bool} {xs : List α} {i : Nat} {x : α} (h : xs[i]? = some x) (hp : p x = true) : xs.any p = true := List.any_eq_true.2 ⟨x, List.mem_of_getElem? h, hp⟩
theorem any_none {α : Type} {p : α → Bool} {xs : List α} (h : ∀ j, j < xs.length → ∀ y, xs[j]? = some y → p y = false) : xs.any p = false := by
  rw [List.any_eq_false]
  intro x hx
  obtain ⟨i, hi⟩ := List.mem_iff_getElem?.1 hx
  rw [h i (List.getElem?_eq_some_iff.1 hi).1 x hi]; simp
theorem l11Seen_ac (r : List Ent) (i : Nat) (ts : List Int) (e : Ent) (he : r[i]? = some e) (hr : r.length ≤ 1099511627776) (ht : ts.length ≤ 1099511627776) : AC Try.prog 212 [runT r, iT i, intsT ts] noHp 0 ⟨.t (bT (seenAt r ts i)), noHp, 0⟩ := by
  refine AC_of Try.func212 rfl Try.ntmps212 Try.results212 (by kernel_rfl) rfl ?_
  simp only [List.zipIdx, List.map, Nat.zero_add, Nat.reduceAdd]
  have hil := (List.getElem?_eq_some_iff.1 he).1
  rcases i with _ | j
  · have h5 : decide (((0 : Nat) : Int) = 0) = true := rfl
    have hs : seenAt r ts 0 = true := by unfold seenAt; rw [he]
    rw [hs]
    repeat (first | apply Aw_seq | apply Aw_block | apply Aw_skip | apply Aw_exit | refine Aw_condt rfl ?_ | refine Aw_condf rfl ?_ | (refine qr ?_; simp only [go_sem, Nat.reduceEqDiff, reduceIte, Nat.reduceAdd, Nat.reduceMul, Nat.reduceSub, Nat.reduceLT, Nat.reduceLeDiff, Nat.reduceBEq, h5]) | (refine qd (by kernel_rfl) (by kernel_rfl) ?_; simp only [go_sem, Nat.reduceEqDiff, reduceIte, Nat.reduceAdd, Nat.reduceMul, Nat.reduceSub, Nat.reduceLT, Nat.reduceLeDiff, Nat.reduceBEq, h5]) | refine dk (by kernel_rfl) ?_)
    exact Aw_ret (ret0 (.inl rfl) (by simp only [go_sem, Nat.reduceEqDiff, reduceIte, Nat.reduceAdd, Nat.reduceMul, Nat.reduceSub, Nat.reduceLT, Nat.reduceLeDiff, Nat.reduceBEq]; rfl) (by rfl) rfl)
  · have h5 : decide (((j + 1 : Nat) : Int) = 0) = false := decide_eq_false (by omega)
    have h6 := wrap_pred (i := j) (by omega) hr
    obtain ⟨p, hy⟩ : ∃ e, r[j]? = some e := ⟨_, List.getElem?_eq_getElem (by omega)⟩
    cases c : decide (p.key = e.key)
    · have hs : seenAt r ts (j + 1) = true := by unfold seenAt; rw [he]; simp only [hy, c]; rfl
      rw [hs]
      repeat (first | apply Aw_seq | apply Aw_block | apply Aw_skip | apply Aw_exit | refine Aw_condt rfl ?_ | refine Aw_condf rfl ?_ | (refine qr ?_; simp only [go_sem, Nat.reduceEqDiff, reduceIte, Nat.reduceAdd, Nat.reduceMul, Nat.reduceSub, Nat.reduceLT, Nat.reduceLeDiff, Nat.reduceBEq, h5, h6, he, hy, c]) | (refine qd (by kernel_rfl) (by kernel_rfl) ?_; simp only [go_sem, Nat.reduceEqDiff, reduceIte, Nat.reduceAdd, Nat.reduceMul, Nat.reduceSub, Nat.reduceLT, Nat.reduceLeDiff, Nat.reduceBEq, h5, h6, he, hy, c]) | refine dk (by kernel_rfl) ?_)
      exact Aw_ret (ret0 (.inl rfl) (by simp only [go_sem, Nat.reduceEqDiff, reduceIte, Nat.reduceAdd, Nat.reduceMul, Nat.reduceSub, Nat.reduceLT, Nat.reduceLeDiff, Nat.reduceBEq]; rfl) (by rfl) rfl)
    · have hs : seenAt r ts (j + 1) = gapM ts e p := by unfold seenAt; rw [he]; simp only [hy, c]; rfl
      rw [hs]
      repeat (first | apply Aw_seq | apply Aw_block | apply Aw_skip | apply Aw_exit | refine Aw_condt rfl ?_ | refine Aw_condf rfl ?_ | (refine qr ?_; simp only [go_sem, Nat.reduceEqDiff, reduceIte, Nat.reduceAdd, Nat.reduceMul, Nat.reduceSub, Nat.reduceLT, Nat.reduceLeDiff, Nat.reduceBEq, h5, h6, he, hy, c]) | (refine qd (by kernel_rfl) (by kernel_rfl) ?_; simp only [go_sem, Nat.reduceEqDiff, reduceIte, Nat.reduceAdd, Nat.reduceMul, Nat.reduceSub, Nat.reduceLT, Nat.reduceLeDiff, Nat.reduceBEq, h5, h6, he, hy, c]) | refine dk (by kernel_rfl) ?_)
      refine Aw.rw (rw0 (l' := [(7, .t (iT (0 : Nat))), (2, .t (intsT ts)), (1, .t (iT ((j + 1 : Nat) : Int))), (0, .t (runT r))]) (n' := 0) (by repeat (first | exact trivial | refine ⟨rfl, rfl, ?_⟩))) ?_
      refine Aw_loop0 (ι := { i : Nat // i ≤ ts.length ∧ (∀ q, q < i → ∀ t, ts[q]? = some t → (decide (e.time ≤ t) && decide (t < p.time)) = false) }) (fun q => [(7, .t (iT (q.1 : Nat))), (2, .t (intsT ts)), (1, .t (iT ((j + 1 : Nat) : Int))), (0, .t (runT r))]) (fun q => ts.length - q.1) ⟨0, Nat.zero_le _, fun q hq => absurd hq (by omega)⟩ ?_
      rintro ⟨i, hi, hp⟩
      dsimp only
      by_cases hlt : i < ts.length
      · have h1 : (i : Int) < (ts.length : Int) := by omega
        have h2 := wrap_succ hlt ht
        obtain ⟨t, hx⟩ : ∃ t, ts[i]? = some t := ⟨_, List.getElem?_eq_getElem hlt⟩
        cases c1 : decide (e.time ≤ t)
        · repeat (first | apply Aw_seq | apply Aw_block | apply Aw_skip | apply Aw_exit | refine Aw_condt rfl ?_ | refine Aw_condf rfl ?_ | (refine qr ?_; simp only [go_sem, Nat.reduceEqDiff, reduceIte, Nat.reduceAdd, Nat.reduceMul, Nat.reduceSub, Nat.reduceLT, Nat.reduceLeDiff, Nat.reduceBEq, h1, h2, hx, he, c1]) | (refine qd (by kernel_rfl) (by kernel_rfl) ?_; simp only [go_sem, Nat.reduceEqDiff, reduceIte, Nat.reduceAdd, Nat.reduceMul, Nat.reduceSub, Nat.reduceLT, Nat.reduceLeDiff, Nat.reduceBEq, h1, h2, hx, he, c1]) | refine dk (by kernel_rfl) ?_)
          exact ⟨⟨i + 1, by omega, no_succ hp hx (by rw [c1]; rfl)⟩, (by simp only []; omega), rw0 (by repeat (first | exact trivial | refine ⟨rfl, rfl, ?_⟩))⟩
        · cases c2 : decide (t < p.time)
          · repeat (first | apply Aw_seq | apply Aw_block | apply Aw_skip | apply Aw_exit | refine Aw_condt rfl ?_ | refine Aw_condf rfl ?_ | (refine qr ?_; simp only [go_sem, Nat.reduceEqDiff, reduceIte, Nat.reduceAdd, Nat.reduceMul, Nat.reduceSub, Nat.reduceLT, Nat.reduceLeDiff, Nat.reduceBEq, h1, h2, hx, he, hy, h6, c1, c2]) | (refine qd (by kernel_rfl) (by kernel_rfl) ?_; simp only [go_sem, Nat.reduceEqDiff, reduceIte, Nat.reduceAdd, Nat.reduceMul, Nat.reduceSub, Nat.reduceLT, Nat.reduceLeDiff, Nat.reduceBEq, h1, h2, hx, he, hy, h6, c1, c2]) | refine dk (by kernel_rfl) ?_)
            exact ⟨⟨i + 1, by omega, no_succ hp hx (by rw [c2]; simp)⟩, (by simp only []; omega), rw0 (by repeat (first | exact trivial | refine ⟨rfl, rfl, ?_⟩))⟩
          · have hg : gapM ts e p = true := any_hit hx (by rw [c1, c2]; rfl)
            rw [hg]
            repeat (first | apply Aw_seq | apply Aw_block | apply Aw_skip | apply Aw_exit | refine Aw_condt rfl ?_ | refine Aw_condf rfl ?_ | (refine qr ?_; simp only [go_sem, Nat.reduceEqDiff, reduceIte, Nat.reduceAdd, Nat.reduceMul, Nat.reduceSub, Nat.reduceLT, Nat.reduceLeDiff, Nat.reduceBEq, h1, h2, hx, he, hy, h6, c1, c2]) | (refine qd (by kernel_rfl) (by kernel_rfl) ?_; simp only [go_sem, Nat.reduceEqDiff, reduceIte, Nat.reduceAdd, Nat.reduceMul, Nat.reduceSub, Nat.reduceLT, Nat.reduceLeDiff, Nat.reduceBEq, h1, h2, hx, he, hy, h6, c1, c2]) | refine dk (by kernel_rfl) ?_)
            exact Aw_ret (ret0 (.inl rfl) (by simp only [go_sem, Nat.reduceEqDiff, reduceIte, Nat.reduceAdd, Nat.reduceMul, Nat.reduceSub, Nat.reduceLT, Nat.reduceLeDiff, Nat.reduceBEq]; rfl) (by rfl) rfl)
      · have h1 : ¬ (i : Int) < (ts.length : Int) := by omega
        obtain rfl : i = ts.length := by omega
        have hg : gapM ts e p = false := any_none hp
        rw [hg]
        repeat (first | apply Aw_seq | apply Aw_block | apply Aw_skip | apply Aw_exit | refine Aw_condt rfl ?_ | refine Aw_condf rfl ?_ | (refine qr ?_; simp only [go_sem, Nat.reduceEqDiff, reduceIte, Nat.reduceAdd, Nat.reduceMul, Nat.reduceSub, Nat.reduceLT, Nat.reduceLeDiff, Nat.reduceBEq, h1]) | (refine qd (by kernel_rfl) (by kernel_rfl) ?_; simp only [go_sem, Nat.reduceEqDiff, reduceIte, Nat.reduceAdd, Nat.reduceMul, Nat.reduceSub, Nat.reduceLT, Nat.reduceLeDiff, Nat.reduceBEq, h1]) | refine dk (by kernel_rfl) ?_)
        exact Aw_ret (ret0 (.inl rfl) (by simp only [go_sem, Nat.reduceEqDiff, reduceIte, Nat.reduceAdd, Nat.reduceMul, Nat.reduceSub, Nat.reduceLT, Nat.reduceLeDiff, Nat.reduceBEq]; rfl) (by rfl) rfl)
def trimAt (r : List Ent) (ts : List Int) (i : Nat) : List Ent := match r[i]? with
  | some e => if seenAt r ts i = true then [e] else []
  | none => []
def trim1 (r : List Ent) (ts : List Int) : List Ent := colI r.length (trimAt r ts)
def lastAt (r : List Ent) (e : Ent) (i : Nat) : Bool := match r[i + 1]? with
  | some q => !decide (q.key = e.key)
  | none => true
def lowAt (r : List Ent) (i : Nat) : List Ent := match r[i]? with
  | some e => if (!e.gone || !lastAt r e i) = true then [e] else []
  | none => []
def trim2 (r : List Ent) : List Ent := colI r.length (lowAt r)
def trimM (r : List Ent) (ts : List Int) (bottom : Bool) : List Ent := if bottom = true then trim2 (trim1 r ts) else trim1 r ts
theorem trimAt_len (r : List Ent) (ts : List Int) (i : Nat) : (trimAt r ts i).length ≤ 1 := by unfold trimAt; split <;> (try split) <;> simp
theorem lowAt_len (r : List Ent) (i : Nat) : (lowAt r i).length ≤ 1 := by unfold lowAt; split <;> (try split) <;> simp
theorem trim1_len (r : List Ent) (ts : List Int) : (trim1 r ts).length ≤ r.length := colI_len (trimAt_len r ts)
theorem trim2_len (r : List Ent) : (trim2 r).length ≤ r.length := colI_len (lowAt_len r)
theorem trimM_len (r : List Ent) (ts : List Int) (b : Bool) : (trimM r ts b).length ≤ r.length := by
  unfold trimM; split
  · exact Nat.le_trans (trim2_len _) (trim1_len r ts)
  · exact trim1_len r ts
theorem mem_colI {β : Type} {n : Nat} {f : Nat → List β} {x : β} (h : x ∈ colI n f) : ∃ i, i < n ∧ x ∈ f i := by
  unfold colI at h
  obtain ⟨i, hi, hx⟩ := List.mem_flatMap.1 h
  exact ⟨i, List.mem_range.1 hi, hx⟩
theorem mem_trim1 {r : List Ent} {ts : List Int} {e : Ent} (h : e ∈ trim1 r ts) : e ∈ r := by
  obtain ⟨i, _, hx⟩ := mem_colI h
  unfold trimAt at hx
  split at hx
  · rename_i e' he
    split at hx
    · obtain rfl : e = e' := by simpa using hx
      exact List.mem_of_getElem? he
    · simp at hx
  · simp at hx
theorem mem_trim2 {r : List Ent} {e : Ent} (h : e ∈ trim2 r) : e ∈ r := by
  obtain ⟨i, _, hx⟩ := mem_colI h
  unfold lowAt at hx
  split at hx
  · rename_i e' he
    split at hx
    · obtain rfl : e = e' := by simpa using hx
      exact List.mem_of_getElem? he
    · simp at hx
  · simp at hx
theorem mem_trimM {r : List Ent} {ts : List Int} {b : Bool} {e : Ent} (h : e ∈ trimM r ts b) : e ∈ r := by
  unfold trimM at h; split at h
  · exact mem_trim1 (mem_trim2 h)
  · exact mem_trim1 h
end Go.Proofs.Ytcbhgglpgphimaa.Ab
namespace Go.Proofs.Ytcbhgglpgphimaa.Ab
set_option linter.deprecated false
set_option linter.unusedVariables false
set_option linter.unusedSimpArgs false
open Go Go.Proofs
set_option maxRecDepth 10000
set_option maxHeartbeats 8000000
set_option linter.unusedSimpArgs false
set_option linter.unusedVariables false
theorem l11Trim_ac (r : List Ent) (ts : List Int) (b : Bool) (hr : r.length ≤ 100000) (ht : ts.length ≤ 100000) : AC Try.prog 207 [runT r, intsT ts, bT b] noHp 0 ⟨.t (.c (.h 0)), hpL [some (eRow (trimM r ts b))], 1⟩ := by
  refine AC_of Try.func207 rfl Try.ntmps207 Try.results207 (by kernel_rfl) rfl ?_
  simp only [List.zipIdx, List.map, Nat.zero_add, Nat.reduceAdd]
  repeat (first | apply Aw_seq | apply Aw_block | apply Aw_skip | apply Aw_exit | refine Aw_condt rfl ?_ | refine Aw_condf rfl ?_ | (refine qr ?_; simp only [go_sem, Nat.reduceEqDiff, reduceIte, Nat.reduceAdd, Nat.reduceMul, Nat.reduceSub, Nat.reduceLT, Nat.reduceLeDiff, Nat.reduceBEq]) | (refine qd (by kernel_rfl) (by kernel_rfl) ?_; simp only [go_sem, Nat.reduceEqDiff, reduceIte, Nat.reduceAdd, Nat.reduceMul, Nat.reduceSub, Nat.reduceLT, Nat.reduceLeDiff, Nat.reduceBEq]) | refine dk (by kernel_rfl) ?_)
  refine Aw.rw (rwL (l' := [(8, .t (iT (0 : Nat))), (7, .t (.c (.h 0))), (2, .t (bT b)), (1, .t (intsT ts)), (0, .t (runT r))]) (os := [some (eRow (colI 0 (trimAt r ts)))]) (M := [1]) (n' := 1) (by repeat (first | exact trivial | refine ⟨rfl, rfl, ?_⟩)) (by rfl) (by simp only [go_sem, Nat.reduceEqDiff, reduceIte, Nat.reduceAdd, Nat.reduceMul, Nat.reduceSub, Nat.reduceLT, Nat.reduceLeDiff, Nat.reduceBEq, colI_0, List.map_nil]; first | done | rfl) (by decide) (by intro m hm; first | omega | (rcases m with _ | _ | _ | _ | m <;> first | exact ⟨by decide, rfl⟩ | omega))) ?_
  refine Aw_loop_rw (ι := { i : Nat // i ≤ r.length }) (fun q => S [(8, .t (iT (q.1 : Nat))), (7, .t (.c (.h 0))), (2, .t (bT b)), (1, .t (intsT ts)), (0, .t (runT r))] (hpL [some (eRow (colI q.1 (trimAt r ts)))]) 1) (fun q => r.length - q.1) ⟨0, Nat.zero_le _⟩ ?_
  rintro ⟨i, hi⟩
  dsimp only
  by_cases hlt : i < r.length
  · have h1 : (i : Int) < (r.length : Int) := by omega
    have w1 := wrap_succ hlt (by omega)
    obtain ⟨e, hx⟩ : ∃ e, r[i]? = some e := ⟨_, List.getElem?_eq_getElem hlt⟩
    have hb : ((colI i (trimAt r ts)).length + 1) * 40 ≤ 140737488355328 := by have := colI_len (n := i) (trimAt_len r ts); omega
    have k1 := l11Seen_ac r i ts e hx (by omega) (by omega)
    cases c : seenAt r ts i
    · have hc : colI (i + 1) (trimAt r ts) = colI i (trimAt r ts) := by rw [colI_succ]; simp [trimAt, hx, c]
      rw [c] at k1
      repeat (first | apply Aw_seq | apply Aw_block | apply Aw_skip | apply Aw_exit | refine Aw_condt rfl ?_ | refine Aw_condf rfl ?_ | (refine qr ?_; simp only [go_sem, Nat.reduceEqDiff, reduceIte, Nat.reduceAdd, Nat.reduceMul, Nat.reduceSub, Nat.reduceLT, Nat.reduceLeDiff, Nat.reduceBEq, h1, w1, hx, c]) | (refine qd (by kernel_rfl) (by kernel_rfl) ?_; simp only [go_sem, Nat.reduceEqDiff, reduceIte, Nat.reduceAdd, Nat.reduceMul, Nat.reduceSub, Nat.reduceLT, Nat.reduceLeDiff, Nat.reduceBEq, h1, w1, hx, c]) | refine dk (by kernel_rfl) ?_ | (refine qp (k1) (by simp only [go_sem, Nat.reduceEqDiff, reduceIte, Nat.reduceAdd, Nat.reduceMul, Nat.reduceSub, Nat.reduceLT, Nat.reduceLeDiff, Nat.reduceBEq, h1, w1, hx, c]; first | done | rfl) rfl (by simp only [go_sem, Nat.reduceLT]) rfl rfl ?_; simp only [go_sem, Nat.reduceEqDiff, reduceIte, Nat.reduceAdd, Nat.reduceMul, Nat.reduceSub, Nat.reduceLT, Nat.reduceLeDiff, Nat.reduceBEq, h1, w1, hx, c]))
      refine ⟨⟨i + 1, hlt⟩, [0], ?_, rwL (by repeat (first | exact trivial | refine ⟨rfl, rfl, ?_⟩)) (by rfl) (by simp only [go_sem, Nat.reduceEqDiff, reduceIte, Nat.reduceAdd, Nat.reduceMul, Nat.reduceSub, Nat.reduceLT, Nat.reduceLeDiff, Nat.reduceBEq, hc]; first | done | rfl) (by decide) (by intro m hm; first | omega | (rcases m with _ | _ | _ | _ | m <;> first | exact ⟨by decide, rfl⟩ | omega))⟩
      show r.length - (i + 1) < r.length - i; omega
    · have hc : colI (i + 1) (trimAt r ts) = colI i (trimAt r ts) ++ [e] := by rw [colI_succ]; simp [trimAt, hx, c]
      rw [c] at k1
      repeat (first | apply Aw_seq | apply Aw_block | apply Aw_skip | apply Aw_exit | refine Aw_condt rfl ?_ | refine Aw_condf rfl ?_ | (refine qr ?_; simp only [go_sem, Nat.reduceEqDiff, reduceIte, Nat.reduceAdd, Nat.reduceMul, Nat.reduceSub, Nat.reduceLT, Nat.reduceLeDiff, Nat.reduceBEq, h1, w1, hx, c, hb]) | (refine qd (by kernel_rfl) (by kernel_rfl) ?_; simp only [go_sem, Nat.reduceEqDiff, reduceIte, Nat.reduceAdd, Nat.reduceMul, Nat.reduceSub, Nat.reduceLT, Nat.reduceLeDiff, Nat.reduceBEq, h1, w1, hx, c, hb]) | refine dk (by kernel_rfl) ?_ | (refine qp (k1) (by simp only [go_sem, Nat.reduceEqDiff, reduceIte, Nat.reduceAdd, Nat.reduceMul, Nat.reduceSub, Nat.reduceLT, Nat.reduceLeDiff, Nat.reduceBEq, h1, w1, hx, c, hb]; first | done | rfl) rfl (by simp only [go_sem, Nat.reduceLT]) rfl rfl ?_; simp only [go_sem, Nat.reduceEqDiff, reduceIte, Nat.reduceAdd, Nat.reduceMul, Nat.reduceSub, Nat.reduceLT, Nat.reduceLeDiff, Nat.reduceBEq, h1, w1, hx, c, hb]))
      refine ⟨⟨i + 1, hlt⟩, [14], ?_, rwL (by repeat (first | exact trivial | refine ⟨rfl, rfl, ?_⟩)) (by rfl) (by simp only [go_sem, Nat.reduceEqDiff, reduceIte, Nat.reduceAdd, Nat.reduceMul, Nat.reduceSub, Nat.reduceLT, Nat.reduceLeDiff, Nat.reduceBEq, hc, List.map_append, List.map_cons, List.map_nil]; first | done | rfl) (by decide) (by intro m hm; first | omega | (rcases m with _ | _ | _ | _ | m <;> first | exact ⟨by decide, rfl⟩ | omega))⟩
      show r.length - (i + 1) < r.length - i; omega
  · have h1 : ¬ (i : Int) < (r.length : Int) := by omega
    obtain rfl : i = r.length := by omega
    have e1 : colI r.length (trimAt r ts) = trim1 r ts := rfl
    rw [e1]
    obtain ⟨o, ho⟩ : ∃ o, o = trim1 r ts := ⟨_, rfl⟩
    have hol : o.length ≤ r.length := by rw [ho]; exact trim1_len r ts
    rw [← ho]
    cases b
    · have e2 : trimM r ts false = o := by rw [ho]; rfl
      rw [e2]
      repeat (first | apply Aw_seq | apply Aw_block | apply Aw_skip | apply Aw_exit | refine Aw_condt rfl ?_ | refine Aw_condf rfl ?_ | (refine qr ?_; simp only [go_sem, Nat.reduceEqDiff, reduceIte, Nat.reduceAdd, Nat.reduceMul, Nat.reduceSub, Nat.reduceLT, Nat.reduceLeDiff, Nat.reduceBEq, h1]) | (refine qd (by kernel_rfl) (by kernel_rfl) ?_; simp only [go_sem, Nat.reduceEqDiff, reduceIte, Nat.reduceAdd, Nat.reduceMul, Nat.reduceSub, Nat.reduceLT, Nat.reduceLeDiff, Nat.reduceBEq, h1]) | refine dk (by kernel_rfl) ?_)
      exact Aw_ret (retL (M := [0]) (.inl rfl) (by simp only [go_sem, Nat.reduceEqDiff, reduceIte, Nat.reduceAdd, Nat.reduceMul, Nat.reduceSub, Nat.reduceLT, Nat.reduceLeDiff, Nat.reduceBEq]; first | done | rfl) rfl rfl (by rfl) (by simp only [go_sem, Nat.reduceEqDiff, reduceIte, Nat.reduceAdd, Nat.reduceMul, Nat.reduceSub, Nat.reduceLT, Nat.reduceLeDiff, Nat.reduceBEq]; first | done | rfl | (and_intros <;> rfl)) (by decide) (by intro m hm; first | omega | (rcases m with _ | _ | _ | _ | m <;> first | exact ⟨by decide, rfl⟩ | omega)))
    · have e2 : trimM r ts true = trim2 o := by rw [ho]; rfl
      rw [e2]
      repeat (first | apply Aw_seq | apply Aw_block | apply Aw_skip | apply Aw_exit | refine Aw_condt rfl ?_ | refine Aw_condf rfl ?_ | (refine qr ?_; simp only [go_sem, Nat.reduceEqDiff, reduceIte, Nat.reduceAdd, Nat.reduceMul, Nat.reduceSub, Nat.reduceLT, Nat.reduceLeDiff, Nat.reduceBEq, h1]) | (refine qd (by kernel_rfl) (by kernel_rfl) ?_; simp only [go_sem, Nat.reduceEqDiff, reduceIte, Nat.reduceAdd, Nat.reduceMul, Nat.reduceSub, Nat.reduceLT, Nat.reduceLeDiff, Nat.reduceBEq, h1]) | refine dk (by kernel_rfl) ?_)
      refine Aw.rw (rwL (l' := [(10, .t (iT (0 : Nat))), (9, .t (.c (.h 1))), (7, .t (.c (.h 0)))]) (os := [some (eRow o), some (eRow (colI 0 (lowAt o)))]) (M := [0, 7]) (n' := 2) (by repeat (first | exact trivial | refine ⟨rfl, rfl, ?_⟩)) (by rfl) (by simp only [go_sem, Nat.reduceEqDiff, reduceIte, Nat.reduceAdd, Nat.reduceMul, Nat.reduceSub, Nat.reduceLT, Nat.reduceLeDiff, Nat.reduceBEq, colI_0, List.map_nil]; first | done | rfl) (by decide) (by intro m hm; first | omega | (rcases m with _ | _ | _ | _ | m <;> first | exact ⟨by decide, rfl⟩ | omega))) ?_
      refine Aw.setL (l' := [(10, .t (iT (0 : Nat))), (9, .t (.c (.h 1))), (7, .t (runT o))]) (os' := [none, some (eRow (colI 0 (lowAt o)))]) (n' := 2) [0] (by repeat (first | exact trivial | refine ⟨SetA.same rfl, ?_⟩ | refine ⟨SetA.row rfl rfl (by decide), ?_⟩)) (by repeat (first | exact trivial | refine ⟨rfl, rfl, ?_⟩ | show SubL _ _ _ _)) (by decide) ?_
      refine Aw_loop_rw (ι := { i : Nat // i ≤ o.length }) (fun q => S [(10, .t (iT (q.1 : Nat))), (9, .t (.c (.h 1))), (7, .t (runT o))] (hpL [none, some (eRow (colI q.1 (lowAt o)))]) 2) (fun q => o.length - q.1) ⟨0, Nat.zero_le _⟩ ?_
      rintro ⟨i, hi⟩
      dsimp only
      by_cases hlt : i < o.length
      · have h1 : (i : Int) < (o.length : Int) := by omega
        have w1 := wrap_succ hlt (by omega)
        obtain ⟨e, hx⟩ : ∃ e, o[i]? = some e := ⟨_, List.getElem?_eq_getElem hlt⟩
        have hb : ((colI i (lowAt o)).length + 1) * 40 ≤ 140737488355328 := by have := colI_len (n := i) (lowAt_len o); omega
        have w2 : IntKind.i64.wrap ((i : Int) + 1) = ((i + 1 : Nat) : Int) := w1
        have end_ : ∀ c : List Ent, lowAt o i = c → colI (i + 1) (lowAt o) = colI i (lowAt o) ++ c := fun c h => by rw [colI_succ, h]
        by_cases hn : i + 1 < o.length
        · have h2 : decide (((o.length : Nat) : Int) ≤ ((i + 1 : Nat) : Int)) = false := decide_eq_false (by omega)
          obtain ⟨q, hq⟩ : ∃ e, o[i + 1]? = some e := ⟨_, List.getElem?_eq_getElem hn⟩
          cases c1 : decide (q.key = e.key)
          · cases c2 : e.gone
            · have hc := end_ [e] (by unfold lowAt lastAt; rw [hx]; simp only [hq, c1, c2]; rfl)
              repeat (first | apply Aw_seq | apply Aw_block | apply Aw_skip | apply Aw_exit | refine Aw_condt rfl ?_ | refine Aw_condf rfl ?_ | (refine qr ?_; simp only [go_sem, Nat.reduceEqDiff, reduceIte, Nat.reduceAdd, Nat.reduceMul, Nat.reduceSub, Nat.reduceLT, Nat.reduceLeDiff, Nat.reduceBEq, h1, w1, hx, h2, hq, c1, c2, hb]) | (refine qd (by kernel_rfl) (by kernel_rfl) ?_; simp only [go_sem, Nat.reduceEqDiff, reduceIte, Nat.reduceAdd, Nat.reduceMul, Nat.reduceSub, Nat.reduceLT, Nat.reduceLeDiff, Nat.reduceBEq, h1, w1, hx, h2, hq, c1, c2, hb]) | refine dk (by kernel_rfl) ?_)
              refine ⟨⟨i + 1, hlt⟩, [0, 40], ?_, rwL (by repeat (first | exact trivial | refine ⟨rfl, rfl, ?_⟩)) (by rfl) (by simp only [go_sem, Nat.reduceEqDiff, reduceIte, Nat.reduceAdd, Nat.reduceMul, Nat.reduceSub, Nat.reduceLT, Nat.reduceLeDiff, Nat.reduceBEq, hc, List.map_append, List.map_cons, List.map_nil, c2]; first | done | rfl) (by decide) (by intro m hm; first | omega | (rcases m with _ | _ | _ | _ | m <;> first | exact ⟨by decide, rfl⟩ | omega))⟩
              show o.length - (i + 1) < o.length - i; omega
            · have hc := end_ [] (by unfold lowAt lastAt; rw [hx]; simp only [hq, c1, c2]; rfl)
              repeat (first | apply Aw_seq | apply Aw_block | apply Aw_skip | apply Aw_exit | refine Aw_condt rfl ?_ | refine Aw_condf rfl ?_ | (refine qr ?_; simp only [go_sem, Nat.reduceEqDiff, reduceIte, Nat.reduceAdd, Nat.reduceMul, Nat.reduceSub, Nat.reduceLT, Nat.reduceLeDiff, Nat.reduceBEq, h1, w1, hx, h2, hq, c1, c2, hb]) | (refine qd (by kernel_rfl) (by kernel_rfl) ?_; simp only [go_sem, Nat.reduceEqDiff, reduceIte, Nat.reduceAdd, Nat.reduceMul, Nat.reduceSub, Nat.reduceLT, Nat.reduceLeDiff, Nat.reduceBEq, h1, w1, hx, h2, hq, c1, c2, hb]) | refine dk (by kernel_rfl) ?_)
              refine ⟨⟨i + 1, hlt⟩, [0, 1], ?_, rwL (by repeat (first | exact trivial | refine ⟨rfl, rfl, ?_⟩)) (by rfl) (by simp only [go_sem, Nat.reduceEqDiff, reduceIte, Nat.reduceAdd, Nat.reduceMul, Nat.reduceSub, Nat.reduceLT, Nat.reduceLeDiff, Nat.reduceBEq, hc, List.append_nil]; first | done | rfl) (by decide) (by intro m hm; first | omega | (rcases m with _ | _ | _ | _ | m <;> first | exact ⟨by decide, rfl⟩ | omega))⟩
              show o.length - (i + 1) < o.length - i; omega
          · cases c2 : e.gone
            · have hc := end_ [e] (by unfold lowAt lastAt; rw [hx]; simp only [hq, c1, c2]; rfl)
              repeat (first | apply Aw_seq | apply Aw_block | apply Aw_skip | apply Aw_exit | refine Aw_condt rfl ?_ | refine Aw_condf rfl ?_ | (refine qr ?_; simp only [go_sem, Nat.reduceEqDiff, reduceIte, Nat.reduceAdd, Nat.reduceMul, Nat.reduceSub, Nat.reduceLT, Nat.reduceLeDiff, Nat.reduceBEq, h1, w1, hx, h2, hq, c1, c2, hb]) | (refine qd (by kernel_rfl) (by kernel_rfl) ?_; simp only [go_sem, Nat.reduceEqDiff, reduceIte, Nat.reduceAdd, Nat.reduceMul, Nat.reduceSub, Nat.reduceLT, Nat.reduceLeDiff, Nat.reduceBEq, h1, w1, hx, h2, hq, c1, c2, hb]) | refine dk (by kernel_rfl) ?_)
              refine ⟨⟨i + 1, hlt⟩, [0, 40], ?_, rwL (by repeat (first | exact trivial | refine ⟨rfl, rfl, ?_⟩)) (by rfl) (by simp only [go_sem, Nat.reduceEqDiff, reduceIte, Nat.reduceAdd, Nat.reduceMul, Nat.reduceSub, Nat.reduceLT, Nat.reduceLeDiff, Nat.reduceBEq, hc, List.map_append, List.map_cons, List.map_nil, c2]; first | done | rfl) (by decide) (by intro m hm; first | omega | (rcases m with _ | _ | _ | _ | m <;> first | exact ⟨by decide, rfl⟩ | omega))⟩
              show o.length - (i + 1) < o.length - i; omega
            · have hc := end_ [e] (by unfold lowAt lastAt; rw [hx]; simp only [hq, c1, c2]; rfl)
              repeat (first | apply Aw_seq | apply Aw_block | apply Aw_skip | apply Aw_exit | refine Aw_condt rfl ?_ | refine Aw_condf rfl ?_ | (refine qr ?_; simp only [go_sem, Nat.reduceEqDiff, reduceIte, Nat.reduceAdd, Nat.reduceMul, Nat.reduceSub, Nat.reduceLT, Nat.reduceLeDiff, Nat.reduceBEq, h1, w1, hx, h2, hq, c1, c2, hb]) | (refine qd (by kernel_rfl) (by kernel_rfl) ?_; simp only [go_sem, Nat.reduceEqDiff, reduceIte, Nat.reduceAdd, Nat.reduceMul, Nat.reduceSub, Nat.reduceLT, Nat.reduceLeDiff, Nat.reduceBEq, h1, w1, hx, h2, hq, c1, c2, hb]) | refine dk (by kernel_rfl) ?_)
              refine ⟨⟨i + 1, hlt⟩, [0, 42], ?_, rwL (by repeat (first | exact trivial | refine ⟨rfl, rfl, ?_⟩)) (by rfl) (by simp only [go_sem, Nat.reduceEqDiff, reduceIte, Nat.reduceAdd, Nat.reduceMul, Nat.reduceSub, Nat.reduceLT, Nat.reduceLeDiff, Nat.reduceBEq, hc, List.map_append, List.map_cons, List.map_nil, c2]; first | done | rfl) (by decide) (by intro m hm; first | omega | (rcases m with _ | _ | _ | _ | m <;> first | exact ⟨by decide, rfl⟩ | omega))⟩
              show o.length - (i + 1) < o.length - i; omega
        · have h2 : decide (((o.length : Nat) : Int) ≤ ((i + 1 : Nat) : Int)) = true := decide_eq_true (by omega)
          have hn2 : o[i + 1]? = none := List.getElem?_eq_none (by omega)
          cases c2 : e.gone
          · have hc := end_ [e] (by unfold lowAt lastAt; rw [hx]; simp only [hn2, c2]; rfl)
            repeat (first | apply Aw_seq | apply Aw_block | apply Aw_skip | apply Aw_exit | refine Aw_condt rfl ?_ | refine Aw_condf rfl ?_ | (refine qr ?_; simp only [go_sem, Nat.reduceEqDiff, reduceIte, Nat.reduceAdd, Nat.reduceMul, Nat.reduceSub, Nat.reduceLT, Nat.reduceLeDiff, Nat.reduceBEq, h1, w1, hx, h2, hn, c2, hb]) | (refine qd (by kernel_rfl) (by kernel_rfl) ?_; simp only [go_sem, Nat.reduceEqDiff, reduceIte, Nat.reduceAdd, Nat.reduceMul, Nat.reduceSub, Nat.reduceLT, Nat.reduceLeDiff, Nat.reduceBEq, h1, w1, hx, h2, hn, c2, hb]) | refine dk (by kernel_rfl) ?_)
            refine ⟨⟨i + 1, hlt⟩, [0, 28], ?_, rwL (by repeat (first | exact trivial | refine ⟨rfl, rfl, ?_⟩)) (by rfl) (by simp only [go_sem, Nat.reduceEqDiff, reduceIte, Nat.reduceAdd, Nat.reduceMul, Nat.reduceSub, Nat.reduceLT, Nat.reduceLeDiff, Nat.reduceBEq, hc, List.map_append, List.map_cons, List.map_nil, c2]; first | done | rfl) (by decide) (by intro m hm; first | omega | (rcases m with _ | _ | _ | _ | m <;> first | exact ⟨by decide, rfl⟩ | omega))⟩
            show o.length - (i + 1) < o.length - i; omega
          · have hc := end_ [] (by unfold lowAt lastAt; rw [hx]; simp only [hn2, c2]; rfl)
            repeat (first | apply Aw_seq | apply Aw_block | apply Aw_skip | apply Aw_exit | refine Aw_condt rfl ?_ | refine Aw_condf rfl ?_ | (refine qr ?_; simp only [go_sem, Nat.reduceEqDiff, reduceIte, Nat.reduceAdd, Nat.reduceMul, Nat.reduceSub, Nat.reduceLT, Nat.reduceLeDiff, Nat.reduceBEq, h1, w1, hx, h2, hn, c2, hb]) | (refine qd (by kernel_rfl) (by kernel_rfl) ?_; simp only [go_sem, Nat.reduceEqDiff, reduceIte, Nat.reduceAdd, Nat.reduceMul, Nat.reduceSub, Nat.reduceLT, Nat.reduceLeDiff, Nat.reduceBEq, h1, w1, hx, h2, hn, c2, hb]) | refine dk (by kernel_rfl) ?_)
            refine ⟨⟨i + 1, hlt⟩, [0, 1], ?_, rwL (by repeat (first | exact trivial | refine ⟨rfl, rfl, ?_⟩)) (by rfl) (by simp only [go_sem, Nat.reduceEqDiff, reduceIte, Nat.reduceAdd, Nat.reduceMul, Nat.reduceSub, Nat.reduceLT, Nat.reduceLeDiff, Nat.reduceBEq, hc, List.append_nil]; first | done | rfl) (by decide) (by intro m hm; first | omega | (rcases m with _ | _ | _ | _ | m <;> first | exact ⟨by decide, rfl⟩ | omega))⟩
            show o.length - (i + 1) < o.length - i; omega
      · have h1 : ¬ (i : Int) < (o.length : Int) := by omega
        obtain rfl : i = o.length := by omega
        repeat (first | apply Aw_seq | apply Aw_block | apply Aw_skip | apply Aw_exit | refine Aw_condt rfl ?_ | refine Aw_condf rfl ?_ | (refine qr ?_; simp only [go_sem, Nat.reduceEqDiff, reduceIte, Nat.reduceAdd, Nat.reduceMul, Nat.reduceSub, Nat.reduceLT, Nat.reduceLeDiff, Nat.reduceBEq, h1]) | (refine qd (by kernel_rfl) (by kernel_rfl) ?_; simp only [go_sem, Nat.reduceEqDiff, reduceIte, Nat.reduceAdd, Nat.reduceMul, Nat.reduceSub, Nat.reduceLT, Nat.reduceLeDiff, Nat.reduceBEq, h1]) | refine dk (by kernel_rfl) ?_)
        exact Aw_ret (retL (M := [1]) (.inl rfl) (by simp only [go_sem, Nat.reduceEqDiff, reduceIte, Nat.reduceAdd, Nat.reduceMul, Nat.reduceSub, Nat.reduceLT, Nat.reduceLeDiff, Nat.reduceBEq]; first | done | rfl) rfl rfl (by rfl) (by simp only [go_sem, Nat.reduceEqDiff, reduceIte, Nat.reduceAdd, Nat.reduceMul, Nat.reduceSub, Nat.reduceLT, Nat.reduceLeDiff, Nat.reduceBEq, trim2]; first | done | rfl | (and_intros <;> rfl)) (by decide) (by intro m hm; first | omega | (rcases m with _ | _ | _ | _ | m <;> first | exact ⟨by decide, rfl⟩ | omega)))
theorem l11TrimS_ac (r : List Ent) (ts : List Int) (b : Bool) (hr : r.length ≤ 100000) (ht : ts.length ≤ 100000) : AC Try.prog 207 [runT r, intsT ts, bT b] noHp 0 ⟨.t (runT (trimM r ts b)), noHp, 0⟩ := AC.settle0 [0] (l11Trim_ac r ts b hr ht) (SetC.row0 rfl rfl) rfl
end Go.Proofs.Ytcbhgglpgphimaa.Ab
namespace Go.Proofs.Ytcbhgglpgphimaa.Ab
set_option linter.deprecated false
set_option linter.unusedVariables false
set_option linter.unusedSimpArgs false
open Go Go.Proofs
set_option maxRecDepth 10000
set_option maxHeartbeats 8000000
set_option linter.unusedSimpArgs false
set_option linter.unusedVariables false
/-- What is left of a heap when some rows are settled; what held them holds their data. -/
def SubS (hp : Hp) (L : List Nat) (i : Nat) : List (Option Obj) → List (Option Obj) → Prop
  | some o :: s, some o' :: s' => (o' = o ∨ SetO hp L o o') ∧ L.contains i = false ∧ SubS hp L (i + 1) s s'
  | _ :: s, none :: s' => SubS hp L (i + 1) s s'
  | _, [] => True
  | _, _ => False
theorem subS_get {hp : Hp} {L : List Nat} : ∀ {i : Nat} {os os' : List (Option Obj)}, SubS hp L i os os' → ∀ m o', hpL os' m = some o' → L.contains (i + m) = false ∧ ∃ o, hpL os m = some o ∧ (o' = o ∨ SetO hp L o o')
  | i, some o :: s, some o' :: s', h, 0, q, hq => by
    rw [l_c0] at hq ⊢; obtain ⟨h1, h2, _⟩ := h; cases hq; exact ⟨h2, o, rfl, h1⟩
  | i, some o :: s, some o' :: s', h, m + 1, q, hq => by
    rw [l_c1] at hq ⊢; have := subS_get h.2.2 m q hq; rw [show i + (m + 1) = i + 1 + m by omega]; exact this
  | i, o :: s, none :: s', h, 0, q, hq => by rw [l_c0] at hq; cases hq
  | i, some o :: s, none :: s', h, m + 1, q, hq => by
    rw [l_c1] at hq ⊢; have := subS_get (os := s) (os' := s') h m q hq; rw [show i + (m + 1) = i + 1 + m by omega]; exact this
  | i, none :: s, none :: s', h, m + 1, q, hq => by
    rw [l_c1] at hq ⊢; have := subS_get (os := s) (os' := s') h m q hq; rw [show i + (m + 1) = i + 1 + m by omega]; exact this
  | _, _, [], _, m, q, hq => by rw [l_n] at hq; cases hq
  | _, [], none :: _, h, _, _, _ => h.elim
  | _, [], some _ :: _, h, _, _, _ => h.elim
  | _, none :: _, some _ :: _, h, _, _, _ => h.elim
theorem AC.setS {P : Program} {f : FuncId} {args : List TV} {hp : Hp} {k : Nat} {x y : AV} {os os' : List (Option Obj)} {n : Nat} (L : List Nat) (h : AC P f args hp k ⟨x, hpL os, n⟩) (hr : SetA (hpL os) L x y) (hs : SubS (hpL os) L 0 os os') : AC P f args hp k ⟨y, hpL os', n⟩ :=
  AC.settle h hr (fun m o' hm => by
    obtain ⟨h1, o, h2, h3⟩ := subS_get hs m o' hm
    exact ⟨by simpa using h1, o, h2, h3⟩) (Nat.le_refl n)
def lvRow (l : List (List Ent)) : Obj := dRow 24 1 (l.map lvD)
@[go_sem] theorem r_lvRow (l : List (List Ent)) : lvRow l = dRow 24 1 (l.map lvD) := rfl
abbrev hT (s : Sto) : TV := .agg [.d (.rs 4 (s.top.map entD)), .h 0, .h 1, .d (.s (.int .i64 s.keep)), .d (.s (.int .i64 s.time)), .d (.rs 1 (s.times.map intD))]
def hS (s : Sto) : List (Option Obj) := [some (lvRow s.levels), some (svRow s.sieves)]
@[go_sem] theorem r_hS (s : Sto) : hS s = [some (dRow 24 1 (s.levels.map lvD)), some (dRow 67 5 (s.sieves.map sveD))] := rfl
/-- A level that is set. -/
def setM (s : Sto) (i : Nat) (r : List Ent) : Option Sto := match sieveM (keysM r) s.keep with
  | some x => if r.length ≤ 8 * (i + 1) then some { s with levels := s.levels.set i r, sieves := s.sieves.set i x } else none
  | none => none
abbrev zA : TV := .agg [.d (.s (.slice none 0 0)), .d (.s (.slice none 0 0)), .d (.s (.slice none 0 0)), .d (.s (.int .i64 0)), .d (.s (.int .i64 0)), .d (.s (.slice none 0 0))]
theorem zA_nil : NilA (.tup [zA, bT false]) (.tup [stT zSto, bT false]) := .cons (.cons (NilC.nil _) (.cons (NilC.nil _) (.cons (NilC.nil _) (.cons (.inl rfl) (.cons (.inl rfl) (.cons (NilC.nil _) .nil)))))) (.cons (NilT.refl _) .nil)
theorem l12Set_no (s : Sto) (i : Nat) (r : List Ent) (hi : i ≤ 1000) (hr : SmR r) (h : setM s i r = none) : AC Try.prog 203 [hT s, iT i, runT r] (hpL (hS s)) 2 ⟨.tup [stT zSto, bT false], hpL (hS s), 2⟩ := by
  refine AC.nilR ?_ zA_nil
  refine AC_of Try.func203 rfl Try.ntmps203 Try.results203 (by kernel_rfl) rfl ?_
  simp only [List.zipIdx, List.map, Nat.zero_add, Nat.reduceAdd]
  have k1 := skeysOfS_ac r hr
  have k2 := ssieveS_ac (keysM r) s.keep (smS_keys hr)
  have k4 := l12Size_ac i hi
  cases hm : sieveM (keysM r) s.keep with
  | none =>
    rw [hm] at k2
    repeat (first | apply Aw_seq | apply Aw_block | apply Aw_skip | apply Aw_exit | refine Aw_condt rfl ?_ | refine Aw_condf rfl ?_ | (refine qr ?_; simp only [go_sem, Nat.reduceEqDiff, reduceIte, Nat.reduceAdd, Nat.reduceMul, Nat.reduceSub, Nat.reduceLT, Nat.reduceLeDiff, Nat.reduceBEq]) | (refine qd (by kernel_rfl) (by kernel_rfl) ?_; simp only [go_sem, Nat.reduceEqDiff, reduceIte, Nat.reduceAdd, Nat.reduceMul, Nat.reduceSub, Nat.reduceLT, Nat.reduceLeDiff, Nat.reduceBEq]) | refine dk (by kernel_rfl) ?_ | (refine qp (k1) (by simp only [go_sem, Nat.reduceEqDiff, reduceIte, Nat.reduceAdd, Nat.reduceMul, Nat.reduceSub, Nat.reduceLT, Nat.reduceLeDiff, Nat.reduceBEq]; first | done | rfl) rfl (by simp only [go_sem, Nat.reduceLT]) rfl rfl ?_; simp only [go_sem, Nat.reduceEqDiff, reduceIte, Nat.reduceAdd, Nat.reduceMul, Nat.reduceSub, Nat.reduceLT, Nat.reduceLeDiff, Nat.reduceBEq]) | (refine qp (k2) (by simp only [go_sem, Nat.reduceEqDiff, reduceIte, Nat.reduceAdd, Nat.reduceMul, Nat.reduceSub, Nat.reduceLT, Nat.reduceLeDiff, Nat.reduceBEq]; first | done | rfl) rfl (by simp only [go_sem, Nat.reduceLT]) rfl rfl ?_; simp only [go_sem, Nat.reduceEqDiff, reduceIte, Nat.reduceAdd, Nat.reduceMul, Nat.reduceSub, Nat.reduceLT, Nat.reduceLeDiff, Nat.reduceBEq]))
    exact Aw_ret (retL (M := [0, 1]) (.inl rfl) (by simp only [go_sem, Nat.reduceEqDiff, reduceIte, Nat.reduceAdd, Nat.reduceMul, Nat.reduceSub, Nat.reduceLT, Nat.reduceLeDiff, Nat.reduceBEq]; first | done | rfl) rfl rfl (by rfl) (by simp only [go_sem, Nat.reduceEqDiff, reduceIte, Nat.reduceAdd, Nat.reduceMul, Nat.reduceSub, Nat.reduceLT, Nat.reduceLeDiff, Nat.reduceBEq]; first | done | rfl | (and_intros <;> rfl)) (by decide) (by intro m hm; first | omega | (rcases m with _ | _ | _ | _ | m <;> first | exact ⟨by decide, rfl⟩ | omega)))
  | some x =>
    rw [hm] at k2
    have h1 : decide (((8 * (i + 1) : Nat) : Int) < (r.length : Int)) = true := decide_eq_true (by unfold setM at h; rw [hm] at h; simp at h; omega)
    repeat (first | apply Aw_seq | apply Aw_block | apply Aw_skip | apply Aw_exit | refine Aw_condt rfl ?_ | refine Aw_condf rfl ?_ | (refine qr ?_; simp only [go_sem, Nat.reduceEqDiff, reduceIte, Nat.reduceAdd, Nat.reduceMul, Nat.reduceSub, Nat.reduceLT, Nat.reduceLeDiff, Nat.reduceBEq, h1]) | (refine qd (by kernel_rfl) (by kernel_rfl) ?_; simp only [go_sem, Nat.reduceEqDiff, reduceIte, Nat.reduceAdd, Nat.reduceMul, Nat.reduceSub, Nat.reduceLT, Nat.reduceLeDiff, Nat.reduceBEq, h1]) | refine dk (by kernel_rfl) ?_ | (refine qp (k1) (by simp only [go_sem, Nat.reduceEqDiff, reduceIte, Nat.reduceAdd, Nat.reduceMul, Nat.reduceSub, Nat.reduceLT, Nat.reduceLeDiff, Nat.reduceBEq, h1]; first | done | rfl) rfl (by simp only [go_sem, Nat.reduceLT]) rfl rfl ?_; simp only [go_sem, Nat.reduceEqDiff, reduceIte, Nat.reduceAdd, Nat.reduceMul, Nat.reduceSub, Nat.reduceLT, Nat.reduceLeDiff, Nat.reduceBEq, h1]) | (refine qp (k2) (by simp only [go_sem, Nat.reduceEqDiff, reduceIte, Nat.reduceAdd, Nat.reduceMul, Nat.reduceSub, Nat.reduceLT, Nat.reduceLeDiff, Nat.reduceBEq, h1]; first | done | rfl) rfl (by simp only [go_sem, Nat.reduceLT]) rfl rfl ?_; simp only [go_sem, Nat.reduceEqDiff, reduceIte, Nat.reduceAdd, Nat.reduceMul, Nat.reduceSub, Nat.reduceLT, Nat.reduceLeDiff, Nat.reduceBEq, h1]) | (refine qp (k4) (by simp only [go_sem, Nat.reduceEqDiff, reduceIte, Nat.reduceAdd, Nat.reduceMul, Nat.reduceSub, Nat.reduceLT, Nat.reduceLeDiff, Nat.reduceBEq, h1]; first | done | rfl) rfl (by simp only [go_sem, Nat.reduceLT]) rfl rfl ?_; simp only [go_sem, Nat.reduceEqDiff, reduceIte, Nat.reduceAdd, Nat.reduceMul, Nat.reduceSub, Nat.reduceLT, Nat.reduceLeDiff, Nat.reduceBEq, h1]))
    exact Aw_ret (retL (M := [0, 1]) (.inl rfl) (by simp only [go_sem, Nat.reduceEqDiff, reduceIte, Nat.reduceAdd, Nat.reduceMul, Nat.reduceSub, Nat.reduceLT, Nat.reduceLeDiff, Nat.reduceBEq]; first | done | rfl) rfl rfl (by rfl) (by simp only [go_sem, Nat.reduceEqDiff, reduceIte, Nat.reduceAdd, Nat.reduceMul, Nat.reduceSub, Nat.reduceLT, Nat.reduceLeDiff, Nat.reduceBEq]; first | done | rfl | (and_intros <;> rfl)) (by decide) (by intro m hm; first | omega | (rcases m with _ | _ | _ | _ | m <;> first | exact ⟨by decide, rfl⟩ | omega)))
theorem set_lv (l : List (List Ent)) (i : Nat) (r : List Ent) : ((l.map lvD).map (·.map CV.d)).set i [.d (.rs 4 (r.map entD))] = ((l.set i r).map lvD).map (·.map CV.d) := by
  rw [List.map_set, List.map_set]; rfl
theorem set_sv (l : List Sve) (i : Nat) (x : Sve) : ((l.map sveD).map (·.map CV.d)).set i [.d (.s (.string x.letters)), .d (.s (.string x.more)), .d (.s (.string x.first)), .d (.rs 1 (x.rests.map strD)), .d (.s (.int .i64 x.keep))] = ((l.set i x).map sveD).map (·.map CV.d) := by
  rw [List.map_set, List.map_set]; rfl
theorem l12Set_ok (s s' : Sto) (i : Nat) (r : List Ent) (hi : i ≤ 1000) (hl : i < s.levels.length) (hv : i < s.sieves.length) (hr : SmR r) (h : setM s i r = some s') : AC Try.prog 203 [hT s, iT i, runT r] (hpL (hS s)) 2 ⟨.tup [hT s', bT true], hpL (hS s'), 2⟩ := by
  refine AC_of Try.func203 rfl Try.ntmps203 Try.results203 (by kernel_rfl) rfl ?_
  simp only [List.zipIdx, List.map, Nat.zero_add, Nat.reduceAdd]
  have k1 := skeysOfS_ac r hr
  have k2 := ssieveS_ac (keysM r) s.keep (smS_keys hr)
  have k4 := l12Size_ac i hi
  unfold setM at h
  cases hm : sieveM (keysM r) s.keep with
  | none => rw [hm] at h; cases h
  | some x =>
    rw [hm] at h k2
    have hx : (some x).getD zSve = x := rfl
    rw [hx] at k2
    by_cases hc : r.length ≤ 8 * (i + 1)
    · simp only [if_pos hc, Option.some.injEq] at h
      subst h
      have h1 : decide (((8 * (i + 1) : Nat) : Int) < (r.length : Int)) = false := decide_eq_false (by omega)
      obtain ⟨e1, he1⟩ : ∃ e, s.levels[i]? = some e := ⟨_, List.getElem?_eq_getElem hl⟩
      obtain ⟨e2, he2⟩ : ∃ e, s.sieves[i]? = some e := ⟨_, List.getElem?_eq_getElem hv⟩
      repeat (first | apply Aw_seq | apply Aw_block | apply Aw_skip | apply Aw_exit | refine Aw_condt rfl ?_ | refine Aw_condf rfl ?_ | (refine qr ?_; simp only [go_sem, Nat.reduceEqDiff, reduceIte, Nat.reduceAdd, Nat.reduceMul, Nat.reduceSub, Nat.reduceLT, Nat.reduceLeDiff, Nat.reduceBEq, h1, hl, hv, he1, he2]) | (refine qd (by kernel_rfl) (by kernel_rfl) ?_; simp only [go_sem, Nat.reduceEqDiff, reduceIte, Nat.reduceAdd, Nat.reduceMul, Nat.reduceSub, Nat.reduceLT, Nat.reduceLeDiff, Nat.reduceBEq, h1, hl, hv, he1, he2]) | refine dk (by kernel_rfl) ?_ | (refine qp (k1) (by simp only [go_sem, Nat.reduceEqDiff, reduceIte, Nat.reduceAdd, Nat.reduceMul, Nat.reduceSub, Nat.reduceLT, Nat.reduceLeDiff, Nat.reduceBEq, h1, hl, hv, he1, he2]; first | done | rfl) rfl (by simp only [go_sem, Nat.reduceLT]) rfl rfl ?_; simp only [go_sem, Nat.reduceEqDiff, reduceIte, Nat.reduceAdd, Nat.reduceMul, Nat.reduceSub, Nat.reduceLT, Nat.reduceLeDiff, Nat.reduceBEq, h1, hl, hv, he1, he2]) | (refine qp (k2) (by simp only [go_sem, Nat.reduceEqDiff, reduceIte, Nat.reduceAdd, Nat.reduceMul, Nat.reduceSub, Nat.reduceLT, Nat.reduceLeDiff, Nat.reduceBEq, h1, hl, hv, he1, he2]; first | done | rfl) rfl (by simp only [go_sem, Nat.reduceLT]) rfl rfl ?_; simp only [go_sem, Nat.reduceEqDiff, reduceIte, Nat.reduceAdd, Nat.reduceMul, Nat.reduceSub, Nat.reduceLT, Nat.reduceLeDiff, Nat.reduceBEq, h1, hl, hv, he1, he2]) | (refine qp (k4) (by simp only [go_sem, Nat.reduceEqDiff, reduceIte, Nat.reduceAdd, Nat.reduceMul, Nat.reduceSub, Nat.reduceLT, Nat.reduceLeDiff, Nat.reduceBEq, h1, hl, hv, he1, he2]; first | done | rfl) rfl (by simp only [go_sem, Nat.reduceLT]) rfl rfl ?_; simp only [go_sem, Nat.reduceEqDiff, reduceIte, Nat.reduceAdd, Nat.reduceMul, Nat.reduceSub, Nat.reduceLT, Nat.reduceLeDiff, Nat.reduceBEq, h1, hl, hv, he1, he2]))
      exact Aw_ret (retL (M := [0, 1]) (.inl rfl) (by simp only [go_sem, Nat.reduceEqDiff, reduceIte, Nat.reduceAdd, Nat.reduceMul, Nat.reduceSub, Nat.reduceLT, Nat.reduceLeDiff, Nat.reduceBEq]; first | done | rfl) rfl rfl (by rfl) (by simp only [go_sem, Nat.reduceEqDiff, reduceIte, Nat.reduceAdd, Nat.reduceMul, Nat.reduceSub, Nat.reduceLT, Nat.reduceLeDiff, Nat.reduceBEq, set_lv, set_sv]; first | done | rfl | (and_intros <;> rfl)) (by decide) (by intro m hm; first | omega | (rcases m with _ | _ | _ | _ | m <;> first | exact ⟨by decide, rfl⟩ | omega)))
    · simp [hc] at h
end Go.Proofs.Ytcbhgglpgphimaa.Ab
namespace Go.Proofs.Ytcbhgglpgphimaa.Ab
set_option linter.deprecated false
set_option linter.unusedVariables false
set_option linter.unusedSimpArgs false
open Go Go.Proofs
set_option maxRecDepth 10000
set_option maxHeartbeats 8000000
set_option linter.unusedSimpArgs false
set_option linter.unusedVariables false
@[go_sem] theorem all_intD (q : List Int) : (List.map (fun x => List.map CV.d x) (List.map intD q)).all (fun cs => cs.length == 1) = true := by simp [intD]
@[go_sem] theorem r_ixR1 {P : Program} {hp : Hp} (e k : Nat) (els : List (List D)) : ixR P hp e k els 1 = match tiOf P e with
    | some E => if E.sz = k ∧ 0 < k then (els[1]?).map fun cs => (.t (.c (.pr cs)), hp) else none
    | none => none := r_ixR (hp := hp) e k els 1
@[go_sem] theorem r_ixR2 {P : Program} {hp : Hp} (e k : Nat) (els : List (List D)) : ixR P hp e k els 2 = match tiOf P e with
    | some E => if E.sz = k ∧ 0 < k then (els[2]?).map fun cs => (.t (.c (.pr cs)), hp) else none
    | none => none := r_ixR (hp := hp) e k els 2
theorem l12Copy_ac (top a b c : List Ent) (x y z : Sve) (keep time : Int) (ts : List Int) (h0 : top.length ≤ 100000) (h1 : a.length ≤ 100000) (h2 : b.length ≤ 100000) (h3 : c.length ≤ 100000) (h4 : x.rests.length ≤ 1099511627776) (h5 : y.rests.length ≤ 1099511627776) (h6 : z.rests.length ≤ 1099511627776) (h7 : ts.length ≤ 100000) :
    AC Try.prog 192 [stT ⟨top, [a, b, c], [x, y, z], keep, time, ts⟩] noHp 0 ⟨.t (.agg [.h 0, .h 1, .h 2, .d (.s (.int .i64 keep)), .d (.s (.int .i64 time)), .h 3]),
      hpL [some (eRow top), some ⟨24, 1, true, [[.h 4], [.h 5], [.h 6]]⟩, some ⟨67, 5, true, [[.d (.s (.string x.letters)), .d (.s (.string x.more)), .d (.s (.string x.first)), .h 7, .d (.s (.int .i64 x.keep))], [.d (.s (.string y.letters)), .d (.s (.string y.more)), .d (.s (.string y.first)), .h 8, .d (.s (.int .i64 y.keep))], [.d (.s (.string z.letters)), .d (.s (.string z.more)), .d (.s (.string z.first)), .h 9, .d (.s (.int .i64 z.keep))]]⟩,
        some (dRow 3 1 (ts.map intD)), some (eRow a), some (eRow b), some (eRow c), some (kRow x.rests), some (kRow y.rests), some (kRow z.rests)], 10⟩ := by
  refine AC_of Try.func192 rfl Try.ntmps192 Try.results192 (by kernel_rfl) rfl ?_
  simp only [List.zipIdx, List.map, Nat.zero_add, Nat.reduceAdd]
  have q0 : top.length * 40 ≤ 140737488355328 := by omega
  have q1 : a.length * 40 ≤ 140737488355328 := by omega
  have q2 : b.length * 40 ≤ 140737488355328 := by omega
  have q3 : c.length * 40 ≤ 140737488355328 := by omega
  have q4 : x.rests.length * 16 ≤ 140737488355328 := by omega
  have q5 : y.rests.length * 16 ≤ 140737488355328 := by omega
  have q6 : z.rests.length * 16 ≤ 140737488355328 := by omega
  have q7 : ts.length * 8 ≤ 140737488355328 := by omega
  repeat (first | apply Aw_seq | apply Aw_block | apply Aw_skip | apply Aw_exit | refine Aw_condt rfl ?_ | refine Aw_condf rfl ?_ | (refine qr ?_; simp only [go_sem, Nat.reduceEqDiff, reduceIte, Nat.reduceAdd, Nat.reduceMul, Nat.reduceSub, Nat.reduceLT, Nat.reduceLeDiff, Nat.reduceBEq, q0, q7]) | (refine qd (by kernel_rfl) (by kernel_rfl) ?_; simp only [go_sem, Nat.reduceEqDiff, reduceIte, Nat.reduceAdd, Nat.reduceMul, Nat.reduceSub, Nat.reduceLT, Nat.reduceLeDiff, Nat.reduceBEq, q0, q7]) | refine dk (by kernel_rfl) ?_)
  refine Aw_rounds 4 ?_
  refine AwR_succ ?_
  repeat (first | apply Aw_seq | apply Aw_block | apply Aw_skip | apply Aw_exit | refine Aw_condt rfl ?_ | refine Aw_condf rfl ?_ | (refine qr ?_; simp only [go_sem, Nat.reduceEqDiff, reduceIte, Nat.reduceAdd, Nat.reduceMul, Nat.reduceSub, Nat.reduceLT, Nat.reduceLeDiff, Nat.reduceBEq, e03, w01, w12, w23, e13, e23, e33, q1, q2, q3, q4, q5, q6]) | (refine qd (by kernel_rfl) (by kernel_rfl) ?_; simp only [go_sem, Nat.reduceEqDiff, reduceIte, Nat.reduceAdd, Nat.reduceMul, Nat.reduceSub, Nat.reduceLT, Nat.reduceLeDiff, Nat.reduceBEq, e03, w01, w12, w23, e13, e23, e33, q1, q2, q3, q4, q5, q6]) | refine dk (by kernel_rfl) ?_)
  exact Aw_ret (retL (M := [8, 121, 141, 14, 37, 78, 119, 52, 93, 134]) (.inl rfl) (by simp only [go_sem, Nat.reduceEqDiff, reduceIte, Nat.reduceAdd, Nat.reduceMul, Nat.reduceSub, Nat.reduceLT, Nat.reduceLeDiff, Nat.reduceBEq]; first | done | rfl) rfl rfl (by rfl) (by simp only [go_sem, Nat.reduceEqDiff, reduceIte, Nat.reduceAdd, Nat.reduceMul, Nat.reduceSub, Nat.reduceLT, Nat.reduceLeDiff, Nat.reduceBEq]; first | done | rfl | (and_intros <;> rfl)) (by decide) (by intro m hm; first | omega | (rcases m with _ | _ | _ | _ | m <;> first | exact ⟨by decide, rfl⟩ | omega)))
theorem l12CopyS_ac (top a b c : List Ent) (x y z : Sve) (keep time : Int) (ts : List Int) (h0 : top.length ≤ 100000) (h1 : a.length ≤ 100000) (h2 : b.length ≤ 100000) (h3 : c.length ≤ 100000) (h4 : x.rests.length ≤ 1099511627776) (h5 : y.rests.length ≤ 1099511627776) (h6 : z.rests.length ≤ 1099511627776) (h7 : ts.length ≤ 100000) :
    AC Try.prog 192 [stT ⟨top, [a, b, c], [x, y, z], keep, time, ts⟩] noHp 0 ⟨.t (hT ⟨top, [a, b, c], [x, y, z], keep, time, ts⟩), hpL (hS ⟨top, [a, b, c], [x, y, z], keep, time, ts⟩), 2⟩ := by
  have h := AC.setS [0, 3, 4, 5, 6, 7, 8, 9] (l12Copy_ac top a b c x y z keep time ts h0 h1 h2 h3 h4 h5 h6 h7) (y := .t (.agg [.d (.rs 4 (top.map entD)), .h 1, .h 2, .d (.s (.int .i64 keep)), .d (.s (.int .i64 time)), .d (.rs 1 (ts.map intD))])) (os' := [none, some (lvRow [a, b, c]), some (svRow [x, y, z])])
    (.cons (SetC.row0 rfl rfl) (.cons (.inl rfl) (.cons (.inl rfl) (.cons (.inl rfl) (.cons (.inl rfl) (.cons (SetC.row0 rfl rfl) .nil))))))
    ⟨.inr ⟨rfl, rfl, rfl, .cons (.cons (SetC.row0 rfl rfl) .nil) (.cons (.cons (SetC.row0 rfl rfl) .nil) (.cons (.cons (SetC.row0 rfl rfl) .nil) .nil))⟩, rfl,
      .inr ⟨rfl, rfl, rfl, .cons (.cons (.inl rfl) (.cons (.inl rfl) (.cons (.inl rfl) (.cons (SetC.row0 rfl rfl) (.cons (.inl rfl) .nil))))) (.cons (.cons (.inl rfl) (.cons (.inl rfl) (.cons (.inl rfl) (.cons (SetC.row0 rfl rfl) (.cons (.inl rfl) .nil))))) (.cons (.cons (.inl rfl) (.cons (.inl rfl) (.cons (.inl rfl) (.cons (SetC.row0 rfl rfl) (.cons (.inl rfl) .nil))))) .nil))⟩, rfl, trivial⟩
  refine AC.sel (M := [1, 2]) h rfl rfl (selL rfl ?_) (by decide) fun m hm => absurd hm (by omega)
  simp only [go_sem, LeftL]
end Go.Proofs.Ytcbhgglpgphimaa.Ab
namespace Go.Proofs.Ytcbhgglpgphimaa.Ab
set_option linter.deprecated false
set_option linter.unusedVariables false
set_option linter.unusedSimpArgs false
open Go Go.Proofs
set_option maxRecDepth 10000
set_option maxHeartbeats 8000000
set_option linter.unusedSimpArgs false
set_option linter.unusedVariables false
structure SmH (s : Sto) : Prop where
  ll : s.levels.length = 3
  sl : s.sieves.length = 3
  lev : ∀ r ∈ s.levels, SmR r ∧ r.length ≤ 1000
  tl : s.times.length ≤ 1000
def intoM : Nat → Sto → Nat → List Ent → Option Sto
  | 0, s, i, r => setM s i (trimM (joinM r (s.levels.getD i [])) s.times true)
  | d + 1, s, i, r => match setM s i (trimM (joinM r (s.levels.getD i [])) s.times false) with
    | some x => some x
    | none => (intoM d s (i + 1) (s.levels.getD i [])).bind fun s1 => setM s1 i (trimM r s1.times false)
theorem smR_join {a b : List Ent} (ha : SmR a) (hb : SmR b) (h1 : a.length ≤ 1000) (h2 : b.length ≤ 1000) : SmR (joinM a b) := ⟨by rw [joinM_len]; omega, fun e he => (mem_joinM he).elim (ha.key e) (hb.key e)⟩
theorem smR_trim {a : List Ent} (ha : SmR a) (ts : List Int) (b : Bool) : SmR (trimM a ts b) := ⟨Nat.le_trans (trimM_len a ts b) ha.len, fun e he => ha.key e (mem_trimM he)⟩
theorem setM_ok {s s' : Sto} {i : Nat} {r : List Ent} (h : setM s i r = some s') : ∃ x, s' = { s with levels := s.levels.set i r, sieves := s.sieves.set i x } ∧ sieveM (keysM r) s.keep = some x ∧ r.length ≤ 8 * (i + 1) := by
  unfold setM at h
  cases hm : sieveM (keysM r) s.keep with
  | none => rw [hm] at h; cases h
  | some x =>
    rw [hm] at h
    simp only at h
    split at h
    · exact ⟨x, (Option.some.inj h).symm, rfl, by assumption⟩
    · cases h
theorem setM_sm {s s' : Sto} {i : Nat} {r : List Ent} (hs : SmH s) (hi : i ≤ 2) (hr : SmR r) (h : setM s i r = some s') : SmH s' := by
  obtain ⟨x, rfl, _, hl⟩ := setM_ok h
  refine ⟨by simp [hs.ll], by simp [hs.sl], fun q hq => ?_, hs.tl⟩
  rcases List.mem_or_eq_of_mem_set hq with h | rfl
  · exact hs.lev q h
  · exact ⟨hr, by omega⟩
theorem setM_times {s s' : Sto} {i : Nat} {r : List Ent} (h : setM s i r = some s') : s'.times = s.times ∧ s'.top = s.top ∧ s'.time = s.time ∧ s'.keep = s.keep := by
  obtain ⟨x, rfl, _, hl⟩ := setM_ok h
  exact ⟨rfl, rfl, rfl, rfl⟩
theorem intoM_sm : ∀ (d : Nat) {s s' : Sto} {i : Nat} {r : List Ent}, i + d = 2 → SmH s → SmR r → r.length ≤ 1000 → intoM d s i r = some s' → SmH s' ∧ s'.times = s.times ∧ s'.top = s.top ∧ s'.time = s.time ∧ s'.keep = s.keep
  | 0, s, s', i, r, hi, hs, hr, hl, h => by
    have hq : SmR (s.levels.getD i []) ∧ (s.levels.getD i []).length ≤ 1000 := by
      rw [List.getD_eq_getElem?_getD, List.getElem?_eq_getElem (by rw [hs.ll]; omega)]; exact hs.lev _ (List.getElem_mem _)
    exact ⟨setM_sm hs (by omega) (smR_trim (smR_join hr hq.1 hl hq.2) _ _) h, setM_times h⟩
  | d + 1, s, s', i, r, hi, hs, hr, hl, h => by
    have hq : SmR (s.levels.getD i []) ∧ (s.levels.getD i []).length ≤ 1000 := by
      rw [List.getD_eq_getElem?_getD, List.getElem?_eq_getElem (by rw [hs.ll]; omega)]; exact hs.lev _ (List.getElem_mem _)
    simp only [intoM] at h
    split at h
    · rename_i x hx
      obtain rfl := Option.some.inj h
      exact ⟨setM_sm hs (by omega) (smR_trim (smR_join hr hq.1 hl hq.2) _ _) hx, setM_times hx⟩
    · obtain ⟨s1, h1, h2⟩ := Option.bind_eq_some_iff.1 h
      obtain ⟨g1, g2⟩ := intoM_sm d (by omega) hs hq.1 hq.2 h1
      have g3 := setM_times h2
      exact ⟨setM_sm g1 (by omega) (smR_trim hr _ _) h2, by rw [g3.1, g2.1], by rw [g3.2.1, g2.2.1], by rw [g3.2.2.1, g2.2.2.1], by rw [g3.2.2.2, g2.2.2.2]⟩
theorem into_ac : ∀ (d : Nat) (s : Sto) (i : Nat) (r : List Ent), i + d = 2 → SmH s → SmR r → r.length ≤ 1000 →
    (∀ s', intoM d s i r = some s' → AC Try.prog 204 [hT s, iT i, runT r] (hpL (hS s)) 2 ⟨.tup [hT s', bT true], hpL (hS s'), 2⟩) ∧
    (intoM d s i r = none → AC Try.prog 204 [hT s, iT i, runT r] (hpL (hS s)) 2 ⟨.tup [stT zSto, bT false], hpL [none, none], 2⟩) := by
  intro d
  induction d with
  | zero =>
    intro s i r hi hs hr hl
    obtain rfl : i = 2 := by omega
    obtain ⟨q, hq⟩ : ∃ q, s.levels[2]? = some q := ⟨_, List.getElem?_eq_getElem (by rw [hs.ll]; omega)⟩
    have hqd : s.levels.getD 2 [] = q := by simp [List.getD, hq]
    obtain ⟨hq1, hq2⟩ := hs.lev q (List.mem_of_getElem? hq)
    have k1 := l11JoinS_ac r q (by omega) (by omega)
    have k2 := l11TrimS_ac (joinM r q) s.times true (by rw [joinM_len]; omega) (by have := hs.tl; omega)
    have hsm : SmR (trimM (joinM r q) s.times true) := smR_trim (smR_join hr hq1 hl hq2) _ _
    have hlt := (List.getElem?_eq_some_iff.1 hq).1
    have b1 : decide (((2 : Nat) : Int) = 2) = true := rfl
    constructor
    · intro s' h
      simp only [intoM, hqd] at h
      have k3 := l12Set_ok s s' 2 _ (by omega) (by rw [hs.ll]; omega) (by rw [hs.sl]; omega) hsm h
      refine AC_of Try.func204 rfl Try.ntmps204 Try.results204 (by kernel_rfl) rfl ?_
      simp only [List.zipIdx, List.map, Nat.zero_add, Nat.reduceAdd]
      repeat (first | apply Aw_seq | apply Aw_block | apply Aw_skip | apply Aw_exit | refine Aw_condt rfl ?_ | refine Aw_condf rfl ?_ | (refine qr ?_; simp only [go_sem, Nat.reduceEqDiff, reduceIte, Nat.reduceAdd, Nat.reduceMul, Nat.reduceSub, Nat.reduceLT, Nat.reduceLeDiff, Nat.reduceBEq, b1, hq, hlt]) | (refine qd (by kernel_rfl) (by kernel_rfl) ?_; simp only [go_sem, Nat.reduceEqDiff, reduceIte, Nat.reduceAdd, Nat.reduceMul, Nat.reduceSub, Nat.reduceLT, Nat.reduceLeDiff, Nat.reduceBEq, b1, hq, hlt]) | refine dk (by kernel_rfl) ?_ | (refine qp (k1) (by simp only [go_sem, Nat.reduceEqDiff, reduceIte, Nat.reduceAdd, Nat.reduceMul, Nat.reduceSub, Nat.reduceLT, Nat.reduceLeDiff, Nat.reduceBEq, b1, hq, hlt]; first | done | rfl) rfl (by simp only [go_sem, Nat.reduceLT]) rfl rfl ?_; simp only [go_sem, Nat.reduceEqDiff, reduceIte, Nat.reduceAdd, Nat.reduceMul, Nat.reduceSub, Nat.reduceLT, Nat.reduceLeDiff, Nat.reduceBEq, b1, hq, hlt]) | (refine qp (k2) (by simp only [go_sem, Nat.reduceEqDiff, reduceIte, Nat.reduceAdd, Nat.reduceMul, Nat.reduceSub, Nat.reduceLT, Nat.reduceLeDiff, Nat.reduceBEq, b1, hq, hlt]; first | done | rfl) rfl (by simp only [go_sem, Nat.reduceLT]) rfl rfl ?_; simp only [go_sem, Nat.reduceEqDiff, reduceIte, Nat.reduceAdd, Nat.reduceMul, Nat.reduceSub, Nat.reduceLT, Nat.reduceLeDiff, Nat.reduceBEq, b1, hq, hlt]) | (refine qx (call_L (N' := [0, 1]) (L := []) (k3) rfl (.cons (.nm rfl) (.cons (.nm rfl) (.cons (.nm rfl) (.nil)))) (by decide) (by decide) (by decide) (by simp only [go_sem, Nat.reduceEqDiff, reduceIte, Nat.reduceAdd, Nat.reduceMul, Nat.reduceSub, Nat.reduceLT, Nat.reduceLeDiff, Nat.reduceBEq, b1, hq, hlt]) (.inl rfl) rfl (by decide)) (by simp only [go_sem, Nat.reduceEqDiff, reduceIte, Nat.reduceAdd, Nat.reduceMul, Nat.reduceSub, Nat.reduceLT, Nat.reduceLeDiff, Nat.reduceBEq, b1, hq, hlt]; first | done | rfl) rfl (by simp only [go_sem, Nat.reduceLT]) ?_; simp only [go_sem, Nat.reduceEqDiff, reduceIte, Nat.reduceAdd, Nat.reduceMul, Nat.reduceSub, Nat.reduceLT, Nat.reduceLeDiff, Nat.reduceBEq, b1, hq, hlt]))
      exact Aw_ret (retL (M := [0, 1]) (.inl rfl) (by simp only [go_sem, Nat.reduceEqDiff, reduceIte, Nat.reduceAdd, Nat.reduceMul, Nat.reduceSub, Nat.reduceLT, Nat.reduceLeDiff, Nat.reduceBEq]; first | done | rfl) rfl rfl (by rfl) (by simp only [go_sem, Nat.reduceEqDiff, reduceIte, Nat.reduceAdd, Nat.reduceMul, Nat.reduceSub, Nat.reduceLT, Nat.reduceLeDiff, Nat.reduceBEq]; first | done | rfl | (and_intros <;> rfl)) (by decide) (by intro m hm; first | omega | (rcases m with _ | _ | _ | _ | m <;> first | exact ⟨by decide, rfl⟩ | omega)))
    · intro h
      simp only [intoM, hqd] at h
      have k3 := l12Set_no s 2 _ (by omega) hsm h
      refine AC_of Try.func204 rfl Try.ntmps204 Try.results204 (by kernel_rfl) rfl ?_
      simp only [List.zipIdx, List.map, Nat.zero_add, Nat.reduceAdd]
      repeat (first | apply Aw_seq | apply Aw_block | apply Aw_skip | apply Aw_exit | refine Aw_condt rfl ?_ | refine Aw_condf rfl ?_ | (refine qr ?_; simp only [go_sem, Nat.reduceEqDiff, reduceIte, Nat.reduceAdd, Nat.reduceMul, Nat.reduceSub, Nat.reduceLT, Nat.reduceLeDiff, Nat.reduceBEq, b1, hq, hlt]) | (refine qd (by kernel_rfl) (by kernel_rfl) ?_; simp only [go_sem, Nat.reduceEqDiff, reduceIte, Nat.reduceAdd, Nat.reduceMul, Nat.reduceSub, Nat.reduceLT, Nat.reduceLeDiff, Nat.reduceBEq, b1, hq, hlt]) | refine dk (by kernel_rfl) ?_ | (refine qp (k1) (by simp only [go_sem, Nat.reduceEqDiff, reduceIte, Nat.reduceAdd, Nat.reduceMul, Nat.reduceSub, Nat.reduceLT, Nat.reduceLeDiff, Nat.reduceBEq, b1, hq, hlt]; first | done | rfl) rfl (by simp only [go_sem, Nat.reduceLT]) rfl rfl ?_; simp only [go_sem, Nat.reduceEqDiff, reduceIte, Nat.reduceAdd, Nat.reduceMul, Nat.reduceSub, Nat.reduceLT, Nat.reduceLeDiff, Nat.reduceBEq, b1, hq, hlt]) | (refine qp (k2) (by simp only [go_sem, Nat.reduceEqDiff, reduceIte, Nat.reduceAdd, Nat.reduceMul, Nat.reduceSub, Nat.reduceLT, Nat.reduceLeDiff, Nat.reduceBEq, b1, hq, hlt]; first | done | rfl) rfl (by simp only [go_sem, Nat.reduceLT]) rfl rfl ?_; simp only [go_sem, Nat.reduceEqDiff, reduceIte, Nat.reduceAdd, Nat.reduceMul, Nat.reduceSub, Nat.reduceLT, Nat.reduceLeDiff, Nat.reduceBEq, b1, hq, hlt]) | (refine qx (call_L (N' := [0, 1]) (L := []) (k3) rfl (.cons (.nm rfl) (.cons (.nm rfl) (.cons (.nm rfl) (.nil)))) (by decide) (by decide) (by decide) (by simp only [go_sem, Nat.reduceEqDiff, reduceIte, Nat.reduceAdd, Nat.reduceMul, Nat.reduceSub, Nat.reduceLT, Nat.reduceLeDiff, Nat.reduceBEq, b1, hq, hlt]) (.inl rfl) rfl (by decide)) (by simp only [go_sem, Nat.reduceEqDiff, reduceIte, Nat.reduceAdd, Nat.reduceMul, Nat.reduceSub, Nat.reduceLT, Nat.reduceLeDiff, Nat.reduceBEq, b1, hq, hlt]; first | done | rfl) rfl (by simp only [go_sem, Nat.reduceLT]) ?_; simp only [go_sem, Nat.reduceEqDiff, reduceIte, Nat.reduceAdd, Nat.reduceMul, Nat.reduceSub, Nat.reduceLT, Nat.reduceLeDiff, Nat.reduceBEq, b1, hq, hlt]))
      exact Aw_ret (retL (M := [0, 1]) (.inl rfl) (by simp only [go_sem, Nat.reduceEqDiff, reduceIte, Nat.reduceAdd, Nat.reduceMul, Nat.reduceSub, Nat.reduceLT, Nat.reduceLeDiff, Nat.reduceBEq]; first | done | rfl) rfl rfl (by rfl) (by simp only [go_sem, Nat.reduceEqDiff, reduceIte, Nat.reduceAdd, Nat.reduceMul, Nat.reduceSub, Nat.reduceLT, Nat.reduceLeDiff, Nat.reduceBEq]; first | done | rfl | (and_intros <;> rfl)) (by decide) (by intro m hm; first | omega | (rcases m with _ | _ | _ | _ | m <;> first | exact ⟨by decide, rfl⟩ | omega)))
  | succ d ih =>
    intro s i r hi hs hr hl
    obtain ⟨q, hq⟩ : ∃ q, s.levels[i]? = some q := ⟨_, List.getElem?_eq_getElem (by rw [hs.ll]; omega)⟩
    have hqd : s.levels.getD i [] = q := by simp [List.getD, hq]
    obtain ⟨hq1, hq2⟩ := hs.lev q (List.mem_of_getElem? hq)
    have k1 := l11JoinS_ac r q (by omega) (by omega)
    have k2 := l11TrimS_ac (joinM r q) s.times false (by rw [joinM_len]; omega) (by have := hs.tl; omega)
    have hsm : SmR (trimM (joinM r q) s.times false) := smR_trim (smR_join hr hq1 hl hq2) _ _
    have hlt := (List.getElem?_eq_some_iff.1 hq).1
    have b1 : decide (((i : Nat) : Int) = 2) = false := decide_eq_false (by omega)
    have w1 : IntKind.i64.wrap ((i : Int) + 1) = ((i + 1 : Nat) : Int) := wrap_succ (m := i + 1) (by omega) (by omega)
    obtain ⟨ih1, ih2⟩ := ih s (i + 1) q (by omega) hs hq1 hq2
    cases hset : setM s i (trimM (joinM r q) s.times false) with
    | some x =>
      have hM : intoM (d + 1) s i r = some x := by simp only [intoM, hqd, hset]
      rw [hM]
      refine ⟨fun s' h => ?_, fun h => by cases h⟩
      obtain rfl := Option.some.inj h
      have k3 := l12Set_ok s x i _ (by omega) (by rw [hs.ll]; omega) (by rw [hs.sl]; omega) hsm hset
      refine AC_of Try.func204 rfl Try.ntmps204 Try.results204 (by kernel_rfl) rfl ?_
      simp only [List.zipIdx, List.map, Nat.zero_add, Nat.reduceAdd]
      repeat (first | apply Aw_seq | apply Aw_block | apply Aw_skip | apply Aw_exit | refine Aw_condt rfl ?_ | refine Aw_condf rfl ?_ | (refine qr ?_; simp only [go_sem, Nat.reduceEqDiff, reduceIte, Nat.reduceAdd, Nat.reduceMul, Nat.reduceSub, Nat.reduceLT, Nat.reduceLeDiff, Nat.reduceBEq, b1, hq, hlt]) | (refine qd (by kernel_rfl) (by kernel_rfl) ?_; simp only [go_sem, Nat.reduceEqDiff, reduceIte, Nat.reduceAdd, Nat.reduceMul, Nat.reduceSub, Nat.reduceLT, Nat.reduceLeDiff, Nat.reduceBEq, b1, hq, hlt]) | refine dk (by kernel_rfl) ?_ | (refine qp (k1) (by simp only [go_sem, Nat.reduceEqDiff, reduceIte, Nat.reduceAdd, Nat.reduceMul, Nat.reduceSub, Nat.reduceLT, Nat.reduceLeDiff, Nat.reduceBEq, b1, hq, hlt]; first | done | rfl) rfl (by simp only [go_sem, Nat.reduceLT]) rfl rfl ?_; simp only [go_sem, Nat.reduceEqDiff, reduceIte, Nat.reduceAdd, Nat.reduceMul, Nat.reduceSub, Nat.reduceLT, Nat.reduceLeDiff, Nat.reduceBEq, b1, hq, hlt]) | (refine qp (k2) (by simp only [go_sem, Nat.reduceEqDiff, reduceIte, Nat.reduceAdd, Nat.reduceMul, Nat.reduceSub, Nat.reduceLT, Nat.reduceLeDiff, Nat.reduceBEq, b1, hq, hlt]; first | done | rfl) rfl (by simp only [go_sem, Nat.reduceLT]) rfl rfl ?_; simp only [go_sem, Nat.reduceEqDiff, reduceIte, Nat.reduceAdd, Nat.reduceMul, Nat.reduceSub, Nat.reduceLT, Nat.reduceLeDiff, Nat.reduceBEq, b1, hq, hlt]) | (refine qx (call_L (N' := [0, 1]) (L := []) (k3) rfl (.cons (.nm rfl) (.cons (.nm rfl) (.cons (.nm rfl) (.nil)))) (by decide) (by decide) (by decide) (by simp only [go_sem, Nat.reduceEqDiff, reduceIte, Nat.reduceAdd, Nat.reduceMul, Nat.reduceSub, Nat.reduceLT, Nat.reduceLeDiff, Nat.reduceBEq, b1, hq, hlt]) (.inl rfl) rfl (by decide)) (by simp only [go_sem, Nat.reduceEqDiff, reduceIte, Nat.reduceAdd, Nat.reduceMul, Nat.reduceSub, Nat.reduceLT, Nat.reduceLeDiff, Nat.reduceBEq, b1, hq, hlt]; first | done | rfl) rfl (by simp only [go_sem, Nat.reduceLT]) ?_; simp only [go_sem, Nat.reduceEqDiff, reduceIte, Nat.reduceAdd, Nat.reduceMul, Nat.reduceSub, Nat.reduceLT, Nat.reduceLeDiff, Nat.reduceBEq, b1, hq, hlt]))
      exact Aw_ret (retL (M := [0, 1]) (.inl rfl) (by simp only [go_sem, Nat.reduceEqDiff, reduceIte, Nat.reduceAdd, Nat.reduceMul, Nat.reduceSub, Nat.reduceLT, Nat.reduceLeDiff, Nat.reduceBEq]; first | done | rfl) rfl rfl (by rfl) (by simp only [go_sem, Nat.reduceEqDiff, reduceIte, Nat.reduceAdd, Nat.reduceMul, Nat.reduceSub, Nat.reduceLT, Nat.reduceLeDiff, Nat.reduceBEq]; first | done | rfl | (and_intros <;> rfl)) (by decide) (by intro m hm; first | omega | (rcases m with _ | _ | _ | _ | m <;> first | exact ⟨by decide, rfl⟩ | omega)))
    | none =>
      have hM : intoM (d + 1) s i r = (intoM d s (i + 1) q).bind fun s1 => setM s1 i (trimM r s1.times false) := by simp only [intoM, hqd, hset]
      rw [hM]
      have k3 := l12Set_no s i _ (by omega) hsm hset
      cases hin : intoM d s (i + 1) q with
      | none =>
        have k4 := ih2 hin
        refine ⟨fun s' h => by simp at h, fun _ => ?_⟩
        refine AC.nilR ?_ zA_nil
        refine AC_of Try.func204 rfl Try.ntmps204 Try.results204 (by kernel_rfl) rfl ?_
        simp only [List.zipIdx, List.map, Nat.zero_add, Nat.reduceAdd]
        repeat (first | apply Aw_seq | apply Aw_block | apply Aw_skip | apply Aw_exit | refine Aw_condt rfl ?_ | refine Aw_condf rfl ?_ | (refine qr ?_; simp only [go_sem, Nat.reduceEqDiff, reduceIte, Nat.reduceAdd, Nat.reduceMul, Nat.reduceSub, Nat.reduceLT, Nat.reduceLeDiff, Nat.reduceBEq, b1, hq, hlt, w1]) | (refine qd (by kernel_rfl) (by kernel_rfl) ?_; simp only [go_sem, Nat.reduceEqDiff, reduceIte, Nat.reduceAdd, Nat.reduceMul, Nat.reduceSub, Nat.reduceLT, Nat.reduceLeDiff, Nat.reduceBEq, b1, hq, hlt, w1]) | refine dk (by kernel_rfl) ?_ | (refine qp (k1) (by simp only [go_sem, Nat.reduceEqDiff, reduceIte, Nat.reduceAdd, Nat.reduceMul, Nat.reduceSub, Nat.reduceLT, Nat.reduceLeDiff, Nat.reduceBEq, b1, hq, hlt, w1]; first | done | rfl) rfl (by simp only [go_sem, Nat.reduceLT]) rfl rfl ?_; simp only [go_sem, Nat.reduceEqDiff, reduceIte, Nat.reduceAdd, Nat.reduceMul, Nat.reduceSub, Nat.reduceLT, Nat.reduceLeDiff, Nat.reduceBEq, b1, hq, hlt, w1]) | (refine qp (k2) (by simp only [go_sem, Nat.reduceEqDiff, reduceIte, Nat.reduceAdd, Nat.reduceMul, Nat.reduceSub, Nat.reduceLT, Nat.reduceLeDiff, Nat.reduceBEq, b1, hq, hlt, w1]; first | done | rfl) rfl (by simp only [go_sem, Nat.reduceLT]) rfl rfl ?_; simp only [go_sem, Nat.reduceEqDiff, reduceIte, Nat.reduceAdd, Nat.reduceMul, Nat.reduceSub, Nat.reduceLT, Nat.reduceLeDiff, Nat.reduceBEq, b1, hq, hlt, w1]) | (refine qx (call_L (N' := [0, 1]) (L := []) (k3) rfl (.cons (.nm rfl) (.cons (.nm rfl) (.cons (.nm rfl) (.nil)))) (by decide) (by decide) (by decide) (by simp only [go_sem, Nat.reduceEqDiff, reduceIte, Nat.reduceAdd, Nat.reduceMul, Nat.reduceSub, Nat.reduceLT, Nat.reduceLeDiff, Nat.reduceBEq, b1, hq, hlt, w1]) (.inl rfl) rfl (by decide)) (by simp only [go_sem, Nat.reduceEqDiff, reduceIte, Nat.reduceAdd, Nat.reduceMul, Nat.reduceSub, Nat.reduceLT, Nat.reduceLeDiff, Nat.reduceBEq, b1, hq, hlt, w1]; first | done | rfl) rfl (by simp only [go_sem, Nat.reduceLT]) ?_; simp only [go_sem, Nat.reduceEqDiff, reduceIte, Nat.reduceAdd, Nat.reduceMul, Nat.reduceSub, Nat.reduceLT, Nat.reduceLeDiff, Nat.reduceBEq, b1, hq, hlt, w1]) | (refine qx (call_L (N' := [0, 1]) (L := []) (k4) rfl (.cons (.nm rfl) (.cons (.nm rfl) (.cons (.nm rfl) (.nil)))) (by decide) (by decide) (by decide) (by simp only [go_sem, Nat.reduceEqDiff, reduceIte, Nat.reduceAdd, Nat.reduceMul, Nat.reduceSub, Nat.reduceLT, Nat.reduceLeDiff, Nat.reduceBEq, b1, hq, hlt, w1]) (.inl rfl) rfl (by decide)) (by simp only [go_sem, Nat.reduceEqDiff, reduceIte, Nat.reduceAdd, Nat.reduceMul, Nat.reduceSub, Nat.reduceLT, Nat.reduceLeDiff, Nat.reduceBEq, b1, hq, hlt, w1]; first | done | rfl) rfl (by simp only [go_sem, Nat.reduceLT]) ?_; simp only [go_sem, Nat.reduceEqDiff, reduceIte, Nat.reduceAdd, Nat.reduceMul, Nat.reduceSub, Nat.reduceLT, Nat.reduceLeDiff, Nat.reduceBEq, b1, hq, hlt, w1]))
        exact Aw_ret (retL (M := [0, 1]) (.inl rfl) (by simp only [go_sem, Nat.reduceEqDiff, reduceIte, Nat.reduceAdd, Nat.reduceMul, Nat.reduceSub, Nat.reduceLT, Nat.reduceLeDiff, Nat.reduceBEq]; first | done | rfl) rfl rfl (by rfl) (by simp only [go_sem, Nat.reduceEqDiff, reduceIte, Nat.reduceAdd, Nat.reduceMul, Nat.reduceSub, Nat.reduceLT, Nat.reduceLeDiff, Nat.reduceBEq]; first | done | rfl | (and_intros <;> rfl)) (by decide) (by intro m hm; first | omega | (rcases m with _ | _ | _ | _ | m <;> first | exact ⟨by decide, rfl⟩ | omega)))
      | some s1 =>
        have k4 := ih1 s1 hin
        obtain ⟨g1, g2, _⟩ := intoM_sm d (by omega) hs hq1 hq2 hin
        have k5 := l11TrimS_ac r s1.times false (by omega) (by have := g1.tl; omega)
        have hsm2 : SmR (trimM r s1.times false) := smR_trim hr _ _
        rw [Option.bind_some]
        cases hs2 : setM s1 i (trimM r s1.times false) with
        | none =>
          have k6 := l12Set_no s1 i _ (by omega) hsm2 hs2
          refine ⟨fun s' h => by simp at h, fun _ => ?_⟩
          refine AC_of Try.func204 rfl Try.ntmps204 Try.results204 (by kernel_rfl) rfl ?_
          simp only [List.zipIdx, List.map, Nat.zero_add, Nat.reduceAdd]
          repeat (first | apply Aw_seq | apply Aw_block | apply Aw_skip | apply Aw_exit | refine Aw_condt rfl ?_ | refine Aw_condf rfl ?_ | (refine qr ?_; simp only [go_sem, Nat.reduceEqDiff, reduceIte, Nat.reduceAdd, Nat.reduceMul, Nat.reduceSub, Nat.reduceLT, Nat.reduceLeDiff, Nat.reduceBEq, b1, hq, hlt, w1]) | (refine qd (by kernel_rfl) (by kernel_rfl) ?_; simp only [go_sem, Nat.reduceEqDiff, reduceIte, Nat.reduceAdd, Nat.reduceMul, Nat.reduceSub, Nat.reduceLT, Nat.reduceLeDiff, Nat.reduceBEq, b1, hq, hlt, w1]) | refine dk (by kernel_rfl) ?_ | (refine qp (k1) (by simp only [go_sem, Nat.reduceEqDiff, reduceIte, Nat.reduceAdd, Nat.reduceMul, Nat.reduceSub, Nat.reduceLT, Nat.reduceLeDiff, Nat.reduceBEq, b1, hq, hlt, w1]; first | done | rfl) rfl (by simp only [go_sem, Nat.reduceLT]) rfl rfl ?_; simp only [go_sem, Nat.reduceEqDiff, reduceIte, Nat.reduceAdd, Nat.reduceMul, Nat.reduceSub, Nat.reduceLT, Nat.reduceLeDiff, Nat.reduceBEq, b1, hq, hlt, w1]) | (refine qp (k2) (by simp only [go_sem, Nat.reduceEqDiff, reduceIte, Nat.reduceAdd, Nat.reduceMul, Nat.reduceSub, Nat.reduceLT, Nat.reduceLeDiff, Nat.reduceBEq, b1, hq, hlt, w1]; first | done | rfl) rfl (by simp only [go_sem, Nat.reduceLT]) rfl rfl ?_; simp only [go_sem, Nat.reduceEqDiff, reduceIte, Nat.reduceAdd, Nat.reduceMul, Nat.reduceSub, Nat.reduceLT, Nat.reduceLeDiff, Nat.reduceBEq, b1, hq, hlt, w1]) | (refine qp (k5) (by simp only [go_sem, Nat.reduceEqDiff, reduceIte, Nat.reduceAdd, Nat.reduceMul, Nat.reduceSub, Nat.reduceLT, Nat.reduceLeDiff, Nat.reduceBEq, b1, hq, hlt, w1]; first | done | rfl) rfl (by simp only [go_sem, Nat.reduceLT]) rfl rfl ?_; simp only [go_sem, Nat.reduceEqDiff, reduceIte, Nat.reduceAdd, Nat.reduceMul, Nat.reduceSub, Nat.reduceLT, Nat.reduceLeDiff, Nat.reduceBEq, b1, hq, hlt, w1]) | (refine qx (call_L (N' := [0, 1]) (L := []) (k3) rfl (.cons (.nm rfl) (.cons (.nm rfl) (.cons (.nm rfl) (.nil)))) (by decide) (by decide) (by decide) (by simp only [go_sem, Nat.reduceEqDiff, reduceIte, Nat.reduceAdd, Nat.reduceMul, Nat.reduceSub, Nat.reduceLT, Nat.reduceLeDiff, Nat.reduceBEq, b1, hq, hlt, w1]) (.inl rfl) rfl (by decide)) (by simp only [go_sem, Nat.reduceEqDiff, reduceIte, Nat.reduceAdd, Nat.reduceMul, Nat.reduceSub, Nat.reduceLT, Nat.reduceLeDiff, Nat.reduceBEq, b1, hq, hlt, w1]; first | done | rfl) rfl (by simp only [go_sem, Nat.reduceLT]) ?_; simp only [go_sem, Nat.reduceEqDiff, reduceIte, Nat.reduceAdd, Nat.reduceMul, Nat.reduceSub, Nat.reduceLT, Nat.reduceLeDiff, Nat.reduceBEq, b1, hq, hlt, w1]) | (refine qx (call_L (N' := [0, 1]) (L := []) (k4) rfl (.cons (.nm rfl) (.cons (.nm rfl) (.cons (.nm rfl) (.nil)))) (by decide) (by decide) (by decide) (by simp only [go_sem, Nat.reduceEqDiff, reduceIte, Nat.reduceAdd, Nat.reduceMul, Nat.reduceSub, Nat.reduceLT, Nat.reduceLeDiff, Nat.reduceBEq, b1, hq, hlt, w1]) (.inl rfl) rfl (by decide)) (by simp only [go_sem, Nat.reduceEqDiff, reduceIte, Nat.reduceAdd, Nat.reduceMul, Nat.reduceSub, Nat.reduceLT, Nat.reduceLeDiff, Nat.reduceBEq, b1, hq, hlt, w1]; first | done | rfl) rfl (by simp only [go_sem, Nat.reduceLT]) ?_; simp only [go_sem, Nat.reduceEqDiff, reduceIte, Nat.reduceAdd, Nat.reduceMul, Nat.reduceSub, Nat.reduceLT, Nat.reduceLeDiff, Nat.reduceBEq, b1, hq, hlt, w1]) | (refine qx (call_L (N' := [0, 1]) (L := []) (k6) rfl (.cons (.nm rfl) (.cons (.nm rfl) (.cons (.nm rfl) (.nil)))) (by decide) (by decide) (by decide) (by simp only [go_sem, Nat.reduceEqDiff, reduceIte, Nat.reduceAdd, Nat.reduceMul, Nat.reduceSub, Nat.reduceLT, Nat.reduceLeDiff, Nat.reduceBEq, b1, hq, hlt, w1]) (.inl rfl) rfl (by decide)) (by simp only [go_sem, Nat.reduceEqDiff, reduceIte, Nat.reduceAdd, Nat.reduceMul, Nat.reduceSub, Nat.reduceLT, Nat.reduceLeDiff, Nat.reduceBEq, b1, hq, hlt, w1]; first | done | rfl) rfl (by simp only [go_sem, Nat.reduceLT]) ?_; simp only [go_sem, Nat.reduceEqDiff, reduceIte, Nat.reduceAdd, Nat.reduceMul, Nat.reduceSub, Nat.reduceLT, Nat.reduceLeDiff, Nat.reduceBEq, b1, hq, hlt, w1]))
          exact Aw_ret (retL (M := [0, 1]) (.inl rfl) (by simp only [go_sem, Nat.reduceEqDiff, reduceIte, Nat.reduceAdd, Nat.reduceMul, Nat.reduceSub, Nat.reduceLT, Nat.reduceLeDiff, Nat.reduceBEq]; first | done | rfl) rfl rfl (by rfl) (by simp only [go_sem, Nat.reduceEqDiff, reduceIte, Nat.reduceAdd, Nat.reduceMul, Nat.reduceSub, Nat.reduceLT, Nat.reduceLeDiff, Nat.reduceBEq]; first | done | rfl | (and_intros <;> rfl)) (by decide) (by intro m hm; first | omega | (rcases m with _ | _ | _ | _ | m <;> first | exact ⟨by decide, rfl⟩ | omega)))
        | some s2 =>
          have k6 := l12Set_ok s1 s2 i _ (by omega) (by rw [g1.ll]; omega) (by rw [g1.sl]; omega) hsm2 hs2
          refine ⟨fun s' h => ?_, fun h => by cases h⟩
          obtain rfl := Option.some.inj h
          refine AC_of Try.func204 rfl Try.ntmps204 Try.results204 (by kernel_rfl) rfl ?_
          simp only [List.zipIdx, List.map, Nat.zero_add, Nat.reduceAdd]
          repeat (first | apply Aw_seq | apply Aw_block | apply Aw_skip | apply Aw_exit | refine Aw_condt rfl ?_ | refine Aw_condf rfl ?_ | (refine qr ?_; simp only [go_sem, Nat.reduceEqDiff, reduceIte, Nat.reduceAdd, Nat.reduceMul, Nat.reduceSub, Nat.reduceLT, Nat.reduceLeDiff, Nat.reduceBEq, b1, hq, hlt, w1]) | (refine qd (by kernel_rfl) (by kernel_rfl) ?_; simp only [go_sem, Nat.reduceEqDiff, reduceIte, Nat.reduceAdd, Nat.reduceMul, Nat.reduceSub, Nat.reduceLT, Nat.reduceLeDiff, Nat.reduceBEq, b1, hq, hlt, w1]) | refine dk (by kernel_rfl) ?_ | (refine qp (k1) (by simp only [go_sem, Nat.reduceEqDiff, reduceIte, Nat.reduceAdd, Nat.reduceMul, Nat.reduceSub, Nat.reduceLT, Nat.reduceLeDiff, Nat.reduceBEq, b1, hq, hlt, w1]; first | done | rfl) rfl (by simp only [go_sem, Nat.reduceLT]) rfl rfl ?_; simp only [go_sem, Nat.reduceEqDiff, reduceIte, Nat.reduceAdd, Nat.reduceMul, Nat.reduceSub, Nat.reduceLT, Nat.reduceLeDiff, Nat.reduceBEq, b1, hq, hlt, w1]) | (refine qp (k2) (by simp only [go_sem, Nat.reduceEqDiff, reduceIte, Nat.reduceAdd, Nat.reduceMul, Nat.reduceSub, Nat.reduceLT, Nat.reduceLeDiff, Nat.reduceBEq, b1, hq, hlt, w1]; first | done | rfl) rfl (by simp only [go_sem, Nat.reduceLT]) rfl rfl ?_; simp only [go_sem, Nat.reduceEqDiff, reduceIte, Nat.reduceAdd, Nat.reduceMul, Nat.reduceSub, Nat.reduceLT, Nat.reduceLeDiff, Nat.reduceBEq, b1, hq, hlt, w1]) | (refine qp (k5) (by simp only [go_sem, Nat.reduceEqDiff, reduceIte, Nat.reduceAdd, Nat.reduceMul, Nat.reduceSub, Nat.reduceLT, Nat.reduceLeDiff, Nat.reduceBEq, b1, hq, hlt, w1]; first | done | rfl) rfl (by simp only [go_sem, Nat.reduceLT]) rfl rfl ?_; simp only [go_sem, Nat.reduceEqDiff, reduceIte, Nat.reduceAdd, Nat.reduceMul, Nat.reduceSub, Nat.reduceLT, Nat.reduceLeDiff, Nat.reduceBEq, b1, hq, hlt, w1]) | (refine qx (call_L (N' := [0, 1]) (L := []) (k3) rfl (.cons (.nm rfl) (.cons (.nm rfl) (.cons (.nm rfl) (.nil)))) (by decide) (by decide) (by decide) (by simp only [go_sem, Nat.reduceEqDiff, reduceIte, Nat.reduceAdd, Nat.reduceMul, Nat.reduceSub, Nat.reduceLT, Nat.reduceLeDiff, Nat.reduceBEq, b1, hq, hlt, w1]) (.inl rfl) rfl (by decide)) (by simp only [go_sem, Nat.reduceEqDiff, reduceIte, Nat.reduceAdd, Nat.reduceMul, Nat.reduceSub, Nat.reduceLT, Nat.reduceLeDiff, Nat.reduceBEq, b1, hq, hlt, w1]; first | done | rfl) rfl (by simp only [go_sem, Nat.reduceLT]) ?_; simp only [go_sem, Nat.reduceEqDiff, reduceIte, Nat.reduceAdd, Nat.reduceMul, Nat.reduceSub, Nat.reduceLT, Nat.reduceLeDiff, Nat.reduceBEq, b1, hq, hlt, w1]) | (refine qx (call_L (N' := [0, 1]) (L := []) (k4) rfl (.cons (.nm rfl) (.cons (.nm rfl) (.cons (.nm rfl) (.nil)))) (by decide) (by decide) (by decide) (by simp only [go_sem, Nat.reduceEqDiff, reduceIte, Nat.reduceAdd, Nat.reduceMul, Nat.reduceSub, Nat.reduceLT, Nat.reduceLeDiff, Nat.reduceBEq, b1, hq, hlt, w1]) (.inl rfl) rfl (by decide)) (by simp only [go_sem, Nat.reduceEqDiff, reduceIte, Nat.reduceAdd, Nat.reduceMul, Nat.reduceSub, Nat.reduceLT, Nat.reduceLeDiff, Nat.reduceBEq, b1, hq, hlt, w1]; first | done | rfl) rfl (by simp only [go_sem, Nat.reduceLT]) ?_; simp only [go_sem, Nat.reduceEqDiff, reduceIte, Nat.reduceAdd, Nat.reduceMul, Nat.reduceSub, Nat.reduceLT, Nat.reduceLeDiff, Nat.reduceBEq, b1, hq, hlt, w1]) | (refine qx (call_L (N' := [0, 1]) (L := []) (k6) rfl (.cons (.nm rfl) (.cons (.nm rfl) (.cons (.nm rfl) (.nil)))) (by decide) (by decide) (by decide) (by simp only [go_sem, Nat.reduceEqDiff, reduceIte, Nat.reduceAdd, Nat.reduceMul, Nat.reduceSub, Nat.reduceLT, Nat.reduceLeDiff, Nat.reduceBEq, b1, hq, hlt, w1]) (.inl rfl) rfl (by decide)) (by simp only [go_sem, Nat.reduceEqDiff, reduceIte, Nat.reduceAdd, Nat.reduceMul, Nat.reduceSub, Nat.reduceLT, Nat.reduceLeDiff, Nat.reduceBEq, b1, hq, hlt, w1]; first | done | rfl) rfl (by simp only [go_sem, Nat.reduceLT]) ?_; simp only [go_sem, Nat.reduceEqDiff, reduceIte, Nat.reduceAdd, Nat.reduceMul, Nat.reduceSub, Nat.reduceLT, Nat.reduceLeDiff, Nat.reduceBEq, b1, hq, hlt, w1]))
          exact Aw_ret (retL (M := [0, 1]) (.inl rfl) (by simp only [go_sem, Nat.reduceEqDiff, reduceIte, Nat.reduceAdd, Nat.reduceMul, Nat.reduceSub, Nat.reduceLT, Nat.reduceLeDiff, Nat.reduceBEq]; first | done | rfl) rfl rfl (by rfl) (by simp only [go_sem, Nat.reduceEqDiff, reduceIte, Nat.reduceAdd, Nat.reduceMul, Nat.reduceSub, Nat.reduceLT, Nat.reduceLeDiff, Nat.reduceBEq]; first | done | rfl | (and_intros <;> rfl)) (by decide) (by intro m hm; first | omega | (rcases m with _ | _ | _ | _ | m <;> first | exact ⟨by decide, rfl⟩ | omega)))
end Go.Proofs.Ytcbhgglpgphimaa.Ab
namespace Go.Proofs.Ytcbhgglpgphimaa.Ab
set_option linter.deprecated false
set_option linter.unusedVariables false
set_option linter.unusedSimpArgs false
open Go Go.Proofs
set_option maxRecDepth 10000
set_option maxHeartbeats 8000000
set_option linter.unusedSimpArgs false
set_option linter.unusedVariables false
theorem Aw.setS {P : Program} {N k : Nat} {x : Code} {Q : Exit → St → Prop} {l l' : List (Nat × AV)} {os os' : List (Option Obj)} {n n' : Nat} (L : List Nat) (h : ChkS L (hpL os) l l') (hs : SubS (hpL os) L 0 os os') (hn : n ≤ n') (q : Aw P N k x Q (S l' (hpL os') n')) : Aw P N k x Q (S l (hpL os) n) :=
  Aw.settle (stl_look h (fun m o' hm => by
    obtain ⟨h1, o, h2, h3⟩ := subS_get hs m o' hm
    exact ⟨by simpa using h1, o, h2, h3⟩) hn) q
def downM (s : Sto) : Option Sto := intoM 2 { s with top := [] } 0 s.top
def noTop (s : Sto) : Sto := { s with top := [] }
def stH (t : CV) (s : Sto) : Obj := ⟨35, 6, false, [[t, .h 0, .h 1, .d (.s (.int .i64 s.keep)), .d (.s (.int .i64 s.time)), .d (.rs 1 (s.times.map intD))]]⟩
@[go_sem] theorem r_stH (t : CV) (s : Sto) : stH t s = ⟨35, 6, false, [[t, .h 0, .h 1, .d (.s (.int .i64 s.keep)), .d (.s (.int .i64 s.time)), .d (.rs 1 (s.times.map intD))]]⟩ := rfl
def zO : Obj := ⟨35, 6, false, [[.d (.s (.slice none 0 0)), .d (.s (.slice none 0 0)), .d (.s (.slice none 0 0)), .d (.s (.int .i64 0)), .d (.s (.int .i64 0)), .d (.s (.slice none 0 0))]]⟩
@[go_sem] theorem r_zO : zO = ⟨35, 6, false, [[.d (.s (.slice none 0 0)), .d (.s (.slice none 0 0)), .d (.s (.slice none 0 0)), .d (.s (.int .i64 0)), .d (.s (.int .i64 0)), .d (.s (.slice none 0 0))]]⟩ := rfl
theorem l12Down_no (s : Sto) (hs : SmH s) (hr : SmR s.top) (hl : s.top.length ≤ 1000) (h : downM s = none) : AC Try.prog 202 [hT s] (hpL (hS s)) 2 ⟨.tup [stT zSto, bT false], hpL [none, none], 2⟩ := by
  have k : AC Try.prog 204 [hT (noTop s), iT (0 : Nat), runT s.top] (hpL (hS s)) 2 ⟨.tup [stT zSto, bT false], hpL [none, none], 2⟩ := (into_ac 2 (noTop s) 0 s.top rfl ⟨hs.ll, hs.sl, hs.lev, hs.tl⟩ hr hl).2 h
  rw [show ((0 : Nat) : Int) = 0 from rfl] at k
  refine AC_of Try.func202 rfl Try.ntmps202 Try.results202 (by kernel_rfl) rfl ?_
  simp only [List.zipIdx, List.map, Nat.zero_add, Nat.reduceAdd]
  iterate 7 (first | apply Aw_seq | apply Aw_block | apply Aw_skip | apply Aw_exit | refine Aw_condt rfl ?_ | refine Aw_condf rfl ?_ | (refine qr ?_; simp only [go_sem, Nat.reduceEqDiff, reduceIte, Nat.reduceAdd, Nat.reduceMul, Nat.reduceSub, Nat.reduceLT, Nat.reduceLeDiff, Nat.reduceBEq, iref]) | (refine qd (by kernel_rfl) (by kernel_rfl) ?_; simp only [go_sem, Nat.reduceEqDiff, reduceIte, Nat.reduceAdd, Nat.reduceMul, Nat.reduceSub, Nat.reduceLT, Nat.reduceLeDiff, Nat.reduceBEq, iref]) | refine dk (by kernel_rfl) ?_)
  refine Aw.rw (rwL (l' := [(4, .t (runT s.top)), (3, .t (bT false)), (2, .t (.c (.ph 3 0 0))), (1, .t (.c (.ph 2 0 0)))]) (os := [some (lvRow s.levels), some (svRow s.sieves), some (stH (.h 4) s), some zO, some (eRow [])]) (M := [0, 1, 2, 3, 8]) (n' := 5) (by repeat (first | exact trivial | refine ⟨rfl, rfl, ?_⟩)) (by rfl) (by simp only [go_sem, Nat.reduceEqDiff, reduceIte, Nat.reduceAdd, Nat.reduceMul, Nat.reduceSub, Nat.reduceLT, Nat.reduceLeDiff, Nat.reduceBEq, List.map_nil]; first | done | rfl) (by decide) (by intro m hm; first | omega | (rcases m with _ | _ | _ | _ | m <;> first | exact ⟨by decide, rfl⟩ | omega))) ?_
  refine Aw.setS (l' := [(4, .t (runT s.top)), (3, .t (bT false)), (2, .t (.c (.ph 3 0 0))), (1, .t (.c (.ph 2 0 0)))]) (os' := [some (lvRow s.levels), some (svRow s.sieves), some (stH (.d (.rs 4 [])) s), some zO]) (n' := 5) [4] ⟨SetA.same rfl, SetA.same rfl, SetA.same rfl, SetA.same rfl, trivial⟩ ⟨.inl rfl, rfl, .inl rfl, rfl, .inr ⟨rfl, rfl, rfl, .cons (.cons (SetC.row0 rfl rfl) (.cons (.inl rfl) (.cons (.inl rfl) (.cons (.inl rfl) (.cons (.inl rfl) (.cons (.inl rfl) .nil)))))) .nil⟩, rfl, .inl rfl, rfl, trivial⟩ (Nat.le_refl _) ?_
  repeat (first | apply Aw_seq | apply Aw_block | apply Aw_skip | apply Aw_exit | refine Aw_condt rfl ?_ | refine Aw_condf rfl ?_ | (refine qr ?_; simp only [go_sem, Nat.reduceEqDiff, reduceIte, Nat.reduceAdd, Nat.reduceMul, Nat.reduceSub, Nat.reduceLT, Nat.reduceLeDiff, Nat.reduceBEq]) | (refine qd (by kernel_rfl) (by kernel_rfl) ?_; simp only [go_sem, Nat.reduceEqDiff, reduceIte, Nat.reduceAdd, Nat.reduceMul, Nat.reduceSub, Nat.reduceLT, Nat.reduceLeDiff, Nat.reduceBEq]) | refine dk (by kernel_rfl) ?_ | (refine qx (call_L (N' := [0, 1]) (L := []) (k) rfl (.cons (.nm rfl) (.cons (.nm rfl) (.cons (.nm rfl) (.nil)))) (by decide) (by decide) (by decide) (by simp only [go_sem, Nat.reduceEqDiff, reduceIte, Nat.reduceAdd, Nat.reduceMul, Nat.reduceSub, Nat.reduceLT, Nat.reduceLeDiff, Nat.reduceBEq]) (.inl rfl) rfl (by decide)) (by simp only [go_sem, Nat.reduceEqDiff, reduceIte, Nat.reduceAdd, Nat.reduceMul, Nat.reduceSub, Nat.reduceLT, Nat.reduceLeDiff, Nat.reduceBEq]; first | done | rfl) rfl (by simp only [go_sem, Nat.reduceLT]) ?_; simp only [go_sem, Nat.reduceEqDiff, reduceIte, Nat.reduceAdd, Nat.reduceMul, Nat.reduceSub, Nat.reduceLT, Nat.reduceLeDiff, Nat.reduceBEq]))
  exact Aw_ret (retL (M := [0, 1]) (.inl rfl) (by simp only [go_sem, Nat.reduceEqDiff, reduceIte, Nat.reduceAdd, Nat.reduceMul, Nat.reduceSub, Nat.reduceLT, Nat.reduceLeDiff, Nat.reduceBEq]; first | done | rfl) rfl rfl (by rfl) (by simp only [go_sem, Nat.reduceEqDiff, reduceIte, Nat.reduceAdd, Nat.reduceMul, Nat.reduceSub, Nat.reduceLT, Nat.reduceLeDiff, Nat.reduceBEq]; first | done | rfl | (and_intros <;> rfl)) (by decide) (by intro m hm; first | omega | (rcases m with _ | _ | _ | _ | m <;> first | exact ⟨by decide, rfl⟩ | omega)))
theorem l12Down_ok (s s' : Sto) (hs : SmH s) (hr : SmR s.top) (hl : s.top.length ≤ 1000) (h : downM s = some s') : AC Try.prog 202 [hT s] (hpL (hS s)) 2 ⟨.tup [hT s', bT true], hpL (hS s'), 2⟩ := by
  have k : AC Try.prog 204 [hT (noTop s), iT (0 : Nat), runT s.top] (hpL (hS s)) 2 ⟨.tup [hT s', bT true], hpL (hS s'), 2⟩ := (into_ac 2 (noTop s) 0 s.top rfl ⟨hs.ll, hs.sl, hs.lev, hs.tl⟩ hr hl).1 s' h
  rw [show ((0 : Nat) : Int) = 0 from rfl] at k
  refine AC_of Try.func202 rfl Try.ntmps202 Try.results202 (by kernel_rfl) rfl ?_
  simp only [List.zipIdx, List.map, Nat.zero_add, Nat.reduceAdd]
  iterate 7 (first | apply Aw_seq | apply Aw_block | apply Aw_skip | apply Aw_exit | refine Aw_condt rfl ?_ | refine Aw_condf rfl ?_ | (refine qr ?_; simp only [go_sem, Nat.reduceEqDiff, reduceIte, Nat.reduceAdd, Nat.reduceMul, Nat.reduceSub, Nat.reduceLT, Nat.reduceLeDiff, Nat.reduceBEq, iref]) | (refine qd (by kernel_rfl) (by kernel_rfl) ?_; simp only [go_sem, Nat.reduceEqDiff, reduceIte, Nat.reduceAdd, Nat.reduceMul, Nat.reduceSub, Nat.reduceLT, Nat.reduceLeDiff, Nat.reduceBEq, iref]) | refine dk (by kernel_rfl) ?_)
  refine Aw.rw (rwL (l' := [(4, .t (runT s.top)), (3, .t (bT false)), (2, .t (.c (.ph 3 0 0))), (1, .t (.c (.ph 2 0 0)))]) (os := [some (lvRow s.levels), some (svRow s.sieves), some (stH (.h 4) s), some zO, some (eRow [])]) (M := [0, 1, 2, 3, 8]) (n' := 5) (by repeat (first | exact trivial | refine ⟨rfl, rfl, ?_⟩)) (by rfl) (by simp only [go_sem, Nat.reduceEqDiff, reduceIte, Nat.reduceAdd, Nat.reduceMul, Nat.reduceSub, Nat.reduceLT, Nat.reduceLeDiff, Nat.reduceBEq, List.map_nil]; first | done | rfl) (by decide) (by intro m hm; first | omega | (rcases m with _ | _ | _ | _ | m <;> first | exact ⟨by decide, rfl⟩ | omega))) ?_
  refine Aw.setS (l' := [(4, .t (runT s.top)), (3, .t (bT false)), (2, .t (.c (.ph 3 0 0))), (1, .t (.c (.ph 2 0 0)))]) (os' := [some (lvRow s.levels), some (svRow s.sieves), some (stH (.d (.rs 4 [])) s), some zO]) (n' := 5) [4] ⟨SetA.same rfl, SetA.same rfl, SetA.same rfl, SetA.same rfl, trivial⟩ ⟨.inl rfl, rfl, .inl rfl, rfl, .inr ⟨rfl, rfl, rfl, .cons (.cons (SetC.row0 rfl rfl) (.cons (.inl rfl) (.cons (.inl rfl) (.cons (.inl rfl) (.cons (.inl rfl) (.cons (.inl rfl) .nil)))))) .nil⟩, rfl, .inl rfl, rfl, trivial⟩ (Nat.le_refl _) ?_
  repeat (first | apply Aw_seq | apply Aw_block | apply Aw_skip | apply Aw_exit | refine Aw_condt rfl ?_ | refine Aw_condf rfl ?_ | (refine qr ?_; simp only [go_sem, Nat.reduceEqDiff, reduceIte, Nat.reduceAdd, Nat.reduceMul, Nat.reduceSub, Nat.reduceLT, Nat.reduceLeDiff, Nat.reduceBEq]) | (refine qd (by kernel_rfl) (by kernel_rfl) ?_; simp only [go_sem, Nat.reduceEqDiff, reduceIte, Nat.reduceAdd, Nat.reduceMul, Nat.reduceSub, Nat.reduceLT, Nat.reduceLeDiff, Nat.reduceBEq]) | refine dk (by kernel_rfl) ?_ | (refine qx (call_L (N' := [0, 1]) (L := []) (k) rfl (.cons (.nm rfl) (.cons (.nm rfl) (.cons (.nm rfl) (.nil)))) (by decide) (by decide) (by decide) (by simp only [go_sem, Nat.reduceEqDiff, reduceIte, Nat.reduceAdd, Nat.reduceMul, Nat.reduceSub, Nat.reduceLT, Nat.reduceLeDiff, Nat.reduceBEq]) (.inl rfl) rfl (by decide)) (by simp only [go_sem, Nat.reduceEqDiff, reduceIte, Nat.reduceAdd, Nat.reduceMul, Nat.reduceSub, Nat.reduceLT, Nat.reduceLeDiff, Nat.reduceBEq]; first | done | rfl) rfl (by simp only [go_sem, Nat.reduceLT]) ?_; simp only [go_sem, Nat.reduceEqDiff, reduceIte, Nat.reduceAdd, Nat.reduceMul, Nat.reduceSub, Nat.reduceLT, Nat.reduceLeDiff, Nat.reduceBEq]))
  exact Aw_ret (retL (M := [0, 1]) (.inl rfl) (by simp only [go_sem, Nat.reduceEqDiff, reduceIte, Nat.reduceAdd, Nat.reduceMul, Nat.reduceSub, Nat.reduceLT, Nat.reduceLeDiff, Nat.reduceBEq]; first | done | rfl) rfl rfl (by rfl) (by simp only [go_sem, Nat.reduceEqDiff, reduceIte, Nat.reduceAdd, Nat.reduceMul, Nat.reduceSub, Nat.reduceLT, Nat.reduceLeDiff, Nat.reduceBEq]; first | done | rfl | (and_intros <;> rfl)) (by decide) (by intro m hm; first | omega | (rcases m with _ | _ | _ | _ | m <;> first | exact ⟨by decide, rfl⟩ | omega)))
end Go.Proofs.Ytcbhgglpgphimaa.Ab
