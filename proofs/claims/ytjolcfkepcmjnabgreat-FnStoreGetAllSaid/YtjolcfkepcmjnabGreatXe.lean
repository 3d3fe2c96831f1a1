/-
  Contracts: the store's check, both. No condition.
  The two checks of a store are one, in plain Lean. No condition.
  Plain law: keys of stores that are drawn are short, and few. No condition.
  Contracts: a store, a key and a time that are drawn, the reference's. No condition.
  Plain law: the forks of a sieve in the order of their numbers, and where they stand. No condition.
  Plain law: a sieve by its branches. No condition.
  Plain law: a sieve's texts by its forks and branches. No condition.
  Plain law: what is kept of a sieve's keys has the same sieve. No condition.
  Contracts: bits, how many ones stand ahead, where a one stands, the reference's. No condition.
  Plain law: forks lead to later ones; the way of a key by numbers. No condition.
  The shelf's counting of a byte, at this seat. No condition.
  Contracts: ones of a text of bits, beginnings of keys. No condition.
  Contracts: a sieve's branches, what they lead to, what is kept of them. No condition.
  Contract: whether a sieve may have a key. No condition.
  Contracts: the forks of a sieve, what is kept of its keys, the reference's. No condition.
  Contracts: whether a sieve may have a key, the reference's. No condition.
-/
import Derived.Test.YtjolcfkepcmjnabGreatXc
import Derived.Test.YtjolcfkepcmjnabGreatXd
import Derived.Test.YtjolcfkepcmjnabGreatXb
import Derived.Shelf.Strings.Count
import Derived.Ground.NamesProg
namespace Go.Proofs.YtjolcfkepcmjnabGreat.Ab
open Nat (reduceEqDiff reduceAdd reduceMul reduceSub reduceLT reduceLeDiff)
set_option linter.deprecated false
set_option linter.unusedVariables false
set_option linter.unusedSimpArgs false
open Go Go.Proofs
set_option maxRecDepth 10000
set_option maxHeartbeats 8000000
theorem runKeysS_ac (r : List Ent) (hs : SmR r) : AC Tryz.prog 15 [runT r] noHp 0 ⟨.t (strsT (if runOk r = true then keysM r else [])), noHp, 0⟩ := AC.settle0 [0] (runKeys_ac r hs) (SetC.row0 rfl rfl) rfl
def upTo (s : Sto) (i : Nat) : List Ent := s.top ++ (s.levels.take i).flatten
def iAt (s : Sto) (i : Nat) : Bool := match s.levels[i]?, s.sieves[i]? with
  | some r, some x => lvM s.keep i r x && newerM (upTo s i) r && !decide (0 ≤ lateI s (upTo s i))
  | _, _ => true
def storeI (s : Sto) : Bool := headM s && allI 3 (iAt s)
abbrev stSl (s : Sto) (i : Nat) (up : List Ent) : List (Nat × AV) := [(49, .t (iT (i : Nat))), (48, .t (iT s.levels.length)), (47, .t (.c (.d (.rs 1 (s.levels.map lvD))))), (3, .t (runT up)), (1, .t (.c (.ph 0 0 0)))]
structure StI (s : Sto) where
  i : Nat
  up : List Ent
  hi : i ≤ 3
  hu : up = upTo s i
  hl : up.length ≤ 4 + 24 * i
  hp : ∀ j, j < i → iAt s j = true
theorem storeOk_ac (s : Sto) (hs : SmSt s) : AC Tryz.prog 31 [stT s] noHp 0 ⟨.t (bT (storeI s)), noHp, 0⟩ := by
  refine AC_of Tryz.func31 rfl Tryz.ntmps31 Tryz.results31 (by kernel_rfl) rfl ?_
  simp only [List.zipIdx, List.map, Nat.zero_add, Nat.reduceAdd]
  cases c1 : decide ((s.levels.length : Int) = 3)
  · repeat (first | apply Aw_seq | apply Aw_block | apply Aw_skip | apply Aw_exit | refine Aw_condt rfl ?_ | refine Aw_condf rfl ?_ | ((first | refine qr ?_ | refine qd (by kernel_rfl) (by kernel_rfl) ?_); simp only [go_sem, reduceEqDiff, reduceIte, reduceAdd, reduceMul, reduceSub, reduceLT, reduceLeDiff, Nat.reduceBEq, c1]) | refine dk (by kernel_rfl) ?_)
    exact Aw_ret (ret0 (.inl rfl) (by simp only [go_sem, reduceEqDiff, reduceIte, reduceAdd, reduceMul, reduceSub, reduceLT, reduceLeDiff, Nat.reduceBEq]; rfl) (by unfold storeI headM; rw [decide_eq_false (by have := of_decide_eq_false c1; omega : ¬ s.levels.length = 3)]; rfl) rfl)
  cases c2 : decide ((s.sieves.length : Int) = 3)
  · repeat (first | apply Aw_seq | apply Aw_block | apply Aw_skip | apply Aw_exit | refine Aw_condt rfl ?_ | refine Aw_condf rfl ?_ | ((first | refine qr ?_ | refine qd (by kernel_rfl) (by kernel_rfl) ?_); simp only [go_sem, reduceEqDiff, reduceIte, reduceAdd, reduceMul, reduceSub, reduceLT, reduceLeDiff, Nat.reduceBEq, c1, c2]) | refine dk (by kernel_rfl) ?_)
    exact Aw_ret (ret0 (.inl rfl) (by simp only [go_sem, reduceEqDiff, reduceIte, reduceAdd, reduceMul, reduceSub, reduceLT, reduceLeDiff, Nat.reduceBEq]; rfl) (by unfold storeI headM; rw [decide_eq_false (by have := of_decide_eq_false c2; omega : ¬ s.sieves.length = 3)]; simp) rfl)
  cases c3 : runOk s.top
  · repeat (first | apply Aw_seq | apply Aw_block | apply Aw_skip | apply Aw_exit | refine Aw_condt rfl ?_ | refine Aw_condf rfl ?_ | ((first | refine qr ?_ | refine qd (by kernel_rfl) (by kernel_rfl) ?_); simp only [go_sem, reduceEqDiff, reduceIte, reduceAdd, reduceMul, reduceSub, reduceLT, reduceLeDiff, Nat.reduceBEq, c1, c2, c3]) | refine dk (by kernel_rfl) ?_ | (refine qp (runOk_ac _ hs.top) (by simp only [go_sem, reduceEqDiff, reduceIte, reduceAdd, reduceMul, reduceSub, reduceLT, reduceLeDiff, Nat.reduceBEq, c1, c2, c3]; first | done | rfl) rfl (by simp only [go_sem, Nat.reduceLT]) rfl rfl ?_; simp only [go_sem, reduceEqDiff, reduceIte, reduceAdd, reduceMul, reduceSub, reduceLT, reduceLeDiff, Nat.reduceBEq, c1, c2, c3]))
    exact Aw_ret (ret0 (.inl rfl) (by simp only [go_sem, reduceEqDiff, reduceIte, reduceAdd, reduceMul, reduceSub, reduceLT, reduceLeDiff, Nat.reduceBEq]; rfl) (by unfold storeI headM; simp [c3]) rfl)
  cases c4 : decide ((4 : Int) < (s.top.length : Int))
  case true =>
    repeat (first | apply Aw_seq | apply Aw_block | apply Aw_skip | apply Aw_exit | refine Aw_condt rfl ?_ | refine Aw_condf rfl ?_ | ((first | refine qr ?_ | refine qd (by kernel_rfl) (by kernel_rfl) ?_); simp only [go_sem, reduceEqDiff, reduceIte, reduceAdd, reduceMul, reduceSub, reduceLT, reduceLeDiff, Nat.reduceBEq, c1, c2, c3, c4]) | refine dk (by kernel_rfl) ?_ | (refine qp (runOk_ac _ hs.top) (by simp only [go_sem, reduceEqDiff, reduceIte, reduceAdd, reduceMul, reduceSub, reduceLT, reduceLeDiff, Nat.reduceBEq, c1, c2, c3, c4]; first | done | rfl) rfl (by simp only [go_sem, Nat.reduceLT]) rfl rfl ?_; simp only [go_sem, reduceEqDiff, reduceIte, reduceAdd, reduceMul, reduceSub, reduceLT, reduceLeDiff, Nat.reduceBEq, c1, c2, c3, c4]))
    exact Aw_ret (ret0 (.inl rfl) (by simp only [go_sem, reduceEqDiff, reduceIte, reduceAdd, reduceMul, reduceSub, reduceLT, reduceLeDiff, Nat.reduceBEq]; rfl) (by unfold storeI headM; rw [decide_eq_false (by have := of_decide_eq_true c4; omega : ¬ s.top.length ≤ 4)]; simp) rfl)
  cases c5 : inB 0 s.time 999
  · repeat (first | apply Aw_seq | apply Aw_block | apply Aw_skip | apply Aw_exit | refine Aw_condt rfl ?_ | refine Aw_condf rfl ?_ | ((first | refine qr ?_ | refine qd (by kernel_rfl) (by kernel_rfl) ?_); simp only [go_sem, reduceEqDiff, reduceIte, reduceAdd, reduceMul, reduceSub, reduceLT, reduceLeDiff, Nat.reduceBEq, c1, c2, c3, c4, c5]) | refine dk (by kernel_rfl) ?_ | (refine qp (runOk_ac _ hs.top) (by simp only [go_sem, reduceEqDiff, reduceIte, reduceAdd, reduceMul, reduceSub, reduceLT, reduceLeDiff, Nat.reduceBEq, c1, c2, c3, c4, c5]; first | done | rfl) rfl (by simp only [go_sem, Nat.reduceLT]) rfl rfl ?_; simp only [go_sem, reduceEqDiff, reduceIte, reduceAdd, reduceMul, reduceSub, reduceLT, reduceLeDiff, Nat.reduceBEq, c1, c2, c3, c4, c5]) | (refine qp (in_ac _ _ _) (by simp only [go_sem, reduceEqDiff, reduceIte, reduceAdd, reduceMul, reduceSub, reduceLT, reduceLeDiff, Nat.reduceBEq, c1, c2, c3, c4, c5]; first | done | rfl) rfl (by simp only [go_sem, Nat.reduceLT]) rfl rfl ?_; simp only [go_sem, reduceEqDiff, reduceIte, reduceAdd, reduceMul, reduceSub, reduceLT, reduceLeDiff, Nat.reduceBEq, c1, c2, c3, c4, c5]))
    exact Aw_ret (ret0 (.inl rfl) (by simp only [go_sem, reduceEqDiff, reduceIte, reduceAdd, reduceMul, reduceSub, reduceLT, reduceLeDiff, Nat.reduceBEq]; rfl) (by unfold storeI headM; simp [c5]) rfl)
  cases c6 : timesM s.times s.time
  · repeat (first | apply Aw_seq | apply Aw_block | apply Aw_skip | apply Aw_exit | refine Aw_condt rfl ?_ | refine Aw_condf rfl ?_ | ((first | refine qr ?_ | refine qd (by kernel_rfl) (by kernel_rfl) ?_); simp only [go_sem, reduceEqDiff, reduceIte, reduceAdd, reduceMul, reduceSub, reduceLT, reduceLeDiff, Nat.reduceBEq, c1, c2, c3, c4, c5, c6]) | refine dk (by kernel_rfl) ?_ | (refine qp (runOk_ac _ hs.top) (by simp only [go_sem, reduceEqDiff, reduceIte, reduceAdd, reduceMul, reduceSub, reduceLT, reduceLeDiff, Nat.reduceBEq, c1, c2, c3, c4, c5, c6]; first | done | rfl) rfl (by simp only [go_sem, Nat.reduceLT]) rfl rfl ?_; simp only [go_sem, reduceEqDiff, reduceIte, reduceAdd, reduceMul, reduceSub, reduceLT, reduceLeDiff, Nat.reduceBEq, c1, c2, c3, c4, c5, c6]) | (refine qp (in_ac _ _ _) (by simp only [go_sem, reduceEqDiff, reduceIte, reduceAdd, reduceMul, reduceSub, reduceLT, reduceLeDiff, Nat.reduceBEq, c1, c2, c3, c4, c5, c6]; first | done | rfl) rfl (by simp only [go_sem, Nat.reduceLT]) rfl rfl ?_; simp only [go_sem, reduceEqDiff, reduceIte, reduceAdd, reduceMul, reduceSub, reduceLT, reduceLeDiff, Nat.reduceBEq, c1, c2, c3, c4, c5, c6]) | (refine qp (timesOk_ac _ _ hs.tl) (by simp only [go_sem, reduceEqDiff, reduceIte, reduceAdd, reduceMul, reduceSub, reduceLT, reduceLeDiff, Nat.reduceBEq, c1, c2, c3, c4, c5, c6]; first | done | rfl) rfl (by simp only [go_sem, Nat.reduceLT]) rfl rfl ?_; simp only [go_sem, reduceEqDiff, reduceIte, reduceAdd, reduceMul, reduceSub, reduceLT, reduceLeDiff, Nat.reduceBEq, c1, c2, c3, c4, c5, c6]))
    exact Aw_ret (ret0 (.inl rfl) (by simp only [go_sem, reduceEqDiff, reduceIte, reduceAdd, reduceMul, reduceSub, reduceLT, reduceLeDiff, Nat.reduceBEq]; rfl) (by unfold storeI headM; simp [c6]) rfl)
  have hh : headM s = true := by
    have d1 := of_decide_eq_true c1; have d2 := of_decide_eq_true c2; have d4 := of_decide_eq_false c4
    unfold headM
    rw [decide_eq_true (by omega : s.levels.length = 3), decide_eq_true (by omega : s.sieves.length = 3), decide_eq_true (by omega : s.top.length ≤ 4), c3, c5, c6]; rfl
  repeat (first | apply Aw_seq | apply Aw_block | apply Aw_skip | apply Aw_exit | refine Aw_condt rfl ?_ | refine Aw_condf rfl ?_ | ((first | refine qr ?_ | refine qd (by kernel_rfl) (by kernel_rfl) ?_); simp only [go_sem, reduceEqDiff, reduceIte, reduceAdd, reduceMul, reduceSub, reduceLT, reduceLeDiff, Nat.reduceBEq, c1, c2, c3, c4, c5, c6]) | refine dk (by kernel_rfl) ?_ | (refine qp (runOk_ac _ hs.top) (by simp only [go_sem, reduceEqDiff, reduceIte, reduceAdd, reduceMul, reduceSub, reduceLT, reduceLeDiff, Nat.reduceBEq, c1, c2, c3, c4, c5, c6]; first | done | rfl) rfl (by simp only [go_sem, Nat.reduceLT]) rfl rfl ?_; simp only [go_sem, reduceEqDiff, reduceIte, reduceAdd, reduceMul, reduceSub, reduceLT, reduceLeDiff, Nat.reduceBEq, c1, c2, c3, c4, c5, c6]) | (refine qp (in_ac _ _ _) (by simp only [go_sem, reduceEqDiff, reduceIte, reduceAdd, reduceMul, reduceSub, reduceLT, reduceLeDiff, Nat.reduceBEq, c1, c2, c3, c4, c5, c6]; first | done | rfl) rfl (by simp only [go_sem, Nat.reduceLT]) rfl rfl ?_; simp only [go_sem, reduceEqDiff, reduceIte, reduceAdd, reduceMul, reduceSub, reduceLT, reduceLeDiff, Nat.reduceBEq, c1, c2, c3, c4, c5, c6]) | (refine qp (timesOk_ac _ _ hs.tl) (by simp only [go_sem, reduceEqDiff, reduceIte, reduceAdd, reduceMul, reduceSub, reduceLT, reduceLeDiff, Nat.reduceBEq, c1, c2, c3, c4, c5, c6]; first | done | rfl) rfl (by simp only [go_sem, Nat.reduceLT]) rfl rfl ?_; simp only [go_sem, reduceEqDiff, reduceIte, reduceAdd, reduceMul, reduceSub, reduceLT, reduceLeDiff, Nat.reduceBEq, c1, c2, c3, c4, c5, c6]))
  have d1 : s.levels.length = 3 := by have := of_decide_eq_true c1; omega
  have d2 : s.sieves.length = 3 := by have := of_decide_eq_true c2; omega
  have d4 : s.top.length ≤ 4 := by have := of_decide_eq_false c4; omega
  refine Aw.rw (rwL (l' := stSl s 0 s.top) (os := [some (stO s)]) (M := [0]) (n' := 1) (by repeat (first | exact trivial | refine ⟨rfl, rfl, ?_⟩)) (by rfl) (by simp only [go_sem, reduceEqDiff, reduceIte, reduceAdd, reduceMul, reduceSub, reduceLT, reduceLeDiff, Nat.reduceBEq]; first | done | rfl) (by decide) (by intro m hm; first | omega | (rcases m with _ | _ | _ | _ | _ | _ | m <;> first | exact ⟨by decide, rfl⟩ | omega))) ?_
  refine Aw_loop_rw (ι := StI s) (fun p => S (stSl s p.i p.up) (hpL [some (stO s)]) 1) (fun p => 3 - p.i) ⟨0, s.top, by omega, by simp [upTo], by omega, fun j hj => absurd hj (by omega)⟩ ?_
  rintro ⟨i, up, hi, hu, hl, hp⟩
  dsimp only
  by_cases hlt : i < 3
  · have h1 : (i : Int) < (s.levels.length : Int) := by omega
    have h2 := wrap_succ (m := 3) hlt (by omega)
    obtain ⟨r, hr⟩ : ∃ r, s.levels[i]? = some r := ⟨_, List.getElem?_eq_getElem (by omega)⟩
    obtain ⟨x, hx⟩ : ∃ x, s.sieves[i]? = some x := ⟨_, List.getElem?_eq_getElem (by omega)⟩
    have hsr := hs.lev r (List.mem_of_getElem? hr)
    have hsx := hs.rl x (List.mem_of_getElem? hx)
    have hat : iAt s i = (lvM s.keep i r x && newerM up r && !decide (0 ≤ lateI s up)) := by unfold iAt; rw [hr, hx, ← hu]
    have bad : iAt s i = false → storeI s = false := fun h => by unfold storeI; rw [allI_f (i := i) hlt h, Bool.and_false]
    have k1 := runKeysS_ac r hsr
    have k3 := runOk_ac r hsr
    have k4 := room_ac i (by omega)
    cases a1 : runOk r
    · rw [a1] at k1 k3
      rw [if_neg (by decide)] at k1
      have k2 := sieveS_ac [] s.keep ⟨by simp, by simp⟩
      rw [bad (by rw [hat]; unfold lvM; rw [a1]; rfl)]
      repeat (first | apply Aw_seq | apply Aw_block | apply Aw_skip | apply Aw_exit | refine Aw_condt rfl ?_ | refine Aw_condf rfl ?_ | ((first | refine qr ?_ | refine qd (by kernel_rfl) (by kernel_rfl) ?_); simp only [go_sem, reduceEqDiff, reduceIte, reduceAdd, reduceMul, reduceSub, reduceLT, reduceLeDiff, Nat.reduceBEq, h1, hr]) | refine dk (by kernel_rfl) ?_ | (refine qp (k1) (by simp only [go_sem, reduceEqDiff, reduceIte, reduceAdd, reduceMul, reduceSub, reduceLT, reduceLeDiff, Nat.reduceBEq, h1, hr]; first | done | rfl) rfl (by simp only [go_sem, Nat.reduceLT]) rfl rfl ?_; simp only [go_sem, reduceEqDiff, reduceIte, reduceAdd, reduceMul, reduceSub, reduceLT, reduceLeDiff, Nat.reduceBEq, h1, hr]) | (refine qp (k2) (by simp only [go_sem, reduceEqDiff, reduceIte, reduceAdd, reduceMul, reduceSub, reduceLT, reduceLeDiff, Nat.reduceBEq, h1, hr]; first | done | rfl) rfl (by simp only [go_sem, Nat.reduceLT]) rfl rfl ?_; simp only [go_sem, reduceEqDiff, reduceIte, reduceAdd, reduceMul, reduceSub, reduceLT, reduceLeDiff, Nat.reduceBEq, h1, hr]) | (refine qp (k3) (by simp only [go_sem, reduceEqDiff, reduceIte, reduceAdd, reduceMul, reduceSub, reduceLT, reduceLeDiff, Nat.reduceBEq, h1, hr]; first | done | rfl) rfl (by simp only [go_sem, Nat.reduceLT]) rfl rfl ?_; simp only [go_sem, reduceEqDiff, reduceIte, reduceAdd, reduceMul, reduceSub, reduceLT, reduceLeDiff, Nat.reduceBEq, h1, hr]))
      exact Aw_ret (ret0 (.inl rfl) (by simp only [go_sem, reduceEqDiff, reduceIte, reduceAdd, reduceMul, reduceSub, reduceLT, reduceLeDiff, Nat.reduceBEq]; rfl) (by rfl) rfl)
    rw [a1] at k1 k3
    rw [if_pos rfl] at k1
    have k2 := sieveS_ac (keysM r) s.keep (smS_keys hsr)
    cases a2 : decide (((8 * (i + 1) : Nat) : Int) < (r.length : Int))
    case true =>
      rw [bad (by rw [hat]; unfold lvM; rw [decide_eq_false (by have := of_decide_eq_true a2; omega : ¬ r.length ≤ 8 * (i + 1))]; simp)]
      repeat (first | apply Aw_seq | apply Aw_block | apply Aw_skip | apply Aw_exit | refine Aw_condt rfl ?_ | refine Aw_condf rfl ?_ | ((first | refine qr ?_ | refine qd (by kernel_rfl) (by kernel_rfl) ?_); simp only [go_sem, reduceEqDiff, reduceIte, reduceAdd, reduceMul, reduceSub, reduceLT, reduceLeDiff, Nat.reduceBEq, h1, hr, a2]) | refine dk (by kernel_rfl) ?_ | (refine qp (k1) (by simp only [go_sem, reduceEqDiff, reduceIte, reduceAdd, reduceMul, reduceSub, reduceLT, reduceLeDiff, Nat.reduceBEq, h1, hr, a2]; first | done | rfl) rfl (by simp only [go_sem, Nat.reduceLT]) rfl rfl ?_; simp only [go_sem, reduceEqDiff, reduceIte, reduceAdd, reduceMul, reduceSub, reduceLT, reduceLeDiff, Nat.reduceBEq, h1, hr, a2]) | (refine qp (k2) (by simp only [go_sem, reduceEqDiff, reduceIte, reduceAdd, reduceMul, reduceSub, reduceLT, reduceLeDiff, Nat.reduceBEq, h1, hr, a2]; first | done | rfl) rfl (by simp only [go_sem, Nat.reduceLT]) rfl rfl ?_; simp only [go_sem, reduceEqDiff, reduceIte, reduceAdd, reduceMul, reduceSub, reduceLT, reduceLeDiff, Nat.reduceBEq, h1, hr, a2]) | (refine qp (k3) (by simp only [go_sem, reduceEqDiff, reduceIte, reduceAdd, reduceMul, reduceSub, reduceLT, reduceLeDiff, Nat.reduceBEq, h1, hr, a2]; first | done | rfl) rfl (by simp only [go_sem, Nat.reduceLT]) rfl rfl ?_; simp only [go_sem, reduceEqDiff, reduceIte, reduceAdd, reduceMul, reduceSub, reduceLT, reduceLeDiff, Nat.reduceBEq, h1, hr, a2]) | (refine qp (k4) (by simp only [go_sem, reduceEqDiff, reduceIte, reduceAdd, reduceMul, reduceSub, reduceLT, reduceLeDiff, Nat.reduceBEq, h1, hr, a2]; first | done | rfl) rfl (by simp only [go_sem, Nat.reduceLT]) rfl rfl ?_; simp only [go_sem, reduceEqDiff, reduceIte, reduceAdd, reduceMul, reduceSub, reduceLT, reduceLeDiff, Nat.reduceBEq, h1, hr, a2]))
      exact Aw_ret (ret0 (.inl rfl) (by simp only [go_sem, reduceEqDiff, reduceIte, reduceAdd, reduceMul, reduceSub, reduceLT, reduceLeDiff, Nat.reduceBEq]; rfl) (by rfl) rfl)
    have hrl : r.length ≤ 8 * (i + 1) := by have := of_decide_eq_false a2; omega
    cases a3 : (sieveM (keysM r) s.keep).isSome
    · rw [a3] at k2
      rw [bad (by rw [hat]; unfold lvM; rw [a3]; simp)]
      repeat (first | apply Aw_seq | apply Aw_block | apply Aw_skip | apply Aw_exit | refine Aw_condt rfl ?_ | refine Aw_condf rfl ?_ | ((first | refine qr ?_ | refine qd (by kernel_rfl) (by kernel_rfl) ?_); simp only [go_sem, reduceEqDiff, reduceIte, reduceAdd, reduceMul, reduceSub, reduceLT, reduceLeDiff, Nat.reduceBEq, h1, hr, a2]) | refine dk (by kernel_rfl) ?_ | (refine qp (k1) (by simp only [go_sem, reduceEqDiff, reduceIte, reduceAdd, reduceMul, reduceSub, reduceLT, reduceLeDiff, Nat.reduceBEq, h1, hr, a2]; first | done | rfl) rfl (by simp only [go_sem, Nat.reduceLT]) rfl rfl ?_; simp only [go_sem, reduceEqDiff, reduceIte, reduceAdd, reduceMul, reduceSub, reduceLT, reduceLeDiff, Nat.reduceBEq, h1, hr, a2]) | (refine qp (k2) (by simp only [go_sem, reduceEqDiff, reduceIte, reduceAdd, reduceMul, reduceSub, reduceLT, reduceLeDiff, Nat.reduceBEq, h1, hr, a2]; first | done | rfl) rfl (by simp only [go_sem, Nat.reduceLT]) rfl rfl ?_; simp only [go_sem, reduceEqDiff, reduceIte, reduceAdd, reduceMul, reduceSub, reduceLT, reduceLeDiff, Nat.reduceBEq, h1, hr, a2]) | (refine qp (k3) (by simp only [go_sem, reduceEqDiff, reduceIte, reduceAdd, reduceMul, reduceSub, reduceLT, reduceLeDiff, Nat.reduceBEq, h1, hr, a2]; first | done | rfl) rfl (by simp only [go_sem, Nat.reduceLT]) rfl rfl ?_; simp only [go_sem, reduceEqDiff, reduceIte, reduceAdd, reduceMul, reduceSub, reduceLT, reduceLeDiff, Nat.reduceBEq, h1, hr, a2]) | (refine qp (k4) (by simp only [go_sem, reduceEqDiff, reduceIte, reduceAdd, reduceMul, reduceSub, reduceLT, reduceLeDiff, Nat.reduceBEq, h1, hr, a2]; first | done | rfl) rfl (by simp only [go_sem, Nat.reduceLT]) rfl rfl ?_; simp only [go_sem, reduceEqDiff, reduceIte, reduceAdd, reduceMul, reduceSub, reduceLT, reduceLeDiff, Nat.reduceBEq, h1, hr, a2]))
      exact Aw_ret (ret0 (.inl rfl) (by simp only [go_sem, reduceEqDiff, reduceIte, reduceAdd, reduceMul, reduceSub, reduceLT, reduceLeDiff, Nat.reduceBEq]; rfl) (by rfl) rfl)
    rw [a3] at k2
    obtain ⟨y, hy⟩ : ∃ y, y = (sieveM (keysM r) s.keep).getD zSve := ⟨_, rfl⟩
    rw [← hy] at k2
    have k5 := same_ac y x (by
      rw [hy]
      cases hm : sieveM (keysM r) s.keep with
      | none => simp [zSve]
      | some z => exact sieveM_len hm)
    cases a4 : sveEq y x
    · rw [a4] at k5
      rw [bad (by rw [hat]; unfold lvM; rw [← hy, a4]; simp)]
      repeat (first | apply Aw_seq | apply Aw_block | apply Aw_skip | apply Aw_exit | refine Aw_condt rfl ?_ | refine Aw_condf rfl ?_ | ((first | refine qr ?_ | refine qd (by kernel_rfl) (by kernel_rfl) ?_); simp only [go_sem, reduceEqDiff, reduceIte, reduceAdd, reduceMul, reduceSub, reduceLT, reduceLeDiff, Nat.reduceBEq, h1, hr, hx, a2]) | refine dk (by kernel_rfl) ?_ | (refine qp (k1) (by simp only [go_sem, reduceEqDiff, reduceIte, reduceAdd, reduceMul, reduceSub, reduceLT, reduceLeDiff, Nat.reduceBEq, h1, hr, hx, a2]; first | done | rfl) rfl (by simp only [go_sem, Nat.reduceLT]) rfl rfl ?_; simp only [go_sem, reduceEqDiff, reduceIte, reduceAdd, reduceMul, reduceSub, reduceLT, reduceLeDiff, Nat.reduceBEq, h1, hr, hx, a2]) | (refine qp (k2) (by simp only [go_sem, reduceEqDiff, reduceIte, reduceAdd, reduceMul, reduceSub, reduceLT, reduceLeDiff, Nat.reduceBEq, h1, hr, hx, a2]; first | done | rfl) rfl (by simp only [go_sem, Nat.reduceLT]) rfl rfl ?_; simp only [go_sem, reduceEqDiff, reduceIte, reduceAdd, reduceMul, reduceSub, reduceLT, reduceLeDiff, Nat.reduceBEq, h1, hr, hx, a2]) | (refine qp (k3) (by simp only [go_sem, reduceEqDiff, reduceIte, reduceAdd, reduceMul, reduceSub, reduceLT, reduceLeDiff, Nat.reduceBEq, h1, hr, hx, a2]; first | done | rfl) rfl (by simp only [go_sem, Nat.reduceLT]) rfl rfl ?_; simp only [go_sem, reduceEqDiff, reduceIte, reduceAdd, reduceMul, reduceSub, reduceLT, reduceLeDiff, Nat.reduceBEq, h1, hr, hx, a2]) | (refine qp (k4) (by simp only [go_sem, reduceEqDiff, reduceIte, reduceAdd, reduceMul, reduceSub, reduceLT, reduceLeDiff, Nat.reduceBEq, h1, hr, hx, a2]; first | done | rfl) rfl (by simp only [go_sem, Nat.reduceLT]) rfl rfl ?_; simp only [go_sem, reduceEqDiff, reduceIte, reduceAdd, reduceMul, reduceSub, reduceLT, reduceLeDiff, Nat.reduceBEq, h1, hr, hx, a2]) | (refine qp (k5) (by simp only [go_sem, reduceEqDiff, reduceIte, reduceAdd, reduceMul, reduceSub, reduceLT, reduceLeDiff, Nat.reduceBEq, h1, hr, hx, a2]; first | done | rfl) rfl (by simp only [go_sem, Nat.reduceLT]) rfl rfl ?_; simp only [go_sem, reduceEqDiff, reduceIte, reduceAdd, reduceMul, reduceSub, reduceLT, reduceLeDiff, Nat.reduceBEq, h1, hr, hx, a2]))
      exact Aw_ret (ret0 (.inl rfl) (by simp only [go_sem, reduceEqDiff, reduceIte, reduceAdd, reduceMul, reduceSub, reduceLT, reduceLeDiff, Nat.reduceBEq]; rfl) (by rfl) rfl)
    rw [a4] at k5
    have hlv : lvM s.keep i r x = true := by unfold lvM; rw [← hy, a1, a3, a4, decide_eq_true hrl]; rfl
    have k6 := newer_ac up r (by omega) hsr.len
    cases a5 : newerM up r
    · rw [a5] at k6
      rw [bad (by rw [hat, a5]; simp)]
      repeat (first | apply Aw_seq | apply Aw_block | apply Aw_skip | apply Aw_exit | refine Aw_condt rfl ?_ | refine Aw_condf rfl ?_ | ((first | refine qr ?_ | refine qd (by kernel_rfl) (by kernel_rfl) ?_); simp only [go_sem, reduceEqDiff, reduceIte, reduceAdd, reduceMul, reduceSub, reduceLT, reduceLeDiff, Nat.reduceBEq, h1, hr, hx, a2]) | refine dk (by kernel_rfl) ?_ | (refine qp (k1) (by simp only [go_sem, reduceEqDiff, reduceIte, reduceAdd, reduceMul, reduceSub, reduceLT, reduceLeDiff, Nat.reduceBEq, h1, hr, hx, a2]; first | done | rfl) rfl (by simp only [go_sem, Nat.reduceLT]) rfl rfl ?_; simp only [go_sem, reduceEqDiff, reduceIte, reduceAdd, reduceMul, reduceSub, reduceLT, reduceLeDiff, Nat.reduceBEq, h1, hr, hx, a2]) | (refine qp (k2) (by simp only [go_sem, reduceEqDiff, reduceIte, reduceAdd, reduceMul, reduceSub, reduceLT, reduceLeDiff, Nat.reduceBEq, h1, hr, hx, a2]; first | done | rfl) rfl (by simp only [go_sem, Nat.reduceLT]) rfl rfl ?_; simp only [go_sem, reduceEqDiff, reduceIte, reduceAdd, reduceMul, reduceSub, reduceLT, reduceLeDiff, Nat.reduceBEq, h1, hr, hx, a2]) | (refine qp (k3) (by simp only [go_sem, reduceEqDiff, reduceIte, reduceAdd, reduceMul, reduceSub, reduceLT, reduceLeDiff, Nat.reduceBEq, h1, hr, hx, a2]; first | done | rfl) rfl (by simp only [go_sem, Nat.reduceLT]) rfl rfl ?_; simp only [go_sem, reduceEqDiff, reduceIte, reduceAdd, reduceMul, reduceSub, reduceLT, reduceLeDiff, Nat.reduceBEq, h1, hr, hx, a2]) | (refine qp (k4) (by simp only [go_sem, reduceEqDiff, reduceIte, reduceAdd, reduceMul, reduceSub, reduceLT, reduceLeDiff, Nat.reduceBEq, h1, hr, hx, a2]; first | done | rfl) rfl (by simp only [go_sem, Nat.reduceLT]) rfl rfl ?_; simp only [go_sem, reduceEqDiff, reduceIte, reduceAdd, reduceMul, reduceSub, reduceLT, reduceLeDiff, Nat.reduceBEq, h1, hr, hx, a2]) | (refine qp (k5) (by simp only [go_sem, reduceEqDiff, reduceIte, reduceAdd, reduceMul, reduceSub, reduceLT, reduceLeDiff, Nat.reduceBEq, h1, hr, hx, a2]; first | done | rfl) rfl (by simp only [go_sem, Nat.reduceLT]) rfl rfl ?_; simp only [go_sem, reduceEqDiff, reduceIte, reduceAdd, reduceMul, reduceSub, reduceLT, reduceLeDiff, Nat.reduceBEq, h1, hr, hx, a2]) | (refine qp (k6) (by simp only [go_sem, reduceEqDiff, reduceIte, reduceAdd, reduceMul, reduceSub, reduceLT, reduceLeDiff, Nat.reduceBEq, h1, hr, hx, a2]; first | done | rfl) rfl (by simp only [go_sem, Nat.reduceLT]) rfl rfl ?_; simp only [go_sem, reduceEqDiff, reduceIte, reduceAdd, reduceMul, reduceSub, reduceLT, reduceLeDiff, Nat.reduceBEq, h1, hr, hx, a2]))
      exact Aw_ret (ret0 (.inl rfl) (by simp only [go_sem, reduceEqDiff, reduceIte, reduceAdd, reduceMul, reduceSub, reduceLT, reduceLeDiff, Nat.reduceBEq]; rfl) (by rfl) rfl)
    rw [a5] at k6
    have k7 := hasLate_ac s up (by omega)
    cases a6 : decide (0 ≤ lateI s up)
    case true =>
      rw [a6] at k7
      rw [bad (by rw [hat, a6]; simp)]
      repeat (first | apply Aw_seq | apply Aw_block | apply Aw_skip | apply Aw_exit | refine Aw_condt rfl ?_ | refine Aw_condf rfl ?_ | ((first | refine qr ?_ | refine qd (by kernel_rfl) (by kernel_rfl) ?_); simp only [go_sem, reduceEqDiff, reduceIte, reduceAdd, reduceMul, reduceSub, reduceLT, reduceLeDiff, Nat.reduceBEq, h1, hr, hx, a2]) | refine dk (by kernel_rfl) ?_ | (refine qp (k1) (by simp only [go_sem, reduceEqDiff, reduceIte, reduceAdd, reduceMul, reduceSub, reduceLT, reduceLeDiff, Nat.reduceBEq, h1, hr, hx, a2]; first | done | rfl) rfl (by simp only [go_sem, Nat.reduceLT]) rfl rfl ?_; simp only [go_sem, reduceEqDiff, reduceIte, reduceAdd, reduceMul, reduceSub, reduceLT, reduceLeDiff, Nat.reduceBEq, h1, hr, hx, a2]) | (refine qp (k2) (by simp only [go_sem, reduceEqDiff, reduceIte, reduceAdd, reduceMul, reduceSub, reduceLT, reduceLeDiff, Nat.reduceBEq, h1, hr, hx, a2]; first | done | rfl) rfl (by simp only [go_sem, Nat.reduceLT]) rfl rfl ?_; simp only [go_sem, reduceEqDiff, reduceIte, reduceAdd, reduceMul, reduceSub, reduceLT, reduceLeDiff, Nat.reduceBEq, h1, hr, hx, a2]) | (refine qp (k3) (by simp only [go_sem, reduceEqDiff, reduceIte, reduceAdd, reduceMul, reduceSub, reduceLT, reduceLeDiff, Nat.reduceBEq, h1, hr, hx, a2]; first | done | rfl) rfl (by simp only [go_sem, Nat.reduceLT]) rfl rfl ?_; simp only [go_sem, reduceEqDiff, reduceIte, reduceAdd, reduceMul, reduceSub, reduceLT, reduceLeDiff, Nat.reduceBEq, h1, hr, hx, a2]) | (refine qp (k4) (by simp only [go_sem, reduceEqDiff, reduceIte, reduceAdd, reduceMul, reduceSub, reduceLT, reduceLeDiff, Nat.reduceBEq, h1, hr, hx, a2]; first | done | rfl) rfl (by simp only [go_sem, Nat.reduceLT]) rfl rfl ?_; simp only [go_sem, reduceEqDiff, reduceIte, reduceAdd, reduceMul, reduceSub, reduceLT, reduceLeDiff, Nat.reduceBEq, h1, hr, hx, a2]) | (refine qp (k5) (by simp only [go_sem, reduceEqDiff, reduceIte, reduceAdd, reduceMul, reduceSub, reduceLT, reduceLeDiff, Nat.reduceBEq, h1, hr, hx, a2]; first | done | rfl) rfl (by simp only [go_sem, Nat.reduceLT]) rfl rfl ?_; simp only [go_sem, reduceEqDiff, reduceIte, reduceAdd, reduceMul, reduceSub, reduceLT, reduceLeDiff, Nat.reduceBEq, h1, hr, hx, a2]) | (refine qp (k6) (by simp only [go_sem, reduceEqDiff, reduceIte, reduceAdd, reduceMul, reduceSub, reduceLT, reduceLeDiff, Nat.reduceBEq, h1, hr, hx, a2]; first | done | rfl) rfl (by simp only [go_sem, Nat.reduceLT]) rfl rfl ?_; simp only [go_sem, reduceEqDiff, reduceIte, reduceAdd, reduceMul, reduceSub, reduceLT, reduceLeDiff, Nat.reduceBEq, h1, hr, hx, a2]) | (refine qx (call_L (N' := [0]) (L := []) (k7) rfl (.cons (.nm rfl) (.cons (.nm rfl) (.nil))) (by decide) (by decide) (by decide) (by simp only [go_sem, reduceEqDiff, reduceIte, reduceAdd, reduceMul, reduceSub, reduceLT, reduceLeDiff, Nat.reduceBEq, h1, hr, hx, a2]; first | done | rfl) (.inl rfl) rfl (by decide)) (by simp only [go_sem, reduceEqDiff, reduceIte, reduceAdd, reduceMul, reduceSub, reduceLT, reduceLeDiff, Nat.reduceBEq, h1, hr, hx, a2]; first | done | rfl) rfl (by simp only [go_sem, Nat.reduceLT]) ?_; simp only [go_sem, reduceEqDiff, reduceIte, reduceAdd, reduceMul, reduceSub, reduceLT, reduceLeDiff, Nat.reduceBEq, h1, hr, hx, a2]))
      exact Aw_ret (ret0 (.inl rfl) (by simp only [go_sem, reduceEqDiff, reduceIte, reduceAdd, reduceMul, reduceSub, reduceLT, reduceLeDiff, Nat.reduceBEq]; rfl) (by rfl) rfl)
    rw [a6] at k7
    have hok : iAt s i = true := by rw [hat, hlv, a5, a6]; rfl
    have k8 := concatS_ac up r (by omega) (by omega)
    repeat (first | apply Aw_seq | apply Aw_block | apply Aw_skip | apply Aw_exit | refine Aw_condt rfl ?_ | refine Aw_condf rfl ?_ | ((first | refine qr ?_ | refine qd (by kernel_rfl) (by kernel_rfl) ?_); simp only [go_sem, reduceEqDiff, reduceIte, reduceAdd, reduceMul, reduceSub, reduceLT, reduceLeDiff, Nat.reduceBEq, h1, hr, hx, a2, h2]) | refine dk (by kernel_rfl) ?_ | (refine qp (k1) (by simp only [go_sem, reduceEqDiff, reduceIte, reduceAdd, reduceMul, reduceSub, reduceLT, reduceLeDiff, Nat.reduceBEq, h1, hr, hx, a2, h2]; first | done | rfl) rfl (by simp only [go_sem, Nat.reduceLT]) rfl rfl ?_; simp only [go_sem, reduceEqDiff, reduceIte, reduceAdd, reduceMul, reduceSub, reduceLT, reduceLeDiff, Nat.reduceBEq, h1, hr, hx, a2, h2]) | (refine qp (k2) (by simp only [go_sem, reduceEqDiff, reduceIte, reduceAdd, reduceMul, reduceSub, reduceLT, reduceLeDiff, Nat.reduceBEq, h1, hr, hx, a2, h2]; first | done | rfl) rfl (by simp only [go_sem, Nat.reduceLT]) rfl rfl ?_; simp only [go_sem, reduceEqDiff, reduceIte, reduceAdd, reduceMul, reduceSub, reduceLT, reduceLeDiff, Nat.reduceBEq, h1, hr, hx, a2, h2]) | (refine qp (k3) (by simp only [go_sem, reduceEqDiff, reduceIte, reduceAdd, reduceMul, reduceSub, reduceLT, reduceLeDiff, Nat.reduceBEq, h1, hr, hx, a2, h2]; first | done | rfl) rfl (by simp only [go_sem, Nat.reduceLT]) rfl rfl ?_; simp only [go_sem, reduceEqDiff, reduceIte, reduceAdd, reduceMul, reduceSub, reduceLT, reduceLeDiff, Nat.reduceBEq, h1, hr, hx, a2, h2]) | (refine qp (k4) (by simp only [go_sem, reduceEqDiff, reduceIte, reduceAdd, reduceMul, reduceSub, reduceLT, reduceLeDiff, Nat.reduceBEq, h1, hr, hx, a2, h2]; first | done | rfl) rfl (by simp only [go_sem, Nat.reduceLT]) rfl rfl ?_; simp only [go_sem, reduceEqDiff, reduceIte, reduceAdd, reduceMul, reduceSub, reduceLT, reduceLeDiff, Nat.reduceBEq, h1, hr, hx, a2, h2]) | (refine qp (k5) (by simp only [go_sem, reduceEqDiff, reduceIte, reduceAdd, reduceMul, reduceSub, reduceLT, reduceLeDiff, Nat.reduceBEq, h1, hr, hx, a2, h2]; first | done | rfl) rfl (by simp only [go_sem, Nat.reduceLT]) rfl rfl ?_; simp only [go_sem, reduceEqDiff, reduceIte, reduceAdd, reduceMul, reduceSub, reduceLT, reduceLeDiff, Nat.reduceBEq, h1, hr, hx, a2, h2]) | (refine qp (k6) (by simp only [go_sem, reduceEqDiff, reduceIte, reduceAdd, reduceMul, reduceSub, reduceLT, reduceLeDiff, Nat.reduceBEq, h1, hr, hx, a2, h2]; first | done | rfl) rfl (by simp only [go_sem, Nat.reduceLT]) rfl rfl ?_; simp only [go_sem, reduceEqDiff, reduceIte, reduceAdd, reduceMul, reduceSub, reduceLT, reduceLeDiff, Nat.reduceBEq, h1, hr, hx, a2, h2]) | (refine qx (call_L (N' := [0]) (L := []) (k7) rfl (.cons (.nm rfl) (.cons (.nm rfl) (.nil))) (by decide) (by decide) (by decide) (by simp only [go_sem, reduceEqDiff, reduceIte, reduceAdd, reduceMul, reduceSub, reduceLT, reduceLeDiff, Nat.reduceBEq, h1, hr, hx, a2, h2]; first | done | rfl) (.inl rfl) rfl (by decide)) (by simp only [go_sem, reduceEqDiff, reduceIte, reduceAdd, reduceMul, reduceSub, reduceLT, reduceLeDiff, Nat.reduceBEq, h1, hr, hx, a2, h2]; first | done | rfl) rfl (by simp only [go_sem, Nat.reduceLT]) ?_; simp only [go_sem, reduceEqDiff, reduceIte, reduceAdd, reduceMul, reduceSub, reduceLT, reduceLeDiff, Nat.reduceBEq, h1, hr, hx, a2, h2]) | (refine qx (call_L (N' := [46]) (L := []) (k8) rfl (.cons (.nm rfl) (.nil)) (by decide) (by decide) (by decide) (by simp only [go_sem, reduceEqDiff, reduceIte, reduceAdd, reduceMul, reduceSub, reduceLT, reduceLeDiff, Nat.reduceBEq, h1, hr, hx, a2, h2]; first | done | rfl) (.inl rfl) rfl (by decide)) (by simp only [go_sem, reduceEqDiff, reduceIte, reduceAdd, reduceMul, reduceSub, reduceLT, reduceLeDiff, Nat.reduceBEq, h1, hr, hx, a2, h2]; first | done | rfl) rfl (by simp only [go_sem, Nat.reduceLT]) ?_; simp only [go_sem, reduceEqDiff, reduceIte, reduceAdd, reduceMul, reduceSub, reduceLT, reduceLeDiff, Nat.reduceBEq, h1, hr, hx, a2, h2]))
    simp only [← List.map_append]
    refine ⟨⟨i + 1, up ++ r, by omega, by rw [hu]; unfold upTo; rw [List.take_succ, hr, List.flatten_append, List.append_assoc]; simp, by rw [List.length_append]; omega, fun j hj => by rcases Nat.lt_succ_iff_lt_or_eq.1 hj with h | rfl; exact hp j h; exact hok⟩, [0], ?_, rwL (by repeat (first | exact trivial | refine ⟨rfl, rfl, ?_⟩)) (by rfl) (by simp only [go_sem, reduceEqDiff, reduceIte, reduceAdd, reduceMul, reduceSub, reduceLT, reduceLeDiff, Nat.reduceBEq]; first | done | rfl) (by decide) (by intro m hm; first | omega | (rcases m with _ | _ | _ | _ | _ | _ | m <;> first | exact ⟨by decide, rfl⟩ | omega))⟩
    show 3 - (i + 1) < 3 - i; omega
  · obtain rfl : i = 3 := by omega
    have h1 : ¬ ((3 : Nat) : Int) < (s.levels.length : Int) := by omega
    have hall : storeI s = true := by unfold storeI; rw [hh, allI_t hp]; rfl
    rw [hall]
    repeat (first | apply Aw_seq | apply Aw_block | apply Aw_skip | apply Aw_exit | refine Aw_condt rfl ?_ | refine Aw_condf rfl ?_ | ((first | refine qr ?_ | refine qd (by kernel_rfl) (by kernel_rfl) ?_); simp only [go_sem, reduceEqDiff, reduceIte, reduceAdd, reduceMul, reduceSub, reduceLT, reduceLeDiff, Nat.reduceBEq, h1]) | refine dk (by kernel_rfl) ?_)
    exact Aw_ret (ret0 (.inl rfl) (by simp only [go_sem, reduceEqDiff, reduceIte, reduceAdd, reduceMul, reduceSub, reduceLT, reduceLeDiff, Nat.reduceBEq]; rfl) (by rfl) rfl)
open Go
theorem before_trans {a b c : Ent} (h : before a b = true) (k : before b c = true) : before a c = true := by
  unfold before at *
  simp only [Bool.or_eq_true, Bool.and_eq_true, decide_eq_true_eq] at *
  rcases h with h | ⟨h1, h2⟩ <;> rcases k with k | ⟨k1, k2⟩
  · exact .inl (klt_trans h k)
  · exact .inl (k1 ▸ h)
  · exact .inl (h1 ▸ k)
  · exact .inr ⟨h1.trans k1, by omega⟩
theorem run_pw {r : List Ent} (h : runOk r = true) : r.Pairwise (fun a b => before a b = true) ∧ (∀ e ∈ r, entOk e = true) ∧ r.length ≤ 40 := by
  unfold runOk at h
  rw [Bool.and_eq_true] at h
  have h1 := allI_iff.1 h.1
  have hk : ∀ e ∈ r, entOk e = true := fun e he => by
    obtain ⟨i, hi⟩ := List.mem_iff_getElem?.1 he
    have := h1 i (List.getElem?_eq_some_iff.1 hi).1
    unfold okAt at this; rw [hi] at this; simp only [Bool.and_eq_true] at this; exact this.1
  have hadj : ∀ j p k, r[j]? = some p → r[j + 1]? = some k → before p k = true := fun j p k hp hk => by
    have := h1 (j + 1) (List.getElem?_eq_some_iff.1 hk).1
    unfold okAt at this; rw [hk] at this; simp only [hp, Bool.and_eq_true] at this; exact this.2
  refine ⟨?_, hk, by simpa using h.2⟩
  rw [List.pairwise_iff_getElem]
  intro i j hi hj hij
  have key : ∀ d i (h1 : i < r.length) (h2 : i + d + 1 < r.length), before r[i] r[i + d + 1] = true := by
    intro d
    induction d with
    | zero => intro i h1 h2; exact hadj i _ _ (List.getElem?_eq_getElem h1) (List.getElem?_eq_getElem h2)
    | succ d ih =>
      intro i h1 h2
      exact before_trans (ih i h1 (by omega)) (hadj (i + d + 1) _ _ (List.getElem?_eq_getElem (by omega)) (List.getElem?_eq_getElem h2))
  have := key (j - i - 1) i hi (by omega)
  simpa [show i + (j - i - 1) + 1 = j by omega] using this
theorem entOk_time {e : Ent} (h : entOk e = true) : 1 ≤ e.time ∧ e.time ≤ 999 := by
  unfold entOk inB at h
  simp only [Bool.and_eq_true, decide_eq_true_eq] at h
  exact h.2
/-- What is found at the last time is the newest of its key. -/
theorem at_newest : ∀ {b : List Ent}, b.Pairwise (fun a b => before a b = true) → (∀ e ∈ b, e.time ≤ 999) → ∀ x : Ent, (match atM b x.key 999 with
    | some q => !decide (x.time ≤ q.time)
    | none => true) = b.all fun y => !older x y
  | [], _, _, x => rfl
  | y :: b, hp, ht, x => by
    rw [List.pairwise_cons] at hp
    have hy := ht y (by simp)
    unfold atM
    by_cases e : y.key = x.key
    · rw [List.find?_cons_of_pos (by simp [hit, e, hy])]
      simp only [List.all_cons]
      have h1 : older x y = decide (x.time ≤ y.time) := by unfold older; simp [e]
      rw [h1]
      cases hd : decide (x.time ≤ y.time) with
      | true => rfl
      | false =>
        have hgt := of_decide_eq_false hd
        have : (b.all fun z => !older x z) = true := by
          rw [List.all_eq_true]
          intro z hz
          have hb := hp.1 z hz
          unfold older
          unfold before at hb
          simp only [Bool.or_eq_true, Bool.and_eq_true, decide_eq_true_eq] at hb
          rcases hb with hb | ⟨_, hb⟩
          · have : x.key ≠ z.key := fun e2 => by rw [e, e2, klt_irrefl] at hb; cases hb
            simp [this]
          · have : ¬ x.time ≤ z.time := by omega
            simp [this]
        rw [this]; rfl
    · rw [List.find?_cons_of_neg (by simp [hit, e])]
      have ih := at_newest hp.2 (fun e he => ht e (by simp [he])) x
      unfold atM at ih
      rw [ih, List.all_cons]
      have h1 : older x y = false := by unfold older; rw [decide_eq_false (fun h : x.key = y.key => e h.symm)]; rfl
      rw [h1]; rfl
theorem nwAt_eq {b : List Ent} {now : Int} (hp : b.Pairwise (fun a b => before a b = true)) (ht : ∀ e ∈ b, e.time ≤ 999) (x : Ent) : nwAt b now x = (!decide (now < x.time) && b.all fun y => !older x y) := by
  have h := at_newest hp ht x
  unfold nwAt
  cases hA : atM b x.key 999 with
  | none => rw [hA] at h; simp only [] at h ⊢; rw [← h]
  | some q => rw [hA] at h; simp only [] at h ⊢; rw [← h]
theorem newest_iff {a b : List Ent} {now : Int} (hb : runOk b = true) : newestM a b now = true ↔ (∀ x ∈ a, x.time ≤ now) ∧ newerM a b = true := by
  obtain ⟨h1, h2, _⟩ := run_pw hb
  unfold newestM newerM
  rw [List.all_eq_true, List.all_eq_true]
  constructor
  · intro h
    refine ⟨fun x hx => ?_, fun x hx => ?_⟩
    · have := h x hx; rw [nwAt_eq h1 (fun e he => (entOk_time (h2 e he)).2) x] at this; simp only [Bool.and_eq_true, Bool.not_eq_true', decide_eq_false_iff_not] at this; omega
    · have := h x hx
      rw [nwAt_eq h1 (fun e he => (entOk_time (h2 e he)).2) x, Bool.and_eq_true] at this
      exact this.2
  · rintro ⟨h, k⟩ x hx
    rw [nwAt_eq h1 (fun e he => (entOk_time (h2 e he)).2) x, k x hx, Bool.and_true, Bool.not_eq_true', decide_eq_false_iff_not]
    have := h x hx; omega
theorem newer_app {a b c : List Ent} : newerM (a ++ b) c = (newerM a c && newerM b c) := by unfold newerM; rw [List.all_append]
theorem late_iff {s : Sto} {r : List Ent} : decide (0 ≤ lateI s r) = false ↔ ∀ x ∈ r, x.time ≤ s.time := by
  rw [decide_eq_false_iff_not]
  unfold lateI
  cases h : r.findIdx? (fun e => decide (s.time < e.time)) with
  | none =>
    rw [List.findIdx?_eq_none_iff] at h
    simp only []
    exact ⟨fun _ x hx => by have := h x hx; simp at this; omega, fun _ => by omega⟩
  | some i =>
    simp only []
    rw [List.findIdx?_eq_some_iff_getElem] at h
    obtain ⟨hi, h1, _⟩ := h
    constructor
    · intro h; omega
    · intro h2
      have := h2 _ (List.getElem_mem hi)
      simp at h1; omega
theorem lv_run {keep : Int} {i : Nat} {r : List Ent} {x : Sve} (h : lvM keep i r x = true) : runOk r = true ∧ inB 0 keep 5 = true := by
  unfold lvM at h
  simp only [Bool.and_eq_true] at h
  refine ⟨h.1.1.1, ?_⟩
  have := h.1.2
  unfold sieveM at this
  split at this
  · rename_i hc; exact hc.2
  · cases this
theorem allI3 (p : Nat → Bool) : allI 3 p = (p 0 && (p 1 && p 2)) := by
  unfold allI
  show (List.range 3).all p = _
  rw [show List.range 3 = [0, 1, 2] from rfl]
  simp
theorem store_eq (s : Sto) : storeI s = storeS s := by
  by_cases hl : s.levels.length = 3
  case neg => unfold storeI storeS headM headS; rw [decide_eq_false hl]; rfl
  by_cases hx : s.sieves.length = 3
  case neg => unfold storeI storeS headM headS; rw [decide_eq_false hx]; simp
  obtain ⟨a, b, c, ea⟩ := len3 hl
  obtain ⟨x, y, z, ex⟩ := len3 hx
  have u0 : upTo s 0 = s.top := by simp [upTo]
  have u1 : upTo s 1 = s.top ++ a := by simp [upTo, ea]
  have u2 : upTo s 2 = s.top ++ (a ++ b) := by simp [upTo, ea]
  have i0 : iAt s 0 = (lvM s.keep 0 a x && newerM s.top a && !decide (0 ≤ lateI s s.top)) := by unfold iAt; rw [u0, ea, ex]; rfl
  have i1 : iAt s 1 = (lvM s.keep 1 b y && newerM (s.top ++ a) b && !decide (0 ≤ lateI s (s.top ++ a))) := by unfold iAt; rw [u1, ea, ex]; rfl
  have i2 : iAt s 2 = (lvM s.keep 2 c z && newerM (s.top ++ (a ++ b)) c && !decide (0 ≤ lateI s (s.top ++ (a ++ b)))) := by unfold iAt; rw [u2, ea, ex]; rfl
  have p01 : sPair s 0 1 = newestM a b s.time := by unfold sPair; rw [ea]; rfl
  have p02 : sPair s 0 2 = newestM a c s.time := by unfold sPair; rw [ea]; rfl
  have p12 : sPair s 1 2 = newestM b c s.time := by unfold sPair; rw [ea]; rfl
  have s0 : sAt s 0 = (lvM s.keep 0 a x && newestM s.top a s.time && (newestM a b s.time && newestM a c s.time)) := by
    unfold sAt; rw [allI3, p01, p02, ea, ex]; rfl
  have s1 : sAt s 1 = (lvM s.keep 1 b y && newestM s.top b s.time && newestM b c s.time) := by
    unfold sAt; rw [allI3, p12, ea, ex]; rfl
  have s2 : sAt s 2 = (lvM s.keep 2 c z && newestM s.top c s.time) := by
    unfold sAt; rw [allI3, ea, ex]; simp
  rw [Bool.eq_iff_iff]
  unfold storeI storeS headM headS
  rw [allI3, allI3, i0, i1, i2, s0, s1, s2]
  simp only [Bool.and_eq_true, Bool.not_eq_true', late_iff, newer_app, List.mem_append]
  constructor
  · rintro ⟨⟨⟨⟨⟨⟨h1, h2⟩, h3⟩, h4⟩, h5⟩, h6⟩, ⟨⟨l0, n0⟩, t0⟩, ⟨⟨l1, n1, n1'⟩, t1⟩, ⟨⟨l2, n2, n2', n2''⟩, t2⟩⟩
    obtain ⟨ra, hk⟩ := lv_run l0
    have rb := (lv_run l1).1
    have rc := (lv_run l2).1
    exact ⟨⟨⟨⟨⟨⟨⟨h1, h2⟩, hk⟩, h5⟩, h6⟩, h3⟩, h4⟩, ⟨⟨l0, (newest_iff ra).2 ⟨t0, n0⟩⟩, (newest_iff rb).2 ⟨fun e he => t1 e (.inr he), n1'⟩, (newest_iff rc).2 ⟨fun e he => t1 e (.inr he), n2'⟩⟩, ⟨⟨l1, (newest_iff rb).2 ⟨t0, n1⟩⟩, (newest_iff rc).2 ⟨fun e he => t2 e (.inr (.inr he)), n2''⟩⟩, l2, (newest_iff rc).2 ⟨t0, n2⟩⟩
  · rintro ⟨⟨⟨⟨⟨⟨⟨h1, h2⟩, hk⟩, h5⟩, h6⟩, h3⟩, h4⟩, ⟨⟨l0, n0⟩, n01, n02⟩, ⟨⟨l1, n1⟩, n12⟩, l2, n2⟩
    have ra := (lv_run l0).1
    have rb := (lv_run l1).1
    have rc := (lv_run l2).1
    rw [newest_iff ra] at n0
    rw [newest_iff rb] at n01 n1
    rw [newest_iff rc] at n02 n12 n2
    refine ⟨⟨⟨⟨⟨⟨h1, h2⟩, h3⟩, h4⟩, h5⟩, h6⟩, ⟨⟨l0, n0.2⟩, n0.1⟩, ⟨⟨l1, n1.2, n01.2⟩, fun e he => he.elim (n0.1 e) (n01.1 e)⟩, ⟨⟨l2, n2.2, n02.2, n12.2⟩, fun e he => ?_⟩⟩
    rcases he with he | he | he
    · exact n0.1 e he
    · exact n01.1 e he
    · exact n12.1 e he
def Sk (r : List Ent) : Prop := ∀ e ∈ r, e.key.size ≤ 5
def LvK (s : Sto) : Prop := ∀ r ∈ s.levels, Sk r
theorem sk_run {r : List Ent} (h : runOk r = true) : Sk r := fun e he => by
  have := (run_pw h).2.1 e he
  unfold entOk at this
  simp only [Bool.and_eq_true] at this
  exact keyOk_size this.1.1.1
theorem LvK.get {s : Sto} (h : LvK s) (i : Nat) : Sk (s.levels.getD i []) := by
  rw [List.getD_eq_getElem?_getD]
  rcases Nat.lt_or_ge i s.levels.length with c | c
  · rw [List.getElem?_eq_getElem c]; exact h _ (List.getElem_mem c)
  · rw [List.getElem?_eq_none c]; intro e he; simp at he
theorem setM_key {s s' : Sto} {i : Nat} {r : List Ent} (hs : LvK s) (hr : Sk r) (h : setM s i r = some s') : LvK s' := by
  obtain ⟨x, rfl, hx, hl⟩ := setM_ok h
  intro q hq
  rcases List.mem_or_eq_of_mem_set hq with h | rfl
  · exact hs q h
  · exact hr
theorem sk_join {a b : List Ent} (ha : Sk a) (hb : Sk b) : Sk (joinM a b) := fun e he => (mem_joinM he).elim (ha e) (hb e)
theorem sk_trim {a : List Ent} (ha : Sk a) (ts : List Int) (b : Bool) : Sk (trimM a ts b) := fun e he => ha e (mem_trimM he)
theorem intoM_key : ∀ (d : Nat) {s s' : Sto} {i : Nat} {r : List Ent}, LvK s → Sk r → intoM d s i r = some s' → LvK s'
  | 0, s, s', i, r, hs, hr, h => setM_key hs (sk_trim (sk_join hr (hs.get i)) _ _) h
  | d + 1, s, s', i, r, hs, hr, h => by
    simp only [intoM] at h
    split at h
    · rename_i x hx
      obtain rfl := Option.some.inj h
      exact setM_key hs (sk_trim (sk_join hr (hs.get i)) _ _) hx
    · obtain ⟨s1, h1, h2⟩ := Option.bind_eq_some_iff.1 h
      exact setM_key (intoM_key d hs (hs.get i) h1) (sk_trim hr _ _) h2
theorem intoM_topK : ∀ (d : Nat) {s s' : Sto} {i : Nat} {r : List Ent}, intoM d s i r = some s' → s'.top = s.top
  | 0, s, s', i, r, h => (setM_times h).2.1
  | d + 1, s, s', i, r, h => by
    simp only [intoM] at h
    split at h
    · rename_i x hx
      obtain rfl := Option.some.inj h
      exact (setM_times hx).2.1
    · obtain ⟨s1, h1, h2⟩ := Option.bind_eq_some_iff.1 h
      rw [(setM_times h2).2.1, intoM_topK d h1]
theorem into_top0 {s x : Sto} (h : downM s = some x) : x.top = [] := intoM_topK 2 (s := { s with top := [] }) h
structure KeyP (s : Sto) : Prop where
  top : Sk s.top
  lev : LvK s
theorem key_ok {s : Sto} (h : storeS s = true) : KeyP s := by
  have hl : runOk s.top = true ∧ ∀ r ∈ s.levels, runOk r = true := by
    unfold storeS headS at h
    simp only [Bool.and_eq_true] at h
    obtain ⟨⟨⟨⟨⟨⟨⟨h1, h2⟩, h3⟩, h4⟩, h5⟩, h6⟩, h7⟩, h8⟩ := h
    refine ⟨h6, fun r hr => ?_⟩
    obtain ⟨i, hi⟩ := List.mem_iff_getElem?.1 hr
    have hil := (List.getElem?_eq_some_iff.1 hi).1
    have e1 := of_decide_eq_true h1
    have e2 := of_decide_eq_true h2
    have := allI_iff.1 h8 i (by omega)
    unfold sAt at this
    rw [hi, List.getElem?_eq_getElem (show i < s.sieves.length by omega)] at this
    simp only [Bool.and_eq_true] at this
    have l := this.1.1
    unfold lvM at l
    simp only [Bool.and_eq_true] at l
    exact l.1.1.1
  exact ⟨sk_run hl.1, fun r hr => sk_run (hl.2 r hr)⟩
theorem downM_key {s x : Sto} (hk : KeyP s) (h : downM s = some x) : LvK x := intoM_key 2 (s := { s with top := [] }) hk.lev hk.top h
theorem addM_key {s x : Sto} {e : Ent} (hk : e.key.size ≤ 5) (h : addM s e = some x) : KeyP x := by
  unfold addM at h
  split at h
  · rename_i hc
    rw [Bool.and_eq_true] at hc
    have v := key_ok hc.1
    have h1 : Sk [e] := fun y hy => by rw [List.mem_singleton.1 hy]; exact hk
    split at h
    · obtain ⟨y, hy, rfl⟩ := Option.map_eq_some_iff.1 h
      have ht := into_top0 hy
      exact ⟨sk_join h1 (by rw [ht]; intro e he; simp at he), fun r hr => downM_key v hy r hr⟩
    · obtain rfl := Option.some.inj h
      exact ⟨sk_join h1 v.top, v.lev⟩
  · cases h
theorem doM_key {s x : Sto} {d : Deed} (hd : d.key.size ≤ 5) (h : doM s d = some x) : KeyP x := by
  unfold doM at h
  split at h
  · exact addM_key (e := ⟨d.key, d.num, false, nextT s⟩) hd h
  split at h
  · exact addM_key (e := ⟨d.key, 0, true, nextT s⟩) hd h
  split at h
  · unfold holdM at h
    split at h
    · rename_i hv
      split at h
      · obtain rfl := Option.some.inj h
        exact ⟨(key_ok hv).top, (key_ok hv).lev⟩
      · cases h
    · cases h
  split at h
  · unfold freeM at h
    split at h
    · rename_i hv
      split at h
      · cases h
      · obtain rfl := Option.some.inj h
        exact ⟨(key_ok hv).top, (key_ok hv).lev⟩
    · cases h
  split at h
  · unfold sDownM at h
    split at h
    · rename_i hv
      exact ⟨by rw [into_top0 h]; intro e he; simp at he, downM_key (key_ok hv) h⟩
    · cases h
  split at h
  · unfold sJoinM at h
    split at h
    · rename_i hc
      rw [Bool.and_eq_true] at hc
      have v := key_ok hc.1
      obtain ⟨y, hy, h2⟩ := Option.bind_eq_some_iff.1 h
      obtain ⟨q1, q2, q3, q4⟩ := setM_times hy
      have k1 := setM_key v.lev (by intro e he; simp at he) hy
      refine ⟨?_, intoM_key _ k1 (v.lev.get _) h2⟩
      rw [intoM_topK _ h2, q2]; exact v.top
    · cases h
  · cases h
theorem pastTo_keyP {s : Sto} {ds : List Deed} (hs : KeyP s) (hd : ∀ d ∈ ds, d.key.size ≤ 5) : ∀ i, i ≤ ds.length → KeyP (pastTo s ds i).1 := by
  intro i
  induction i with
  | zero => intro _; exact hs
  | succ i ih =>
    intro hl
    have v := ih (by omega)
    obtain ⟨d, hd2⟩ : ∃ d, ds[i]? = some d := ⟨_, List.getElem?_eq_getElem (by omega)⟩
    rw [pastTo_succ hd2]
    unfold pastStep
    cases hm : doM (pastTo s ds i).1 d with
    | none => exact v
    | some x => exact doM_key (hd d (List.mem_of_getElem? hd2)) hm
theorem stoV_key {b : List Int} (hb : byteL b) {p : Nat} (hp : p ≤ 90000) : KeyP (stoV b p).1 := by
  obtain ⟨d1, d2, d3⟩ := deedsV_fin hb (p := p + 1) (most := 30) (by omega) (by omega)
  unfold stoV
  exact pastTo_keyP (key_ok (eSto_ok (kpN_le _))) d2 _ (Nat.le_refl _)
/-- Keys of a store that is drawn. -/
structure FewS (s : Sto) : Prop where
  key : KeyP s
  top : s.top.length ≤ 1001
  ll : s.levels.length ≤ 3
  lev : ∀ r ∈ s.levels, r.length ≤ 1000
  tl : s.times.length ≤ 1001
theorem spoV_few {b : List Int} (hb : byteL b) {p : Nat} (hp : p ≤ 90000) : FewS (spoV b p).1 := by
  obtain ⟨inv, st, hq⟩ := stoV_fin hb hp
  have hk := stoV_key hb hp
  unfold spoV
  generalize stoV b p = sq at inv st hq hk ⊢
  obtain ⟨s, q⟩ := sq
  dsimp only at inv st hq hk ⊢
  have hll := inv.h.ll
  have htl := inv.h.tl
  have htp := inv.tp
  have hlv : ∀ r ∈ s.levels, r.length ≤ 1000 := fun r hr => (inv.h.lev r hr).2
  have base : FewS s := ⟨hk, by omega, by omega, hlv, by omega⟩
  split
  · exact base
  split
  · exact ⟨⟨hk.top, hk.lev⟩, base.top, base.ll, hlv, base.tl⟩
  split
  · exact ⟨⟨hk.top, hk.lev⟩, base.top, base.ll, hlv, by show (s.times ++ [s.time + 1]).length ≤ _; rw [List.length_append]; simp; omega⟩
  split
  · exact ⟨⟨hk.top, fun r hr => hk.lev r (List.mem_of_mem_drop hr)⟩, base.top, by show (s.levels.drop 1).length ≤ _; rw [List.length_drop]; omega, fun r hr => hlv r (List.mem_of_mem_drop hr), base.tl⟩
  split
  · exact ⟨⟨hk.top, hk.lev⟩, base.top, base.ll, hlv, base.tl⟩
  split
  · exact ⟨⟨hk.top, hk.lev⟩, base.top, base.ll, hlv, base.tl⟩
  · refine ⟨⟨fun e he => ?_, hk.lev⟩, by show (s.top ++ [_]).length ≤ _; rw [List.length_append]; simp; omega, base.ll, hlv, base.tl⟩
    rcases List.mem_append.1 (show e ∈ s.top ++ [_] from he) with h | h
    · exact hk.top e h
    · obtain rfl := List.mem_singleton.1 h
      show ByteArray.size ⟨#[]⟩ ≤ 5
      decide
theorem spoiltS_ac {b : List Int} {p : Nat} (hb : byteL b) (hp : p ≤ 90000) : AC Tryz.prog 41 [.c (.ph 0 0 0)] (hpL [some (rdO b p)]) 1 ⟨.t (stT (spoV b p).1), hpL [some (rdO b (spoV b p).2)], 1⟩ := by
  have h := AC.setS [1] (l71Spoilt_ac hb hp) (y := .t (stT (spoV b p).1)) (os' := [some (rdO b (spoV b p).2), none])
    (.cons (SetC.row0 rfl rfl) (.cons (.inl rfl) (.cons (.inl rfl) (.cons (.inl rfl) (.cons (.inl rfl) (.cons (.inl rfl) .nil)))))) ⟨.inl rfl, rfl, trivial⟩
  refine AC.sel (M := [0]) h rfl rfl (selL rfl ?_) (by decide) fun m hm => ?_
  · simp only [go_sem, LeftL]
  · obtain rfl : m = 0 := by omega
    exact ⟨by decide, rfl⟩
def ofT (s : Sto) (i : Nat) : List ByteArray := keysM s.top ++ (s.levels.take i).flatMap keysM
theorem ofT_0 (s : Sto) : ofT s 0 = keysM s.top := by unfold ofT; simp
theorem ofT_succ {s : Sto} {i : Nat} {r : List Ent} (h : s.levels[i]? = some r) : ofT s (i + 1) = ofT s i ++ keysM r := by
  unfold ofT
  rw [List.take_add_one, h, List.flatMap_append, List.append_assoc]; simp
theorem keysM_len (r : List Ent) : (keysM r).length ≤ r.length := colI_len (keyAt_len r)
theorem FewS.of {s : Sto} (h : FewS s) (i : Nat) : (∀ k ∈ ofT s i, k.size ≤ 5) ∧ (ofT s i).length ≤ 1001 + i * 1000 := by
  have hk : ∀ r : List Ent, Sk r → ∀ k ∈ keysM r, k.size ≤ 5 := fun r hr k hk => by
    obtain ⟨e, he, rfl⟩ := keysM_sub k hk
    exact hr e he
  refine ⟨fun k hm => ?_, ?_⟩
  · unfold ofT at hm
    rcases List.mem_append.1 hm with hm | hm
    · exact hk _ h.key.top k hm
    · obtain ⟨r, hr, hm⟩ := List.mem_flatMap.1 hm
      exact hk r (h.key.lev r (List.mem_of_mem_take hr)) k hm
  · induction i with
    | zero => rw [ofT_0]; have := keysM_len s.top; have := h.top; omega
    | succ i ih =>
      rcases Nat.lt_or_ge i s.levels.length with c | c
      · rw [ofT_succ (List.getElem?_eq_getElem c), List.length_append]
        have := keysM_len s.levels[i]
        have := h.lev _ (List.getElem_mem c)
        omega
      · unfold ofT at ih ⊢
        rw [List.take_of_length_le (by omega)] at ih ⊢
        omega
theorem l71Of_ac {b : List Int} {p : Nat} {s : Sto} (hb : byteL b) (hp : p ≤ 800000) (hs : SmSt s) (hf : FewS s) : AC Tryz.prog 42 [.c (.ph 0 0 0), stT s] (hpL [some (rdO b p)]) 1 ⟨.t (sT (nearV b p (ofT s s.levels.length)).1), hpL [some (rdO b (nearV b p (ofT s s.levels.length)).2)], 1⟩ := by
  have k0 := skeysOf_ac s.top hs.top
  rw [hp1_L] at k0
  have hfo := fun i => hf.of i
  have hll := hf.ll
  refine AC_of Tryz.func42 rfl Tryz.ntmps42 Tryz.results42 (by kernel_rfl) rfl ?_
  simp only [List.zipIdx, List.map, Nat.zero_add, Nat.reduceAdd]
  repeat (first | apply Aw_seq | apply Aw_block | apply Aw_skip | apply Aw_exit | refine Aw_condt rfl ?_ | refine Aw_condf rfl ?_ | ((first | refine qr ?_ | refine qd (by kernel_rfl) (by kernel_rfl) ?_); simp only [go_sem, reduceEqDiff, reduceIte, reduceAdd, reduceMul, reduceSub, reduceLT, reduceLeDiff, Nat.reduceBEq]) | refine dk (by kernel_rfl) ?_ | (refine qx (call_N (L := []) (k0) rfl (.cons (.nm rfl) (.nil)) (.inl rfl) rfl) (by simp only [go_sem, reduceEqDiff, reduceIte, reduceAdd, reduceMul, reduceSub, reduceLT, reduceLeDiff, Nat.reduceBEq]; first | done | rfl) rfl (by simp only [go_sem, Nat.reduceLT]) ?_; simp only [go_sem, reduceEqDiff, reduceIte, reduceAdd, reduceMul, reduceSub, reduceLT, reduceLeDiff, Nat.reduceBEq]))
  refine Aw.rw (rwL (l' := [(6, .t (iT (0 : Nat))), (5, .t (.c (.h 2))), (3, .t (.c (.ph 1 0 0))), (0, .t (.c (.ph 0 0 0)))]) (os := [some (rdO b p), some (stO s), some (kRow (ofT s 0))]) (M := [0, 1, 5]) (n' := 3) (by repeat (first | exact trivial | refine ⟨rfl, rfl, ?_⟩)) (by rfl) (by simp only [go_sem, reduceEqDiff, reduceIte, reduceAdd, reduceMul, reduceSub, reduceLT, reduceLeDiff, Nat.reduceBEq, ofT_0]; first | done | rfl) (by decide) (by intro m hm; first | omega | (rcases m with _ | _ | _ | _ | _ | _ | m <;> first | exact ⟨by decide, rfl⟩ | omega))) ?_
  refine Aw_loop_rw (ι := { i : Nat // i ≤ s.levels.length }) (fun q => S [(6, .t (iT (q.1 : Nat))), (5, .t (.c (.h 2))), (3, .t (.c (.ph 1 0 0))), (0, .t (.c (.ph 0 0 0)))] (hpL [some (rdO b p), some (stO s), some (kRow (ofT s q.1))]) 3) (fun q => s.levels.length - q.1) ⟨0, Nat.zero_le _⟩ ?_
  rintro ⟨i, hi⟩
  dsimp only
  by_cases hlt : i < s.levels.length
  · have g1 : decide ((i : Int) < (s.levels.length : Int)) = true := decide_eq_true (by omega)
    have w := wrap_succ hlt (by omega)
    obtain ⟨r, hr⟩ : ∃ e, s.levels[i]? = some e := ⟨_, List.getElem?_eq_getElem hlt⟩
    have k1 := skeysOf_ac r (hs.lev r (List.mem_of_getElem? hr))
    rw [hp1_L] at k1
    have hsu := ofT_succ hr
    have h1 := (hfo (i + 1)).2
    rw [hsu, List.length_append] at h1
    have q1 : (((ofT s i).length + (keysM r).length) * 16 ≤ 140737488355328) = True := eq_true (by omega)
    repeat (first | apply Aw_seq | apply Aw_block | apply Aw_skip | apply Aw_exit | refine Aw_condt rfl ?_ | refine Aw_condf rfl ?_ | ((first | refine qr ?_ | refine qd (by kernel_rfl) (by kernel_rfl) ?_); simp only [go_sem, reduceEqDiff, reduceIte, reduceAdd, reduceMul, reduceSub, reduceLT, reduceLeDiff, Nat.reduceBEq, g1, w, hr, q1]) | refine dk (by kernel_rfl) ?_ | (refine qx (call_N (L := []) (k1) rfl (.cons (.nm rfl) (.nil)) (.inl rfl) rfl) (by simp only [go_sem, reduceEqDiff, reduceIte, reduceAdd, reduceMul, reduceSub, reduceLT, reduceLeDiff, Nat.reduceBEq, g1, w, hr, q1]; first | done | rfl) rfl (by simp only [go_sem, Nat.reduceLT]) ?_; simp only [go_sem, reduceEqDiff, reduceIte, reduceAdd, reduceMul, reduceSub, reduceLT, reduceLeDiff, Nat.reduceBEq, g1, w, hr, q1]))
    refine ⟨⟨i + 1, hlt⟩, [0, 1, 15], ?_, rwL (by repeat (first | exact trivial | refine ⟨rfl, rfl, ?_⟩)) (by rfl) (by simp only [go_sem, reduceEqDiff, reduceIte, reduceAdd, reduceMul, reduceSub, reduceLT, reduceLeDiff, Nat.reduceBEq, hsu, List.map_append]; first | done | rfl) (by decide) (by intro m hm; first | omega | (rcases m with _ | _ | _ | _ | _ | _ | m <;> first | exact ⟨by decide, rfl⟩ | omega))⟩
    show s.levels.length - (i + 1) < s.levels.length - i; omega
  · have g1 : decide ((i : Int) < (s.levels.length : Int)) = false := decide_eq_false (by omega)
    obtain rfl : i = s.levels.length := by omega
    obtain ⟨h1, h2⟩ := hfo s.levels.length
    have k2 := l71Near_ac (l := ofT s s.levels.length) hb hp (by omega) fun k hk => by have := h1 k hk; omega
    generalize ofT s s.levels.length = l at k2 ⊢
    refine Aw.setL (l' := [(6, .t (iT (s.levels.length : Nat))), (5, .t (strsT l)), (3, .t (.c (.ph 1 0 0))), (0, .t (.c (.ph 0 0 0)))]) (os' := [some (rdO b p), some (stO s), none]) (n' := 3) [2] (by repeat (first | exact trivial | refine ⟨SetA.same rfl, ?_⟩ | refine ⟨SetA.row rfl rfl (by decide), ?_⟩)) (by repeat (first | exact trivial | refine ⟨rfl, rfl, ?_⟩ | show SubL _ _ _ _)) (by decide) ?_
    repeat (first | apply Aw_seq | apply Aw_block | apply Aw_skip | apply Aw_exit | refine Aw_condt rfl ?_ | refine Aw_condf rfl ?_ | ((first | refine qr ?_ | refine qd (by kernel_rfl) (by kernel_rfl) ?_); simp only [go_sem, reduceEqDiff, reduceIte, reduceAdd, reduceMul, reduceSub, reduceLT, reduceLeDiff, Nat.reduceBEq, g1]) | refine dk (by kernel_rfl) ?_ | (refine qx (call_L (N' := [0]) (L := []) (k2) rfl (.cons (.nm rfl) (.cons (.nm rfl) (.nil))) (by decide) (by decide) (by decide) (by simp only [go_sem, reduceEqDiff, reduceIte, reduceAdd, reduceMul, reduceSub, reduceLT, reduceLeDiff, Nat.reduceBEq, g1]; first | done | rfl) (.inl rfl) rfl (by decide)) (by simp only [go_sem, reduceEqDiff, reduceIte, reduceAdd, reduceMul, reduceSub, reduceLT, reduceLeDiff, Nat.reduceBEq, g1]; first | done | rfl) rfl (by simp only [go_sem, Nat.reduceLT]) ?_; simp only [go_sem, reduceEqDiff, reduceIte, reduceAdd, reduceMul, reduceSub, reduceLT, reduceLeDiff, Nat.reduceBEq, g1]))
    exact Aw_ret (retL (M := [0]) (.inl rfl) (by simp only [go_sem, reduceEqDiff, reduceIte, reduceAdd, reduceMul, reduceSub, reduceLT, reduceLeDiff, Nat.reduceBEq]; first | done | rfl) rfl rfl (by rfl) (by simp only [go_sem, reduceEqDiff, reduceIte, reduceAdd, reduceMul, reduceSub, reduceLT, reduceLeDiff, Nat.reduceBEq]; first | done | rfl | (and_intros <;> rfl)) (by decide) (by intro m hm; first | omega | (rcases m with _ | _ | _ | _ | _ | _ | m <;> first | exact ⟨by decide, rfl⟩ | omega)))
noncomputable def timV (b : List Int) (p : Nat) (s : Sto) : Int × Nat :=
  if 0 < s.times.length then (if pickV b p 2 = 0 then (s.times.getD (pickV b (p + 1) (s.times.length : Int)) 0, p + 2) else (s.time - ((pickV b (p + 1) 8 / 7 : Nat) : Int), p + 2))
  else (s.time - ((pickV b p 8 / 7 : Nat) : Int), p + 1)
theorem div7 (v : Nat) (h : v ≤ 1000) : IntKind.i64.wrap (Int.tdiv (v : Int) 7) = ((v / 7 : Nat) : Int) := wn rfl (by omega)
theorem l71Time_ac {b : List Int} {p : Nat} {s : Sto} (hb : byteL b) (hp : p ≤ 800000) (h0 : -1 ≤ s.time) (h1 : s.time ≤ 1000) (hl : s.times.length ≤ 1001) : AC Tryz.prog 48 [.c (.ph 0 0 0), stT s] (hpL [some (rdO b p)]) 1 ⟨.t (iT (timV b p s).1), hpL [some (rdO b (timV b p s).2)], 1⟩ := by
  unfold timV
  have rest : ∀ v : Nat, v < 8 → IntKind.i64.wrap (s.time - ((v / 7 : Nat) : Int)) = s.time - ((v / 7 : Nat) : Int) := fun v hv => wrap_in (by omega) (by omega)
  by_cases c0 : 0 < s.times.length
  · have g0 : decide ((0 : Int) < (s.times.length : Int)) = true := decide_eq_true (by omega)
    rw [if_pos c0]
    have k1 := pickV_ac (n := 2) hb (show p ≤ 1000000 by omega) (by omega)
    by_cases c1 : pickV b p 2 = 0
    · rw [if_pos c1]
      have g1 : decide (((pickV b p 2 : Nat) : Int) = 0) = true := decide_eq_true (by omega)
      have k2 := pickV_ac (n := (s.times.length : Int)) hb (show p + 1 ≤ 1000000 by omega) (by omega)
      have l2 := pickV_lt (n := (s.times.length : Int)) hb (show p + 1 ≤ 1000000 by omega) (by omega) (by omega)
      generalize pickV b (p + 1) (s.times.length : Int) = v at k2 l2 ⊢
      have hv : v < s.times.length := by omega
      obtain ⟨y, hy⟩ : ∃ e, s.times[v]? = some e := ⟨_, List.getElem?_eq_getElem hv⟩
      have e1 : s.times.getD v 0 = y := by rw [List.getD_eq_getElem?_getD, hy]; rfl
      rw [e1]
      refine AC_of Tryz.func48 rfl Tryz.ntmps48 Tryz.results48 (by kernel_rfl) rfl ?_
      simp only [List.zipIdx, List.map, Nat.zero_add, Nat.reduceAdd]
      repeat (first | apply Aw_seq | apply Aw_block | apply Aw_skip | apply Aw_exit | refine Aw_condt rfl ?_ | refine Aw_condf rfl ?_ | ((first | refine qr ?_ | refine qd (by kernel_rfl) (by kernel_rfl) ?_); simp only [go_sem, reduceEqDiff, reduceIte, reduceAdd, reduceMul, reduceSub, reduceLT, reduceLeDiff, Nat.reduceBEq, g0, g1, hy, hv]) | refine dk (by kernel_rfl) ?_ | (refine qx (call_L (N' := [0]) (L := []) (k1) rfl (.cons (.nm rfl) (.cons (.nm rfl) (.nil))) (by decide) (by decide) (by decide) (by simp only [go_sem, reduceEqDiff, reduceIte, reduceAdd, reduceMul, reduceSub, reduceLT, reduceLeDiff, Nat.reduceBEq, g0, g1, hy, hv]; first | done | rfl) (.inl rfl) rfl (by decide)) (by simp only [go_sem, reduceEqDiff, reduceIte, reduceAdd, reduceMul, reduceSub, reduceLT, reduceLeDiff, Nat.reduceBEq, g0, g1, hy, hv]; first | done | rfl) rfl (by simp only [go_sem, Nat.reduceLT]) ?_; simp only [go_sem, reduceEqDiff, reduceIte, reduceAdd, reduceMul, reduceSub, reduceLT, reduceLeDiff, Nat.reduceBEq, g0, g1, hy, hv]) | (refine qx (call_L (N' := [0]) (L := []) (k2) rfl (.cons (.nm rfl) (.cons (.nm rfl) (.nil))) (by decide) (by decide) (by decide) (by simp only [go_sem, reduceEqDiff, reduceIte, reduceAdd, reduceMul, reduceSub, reduceLT, reduceLeDiff, Nat.reduceBEq, g0, g1, hy, hv]; first | done | rfl) (.inl rfl) rfl (by decide)) (by simp only [go_sem, reduceEqDiff, reduceIte, reduceAdd, reduceMul, reduceSub, reduceLT, reduceLeDiff, Nat.reduceBEq, g0, g1, hy, hv]; first | done | rfl) rfl (by simp only [go_sem, Nat.reduceLT]) ?_; simp only [go_sem, reduceEqDiff, reduceIte, reduceAdd, reduceMul, reduceSub, reduceLT, reduceLeDiff, Nat.reduceBEq, g0, g1, hy, hv]))
      exact Aw_ret (retL (M := [0]) (.inl rfl) (by simp only [go_sem, reduceEqDiff, reduceIte, reduceAdd, reduceMul, reduceSub, reduceLT, reduceLeDiff, Nat.reduceBEq]; first | done | rfl) rfl rfl (by rfl) (by simp only [go_sem, reduceEqDiff, reduceIte, reduceAdd, reduceMul, reduceSub, reduceLT, reduceLeDiff, Nat.reduceBEq]; first | done | rfl | (and_intros <;> rfl)) (by decide) (by intro m hm; first | omega | (rcases m with _ | _ | _ | _ | _ | _ | m <;> first | exact ⟨by decide, rfl⟩ | omega)))
    · rw [if_neg c1]
      have g1 : decide (((pickV b p 2 : Nat) : Int) = 0) = false := decide_eq_false (by omega)
      have k2 := pickV_ac (n := 8) hb (show p + 1 ≤ 1000000 by omega) (by omega)
      have l2 := pickV_lt (n := 8) hb (show p + 1 ≤ 1000000 by omega) (by omega) (by omega)
      generalize pickV b (p + 1) 8 = v at k2 l2 ⊢
      have w1 := div7 v (by omega)
      have w2 := rest v (by omega)
      have z7 : ((7 : Int) = 0) = False := eq_false (by decide)
      refine AC_of Tryz.func48 rfl Tryz.ntmps48 Tryz.results48 (by kernel_rfl) rfl ?_
      simp only [List.zipIdx, List.map, Nat.zero_add, Nat.reduceAdd]
      repeat (first | apply Aw_seq | apply Aw_block | apply Aw_skip | apply Aw_exit | refine Aw_condt rfl ?_ | refine Aw_condf rfl ?_ | ((first | refine qr ?_ | refine qd (by kernel_rfl) (by kernel_rfl) ?_); simp only [go_sem, reduceEqDiff, reduceIte, reduceAdd, reduceMul, reduceSub, reduceLT, reduceLeDiff, Nat.reduceBEq, g0, g1, z7, w1, w2]) | refine dk (by kernel_rfl) ?_ | (refine qx (call_L (N' := [0]) (L := []) (k1) rfl (.cons (.nm rfl) (.cons (.nm rfl) (.nil))) (by decide) (by decide) (by decide) (by simp only [go_sem, reduceEqDiff, reduceIte, reduceAdd, reduceMul, reduceSub, reduceLT, reduceLeDiff, Nat.reduceBEq, g0, g1, z7, w1, w2]; first | done | rfl) (.inl rfl) rfl (by decide)) (by simp only [go_sem, reduceEqDiff, reduceIte, reduceAdd, reduceMul, reduceSub, reduceLT, reduceLeDiff, Nat.reduceBEq, g0, g1, z7, w1, w2]; first | done | rfl) rfl (by simp only [go_sem, Nat.reduceLT]) ?_; simp only [go_sem, reduceEqDiff, reduceIte, reduceAdd, reduceMul, reduceSub, reduceLT, reduceLeDiff, Nat.reduceBEq, g0, g1, z7, w1, w2]) | (refine qx (call_L (N' := [0]) (L := []) (k2) rfl (.cons (.nm rfl) (.cons (.nm rfl) (.nil))) (by decide) (by decide) (by decide) (by simp only [go_sem, reduceEqDiff, reduceIte, reduceAdd, reduceMul, reduceSub, reduceLT, reduceLeDiff, Nat.reduceBEq, g0, g1, z7, w1, w2]; first | done | rfl) (.inl rfl) rfl (by decide)) (by simp only [go_sem, reduceEqDiff, reduceIte, reduceAdd, reduceMul, reduceSub, reduceLT, reduceLeDiff, Nat.reduceBEq, g0, g1, z7, w1, w2]; first | done | rfl) rfl (by simp only [go_sem, Nat.reduceLT]) ?_; simp only [go_sem, reduceEqDiff, reduceIte, reduceAdd, reduceMul, reduceSub, reduceLT, reduceLeDiff, Nat.reduceBEq, g0, g1, z7, w1, w2]))
      exact Aw_ret (retL (M := [0]) (.inl rfl) (by simp only [go_sem, reduceEqDiff, reduceIte, reduceAdd, reduceMul, reduceSub, reduceLT, reduceLeDiff, Nat.reduceBEq]; first | done | rfl) rfl rfl (by rfl) (by simp only [go_sem, reduceEqDiff, reduceIte, reduceAdd, reduceMul, reduceSub, reduceLT, reduceLeDiff, Nat.reduceBEq]; first | done | rfl | (and_intros <;> rfl)) (by decide) (by intro m hm; first | omega | (rcases m with _ | _ | _ | _ | _ | _ | m <;> first | exact ⟨by decide, rfl⟩ | omega)))
  · have g0 : decide ((0 : Int) < (s.times.length : Int)) = false := decide_eq_false (by omega)
    rw [if_neg c0]
    have k2 := pickV_ac (n := 8) hb (show p ≤ 1000000 by omega) (by omega)
    have l2 := pickV_lt (n := 8) hb (show p ≤ 1000000 by omega) (by omega) (by omega)
    generalize pickV b p 8 = v at k2 l2 ⊢
    have w1 := div7 v (by omega)
    have w2 := rest v (by omega)
    have z7 : ((7 : Int) = 0) = False := eq_false (by decide)
    refine AC_of Tryz.func48 rfl Tryz.ntmps48 Tryz.results48 (by kernel_rfl) rfl ?_
    simp only [List.zipIdx, List.map, Nat.zero_add, Nat.reduceAdd]
    repeat (first | apply Aw_seq | apply Aw_block | apply Aw_skip | apply Aw_exit | refine Aw_condt rfl ?_ | refine Aw_condf rfl ?_ | ((first | refine qr ?_ | refine qd (by kernel_rfl) (by kernel_rfl) ?_); simp only [go_sem, reduceEqDiff, reduceIte, reduceAdd, reduceMul, reduceSub, reduceLT, reduceLeDiff, Nat.reduceBEq, g0, z7, w1, w2]) | refine dk (by kernel_rfl) ?_ | (refine qx (call_L (N' := [0]) (L := []) (k2) rfl (.cons (.nm rfl) (.cons (.nm rfl) (.nil))) (by decide) (by decide) (by decide) (by simp only [go_sem, reduceEqDiff, reduceIte, reduceAdd, reduceMul, reduceSub, reduceLT, reduceLeDiff, Nat.reduceBEq, g0, z7, w1, w2]; first | done | rfl) (.inl rfl) rfl (by decide)) (by simp only [go_sem, reduceEqDiff, reduceIte, reduceAdd, reduceMul, reduceSub, reduceLT, reduceLeDiff, Nat.reduceBEq, g0, z7, w1, w2]; first | done | rfl) rfl (by simp only [go_sem, Nat.reduceLT]) ?_; simp only [go_sem, reduceEqDiff, reduceIte, reduceAdd, reduceMul, reduceSub, reduceLT, reduceLeDiff, Nat.reduceBEq, g0, z7, w1, w2]))
    exact Aw_ret (retL (M := [0]) (.inl rfl) (by simp only [go_sem, reduceEqDiff, reduceIte, reduceAdd, reduceMul, reduceSub, reduceLT, reduceLeDiff, Nat.reduceBEq]; first | done | rfl) rfl rfl (by rfl) (by simp only [go_sem, reduceEqDiff, reduceIte, reduceAdd, reduceMul, reduceSub, reduceLT, reduceLeDiff, Nat.reduceBEq]; first | done | rfl | (and_intros <;> rfl)) (by decide) (by intro m hm; first | omega | (rcases m with _ | _ | _ | _ | _ | _ | m <;> first | exact ⟨by decide, rfl⟩ | omega)))
noncomputable def dslV (b : List Int) : Sto × ByteArray := ((spoV b 0).1, (nearV b (spoV b 0).2 (ofT (spoV b 0).1 (spoV b 0).1.levels.length)).1)
theorem drawStoreLooks_ac (c : List Int) (hl : c.length ≤ 1099511627776) (hb : byteL (c.take 2000)) : AC Tryz.prog 11 [bytesT c] noHp 0 ⟨.tup [stT (dslV (c.take 2000)).1, sT (dslV (c.take 2000)).2], noHp, 0⟩ := by
  have k0 := l6Open_ac c hl
  obtain ⟨b, hbe⟩ : ∃ b, b = c.take 2000 := ⟨_, rfl⟩
  rw [← hbe] at hb k0 ⊢
  obtain ⟨h, hq⟩ := spoV_fin hb (p := 0) (by omega)
  have hf := spoV_few hb (p := 0) (by omega)
  have ks := spoiltS_ac hb (p := 0) (by omega)
  unfold dslV
  generalize spoV b 0 = sq at h hq hf ks ⊢
  obtain ⟨s, q⟩ := sq
  dsimp only at h hq hf ks ⊢
  have k1 := l71Of_ac hb (show q ≤ 800000 by omega) h.st hf
  generalize nearV b q (ofT s s.levels.length) = z at k1 ⊢
  refine AC_of Tryz.func11 rfl Tryz.ntmps11 Tryz.results11 (by kernel_rfl) rfl ?_
  simp only [List.zipIdx, List.map, Nat.zero_add, Nat.reduceAdd]
  repeat (first | apply Aw_seq | apply Aw_block | apply Aw_skip | apply Aw_exit | refine Aw_condt rfl ?_ | refine Aw_condf rfl ?_ | ((first | refine qr ?_ | refine qd (by kernel_rfl) (by kernel_rfl) ?_); simp only [go_sem, reduceEqDiff, reduceIte, reduceAdd, reduceMul, reduceSub, reduceLT, reduceLeDiff, Nat.reduceBEq]) | refine dk (by kernel_rfl) ?_ | (refine qx (call_N (L := []) (k0) rfl (.cons (.nm rfl) (.nil)) (.inl rfl) rfl) (by simp only [go_sem, reduceEqDiff, reduceIte, reduceAdd, reduceMul, reduceSub, reduceLT, reduceLeDiff, Nat.reduceBEq]; first | done | rfl) rfl (by simp only [go_sem, Nat.reduceLT]) ?_; simp only [go_sem, reduceEqDiff, reduceIte, reduceAdd, reduceMul, reduceSub, reduceLT, reduceLeDiff, Nat.reduceBEq]) | (refine qx (call_L (N' := [3]) (L := []) (ks) rfl (.cons (.nm rfl) (.nil)) (by decide) (by decide) (by decide) (by simp only [go_sem, reduceEqDiff, reduceIte, reduceAdd, reduceMul, reduceSub, reduceLT, reduceLeDiff, Nat.reduceBEq]; first | done | rfl) (.inl rfl) rfl (by decide)) (by simp only [go_sem, reduceEqDiff, reduceIte, reduceAdd, reduceMul, reduceSub, reduceLT, reduceLeDiff, Nat.reduceBEq]; first | done | rfl) rfl (by simp only [go_sem, Nat.reduceLT]) ?_; simp only [go_sem, reduceEqDiff, reduceIte, reduceAdd, reduceMul, reduceSub, reduceLT, reduceLeDiff, Nat.reduceBEq]) | (refine qx (call_L (N' := [3]) (L := []) (k1) rfl (.cons (.nm rfl) (.cons (.nm rfl) (.nil))) (by decide) (by decide) (by decide) (by simp only [go_sem, reduceEqDiff, reduceIte, reduceAdd, reduceMul, reduceSub, reduceLT, reduceLeDiff, Nat.reduceBEq]; first | done | rfl) (.inl rfl) rfl (by decide)) (by simp only [go_sem, reduceEqDiff, reduceIte, reduceAdd, reduceMul, reduceSub, reduceLT, reduceLeDiff, Nat.reduceBEq]; first | done | rfl) rfl (by simp only [go_sem, Nat.reduceLT]) ?_; simp only [go_sem, reduceEqDiff, reduceIte, reduceAdd, reduceMul, reduceSub, reduceLT, reduceLeDiff, Nat.reduceBEq]))
  exact Aw_ret (ret0 (.inl rfl) (by simp only [go_sem, reduceEqDiff, reduceIte, reduceAdd, reduceMul, reduceSub, reduceLT, reduceLeDiff, Nat.reduceBEq]; rfl) (by rfl) rfl)
noncomputable def dsgV (b : List Int) : Int := (timV b (nearV b (spoV b 0).2 (ofT (spoV b 0).1 (spoV b 0).1.levels.length)).2 (spoV b 0).1).1
theorem drawStoreGet_ac (c : List Int) (hl : c.length ≤ 1099511627776) (hb : byteL (c.take 2000)) : AC Tryz.prog 16 [bytesT c] noHp 0 ⟨.tup [stT (dslV (c.take 2000)).1, sT (dslV (c.take 2000)).2, iT (dsgV (c.take 2000))], noHp, 0⟩ := by
  have k0 := l6Open_ac c hl
  obtain ⟨b, hbe⟩ : ∃ b, b = c.take 2000 := ⟨_, rfl⟩
  rw [← hbe] at hb k0 ⊢
  obtain ⟨h, hq⟩ := spoV_fin hb (p := 0) (by omega)
  have hf := spoV_few hb (p := 0) (by omega)
  have ks := spoiltS_ac hb (p := 0) (by omega)
  unfold dslV dsgV
  generalize spoV b 0 = sq at h hq hf ks ⊢
  obtain ⟨s, q⟩ := sq
  dsimp only at h hq hf ks ⊢
  have k1 := l71Of_ac hb (show q ≤ 800000 by omega) h.st hf
  have hfo := hf.of s.levels.length
  have hll := hf.ll
  have hn := (nearV_fin hb (p := q) (K := 5) (l := ofT s s.levels.length) (by omega) (by omega) (Nat.le_refl _) hfo.1).2
  generalize nearV b q (ofT s s.levels.length) = z at k1 hn ⊢
  have k2 := l71Time_ac hb (show z.2 ≤ 800000 by omega) h.t0 h.t1 hf.tl
  generalize timV b z.2 s = y at k2 ⊢
  refine AC_of Tryz.func16 rfl Tryz.ntmps16 Tryz.results16 (by kernel_rfl) rfl ?_
  simp only [List.zipIdx, List.map, Nat.zero_add, Nat.reduceAdd]
  repeat (first | apply Aw_seq | apply Aw_block | apply Aw_skip | apply Aw_exit | refine Aw_condt rfl ?_ | refine Aw_condf rfl ?_ | ((first | refine qr ?_ | refine qd (by kernel_rfl) (by kernel_rfl) ?_); simp only [go_sem, reduceEqDiff, reduceIte, reduceAdd, reduceMul, reduceSub, reduceLT, reduceLeDiff, Nat.reduceBEq]) | refine dk (by kernel_rfl) ?_ | (refine qx (call_N (L := []) (k0) rfl (.cons (.nm rfl) (.nil)) (.inl rfl) rfl) (by simp only [go_sem, reduceEqDiff, reduceIte, reduceAdd, reduceMul, reduceSub, reduceLT, reduceLeDiff, Nat.reduceBEq]; first | done | rfl) rfl (by simp only [go_sem, Nat.reduceLT]) ?_; simp only [go_sem, reduceEqDiff, reduceIte, reduceAdd, reduceMul, reduceSub, reduceLT, reduceLeDiff, Nat.reduceBEq]) | (refine qx (call_L (N' := [4]) (L := []) (ks) rfl (.cons (.nm rfl) (.nil)) (by decide) (by decide) (by decide) (by simp only [go_sem, reduceEqDiff, reduceIte, reduceAdd, reduceMul, reduceSub, reduceLT, reduceLeDiff, Nat.reduceBEq]; first | done | rfl) (.inl rfl) rfl (by decide)) (by simp only [go_sem, reduceEqDiff, reduceIte, reduceAdd, reduceMul, reduceSub, reduceLT, reduceLeDiff, Nat.reduceBEq]; first | done | rfl) rfl (by simp only [go_sem, Nat.reduceLT]) ?_; simp only [go_sem, reduceEqDiff, reduceIte, reduceAdd, reduceMul, reduceSub, reduceLT, reduceLeDiff, Nat.reduceBEq]) | (refine qx (call_L (N' := [4]) (L := []) (k1) rfl (.cons (.nm rfl) (.cons (.nm rfl) (.nil))) (by decide) (by decide) (by decide) (by simp only [go_sem, reduceEqDiff, reduceIte, reduceAdd, reduceMul, reduceSub, reduceLT, reduceLeDiff, Nat.reduceBEq]; first | done | rfl) (.inl rfl) rfl (by decide)) (by simp only [go_sem, reduceEqDiff, reduceIte, reduceAdd, reduceMul, reduceSub, reduceLT, reduceLeDiff, Nat.reduceBEq]; first | done | rfl) rfl (by simp only [go_sem, Nat.reduceLT]) ?_; simp only [go_sem, reduceEqDiff, reduceIte, reduceAdd, reduceMul, reduceSub, reduceLT, reduceLeDiff, Nat.reduceBEq]) | (refine qx (call_L (N' := [4]) (L := []) (k2) rfl (.cons (.nm rfl) (.cons (.nm rfl) (.nil))) (by decide) (by decide) (by decide) (by simp only [go_sem, reduceEqDiff, reduceIte, reduceAdd, reduceMul, reduceSub, reduceLT, reduceLeDiff, Nat.reduceBEq]; first | done | rfl) (.inl rfl) rfl (by decide)) (by simp only [go_sem, reduceEqDiff, reduceIte, reduceAdd, reduceMul, reduceSub, reduceLT, reduceLeDiff, Nat.reduceBEq]; first | done | rfl) rfl (by simp only [go_sem, Nat.reduceLT]) ?_; simp only [go_sem, reduceEqDiff, reduceIte, reduceAdd, reduceMul, reduceSub, reduceLT, reduceLeDiff, Nat.reduceBEq]))
  exact Aw_ret (ret0 (.inl rfl) (by simp only [go_sem, reduceEqDiff, reduceIte, reduceAdd, reduceMul, reduceSub, reduceLT, reduceLeDiff, Nat.reduceBEq]; rfl) (by rfl) rfl)
theorem dslV_st {b : List Int} (hb : byteL b) : SmSt (dslV b).1 ∧ smK (dslV b).2 := by
  obtain ⟨h, hq⟩ := spoV_fin hb (p := 0) (by omega)
  have hf := spoV_few hb (p := 0) (by omega)
  refine ⟨h.st, ?_⟩
  unfold dslV
  generalize spoV b 0 = sq at h hq hf ⊢
  obtain ⟨s, q⟩ := sq
  dsimp only at h hq hf ⊢
  have hfo := hf.of s.levels.length
  have hll := hf.ll
  have hn := (nearV_fin hb (p := q) (K := 5) (l := ofT s s.levels.length) (by omega) (by omega) (Nat.le_refl _) hfo.1).1
  unfold smK; omega
/-- The forks, one behind the other. -/
def fks (keep : Nat) : Nat → List (List ByteArray × Nat) → List (List ByteArray × Nat)
  | 0, _ => []
  | _ + 1, [] => []
  | n + 1, f :: q => f :: fks keep n (q ++ (node keep f).kids)
theorem fks_bfs (keep : Nat) : ∀ (n : Nat) (q : List (List ByteArray × Nat)), (bfs keep n q).letters = (fks keep n q).flatMap (fun f => (node keep f).letters) ∧ (bfs keep n q).more = (fks keep n q).flatMap (fun f => (node keep f).more) ∧ (bfs keep n q).first = (fks keep n q).flatMap (fun f => (node keep f).first) ∧ (bfs keep n q).rests = (fks keep n q).flatMap (fun f => (node keep f).rests)
  | 0, q => by simp [bfs, fks, zPut]
  | n + 1, [] => by simp [bfs, fks, zPut]
  | n + 1, f :: q => by
    obtain ⟨h1, h2, h3, h4⟩ := fks_bfs keep n (q ++ (node keep f).kids)
    simp only [bfs, fks, Put.add, List.flatMap_cons, h1, h2, h3, h4, and_self]
theorem fks_kids (keep : Nat) : ∀ (n : Nat) (q : List (List ByteArray × Nat)), wts q ≤ n → (∀ f ∈ q, Fork f) → fks keep n q = q ++ (fks keep n q).flatMap (fun f => (node keep f).kids)
  | 0, [], _, _ => rfl
  | 0, f :: q, h, _ => by have := wt_pos f; rw [wts_cons] at h; omega
  | n + 1, [], _, _ => rfl
  | n + 1, f :: q, h, hf => by
    have hff := hf f (by simp)
    have hk := kids_wt (keep := keep) hff.dep
    rw [wts_cons] at h
    have ih := fks_kids keep n (q ++ (node keep f).kids) (by rw [wts_app]; omega) fun g hg => by
      rcases List.mem_append.1 hg with hg | hg
      · exact hf g (List.mem_cons_of_mem _ hg)
      · exact node_fork hff g hg
    simp only [fks, List.flatMap_cons, List.cons_append, List.cons.injEq, true_and]
    conv => lhs; rw [ih]
    rw [List.append_assoc]
theorem fks_fork {keep : Nat} : ∀ (n : Nat) (q : List (List ByteArray × Nat)), (∀ f ∈ q, Fork f) → ∀ f ∈ fks keep n q, Fork f
  | 0, q, _ => by simp [fks]
  | n + 1, [], _ => by simp [fks]
  | n + 1, f :: q, h => by
    intro g hg
    rcases List.mem_cons.1 (show g ∈ f :: fks keep n (q ++ (node keep f).kids) from hg) with rfl | hg
    · exact h _ (by simp)
    · refine fks_fork n _ (fun z hz => ?_) g hg
      rcases List.mem_append.1 hz with hz | hz
      · exact h z (List.mem_cons_of_mem _ hz)
      · exact node_fork (h f (by simp)) z hz
/-- The i-th part of parts laid one behind the other begins behind those ahead of it. -/
def offL {α β : Type} (g : α → List β) (F : List α) (i : Nat) : Nat := ((F.take i).flatMap g).length
theorem offL_0 {α β : Type} (g : α → List β) (F : List α) : offL g F 0 = 0 := rfl
theorem offL_succ {α β : Type} (g : α → List β) {F : List α} {i : Nat} {f : α} (h : F[i]? = some f) : offL g F (i + 1) = offL g F i + (g f).length := by
  unfold offL
  rw [List.take_add_one, h, List.flatMap_append]; simp
theorem flat_get {α β : Type} (g : α → List β) : ∀ (F : List α) (i : Nat) (f : α) (t : Nat), F[i]? = some f → t < (g f).length → (F.flatMap g)[offL g F i + t]? = (g f)[t]?
  | [], i, f, t, h, _ => by simp at h
  | a :: F, 0, f, t, h, ht => by
    simp only [List.getElem?_cons_zero, Option.some.injEq] at h
    subst h
    rw [offL_0, Nat.zero_add, List.flatMap_cons, List.getElem?_append_left ht]
  | a :: F, i + 1, f, t, h, ht => by
    simp only [List.getElem?_cons_succ] at h
    have ih := flat_get g F i f t h ht
    have e : offL g (a :: F) (i + 1) = (g a).length + offL g F i := by unfold offL; simp
    rw [List.flatMap_cons, e, List.getElem?_append_right (by omega), ← ih]
    congr 1; omega
/-- The place of the n-th one. -/
def posOne : List UInt8 → Nat → Option Nat
  | [], _ => none
  | b :: l, n => if b = 49 then (match n with
      | 0 => some 0
      | m + 1 => (posOne l m).map (· + 1)) else (posOne l n).map (· + 1)
theorem posOne_zeros : ∀ (l r : List UInt8) (n : Nat), (∀ b ∈ l, b ≠ 49) → posOne (l ++ r) n = (posOne r n).map (· + l.length)
  | [], r, n, _ => by simp
  | b :: l, r, n, h => by
    have hb := h b (by simp)
    have ih := posOne_zeros l r n fun x hx => h x (List.mem_cons_of_mem _ hx)
    simp only [List.cons_append, posOne]
    rw [if_neg hb, ih, Option.map_map]
    cases posOne r n with
    | none => rfl
    | some v => simp; omega
/-- Blocks that begin with a one and have no other. -/
theorem posOne_blocks {α : Type} (g : α → List UInt8) : ∀ (F : List α) (i : Nat), (∀ f ∈ F, ∃ l, g f = 49 :: l ∧ ∀ b ∈ l, b ≠ 49) → posOne (F.flatMap g) i = if i < F.length then some (offL g F i) else none
  | [], i, _ => by simp [posOne]
  | a :: F, i, h => by
    obtain ⟨l, e, hl⟩ := h a (by simp)
    have ih := fun j => posOne_blocks g F j fun f hf => h f (List.mem_cons_of_mem _ hf)
    rw [List.flatMap_cons, e, List.cons_append]
    cases i with
    | zero => simp [posOne, offL_0]
    | succ j =>
      simp only [posOne, if_true]
      rw [posOne_zeros l _ j hl, ih]
      have eo : offL g (a :: F) (j + 1) = (g a).length + offL g F j := by unfold offL; simp
      by_cases c : j < F.length
      · rw [if_pos c, if_pos (by simp; omega), eo, e]
        simp; omega
      · rw [if_neg c, if_neg (by simp; omega)]; rfl
/-- A branch: the keys behind it, and its depth. -/
abbrev Br := List ByteArray × Nat
def brs (f : List ByteArray × Nat) : List Br := (spl f.2 f.1).map fun g => (g, f.2)
def bLet (b : Br) : UInt8 := lab (b.1.headD zs) b.2
def bMul (b : Br) : Bool := decide (1 < b.1.length)
def bMore (b : Br) : UInt8 := if bMul b = true then 49 else 48
def bCut (keep : Nat) (b : Br) : ByteArray := cutT (b.1.headD zs) b.2 keep
def bKid (b : Br) : List ByteArray × Nat := (b.1, b.2 + 1)
def bFirst : List Br → List UInt8
  | [] => []
  | _ :: r => 49 :: r.map fun _ => 48
theorem runs_all (keep d : Nat) : ∀ (m : UInt8) (gs : List (List ByteArray)), (∀ g ∈ gs, g ≠ []) →
    (runs keep d m gs).letters = (gs.map fun g => (g, d)).map bLet ∧ (runs keep d m gs).more = (gs.map fun g => (g, d)).map bMore ∧ (runs keep d m gs).first = (match gs with | [] => [] | _ :: r => m :: r.map fun _ => 48) ∧
    (runs keep d m gs).rests = ((gs.map fun g => (g, d)).filter fun b => !bMul b).map (bCut keep) ∧ (runs keep d m gs).kids = ((gs.map fun g => (g, d)).filter bMul).map bKid
  | m, [], _ => by simp [runs, zPut]
  | m, g :: gs, h => by
    obtain ⟨h1, h2, h3, h4, h5⟩ := runs_all keep d 48 gs fun x hx => h x (List.mem_cons_of_mem _ hx)
    have h3' : (runs keep d 48 gs).first = gs.map fun _ => 48 := by rw [h3]; cases gs <;> rfl
    match g, h g (by simp) with
    | [], hg => exact absurd rfl hg
    | [k], _ => simp [runs, run1, Put.add, h1, h2, h3', h4, h5, bLet, bMore, bMul, bCut]
    | k :: k2 :: r, _ => simp [runs, run1, Put.add, h1, h2, h3', h4, h5, bLet, bMore, bMul, bCut, bKid]
theorem node_all (keep : Nat) (f : List ByteArray × Nat) : (node keep f).letters = (brs f).map bLet ∧ (node keep f).more = (brs f).map bMore ∧ (node keep f).first = bFirst (brs f) ∧ (node keep f).rests = ((brs f).filter fun b => !bMul b).map (bCut keep) ∧ (node keep f).kids = ((brs f).filter bMul).map bKid := by
  obtain ⟨h1, h2, h3, h4, h5⟩ := runs_all keep f.2 49 (spl f.2 f.1) fun g hg => by
    obtain ⟨k, r, e, _⟩ := spl_ne f.2 f.1.length f.1 (Nat.le_refl _) g hg
    rw [e]; simp
  refine ⟨h1, h2, ?_, h4, h5⟩
  show (runs keep f.2 49 (spl f.2 f.1)).first = _
  rw [h3]; unfold bFirst brs
  cases spl f.2 f.1 with
  | nil => rfl
  | cons g gs => simp
/-- All branches of a key list. -/
def allF (keep : Nat) (ks : List ByteArray) : List (List ByteArray × Nat) := fks keep (wts [(ks, 0)]) [(ks, 0)]
def allB (keep : Nat) (ks : List ByteArray) : List Br := (allF keep ks).flatMap brs
theorem flatMap_map' {α β γ : Type} (g : α → List β) (h : β → γ) : ∀ F : List α, F.flatMap (fun f => (g f).map h) = (F.flatMap g).map h
  | [] => rfl
  | a :: F => by simp only [List.flatMap_cons, List.map_append, flatMap_map' g h F]
theorem flatMap_filter' {α β γ : Type} (g : α → List β) (p : β → Bool) (h : β → γ) : ∀ F : List α, F.flatMap (fun f => ((g f).filter p).map h) = ((F.flatMap g).filter p).map h
  | [] => rfl
  | a :: F => by simp only [List.flatMap_cons, List.filter_append, List.map_append, flatMap_filter' g p h F]
theorem sieve_br {keep : Nat} {ks : List ByteArray} (hf : Fork (ks, 0)) : (bfsF keep [(ks, 0)]).letters = (allB keep ks).map bLet ∧ (bfsF keep [(ks, 0)]).more = (allB keep ks).map bMore ∧ (bfsF keep [(ks, 0)]).first = (allF keep ks).flatMap (fun f => bFirst (brs f)) ∧ (bfsF keep [(ks, 0)]).rests = ((allB keep ks).filter fun b => !bMul b).map (bCut keep) ∧
    allF keep ks = (ks, 0) :: ((allB keep ks).filter bMul).map bKid := by
  obtain ⟨h1, h2, h3, h4⟩ := fks_bfs keep (wts [(ks, 0)]) [(ks, 0)]
  have h5 := fks_kids keep (wts [(ks, 0)]) [(ks, 0)] (Nat.le_refl _) (by simpa using hf)
  have e1 : ∀ f, (node keep f).letters = (brs f).map bLet := fun f => (node_all keep f).1
  have e2 : ∀ f, (node keep f).more = (brs f).map bMore := fun f => (node_all keep f).2.1
  have e3 : ∀ f, (node keep f).first = bFirst (brs f) := fun f => (node_all keep f).2.2.1
  have e4 : ∀ f, (node keep f).rests = ((brs f).filter fun b => !bMul b).map (bCut keep) := fun f => (node_all keep f).2.2.2.1
  have e5 : ∀ f, (node keep f).kids = ((brs f).filter bMul).map bKid := fun f => (node_all keep f).2.2.2.2
  simp only [e1, e2, e3, e4, e5] at h1 h2 h3 h4 h5
  unfold bfsF allB
  refine ⟨by rw [h1, flatMap_map']; rfl, by rw [h2, flatMap_map']; rfl, h3, by rw [h4, flatMap_filter']; rfl, ?_⟩
  unfold allF
  conv => lhs; rw [h5]
  rw [flatMap_filter']; rfl
/-- What passes a test, by how many pass ahead of it. -/
theorem filter_at {α : Type} (p : α → Bool) : ∀ (l : List α) (t : Nat) (x : α), l[t]? = some x → p x = true → (l.filter p)[(l.take t).countP p]? = some x
  | [], t, x, h, _ => by simp at h
  | a :: l, 0, x, h, hp => by
    simp only [List.getElem?_cons_zero, Option.some.injEq] at h
    subst h
    simp [hp]
  | a :: l, t + 1, x, h, hp => by
    simp only [List.getElem?_cons_succ] at h
    have ih := filter_at p l t x h hp
    rw [List.take_succ_cons]
    cases c : p a
    · rw [List.filter_cons_of_neg (by simp [c]), List.countP_cons_of_neg (by simp [c])]; exact ih
    · rw [List.filter_cons_of_pos c, List.countP_cons_of_pos c, List.getElem?_cons_succ]; exact ih
/-- The node to which a branch leads. -/
theorem kid_at {keep : Nat} {ks : List ByteArray} (hf : Fork (ks, 0)) {b : Nat} {x : Br} (hb : (allB keep ks)[b]? = some x) (hm : bMul x = true) : (allF keep ks)[((allB keep ks).take (b + 1)).countP bMul]? = some (bKid x) := by
  obtain ⟨_, _, _, _, h5⟩ := sieve_br (keep := keep) hf
  have h := filter_at bMul _ b x hb hm
  rw [h5, List.take_add_one, hb]
  rw [show (some x).toList = [x] from rfl, List.countP_append, List.countP_cons_of_pos hm, List.countP_nil, Nat.zero_add, List.getElem?_cons_succ, List.getElem?_map, h]; rfl
/-- What is kept of a branch that does not go on. -/
theorem rest_at {keep : Nat} {ks : List ByteArray} {b : Nat} {x : Br} (hb : (allB keep ks)[b]? = some x) (hm : bMul x = false) : (((allB keep ks).filter fun b => !bMul b).map (bCut keep))[((allB keep ks).take b).countP fun b => !bMul b]? = some (bCut keep x) := by
  have h := filter_at (fun b => !bMul b) _ b x hb (by simp [hm])
  rw [List.getElem?_map, h]; rfl
/-- The bytes that are a one. -/
theorem count_more (l : List Br) : (l.map bMore).count 49 = l.countP bMul ∧ (l.map bMore).count 48 = l.countP fun b => !bMul b := by
  induction l with
  | nil => exact ⟨rfl, rfl⟩
  | cons b l ih =>
    rw [List.map_cons, List.count_cons, List.count_cons, ih.1, ih.2, List.countP_cons, List.countP_cons]
    unfold bMore
    cases bMul b <;> simp
theorem offL_congr {α β γ : Type} (g : α → List β) (h : α → List γ) (F : List α) (i : Nat) (e : ∀ f, (g f).length = (h f).length) : offL g F i = offL h F i := by
  unfold offL
  rw [List.length_flatMap, List.length_flatMap]
  congr 1
  exact List.map_congr_left fun f _ => e f
theorem bFirst_len (l : List Br) : (bFirst l).length = l.length := by cases l <;> simp [bFirst]
theorem brs_ne {f : List ByteArray × Nat} (h : f.1 ≠ []) : brs f ≠ [] := by
  unfold brs
  cases e : f.1 with
  | nil => exact absurd e h
  | cons k r => rw [spl_cons]; simp
theorem allF_ne {keep : Nat} {ks : List ByteArray} (hf : Fork (ks, 0)) (hk : ks ≠ []) : ∀ f ∈ allF keep ks, brs f ≠ [] := by
  intro f hm
  rw [(sieve_br hf).2.2.2.2] at hm
  rcases List.mem_cons.1 hm with rfl | hm
  · exact brs_ne hk
  · obtain ⟨b, hb, rfl⟩ := List.mem_map.1 hm
    have h2 := (List.mem_filter.1 hb).2
    refine brs_ne fun e => ?_
    have e' : b.1 = [] := e
    unfold bMul at h2
    rw [e'] at h2
    simp at h2
abbrev offB (keep : Nat) (ks : List ByteArray) (j : Nat) : Nat := offL brs (allF keep ks) j
def firstL (keep : Nat) (ks : List ByteArray) : List UInt8 := (allF keep ks).flatMap fun f => bFirst (brs f)
theorem off_first (keep : Nat) (ks : List ByteArray) (j : Nat) : offL (fun f => bFirst (brs f)) (allF keep ks) j = offB keep ks j := offL_congr _ _ _ _ fun f => bFirst_len _
theorem firstL_len (keep : Nat) (ks : List ByteArray) : (firstL keep ks).length = (allB keep ks).length := by
  unfold firstL allB
  rw [List.length_flatMap, List.length_flatMap]
  congr 1
  exact List.map_congr_left fun f _ => bFirst_len _
theorem first_at {keep : Nat} {ks : List ByteArray} {j : Nat} {f : List ByteArray × Nat} (hj : (allF keep ks)[j]? = some f) {t : Nat} (ht : t < (brs f).length) : (firstL keep ks)[offB keep ks j + t]? = some (if t = 0 then 49 else 48) := by
  have h := flat_get (fun f => bFirst (brs f)) (allF keep ks) j f t hj (by rw [bFirst_len]; exact ht)
  rw [off_first] at h
  unfold firstL
  rw [h]
  show (bFirst (brs f))[t]? = _
  cases e : brs f with
  | nil => rw [e] at ht; simp at ht
  | cons a r =>
    rw [e] at ht
    cases t with
    | zero => rfl
    | succ t =>
      simp only [List.length_cons] at ht
      simp only [bFirst, List.getElem?_cons_succ, Nat.add_eq_zero_iff, Nat.one_ne_zero, and_false, if_false]
      rw [List.getElem?_map, List.getElem?_eq_getElem (by omega)]; rfl
theorem br_at {keep : Nat} {ks : List ByteArray} {j : Nat} {f : List ByteArray × Nat} (hj : (allF keep ks)[j]? = some f) {t : Nat} (ht : t < (brs f).length) : (allB keep ks)[offB keep ks j + t]? = (brs f)[t]? :=
  flat_get brs (allF keep ks) j f t hj ht
theorem off_next {keep : Nat} {ks : List ByteArray} {j : Nat} {f : List ByteArray × Nat} (hj : (allF keep ks)[j]? = some f) : offB keep ks (j + 1) = offB keep ks j + (brs f).length := offL_succ brs hj
theorem off_le (keep : Nat) (ks : List ByteArray) (j : Nat) : offB keep ks j ≤ (allB keep ks).length := by
  unfold offB offL allB
  conv => rhs; rw [← List.take_append_drop j (allF keep ks)]
  rw [List.flatMap_append, List.length_append]
  omega
theorem off_all {keep : Nat} {ks : List ByteArray} {j : Nat} (h : (allF keep ks).length ≤ j) : offB keep ks j = (allB keep ks).length := by
  unfold offB offL allB
  rw [List.take_of_length_le h]
/-- Behind a fork's branches the next fork's begin, or all end. -/
theorem first_next {keep : Nat} {ks : List ByteArray} (hf : Fork (ks, 0)) (hk : ks ≠ []) {j : Nat} {f : List ByteArray × Nat} (hj : (allF keep ks)[j]? = some f) : offB keep ks j + (brs f).length = (firstL keep ks).length ∨ (firstL keep ks)[offB keep ks j + (brs f).length]? = some 49 := by
  rw [← off_next hj]
  rcases Nat.lt_or_ge (j + 1) (allF keep ks).length with h | h
  · right
    have hg := List.getElem?_eq_getElem h
    have hn := allF_ne hf hk _ (List.getElem_mem h)
    have h0 : 0 < (brs (allF keep ks)[j + 1]).length := List.length_pos_iff.2 hn
    have := first_at hg h0
    rwa [Nat.add_zero, if_pos rfl] at this
  · left
    rw [off_all h, firstL_len]
theorem first_one {keep : Nat} {ks : List ByteArray} (hf : Fork (ks, 0)) (hk : ks ≠ []) (j : Nat) : posOne (firstL keep ks) j = if j < (allF keep ks).length then some (offB keep ks j) else none := by
  unfold firstL
  rw [posOne_blocks, off_first]
  intro f hm
  have hn := allF_ne hf hk f hm
  cases e : brs f with
  | nil => exact absurd e hn
  | cons a r => exact ⟨_, rfl, fun b hb => by
      obtain ⟨_, _, rfl⟩ := List.mem_map.1 hb
      decide⟩
theorem allF_nil (keep : Nat) : allF keep [] = [([], 0)] := by
  have hf : Fork (([] : List ByteArray), 0) := ⟨by simp, List.Pairwise.nil, by simp, by simp⟩
  have h := (sieve_br (keep := keep) hf).2.2.2.2
  have e : (allF keep ([] : List ByteArray)).length = (allF keep ([] : List ByteArray)).length := rfl
  unfold allF wts wt
  simp [fks, node, spl_nil, runs, zPut]
theorem brs_nil (d : Nat) : brs ([], d) = [] := by unfold brs; rw [spl_nil]; rfl
theorem allB_nil (keep : Nat) : allB keep [] = [] := by unfold allB; rw [allF_nil]; simp [brs_nil]
theorem firstL_nil (keep : Nat) : firstL keep [] = [] := by unfold firstL; rw [allF_nil]; simp [brs_nil, bFirst]
theorem bfs_letters {keep : Nat} : ∀ (n : Nat) (q : List (List ByteArray × Nat)), (∀ f ∈ q, Fork f) → (bfs keep n q).letters.length ≤ wts q
  | 0, q, _ => by simp [bfs, zPut]
  | n + 1, [], _ => by simp [bfs, zPut]
  | n + 1, f :: q, h => by
    have hff := h f (by simp)
    have ih := bfs_letters (keep := keep) n (q ++ (node keep f).kids) fun g hg => by
      rcases List.mem_append.1 hg with hg | hg
      · exact h g (List.mem_cons_of_mem _ hg)
      · exact node_fork hff g hg
    have hb := runs_b keep f.2 hff.dep 49 (spl f.2 f.1)
    rw [spl_flat f.2 _ f.1 (Nat.le_refl _)] at hb
    have e : (node keep f).letters.length + wts (node keep f).kids ≤ f.1.length * (8 - f.2) := hb
    rw [wts_app] at ih
    rw [wts_cons]
    simp only [bfs, Put.add, List.length_append]
    unfold wt
    omega
structure SvIs (keep : Nat) (ks : List ByteArray) (s : Sve) : Prop where
  hf : Fork (ks, 0)
  hl : s.letters.data.toList = (allB keep ks).map bLet
  hm : s.more.data.toList = (allB keep ks).map bMore
  h1 : s.first.data.toList = firstL keep ks
  hr : s.rests = ((allB keep ks).filter fun b => !bMul b).map (bCut keep)
  hk : s.keep = (keep : Int)
  hb : (allB keep ks).length ≤ 400
  kp : keep ≤ 5
theorem svIs_of {ks : List ByteArray} {keep : Int} {s : Sve} (h : sieveM ks keep = some s) : SvIs keep.toNat ks s := by
  unfold sieveM at h
  by_cases c : keysOkM ks = true ∧ inB 0 keep 5 = true
  · rw [if_pos c, Option.some.injEq] at h
    subst h
    obtain ⟨hl, hf, _⟩ := ksOk_iff c.1
    obtain ⟨h1, h2, h3, h4, _⟩ := sieve_br (keep := keep.toNat) hf
    have h0 : 0 ≤ keep ∧ keep ≤ 5 := by have := c.2; unfold inB at this; simp at this; exact this
    have hb := bfs_letters (keep := keep.toNat) (wts [(ks, 0)]) [(ks, 0)] (by simpa using hf)
    refine ⟨hf, h1, h2, h3, h4, by show keep = _; omega, ?_, by omega⟩
    have e : (bfsF keep.toNat [(ks, 0)]).letters.length = (allB keep.toNat ks).length := by rw [h1, List.length_map]
    rw [← e]
    refine Nat.le_trans hb ?_
    rw [wts_one]; unfold wt; show 1 + ks.length * 8 ≤ 400; omega
  · rw [if_neg c] at h; cases h
theorem SvIs.sizes {keep : Nat} {ks : List ByteArray} {s : Sve} (h : SvIs keep ks s) : s.letters.size = (allB keep ks).length ∧ s.more.size = (allB keep ks).length ∧ s.first.size = (allB keep ks).length := by
  refine ⟨?_, ?_, ?_⟩
  · have e : s.letters.size = s.letters.data.toList.length := Array.length_toList.symm
    rw [e, h.hl, List.length_map]
  · have e : s.more.size = s.more.data.toList.length := Array.length_toList.symm
    rw [e, h.hm, List.length_map]
  · have e : s.first.size = s.first.data.toList.length := Array.length_toList.symm
    rw [e, h.h1, firstL_len]
theorem allF_len {keep : Nat} {ks : List ByteArray} (hf : Fork (ks, 0)) : (allF keep ks).length ≤ (allB keep ks).length + 1 := by
  rw [(sieve_br hf).2.2.2.2, List.length_cons, List.length_map]
  have := List.length_filter_le bMul (allB keep ks)
  omega
/-- A byte of a text whose bytes are known. -/
theorem byteL_at {s : ByteArray} {l : List UInt8} (h : s.data.toList = l) {i : Nat} {b : UInt8} (hb : l[i]? = some b) : ∃ hi : i < s.size, s[i] = b := by
  subst h
  have hi : i < s.data.toList.length := (List.getElem?_eq_some_iff.1 hb).1
  have e : s.data.toList.length = s.size := Array.length_toList
  refine ⟨by omega, ?_⟩
  rw [List.getElem?_eq_getElem hi, Option.some.injEq] at hb
  rw [← hb]; rfl
theorem extract_list (s : ByteArray) (n : Nat) : (s.extract 0 n).data.toList = s.data.toList.take n := by
  rw [ByteArray.data_extract, Array.toList_extract]; simp
def whole (keep : Nat) (b : Br) : Bool := decide (bLet b = 45) || decide ((bCut keep b).size < keep)
def stepW (way : ByteArray) (b : Br) : ByteArray := if bLet b = 45 then way else way ++ bs [bLet b]
/-- What is kept of the keys of a fork, in order, and whether it is all. -/
def partsM (keep : Nat) : Nat → ByteArray → List ByteArray × Nat → List (ByteArray × Bool)
  | 0, _, _ => []
  | n + 1, way, f => (brs f).flatMap fun b => if bMul b = true then partsM keep n (stepW way b) (bKid b) else [(stepW way b ++ bCut keep b, whole keep b)]
structure WayOk (way : ByteArray) (f : List ByteArray × Nat) : Prop where
  len : way.data.toList.length = f.2
  pre : ∀ k ∈ f.1, k.data.toList.take f.2 = way.data.toList
theorem size_l (s : ByteArray) : s.size = s.data.toList.length := Array.length_toList.symm
theorem app_l (a b : ByteArray) : (a ++ b).data.toList = a.data.toList ++ b.data.toList := by rw [ByteArray.data_append]; simp
theorem bs_l (l : List UInt8) : (bs l).data.toList = l := rfl
theorem ext_l {a b : ByteArray} (h : a.data.toList = b.data.toList) : a = b := by
  cases a; cases b; simp only [ByteArray.mk.injEq]; exact Array.toList_inj.1 h
theorem brs_mem {f : List ByteArray × Nat} {b : Br} (h : b ∈ brs f) : b.2 = f.2 ∧ b.1.Sublist f.1 ∧ ∃ k r, b.1 = k :: r ∧ ∀ x ∈ r, lab x f.2 = lab k f.2 := by
  unfold brs at h
  obtain ⟨g, hg, rfl⟩ := List.mem_map.1 h
  exact ⟨rfl, spl_sub f.2 _ f.1 (Nat.le_refl _) g hg, spl_ne f.2 _ f.1 (Nat.le_refl _) g hg⟩
theorem brs_lab {f : List ByteArray × Nat} {b : Br} (h : b ∈ brs f) : ∀ k ∈ b.1, k ∈ f.1 ∧ lab k f.2 = bLet b := by
  obtain ⟨h1, h2, x, r, e, hr⟩ := brs_mem h
  intro k hk
  refine ⟨h2.subset hk, ?_⟩
  unfold bLet
  rw [h1, e]
  rw [e] at hk
  rcases List.mem_cons.1 hk with rfl | hk
  · rfl
  · exact hr k hk
theorem bKid_fork {f : List ByteArray × Nat} (hf : Fork f) {b : Br} (h : b ∈ brs f) (hm : bMul b = true) : Fork (bKid b) := by
  refine node_fork (keep := 0) hf _ ?_
  rw [(node_all 0 f).2.2.2.2]
  exact List.mem_map.2 ⟨b, List.mem_filter.2 ⟨h, hm⟩, rfl⟩
theorem lab_l {k : ByteArray} {d : Nat} (h : d ≤ k.size) : lab k d = (match k.data.toList[d]? with | some c => c | none => 45) := by
  unfold lab
  rw [size_l] at *
  by_cases e : k.data.toList.length = d
  · rw [if_pos e, List.getElem?_eq_none (by omega)]
  · rw [if_neg e, Array.getD_eq_getD_getElem?, ← Array.getElem?_toList, List.getElem?_eq_getElem (by omega)]; rfl
/-- One letter further. -/
theorem way_next {f : List ByteArray × Nat} (hf : Fork f) {way : ByteArray} (hw : WayOk way f) {b : Br} (h : b ∈ brs f) {k : ByteArray} (hk : k ∈ b.1) : (stepW way b).data.toList = k.data.toList.take (f.2 + 1) := by
  obtain ⟨hin, hl⟩ := brs_lab h k hk
  obtain ⟨ok, hd⟩ := hf.ok k hin
  have hp := hw.pre k hin
  unfold stepW
  by_cases c : bLet b = 45
  · rw [if_pos c]
    have e : k.size = f.2 := (lab_end ok hd).1 (by rw [hl, c])
    rw [size_l] at e
    rw [← hp, List.take_of_length_le (by omega), List.take_of_length_le (by omega)]
  · rw [if_neg c, app_l, bs_l]
    have e : k.size ≠ f.2 := fun e => c (by rw [← hl]; exact (lab_end ok hd).2 e)
    rw [lab_l hd] at hl
    rw [size_l] at e hd
    rw [List.getElem?_eq_getElem (by omega)] at hl
    rw [List.take_add_one, hp, List.getElem?_eq_getElem (by omega)]
    simp only at hl
    rw [hl]; rfl
theorem way_kid {f : List ByteArray × Nat} (hf : Fork f) {way : ByteArray} (hw : WayOk way f) {b : Br} (h : b ∈ brs f) (hm : bMul b = true) : WayOk (stepW way b) (bKid b) := by
  obtain ⟨h1, h2, x, r, e, hr⟩ := brs_mem h
  have hk := bKid_fork hf h hm
  have hp : ∀ k ∈ b.1, k.data.toList.take (f.2 + 1) = (stepW way b).data.toList := fun k hk => (way_next hf hw h hk).symm
  have e2 : (bKid b).2 = f.2 + 1 := by unfold bKid; rw [h1]
  refine ⟨?_, fun k hkm => by rw [e2]; exact hp k hkm⟩
  have hx : x ∈ (bKid b).1 := by show x ∈ b.1; rw [e]; simp
  have := (hk.ok x hx).2
  rw [e2, size_l] at this
  rw [← hp x hx, e2, List.length_take]
  omega
theorem cut_l (k : ByteArray) (d keep : Nat) : (cutT k d keep).data.toList = (k.data.toList.drop (d + 1)).take keep := by
  have e : (k.extract (min (d + 1) k.size) k.size).data.toList = k.data.toList.drop (d + 1) := by
    rw [ByteArray.data_extract, Array.toList_extract, size_l, List.extract_eq_take_drop]
    rcases Nat.lt_or_ge (d + 1) k.data.toList.length with h | h
    · rw [Nat.min_eq_left (by omega), List.take_of_length_le (by simp)]
    · rw [Nat.min_eq_right h, List.drop_of_length_le (Nat.le_refl _), List.drop_of_length_le h]; simp
  unfold cutT
  simp only
  rw [extract_list, e, size_l, e]
  rcases Nat.le_total keep (k.data.toList.drop (d + 1)).length with h | h
  · rw [Nat.min_eq_left h]
  · rw [Nat.min_eq_right h, List.take_of_length_le (Nat.le_refl _), List.take_of_length_le h]
theorem one_text {keep : Nat} {f : List ByteArray × Nat} (hf : Fork f) {way : ByteArray} (hw : WayOk way f) {b : Br} (h : b ∈ brs f) {k : ByteArray} (e : b.1 = [k]) : (stepW way b ++ bCut keep b).data.toList = k.data.toList.take (f.2 + 1 + keep) := by
  obtain ⟨h1, _⟩ := brs_mem h
  have hn := way_next hf hw h (k := k) (by rw [e]; simp)
  unfold bCut
  rw [app_l, hn, h1, e, List.headD_cons, cut_l]
  exact (List.take_add (i := f.2 + 1) (j := keep)).symm
theorem bMul_one {b : Br} {f : List ByteArray × Nat} (h : b ∈ brs f) (hm : bMul b = false) : ∃ k, b.1 = [k] := by
  obtain ⟨_, _, x, r, e, _⟩ := brs_mem h
  unfold bMul at hm
  rw [e] at hm
  cases r with
  | nil => exact ⟨x, e⟩
  | cons y r => simp at hm
theorem parts_mem {keep : Nat} : ∀ (n : Nat) {way : ByteArray} {f : List ByteArray × Nat}, Fork f → WayOk way f → ∀ x ∈ partsM keep n way f, ∃ k ∈ f.1, ∃ m, f.2 + 1 ≤ m ∧ x.1.data.toList = k.data.toList.take m
  | 0, _, _, _, _, x, hx => by simp [partsM] at hx
  | n + 1, way, f, hf, hw, x, hx => by
    simp only [partsM] at hx
    obtain ⟨b, hb, hx⟩ := List.mem_flatMap.1 hx
    obtain ⟨h1, h2, _⟩ := brs_mem hb
    cases c : bMul b
    · rw [c] at hx
      obtain ⟨k, e⟩ := bMul_one hb c
      simp only [Bool.false_eq_true, if_false, List.mem_singleton] at hx
      subst hx
      exact ⟨k, h2.subset (by rw [e]; simp), f.2 + 1 + keep, by omega, one_text hf hw hb e⟩
    · rw [c] at hx
      simp only [if_true] at hx
      obtain ⟨k, hk, m, hm, e⟩ := parts_mem n (bKid_fork hf hb c) (way_kid hf hw hb c) x hx
      have e2 : (bKid b).2 = f.2 + 1 := by unfold bKid; rw [h1]
      exact ⟨k, h2.subset hk, m, by omega, e⟩
theorem brs_sum (f : List ByteArray × Nat) : ((brs f).map fun b => b.1.length).sum = f.1.length := by
  have := spl_flat f.2 _ f.1 (Nat.le_refl _)
  conv => rhs; rw [← this]
  rw [List.length_flatten]
  unfold brs
  rw [List.map_map]; rfl
theorem parts_len {keep : Nat} : ∀ (n : Nat) {way : ByteArray} {f : List ByteArray × Nat}, Fork f → 6 ≤ f.2 + n → (partsM keep n way f).length = f.1.length
  | 0, way, f, hf, h => by have := hf.dep; omega
  | n + 1, way, f, hf, h => by
    simp only [partsM]
    rw [List.length_flatMap, ← brs_sum f]
    congr 1
    refine List.map_congr_left fun b hb => ?_
    obtain ⟨h1, _⟩ := brs_mem hb
    have e2 : (bKid b).2 = f.2 + 1 := by unfold bKid; rw [h1]
    cases c : bMul b
    · obtain ⟨k, e⟩ := bMul_one hb c
      simp [e]
    · simp only [if_true]
      rw [parts_len n (bKid_fork hf hb c) (by omega)]; rfl
theorem lab_take {k x : ByteArray} {d m : Nat} (hd : d ≤ k.size) (hm : d + 1 ≤ m) (e : x.data.toList = k.data.toList.take m) : lab x d = lab k d := by
  have hx : d ≤ x.size := by rw [size_l] at *; rw [e, List.length_take]; omega
  rw [lab_l hx, lab_l hd, e, List.getElem?_take, if_pos (by omega)]
/-- The letters of a fork's branches ascend. -/
theorem spl_lt {d : Nat} : ∀ (n : Nat) (ks : List ByteArray), ks.length ≤ n → Fork (ks, d) → (spl d ks).Pairwise fun a b => (lab (a.headD zs) d).toNat < (lab (b.headD zs) d).toNat
  | _, [], _, _ => by rw [spl_nil]; exact List.Pairwise.nil
  | 0, k :: r, h, _ => by simp at h
  | n + 1, k :: r, h, hf => by
    rw [spl_cons]
    obtain ⟨t, ht⟩ : ∃ t, t = r.dropWhile fun x => lab x d == lab k d := ⟨_, rfl⟩
    have hsub : t.Sublist r := by rw [ht]; exact List.dropWhile_sublist _
    have hft : Fork (t, d) := ⟨hf.dep, hf.ord.sublist (hsub.trans (List.sublist_cons_self k r)), fun x hx => hf.ok x (List.mem_cons_of_mem _ (hsub.subset hx)), fun a ha b hb => hf.alike a (List.mem_cons_of_mem _ (hsub.subset ha)) b (List.mem_cons_of_mem _ (hsub.subset hb))⟩
    have hlen : t.length ≤ n := by have := hsub.length_le; simp at h; omega
    rw [← ht]
    refine List.pairwise_cons.2 ⟨fun g hg => ?_, spl_lt n t hlen hft⟩
    obtain ⟨x, r2, e, _⟩ := spl_ne d _ t (Nat.le_refl _) g hg
    have hxt : x ∈ t := (spl_sub d _ t (Nat.le_refl _) g hg).subset (by rw [e]; simp)
    rw [e]
    show (lab k d).toNat < (lab x d).toNat
    have hxr := hsub.subset hxt
    have hkx : klt k x = true := (List.pairwise_cons.1 hf.ord).1 x hxr
    have hle := lab_le hf (a := k) (b := x) (by simp) (List.mem_cons_of_mem _ hxr) hkx
    refine Nat.lt_of_le_of_ne hle fun heq => ?_
    cases hz : t with
    | nil => rw [hz] at hxt; simp at hxt
    | cons z s =>
      have hzn : (lab z d == lab k d) = false := by
        have := List.head?_dropWhile_not (fun x => lab x d == lab k d) r
        rw [← ht, hz] at this
        simpa using this
      have hzr : z ∈ r := hsub.subset (by rw [hz]; simp)
      have h1 := lab_le hf (a := k) (b := z) (by simp) (List.mem_cons_of_mem _ hzr) ((List.pairwise_cons.1 hf.ord).1 z hzr)
      have h2 : (lab z d).toNat ≤ (lab x d).toNat := by
        rw [hz] at hxt
        rcases List.mem_cons.1 hxt with rfl | hxs
        · exact Nat.le_refl _
        · have ho := hft.ord
          rw [hz] at ho
          exact lab_le hft (a := z) (b := x) (by rw [hz]; simp) (by rw [hz]; exact List.mem_cons_of_mem _ hxs) ((List.pairwise_cons.1 ho).1 x hxs)
      dsimp only at hle h1
      have : lab z d = lab k d := UInt8.toNat_inj.1 (by omega)
      rw [this] at hzn
      simp at hzn
theorem brs_lt {f : List ByteArray × Nat} (hf : Fork f) : (brs f).Pairwise fun a b => (bLet a).toNat < (bLet b).toNat := by
  unfold brs
  rw [List.pairwise_map]
  exact spl_lt _ f.1 (Nat.le_refl _) hf
theorem spl_blocks {d : Nat} : ∀ (B : List (List ByteArray)), (∀ g ∈ B, ∃ k r, g = k :: r ∧ ∀ x ∈ r, lab x d = lab k d) → (B.Pairwise fun a b => lab (a.headD zs) d ≠ lab (b.headD zs) d) → spl d B.flatten = B
  | [], _, _ => by simp [spl_nil]
  | g :: B, h, hp => by
    obtain ⟨k, r, e, hr⟩ := h g (by simp)
    have ih := spl_blocks B (fun g hg => h g (List.mem_cons_of_mem _ hg)) (List.pairwise_cons.1 hp).2
    have h1 := (List.pairwise_cons.1 hp).1
    subst e
    rw [List.flatten_cons, List.cons_append, spl_cons]
    have hpos : ∀ x ∈ r, (lab x d == lab k d) = true := fun x hx => by rw [hr x hx]; simp
    have hrest : ∀ z s, B.flatten = z :: s → (lab z d == lab k d) = false := by
      intro z s hz
      cases B with
      | nil => simp at hz
      | cons g2 B2 =>
        obtain ⟨k2, r2, e2, _⟩ := h g2 (by simp)
        rw [e2, List.flatten_cons, List.cons_append] at hz
        obtain rfl := (List.cons.inj hz).1
        have := h1 g2 (by simp)
        rw [e2] at this
        simp only [List.headD_cons] at this
        simpa using fun e => this e.symm
    have e1 : (r ++ B.flatten).takeWhile (fun x => lab x d == lab k d) = r := by
      rw [List.takeWhile_append_of_pos hpos]
      cases hz : B.flatten with
      | nil => simp
      | cons z s => rw [List.takeWhile_cons_of_neg (by rw [hrest z s hz]; simp)]; simp
    have e2 : (r ++ B.flatten).dropWhile (fun x => lab x d == lab k d) = B.flatten := by
      rw [List.dropWhile_append_of_pos hpos]
      cases hz : B.flatten with
      | nil => simp
      | cons z s => rw [List.dropWhile_cons_of_neg (by rw [hrest z s hz]; simp)]
    rw [e1, e2, ih]
/-- The heads of a branch. -/
def hdsB (keep n : Nat) (way : ByteArray) (b : Br) : List ByteArray := (if bMul b = true then partsM keep n (stepW way b) (bKid b) else [(stepW way b ++ bCut keep b, whole keep b)]).map Prod.fst
theorem parts_hds (keep n : Nat) (way : ByteArray) (f : List ByteArray × Nat) : (partsM keep (n + 1) way f).map Prod.fst = ((brs f).map (hdsB keep n way)).flatten := by
  simp only [partsM]
  rw [List.map_flatMap, List.flatMap_def]
  rfl
theorem hdsB_mem {keep n : Nat} {way : ByteArray} {f : List ByteArray × Nat} (hf : Fork f) (hw : WayOk way f) {b : Br} (hb : b ∈ brs f) : ∀ x ∈ hdsB keep n way b, lab x f.2 = bLet b ∧ ∃ k ∈ b.1, ∃ m, f.2 + 1 ≤ m ∧ x.data.toList = k.data.toList.take m := by
  have key : ∀ x ∈ hdsB keep n way b, ∃ k ∈ b.1, ∃ m, f.2 + 1 ≤ m ∧ x.data.toList = k.data.toList.take m := by
    intro x hx
    unfold hdsB at hx
    obtain ⟨p, hp, rfl⟩ := List.mem_map.1 hx
    obtain ⟨h1, h2, _⟩ := brs_mem hb
    cases c : bMul b
    · rw [c] at hp
      obtain ⟨k, e⟩ := bMul_one hb c
      simp only [Bool.false_eq_true, if_false, List.mem_singleton] at hp
      subst hp
      exact ⟨k, by rw [e]; simp, f.2 + 1 + keep, by omega, one_text hf hw hb e⟩
    · rw [c] at hp
      simp only [if_true] at hp
      obtain ⟨k, hk, m, hm, e⟩ := parts_mem n (bKid_fork hf hb c) (way_kid hf hw hb c) p hp
      have e2 : (bKid b).2 = f.2 + 1 := by unfold bKid; rw [h1]
      exact ⟨k, hk, m, by omega, e⟩
  intro x hx
  obtain ⟨k, hk, m, hm, e⟩ := key x hx
  obtain ⟨hin, hl⟩ := brs_lab hb k hk
  exact ⟨by rw [lab_take (hf.ok k hin).2 hm e, hl], k, hk, m, hm, e⟩
theorem hdsB_len {keep n : Nat} {way : ByteArray} {f : List ByteArray × Nat} (hf : Fork f) (hn : 6 ≤ f.2 + (n + 1)) {b : Br} (hb : b ∈ brs f) : (hdsB keep n way b).length = b.1.length := by
  obtain ⟨h1, _⟩ := brs_mem hb
  have e2 : (bKid b).2 = f.2 + 1 := by unfold bKid; rw [h1]
  unfold hdsB
  rw [List.length_map]
  cases c : bMul b
  · obtain ⟨k, e⟩ := bMul_one hb c
    simp [e]
  · simp only [if_true]
    rw [parts_len n (bKid_fork hf hb c) (by omega)]; rfl
theorem brs_parts {keep n : Nat} {way : ByteArray} {f : List ByteArray × Nat} (hf : Fork f) (hw : WayOk way f) (hn : 6 ≤ f.2 + (n + 1)) : brs ((partsM keep (n + 1) way f).map Prod.fst, f.2) = (brs f).map fun b => (hdsB keep n way b, f.2) := by
  have hne : ∀ b ∈ brs f, ∃ k r, hdsB keep n way b = k :: r ∧ ∀ x ∈ r, lab x f.2 = lab k f.2 := by
    intro b hb
    have hl := hdsB_len (keep := keep) (n := n) (way := way) hf hn hb
    obtain ⟨_, _, x, r, e, _⟩ := brs_mem hb
    rw [e] at hl
    have hm := hdsB_mem (keep := keep) (n := n) hf hw hb
    cases hh : hdsB keep n way b with
    | nil => rw [hh] at hl; simp at hl
    | cons k s =>
      rw [hh] at hm
      exact ⟨k, s, rfl, fun y hy => by rw [(hm y (List.mem_cons_of_mem _ hy)).1, (hm k (by simp)).1]⟩
  unfold brs
  rw [parts_hds]
  simp only
  rw [spl_blocks]
  · rw [List.map_map]
    show _ = List.map (fun b => (hdsB keep n way b, f.2)) (brs f)
    exact List.map_congr_left fun b _ => rfl
  · intro g hg
    obtain ⟨b, hb, rfl⟩ := List.mem_map.1 hg
    exact hne b hb
  · rw [List.pairwise_map]
    refine (brs_lt hf).imp_of_mem fun {a b} ha hb h => ?_
    obtain ⟨k, r, e, _⟩ := hne a ha
    obtain ⟨k2, r2, e2, _⟩ := hne b hb
    have m1 := (hdsB_mem (keep := keep) (n := n) hf hw ha k (by rw [e]; simp)).1
    have m2 := (hdsB_mem (keep := keep) (n := n) hf hw hb k2 (by rw [e2]; simp)).1
    rw [e, e2, List.headD_cons, List.headD_cons, m1, m2]
    intro hh
    rw [hh] at h
    omega
theorem br_same {keep n : Nat} {way : ByteArray} {f : List ByteArray × Nat} (hf : Fork f) (hw : WayOk way f) (hn : 6 ≤ f.2 + (n + 1)) {b : Br} (hb : b ∈ brs f) : bLet (hdsB keep n way b, f.2) = bLet b ∧ bMul (hdsB keep n way b, f.2) = bMul b ∧ (bMul b = false → bCut keep (hdsB keep n way b, f.2) = bCut keep b) := by
  have hl := hdsB_len (keep := keep) (n := n) (way := way) hf hn hb
  obtain ⟨h1, _, x, r, e, _⟩ := brs_mem hb
  refine ⟨?_, by unfold bMul; rw [hl], fun hm => ?_⟩
  · have hm := hdsB_mem (keep := keep) (n := n) hf hw hb
    cases hh : hdsB keep n way b with
    | nil => rw [hh, e] at hl; simp at hl
    | cons k s => rw [hh] at hm; unfold bLet; rw [List.headD_cons]; rw [(hm k (by simp)).1]; rfl
  · obtain ⟨k, e⟩ := bMul_one hb hm
    have e3 : hdsB keep n way b = [stepW way b ++ bCut keep b] := by unfold hdsB; rw [hm]; rfl
    have ht := one_text (keep := keep) hf hw hb e
    refine ext_l ?_
    unfold bCut at *
    rw [e3, List.headD_cons, cut_l, ht, h1, e, List.headD_cons, cut_l]
    rw [List.drop_take, Nat.add_sub_cancel_left, List.take_take, Nat.min_self]
def Par (keep : Nat) (f g : List ByteArray × Nat) : Prop := ∃ n way, WayOk way f ∧ 6 ≤ f.2 + (n + 1) ∧ g = ((partsM keep (n + 1) way f).map Prod.fst, f.2)
theorem filter_map_same {α β γ : Type} (p : α → Bool) (q : β → Bool) (φ : α → β) (u : α → γ) (v : β → γ) : ∀ l : List α, (∀ a ∈ l, q (φ a) = p a ∧ (p a = true → v (φ a) = u a)) → ((l.map φ).filter q).map v = (l.filter p).map u
  | [], _ => rfl
  | a :: l, h => by
    obtain ⟨h1, h2⟩ := h a (by simp)
    have ih := filter_map_same p q φ u v l fun x hx => h x (List.mem_cons_of_mem _ hx)
    rw [List.map_cons]
    cases c : p a
    · rw [List.filter_cons_of_neg (by rw [h1, c]; simp), List.filter_cons_of_neg (by rw [c]; simp), ih]
    · rw [List.filter_cons_of_pos (by rw [h1, c]), List.filter_cons_of_pos c, List.map_cons, List.map_cons, ih, h2 c]
theorem node_par {keep : Nat} {f g : List ByteArray × Nat} (hf : Fork f) (h : Par keep f g) : (node keep g).letters = (node keep f).letters ∧ (node keep g).more = (node keep f).more ∧ (node keep g).first = (node keep f).first ∧ (node keep g).rests = (node keep f).rests ∧
    ∃ l : List ((List ByteArray × Nat) × (List ByteArray × Nat)), (node keep f).kids = l.map Prod.fst ∧ (node keep g).kids = l.map Prod.snd ∧ ∀ p ∈ l, Fork p.1 ∧ Par keep p.1 p.2 := by
  obtain ⟨n, way, hw, hn, rfl⟩ := h
  obtain ⟨a1, a2, a3, a4, a5⟩ := node_all keep f
  obtain ⟨b1, b2, b3, b4, b5⟩ := node_all keep ((partsM keep (n + 1) way f).map Prod.fst, f.2)
  rw [brs_parts hf hw hn] at b1 b2 b3 b4 b5
  have hs := fun b hb => br_same (keep := keep) hf hw hn (b := b) hb
  refine ⟨?_, ?_, ?_, ?_, ?_⟩
  · rw [a1, b1, List.map_map]
    exact List.map_congr_left fun b hb => (hs b hb).1
  · rw [a2, b2, List.map_map]
    exact List.map_congr_left fun b hb => by show bMore _ = _; unfold bMore; rw [(hs b hb).2.1]
  · rw [a3, b3]
    cases brs f with
    | nil => rfl
    | cons b r => simp [bFirst]
  · rw [a4, b4]
    refine filter_map_same _ _ _ _ _ _ fun b hb => ⟨by rw [(hs b hb).2.1], fun h => (hs b hb).2.2 (by simpa using h)⟩
  · refine ⟨((brs f).filter bMul).map fun b => (bKid b, (hdsB keep n way b, f.2 + 1)), ?_, ?_, ?_⟩
    · rw [a5, List.map_map]; rfl
    · rw [b5, List.map_map]
      exact filter_map_same bMul bMul _ _ _ _ fun b hb => ⟨(hs b hb).2.1, fun _ => rfl⟩
    · intro p hp
      obtain ⟨b, hb, rfl⟩ := List.mem_map.1 hp
      obtain ⟨hb, hm⟩ := List.mem_filter.1 hb
      obtain ⟨h1, _⟩ := brs_mem hb
      have e2 : (bKid b).2 = f.2 + 1 := by unfold bKid; rw [h1]
      have hkf := bKid_fork hf hb hm
      have hd := hkf.dep
      refine ⟨hkf, ?_⟩
      cases n with
      | zero => rw [e2] at hd; omega
      | succ m =>
        refine ⟨m, stepW way b, way_kid hf hw hb hm, by show 6 ≤ (bKid b).2 + (m + 1); omega, ?_⟩
        rw [e2]
        show (hdsB keep (m + 1) way b, f.2 + 1) = _
        unfold hdsB
        rw [hm]; rfl
theorem bfs_par {keep : Nat} : ∀ (n : Nat) (l : List ((List ByteArray × Nat) × (List ByteArray × Nat))), (∀ p ∈ l, Fork p.1 ∧ Par keep p.1 p.2) → bfs keep n (l.map Prod.snd) = bfs keep n (l.map Prod.fst)
  | 0, l, _ => rfl
  | n + 1, [], _ => rfl
  | n + 1, p :: l, h => by
    obtain ⟨hf, hp⟩ := h p (by simp)
    obtain ⟨h1, h2, h3, h4, m, k1, k2, k3⟩ := node_par hf hp
    have ih := bfs_par n (l ++ m) fun q hq => by
      rcases List.mem_append.1 hq with hq | hq
      · exact h q (List.mem_cons_of_mem _ hq)
      · exact k3 q hq
    rw [List.map_append, List.map_append] at ih
    simp only [List.map_cons, bfs, Put.add, h1, h2, h3, h4, k1, k2, ih]
/-- What is kept of all keys. -/
def headsM (keep : Nat) (ks : List ByteArray) : List ByteArray := (partsM keep 6 zs (ks, 0)).map Prod.fst
theorem way_0 (ks : List ByteArray) : WayOk zs (ks, 0) := ⟨rfl, fun k _ => by simp; rfl⟩
theorem heads_len {keep : Nat} {ks : List ByteArray} (hf : Fork (ks, 0)) : (headsM keep ks).length = ks.length := by
  unfold headsM
  rw [List.length_map, parts_len 6 hf (by omega)]
theorem heads_bfs {keep : Nat} {ks : List ByteArray} (hf : Fork (ks, 0)) : bfsF keep [(headsM keep ks, 0)] = bfsF keep [(ks, 0)] := by
  have h := bfs_par (keep := keep) (wts [(ks, 0)]) [((ks, 0), (headsM keep ks, 0))] (by
    intro p hp
    obtain rfl := List.mem_singleton.1 hp
    exact ⟨hf, 5, zs, way_0 ks, by simp, rfl⟩)
  have e : wts [(headsM keep ks, 0)] = wts [(ks, 0)] := by rw [wts_one, wts_one]; unfold wt; simp only; rw [heads_len hf]
  unfold bfsF
  rw [e]
  exact h
theorem drop_lt {α : Type} [LT α] [DecidableLT α] : ∀ {d : Nat} {a b : List α}, a.take d = b.take d → a.drop d < b.drop d → a < b
  | 0, a, b, _, h => h
  | d + 1, [], [], _, h => by simp at h
  | d + 1, [], b :: s, h, _ => by simp at h
  | d + 1, a :: r, [], h, _ => by simp at h
  | d + 1, a :: r, b :: s, h, k => by
    simp only [List.take_succ_cons, List.cons.injEq] at h
    obtain ⟨rfl, h⟩ := h
    rw [List.cons_lt_cons_iff]
    exact .inr ⟨rfl, drop_lt h (by simpa using k)⟩
theorem lab_klt {x y : ByteArray} {d : Nat} (h : x.data.toList.take d = y.data.toList.take d) (hx : d ≤ x.size) (hy : d ≤ y.size) (hl : (lab x d).toNat < (lab y d).toNat) (h45 : lab x d ≠ 45 → x.size ≠ d) (hy45 : y.size = d → (lab y d).toNat = 45) (hx45 : 45 ≤ (lab x d).toNat) : klt x y = true := by
  rw [klt_iff, Go.ByteArray.toList_eq, Go.ByteArray.toList_eq]
  refine drop_lt h ?_
  have ny : y.size ≠ d := fun e => by have := hy45 e; omega
  rw [lab_l hx, lab_l hy] at hl
  rw [size_l] at hx hy ny
  rw [List.getElem?_eq_getElem (by omega : d < y.data.toList.length)] at hl
  rw [List.drop_eq_getElem_cons (by omega : d < y.data.toList.length)]
  rcases Nat.lt_or_ge d x.data.toList.length with c | c
  · rw [List.getElem?_eq_getElem c] at hl
    rw [List.drop_eq_getElem_cons c, List.cons_lt_cons_iff]
    exact .inl (UInt8.lt_iff_toNat_lt.2 hl)
  · rw [List.drop_of_length_le c]
    exact List.nil_lt_cons _ _
theorem lab_ge {k : ByteArray} {d : Nat} (h : keyOk k = true) (hd : d ≤ k.size) : 45 ≤ (lab k d).toNat := by
  by_cases e : k.size = d
  · rw [(lab_end h hd).2 e]; decide
  · unfold lab
    rw [if_neg e]
    have := keyOk_let h (i := d) (by omega)
    omega
theorem parts_lt {keep : Nat} : ∀ (n : Nat) {way : ByteArray} {f : List ByteArray × Nat}, Fork f → WayOk way f → (partsM keep n way f).Pairwise fun a b => klt a.1 b.1 = true
  | 0, _, _, _, _ => by simp [partsM]
  | n + 1, way, f, hf, hw => by
    simp only [partsM]
    rw [List.pairwise_flatMap]
    refine ⟨fun b hb => ?_, (brs_lt hf).imp_of_mem fun {a b} ha hb h => ?_⟩
    · cases c : bMul b
      · simp
      · simp only [if_true]
        exact parts_lt n (bKid_fork hf hb c) (way_kid hf hw hb c)
    · intro x hx y hy
      have mx := hdsB_mem (keep := keep) (n := n) hf hw ha x.1 (by unfold hdsB; exact List.mem_map.2 ⟨x, hx, rfl⟩)
      have my := hdsB_mem (keep := keep) (n := n) hf hw hb y.1 (by unfold hdsB; exact List.mem_map.2 ⟨y, hy, rfl⟩)
      obtain ⟨lx, k, hk, m, hm, ex⟩ := mx
      obtain ⟨ly, k2, hk2, m2, hm2, ey⟩ := my
      have ik := (brs_lab ha k hk).1
      have ik2 := (brs_lab hb k2 hk2).1
      obtain ⟨ok, dk⟩ := hf.ok k ik
      obtain ⟨ok2, dk2⟩ := hf.ok k2 ik2
      have l1 := lab_take dk hm ex
      have l2 := lab_take dk2 hm2 ey
      rw [size_l] at dk dk2
      have sx : x.1.size = min m k.data.toList.length := by rw [size_l, ex, List.length_take]
      have sy : y.1.size = min m2 k2.data.toList.length := by rw [size_l, ey, List.length_take]
      refine lab_klt (d := f.2) ?_ (by omega) (by omega) (by rw [lx, ly]; exact h) ?_ ?_ ?_
      · rw [ex, ey, List.take_take, List.take_take, Nat.min_eq_left (by omega), Nat.min_eq_left (by omega)]
        exact hf.alike k ik k2 ik2
      · intro hne hs
        refine hne ?_
        rw [l1]
        refine (lab_end ok (by rw [size_l]; omega)).2 ?_
        rw [size_l]; omega
      · intro hs
        rw [l2, (lab_end ok2 (by rw [size_l]; omega)).2 (by rw [size_l]; omega)]; rfl
      · rw [l1]; exact lab_ge ok (by rw [size_l]; omega)
theorem keyOk_take {k x : ByteArray} {m : Nat} (h : keyOk k = true) (e : x.data.toList = k.data.toList.take m) : keyOk x = true := by
  unfold keyOk at *
  rw [Bool.and_eq_true] at *
  obtain ⟨h1, h2⟩ := h
  refine ⟨?_, ?_⟩
  · rw [e]
    exact List.all_eq_true.2 fun c hc => List.all_eq_true.1 h1 c (List.mem_of_mem_take hc)
  · have : k.size ≤ 5 := of_decide_eq_true h2
    refine decide_eq_true ?_
    rw [size_l] at *
    rw [e, List.length_take]; omega
theorem heads_ok {keep : Nat} {ks : List ByteArray} (h : keysOkM ks = true) : keysOkM (headsM keep ks) = true := by
  obtain ⟨hl, hf, _⟩ := ksOk_iff h
  have hp := parts_lt (keep := keep) 6 hf (way_0 ks)
  have hm := parts_mem (keep := keep) 6 hf (way_0 ks)
  unfold keysOkM
  rw [heads_len hf, decide_eq_true hl, Bool.and_true, allI_iff]
  intro i hi
  have hpw : (headsM keep ks).Pairwise fun a b => klt a b = true := by unfold headsM; rw [List.pairwise_map]; exact hp
  have hl2 : i < (headsM keep ks).length := by rw [heads_len hf]; exact hi
  have hok : keyOk (headsM keep ks)[i] = true := by
    have hmem : (headsM keep ks)[i] ∈ headsM keep ks := List.getElem_mem hl2
    obtain ⟨x, hx, e⟩ := List.mem_map.1 hmem
    obtain ⟨k, hk, m, _, e2⟩ := hm x hx
    rw [← e]
    exact keyOk_take (hf.ok k hk).1 e2
  unfold ksAt
  rw [List.getElem?_eq_getElem hl2]
  simp only [Bool.and_eq_true]
  refine ⟨hok, ?_⟩
  cases i with
  | zero => rfl
  | succ j =>
    simp only
    rw [List.getElem?_eq_getElem (by omega)]
    exact List.pairwise_iff_getElem.1 hpw j (j + 1) (by omega) hl2 (by omega)
theorem heads_sieve {keep : Int} {ks : List ByteArray} (h : keysOkM ks = true) : sieveM (headsM keep.toNat ks) keep = sieveM ks keep := by
  obtain ⟨hl, hf, _⟩ := ksOk_iff h
  unfold sieveM
  rw [h, heads_ok h, heads_bfs hf]
theorem sbitsOk_ac (s : ByteArray) (hl : s.size ≤ 400) (hb : ∀ b ∈ s.data.toList, b = 49 ∨ b = 48) : AC Tryz.prog 128 [sT s] noHp 0 ⟨.t (bT true), noHp, 0⟩ := by
  refine AC_of Tryz.func128 rfl Tryz.ntmps128 Tryz.results128 (by kernel_rfl) rfl ?_
  simp only [List.zipIdx, List.map, Nat.zero_add, Nat.reduceAdd]
  repeat (first | apply Aw_seq | apply Aw_block | apply Aw_skip | apply Aw_exit | refine Aw_condt rfl ?_ | refine Aw_condf rfl ?_ | ((first | refine qr ?_ | refine qd (by kernel_rfl) (by kernel_rfl) ?_); simp only [go_sem, reduceEqDiff, reduceIte, reduceAdd, reduceMul, reduceSub, reduceLT, reduceLeDiff, Nat.reduceBEq]) | refine dk (by kernel_rfl) ?_)
  refine Aw.rw (rwL (l' := [(3, .t (iT (0 : Nat))), (0, .t (sT s))]) (os := []) (M := []) (n' := 0) (by repeat (first | exact trivial | refine ⟨rfl, rfl, ?_⟩)) (by rfl) (by simp only [go_sem, reduceEqDiff, reduceIte, reduceAdd, reduceMul, reduceSub, reduceLT, reduceLeDiff, Nat.reduceBEq]; first | done | rfl) (by decide) (by intro m hm; first | omega | (rcases m with _ | _ | _ | _ | _ | _ | m <;> first | exact ⟨by decide, rfl⟩ | omega))) ?_
  refine Aw_loop_rw (ι := { i : Nat // i ≤ s.size }) (fun q => S [(3, .t (iT (q.1 : Nat))), (0, .t (sT s))] (hpL []) 0) (fun q => s.size - q.1) ⟨0, Nat.zero_le _⟩ ?_
  rintro ⟨i, hi⟩
  dsimp only
  by_cases hlt : i < s.size
  · have g1 : decide ((i : Int) < (s.size : Int)) = true := decide_eq_true (by omega)
    have w1 := wrap_succ hlt (by omega)
    have h3 : ∀ hp, ixB hp s i = _ := fun hp => ixB_ok hlt
    have hm : s[i] ∈ s.data.toList := by show s.data[i] ∈ _; exact Array.mem_toList_iff.2 (Array.getElem_mem _)
    rcases hb _ hm with c | c
    · have g2 : decide (((s[i].toNat : Nat) : Int) = 48) = false := by rw [c]; rfl
      have g3 : decide (((s[i].toNat : Nat) : Int) = 49) = true := by rw [c]; rfl
      repeat (first | apply Aw_seq | apply Aw_block | apply Aw_skip | apply Aw_exit | refine Aw_condt rfl ?_ | refine Aw_condf rfl ?_ | ((first | refine qr ?_ | refine qd (by kernel_rfl) (by kernel_rfl) ?_); simp only [go_sem, reduceEqDiff, reduceIte, reduceAdd, reduceMul, reduceSub, reduceLT, reduceLeDiff, Nat.reduceBEq, g1, h3, g2, g3, w1]) | refine dk (by kernel_rfl) ?_)
      refine ⟨⟨i + 1, hlt⟩, [], ?_, rwL (by repeat (first | exact trivial | refine ⟨rfl, rfl, ?_⟩)) (by rfl) (by simp only [go_sem, reduceEqDiff, reduceIte, reduceAdd, reduceMul, reduceSub, reduceLT, reduceLeDiff, Nat.reduceBEq]; first | done | rfl) (by decide) (by intro m hm; first | omega | (rcases m with _ | _ | _ | _ | _ | _ | m <;> first | exact ⟨by decide, rfl⟩ | omega))⟩
      show s.size - (i + 1) < s.size - i; omega
    · have g2 : decide (((s[i].toNat : Nat) : Int) = 48) = true := by rw [c]; rfl
      repeat (first | apply Aw_seq | apply Aw_block | apply Aw_skip | apply Aw_exit | refine Aw_condt rfl ?_ | refine Aw_condf rfl ?_ | ((first | refine qr ?_ | refine qd (by kernel_rfl) (by kernel_rfl) ?_); simp only [go_sem, reduceEqDiff, reduceIte, reduceAdd, reduceMul, reduceSub, reduceLT, reduceLeDiff, Nat.reduceBEq, g1, h3, g2, w1]) | refine dk (by kernel_rfl) ?_)
      refine ⟨⟨i + 1, hlt⟩, [], ?_, rwL (by repeat (first | exact trivial | refine ⟨rfl, rfl, ?_⟩)) (by rfl) (by simp only [go_sem, reduceEqDiff, reduceIte, reduceAdd, reduceMul, reduceSub, reduceLT, reduceLeDiff, Nat.reduceBEq]; first | done | rfl) (by decide) (by intro m hm; first | omega | (rcases m with _ | _ | _ | _ | _ | _ | m <;> first | exact ⟨by decide, rfl⟩ | omega))⟩
      show s.size - (i + 1) < s.size - i; omega
  · have g1 : decide ((i : Int) < (s.size : Int)) = false := decide_eq_false (by omega)
    have g4 : decide ((s.size : Int) ≤ 400) = true := decide_eq_true (by omega)
    repeat (first | apply Aw_seq | apply Aw_block | apply Aw_skip | apply Aw_exit | refine Aw_condt rfl ?_ | refine Aw_condf rfl ?_ | ((first | refine qr ?_ | refine qd (by kernel_rfl) (by kernel_rfl) ?_); simp only [go_sem, reduceEqDiff, reduceIte, reduceAdd, reduceMul, reduceSub, reduceLT, reduceLeDiff, Nat.reduceBEq, g1, g4]) | refine dk (by kernel_rfl) ?_)
    exact Aw_ret (ret0 (.inl rfl) (by simp only [go_sem, reduceEqDiff, reduceIte, reduceAdd, reduceMul, reduceSub, reduceLT, reduceLeDiff, Nat.reduceBEq]; rfl) (by rfl) rfl)
theorem count_take_succ {l : List UInt8} {i : Nat} {b : UInt8} (h : l[i]? = some b) : (l.take (i + 1)).count 49 = (l.take i).count 49 + (if b = 49 then 1 else 0) := by
  rw [List.take_add_one, h, List.count_append]
  by_cases c : b = 49 <;> simp [c]
def cntO (l : List UInt8) (i : Nat) : Nat := (l.take i).count 49
theorem cntO_0 (l : List UInt8) : cntO l 0 = 0 := rfl
theorem ones_ac (s : ByteArray) (at_ : Nat) (hl : s.size ≤ 400) (ha : at_ ≤ s.size) : AC Tryz.prog 91 [sT s, iT at_] noHp 0 ⟨.t (iT (cntO s.data.toList at_ : Nat)), noHp, 0⟩ := by
  have hsl : s.data.toList.length = s.size := Array.length_toList
  refine AC_of Tryz.func91 rfl Tryz.ntmps91 Tryz.results91 (by kernel_rfl) rfl ?_
  simp only [List.zipIdx, List.map, Nat.zero_add, Nat.reduceAdd]
  repeat (first | apply Aw_seq | apply Aw_block | apply Aw_skip | apply Aw_exit | refine Aw_condt rfl ?_ | refine Aw_condf rfl ?_ | ((first | refine qr ?_ | refine qd (by kernel_rfl) (by kernel_rfl) ?_); simp only [go_sem, reduceEqDiff, reduceIte, reduceAdd, reduceMul, reduceSub, reduceLT, reduceLeDiff, Nat.reduceBEq]) | refine dk (by kernel_rfl) ?_)
  refine Aw.rw (rwL (l' := [(6, .t (iT (0 : Nat))), (5, .t (iT (cntO s.data.toList 0 : Nat))), (1, .t (iT at_)), (0, .t (sT s))]) (os := []) (M := []) (n' := 0) (by repeat (first | exact trivial | refine ⟨rfl, rfl, ?_⟩)) (by rfl) (by simp only [go_sem, reduceEqDiff, reduceIte, reduceAdd, reduceMul, reduceSub, reduceLT, reduceLeDiff, Nat.reduceBEq, cntO_0]; first | done | rfl) (by decide) (by intro m hm; first | omega | (rcases m with _ | _ | _ | _ | _ | _ | m <;> first | exact ⟨by decide, rfl⟩ | omega))) ?_
  refine Aw_loop_rw (ι := { i : Nat // i ≤ at_ }) (fun q => S [(6, .t (iT (q.1 : Nat))), (5, .t (iT (cntO s.data.toList q.1 : Nat))), (1, .t (iT at_)), (0, .t (sT s))] (hpL []) 0) (fun q => at_ - q.1) ⟨0, Nat.zero_le _⟩ ?_
  rintro ⟨i, hi⟩
  dsimp only
  by_cases hlt : i < at_
  · have g1 : decide ((i : Int) < (at_ : Int)) = true := decide_eq_true (by omega)
    have g2 : decide ((i : Int) < (s.size : Int)) = true := decide_eq_true (by omega)
    have w1 := wrap_succ (i := i) (m := s.size) (by omega) (by omega)
    have his : i < s.size := by omega
    have h3 : ∀ hp, ixB hp s i = _ := fun hp => ixB_ok his
    have hg : s.data.toList[i]? = some s[i] := by rw [List.getElem?_eq_getElem (by omega)]; rfl
    have hc : cntO s.data.toList (i + 1) = cntO s.data.toList i + (if s[i] = 49 then 1 else 0) := count_take_succ hg
    have hle : cntO s.data.toList i ≤ i := by
      have := List.count_le_length (a := (49 : UInt8)) (l := s.data.toList.take i)
      rw [List.length_take] at this
      unfold cntO; omega
    by_cases c : s[i] = 49
    · rw [if_pos c] at hc
      have g3 : decide (((s[i].toNat : Nat) : Int) = 49) = true := by rw [c]; rfl
      have w2 : IntKind.i64.wrap ((cntO s.data.toList i : Int) + 1) = ((cntO s.data.toList i + 1 : Nat) : Int) := wn (by omega) (by omega)
      repeat (first | apply Aw_seq | apply Aw_block | apply Aw_skip | apply Aw_exit | refine Aw_condt rfl ?_ | refine Aw_condf rfl ?_ | ((first | refine qr ?_ | refine qd (by kernel_rfl) (by kernel_rfl) ?_); simp only [go_sem, reduceEqDiff, reduceIte, reduceAdd, reduceMul, reduceSub, reduceLT, reduceLeDiff, Nat.reduceBEq, g1, g2, h3, g3, w1, w2]) | refine dk (by kernel_rfl) ?_)
      refine ⟨⟨i + 1, hlt⟩, [], ?_, ?_⟩
      rotate_left
      dsimp only
      rw [hc]
      exact rwL (by repeat (first | exact trivial | refine ⟨rfl, rfl, ?_⟩)) (by rfl) (by simp only [go_sem, reduceEqDiff, reduceIte, reduceAdd, reduceMul, reduceSub, reduceLT, reduceLeDiff, Nat.reduceBEq]; first | done | rfl) (by decide) (by intro m hm; first | omega | (rcases m with _ | _ | _ | _ | _ | _ | m <;> first | exact ⟨by decide, rfl⟩ | omega))
      show at_ - (i + 1) < at_ - i; omega
    · rw [if_neg c, Nat.add_zero] at hc
      have g3 : decide (((s[i].toNat : Nat) : Int) = 49) = false := decide_eq_false fun e => c (UInt8.toNat_inj.1 (Int.ofNat.inj e))
      repeat (first | apply Aw_seq | apply Aw_block | apply Aw_skip | apply Aw_exit | refine Aw_condt rfl ?_ | refine Aw_condf rfl ?_ | ((first | refine qr ?_ | refine qd (by kernel_rfl) (by kernel_rfl) ?_); simp only [go_sem, reduceEqDiff, reduceIte, reduceAdd, reduceMul, reduceSub, reduceLT, reduceLeDiff, Nat.reduceBEq, g1, g2, h3, g3, w1]) | refine dk (by kernel_rfl) ?_)
      refine ⟨⟨i + 1, hlt⟩, [], ?_, ?_⟩
      rotate_left
      dsimp only
      rw [hc]
      exact rwL (by repeat (first | exact trivial | refine ⟨rfl, rfl, ?_⟩)) (by rfl) (by simp only [go_sem, reduceEqDiff, reduceIte, reduceAdd, reduceMul, reduceSub, reduceLT, reduceLeDiff, Nat.reduceBEq]; first | done | rfl) (by decide) (by intro m hm; first | omega | (rcases m with _ | _ | _ | _ | _ | _ | m <;> first | exact ⟨by decide, rfl⟩ | omega))
      show at_ - (i + 1) < at_ - i; omega
  · have g1 : decide ((i : Int) < (at_ : Int)) = false := decide_eq_false (by omega)
    obtain rfl : i = at_ := by omega
    repeat (first | apply Aw_seq | apply Aw_block | apply Aw_skip | apply Aw_exit | refine Aw_condt rfl ?_ | refine Aw_condf rfl ?_ | ((first | refine qr ?_ | refine qd (by kernel_rfl) (by kernel_rfl) ?_); simp only [go_sem, reduceEqDiff, reduceIte, reduceAdd, reduceMul, reduceSub, reduceLT, reduceLeDiff, Nat.reduceBEq, g1]) | refine dk (by kernel_rfl) ?_)
    exact Aw_ret (ret0 (.inl rfl) (by simp only [go_sem, reduceEqDiff, reduceIte, reduceAdd, reduceMul, reduceSub, reduceLT, reduceLeDiff, Nat.reduceBEq]; rfl) (by rfl) rfl)
def oneN (l : List UInt8) (n : Nat) : Nat := (posOne l n).getD l.length
structure SoneI (l : List UInt8) (R : Nat) where
  i : Nat
  n : Nat
  hi : i ≤ l.length
  hn : n ≤ 1000
  h : i + oneN (l.drop i) n = R
theorem sone_ac (s : ByteArray) (n : Nat) (hl : s.size ≤ 400) (hn : n ≤ 1000) : AC Tryz.prog 65 [sT s, iT n] noHp 0 ⟨.t (iT (oneN s.data.toList n : Nat)), noHp, 0⟩ := by
  have hsl : s.data.toList.length = s.size := Array.length_toList
  obtain ⟨R, hR⟩ : ∃ R, R = oneN s.data.toList n := ⟨_, rfl⟩
  rw [← hR]
  refine AC_of Tryz.func65 rfl Tryz.ntmps65 Tryz.results65 (by kernel_rfl) rfl ?_
  simp only [List.zipIdx, List.map, Nat.zero_add, Nat.reduceAdd]
  repeat (first | apply Aw_seq | apply Aw_block | apply Aw_skip | apply Aw_exit | refine Aw_condt rfl ?_ | refine Aw_condf rfl ?_ | ((first | refine qr ?_ | refine qd (by kernel_rfl) (by kernel_rfl) ?_); simp only [go_sem, reduceEqDiff, reduceIte, reduceAdd, reduceMul, reduceSub, reduceLT, reduceLeDiff, Nat.reduceBEq]) | refine dk (by kernel_rfl) ?_)
  refine Aw.rw (rwL (l' := [(5, .t (iT (0 : Nat))), (1, .t (iT n)), (0, .t (sT s))]) (os := []) (M := []) (n' := 0) (by repeat (first | exact trivial | refine ⟨rfl, rfl, ?_⟩)) (by rfl) (by simp only [go_sem, reduceEqDiff, reduceIte, reduceAdd, reduceMul, reduceSub, reduceLT, reduceLeDiff, Nat.reduceBEq]; first | done | rfl) (by decide) (by intro m hm; first | omega | (rcases m with _ | _ | _ | _ | _ | _ | m <;> first | exact ⟨by decide, rfl⟩ | omega))) ?_
  refine Aw_loop_rw (ι := SoneI s.data.toList R) (fun q => S [(5, .t (iT (q.i : Nat))), (1, .t (iT q.n)), (0, .t (sT s))] (hpL []) 0) (fun q => s.size - q.i) ⟨0, n, Nat.zero_le _, hn, by rw [hR]; simp⟩ ?_
  clear hR
  rintro ⟨i, m, hi, hm, h⟩
  dsimp only
  by_cases hlt : i < s.size
  · have g1 : decide ((i : Int) < (s.size : Int)) = true := decide_eq_true (by omega)
    have w1 := wrap_succ hlt (by omega)
    have h3 : ∀ hp, ixB hp s i = _ := fun hp => ixB_ok hlt
    have hd : s.data.toList.drop i = s[i] :: s.data.toList.drop (i + 1) := by
      rw [List.drop_eq_getElem_cons (by omega)]; rfl
    rw [hd] at h
    by_cases c1 : s[i] = 49
    · have g2 : decide (((s[i].toNat : Nat) : Int) = 49) = true := by rw [c1]; rfl
      cases m with
      | zero =>
        have e1 : R = i := by rw [← h]; simp [oneN, posOne, c1]
        subst e1
        have g3 : decide (((0 : Nat) : Int) = 0) = true := rfl
        repeat (first | apply Aw_seq | apply Aw_block | apply Aw_skip | apply Aw_exit | refine Aw_condt rfl ?_ | refine Aw_condf rfl ?_ | ((first | refine qr ?_ | refine qd (by kernel_rfl) (by kernel_rfl) ?_); simp only [go_sem, reduceEqDiff, reduceIte, reduceAdd, reduceMul, reduceSub, reduceLT, reduceLeDiff, Nat.reduceBEq, g1, h3, g2, g3]) | refine dk (by kernel_rfl) ?_)
        exact Aw_ret (ret0 (.inl rfl) (by simp only [go_sem, reduceEqDiff, reduceIte, reduceAdd, reduceMul, reduceSub, reduceLT, reduceLeDiff, Nat.reduceBEq]; rfl) (by rfl) rfl)
      | succ m =>
        have g3 : decide (((m + 1 : Nat) : Int) = 0) = false := decide_eq_false (by omega)
        have w2 : IntKind.i64.wrap (((m + 1 : Nat) : Int) - 1) = (m : Int) := wn (by omega) (by omega)
        have e1 : (i + 1) + oneN (s.data.toList.drop (i + 1)) m = R := by
          rw [← h]; unfold oneN; simp only [posOne]; rw [if_pos c1]
          cases posOne (s.data.toList.drop (i + 1)) m with
          | none => simp; omega
          | some v => simp; omega
        repeat (first | apply Aw_seq | apply Aw_block | apply Aw_skip | apply Aw_exit | refine Aw_condt rfl ?_ | refine Aw_condf rfl ?_ | ((first | refine qr ?_ | refine qd (by kernel_rfl) (by kernel_rfl) ?_); simp only [go_sem, reduceEqDiff, reduceIte, reduceAdd, reduceMul, reduceSub, reduceLT, reduceLeDiff, Nat.reduceBEq, g1, w1, h3, g2, g3, w2]) | refine dk (by kernel_rfl) ?_)
        refine ⟨⟨i + 1, m, by omega, by omega, e1⟩, [], ?_, rwL (by repeat (first | exact trivial | refine ⟨rfl, rfl, ?_⟩)) (by rfl) (by simp only [go_sem, reduceEqDiff, reduceIte, reduceAdd, reduceMul, reduceSub, reduceLT, reduceLeDiff, Nat.reduceBEq]; first | done | rfl) (by decide) (by intro m hm; first | omega | (rcases m with _ | _ | _ | _ | _ | _ | m <;> first | exact ⟨by decide, rfl⟩ | omega))⟩
        show s.size - (i + 1) < s.size - i; omega
    · have g2 : decide (((s[i].toNat : Nat) : Int) = 49) = false := decide_eq_false (fun e => c1 (UInt8.toNat_inj.1 (Int.ofNat.inj e)))
      have e1 : (i + 1) + oneN (s.data.toList.drop (i + 1)) m = R := by
        rw [← h]; unfold oneN; simp only [posOne]; rw [if_neg c1]
        cases posOne (s.data.toList.drop (i + 1)) m with
        | none => simp; omega
        | some v => simp; omega
      repeat (first | apply Aw_seq | apply Aw_block | apply Aw_skip | apply Aw_exit | refine Aw_condt rfl ?_ | refine Aw_condf rfl ?_ | ((first | refine qr ?_ | refine qd (by kernel_rfl) (by kernel_rfl) ?_); simp only [go_sem, reduceEqDiff, reduceIte, reduceAdd, reduceMul, reduceSub, reduceLT, reduceLeDiff, Nat.reduceBEq, g1, w1, h3, g2]) | refine dk (by kernel_rfl) ?_)
      refine ⟨⟨i + 1, m, by omega, by omega, e1⟩, [], ?_, rwL (by repeat (first | exact trivial | refine ⟨rfl, rfl, ?_⟩)) (by rfl) (by simp only [go_sem, reduceEqDiff, reduceIte, reduceAdd, reduceMul, reduceSub, reduceLT, reduceLeDiff, Nat.reduceBEq]; first | done | rfl) (by decide) (by intro m hm; first | omega | (rcases m with _ | _ | _ | _ | _ | _ | m <;> first | exact ⟨by decide, rfl⟩ | omega))⟩
      show s.size - (i + 1) < s.size - i; omega
  · have g1 : decide ((i : Int) < (s.size : Int)) = false := decide_eq_false (by omega)
    have e1 : R = s.size := by rw [← h, List.drop_of_length_le (by omega)]; simp [oneN, posOne]; omega
    subst e1
    repeat (first | apply Aw_seq | apply Aw_block | apply Aw_skip | apply Aw_exit | refine Aw_condt rfl ?_ | refine Aw_condf rfl ?_ | ((first | refine qr ?_ | refine qd (by kernel_rfl) (by kernel_rfl) ?_); simp only [go_sem, reduceEqDiff, reduceIte, reduceAdd, reduceMul, reduceSub, reduceLT, reduceLeDiff, Nat.reduceBEq, g1]) | refine dk (by kernel_rfl) ?_)
    exact Aw_ret (ret0 (.inl rfl) (by simp only [go_sem, reduceEqDiff, reduceIte, reduceAdd, reduceMul, reduceSub, reduceLT, reduceLeDiff, Nat.reduceBEq]; rfl) (by rfl) rfl)
theorem fks_queue {keep : Nat} : ∀ (n : Nat) (q : List (List ByteArray × Nat)) (m : Nat), m < (fks keep n q).length → m < q.length + (((fks keep n q).take m).flatMap fun f => (node keep f).kids).length
  | 0, q, m, h => by simp [fks] at h
  | n + 1, [], m, h => by simp [fks] at h
  | n + 1, f :: q, 0, h => by simp
  | n + 1, f :: q, m + 1, h => by
    simp only [fks, List.length_cons] at h
    have ih := fks_queue (keep := keep) n (q ++ (node keep f).kids) m (by omega)
    simp only [fks, List.take_succ_cons, List.flatMap_cons, List.length_append, List.length_cons] at ih ⊢
    omega
theorem kids_count (keep : Nat) (F : List (List ByteArray × Nat)) : (F.flatMap fun f => (node keep f).kids).length = (F.flatMap brs).countP bMul := by
  induction F with
  | nil => rfl
  | cons f F ih =>
    rw [List.flatMap_cons, List.flatMap_cons, List.length_append, List.countP_append, ih, (node_all keep f).2.2.2.2, List.length_map, List.countP_eq_length_filter (l := brs f)]
theorem allB_off (keep : Nat) (ks : List ByteArray) (j : Nat) : (allB keep ks).take (offB keep ks j) = ((allF keep ks).take j).flatMap brs := by
  unfold offB offL allB
  conv => lhs; rw [← List.take_append_drop j (allF keep ks), List.flatMap_append]
  rw [List.take_append_drop, List.take_append_of_le_length (Nat.le_refl _), List.take_length]
theorem off_mono (keep : Nat) (ks : List ByteArray) {i j : Nat} (h : i ≤ j) : offB keep ks i ≤ offB keep ks j := by
  unfold offB offL
  obtain ⟨d, rfl⟩ := Nat.exists_eq_add_of_le h
  rw [List.take_add, List.flatMap_append, List.length_append]; omega
/-- A branch leads to a fork behind its own. -/
theorem kid_gt {keep : Nat} {ks : List ByteArray} (hf : Fork (ks, 0)) {j : Nat} {f : List ByteArray × Nat} (hj : (allF keep ks)[j]? = some f) {t : Nat} {x : Br} (hx : (brs f)[t]? = some x) (hm : bMul x = true) : j < ((allB keep ks).take (offB keep ks j + t + 1)).countP bMul := by
  have hjl := (List.getElem?_eq_some_iff.1 hj).1
  have ht := (List.getElem?_eq_some_iff.1 hx).1
  have h1 := fks_queue (keep := keep) (wts [(ks, 0)]) [(ks, 0)] j hjl
  rw [kids_count] at h1
  have h2 := allB_off keep ks j
  have h3 := br_at hj ht
  rw [hx] at h3
  rw [List.take_add_one, List.countP_append, h3]
  have h4 : ((allB keep ks).take (offB keep ks j)).countP bMul ≤ ((allB keep ks).take (offB keep ks j + t)).countP bMul := by
    rw [List.take_add, List.countP_append]; omega
  have h5 : (some x).toList.countP bMul = 1 := by simp [hm]
  rw [h5]
  rw [h2] at h4
  have h6 : (((allF keep ks).take j).flatMap brs).countP bMul = (((fks keep (wts [(ks, 0)]) [(ks, 0)]).take j).flatMap brs).countP bMul := rfl
  rw [h6] at h4
  simp only [List.length_singleton] at h1
  omega
theorem off_kid {keep : Nat} {ks : List ByteArray} (hf : Fork (ks, 0)) {j : Nat} {f : List ByteArray × Nat} (hj : (allF keep ks)[j]? = some f) {t : Nat} {x : Br} (hx : (brs f)[t]? = some x) (hm : bMul x = true) : offB keep ks j + t < offB keep ks (((allB keep ks).take (offB keep ks j + t + 1)).countP bMul) := by
  have ht := (List.getElem?_eq_some_iff.1 hx).1
  have h := off_mono keep ks (Nat.succ_le_of_lt (kid_gt hf hj hx hm))
  rw [Nat.succ_eq_add_one, off_next hj] at h
  omega
theorem ext_at {s : ByteArray} {i : Nat} {b : UInt8} {hi : i < s.size} (e : s[i] = b) : s.extract i (i + 1) = bs [b] := by
  apply ext_l
  rw [ByteArray.data_extract, Array.toList_extract, bs_l, List.extract_eq_take_drop]
  have h' : i < s.data.toList.length := by rw [size_l] at hi; exact hi
  rw [List.drop_eq_getElem_cons h', show i + 1 - i = 1 by omega]
  show [s.data.toList[i]] = [b]
  rw [← e]; rfl
/-- The branch to which a key leads, by its number, and how deep it stands. -/
def walkN (keep : Nat) (ks : List ByteArray) (k : ByteArray) : Nat → Nat → List ByteArray × Nat → Option (Nat × Nat)
  | 0, _, _ => none
  | n + 1, j, f => match (brs f).findIdx? (fun b => decide (bLet b = lab k f.2)) with
    | none => none
    | some a => match (brs f)[a]? with
      | none => none
      | some x => if bMul x = true then walkN keep ks k n (((allB keep ks).take (offB keep ks j + a + 1)).countP bMul) (bKid x) else some (offB keep ks j + a, f.2)
theorem count_ones (l : List Br) (n : Nat) : ((l.map bMore).take n).count 49 = (l.take n).countP bMul := by
  rw [← List.map_take, (count_more _).1]
theorem not_ones (l : List Br) (n : Nat) (h : n ≤ l.length) : (l.take n).countP bMul + (l.take n).countP (fun b => !bMul b) = n := by
  have e := List.length_eq_countP_add_countP (l := l.take n) bMul
  rw [List.length_take, Nat.min_eq_left h] at e
  have e2 : (l.take n).countP (fun a => decide ¬ bMul a = true) = (l.take n).countP (fun b => !bMul b) := by
    congr 1; funext a; cases bMul a <;> rfl
  rw [e2] at e
  omega
theorem count_bMore (l : List Br) : (l.filter fun b => !bMul b).length + l.countP bMul = l.length := by
  have e := List.length_eq_countP_add_countP (l := l) bMul
  rw [← List.countP_eq_length_filter]
  have e2 : l.countP (fun a => decide ¬ bMul a = true) = l.countP (fun b => !bMul b) := by
    congr 1; funext a; cases bMul a <;> rfl
  rw [e2] at e
  omega
open Go Go.Proofs Go.Shelf
def Tryz.lCount_ren : Go.Shelf.Ren := ⟨fun | 138 => 122 | 195 => 138 | 218 => 139 | 143 => 140 | 219 => 152 | 217 => 158 | 225 => 159 | 224 => 160 | 267 => 161 | 266 => 164 | 314 => 165 | n => n, fun | 9 => 9 | 3 => 3 | 4 => 4 | 5 => 5 | 0 => 0 | 46 => 181 | 146 => 185 | 51 => 184 | n => n, fun | 1 => 0 | n => n⟩
theorem Tryz.lCount : Go.Proofs.Lays.n138 Tryz.prog Tryz.lCount_ren := {
  mixed := by kernel_rfl
  f138 := Tryz.func122.trans (congrArg some (by kernel_rfl))
  f143 := Tryz.func140.trans (congrArg some (by kernel_rfl))
  f195 := Tryz.func138.trans (congrArg some (by kernel_rfl))
  f217 := Tryz.func158.trans (congrArg some (by kernel_rfl))
  f218 := Tryz.func139.trans (congrArg some (by kernel_rfl))
  f219 := Tryz.func152.trans (congrArg some (by kernel_rfl))
  f224 := Tryz.func160.trans (congrArg some (by kernel_rfl))
  f225 := Tryz.func159.trans (congrArg some (by kernel_rfl))
  f266 := Tryz.func164.trans (congrArg some (by kernel_rfl))
  f267 := Tryz.func161.trans (congrArg some (by kernel_rfl))
  f314 := Tryz.func165.trans (congrArg some (by kernel_rfl))
  t0 := Tryz.underlying0
  a0 := Tryz.isAgg0
  z0 := Tryz.sizeOf0
  v0 := Tryz.zeroValue0
  t3 := Tryz.underlying3
  a3 := Tryz.isAgg3
  z3 := Tryz.sizeOf3
  v3 := Tryz.zeroValue3
  t4 := Tryz.underlying4
  a4 := Tryz.isAgg4
  z4 := Tryz.sizeOf4
  v4 := Tryz.zeroValue4
  t5 := Tryz.underlying5
  a5 := Tryz.isAgg5
  z5 := Tryz.sizeOf5
  v5 := Tryz.zeroValue5
  t9 := Tryz.underlying9
  a9 := Tryz.isAgg9
  z9 := Tryz.sizeOf9
  v9 := Tryz.zeroValue9
  t46 := Tryz.underlying181
  a46 := Tryz.isAgg181
  z46 := Tryz.sizeOf181
  v46 := Tryz.zeroValue181
  t51 := Tryz.underlying184
  a51 := Tryz.isAgg184
  z51 := Tryz.sizeOf184
  v51 := Tryz.zeroValue184
  t146 := Tryz.underlying185
  a146 := Tryz.isAgg185
  z146 := Tryz.sizeOf185
  v146 := Tryz.zeroValue185
  g1 := by kernel_rfl }
theorem count_ac (s : ByteArray) (c : UInt8) : AC Tryz.prog 122 [sT s, sT ⟨#[c]⟩] noHp 0 ⟨.t (iT (s.data.toList.count c : Nat)), noHp, 0⟩ := by
  refine ⟨by exact ⟨_, Tryz.func122, rfl, rfl⟩, fun cx vs g hU hA => ?_⟩
  obtain rfl : vs = [.string s, .string ⟨#[c]⟩] := by
    cases hA with
    | cons h1 h2 => cases h2 with
      | cons h2 h3 =>
        cases h3
        have e1 := repD_s h1
        have e2 := repD_s h2
        rw [e1, e2]
  refine (Any.strings_Count_one Tryz.lCount s c cx.w).mono ?_
  rintro e w' ⟨rfl, rfl⟩
  exact ⟨_, cx, rfl, rfl, Tr.refl cx _, g, .s rfl, hU⟩
/-- A text begins with another one. -/
def begB (s h : ByteArray) : Bool := decide (h.size ≤ s.size) && decide (s.extract 0 h.size = h)
theorem hasPre_ac (s h : ByteArray) : AC Tryz.prog 141 [sT s, sT h] noHp 0 ⟨.t (bT (begB s h)), noHp, 0⟩ := by
  refine AC_of Tryz.func141 rfl Tryz.ntmps141 Tryz.results141 (by kernel_rfl) rfl ?_
  simp only [List.zipIdx, List.map, Nat.zero_add, Nat.reduceAdd]
  by_cases c : h.size ≤ s.size
  · have g1 : decide ((h.size : Int) ≤ (s.size : Int)) = true := decide_eq_true (by omega)
    have g2 : ((h.size : Int) ≤ (s.size : Int)) = True := eq_true (by omega)
    have g3 : ((0 : Int) ≤ (h.size : Int)) = True := eq_true (by omega)
    have g4 : Int.toNat ((h.size : Nat) : Int) = h.size := rfl
    have g5 : Int.toNat 0 = 0 := rfl
    unfold begB
    rw [decide_eq_true c, Bool.true_and]
    repeat (first | apply Aw_seq | apply Aw_block | apply Aw_skip | apply Aw_exit | refine Aw_condt rfl ?_ | refine Aw_condf rfl ?_ | ((first | refine qr ?_ | refine qd (by kernel_rfl) (by kernel_rfl) ?_); simp only [go_sem, reduceEqDiff, reduceIte, reduceAdd, reduceMul, reduceSub, reduceLT, reduceLeDiff, Nat.reduceBEq, g1, g2, g3, g4, g5]) | refine dk (by kernel_rfl) ?_)
    exact Aw_ret (ret0 (.inl rfl) (by simp only [go_sem, reduceEqDiff, reduceIte, reduceAdd, reduceMul, reduceSub, reduceLT, reduceLeDiff, Nat.reduceBEq]; rfl) (by rfl) rfl)
  · have g1 : decide ((h.size : Int) ≤ (s.size : Int)) = false := decide_eq_false (by omega)
    unfold begB
    rw [decide_eq_false c, Bool.false_and]
    repeat (first | apply Aw_seq | apply Aw_block | apply Aw_skip | apply Aw_exit | refine Aw_condt rfl ?_ | refine Aw_condf rfl ?_ | ((first | refine qr ?_ | refine qd (by kernel_rfl) (by kernel_rfl) ?_); simp only [go_sem, reduceEqDiff, reduceIte, reduceAdd, reduceMul, reduceSub, reduceLT, reduceLeDiff, Nat.reduceBEq, g1]) | refine dk (by kernel_rfl) ?_)
    exact Aw_ret (ret0 (.inl rfl) (by simp only [go_sem, reduceEqDiff, reduceIte, reduceAdd, reduceMul, reduceSub, reduceLT, reduceLeDiff, Nat.reduceBEq]; rfl) (by rfl) rfl)
theorem hasPrefix_ac (s h : ByteArray) : AC Tryz.prog 123 [sT s, sT h] noHp 0 ⟨.t (bT (begB s h)), noHp, 0⟩ := by
  refine AC_of Tryz.func123 rfl Tryz.ntmps123 Tryz.results123 (by kernel_rfl) rfl ?_
  simp only [List.zipIdx, List.map, Nat.zero_add, Nat.reduceAdd]
  repeat (first | apply Aw_seq | apply Aw_block | apply Aw_skip | apply Aw_exit | refine Aw_condt rfl ?_ | refine Aw_condf rfl ?_ | ((first | refine qr ?_ | refine qd (by kernel_rfl) (by kernel_rfl) ?_); simp only [go_sem, reduceEqDiff, reduceIte, reduceAdd, reduceMul, reduceSub, reduceLT, reduceLeDiff, Nat.reduceBEq]) | refine dk (by kernel_rfl) ?_ | (refine qp (hasPre_ac s h) (by simp only [go_sem, reduceEqDiff, reduceIte, reduceAdd, reduceMul, reduceSub, reduceLT, reduceLeDiff, Nat.reduceBEq]; first | done | rfl) rfl (by simp only [go_sem, Nat.reduceLT]) rfl rfl ?_; simp only [go_sem, reduceEqDiff, reduceIte, reduceAdd, reduceMul, reduceSub, reduceLT, reduceLeDiff, Nat.reduceBEq]))
  exact Aw_ret (ret0 (.inl rfl) (by simp only [go_sem, reduceEqDiff, reduceIte, reduceAdd, reduceMul, reduceSub, reduceLT, reduceLeDiff, Nat.reduceBEq]; rfl) (by rfl) rfl)
theorem keyBegins_ac (s h : ByteArray) : AC Tryz.prog 89 [sT s, sT h] noHp 0 ⟨.t (bT (begB s h)), noHp, 0⟩ := by
  refine AC_of Tryz.func89 rfl Tryz.ntmps89 Tryz.results89 (by kernel_rfl) rfl ?_
  simp only [List.zipIdx, List.map, Nat.zero_add, Nat.reduceAdd]
  repeat (first | apply Aw_seq | apply Aw_block | apply Aw_skip | apply Aw_exit | refine Aw_condt rfl ?_ | refine Aw_condf rfl ?_ | ((first | refine qr ?_ | refine qd (by kernel_rfl) (by kernel_rfl) ?_); simp only [go_sem, reduceEqDiff, reduceIte, reduceAdd, reduceMul, reduceSub, reduceLT, reduceLeDiff, Nat.reduceBEq]) | refine dk (by kernel_rfl) ?_ | (refine qp (hasPrefix_ac s h) (by simp only [go_sem, reduceEqDiff, reduceIte, reduceAdd, reduceMul, reduceSub, reduceLT, reduceLeDiff, Nat.reduceBEq]; first | done | rfl) rfl (by simp only [go_sem, Nat.reduceLT]) rfl rfl ?_; simp only [go_sem, reduceEqDiff, reduceIte, reduceAdd, reduceMul, reduceSub, reduceLT, reduceLeDiff, Nat.reduceBEq]))
  exact Aw_ret (ret0 (.inl rfl) (by simp only [go_sem, reduceEqDiff, reduceIte, reduceAdd, reduceMul, reduceSub, reduceLT, reduceLeDiff, Nat.reduceBEq]; rfl) (by rfl) rfl)
def oneR : Option Nat → Int
  | some p => (p : Int)
  | none => -1
def oneI (l : List UInt8) (n : Nat) : Int := oneR (posOne l n)
structure OneI (l : List UInt8) (R : Option Nat) where
  i : Nat
  n : Nat
  hi : i ≤ l.length
  hn : n ≤ 1000000
  h : (posOne (l.drop i) n).map (· + i) = R
theorem one_ac (s : ByteArray) (n : Nat) (hl : s.size ≤ 1000000) (hn : n ≤ 1000000) : AC Tryz.prog 121 [sT s, iT n] noHp 0 ⟨.t (iT (oneI s.data.toList n)), noHp, 0⟩ := by
  obtain ⟨R, hR⟩ : ∃ R, R = posOne s.data.toList n := ⟨_, rfl⟩
  have hr : oneI s.data.toList n = oneR R := by rw [hR]; rfl
  rw [hr]
  have hsl : s.data.toList.length = s.size := Array.length_toList
  refine AC_of Tryz.func121 rfl Tryz.ntmps121 Tryz.results121 (by kernel_rfl) rfl ?_
  simp only [List.zipIdx, List.map, Nat.zero_add, Nat.reduceAdd]
  repeat (first | apply Aw_seq | apply Aw_block | apply Aw_skip | apply Aw_exit | refine Aw_condt rfl ?_ | refine Aw_condf rfl ?_ | ((first | refine qr ?_ | refine qd (by kernel_rfl) (by kernel_rfl) ?_); simp only [go_sem, reduceEqDiff, reduceIte, reduceAdd, reduceMul, reduceSub, reduceLT, reduceLeDiff, Nat.reduceBEq]) | refine dk (by kernel_rfl) ?_)
  refine Aw.rw (rwL (l' := [(8, .t (iT (0 : Nat))), (7, .t (iT s.size)), (1, .t (iT n)), (0, .t (sT s))]) (os := []) (M := []) (n' := 0) (by repeat (first | exact trivial | refine ⟨rfl, rfl, ?_⟩)) (by rfl) (by simp only [go_sem, reduceEqDiff, reduceIte, reduceAdd, reduceMul, reduceSub, reduceLT, reduceLeDiff, Nat.reduceBEq]; first | done | rfl) (by decide) (by intro m hm; first | omega | (rcases m with _ | _ | _ | _ | _ | _ | m <;> first | exact ⟨by decide, rfl⟩ | omega))) ?_
  refine Aw_loop_rw (ι := OneI s.data.toList R) (fun q => S [(8, .t (iT (q.i : Nat))), (7, .t (iT s.size)), (1, .t (iT q.n)), (0, .t (sT s))] (hpL []) 0) (fun q => s.size - q.i) ⟨0, n, Nat.zero_le _, hn, by rw [hR]; simp⟩ ?_
  clear hR hr
  rintro ⟨i, m, hi, hm, h⟩
  dsimp only
  by_cases hlt : i < s.size
  · have g1 : decide ((i : Int) < (s.size : Int)) = true := decide_eq_true (by omega)
    have w1 := wrap_succ hlt (by omega)
    have h3 := ixB_ok (hp := hpL []) hlt
    have hd : s.data.toList.drop i = s[i] :: s.data.toList.drop (i + 1) := by
      rw [List.drop_eq_getElem_cons (by omega)]; rfl
    rw [hd] at h
    by_cases c1 : s[i] = 49
    · have g2 : decide (((s[i].toNat : Nat) : Int) = 49) = true := by rw [c1]; rfl
      cases m with
      | zero =>
        have e1 : R = some i := by rw [← h]; simp [posOne, c1]
        subst e1
        have g3 : decide (((0 : Nat) : Int) = 0) = true := rfl
        repeat (first | apply Aw_seq | apply Aw_block | apply Aw_skip | apply Aw_exit | refine Aw_condt rfl ?_ | refine Aw_condf rfl ?_ | ((first | refine qr ?_ | refine qd (by kernel_rfl) (by kernel_rfl) ?_); simp only [go_sem, reduceEqDiff, reduceIte, reduceAdd, reduceMul, reduceSub, reduceLT, reduceLeDiff, Nat.reduceBEq, g1, h3, g2, g3]) | refine dk (by kernel_rfl) ?_)
        exact Aw_ret (ret0 (.inl rfl) (by simp only [go_sem, reduceEqDiff, reduceIte, reduceAdd, reduceMul, reduceSub, reduceLT, reduceLeDiff, Nat.reduceBEq]; rfl) (by rfl) rfl)
      | succ m =>
        have g3 : decide (((m + 1 : Nat) : Int) = 0) = false := decide_eq_false (by omega)
        have w2 : IntKind.i64.wrap (((m + 1 : Nat) : Int) - 1) = (m : Int) := wn (by omega) (by omega)
        have e1 : (posOne (s.data.toList.drop (i + 1)) m).map (· + (i + 1)) = R := by
          rw [← h]; simp only [posOne]; rw [if_pos c1]
          cases posOne (s.data.toList.drop (i + 1)) m with
          | none => rfl
          | some v => simp; omega
        repeat (first | apply Aw_seq | apply Aw_block | apply Aw_skip | apply Aw_exit | refine Aw_condt rfl ?_ | refine Aw_condf rfl ?_ | ((first | refine qr ?_ | refine qd (by kernel_rfl) (by kernel_rfl) ?_); simp only [go_sem, reduceEqDiff, reduceIte, reduceAdd, reduceMul, reduceSub, reduceLT, reduceLeDiff, Nat.reduceBEq, g1, w1, h3, g2, g3, w2]) | refine dk (by kernel_rfl) ?_)
        refine ⟨⟨i + 1, m, by omega, by omega, e1⟩, [], ?_, rwL (by repeat (first | exact trivial | refine ⟨rfl, rfl, ?_⟩)) (by rfl) (by simp only [go_sem, reduceEqDiff, reduceIte, reduceAdd, reduceMul, reduceSub, reduceLT, reduceLeDiff, Nat.reduceBEq]; first | done | rfl) (by decide) (by intro m hm; first | omega | (rcases m with _ | _ | _ | _ | _ | _ | m <;> first | exact ⟨by decide, rfl⟩ | omega))⟩
        show s.size - (i + 1) < s.size - i; omega
    · have g2 : decide (((s[i].toNat : Nat) : Int) = 49) = false := decide_eq_false (fun e => c1 (UInt8.toNat_inj.1 (Int.ofNat.inj e)))
      have e1 : (posOne (s.data.toList.drop (i + 1)) m).map (· + (i + 1)) = R := by
        rw [← h]; simp only [posOne]; rw [if_neg c1]
        cases posOne (s.data.toList.drop (i + 1)) m with
        | none => rfl
        | some v => simp; omega
      repeat (first | apply Aw_seq | apply Aw_block | apply Aw_skip | apply Aw_exit | refine Aw_condt rfl ?_ | refine Aw_condf rfl ?_ | ((first | refine qr ?_ | refine qd (by kernel_rfl) (by kernel_rfl) ?_); simp only [go_sem, reduceEqDiff, reduceIte, reduceAdd, reduceMul, reduceSub, reduceLT, reduceLeDiff, Nat.reduceBEq, g1, w1, h3, g2]) | refine dk (by kernel_rfl) ?_)
      refine ⟨⟨i + 1, m, by omega, by omega, e1⟩, [], ?_, rwL (by repeat (first | exact trivial | refine ⟨rfl, rfl, ?_⟩)) (by rfl) (by simp only [go_sem, reduceEqDiff, reduceIte, reduceAdd, reduceMul, reduceSub, reduceLT, reduceLeDiff, Nat.reduceBEq]; first | done | rfl) (by decide) (by intro m hm; first | omega | (rcases m with _ | _ | _ | _ | _ | _ | m <;> first | exact ⟨by decide, rfl⟩ | omega))⟩
      show s.size - (i + 1) < s.size - i; omega
  · have g1 : decide ((i : Int) < (s.size : Int)) = false := decide_eq_false (by omega)
    have e1 : R = none := by rw [← h, List.drop_of_length_le (by omega)]; rfl
    subst e1
    repeat (first | apply Aw_seq | apply Aw_block | apply Aw_skip | apply Aw_exit | refine Aw_condt rfl ?_ | refine Aw_condf rfl ?_ | ((first | refine qr ?_ | refine qd (by kernel_rfl) (by kernel_rfl) ?_); simp only [go_sem, reduceEqDiff, reduceIte, reduceAdd, reduceMul, reduceSub, reduceLT, reduceLeDiff, Nat.reduceBEq, g1]) | refine dk (by kernel_rfl) ?_)
    exact Aw_ret (ret0 (.inl rfl) (by simp only [go_sem, reduceEqDiff, reduceIte, reduceAdd, reduceMul, reduceSub, reduceLT, reduceLeDiff, Nat.reduceBEq]; rfl) (by rfl) rfl)
structure BrI (m : Nat) where
  a : Nat
  h1 : 1 ≤ a
  h2 : a ≤ m
def svObj (s : Sve) : Obj := ⟨62, 5, false, [[.d (.s (.string s.letters)), .d (.s (.string s.more)), .d (.s (.string s.first)), .d (.rs 1 (s.rests.map strD)), .d (.s (.int .i64 s.keep))]]⟩
@[go_sem] theorem r_svObj (s : Sve) : svObj s = ⟨62, 5, false, [[.d (.s (.string s.letters)), .d (.s (.string s.more)), .d (.s (.string s.first)), .d (.rs 1 (s.rests.map strD)), .d (.s (.int .i64 s.keep))]]⟩ := rfl
theorem branches_ac {keep : Nat} {ks : List ByteArray} {s : Sve} (h : SvIs keep ks s) {j : Nat} {f : List ByteArray × Nat} (hj : (allF keep ks)[j]? = some f) : AC Tryz.prog 84 [sveP s, iT j] noHp 0 ⟨.tup [iT (offB keep ks j : Nat), iT ((offB keep ks j + (brs f).length : Nat))], noHp, 0⟩ := by
  obtain ⟨z1, z2, z3⟩ := h.sizes
  have hb := h.hb
  have hjl : j < (allF keep ks).length := (List.getElem?_eq_some_iff.1 hj).1
  have hfl := allF_len (keep := keep) h.hf
  have k := one_ac s.first j (by omega) (by omega)
  rw [h.h1] at k
  by_cases hk : ks = []
  · subst hk
    have e1 : oneI (firstL keep []) j = -1 := by rw [firstL_nil]; rfl
    have e2 : offB keep [] j = 0 := by have := off_le keep [] j; rw [allB_nil] at this; simp at this; exact this
    have e3 : (brs f).length = 0 := by
      have := off_le keep [] (j + 1)
      rw [off_next hj, allB_nil] at this
      simp at this; simp; exact this.2
    rw [e1] at k
    rw [e2, e3]
    have g1 : decide ((-1 : Int) < 0) = true := rfl
    refine AC_of Tryz.func84 rfl Tryz.ntmps84 Tryz.results84 (by kernel_rfl) rfl ?_
    simp only [List.zipIdx, List.map, Nat.zero_add, Nat.reduceAdd]
    repeat (first | apply Aw_seq | apply Aw_block | apply Aw_skip | apply Aw_exit | refine Aw_condt rfl ?_ | refine Aw_condf rfl ?_ | ((first | refine qr ?_ | refine qd (by kernel_rfl) (by kernel_rfl) ?_); simp only [go_sem, reduceEqDiff, reduceIte, reduceAdd, reduceMul, reduceSub, reduceLT, reduceLeDiff, Nat.reduceBEq, g1]) | refine dk (by kernel_rfl) ?_ | (refine qp (k) (by simp only [go_sem, reduceEqDiff, reduceIte, reduceAdd, reduceMul, reduceSub, reduceLT, reduceLeDiff, Nat.reduceBEq, g1]; first | done | rfl) rfl (by simp only [go_sem, Nat.reduceLT]) rfl rfl ?_; simp only [go_sem, reduceEqDiff, reduceIte, reduceAdd, reduceMul, reduceSub, reduceLT, reduceLeDiff, Nat.reduceBEq, g1]))
    exact Aw_ret (ret0 (.inl rfl) (by simp only [go_sem, reduceEqDiff, reduceIte, reduceAdd, reduceMul, reduceSub, reduceLT, reduceLeDiff, Nat.reduceBEq]; rfl) (by rfl) rfl)
  · have e1 : oneI (firstL keep ks) j = (offB keep ks j : Nat) := by unfold oneI; rw [first_one h.hf hk, if_pos hjl]; rfl
    rw [e1] at k
    have hlen : offB keep ks j + (brs f).length ≤ (allB keep ks).length := by rw [← off_next hj]; exact off_le _ _ _
    have hpos : 0 < (brs f).length := List.length_pos_iff.2 (allF_ne h.hf hk f (List.mem_of_getElem? hj))
    have hnext := first_next h.hf hk hj
    have hat := fun t ht => first_at hj (t := t) ht
    rw [firstL_len] at hnext
    generalize offB keep ks j = o at *
    generalize (brs f).length = m at *
    have g1 : decide ((o : Int) < 0) = false := decide_eq_false (by omega)
    have g2 : IntKind.i64.wrap ((o : Int) + 1) = ((o + 1 : Nat) : Int) := wn (by omega) (by omega)
    refine AC_of Tryz.func84 rfl Tryz.ntmps84 Tryz.results84 (by kernel_rfl) rfl ?_
    simp only [List.zipIdx, List.map, Nat.zero_add, Nat.reduceAdd]
    repeat (first | apply Aw_seq | apply Aw_block | apply Aw_skip | apply Aw_exit | refine Aw_condt rfl ?_ | refine Aw_condf rfl ?_ | ((first | refine qr ?_ | refine qd (by kernel_rfl) (by kernel_rfl) ?_); simp only [go_sem, reduceEqDiff, reduceIte, reduceAdd, reduceMul, reduceSub, reduceLT, reduceLeDiff, Nat.reduceBEq, g1, g2]) | refine dk (by kernel_rfl) ?_ | (refine qp (k) (by simp only [go_sem, reduceEqDiff, reduceIte, reduceAdd, reduceMul, reduceSub, reduceLT, reduceLeDiff, Nat.reduceBEq, g1, g2]; first | done | rfl) rfl (by simp only [go_sem, Nat.reduceLT]) rfl rfl ?_; simp only [go_sem, reduceEqDiff, reduceIte, reduceAdd, reduceMul, reduceSub, reduceLT, reduceLeDiff, Nat.reduceBEq, g1, g2]))
    refine Aw.rw (rwL (l' := [(7, .t (iT ((o + 1 : Nat) : Int))), (6, .t (iT (o : Nat))), (2, .t (.c (.ph 0 0 0)))]) (os := [some (svObj s)]) (M := [0]) (n' := 1) (by repeat (first | exact trivial | refine ⟨rfl, rfl, ?_⟩)) (by rfl) (by simp only [go_sem, reduceEqDiff, reduceIte, reduceAdd, reduceMul, reduceSub, reduceLT, reduceLeDiff, Nat.reduceBEq]; first | done | rfl) (by decide) (by intro m hm; first | omega | (rcases m with _ | _ | _ | _ | _ | _ | m <;> first | exact ⟨by decide, rfl⟩ | omega))) ?_
    refine Aw_loop_rw (ι := BrI m) (fun q => S [(7, .t (iT ((o + q.a : Nat) : Int))), (6, .t (iT (o : Nat))), (2, .t (.c (.ph 0 0 0)))] (hpL [some (svObj s)]) 1) (fun q => m - q.a) ⟨1, by omega, by omega⟩ ?_
    rintro ⟨a, h1, h2⟩
    dsimp only
    by_cases hlt : a < m
    · obtain ⟨hi, e⟩ := byteL_at h.h1 (hat a hlt)
      rw [if_neg (by omega)] at e
      have h3 : ∀ hp, ixB hp s.first (o + a) = _ := fun hp => ixB_ok hi
      have g3 : decide (((o + a : Nat) : Int) < (s.first.size : Int)) = true := decide_eq_true (by omega)
      have g4 : decide (((s.first[o + a]).toNat : Int) = 48) = true := by rw [e]; rfl
      have w : IntKind.i64.wrap (((o + a : Nat) : Int) + 1) = ((o + (a + 1) : Nat) : Int) := wn (by omega) (by omega)
      repeat (first | apply Aw_seq | apply Aw_block | apply Aw_skip | apply Aw_exit | refine Aw_condt rfl ?_ | refine Aw_condf rfl ?_ | ((first | refine qr ?_ | refine qd (by kernel_rfl) (by kernel_rfl) ?_); simp only [go_sem, reduceEqDiff, reduceIte, reduceAdd, reduceMul, reduceSub, reduceLT, reduceLeDiff, Nat.reduceBEq, g3, g4, w, h3]) | refine dk (by kernel_rfl) ?_)
      refine ⟨⟨a + 1, by omega, by omega⟩, [0], ?_, rwL (by repeat (first | exact trivial | refine ⟨rfl, rfl, ?_⟩)) (by rfl) (by simp only [go_sem, reduceEqDiff, reduceIte, reduceAdd, reduceMul, reduceSub, reduceLT, reduceLeDiff, Nat.reduceBEq]; first | done | rfl) (by decide) (by intro m hm; first | omega | (rcases m with _ | _ | _ | _ | _ | _ | m <;> first | exact ⟨by decide, rfl⟩ | omega))⟩
      show m - (a + 1) < m - a; omega
    · have ea : a = m := by omega
      subst ea
      rcases hnext with hn | hn
      · have g3 : decide (((o + a : Nat) : Int) < (s.first.size : Int)) = false := decide_eq_false (by omega)
        repeat (first | apply Aw_seq | apply Aw_block | apply Aw_skip | apply Aw_exit | refine Aw_condt rfl ?_ | refine Aw_condf rfl ?_ | ((first | refine qr ?_ | refine qd (by kernel_rfl) (by kernel_rfl) ?_); simp only [go_sem, reduceEqDiff, reduceIte, reduceAdd, reduceMul, reduceSub, reduceLT, reduceLeDiff, Nat.reduceBEq, g3]) | refine dk (by kernel_rfl) ?_)
        exact Aw_ret (ret0 (.inl rfl) (by simp only [go_sem, reduceEqDiff, reduceIte, reduceAdd, reduceMul, reduceSub, reduceLT, reduceLeDiff, Nat.reduceBEq]; rfl) (by rfl) rfl)
      · obtain ⟨hi, e⟩ := byteL_at h.h1 hn
        have h3 : ∀ hp, ixB hp s.first (o + a) = _ := fun hp => ixB_ok hi
        have g3 : decide (((o + a : Nat) : Int) < (s.first.size : Int)) = true := decide_eq_true (by omega)
        have g4 : decide (((s.first[o + a]).toNat : Int) = 48) = false := by rw [e]; rfl
        repeat (first | apply Aw_seq | apply Aw_block | apply Aw_skip | apply Aw_exit | refine Aw_condt rfl ?_ | refine Aw_condf rfl ?_ | ((first | refine qr ?_ | refine qd (by kernel_rfl) (by kernel_rfl) ?_); simp only [go_sem, reduceEqDiff, reduceIte, reduceAdd, reduceMul, reduceSub, reduceLT, reduceLeDiff, Nat.reduceBEq, g3, g4, h3]) | refine dk (by kernel_rfl) ?_)
        exact Aw_ret (ret0 (.inl rfl) (by simp only [go_sem, reduceEqDiff, reduceIte, reduceAdd, reduceMul, reduceSub, reduceLT, reduceLeDiff, Nat.reduceBEq]; rfl) (by rfl) rfl)
theorem node_ac {keep : Nat} {ks : List ByteArray} {s : Sve} (h : SvIs keep ks s) {b : Nat} (hb : b < (allB keep ks).length) : AC Tryz.prog 86 [sveP s, iT b] noHp 0 ⟨.t (iT ((((allB keep ks).take (b + 1)).countP bMul : Nat))), noHp, 0⟩ := by
  obtain ⟨z1, z2, z3⟩ := h.sizes
  have hbb := h.hb
  have k := count_ac (s.more.extract 0 (b + 1)) 49
  rw [extract_list, h.hm, ← List.map_take, (count_more _).1] at k
  have w : IntKind.i64.wrap ((b : Int) + 1) = ((b + 1 : Nat) : Int) := wn (by omega) (by omega)
  have g2 : (((b + 1 : Nat) : Int) ≤ (s.more.size : Int)) = True := eq_true (by omega)
  have g3 : ((0 : Int) ≤ ((b + 1 : Nat) : Int)) = True := eq_true (by omega)
  have g4 : Int.toNat ((b + 1 : Nat) : Int) = b + 1 := rfl
  have g5 : Int.toNat 0 = 0 := rfl
  refine AC_of Tryz.func86 rfl Tryz.ntmps86 Tryz.results86 (by kernel_rfl) rfl ?_
  simp only [List.zipIdx, List.map, Nat.zero_add, Nat.reduceAdd]
  repeat (first | apply Aw_seq | apply Aw_block | apply Aw_skip | apply Aw_exit | refine Aw_condt rfl ?_ | refine Aw_condf rfl ?_ | ((first | refine qr ?_ | refine qd (by kernel_rfl) (by kernel_rfl) ?_); simp only [go_sem, reduceEqDiff, reduceIte, reduceAdd, reduceMul, reduceSub, reduceLT, reduceLeDiff, Nat.reduceBEq, w, g2, g3, g4, g5]) | refine dk (by kernel_rfl) ?_ | (refine qp (k) (by simp only [go_sem, reduceEqDiff, reduceIte, reduceAdd, reduceMul, reduceSub, reduceLT, reduceLeDiff, Nat.reduceBEq, w, g2, g3, g4, g5]; first | done | rfl) rfl (by simp only [go_sem, Nat.reduceLT]) rfl rfl ?_; simp only [go_sem, reduceEqDiff, reduceIte, reduceAdd, reduceMul, reduceSub, reduceLT, reduceLeDiff, Nat.reduceBEq, w, g2, g3, g4, g5]))
  exact Aw_ret (ret0 (.inl rfl) (by simp only [go_sem, reduceEqDiff, reduceIte, reduceAdd, reduceMul, reduceSub, reduceLT, reduceLeDiff, Nat.reduceBEq]; rfl) (by rfl) rfl)
theorem rest_ac {keep : Nat} {ks : List ByteArray} {s : Sve} (h : SvIs keep ks s) {b : Nat} {x : Br} (hb : (allB keep ks)[b]? = some x) (hm : bMul x = false) : AC Tryz.prog 88 [sveP s, iT b] noHp 0 ⟨.t (sT (bCut keep x)), noHp, 0⟩ := by
  obtain ⟨z1, z2, z3⟩ := h.sizes
  have hbb := h.hb
  have hbl := (List.getElem?_eq_some_iff.1 hb).1
  have k := count_ac (s.more.extract 0 b) 48
  rw [extract_list, h.hm, ← List.map_take, (count_more _).2] at k
  have hx := rest_at hb hm
  rw [← h.hr] at hx
  generalize ((allB keep ks).take b).countP (fun b => !bMul b) = n at *
  have hl := (List.getElem?_eq_some_iff.1 hx).1
  have g2 : ((b : Int) ≤ (s.more.size : Int)) = True := eq_true (by omega)
  have g3 : ((0 : Int) ≤ (b : Int)) = True := eq_true (by omega)
  have g4 : Int.toNat ((b : Nat) : Int) = b := rfl
  have g5 : Int.toNat 0 = 0 := rfl
  refine AC_of Tryz.func88 rfl Tryz.ntmps88 Tryz.results88 (by kernel_rfl) rfl ?_
  simp only [List.zipIdx, List.map, Nat.zero_add, Nat.reduceAdd]
  repeat (first | apply Aw_seq | apply Aw_block | apply Aw_skip | apply Aw_exit | refine Aw_condt rfl ?_ | refine Aw_condf rfl ?_ | ((first | refine qr ?_ | refine qd (by kernel_rfl) (by kernel_rfl) ?_); simp only [go_sem, reduceEqDiff, reduceIte, reduceAdd, reduceMul, reduceSub, reduceLT, reduceLeDiff, Nat.reduceBEq, g2, g3, g4, g5, hx, hl]) | refine dk (by kernel_rfl) ?_ | (refine qp (k) (by simp only [go_sem, reduceEqDiff, reduceIte, reduceAdd, reduceMul, reduceSub, reduceLT, reduceLeDiff, Nat.reduceBEq, g2, g3, g4, g5, hx, hl]; first | done | rfl) rfl (by simp only [go_sem, Nat.reduceLT]) rfl rfl ?_; simp only [go_sem, reduceEqDiff, reduceIte, reduceAdd, reduceMul, reduceSub, reduceLT, reduceLeDiff, Nat.reduceBEq, g2, g3, g4, g5, hx, hl]))
  exact Aw_ret (ret0 (.inl rfl) (by simp only [go_sem, reduceEqDiff, reduceIte, reduceAdd, reduceMul, reduceSub, reduceLT, reduceLeDiff, Nat.reduceBEq]; rfl) (by rfl) rfl)
theorem complete_ac {keep : Nat} {ks : List ByteArray} {s : Sve} (h : SvIs keep ks s) {b : Nat} {x : Br} (hb : (allB keep ks)[b]? = some x) (hm : bMul x = false) : AC Tryz.prog 87 [sveP s, iT b] noHp 0 ⟨.t (bT (whole keep x)), noHp, 0⟩ := by
  have k := rest_ac h hb hm
  obtain ⟨hi, e⟩ := byteL_at h.hl (i := b) (b := bLet x) (by rw [List.getElem?_map, hb]; rfl)
  have h3 : ∀ hp, ixB hp s.letters b = _ := fun hp => ixB_ok hi
  have g5 : decide (((bCut keep x).size : Int) < s.keep) = decide ((bCut keep x).size < keep) := by rw [h.hk]; exact decide_eq_decide.2 (by omega)
  unfold whole
  by_cases c : bLet x = 45
  · have g4 : decide (((s.letters[b]).toNat : Int) = 45) = true := by rw [e, c]; rfl
    rw [decide_eq_true c, Bool.true_or]
    refine AC_of Tryz.func87 rfl Tryz.ntmps87 Tryz.results87 (by kernel_rfl) rfl ?_
    simp only [List.zipIdx, List.map, Nat.zero_add, Nat.reduceAdd]
    repeat (first | apply Aw_seq | apply Aw_block | apply Aw_skip | apply Aw_exit | refine Aw_condt rfl ?_ | refine Aw_condf rfl ?_ | ((first | refine qr ?_ | refine qd (by kernel_rfl) (by kernel_rfl) ?_); simp only [go_sem, reduceEqDiff, reduceIte, reduceAdd, reduceMul, reduceSub, reduceLT, reduceLeDiff, Nat.reduceBEq, g4, h3]) | refine dk (by kernel_rfl) ?_)
    exact Aw_ret (ret0 (.inl rfl) (by simp only [go_sem, reduceEqDiff, reduceIte, reduceAdd, reduceMul, reduceSub, reduceLT, reduceLeDiff, Nat.reduceBEq]; rfl) (by rfl) rfl)
  · have g4 : decide (((s.letters[b]).toNat : Int) = 45) = false := decide_eq_false (fun h45 => c (by rw [← e]; exact UInt8.toNat_inj.1 (Int.ofNat.inj h45)))
    rw [decide_eq_false c, Bool.false_or]
    refine AC_of Tryz.func87 rfl Tryz.ntmps87 Tryz.results87 (by kernel_rfl) rfl ?_
    simp only [List.zipIdx, List.map, Nat.zero_add, Nat.reduceAdd]
    repeat (first | apply Aw_seq | apply Aw_block | apply Aw_skip | apply Aw_exit | refine Aw_condt rfl ?_ | refine Aw_condf rfl ?_ | ((first | refine qr ?_ | refine qd (by kernel_rfl) (by kernel_rfl) ?_); simp only [go_sem, reduceEqDiff, reduceIte, reduceAdd, reduceMul, reduceSub, reduceLT, reduceLeDiff, Nat.reduceBEq, g4, h3, g5]) | refine dk (by kernel_rfl) ?_ | (refine qp (k) (by simp only [go_sem, reduceEqDiff, reduceIte, reduceAdd, reduceMul, reduceSub, reduceLT, reduceLeDiff, Nat.reduceBEq, g4, h3, g5]; first | done | rfl) rfl (by simp only [go_sem, Nat.reduceLT]) rfl rfl ?_; simp only [go_sem, reduceEqDiff, reduceIte, reduceAdd, reduceMul, reduceSub, reduceLT, reduceLeDiff, Nat.reduceBEq, g4, h3, g5]))
    exact Aw_ret (ret0 (.inl rfl) (by simp only [go_sem, reduceEqDiff, reduceIte, reduceAdd, reduceMul, reduceSub, reduceLT, reduceLeDiff, Nat.reduceBEq]; rfl) (by rfl) rfl)
def hitB (k : ByteArray) (d : Nat) (b : Br) : Bool := decide (bLet b = lab k d)
/-- The branch to which a key leads. -/
def walkT (k : ByteArray) : Nat → List ByteArray × Nat → Option Br
  | 0, _ => none
  | n + 1, f => match (brs f).find? (hitB k f.2) with
    | none => none
    | some b => if bMul b = true then walkT k n (bKid b) else some b
def tailT (k : ByteArray) (d : Nat) : ByteArray := k.extract (min (d + 1) k.size) k.size
def fits (keep : Nat) (k : ByteArray) (b : Br) : Bool := if whole keep b = true then decide (tailT k b.2 = bCut keep b) else begB (tailT k b.2) (bCut keep b)
def hasM (keep : Nat) (ks : List ByteArray) (k : ByteArray) : Bool := match walkT k 6 (ks, 0) with
  | none => false
  | some b => fits keep k b
structure HasI (keep : Nat) (ks : List ByteArray) (k : ByteArray) (R : Option Br) where
  j : Nat
  f : List ByteArray × Nat
  n : Nat
  hj : (allF keep ks)[j]? = some f
  hd : f.2 ≤ k.size
  hn : f.2 + n = 6
  hw : walkT k n f = R
def resH' (keep : Nat) (k : ByteArray) : Option Br → Bool
  | none => false
  | some b => fits keep k b
theorem hasM_res (keep : Nat) (ks : List ByteArray) (k : ByteArray) : hasM keep ks k = resH' keep k (walkT k 6 (ks, 0)) := by unfold hasM resH'; cases walkT k 6 (ks, 0) <;> rfl
theorem allF_fork {keep : Nat} {ks : List ByteArray} (hf : Fork (ks, 0)) : ∀ f ∈ allF keep ks, Fork f := fks_fork _ _ (by simpa using hf)
theorem allF_0 {keep : Nat} {ks : List ByteArray} (hf : Fork (ks, 0)) : (allF keep ks)[0]? = some (ks, 0) := by rw [(sieve_br hf).2.2.2.2]; rfl
theorem findB_hit {α : Type} {p : α → Bool} : ∀ {l : List α} {a : Nat} {x : α}, (∀ t, t < a → ∀ y, l[t]? = some y → p y = false) → l[a]? = some x → p x = true → l.find? p = some x
  | [], a, x, _, h, _ => by simp at h
  | y :: l, 0, x, _, h, hp => by
    simp only [List.getElem?_cons_zero, Option.some.injEq] at h
    subst h
    rw [List.find?_cons_of_pos hp]
  | y :: l, a + 1, x, hno, h, hp => by
    rw [List.find?_cons_of_neg (by rw [hno 0 (by omega) y rfl]; simp)]
    exact findB_hit (a := a) (fun t ht z hz => hno (t + 1) (by omega) z (by simpa using hz)) (by simpa using h) hp
theorem findB_none {α : Type} {p : α → Bool} {l : List α} (hno : ∀ t, t < l.length → ∀ y, l[t]? = some y → p y = false) : l.find? p = none := by
  rw [List.find?_eq_none]
  intro x hx
  obtain ⟨t, ht⟩ := List.mem_iff_getElem?.1 hx
  rw [hno t (List.getElem?_eq_some_iff.1 ht).1 x ht]; simp
theorem bMul_45 {f : List ByteArray × Nat} (hf : Fork f) {b : Br} (hb : b ∈ brs f) (hm : bMul b = true) : bLet b ≠ 45 := by
  obtain ⟨h1, h2, x, r, e, _⟩ := brs_mem hb
  have hx : x ∈ b.1 := by rw [e]; simp
  obtain ⟨hin, hl⟩ := brs_lab hb x hx
  have hk := (bKid_fork hf hb hm).ok x hx
  have e2 : (bKid b).2 = f.2 + 1 := by unfold bKid; rw [h1]
  intro h
  have := (lab_end (hf.ok x hin).1 (hf.ok x hin).2).1 (by rw [hl, h])
  omega
structure BrJ (k : ByteArray) (f : List ByteArray × Nat) where
  a : Nat
  h1 : a ≤ (brs f).length
  h2 : ∀ t, t < a → ∀ x, (brs f)[t]? = some x → hitB k f.2 x = false
theorem has_ac {keep : Nat} {ks : List ByteArray} {s : Sve} (h : SvIs keep ks s) (k : ByteArray) (hk : smK k) : AC Tryz.prog 44 [sveP s, sT k] noHp 0 ⟨.t (bT (hasM keep ks k)), noHp, 0⟩ := by
  rw [hasM_res]
  obtain ⟨R, hR⟩ : ∃ R, R = walkT k 6 (ks, 0) := ⟨_, rfl⟩
  rw [← hR]
  have hbb := h.hb
  refine AC_of Tryz.func44 rfl Tryz.ntmps44 Tryz.results44 (by kernel_rfl) rfl ?_
  simp only [List.zipIdx, List.map, Nat.zero_add, Nat.reduceAdd]
  repeat (first | apply Aw_seq | apply Aw_block | apply Aw_skip | apply Aw_exit | refine Aw_condt rfl ?_ | refine Aw_condf rfl ?_ | ((first | refine qr ?_ | refine qd (by kernel_rfl) (by kernel_rfl) ?_); simp only [go_sem, reduceEqDiff, reduceIte, reduceAdd, reduceMul, reduceSub, reduceLT, reduceLeDiff, Nat.reduceBEq]) | refine dk (by kernel_rfl) ?_)
  refine Aw.rw (rwL (l' := [(6, .t (iT (0 : Nat))), (5, .t (iT (0 : Nat))), (2, .t (.c (.ph 0 0 0))), (1, .t (sT k))]) (os := [some (svObj s)]) (M := [0]) (n' := 1) (by repeat (first | exact trivial | refine ⟨rfl, rfl, ?_⟩)) (by rfl) (by simp only [go_sem, reduceEqDiff, reduceIte, reduceAdd, reduceMul, reduceSub, reduceLT, reduceLeDiff, Nat.reduceBEq]; first | done | rfl) (by decide) (by intro m hm; first | omega | (rcases m with _ | _ | _ | _ | _ | _ | m <;> first | exact ⟨by decide, rfl⟩ | omega))) ?_
  refine Aw_loop_rw (ι := HasI keep ks k R) (fun q => S [(6, .t (iT (q.f.2 : Nat))), (5, .t (iT (q.j : Nat))), (2, .t (.c (.ph 0 0 0))), (1, .t (sT k))] (hpL [some (svObj s)]) 1) (fun q => q.n) ⟨0, (ks, 0), 6, allF_0 h.hf, Nat.zero_le _, rfl, hR.symm⟩ ?_
  clear hR
  rintro ⟨j, f, n, hj, hd, hn, hw⟩
  dsimp only
  have k1 := branches_ac h hj
  have hff := allF_fork h.hf f (List.mem_of_getElem? hj)
  have hlen : offB keep ks j + (brs f).length ≤ (allB keep ks).length := by rw [← off_next hj]; exact off_le _ _ _
  have hbr := fun t ht => br_at hj (t := t) ht
  repeat (first | apply Aw_seq | apply Aw_block | apply Aw_skip | apply Aw_exit | refine Aw_condt rfl ?_ | refine Aw_condf rfl ?_ | ((first | refine qr ?_ | refine qd (by kernel_rfl) (by kernel_rfl) ?_); simp only [go_sem, reduceEqDiff, reduceIte, reduceAdd, reduceMul, reduceSub, reduceLT, reduceLeDiff, Nat.reduceBEq]) | refine dk (by kernel_rfl) ?_ | (refine qp (k1) (by simp only [go_sem, reduceEqDiff, reduceIte, reduceAdd, reduceMul, reduceSub, reduceLT, reduceLeDiff, Nat.reduceBEq]; first | done | rfl) rfl (by simp only [go_sem, Nat.reduceLT]) rfl rfl ?_; simp only [go_sem, reduceEqDiff, reduceIte, reduceAdd, reduceMul, reduceSub, reduceLT, reduceLeDiff, Nat.reduceBEq]))
  have hbm : ∀ x ∈ brs f, x ∈ brs f := fun _ hx => hx
  generalize offB keep ks j = o at *
  refine Aw.rw (rwL (l' := [(9, .t (iT (o : Nat))), (8, .t (iT ((o + (brs f).length : Nat) : Int))), (6, .t (iT (f.2 : Nat))), (5, .t (iT (j : Nat))), (2, .t (.c (.ph 0 0 0))), (1, .t (sT k))]) (os := [some (svObj s)]) (M := [0]) (n' := 1) (by repeat (first | exact trivial | refine ⟨rfl, rfl, ?_⟩)) (by rfl) (by simp only [go_sem, reduceEqDiff, reduceIte, reduceAdd, reduceMul, reduceSub, reduceLT, reduceLeDiff, Nat.reduceBEq]; first | done | rfl) (by decide) (by intro m hm; first | omega | (rcases m with _ | _ | _ | _ | _ | _ | m <;> first | exact ⟨by decide, rfl⟩ | omega))) ?_
  refine Aw_loop_rw (ι := BrJ k f) (fun q => S [(9, .t (iT ((o + q.a : Nat) : Int))), (8, .t (iT ((o + (brs f).length : Nat) : Int))), (6, .t (iT (f.2 : Nat))), (5, .t (iT (j : Nat))), (2, .t (.c (.ph 0 0 0))), (1, .t (sT k))] (hpL [some (svObj s)]) 1) (fun q => (brs f).length - q.a) ⟨0, Nat.zero_le _, fun t ht => absurd ht (by omega)⟩ ?_
  rintro ⟨a, h1, h2⟩
  dsimp only
  have hdep := hff.dep
  obtain ⟨m, rfl⟩ : ∃ m, n = m + 1 := ⟨n - 1, by omega⟩
  by_cases hlt : a < (brs f).length
  · obtain ⟨x, hx⟩ : ∃ x, (brs f)[a]? = some x := ⟨_, List.getElem?_eq_getElem hlt⟩
    have hxm := List.mem_of_getElem? hx
    have hax := hbr a hlt
    rw [hx] at hax
    obtain ⟨x2, x3, y0, r0, x4, _⟩ := brs_mem hxm
    obtain ⟨hi, e⟩ := byteL_at h.hl (i := o + a) (b := bLet x) (by rw [List.getElem?_map, hax]; rfl)
    have h3 : ∀ hp, ixB hp s.letters (o + a) = _ := fun hp => ixB_ok hi
    have g1 : decide (((o + a : Nat) : Int) < ((o + (brs f).length : Nat) : Int)) = true := decide_eq_true (by omega)
    have k2 := label_ac k f.2 hd
    cases c : hitB k f.2 x
    · have g2 : decide (((s.letters[o + a]).toNat : Int) = ((lab k f.2).toNat : Int)) = false := decide_eq_false fun h45 => by
        unfold hitB at c
        exact (of_decide_eq_false c) (by rw [← e]; exact UInt8.toNat_inj.1 (Int.ofNat.inj h45))
      have w : IntKind.i64.wrap (((o + a : Nat) : Int) + 1) = ((o + (a + 1) : Nat) : Int) := wn (by omega) (by omega)
      have nx : ∀ t, t < a + 1 → ∀ y, (brs f)[t]? = some y → hitB k f.2 y = false := fun t ht y hy => by
        rcases Nat.lt_succ_iff_lt_or_eq.1 ht with h | rfl
        · exact h2 t h y hy
        · rw [hx] at hy; rw [← Option.some.inj hy]; exact c
      repeat (first | apply Aw_seq | apply Aw_block | apply Aw_skip | apply Aw_exit | refine Aw_condt rfl ?_ | refine Aw_condf rfl ?_ | ((first | refine qr ?_ | refine qd (by kernel_rfl) (by kernel_rfl) ?_); simp only [go_sem, reduceEqDiff, reduceIte, reduceAdd, reduceMul, reduceSub, reduceLT, reduceLeDiff, Nat.reduceBEq, g1, h3, g2, w]) | refine dk (by kernel_rfl) ?_ | (refine qp (k2) (by simp only [go_sem, reduceEqDiff, reduceIte, reduceAdd, reduceMul, reduceSub, reduceLT, reduceLeDiff, Nat.reduceBEq, g1, h3, g2, w]; first | done | rfl) rfl (by simp only [go_sem, Nat.reduceLT]) rfl rfl ?_; simp only [go_sem, reduceEqDiff, reduceIte, reduceAdd, reduceMul, reduceSub, reduceLT, reduceLeDiff, Nat.reduceBEq, g1, h3, g2, w]))
      refine ⟨⟨a + 1, by omega, nx⟩, [0], ?_, rwL (by repeat (first | exact trivial | refine ⟨rfl, rfl, ?_⟩)) (by rfl) (by simp only [go_sem, reduceEqDiff, reduceIte, reduceAdd, reduceMul, reduceSub, reduceLT, reduceLeDiff, Nat.reduceBEq]; first | done | rfl) (by decide) (by intro m hm; first | omega | (rcases m with _ | _ | _ | _ | _ | _ | m <;> first | exact ⟨by decide, rfl⟩ | omega))⟩
      show (brs f).length - (a + 1) < (brs f).length - a; omega
    · have hfind := findB_hit h2 hx c
      have hlab : bLet x = lab k f.2 := of_decide_eq_true c
      have g2 : decide (((s.letters[o + a]).toNat : Int) = ((lab k f.2).toNat : Int)) = true := by rw [e, hlab]; exact decide_eq_true rfl
      have g3 : decide (((o + a : Nat) : Int) = ((o + (brs f).length : Nat) : Int)) = false := decide_eq_false (by omega)
      obtain ⟨hi2, e2⟩ := byteL_at h.hm (i := o + a) (b := bMore x) (by rw [List.getElem?_map, hax]; rfl)
      have h4 : ∀ hp, ixB hp s.more (o + a) = _ := fun hp => ixB_ok hi2
      simp only [walkT, hfind] at hw
      cases c2 : bMul x
      · have g4 : decide (((s.more[o + a]).toNat : Int) = 49) = false := by rw [e2]; unfold bMore; rw [c2]; rfl
        rw [c2] at hw
        simp only [Bool.false_eq_true, if_false] at hw
        subst hw
        have k3 := complete_ac h hax c2
        have k4 := rest_ac h hax c2
        have w : IntKind.i64.wrap ((f.2 : Int) + 1) = ((f.2 + 1 : Nat) : Int) := wn (by omega) (by omega)
        cases c3 : whole keep x
        · rw [c3] at k3
          have k5 := keyBegins_ac (tailT k f.2) (bCut keep x)
          have hres : resH' keep k (some x) = begB (tailT k f.2) (bCut keep x) := by unfold resH' fits; simp only [c3, x2]; rfl
          rw [hres]
          unfold tailT at k5 ⊢
          repeat (first | apply Aw_seq | apply Aw_block | apply Aw_skip | apply Aw_exit | refine Aw_condt rfl ?_ | refine Aw_condf rfl ?_ | ((first | refine qr ?_ | refine qd (by kernel_rfl) (by kernel_rfl) ?_); simp only [go_sem, reduceEqDiff, reduceIte, reduceAdd, reduceMul, reduceSub, reduceLT, reduceLeDiff, Nat.reduceBEq, g1, h3, g2, g3, h4, g4, w, min_if, min_le]) | refine dk (by kernel_rfl) ?_ | (refine qp (k2) (by simp only [go_sem, reduceEqDiff, reduceIte, reduceAdd, reduceMul, reduceSub, reduceLT, reduceLeDiff, Nat.reduceBEq, g1, h3, g2, g3, h4, g4, w, min_if, min_le]; first | done | rfl) rfl (by simp only [go_sem, Nat.reduceLT]) rfl rfl ?_; simp only [go_sem, reduceEqDiff, reduceIte, reduceAdd, reduceMul, reduceSub, reduceLT, reduceLeDiff, Nat.reduceBEq, g1, h3, g2, g3, h4, g4, w, min_if, min_le]) | (refine qp (k3) (by simp only [go_sem, reduceEqDiff, reduceIte, reduceAdd, reduceMul, reduceSub, reduceLT, reduceLeDiff, Nat.reduceBEq, g1, h3, g2, g3, h4, g4, w, min_if, min_le]; first | done | rfl) rfl (by simp only [go_sem, Nat.reduceLT]) rfl rfl ?_; simp only [go_sem, reduceEqDiff, reduceIte, reduceAdd, reduceMul, reduceSub, reduceLT, reduceLeDiff, Nat.reduceBEq, g1, h3, g2, g3, h4, g4, w, min_if, min_le]) | (refine qp (k4) (by simp only [go_sem, reduceEqDiff, reduceIte, reduceAdd, reduceMul, reduceSub, reduceLT, reduceLeDiff, Nat.reduceBEq, g1, h3, g2, g3, h4, g4, w, min_if, min_le]; first | done | rfl) rfl (by simp only [go_sem, Nat.reduceLT]) rfl rfl ?_; simp only [go_sem, reduceEqDiff, reduceIte, reduceAdd, reduceMul, reduceSub, reduceLT, reduceLeDiff, Nat.reduceBEq, g1, h3, g2, g3, h4, g4, w, min_if, min_le]) | (refine qp (k5) (by simp only [go_sem, reduceEqDiff, reduceIte, reduceAdd, reduceMul, reduceSub, reduceLT, reduceLeDiff, Nat.reduceBEq, g1, h3, g2, g3, h4, g4, w, min_if, min_le]; first | done | rfl) rfl (by simp only [go_sem, Nat.reduceLT]) rfl rfl ?_; simp only [go_sem, reduceEqDiff, reduceIte, reduceAdd, reduceMul, reduceSub, reduceLT, reduceLeDiff, Nat.reduceBEq, g1, h3, g2, g3, h4, g4, w, min_if, min_le]))
          exact Aw_ret (ret0 (.inl rfl) (by simp only [go_sem, reduceEqDiff, reduceIte, reduceAdd, reduceMul, reduceSub, reduceLT, reduceLeDiff, Nat.reduceBEq]; rfl) (by rfl) rfl)
        · rw [c3] at k3
          have hres : resH' keep k (some x) = decide (tailT k f.2 = bCut keep x) := by unfold resH' fits; simp only [c3, x2]; rfl
          rw [hres]
          unfold tailT
          repeat (first | apply Aw_seq | apply Aw_block | apply Aw_skip | apply Aw_exit | refine Aw_condt rfl ?_ | refine Aw_condf rfl ?_ | ((first | refine qr ?_ | refine qd (by kernel_rfl) (by kernel_rfl) ?_); simp only [go_sem, reduceEqDiff, reduceIte, reduceAdd, reduceMul, reduceSub, reduceLT, reduceLeDiff, Nat.reduceBEq, g1, h3, g2, g3, h4, g4, w, min_if, min_le]) | refine dk (by kernel_rfl) ?_ | (refine qp (k2) (by simp only [go_sem, reduceEqDiff, reduceIte, reduceAdd, reduceMul, reduceSub, reduceLT, reduceLeDiff, Nat.reduceBEq, g1, h3, g2, g3, h4, g4, w, min_if, min_le]; first | done | rfl) rfl (by simp only [go_sem, Nat.reduceLT]) rfl rfl ?_; simp only [go_sem, reduceEqDiff, reduceIte, reduceAdd, reduceMul, reduceSub, reduceLT, reduceLeDiff, Nat.reduceBEq, g1, h3, g2, g3, h4, g4, w, min_if, min_le]) | (refine qp (k3) (by simp only [go_sem, reduceEqDiff, reduceIte, reduceAdd, reduceMul, reduceSub, reduceLT, reduceLeDiff, Nat.reduceBEq, g1, h3, g2, g3, h4, g4, w, min_if, min_le]; first | done | rfl) rfl (by simp only [go_sem, Nat.reduceLT]) rfl rfl ?_; simp only [go_sem, reduceEqDiff, reduceIte, reduceAdd, reduceMul, reduceSub, reduceLT, reduceLeDiff, Nat.reduceBEq, g1, h3, g2, g3, h4, g4, w, min_if, min_le]) | (refine qp (k4) (by simp only [go_sem, reduceEqDiff, reduceIte, reduceAdd, reduceMul, reduceSub, reduceLT, reduceLeDiff, Nat.reduceBEq, g1, h3, g2, g3, h4, g4, w, min_if, min_le]; first | done | rfl) rfl (by simp only [go_sem, Nat.reduceLT]) rfl rfl ?_; simp only [go_sem, reduceEqDiff, reduceIte, reduceAdd, reduceMul, reduceSub, reduceLT, reduceLeDiff, Nat.reduceBEq, g1, h3, g2, g3, h4, g4, w, min_if, min_le]))
          exact Aw_ret (ret0 (.inl rfl) (by simp only [go_sem, reduceEqDiff, reduceIte, reduceAdd, reduceMul, reduceSub, reduceLT, reduceLeDiff, Nat.reduceBEq]; rfl) (by rfl) rfl)
      · have g4 : decide (((s.more[o + a]).toNat : Int) = 49) = true := by rw [e2]; unfold bMore; rw [c2]; rfl
        rw [c2] at hw
        simp only [if_true] at hw
        have k3 := node_ac h (b := o + a) (by omega)
        have hk := kid_at h.hf hax c2
        have hsz : k.size ≠ f.2 := fun hh => bMul_45 hff hxm c2 (by rw [hlab]; unfold lab; rw [if_pos hh])
        have w : IntKind.i64.wrap ((f.2 : Int) + 1) = ((f.2 + 1 : Nat) : Int) := wn (by omega) (by omega)
        have e3 : (bKid x).2 = f.2 + 1 := by unfold bKid; rw [x2]
        repeat (first | apply Aw_seq | apply Aw_block | apply Aw_skip | apply Aw_exit | refine Aw_condt rfl ?_ | refine Aw_condf rfl ?_ | ((first | refine qr ?_ | refine qd (by kernel_rfl) (by kernel_rfl) ?_); simp only [go_sem, reduceEqDiff, reduceIte, reduceAdd, reduceMul, reduceSub, reduceLT, reduceLeDiff, Nat.reduceBEq, g1, h3, g2, g3, h4, g4, w]) | refine dk (by kernel_rfl) ?_ | (refine qp (k2) (by simp only [go_sem, reduceEqDiff, reduceIte, reduceAdd, reduceMul, reduceSub, reduceLT, reduceLeDiff, Nat.reduceBEq, g1, h3, g2, g3, h4, g4, w]; first | done | rfl) rfl (by simp only [go_sem, Nat.reduceLT]) rfl rfl ?_; simp only [go_sem, reduceEqDiff, reduceIte, reduceAdd, reduceMul, reduceSub, reduceLT, reduceLeDiff, Nat.reduceBEq, g1, h3, g2, g3, h4, g4, w]) | (refine qp (k3) (by simp only [go_sem, reduceEqDiff, reduceIte, reduceAdd, reduceMul, reduceSub, reduceLT, reduceLeDiff, Nat.reduceBEq, g1, h3, g2, g3, h4, g4, w]; first | done | rfl) rfl (by simp only [go_sem, Nat.reduceLT]) rfl rfl ?_; simp only [go_sem, reduceEqDiff, reduceIte, reduceAdd, reduceMul, reduceSub, reduceLT, reduceLeDiff, Nat.reduceBEq, g1, h3, g2, g3, h4, g4, w]))
        refine ⟨⟨((allB keep ks).take (o + a + 1)).countP bMul, bKid x, m, hk, by omega, by omega, hw⟩, [0], ?_, ?_⟩
        rotate_left
        dsimp only
        rw [e3]
        exact rwL (by repeat (first | exact trivial | refine ⟨rfl, rfl, ?_⟩)) (by rfl) (by simp only [go_sem, reduceEqDiff, reduceIte, reduceAdd, reduceMul, reduceSub, reduceLT, reduceLeDiff, Nat.reduceBEq]; first | done | rfl) (by decide) (by intro m hm; first | omega | (rcases m with _ | _ | _ | _ | _ | _ | m <;> first | exact ⟨by decide, rfl⟩ | omega))
        show m < m + 1; omega
  · have ea : a = (brs f).length := by omega
    subst ea
    have hfind : (brs f).find? (hitB k f.2) = none := findB_none h2
    simp only [walkT, hfind] at hw
    subst hw
    have g1 : decide (((o + (brs f).length : Nat) : Int) < ((o + (brs f).length : Nat) : Int)) = false := decide_eq_false (by omega)
    have g3 : decide (((o + (brs f).length : Nat) : Int) = ((o + (brs f).length : Nat) : Int)) = true := decide_eq_true rfl
    repeat (first | apply Aw_seq | apply Aw_block | apply Aw_skip | apply Aw_exit | refine Aw_condt rfl ?_ | refine Aw_condf rfl ?_ | ((first | refine qr ?_ | refine qd (by kernel_rfl) (by kernel_rfl) ?_); simp only [go_sem, reduceEqDiff, reduceIte, reduceAdd, reduceMul, reduceSub, reduceLT, reduceLeDiff, Nat.reduceBEq, g1, g3]) | refine dk (by kernel_rfl) ?_)
    exact Aw_ret (ret0 (.inl rfl) (by simp only [go_sem, reduceEqDiff, reduceIte, reduceAdd, reduceMul, reduceSub, reduceLT, reduceLeDiff, Nat.reduceBEq]; rfl) (by rfl) rfl)
theorem one_off {keep : Nat} {ks : List ByteArray} (hf : Fork (ks, 0)) (n : Nat) : oneN (firstL keep ks) n = offB keep ks n := by
  unfold oneN
  by_cases hk : ks = []
  · subst hk
    have e := off_le keep [] n
    rw [allB_nil] at e
    simp only [List.length_nil, Nat.le_zero_eq] at e
    rw [firstL_nil, e]; rfl
  · rw [first_one hf hk]
    by_cases c : n < (allF keep ks).length
    · rw [if_pos c]; rfl
    · rw [if_neg c, firstL_len]; exact (off_all (by omega)).symm
theorem first_ac {keep : Nat} {ks : List ByteArray} {s : Sve} (h : SvIs keep ks s) {n : Nat} (hn : n ≤ 1000) : AC Tryz.prog 65 [sT s.first, iT n] noHp 0 ⟨.t (iT (offB keep ks n : Nat)), noHp, 0⟩ := by
  obtain ⟨z1, z2, z3⟩ := h.sizes
  have hb := h.hb
  have k := sone_ac s.first n (by omega) hn
  rw [h.h1, one_off h.hf] at k
  exact k
theorem more_ac {keep : Nat} {ks : List ByteArray} {s : Sve} (h : SvIs keep ks s) {b : Nat} (hb : b ≤ (allB keep ks).length) : AC Tryz.prog 91 [sT s.more, iT b] noHp 0 ⟨.t (iT (((allB keep ks).take b).countP bMul : Nat)), noHp, 0⟩ := by
  obtain ⟨z1, z2, z3⟩ := h.sizes
  have hbb := h.hb
  have k := ones_ac s.more b (by omega) (by omega)
  rw [h.hm, show cntO ((allB keep ks).map bMore) b = _ from count_ones _ _] at k
  exact k
theorem kids_ac {keep : Nat} {ks : List ByteArray} {s : Sve} (h : SvIs keep ks s) {b : Nat} (hb : b < (allB keep ks).length) : AC Tryz.prog 106 [sveP s, iT b] noHp 0 ⟨.tup [iT (offB keep ks (((allB keep ks).take (b + 1)).countP bMul) : Nat), iT (offB keep ks (((allB keep ks).take (b + 1)).countP bMul + 1) : Nat)], noHp, 0⟩ := by
  have hbb := h.hb
  have k1 := more_ac h (b := b + 1) (by omega)
  have hle := List.countP_le_length (p := bMul) (l := (allB keep ks).take (b + 1))
  rw [List.length_take] at hle
  generalize ((allB keep ks).take (b + 1)).countP bMul = m at *
  have k2 := first_ac h (n := m) (by omega)
  have k3 := first_ac h (n := m + 1) (by omega)
  have w1 : IntKind.i64.wrap ((b : Int) + 1) = ((b + 1 : Nat) : Int) := wn (by omega) (by omega)
  have w2 : IntKind.i64.wrap ((m : Int) + 1) = ((m + 1 : Nat) : Int) := wn (by omega) (by omega)
  refine AC_of Tryz.func106 rfl Tryz.ntmps106 Tryz.results106 (by kernel_rfl) rfl ?_
  simp only [List.zipIdx, List.map, Nat.zero_add, Nat.reduceAdd]
  repeat (first | apply Aw_seq | apply Aw_block | apply Aw_skip | apply Aw_exit | refine Aw_condt rfl ?_ | refine Aw_condf rfl ?_ | ((first | refine qr ?_ | refine qd (by kernel_rfl) (by kernel_rfl) ?_); simp only [go_sem, reduceEqDiff, reduceIte, reduceAdd, reduceMul, reduceSub, reduceLT, reduceLeDiff, Nat.reduceBEq, w1, w2]) | refine dk (by kernel_rfl) ?_ | (refine qp (k1) (by simp only [go_sem, reduceEqDiff, reduceIte, reduceAdd, reduceMul, reduceSub, reduceLT, reduceLeDiff, Nat.reduceBEq, w1, w2]; first | done | rfl) rfl (by simp only [go_sem, Nat.reduceLT]) rfl rfl ?_; simp only [go_sem, reduceEqDiff, reduceIte, reduceAdd, reduceMul, reduceSub, reduceLT, reduceLeDiff, Nat.reduceBEq, w1, w2]) | (refine qp (k2) (by simp only [go_sem, reduceEqDiff, reduceIte, reduceAdd, reduceMul, reduceSub, reduceLT, reduceLeDiff, Nat.reduceBEq, w1, w2]; first | done | rfl) rfl (by simp only [go_sem, Nat.reduceLT]) rfl rfl ?_; simp only [go_sem, reduceEqDiff, reduceIte, reduceAdd, reduceMul, reduceSub, reduceLT, reduceLeDiff, Nat.reduceBEq, w1, w2]) | (refine qp (k3) (by simp only [go_sem, reduceEqDiff, reduceIte, reduceAdd, reduceMul, reduceSub, reduceLT, reduceLeDiff, Nat.reduceBEq, w1, w2]; first | done | rfl) rfl (by simp only [go_sem, Nat.reduceLT]) rfl rfl ?_; simp only [go_sem, reduceEqDiff, reduceIte, reduceAdd, reduceMul, reduceSub, reduceLT, reduceLeDiff, Nat.reduceBEq, w1, w2]))
  exact Aw_ret (ret0 (.inl rfl) (by simp only [go_sem, reduceEqDiff, reduceIte, reduceAdd, reduceMul, reduceSub, reduceLT, reduceLeDiff, Nat.reduceBEq]; rfl) (by rfl) rfl)
/-- What is kept of the keys of the first branches. -/
def accB (keep n : Nat) (way : ByteArray) (f : List ByteArray × Nat) (a : Nat) : List ByteArray := (((brs f).take a).map (hdsB keep n way)).flatten
theorem accB_succ {keep n : Nat} {way : ByteArray} {f : List ByteArray × Nat} {a : Nat} {x : Br} (h : (brs f)[a]? = some x) : accB keep n way f (a + 1) = accB keep n way f a ++ hdsB keep n way x := by
  unfold accB
  rw [List.take_add_one, h, List.map_append, List.flatten_append]; simp
theorem accB_all (keep n : Nat) (way : ByteArray) (f : List ByteArray × Nat) : accB keep n way f (brs f).length = (partsM keep (n + 1) way f).map Prod.fst := by
  unfold accB; rw [List.take_length, parts_hds]
theorem accB_len {keep n : Nat} {way : ByteArray} {f : List ByteArray × Nat} (hf : Fork f) (hn : 6 ≤ f.2 + (n + 1)) (a : Nat) : (accB keep n way f a).length ≤ f.1.length := by
  have e := parts_len (keep := keep) (n + 1) (way := way) hf hn
  rw [← List.length_map (f := Prod.fst), parts_hds, ← List.take_append_drop a (brs f), List.map_append, List.flatten_append, List.length_append] at e
  unfold accB
  omega
def accL (L : List ByteArray) (keep n : Nat) (way : ByteArray) (f : List ByteArray × Nat) (a : Nat) : List ByteArray := L ++ accB keep n way f a
theorem accL_0 (L : List ByteArray) (keep n : Nat) (way : ByteArray) (f : List ByteArray × Nat) : accL L keep n way f 0 = L := List.append_nil L
theorem accL_succ {L : List ByteArray} {keep n : Nat} {way : ByteArray} {f : List ByteArray × Nat} {a : Nat} {x : Br} (h : (brs f)[a]? = some x) : accL L keep n way f (a + 1) = accL L keep n way f a ++ hdsB keep n way x := by
  unfold accL; rw [accB_succ h, List.append_assoc]
structure AddI (f : List ByteArray × Nat) where
  a : Nat
  h : a ≤ (brs f).length
theorem l3Add_ac {keep : Nat} {ks : List ByteArray} {s : Sve} (h : SvIs keep ks s) : ∀ (n : Nat) (way : ByteArray) (f : List ByteArray × Nat) (j : Nat) (L : List ByteArray), (allF keep ks)[j]? = some f → Fork f → WayOk way f → f.2 + n = 6 → L.length + f.1.length ≤ 1000 →
    AC Tryz.prog 105 [sveP s, iT (offB keep ks j : Nat), iT (offB keep ks (j + 1) : Nat), sT way, .c (.h 0)] (hpL [some (kRow L)]) 1 ⟨.t (.c (.h 1)), hpL [none, some (kRow (L ++ (partsM keep n way f).map Prod.fst))], 2⟩
  | 0, way, f, j, L, hj, hf, hw, hn, hl => by have := hf.dep; omega
  | n + 1, way, f, j, L, hj, hf, hw, hn, hl => by
    have ih := l3Add_ac h n
    have hdep := hf.dep
    have hbb := h.hb
    have hway : way.size = f.2 := by rw [size_l, hw.len]
    obtain ⟨z1, z2, z3⟩ := h.sizes
    have hlen : offB keep ks j + (brs f).length ≤ (allB keep ks).length := by rw [← off_next hj]; exact off_le _ _ _
    have hbr := fun t ht => br_at hj (t := t) ht
    have hkid := fun t x hx hm => off_kid h.hf hj (t := t) (x := x) hx hm
    have hacc := accB_len (keep := keep) (n := n) (way := way) hf (by omega)
    rw [off_next hj, ← accB_all]
    have e9 : L ++ accB keep n way f (brs f).length = accL L keep n way f (brs f).length := rfl
    rw [e9]
    generalize offB keep ks j = o at *
    have d5 : decide ((way.size : Int) ≤ 5) = true := decide_eq_true (by omega)
    refine AC_of Tryz.func105 rfl Tryz.ntmps105 Tryz.results105 (by kernel_rfl) rfl ?_
    simp only [List.zipIdx, List.map, Nat.zero_add, Nat.reduceAdd]
    repeat (first | apply Aw_seq | apply Aw_block | apply Aw_skip | apply Aw_exit | refine Aw_condt rfl ?_ | refine Aw_condf rfl ?_ | ((first | refine qr ?_ | refine qd (by kernel_rfl) (by kernel_rfl) ?_); simp only [go_sem, reduceEqDiff, reduceIte, reduceAdd, reduceMul, reduceSub, reduceLT, reduceLeDiff, Nat.reduceBEq]) | refine dk (by kernel_rfl) ?_)
    refine Aw.rw (rwL (l' := [(11, .t (iT ((o + 0 : Nat) : Int))), (5, .t (.c (.ph 1 0 0))), (4, .t (.c (.h 2))), (3, .t (sT way)), (2, .t (iT ((o + (brs f).length : Nat) : Int)))]) (os := [none, some (svObj s), some (kRow (accL L keep n way f 0))]) (M := [0, 1, 0]) (n' := 3) (by repeat (first | exact trivial | refine ⟨rfl, rfl, ?_⟩)) (by rfl) (by simp only [go_sem, reduceEqDiff, reduceIte, reduceAdd, reduceMul, reduceSub, reduceLT, reduceLeDiff, Nat.reduceBEq, accL_0]; first | done | rfl) (by decide) (by intro m hm; first | omega | (rcases m with _ | _ | _ | _ | _ | _ | m <;> first | exact ⟨by decide, rfl⟩ | omega))) ?_
    refine Aw_loop_rw (ι := AddI f) (fun q => S [(11, .t (iT ((o + q.a : Nat) : Int))), (5, .t (.c (.ph 1 0 0))), (4, .t (.c (.h 2))), (3, .t (sT way)), (2, .t (iT ((o + (brs f).length : Nat) : Int)))] (hpL [none, some (svObj s), some (kRow (accL L keep n way f q.a))]) 3) (fun q => (brs f).length - q.a) ⟨0, Nat.zero_le _⟩ ?_
    rintro ⟨a, ha⟩
    dsimp only
    by_cases hlt : a < (brs f).length
    · obtain ⟨x, hx⟩ : ∃ x, (brs f)[a]? = some x := ⟨_, List.getElem?_eq_getElem hlt⟩
      have hxm := List.mem_of_getElem? hx
      have hax := hbr a hlt
      rw [hx] at hax
      obtain ⟨x2, x3, y0, r0, x4, _⟩ := brs_mem hxm
      obtain ⟨hi, e⟩ := byteL_at h.hl (i := o + a) (b := bLet x) (by rw [List.getElem?_map, hax]; rfl)
      obtain ⟨hi2, e2⟩ := byteL_at h.hm (i := o + a) (b := bMore x) (by rw [List.getElem?_map, hax]; rfl)
      have h3 : ∀ hp, ixB hp s.letters (o + a) = _ := fun hp => ixB_ok hi
      have h4 : ∀ hp, ixB hp s.more (o + a) = _ := fun hp => ixB_ok hi2
      have hext := ext_at e
      have g1 : decide (((o + a : Nat) : Int) < ((o + (brs f).length : Nat) : Int)) = true := decide_eq_true (by omega)
      have g2 : decide (((o + a : Nat) : Int) < (s.letters.size : Int)) = true := decide_eq_true (by omega)
      have w : IntKind.i64.wrap (((o + a : Nat) : Int) + 1) = ((o + a + 1 : Nat) : Int) := wn (by omega) (by omega)
      have s1 : (((o + a : Nat) : Int) ≤ ((o + a + 1 : Nat) : Int)) = True := eq_true (by omega)
      have s2 : (((o + a + 1 : Nat) : Int) ≤ (s.letters.size : Int)) = True := eq_true (by omega)
      have hsucc := accL_succ (L := L) (keep := keep) (n := n) (way := way) hx
      have hsc := accB_succ (keep := keep) (n := n) (way := way) hx
      have hll : (accL L keep n way f a).length = L.length + (accB keep n way f a).length := by unfold accL; rw [List.length_append]
      have hl1 := hacc (a + 1)
      have hl0 := hacc a
      have q1 : (way.size + 1 ≤ 9223372036854775807) = True := eq_true (by omega)
      have hsz : (stepW way x).size ≤ 6 := by
        unfold stepW; split
        · omega
        · rw [size_l, app_l, List.length_append, bs_l, ← size_l]; simp; omega
      repeat (first | apply Aw_seq | apply Aw_block | apply Aw_skip | apply Aw_exit | refine Aw_condt rfl ?_ | refine Aw_condf rfl ?_ | ((first | refine qr ?_ | refine qd (by kernel_rfl) (by kernel_rfl) ?_); simp only [go_sem, reduceEqDiff, reduceIte, reduceAdd, reduceMul, reduceSub, reduceLT, reduceLeDiff, Nat.reduceBEq, g1, g2, d5, h3]) | refine dk (by kernel_rfl) ?_)
      obtain ⟨W, hW⟩ : ∃ W, W = stepW way x := ⟨_, rfl⟩
      refine cut_seq (J := fun (_ : Unit) => S [(12, .t (sT W)), (11, .t (iT ((o + a : Nat) : Int))), (5, .t (.c (.ph 1 0 0))), (4, .t (.c (.h 2))), (3, .t (sT way)), (2, .t (iT ((o + (brs f).length : Nat) : Int)))] (hpL [none, some (svObj s), some (kRow (accL L keep n way f a))]) 3) ?_ ?_
      · by_cases c : bLet x = 45
        · have g4 : decide (((s.letters[o + a]).toNat : Int) = 45) = true := by rw [e, c]; rfl
          have hst : stepW way x = way := by unfold stepW; rw [if_pos c]
          rw [g4]
          rw [hst] at hW
          subst hW
          repeat (first | apply Aw_seq | apply Aw_block | apply Aw_skip | apply Aw_exit | refine Aw_condt rfl ?_ | refine Aw_condf rfl ?_ | ((first | refine qr ?_ | refine qd (by kernel_rfl) (by kernel_rfl) ?_); simp only [go_sem, reduceEqDiff, reduceIte, reduceAdd, reduceMul, reduceSub, reduceLT, reduceLeDiff, Nat.reduceBEq, g4]) | refine dk (by kernel_rfl) ?_)
          refine ⟨rfl, ?_⟩
          exact ⟨(), [0, 1, 2], rwL (by repeat (first | exact trivial | refine ⟨rfl, rfl, ?_⟩)) (by rfl) (by simp only [go_sem, reduceEqDiff, reduceIte, reduceAdd, reduceMul, reduceSub, reduceLT, reduceLeDiff, Nat.reduceBEq]; first | done | rfl) (by decide) (by intro m hm; first | omega | (rcases m with _ | _ | _ | _ | _ | _ | m <;> first | exact ⟨by decide, rfl⟩ | omega))⟩
        · have g4 : decide (((s.letters[o + a]).toNat : Int) = 45) = false := decide_eq_false (fun h45 => c (by rw [← e]; exact UInt8.toNat_inj.1 (Int.ofNat.inj h45)))
          have hst : stepW way x = way ++ bs [bLet x] := by unfold stepW; rw [if_neg c]
          rw [hst] at hW
          subst hW
          rw [g4]
          repeat (first | apply Aw_seq | apply Aw_block | apply Aw_skip | apply Aw_exit | refine Aw_condt rfl ?_ | refine Aw_condf rfl ?_ | ((first | refine qr ?_ | refine qd (by kernel_rfl) (by kernel_rfl) ?_); simp only [go_sem, reduceEqDiff, reduceIte, reduceAdd, reduceMul, reduceSub, reduceLT, reduceLeDiff, Nat.reduceBEq, g4, h3, w, s1, s2, hext, q1]) | refine dk (by kernel_rfl) ?_)
          exact ⟨(), [0, 1, 2], rwL (by repeat (first | exact trivial | refine ⟨rfl, rfl, ?_⟩)) (by rfl) (by simp only [go_sem, reduceEqDiff, reduceIte, reduceAdd, reduceMul, reduceSub, reduceLT, reduceLeDiff, Nat.reduceBEq]; first | done | rfl) (by decide) (by intro m hm; first | omega | (rcases m with _ | _ | _ | _ | _ | _ | m <;> first | exact ⟨by decide, rfl⟩ | omega))⟩
      intro _
      subst hW
      cases c2 : bMul x
      · have g4 : decide (((s.more[o + a]).toNat : Int) = 49) = false := by rw [e2]; unfold bMore; rw [c2]; rfl
        have k1 := more_ac h (b := o + a) (by omega)
        have hno := not_ones (allB keep ks) (o + a) (by omega)
        have hr := rest_at hax c2
        rw [← h.hr] at hr
        generalize ((allB keep ks).take (o + a)).countP bMul = m1 at *
        generalize ((allB keep ks).take (o + a)).countP (fun b => !bMul b) = m2 at *
        have w3 : IntKind.i64.wrap (((o + a : Nat) : Int) - (m1 : Int)) = (m2 : Int) := wn (by omega) (by omega)
        have hrl := (List.getElem?_eq_some_iff.1 hr).1
        have g5 : decide ((m2 : Int) < (s.rests.length : Int)) = true := decide_eq_true (by omega)
        have hh : hdsB keep n way x = [stepW way x ++ bCut keep x] := by unfold hdsB; rw [c2]; rfl
        rw [hh] at hsucc
        have hcs : (bCut keep x).size ≤ 5 := by
          unfold bCut; rw [size_l, cut_l, List.length_take]; have := h.kp; omega
        have q2 : ((stepW way x).size + (bCut keep x).size ≤ 9223372036854775807) = True := eq_true (by omega)
        have q3 : (((accL L keep n way f a).length + 1) * 16 ≤ 140737488355328) = True := eq_true (by omega)
        repeat (first | apply Aw_seq | apply Aw_block | apply Aw_skip | apply Aw_exit | refine Aw_condt rfl ?_ | refine Aw_condf rfl ?_ | ((first | refine qr ?_ | refine qd (by kernel_rfl) (by kernel_rfl) ?_); simp only [go_sem, reduceEqDiff, reduceIte, reduceAdd, reduceMul, reduceSub, reduceLT, reduceLeDiff, Nat.reduceBEq, g4, h4, w3, g5, hr, hrl, q2, q3, w]) | refine dk (by kernel_rfl) ?_ | (refine qp (k1) (by simp only [go_sem, reduceEqDiff, reduceIte, reduceAdd, reduceMul, reduceSub, reduceLT, reduceLeDiff, Nat.reduceBEq, g4, h4, w3, g5, hr, hrl, q2, q3, w]; first | done | rfl) rfl (by simp only [go_sem, Nat.reduceLT]) rfl rfl ?_; simp only [go_sem, reduceEqDiff, reduceIte, reduceAdd, reduceMul, reduceSub, reduceLT, reduceLeDiff, Nat.reduceBEq, g4, h4, w3, g5, hr, hrl, q2, q3, w]))
        refine ⟨⟨a + 1, by omega⟩, [0, 1, 28], ?_, rwL (by repeat (first | exact trivial | refine ⟨rfl, rfl, ?_⟩)) (by rfl) (by simp only [go_sem, reduceEqDiff, reduceIte, reduceAdd, reduceMul, reduceSub, reduceLT, reduceLeDiff, Nat.reduceBEq, hsucc, List.map_append, List.map_cons, List.map_nil]; first | done | rfl) (by decide) (by intro m hm; first | omega | (rcases m with _ | _ | _ | _ | _ | _ | m <;> first | exact ⟨by decide, rfl⟩ | omega))⟩
        show (brs f).length - (a + 1) < (brs f).length - a; omega
      · have g4 : decide (((s.more[o + a]).toNat : Int) = 49) = true := by rw [e2]; unfold bMore; rw [c2]; rfl
        have k1 := kids_ac h (b := o + a) (by omega)
        have hk := kid_at h.hf hax c2
        have ha1 := hkid a x hx c2
        have hle : (accB keep n way f a).length + (bKid x).1.length ≤ f.1.length := by
          rw [hsc, List.length_append, hdsB_len hf (by omega) hxm] at hl1
          exact hl1
        have k2 := ih (stepW way x) (bKid x) _ (accL L keep n way f a) hk (bKid_fork hf hxm c2) (way_kid hf hw hxm c2) (by show x.2 + 1 + n = 6; omega) (by omega)
        have hh : hdsB keep n way x = (partsM keep n (stepW way x) (bKid x)).map Prod.fst := by unfold hdsB; rw [c2]; rfl
        rw [← hh, ← hsucc] at k2
        generalize ((allB keep ks).take (o + a + 1)).countP bMul = m at *
        have g5 : decide (((offB keep ks m : Nat) : Int) ≤ ((o + a : Nat) : Int)) = false := decide_eq_false (by omega)
        repeat (first | apply Aw_seq | apply Aw_block | apply Aw_skip | apply Aw_exit | refine Aw_condt rfl ?_ | refine Aw_condf rfl ?_ | ((first | refine qr ?_ | refine qd (by kernel_rfl) (by kernel_rfl) ?_); simp only [go_sem, reduceEqDiff, reduceIte, reduceAdd, reduceMul, reduceSub, reduceLT, reduceLeDiff, Nat.reduceBEq, g4, h4, g5, w]) | refine dk (by kernel_rfl) ?_ | (refine qp (k1) (by simp only [go_sem, reduceEqDiff, reduceIte, reduceAdd, reduceMul, reduceSub, reduceLT, reduceLeDiff, Nat.reduceBEq, g4, h4, g5, w]; first | done | rfl) rfl (by simp only [go_sem, Nat.reduceLT]) rfl rfl ?_; simp only [go_sem, reduceEqDiff, reduceIte, reduceAdd, reduceMul, reduceSub, reduceLT, reduceLeDiff, Nat.reduceBEq, g4, h4, g5, w]) | (refine qx (call_L (N' := [2]) (L := []) (k2) rfl (.cons (.nm rfl) (.cons (.nm rfl) (.cons (.nm rfl) (.cons (.nm rfl) (.cons (.nm rfl) (.nil)))))) (by decide) (by decide) (by decide) (by simp only [go_sem, reduceEqDiff, reduceIte, reduceAdd, reduceMul, reduceSub, reduceLT, reduceLeDiff, Nat.reduceBEq, g4, h4, g5, w]; first | done | rfl) (.inl rfl) rfl (by decide)) (by simp only [go_sem, reduceEqDiff, reduceIte, reduceAdd, reduceMul, reduceSub, reduceLT, reduceLeDiff, Nat.reduceBEq, g4, h4, g5, w]; first | done | rfl) rfl (by simp only [go_sem, Nat.reduceLT]) ?_; simp only [go_sem, reduceEqDiff, reduceIte, reduceAdd, reduceMul, reduceSub, reduceLT, reduceLeDiff, Nat.reduceBEq, g4, h4, g5, w]))
        refine ⟨⟨a + 1, by omega⟩, [0, 1, 23], ?_, rwL (by repeat (first | exact trivial | refine ⟨rfl, rfl, ?_⟩)) (by rfl) (by simp only [go_sem, reduceEqDiff, reduceIte, reduceAdd, reduceMul, reduceSub, reduceLT, reduceLeDiff, Nat.reduceBEq]; first | done | rfl) (by decide) (by intro m hm; first | omega | (rcases m with _ | _ | _ | _ | _ | _ | m <;> first | exact ⟨by decide, rfl⟩ | omega))⟩
        show (brs f).length - (a + 1) < (brs f).length - a; omega
    · have ea : a = (brs f).length := by omega
      subst ea
      have g1 : decide (((o + (brs f).length : Nat) : Int) < ((o + (brs f).length : Nat) : Int)) = false := decide_eq_false (by omega)
      repeat (first | apply Aw_seq | apply Aw_block | apply Aw_skip | apply Aw_exit | refine Aw_condt rfl ?_ | refine Aw_condf rfl ?_ | ((first | refine qr ?_ | refine qd (by kernel_rfl) (by kernel_rfl) ?_); simp only [go_sem, reduceEqDiff, reduceIte, reduceAdd, reduceMul, reduceSub, reduceLT, reduceLeDiff, Nat.reduceBEq, g1]) | refine dk (by kernel_rfl) ?_)
      exact Aw_ret (retL (M := [0, 2]) (.inl rfl) (by simp only [go_sem, reduceEqDiff, reduceIte, reduceAdd, reduceMul, reduceSub, reduceLT, reduceLeDiff, Nat.reduceBEq]; first | done | rfl) rfl rfl (by rfl) (by simp only [go_sem, reduceEqDiff, reduceIte, reduceAdd, reduceMul, reduceSub, reduceLT, reduceLeDiff, Nat.reduceBEq]; first | done | rfl | (and_intros <;> rfl)) (by decide) (by intro m hm; first | omega | (rcases m with _ | _ | _ | _ | _ | _ | m <;> first | exact ⟨by decide, rfl⟩ | omega)))
/-- What is kept of all keys. -/
theorem l3Heads_own {keep : Nat} {ks : List ByteArray} {s : Sve} (h : SvIs keep ks s) (hk : ks.length ≤ 1000) : AC Tryz.prog 62 [sveP s] noHp 0 ⟨.t (.c (.h 0)), hpL [some (kRow (headsM keep ks))], 1⟩ := by
  have k1 := first_ac h (n := 1) (by omega)
  have k2 := l3Add_ac h 6 zs (ks, 0) 0 [] (allF_0 h.hf) h.hf (way_0 ks) rfl (by simpa using hk)
  have e0 : offB keep ks 0 = 0 := rfl
  rw [e0, List.nil_append, Nat.zero_add] at k2
  unfold headsM
  generalize offB keep ks 1 = m at *
  refine AC_of Tryz.func62 rfl Tryz.ntmps62 Tryz.results62 (by kernel_rfl) rfl ?_
  simp only [List.zipIdx, List.map, Nat.zero_add, Nat.reduceAdd]
  repeat (first | apply Aw_seq | apply Aw_block | apply Aw_skip | apply Aw_exit | refine Aw_condt rfl ?_ | refine Aw_condf rfl ?_ | ((first | refine qr ?_ | refine qd (by kernel_rfl) (by kernel_rfl) ?_); simp only [go_sem, reduceEqDiff, reduceIte, reduceAdd, reduceMul, reduceSub, reduceLT, reduceLeDiff, Nat.reduceBEq]) | refine dk (by kernel_rfl) ?_ | (refine qp (k1) (by simp only [go_sem, reduceEqDiff, reduceIte, reduceAdd, reduceMul, reduceSub, reduceLT, reduceLeDiff, Nat.reduceBEq]; first | done | rfl) rfl (by simp only [go_sem, Nat.reduceLT]) rfl rfl ?_; simp only [go_sem, reduceEqDiff, reduceIte, reduceAdd, reduceMul, reduceSub, reduceLT, reduceLeDiff, Nat.reduceBEq]) | (refine qx (call_L (N' := [5]) (L := []) (k2) rfl (.cons (.nm rfl) (.cons (.nm rfl) (.cons (.nm rfl) (.cons (.nm rfl) (.cons (.nm rfl) (.nil)))))) (by decide) (by decide) (by decide) (by simp only [go_sem, reduceEqDiff, reduceIte, reduceAdd, reduceMul, reduceSub, reduceLT, reduceLeDiff, Nat.reduceBEq]; first | done | rfl) (.inl rfl) rfl (by decide)) (by simp only [go_sem, reduceEqDiff, reduceIte, reduceAdd, reduceMul, reduceSub, reduceLT, reduceLeDiff, Nat.reduceBEq]; first | done | rfl) rfl (by simp only [go_sem, Nat.reduceLT]) ?_; simp only [go_sem, reduceEqDiff, reduceIte, reduceAdd, reduceMul, reduceSub, reduceLT, reduceLeDiff, Nat.reduceBEq]))
  exact Aw_ret (retL (M := [6]) (.inl rfl) (by simp only [go_sem, reduceEqDiff, reduceIte, reduceAdd, reduceMul, reduceSub, reduceLT, reduceLeDiff, Nat.reduceBEq]; first | done | rfl) rfl rfl (by rfl) (by simp only [go_sem, reduceEqDiff, reduceIte, reduceAdd, reduceMul, reduceSub, reduceLT, reduceLeDiff, Nat.reduceBEq]; first | done | rfl | (and_intros <;> rfl)) (by decide) (by intro m hm; first | omega | (rcases m with _ | _ | _ | _ | _ | _ | m <;> first | exact ⟨by decide, rfl⟩ | omega)))
theorem l3Heads_ac {keep : Nat} {ks : List ByteArray} {s : Sve} (h : SvIs keep ks s) (hk : ks.length ≤ 1000) : AC Tryz.prog 62 [sveP s] noHp 0 ⟨.t (strsT (headsM keep ks)), noHp, 0⟩ :=
  AC.settle0 [0] (l3Heads_own h hk) (SetC.row0 rfl rfl) rfl
theorem l3Form_ac {keep : Nat} {ks : List ByteArray} {s : Sve} (h : SvIs keep ks s) : AC Tryz.prog 104 [sveP s] noHp 0 ⟨.t (bT true), noHp, 0⟩ := by
  obtain ⟨z1, z2, z3⟩ := h.sizes
  have hbb := h.hb
  have k1 := sbitsOk_ac s.more (by omega) fun b hb => by
    rw [h.hm] at hb
    obtain ⟨x, _, rfl⟩ := List.mem_map.1 hb
    unfold bMore; split <;> simp
  have k2 := sbitsOk_ac s.first (by omega) fun b hb => by
    rw [h.h1] at hb
    obtain ⟨f, _, hb⟩ := List.mem_flatMap.1 hb
    cases e : brs f with
    | nil => rw [e] at hb; simp [bFirst] at hb
    | cons y r => rw [e] at hb; simp [bFirst] at hb; rcases hb with hb | hb <;> simp_all
  have k3 := more_ac h (b := (allB keep ks).length) (Nat.le_refl _)
  have hc := count_bMore (allB keep ks)
  have hr : s.rests.length = ((allB keep ks).filter fun b => !bMul b).length := by rw [h.hr, List.length_map]
  rw [List.take_length, ← z1] at k3
  have k4 : AC Tryz.prog 53 [iT s.keep, iT 0, iT 5] noHp 0 ⟨.t (bT (inB 0 s.keep 5)), noHp, 0⟩ := l6In_ac _ _ _
  have hin : inB 0 s.keep 5 = true := by have := h.kp; rw [h.hk]; unfold inB; simp; omega
  rw [hin] at k4
  rw [← hr] at hc
  generalize (allB keep ks).countP bMul = m at *
  have w : IntKind.i64.wrap ((s.letters.size : Int) - (m : Int)) = (s.rests.length : Int) := wn (by omega) (by omega)
  have g1 : decide ((s.more.size : Int) = (s.letters.size : Int)) = true := decide_eq_true (by omega)
  have g2 : decide ((s.first.size : Int) = (s.letters.size : Int)) = true := decide_eq_true (by omega)
  have g3 : decide ((s.rests.length : Int) = (s.rests.length : Int)) = true := decide_eq_true rfl
  refine AC_of Tryz.func104 rfl Tryz.ntmps104 Tryz.results104 (by kernel_rfl) rfl ?_
  simp only [List.zipIdx, List.map, Nat.zero_add, Nat.reduceAdd]
  repeat (first | apply Aw_seq | apply Aw_block | apply Aw_skip | apply Aw_exit | refine Aw_condt rfl ?_ | refine Aw_condf rfl ?_ | ((first | refine qr ?_ | refine qd (by kernel_rfl) (by kernel_rfl) ?_); simp only [go_sem, reduceEqDiff, reduceIte, reduceAdd, reduceMul, reduceSub, reduceLT, reduceLeDiff, Nat.reduceBEq, w, g1, g2, g3]) | refine dk (by kernel_rfl) ?_ | (refine qp (k1) (by simp only [go_sem, reduceEqDiff, reduceIte, reduceAdd, reduceMul, reduceSub, reduceLT, reduceLeDiff, Nat.reduceBEq, w, g1, g2, g3]; first | done | rfl) rfl (by simp only [go_sem, Nat.reduceLT]) rfl rfl ?_; simp only [go_sem, reduceEqDiff, reduceIte, reduceAdd, reduceMul, reduceSub, reduceLT, reduceLeDiff, Nat.reduceBEq, w, g1, g2, g3]) | (refine qp (k2) (by simp only [go_sem, reduceEqDiff, reduceIte, reduceAdd, reduceMul, reduceSub, reduceLT, reduceLeDiff, Nat.reduceBEq, w, g1, g2, g3]; first | done | rfl) rfl (by simp only [go_sem, Nat.reduceLT]) rfl rfl ?_; simp only [go_sem, reduceEqDiff, reduceIte, reduceAdd, reduceMul, reduceSub, reduceLT, reduceLeDiff, Nat.reduceBEq, w, g1, g2, g3]) | (refine qp (k3) (by simp only [go_sem, reduceEqDiff, reduceIte, reduceAdd, reduceMul, reduceSub, reduceLT, reduceLeDiff, Nat.reduceBEq, w, g1, g2, g3]; first | done | rfl) rfl (by simp only [go_sem, Nat.reduceLT]) rfl rfl ?_; simp only [go_sem, reduceEqDiff, reduceIte, reduceAdd, reduceMul, reduceSub, reduceLT, reduceLeDiff, Nat.reduceBEq, w, g1, g2, g3]) | (refine qp (k4) (by simp only [go_sem, reduceEqDiff, reduceIte, reduceAdd, reduceMul, reduceSub, reduceLT, reduceLeDiff, Nat.reduceBEq, w, g1, g2, g3]; first | done | rfl) rfl (by simp only [go_sem, Nat.reduceLT]) rfl rfl ?_; simp only [go_sem, reduceEqDiff, reduceIte, reduceAdd, reduceMul, reduceSub, reduceLT, reduceLeDiff, Nat.reduceBEq, w, g1, g2, g3]))
  exact Aw_ret (ret0 (.inl rfl) (by simp only [go_sem, reduceEqDiff, reduceIte, reduceAdd, reduceMul, reduceSub, reduceLT, reduceLeDiff, Nat.reduceBEq]; rfl) (by rfl) rfl)
theorem ssieveOk_ac {keep : Nat} {ks : List ByteArray} {s : Sve} (h : SvIs keep ks s) (hs : sieveM ks (keep : Int) = some s) : AC Tryz.prog 61 [sveP s] noHp 0 ⟨.t (bT true), noHp, 0⟩ := by
  have hk : keysOkM ks = true := by unfold sieveM at hs; split at hs <;> simp_all
  obtain ⟨hl, _, _⟩ := ksOk_iff hk
  have k1 := l3Form_ac h
  have k2 := l3Heads_ac h (by omega)
  have k3 := ssieveS_ac (headsM keep ks) keep (ksOk_iff (heads_ok (keep := keep) hk)).2.2
  rw [show sieveM (headsM keep ks) keep = _ from heads_sieve (keep := (keep : Int)) hk, hs] at k3
  have k3 : AC Tryz.prog 101 [strsT (headsM keep ks), iT keep] noHp 0 ⟨.tup [sveP s, bT true], noHp, 0⟩ := k3
  have k4 := l3Sames_ac s.rests s.rests (by have := h.hr; rw [h.hr, List.length_map]; have := List.length_filter_le (fun b => !bMul b) (allB keep ks); have := h.hb; omega)
  have hk' := h.hk
  rw [← h.hk] at k3
  refine AC_of Tryz.func61 rfl Tryz.ntmps61 Tryz.results61 (by kernel_rfl) rfl ?_
  simp only [List.zipIdx, List.map, Nat.zero_add, Nat.reduceAdd]
  rw [decide_eq_true rfl] at k4
  repeat (first | apply Aw_seq | apply Aw_block | apply Aw_skip | apply Aw_exit | refine Aw_condt rfl ?_ | refine Aw_condf rfl ?_ | ((first | refine qr ?_ | refine qd (by kernel_rfl) (by kernel_rfl) ?_); simp only [go_sem, reduceEqDiff, reduceIte, reduceAdd, reduceMul, reduceSub, reduceLT, reduceLeDiff, Nat.reduceBEq, bref]) | refine dk (by kernel_rfl) ?_ | (refine qp (k1) (by simp only [go_sem, reduceEqDiff, reduceIte, reduceAdd, reduceMul, reduceSub, reduceLT, reduceLeDiff, Nat.reduceBEq, bref]; first | done | rfl) rfl (by simp only [go_sem, Nat.reduceLT]) rfl rfl ?_; simp only [go_sem, reduceEqDiff, reduceIte, reduceAdd, reduceMul, reduceSub, reduceLT, reduceLeDiff, Nat.reduceBEq, bref]) | (refine qp (k2) (by simp only [go_sem, reduceEqDiff, reduceIte, reduceAdd, reduceMul, reduceSub, reduceLT, reduceLeDiff, Nat.reduceBEq, bref]; first | done | rfl) rfl (by simp only [go_sem, Nat.reduceLT]) rfl rfl ?_; simp only [go_sem, reduceEqDiff, reduceIte, reduceAdd, reduceMul, reduceSub, reduceLT, reduceLeDiff, Nat.reduceBEq, bref]) | (refine qp (k3) (by simp only [go_sem, reduceEqDiff, reduceIte, reduceAdd, reduceMul, reduceSub, reduceLT, reduceLeDiff, Nat.reduceBEq, bref]; first | done | rfl) rfl (by simp only [go_sem, Nat.reduceLT]) rfl rfl ?_; simp only [go_sem, reduceEqDiff, reduceIte, reduceAdd, reduceMul, reduceSub, reduceLT, reduceLeDiff, Nat.reduceBEq, bref]) | (refine qp (k4) (by simp only [go_sem, reduceEqDiff, reduceIte, reduceAdd, reduceMul, reduceSub, reduceLT, reduceLeDiff, Nat.reduceBEq, bref]; first | done | rfl) rfl (by simp only [go_sem, Nat.reduceLT]) rfl rfl ?_; simp only [go_sem, reduceEqDiff, reduceIte, reduceAdd, reduceMul, reduceSub, reduceLT, reduceLeDiff, Nat.reduceBEq, bref]))
  exact Aw_ret (ret0 (.inl rfl) (by simp only [go_sem, reduceEqDiff, reduceIte, reduceAdd, reduceMul, reduceSub, reduceLT, reduceLeDiff, Nat.reduceBEq]; rfl) (by rfl) rfl)
theorem skeyBegins_ac (s h : ByteArray) : AC Tryz.prog 93 [sT s, sT h] noHp 0 ⟨.t (bT (begB s h)), noHp, 0⟩ := by
  refine AC_of Tryz.func93 rfl Tryz.ntmps93 Tryz.results93 (by kernel_rfl) rfl ?_
  simp only [List.zipIdx, List.map, Nat.zero_add, Nat.reduceAdd]
  by_cases c : h.size ≤ s.size
  · have g1 : decide ((h.size : Int) ≤ (s.size : Int)) = true := decide_eq_true (by omega)
    have g2 : ((h.size : Int) ≤ (s.size : Int)) = True := eq_true (by omega)
    have g3 : ((0 : Int) ≤ (h.size : Int)) = True := eq_true (by omega)
    have g4 : Int.toNat ((h.size : Nat) : Int) = h.size := rfl
    have g5 : Int.toNat 0 = 0 := rfl
    unfold begB
    rw [decide_eq_true c, Bool.true_and]
    repeat (first | apply Aw_seq | apply Aw_block | apply Aw_skip | apply Aw_exit | refine Aw_condt rfl ?_ | refine Aw_condf rfl ?_ | ((first | refine qr ?_ | refine qd (by kernel_rfl) (by kernel_rfl) ?_); simp only [go_sem, reduceEqDiff, reduceIte, reduceAdd, reduceMul, reduceSub, reduceLT, reduceLeDiff, Nat.reduceBEq, g1, g2, g3, g4, g5]) | refine dk (by kernel_rfl) ?_)
    exact Aw_ret (ret0 (.inl rfl) (by simp only [go_sem, reduceEqDiff, reduceIte, reduceAdd, reduceMul, reduceSub, reduceLT, reduceLeDiff, Nat.reduceBEq]; rfl) (by rfl) rfl)
  · have g1 : decide ((h.size : Int) ≤ (s.size : Int)) = false := decide_eq_false (by omega)
    unfold begB
    rw [decide_eq_false c, Bool.false_and]
    repeat (first | apply Aw_seq | apply Aw_block | apply Aw_skip | apply Aw_exit | refine Aw_condt rfl ?_ | refine Aw_condf rfl ?_ | ((first | refine qr ?_ | refine qd (by kernel_rfl) (by kernel_rfl) ?_); simp only [go_sem, reduceEqDiff, reduceIte, reduceAdd, reduceMul, reduceSub, reduceLT, reduceLeDiff, Nat.reduceBEq, g1]) | refine dk (by kernel_rfl) ?_)
    exact Aw_ret (ret0 (.inl rfl) (by simp only [go_sem, reduceEqDiff, reduceIte, reduceAdd, reduceMul, reduceSub, reduceLT, reduceLeDiff, Nat.reduceBEq]; rfl) (by rfl) rfl)
theorem l3Whole_ac {keep : Nat} {ks : List ByteArray} {s : Sve} (h : SvIs keep ks s) {b : Nat} {x : Br} (hb : (allB keep ks)[b]? = some x) (hm : bMul x = false) : AC Tryz.prog 92 [sveP s, iT b] noHp 0 ⟨.t (bT (whole keep x)), noHp, 0⟩ := by
  obtain ⟨hi, e⟩ := byteL_at h.hl (i := b) (b := bLet x) (by rw [List.getElem?_map, hb]; rfl)
  have hbl := (List.getElem?_eq_some_iff.1 hb).1
  have hbb := h.hb
  have h3 : ∀ hp, ixB hp s.letters b = _ := fun hp => ixB_ok hi
  have k1 := more_ac h (b := b) (by omega)
  have hno := not_ones (allB keep ks) b (by omega)
  have hr := rest_at hb hm
  rw [← h.hr] at hr
  generalize ((allB keep ks).take b).countP bMul = m1 at *
  generalize ((allB keep ks).take b).countP (fun b => !bMul b) = m2 at *
  have w3 : IntKind.i64.wrap ((b : Int) - (m1 : Int)) = (m2 : Int) := wn (by omega) (by omega)
  have hrl := (List.getElem?_eq_some_iff.1 hr).1
  have g5 : decide (((bCut keep x).size : Int) < s.keep) = decide ((bCut keep x).size < keep) := by rw [h.hk]; exact decide_eq_decide.2 (by omega)
  unfold whole
  by_cases c : bLet x = 45
  · have g4 : decide (((s.letters[b]).toNat : Int) = 45) = true := by rw [e, c]; rfl
    rw [decide_eq_true c, Bool.true_or]
    refine AC_of Tryz.func92 rfl Tryz.ntmps92 Tryz.results92 (by kernel_rfl) rfl ?_
    simp only [List.zipIdx, List.map, Nat.zero_add, Nat.reduceAdd]
    repeat (first | apply Aw_seq | apply Aw_block | apply Aw_skip | apply Aw_exit | refine Aw_condt rfl ?_ | refine Aw_condf rfl ?_ | ((first | refine qr ?_ | refine qd (by kernel_rfl) (by kernel_rfl) ?_); simp only [go_sem, reduceEqDiff, reduceIte, reduceAdd, reduceMul, reduceSub, reduceLT, reduceLeDiff, Nat.reduceBEq, g4, h3, w3]) | refine dk (by kernel_rfl) ?_ | (refine qp (k1) (by simp only [go_sem, reduceEqDiff, reduceIte, reduceAdd, reduceMul, reduceSub, reduceLT, reduceLeDiff, Nat.reduceBEq, g4, h3, w3]; first | done | rfl) rfl (by simp only [go_sem, Nat.reduceLT]) rfl rfl ?_; simp only [go_sem, reduceEqDiff, reduceIte, reduceAdd, reduceMul, reduceSub, reduceLT, reduceLeDiff, Nat.reduceBEq, g4, h3, w3]))
    exact Aw_ret (ret0 (.inl rfl) (by simp only [go_sem, reduceEqDiff, reduceIte, reduceAdd, reduceMul, reduceSub, reduceLT, reduceLeDiff, Nat.reduceBEq]; rfl) (by rfl) rfl)
  · have g4 : decide (((s.letters[b]).toNat : Int) = 45) = false := decide_eq_false (fun h45 => c (by rw [← e]; exact UInt8.toNat_inj.1 (Int.ofNat.inj h45)))
    rw [decide_eq_false c, Bool.false_or]
    refine AC_of Tryz.func92 rfl Tryz.ntmps92 Tryz.results92 (by kernel_rfl) rfl ?_
    simp only [List.zipIdx, List.map, Nat.zero_add, Nat.reduceAdd]
    repeat (first | apply Aw_seq | apply Aw_block | apply Aw_skip | apply Aw_exit | refine Aw_condt rfl ?_ | refine Aw_condf rfl ?_ | ((first | refine qr ?_ | refine qd (by kernel_rfl) (by kernel_rfl) ?_); simp only [go_sem, reduceEqDiff, reduceIte, reduceAdd, reduceMul, reduceSub, reduceLT, reduceLeDiff, Nat.reduceBEq, g4, h3, w3, hr, hrl, g5]) | refine dk (by kernel_rfl) ?_ | (refine qp (k1) (by simp only [go_sem, reduceEqDiff, reduceIte, reduceAdd, reduceMul, reduceSub, reduceLT, reduceLeDiff, Nat.reduceBEq, g4, h3, w3, hr, hrl, g5]; first | done | rfl) rfl (by simp only [go_sem, Nat.reduceLT]) rfl rfl ?_; simp only [go_sem, reduceEqDiff, reduceIte, reduceAdd, reduceMul, reduceSub, reduceLT, reduceLeDiff, Nat.reduceBEq, g4, h3, w3, hr, hrl, g5]))
    exact Aw_ret (ret0 (.inl rfl) (by simp only [go_sem, reduceEqDiff, reduceIte, reduceAdd, reduceMul, reduceSub, reduceLT, reduceLeDiff, Nat.reduceBEq]; rfl) (by rfl) rfl)
theorem walk_num {keep : Nat} {ks : List ByteArray} (hf0 : Fork (ks, 0)) (k : ByteArray) : ∀ (n j : Nat) (f : List ByteArray × Nat), (allF keep ks)[j]? = some f → (walkN keep ks k n j f = none ∧ walkT k n f = none) ∨ ∃ (at_ : Nat) (x : Br), walkN keep ks k n j f = some (at_, x.2) ∧ (allB keep ks)[at_]? = some x ∧ bMul x = false ∧ walkT k n f = some x
  | 0, j, f, hj => .inl ⟨rfl, rfl⟩
  | n + 1, j, f, hj => by
    cases hx : (brs f).findIdx? (fun b => decide (bLet b = lab k f.2)) with
    | none =>
      left
      have e : (brs f).find? (hitB k f.2) = none := by
        rw [List.find?_eq_none]
        intro x hm
        have := List.findIdx?_eq_none_iff.1 hx x hm
        simp only [hitB]; rw [this]; simp
      simp only [walkN, hx, walkT, e, and_self]
    | some a =>
      obtain ⟨ha, hp, hq⟩ := List.findIdx?_eq_some_iff_getElem.1 hx
      have hg : (brs f)[a]? = some (brs f)[a] := List.getElem?_eq_getElem ha
      have e : (brs f).find? (hitB k f.2) = some (brs f)[a] := findB_hit (a := a) (fun t ht y hy => by
        have hl : t < (brs f).length := by omega
        rw [List.getElem?_eq_getElem hl] at hy
        have := hq t ht
        rw [Option.some.inj hy] at this
        simpa [hitB] using this) hg hp
      have hax := br_at hj ha
      rw [hg] at hax
      obtain ⟨x2, _⟩ := brs_mem (List.getElem_mem ha)
      cases c : bMul (brs f)[a]
      · right
        refine ⟨offB keep ks j + a, (brs f)[a], ?_, hax, c, ?_⟩
        · simp only [walkN, hx, hg, c, x2]; rfl
        · simp only [walkT, e, c]; rfl
      · have hk := kid_at hf0 hax c
        have ih := walk_num hf0 k n _ _ hk
        simp only [walkN, hx, hg, c, walkT, e, if_true]
        exact ih
def atZ (o : Nat) : Option Nat → Int
  | none => -1
  | some t => ((o + t : Nat) : Int)
structure WkI (keep : Nat) (ks : List ByteArray) (k : ByteArray) (R : Option (Nat × Nat)) where
  j : Nat
  f : List ByteArray × Nat
  n : Nat
  hj : (allF keep ks)[j]? = some f
  hd : f.2 ≤ k.size
  hn : f.2 + n = 6
  hw : walkN keep ks k n j f = R
structure WkJ (k : ByteArray) (f : List ByteArray × Nat) where
  a : Nat
  h1 : a ≤ (brs f).length
  c : Option Nat
  hc : c = ((brs f).take a).findIdx? (fun b => decide (bLet b = lab k f.2))
def wkR (k : ByteArray) : Option (Nat × Nat) → List TV
  | none => [iT 0, iT 0, bT false]
  | some (a, d) => [iT a, iT (min (d + 1) k.size : Nat), bT true]
theorem l3Walk_ac {keep : Nat} {ks : List ByteArray} {s : Sve} (h : SvIs keep ks s) (k : ByteArray) (hk : keyOk k = true) : AC Tryz.prog 90 [sveP s, sT k] noHp 0 ⟨.tup (wkR k (walkN keep ks k 6 0 (ks, 0))), noHp, 0⟩ := by
  obtain ⟨R, hR⟩ : ∃ R, R = walkN keep ks k 6 0 (ks, 0) := ⟨_, rfl⟩
  rw [← hR]
  have hbb := h.hb
  have k5 := keyOk_size hk
  obtain ⟨z1, z2, z3⟩ := h.sizes
  have k0 := first_ac h (n := 1) (by omega)
  refine AC_of Tryz.func90 rfl Tryz.ntmps90 Tryz.results90 (by kernel_rfl) rfl ?_
  simp only [List.zipIdx, List.map, Nat.zero_add, Nat.reduceAdd]
  repeat (first | apply Aw_seq | apply Aw_block | apply Aw_skip | apply Aw_exit | refine Aw_condt rfl ?_ | refine Aw_condf rfl ?_ | ((first | refine qr ?_ | refine qd (by kernel_rfl) (by kernel_rfl) ?_); simp only [go_sem, reduceEqDiff, reduceIte, reduceAdd, reduceMul, reduceSub, reduceLT, reduceLeDiff, Nat.reduceBEq]) | refine dk (by kernel_rfl) ?_ | (refine qp (k0) (by simp only [go_sem, reduceEqDiff, reduceIte, reduceAdd, reduceMul, reduceSub, reduceLT, reduceLeDiff, Nat.reduceBEq]; first | done | rfl) rfl (by simp only [go_sem, Nat.reduceLT]) rfl rfl ?_; simp only [go_sem, reduceEqDiff, reduceIte, reduceAdd, reduceMul, reduceSub, reduceLT, reduceLeDiff, Nat.reduceBEq]))
  refine Aw.rw (rwL (l' := [(9, .t (iT (0 : Nat))), (8, .t (iT (offB keep ks (0 + 1) : Nat))), (7, .t (iT (offB keep ks 0 : Nat))), (2, .t (.c (.ph 0 0 0))), (1, .t (sT k))]) (os := [some (svObj s)]) (M := [0]) (n' := 1) (by repeat (first | exact trivial | refine ⟨rfl, rfl, ?_⟩)) (by rfl) (by simp only [go_sem, reduceEqDiff, reduceIte, reduceAdd, reduceMul, reduceSub, reduceLT, reduceLeDiff, Nat.reduceBEq]; first | done | rfl) (by decide) (by intro m hm; first | omega | (rcases m with _ | _ | _ | _ | _ | _ | m <;> first | exact ⟨by decide, rfl⟩ | omega))) ?_
  refine Aw_loop_rw (ι := WkI keep ks k R) (fun q => S [(9, .t (iT (q.f.2 : Nat))), (8, .t (iT (offB keep ks (q.j + 1) : Nat))), (7, .t (iT (offB keep ks q.j : Nat))), (2, .t (.c (.ph 0 0 0))), (1, .t (sT k))] (hpL [some (svObj s)]) 1) (fun q => q.n) ⟨0, (ks, 0), 6, allF_0 h.hf, Nat.zero_le _, rfl, hR.symm⟩ ?_
  clear hR
  rintro ⟨j, f, n, hj, hd, hn, hw⟩
  dsimp only
  have hff := allF_fork h.hf f (List.mem_of_getElem? hj)
  have hlen : offB keep ks j + (brs f).length ≤ (allB keep ks).length := by rw [← off_next hj]; exact off_le _ _ _
  have hbr := fun t ht => br_at hj (t := t) ht
  rw [off_next hj]
  have hdep := hff.dep
  obtain ⟨m, rfl⟩ : ∃ m, n = m + 1 := ⟨n - 1, by omega⟩
  simp only [walkN] at hw
  generalize offB keep ks j = o at *
  repeat (first | apply Aw_seq | apply Aw_block | apply Aw_skip | apply Aw_exit | refine Aw_condt rfl ?_ | refine Aw_condf rfl ?_ | ((first | refine qr ?_ | refine qd (by kernel_rfl) (by kernel_rfl) ?_); simp only [go_sem, reduceEqDiff, reduceIte, reduceAdd, reduceMul, reduceSub, reduceLT, reduceLeDiff, Nat.reduceBEq]) | refine dk (by kernel_rfl) ?_)
  refine Aw.rw (rwL (l' := [(11, .t (iT ((o + 0 : Nat) : Int))), (10, .t (iT (atZ o none))), (9, .t (iT (f.2 : Nat))), (8, .t (iT ((o + (brs f).length : Nat) : Int))), (2, .t (.c (.ph 0 0 0))), (1, .t (sT k))]) (os := [some (svObj s)]) (M := [0]) (n' := 1) (by repeat (first | exact trivial | refine ⟨rfl, rfl, ?_⟩)) (by rfl) (by simp only [go_sem, reduceEqDiff, reduceIte, reduceAdd, reduceMul, reduceSub, reduceLT, reduceLeDiff, Nat.reduceBEq]; first | done | rfl) (by decide) (by intro m hm; first | omega | (rcases m with _ | _ | _ | _ | _ | _ | m <;> first | exact ⟨by decide, rfl⟩ | omega))) ?_
  refine Aw_loop_rw (ι := WkJ k f) (fun q => S [(11, .t (iT ((o + q.a : Nat) : Int))), (10, .t (iT (atZ o q.c))), (9, .t (iT (f.2 : Nat))), (8, .t (iT ((o + (brs f).length : Nat) : Int))), (2, .t (.c (.ph 0 0 0))), (1, .t (sT k))] (hpL [some (svObj s)]) 1) (fun q => (brs f).length - q.a) ⟨0, Nat.zero_le _, none, rfl⟩ ?_
  rintro ⟨a, h1, c, hc⟩
  dsimp only
  by_cases hlt : a < (brs f).length
  · obtain ⟨x, hx⟩ : ∃ x, (brs f)[a]? = some x := ⟨_, List.getElem?_eq_getElem hlt⟩
    have hxm := List.mem_of_getElem? hx
    have hax := hbr a hlt
    rw [hx] at hax
    obtain ⟨hi, e⟩ := byteL_at h.hl (i := o + a) (b := bLet x) (by rw [List.getElem?_map, hax]; rfl)
    have hext := ext_at e
    have g1 : decide (((o + a : Nat) : Int) < ((o + (brs f).length : Nat) : Int)) = true := decide_eq_true (by omega)
    have g2 : decide (((o + a : Nat) : Int) < (s.letters.size : Int)) = true := decide_eq_true (by omega)
    have w : IntKind.i64.wrap (((o + a : Nat) : Int) + 1) = ((o + a + 1 : Nat) : Int) := wn (by omega) (by omega)
    have s1 : (((o + a : Nat) : Int) ≤ ((o + a + 1 : Nat) : Int)) = True := eq_true (by omega)
    have s2 : (((o + a + 1 : Nat) : Int) ≤ (s.letters.size : Int)) = True := eq_true (by omega)
    have k2 := l3Letter_ac k f.2 hd k5
    have ht : (brs f).take (a + 1) = (brs f).take a ++ [x] := by rw [List.take_add_one, hx]; rfl
    have hq : bs [bLet x] = labS k f.2 ↔ bLet x = lab k f.2 := by
      constructor
      · intro hh
        have := congrArg (fun z : ByteArray => z.data.toList) hh
        simpa [bs_l, labS] using this
      · intro hh; rw [hh]; rfl
    have hnew : ((brs f).take (a + 1)).findIdx? (fun b => decide (bLet b = lab k f.2)) = if bLet x = lab k f.2 then some a else c := by
      rw [ht, List.findIdx?_append, ← hc]
      have hal : ((brs f).take a).length = a := by rw [List.length_take]; omega
      by_cases cx : bLet x = lab k f.2
      · rw [if_pos cx]
        cases hcc : c with
        | none => simp [cx, hal]
        | some t =>
          rw [hcc] at hc
          obtain ⟨ht1, ht2, _⟩ := List.findIdx?_eq_some_iff_getElem.1 hc.symm
          rw [List.length_take] at ht1
          have hp := List.pairwise_iff_getElem.1 (brs_lt hff) t a (by omega) hlt (by omega)
          have ex : (brs f)[a] = x := by rw [List.getElem?_eq_getElem hlt] at hx; exact Option.some.inj hx
          rw [List.getElem_take] at ht2
          rw [ex, of_decide_eq_true ht2, cx] at hp
          omega
      · rw [if_neg cx]
        cases hcc : c <;> simp [cx]
    by_cases cx : bLet x = lab k f.2
    · have g3 : decide (bs [bLet x] = bs [lab k f.2]) = true := decide_eq_true (hq.2 cx)
      rw [if_pos cx] at hnew
      repeat (first | apply Aw_seq | apply Aw_block | apply Aw_skip | apply Aw_exit | refine Aw_condt rfl ?_ | refine Aw_condf rfl ?_ | ((first | refine qr ?_ | refine qd (by kernel_rfl) (by kernel_rfl) ?_); simp only [go_sem, reduceEqDiff, reduceIte, reduceAdd, reduceMul, reduceSub, reduceLT, reduceLeDiff, Nat.reduceBEq, g1, g2, w, s1, s2, hext, g3]) | refine dk (by kernel_rfl) ?_ | (refine qp (k2) (by simp only [go_sem, reduceEqDiff, reduceIte, reduceAdd, reduceMul, reduceSub, reduceLT, reduceLeDiff, Nat.reduceBEq, g1, g2, w, s1, s2, hext, g3]; first | done | rfl) rfl (by simp only [go_sem, Nat.reduceLT]) rfl rfl ?_; simp only [go_sem, reduceEqDiff, reduceIte, reduceAdd, reduceMul, reduceSub, reduceLT, reduceLeDiff, Nat.reduceBEq, g1, g2, w, s1, s2, hext, g3]))
      refine ⟨⟨a + 1, hlt, some a, hnew.symm⟩, [0], ?_, rwL (by repeat (first | exact trivial | refine ⟨rfl, rfl, ?_⟩)) (by rfl) (by simp only [go_sem, reduceEqDiff, reduceIte, reduceAdd, reduceMul, reduceSub, reduceLT, reduceLeDiff, Nat.reduceBEq]; first | done | rfl) (by decide) (by intro m hm; first | omega | (rcases m with _ | _ | _ | _ | _ | _ | m <;> first | exact ⟨by decide, rfl⟩ | omega))⟩
      show (brs f).length - (a + 1) < (brs f).length - a; omega
    · have g3 : decide (bs [bLet x] = bs [lab k f.2]) = false := decide_eq_false fun hh => cx (hq.1 hh)
      rw [if_neg cx] at hnew
      repeat (first | apply Aw_seq | apply Aw_block | apply Aw_skip | apply Aw_exit | refine Aw_condt rfl ?_ | refine Aw_condf rfl ?_ | ((first | refine qr ?_ | refine qd (by kernel_rfl) (by kernel_rfl) ?_); simp only [go_sem, reduceEqDiff, reduceIte, reduceAdd, reduceMul, reduceSub, reduceLT, reduceLeDiff, Nat.reduceBEq, g1, g2, w, s1, s2, hext, g3]) | refine dk (by kernel_rfl) ?_ | (refine qp (k2) (by simp only [go_sem, reduceEqDiff, reduceIte, reduceAdd, reduceMul, reduceSub, reduceLT, reduceLeDiff, Nat.reduceBEq, g1, g2, w, s1, s2, hext, g3]; first | done | rfl) rfl (by simp only [go_sem, Nat.reduceLT]) rfl rfl ?_; simp only [go_sem, reduceEqDiff, reduceIte, reduceAdd, reduceMul, reduceSub, reduceLT, reduceLeDiff, Nat.reduceBEq, g1, g2, w, s1, s2, hext, g3]))
      refine ⟨⟨a + 1, hlt, c, hnew.symm⟩, [0], ?_, rwL (by repeat (first | exact trivial | refine ⟨rfl, rfl, ?_⟩)) (by rfl) (by simp only [go_sem, reduceEqDiff, reduceIte, reduceAdd, reduceMul, reduceSub, reduceLT, reduceLeDiff, Nat.reduceBEq]; first | done | rfl) (by decide) (by intro m hm; first | omega | (rcases m with _ | _ | _ | _ | _ | _ | m <;> first | exact ⟨by decide, rfl⟩ | omega))⟩
      show (brs f).length - (a + 1) < (brs f).length - a; omega
  · have ea : a = (brs f).length := by omega
    subst ea
    rw [List.take_length] at hc
    rw [← hc] at hw
    have g1 : decide (((o + (brs f).length : Nat) : Int) < ((o + (brs f).length : Nat) : Int)) = false := decide_eq_false (by omega)
    cases hcc : c with
    | none =>
      rw [hcc] at hw
      simp only at hw
      subst hw
      have e1 : atZ o none = -1 := rfl
      have g2 : decide ((-1 : Int) < 0) = true := rfl
      rw [e1]
      repeat (first | apply Aw_seq | apply Aw_block | apply Aw_skip | apply Aw_exit | refine Aw_condt rfl ?_ | refine Aw_condf rfl ?_ | ((first | refine qr ?_ | refine qd (by kernel_rfl) (by kernel_rfl) ?_); simp only [go_sem, reduceEqDiff, reduceIte, reduceAdd, reduceMul, reduceSub, reduceLT, reduceLeDiff, Nat.reduceBEq, g1, g2]) | refine dk (by kernel_rfl) ?_)
      exact Aw_ret (ret0 (.inl rfl) (by simp only [go_sem, reduceEqDiff, reduceIte, reduceAdd, reduceMul, reduceSub, reduceLT, reduceLeDiff, Nat.reduceBEq]; rfl) (by rfl) rfl)
    | some t =>
      rw [hcc] at hw hc
      obtain ⟨ht1, ht2, _⟩ := List.findIdx?_eq_some_iff_getElem.1 hc.symm
      have hlab := of_decide_eq_true ht2
      obtain ⟨x, hx⟩ : ∃ x, (brs f)[t]? = some x := ⟨_, List.getElem?_eq_getElem ht1⟩
      have ex : (brs f)[t] = x := by rw [List.getElem?_eq_getElem ht1] at hx; exact Option.some.inj hx
      rw [ex] at hlab
      have hxm := List.mem_of_getElem? hx
      obtain ⟨x2, x3, y0, r0, x4, _⟩ := brs_mem hxm
      have hax := hbr t ht1
      rw [hx] at hax
      simp only [hx] at hw
      obtain ⟨hi2, e2⟩ := byteL_at h.hm (i := o + t) (b := bMore x) (by rw [List.getElem?_map, hax]; rfl)
      have h4 : ∀ hp, ixB hp s.more (o + t) = _ := fun hp => ixB_ok hi2
      have e1 : atZ o (some t) = ((o + t : Nat) : Int) := rfl
      have g2 : decide (((o + t : Nat) : Int) < 0) = false := decide_eq_false (by omega)
      have w : IntKind.i64.wrap ((f.2 : Int) + 1) = ((f.2 + 1 : Nat) : Int) := wn (by omega) (by omega)
      rw [e1]
      cases c2 : bMul x
      · have g4 : decide (((s.more[o + t]).toNat : Int) = 48) = true := by rw [e2]; unfold bMore; rw [c2]; rfl
        rw [c2] at hw
        simp only [Bool.false_eq_true, if_false] at hw
        subst hw
        repeat (first | apply Aw_seq | apply Aw_block | apply Aw_skip | apply Aw_exit | refine Aw_condt rfl ?_ | refine Aw_condf rfl ?_ | ((first | refine qr ?_ | refine qd (by kernel_rfl) (by kernel_rfl) ?_); simp only [go_sem, reduceEqDiff, reduceIte, reduceAdd, reduceMul, reduceSub, reduceLT, reduceLeDiff, Nat.reduceBEq, g1, g2, h4, g4, w, min_if, min_le]) | refine dk (by kernel_rfl) ?_)
        exact Aw_ret (ret0 (.inl rfl) (by simp only [go_sem, reduceEqDiff, reduceIte, reduceAdd, reduceMul, reduceSub, reduceLT, reduceLeDiff, Nat.reduceBEq]; rfl) (by rfl) rfl)
      · have g4 : decide (((s.more[o + t]).toNat : Int) = 48) = false := by rw [e2]; unfold bMore; rw [c2]; rfl
        rw [c2] at hw
        simp only [if_true] at hw
        have k3 := kids_ac h (b := o + t) (by omega)
        have hk2 := kid_at h.hf hax c2
        have hsz : k.size ≠ f.2 := fun hh => bMul_45 hff hxm c2 (by rw [hlab]; unfold lab; rw [if_pos hh])
        have e3 : (bKid x).2 = f.2 + 1 := by unfold bKid; rw [x2]
        generalize ((allB keep ks).take (o + t + 1)).countP bMul = m3 at *
        repeat (first | apply Aw_seq | apply Aw_block | apply Aw_skip | apply Aw_exit | refine Aw_condt rfl ?_ | refine Aw_condf rfl ?_ | ((first | refine qr ?_ | refine qd (by kernel_rfl) (by kernel_rfl) ?_); simp only [go_sem, reduceEqDiff, reduceIte, reduceAdd, reduceMul, reduceSub, reduceLT, reduceLeDiff, Nat.reduceBEq, g1, g2, h4, g4, w]) | refine dk (by kernel_rfl) ?_ | (refine qp (k3) (by simp only [go_sem, reduceEqDiff, reduceIte, reduceAdd, reduceMul, reduceSub, reduceLT, reduceLeDiff, Nat.reduceBEq, g1, g2, h4, g4, w]; first | done | rfl) rfl (by simp only [go_sem, Nat.reduceLT]) rfl rfl ?_; simp only [go_sem, reduceEqDiff, reduceIte, reduceAdd, reduceMul, reduceSub, reduceLT, reduceLeDiff, Nat.reduceBEq, g1, g2, h4, g4, w]))
        refine ⟨⟨m3, bKid x, m, hk2, by omega, by omega, hw⟩, [0], ?_, ?_⟩
        rotate_left
        dsimp only
        rw [e3]
        exact rwL (by repeat (first | exact trivial | refine ⟨rfl, rfl, ?_⟩)) (by rfl) (by simp only [go_sem, reduceEqDiff, reduceIte, reduceAdd, reduceMul, reduceSub, reduceLT, reduceLeDiff, Nat.reduceBEq]; first | done | rfl) (by decide) (by intro m hm; first | omega | (rcases m with _ | _ | _ | _ | _ | _ | m <;> first | exact ⟨by decide, rfl⟩ | omega))
        show m < m + 1; omega
theorem sieveHas_ac {keep : Nat} {ks : List ByteArray} {s : Sve} (h : SvIs keep ks s) (hs : sieveM ks (keep : Int) = some s) (k : ByteArray) (hk : keyOk k = true) : AC Tryz.prog 45 [sveP s, sT k] noHp 0 ⟨.t (bT (hasM keep ks k)), noHp, 0⟩ := by
  have k1 := ssieveOk_ac h hs
  have k2 := skeyOk_ac k (by have := keyOk_size hk; unfold smK; omega)
  rw [hk] at k2
  obtain ⟨z1, z2, z3⟩ := h.sizes
  have hbb := h.hb
  rw [hasM_res]
  have k3 := l3Walk_ac h k hk
  rcases walk_num h.hf k 6 0 (ks, 0) (allF_0 h.hf) with ⟨e1, e2⟩ | ⟨at_, x, e1, hax, c2, e2⟩
  · rw [e1] at k3
    rw [e2]
    have k3 : AC Tryz.prog 90 [sveP s, sT k] noHp 0 ⟨.tup [iT 0, iT 0, bT false], noHp, 0⟩ := k3
    refine AC_of Tryz.func45 rfl Tryz.ntmps45 Tryz.results45 (by kernel_rfl) rfl ?_
    simp only [List.zipIdx, List.map, Nat.zero_add, Nat.reduceAdd]
    by_cases c : s.letters.size = 0
    · have g0 : decide ((s.letters.size : Int) = 0) = true := decide_eq_true (by omega)
      repeat (first | apply Aw_seq | apply Aw_block | apply Aw_skip | apply Aw_exit | refine Aw_condt rfl ?_ | refine Aw_condf rfl ?_ | ((first | refine qr ?_ | refine qd (by kernel_rfl) (by kernel_rfl) ?_); simp only [go_sem, reduceEqDiff, reduceIte, reduceAdd, reduceMul, reduceSub, reduceLT, reduceLeDiff, Nat.reduceBEq, g0]) | refine dk (by kernel_rfl) ?_ | (refine qp (k1) (by simp only [go_sem, reduceEqDiff, reduceIte, reduceAdd, reduceMul, reduceSub, reduceLT, reduceLeDiff, Nat.reduceBEq, g0]; first | done | rfl) rfl (by simp only [go_sem, Nat.reduceLT]) rfl rfl ?_; simp only [go_sem, reduceEqDiff, reduceIte, reduceAdd, reduceMul, reduceSub, reduceLT, reduceLeDiff, Nat.reduceBEq, g0]) | (refine qp (k2) (by simp only [go_sem, reduceEqDiff, reduceIte, reduceAdd, reduceMul, reduceSub, reduceLT, reduceLeDiff, Nat.reduceBEq, g0]; first | done | rfl) rfl (by simp only [go_sem, Nat.reduceLT]) rfl rfl ?_; simp only [go_sem, reduceEqDiff, reduceIte, reduceAdd, reduceMul, reduceSub, reduceLT, reduceLeDiff, Nat.reduceBEq, g0]))
      exact Aw_ret (ret0 (.inl rfl) (by simp only [go_sem, reduceEqDiff, reduceIte, reduceAdd, reduceMul, reduceSub, reduceLT, reduceLeDiff, Nat.reduceBEq]; rfl) (by rfl) rfl)
    · have g0 : decide ((s.letters.size : Int) = 0) = false := decide_eq_false (by omega)
      repeat (first | apply Aw_seq | apply Aw_block | apply Aw_skip | apply Aw_exit | refine Aw_condt rfl ?_ | refine Aw_condf rfl ?_ | ((first | refine qr ?_ | refine qd (by kernel_rfl) (by kernel_rfl) ?_); simp only [go_sem, reduceEqDiff, reduceIte, reduceAdd, reduceMul, reduceSub, reduceLT, reduceLeDiff, Nat.reduceBEq, g0]) | refine dk (by kernel_rfl) ?_ | (refine qp (k1) (by simp only [go_sem, reduceEqDiff, reduceIte, reduceAdd, reduceMul, reduceSub, reduceLT, reduceLeDiff, Nat.reduceBEq, g0]; first | done | rfl) rfl (by simp only [go_sem, Nat.reduceLT]) rfl rfl ?_; simp only [go_sem, reduceEqDiff, reduceIte, reduceAdd, reduceMul, reduceSub, reduceLT, reduceLeDiff, Nat.reduceBEq, g0]) | (refine qp (k2) (by simp only [go_sem, reduceEqDiff, reduceIte, reduceAdd, reduceMul, reduceSub, reduceLT, reduceLeDiff, Nat.reduceBEq, g0]; first | done | rfl) rfl (by simp only [go_sem, Nat.reduceLT]) rfl rfl ?_; simp only [go_sem, reduceEqDiff, reduceIte, reduceAdd, reduceMul, reduceSub, reduceLT, reduceLeDiff, Nat.reduceBEq, g0]) | (refine qp (k3) (by simp only [go_sem, reduceEqDiff, reduceIte, reduceAdd, reduceMul, reduceSub, reduceLT, reduceLeDiff, Nat.reduceBEq, g0]; first | done | rfl) rfl (by simp only [go_sem, Nat.reduceLT]) rfl rfl ?_; simp only [go_sem, reduceEqDiff, reduceIte, reduceAdd, reduceMul, reduceSub, reduceLT, reduceLeDiff, Nat.reduceBEq, g0]))
      exact Aw_ret (ret0 (.inl rfl) (by simp only [go_sem, reduceEqDiff, reduceIte, reduceAdd, reduceMul, reduceSub, reduceLT, reduceLeDiff, Nat.reduceBEq]; rfl) (by rfl) rfl)
  · rw [e1] at k3
    rw [e2]
    have hbl := (List.getElem?_eq_some_iff.1 hax).1
    have k3 : AC Tryz.prog 90 [sveP s, sT k] noHp 0 ⟨.tup [iT at_, iT (min (x.2 + 1) k.size : Nat), bT true], noHp, 0⟩ := k3
    have g0 : decide ((s.letters.size : Int) = 0) = false := decide_eq_false (by omega)
    have k4 := more_ac h (b := at_) (by omega)
    have hno := not_ones (allB keep ks) at_ (by omega)
    have hr := rest_at hax c2
    rw [← h.hr] at hr
    generalize ((allB keep ks).take at_).countP bMul = m1 at *
    generalize ((allB keep ks).take at_).countP (fun b => !bMul b) = m2 at *
    have w3 : IntKind.i64.wrap ((at_ : Int) - (m1 : Int)) = (m2 : Int) := wn (by omega) (by omega)
    have hrl := (List.getElem?_eq_some_iff.1 hr).1
    have k5 := l3Whole_ac h hax c2
    have ml : (((min (x.2 + 1) k.size : Nat) : Int) ≤ (k.size : Int)) = True := eq_true (by omega)
    show AC Tryz.prog _ _ _ _ ⟨.t (bT (fits keep k x)), noHp, 0⟩
    unfold fits
    cases c3 : whole keep x
    · rw [c3] at k5
      have k6 := skeyBegins_ac (tailT k x.2) (bCut keep x)
      unfold tailT at k6 ⊢
      refine AC_of Tryz.func45 rfl Tryz.ntmps45 Tryz.results45 (by kernel_rfl) rfl ?_
      simp only [List.zipIdx, List.map, Nat.zero_add, Nat.reduceAdd]
      repeat (first | apply Aw_seq | apply Aw_block | apply Aw_skip | apply Aw_exit | refine Aw_condt rfl ?_ | refine Aw_condf rfl ?_ | ((first | refine qr ?_ | refine qd (by kernel_rfl) (by kernel_rfl) ?_); simp only [go_sem, reduceEqDiff, reduceIte, reduceAdd, reduceMul, reduceSub, reduceLT, reduceLeDiff, Nat.reduceBEq, g0, w3, hr, hrl, ml]) | refine dk (by kernel_rfl) ?_ | (refine qp (k1) (by simp only [go_sem, reduceEqDiff, reduceIte, reduceAdd, reduceMul, reduceSub, reduceLT, reduceLeDiff, Nat.reduceBEq, g0, w3, hr, hrl, ml]; first | done | rfl) rfl (by simp only [go_sem, Nat.reduceLT]) rfl rfl ?_; simp only [go_sem, reduceEqDiff, reduceIte, reduceAdd, reduceMul, reduceSub, reduceLT, reduceLeDiff, Nat.reduceBEq, g0, w3, hr, hrl, ml]) | (refine qp (k2) (by simp only [go_sem, reduceEqDiff, reduceIte, reduceAdd, reduceMul, reduceSub, reduceLT, reduceLeDiff, Nat.reduceBEq, g0, w3, hr, hrl, ml]; first | done | rfl) rfl (by simp only [go_sem, Nat.reduceLT]) rfl rfl ?_; simp only [go_sem, reduceEqDiff, reduceIte, reduceAdd, reduceMul, reduceSub, reduceLT, reduceLeDiff, Nat.reduceBEq, g0, w3, hr, hrl, ml]) | (refine qp (k3) (by simp only [go_sem, reduceEqDiff, reduceIte, reduceAdd, reduceMul, reduceSub, reduceLT, reduceLeDiff, Nat.reduceBEq, g0, w3, hr, hrl, ml]; first | done | rfl) rfl (by simp only [go_sem, Nat.reduceLT]) rfl rfl ?_; simp only [go_sem, reduceEqDiff, reduceIte, reduceAdd, reduceMul, reduceSub, reduceLT, reduceLeDiff, Nat.reduceBEq, g0, w3, hr, hrl, ml]) | (refine qp (k4) (by simp only [go_sem, reduceEqDiff, reduceIte, reduceAdd, reduceMul, reduceSub, reduceLT, reduceLeDiff, Nat.reduceBEq, g0, w3, hr, hrl, ml]; first | done | rfl) rfl (by simp only [go_sem, Nat.reduceLT]) rfl rfl ?_; simp only [go_sem, reduceEqDiff, reduceIte, reduceAdd, reduceMul, reduceSub, reduceLT, reduceLeDiff, Nat.reduceBEq, g0, w3, hr, hrl, ml]) | (refine qp (k5) (by simp only [go_sem, reduceEqDiff, reduceIte, reduceAdd, reduceMul, reduceSub, reduceLT, reduceLeDiff, Nat.reduceBEq, g0, w3, hr, hrl, ml]; first | done | rfl) rfl (by simp only [go_sem, Nat.reduceLT]) rfl rfl ?_; simp only [go_sem, reduceEqDiff, reduceIte, reduceAdd, reduceMul, reduceSub, reduceLT, reduceLeDiff, Nat.reduceBEq, g0, w3, hr, hrl, ml]) | (refine qp (k6) (by simp only [go_sem, reduceEqDiff, reduceIte, reduceAdd, reduceMul, reduceSub, reduceLT, reduceLeDiff, Nat.reduceBEq, g0, w3, hr, hrl, ml]; first | done | rfl) rfl (by simp only [go_sem, Nat.reduceLT]) rfl rfl ?_; simp only [go_sem, reduceEqDiff, reduceIte, reduceAdd, reduceMul, reduceSub, reduceLT, reduceLeDiff, Nat.reduceBEq, g0, w3, hr, hrl, ml]))
      exact Aw_ret (ret0 (.inl rfl) (by simp only [go_sem, reduceEqDiff, reduceIte, reduceAdd, reduceMul, reduceSub, reduceLT, reduceLeDiff, Nat.reduceBEq]; rfl) (by rfl) rfl)
    · rw [c3] at k5
      unfold tailT
      refine AC_of Tryz.func45 rfl Tryz.ntmps45 Tryz.results45 (by kernel_rfl) rfl ?_
      simp only [List.zipIdx, List.map, Nat.zero_add, Nat.reduceAdd]
      repeat (first | apply Aw_seq | apply Aw_block | apply Aw_skip | apply Aw_exit | refine Aw_condt rfl ?_ | refine Aw_condf rfl ?_ | ((first | refine qr ?_ | refine qd (by kernel_rfl) (by kernel_rfl) ?_); simp only [go_sem, reduceEqDiff, reduceIte, reduceAdd, reduceMul, reduceSub, reduceLT, reduceLeDiff, Nat.reduceBEq, g0, w3, hr, hrl, ml]) | refine dk (by kernel_rfl) ?_ | (refine qp (k1) (by simp only [go_sem, reduceEqDiff, reduceIte, reduceAdd, reduceMul, reduceSub, reduceLT, reduceLeDiff, Nat.reduceBEq, g0, w3, hr, hrl, ml]; first | done | rfl) rfl (by simp only [go_sem, Nat.reduceLT]) rfl rfl ?_; simp only [go_sem, reduceEqDiff, reduceIte, reduceAdd, reduceMul, reduceSub, reduceLT, reduceLeDiff, Nat.reduceBEq, g0, w3, hr, hrl, ml]) | (refine qp (k2) (by simp only [go_sem, reduceEqDiff, reduceIte, reduceAdd, reduceMul, reduceSub, reduceLT, reduceLeDiff, Nat.reduceBEq, g0, w3, hr, hrl, ml]; first | done | rfl) rfl (by simp only [go_sem, Nat.reduceLT]) rfl rfl ?_; simp only [go_sem, reduceEqDiff, reduceIte, reduceAdd, reduceMul, reduceSub, reduceLT, reduceLeDiff, Nat.reduceBEq, g0, w3, hr, hrl, ml]) | (refine qp (k3) (by simp only [go_sem, reduceEqDiff, reduceIte, reduceAdd, reduceMul, reduceSub, reduceLT, reduceLeDiff, Nat.reduceBEq, g0, w3, hr, hrl, ml]; first | done | rfl) rfl (by simp only [go_sem, Nat.reduceLT]) rfl rfl ?_; simp only [go_sem, reduceEqDiff, reduceIte, reduceAdd, reduceMul, reduceSub, reduceLT, reduceLeDiff, Nat.reduceBEq, g0, w3, hr, hrl, ml]) | (refine qp (k4) (by simp only [go_sem, reduceEqDiff, reduceIte, reduceAdd, reduceMul, reduceSub, reduceLT, reduceLeDiff, Nat.reduceBEq, g0, w3, hr, hrl, ml]; first | done | rfl) rfl (by simp only [go_sem, Nat.reduceLT]) rfl rfl ?_; simp only [go_sem, reduceEqDiff, reduceIte, reduceAdd, reduceMul, reduceSub, reduceLT, reduceLeDiff, Nat.reduceBEq, g0, w3, hr, hrl, ml]) | (refine qp (k5) (by simp only [go_sem, reduceEqDiff, reduceIte, reduceAdd, reduceMul, reduceSub, reduceLT, reduceLeDiff, Nat.reduceBEq, g0, w3, hr, hrl, ml]; first | done | rfl) rfl (by simp only [go_sem, Nat.reduceLT]) rfl rfl ?_; simp only [go_sem, reduceEqDiff, reduceIte, reduceAdd, reduceMul, reduceSub, reduceLT, reduceLeDiff, Nat.reduceBEq, g0, w3, hr, hrl, ml]))
      exact Aw_ret (ret0 (.inl rfl) (by simp only [go_sem, reduceEqDiff, reduceIte, reduceAdd, reduceMul, reduceSub, reduceLT, reduceLeDiff, Nat.reduceBEq]; rfl) (by rfl) rfl)
end Go.Proofs.YtjolcfkepcmjnabGreat.Ab
