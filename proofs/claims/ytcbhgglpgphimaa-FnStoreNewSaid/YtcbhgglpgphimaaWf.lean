/-
  Contracts: what was put last of a key; both. No condition.
  Plain law: keys put in place one by one are keys sorted and made one of a kind. No condition.
  Contracts: keys sorted. No condition.
  Contracts: what is listed of a store without entries. No condition.
  Contract: runs that are the same. No condition.
  Contracts: texts, sieves that are the same. No condition.
  Whatever argument of the seat's kinds can be read as data is plain data of the machine's: lemmas, kind by kind (whole numbers, bools, strings, slices, structs). No condition.
  Contract: the law of a new store gives true, whatever the code. No condition.
  Contract: the law of a new store gives true, whatever the code. No condition.
-/
import Derived.Test.YtcbhgglpgphimaaWe
import Derived.Test.YtcbhgglpgphimaaWc
import Derived.Deep.Slices
import Derived.ChangeArms
import Derived.DataReads
import Derived.Below
namespace Go.Proofs.Ytcbhgglpgphimaa.Ab
set_option linter.deprecated false
set_option linter.unusedVariables false
set_option linter.unusedSimpArgs false
open Go Go.Proofs
set_option maxRecDepth 10000
set_option maxHeartbeats 8000000
set_option linter.unusedSimpArgs false
set_option linter.unusedVariables false
def upToM (r : List Ent) (k : ByteArray) (t : Int) (n : Nat) : Option Ent := (r.take n).reverse.find? (hit k t)
def lastM (r : List Ent) (k : ByteArray) (t : Int) : Option Ent := upToM r k t r.length
theorem upToM_0 (r : List Ent) (k : ByteArray) (t : Int) : upToM r k t 0 = none := rfl
theorem upToM_succ {r : List Ent} {k : ByteArray} {t : Int} {n : Nat} {e : Ent} (h : r[n]? = some e) : upToM r k t (n + 1) = if hit k t e = true then some e else upToM r k t n := by
  unfold upToM
  rw [List.take_add_one, h]
  simp only [Option.toList_some, List.reverse_append, List.reverse_cons, List.reverse_nil, List.nil_append, List.singleton_append, List.find?_cons]
  cases hit k t e <;> rfl
theorem back1 (j : Nat) : ((j + 1 : Nat) : Int) - 1 = (j : Int) := by omega
abbrev resL (o : Option Ent) : AV := .tup [entT (o.getD zEnt), bT (match o with | some e => !e.gone | none => false)]
theorem l13Last_ac (r : List Ent) (k : ByteArray) (t : Int) (hl : r.length ≤ 4000000) : AC Try.prog 77 [runT r, sT k, iT t] noHp 0 ⟨resE (lastM r k t), noHp, 0⟩ := by
  refine AC_of Try.func77 rfl Try.ntmps77 Try.results77 (by kernel_rfl) rfl ?_
  simp only [List.zipIdx, List.map, Nat.zero_add, Nat.reduceAdd]
  have w0 : IntKind.i64.wrap (((r.length : Nat) : Int) - 1) = ((r.length : Nat) : Int) - 1 := wrap_in (by omega) (by omega)
  repeat (first | apply Aw_seq | apply Aw_block | apply Aw_skip | apply Aw_exit | refine Aw_condt rfl ?_ | refine Aw_condf rfl ?_ | (refine qr ?_; simp only [go_sem, Nat.reduceEqDiff, reduceIte, Nat.reduceAdd, Nat.reduceMul, Nat.reduceSub, Nat.reduceLT, Nat.reduceLeDiff, Nat.reduceBEq, w0]) | (refine qd (by kernel_rfl) (by kernel_rfl) ?_; simp only [go_sem, Nat.reduceEqDiff, reduceIte, Nat.reduceAdd, Nat.reduceMul, Nat.reduceSub, Nat.reduceLT, Nat.reduceLeDiff, Nat.reduceBEq, w0]) | refine dk (by kernel_rfl) ?_)
  refine Aw.rw (rwL (l' := [(8, .t (iT (((r.length : Nat) : Int) - 1))), (6, .t (.c (.ph 0 0 0))), (2, .t (iT t)), (1, .t (sT k)), (0, .t (runT r))]) (os := [some (enO zEnt)]) (M := [0]) (n' := 1) (by repeat (first | exact trivial | refine ⟨rfl, rfl, ?_⟩)) (by rfl) (by simp only [go_sem, Nat.reduceEqDiff, reduceIte, Nat.reduceAdd, Nat.reduceMul, Nat.reduceSub, Nat.reduceLT, Nat.reduceLeDiff, Nat.reduceBEq, zEnt]; first | done | rfl) (by decide) (by intro m hm; first | omega | (rcases m with _ | _ | _ | _ | _ | _ | m <;> first | exact ⟨by decide, rfl⟩ | omega))) ?_
  refine Aw_loop_rw (ι := { n : Nat // n ≤ r.length ∧ upToM r k t n = lastM r k t }) (fun q => S [(8, .t (iT (((q.1 : Nat) : Int) - 1))), (6, .t (.c (.ph 0 0 0))), (2, .t (iT t)), (1, .t (sT k)), (0, .t (runT r))] (hpL [some (enO zEnt)]) 1) (fun q => q.1) ⟨r.length, Nat.le_refl _, rfl⟩ ?_
  rintro ⟨n, hn, h⟩
  dsimp only
  rcases n with _ | j
  · have g1 : decide ((0 : Int) ≤ ((0 : Nat) : Int) - 1) = false := rfl
    rw [upToM_0] at h
    rw [← h]
    repeat (first | apply Aw_seq | apply Aw_block | apply Aw_skip | apply Aw_exit | refine Aw_condt rfl ?_ | refine Aw_condf rfl ?_ | (refine qr ?_; simp only [go_sem, Nat.reduceEqDiff, reduceIte, Nat.reduceAdd, Nat.reduceMul, Nat.reduceSub, Nat.reduceLT, Nat.reduceLeDiff, Nat.reduceBEq, g1]) | (refine qd (by kernel_rfl) (by kernel_rfl) ?_; simp only [go_sem, Nat.reduceEqDiff, reduceIte, Nat.reduceAdd, Nat.reduceMul, Nat.reduceSub, Nat.reduceLT, Nat.reduceLeDiff, Nat.reduceBEq, g1]) | refine dk (by kernel_rfl) ?_)
    exact Aw_ret (ret0 (.inl rfl) (by simp only [go_sem, Nat.reduceEqDiff, reduceIte, Nat.reduceAdd, Nat.reduceMul, Nat.reduceSub, Nat.reduceLT, Nat.reduceLeDiff, Nat.reduceBEq]; rfl) (by rfl) rfl)
  · rw [back1]
    have g1 : decide ((0 : Int) ≤ (j : Int)) = true := decide_eq_true (by omega)
    have w1 : IntKind.i64.wrap ((j : Int) - 1) = (j : Int) - 1 := wrap_in (by omega) (by omega)
    obtain ⟨e, hx⟩ : ∃ e, r[j]? = some e := ⟨_, List.getElem?_eq_getElem (by omega)⟩
    rw [upToM_succ hx] at h
    cases c1 : decide (e.key = k)
    · rw [if_neg (by simp [hit, c1])] at h
      repeat (first | apply Aw_seq | apply Aw_block | apply Aw_skip | apply Aw_exit | refine Aw_condt rfl ?_ | refine Aw_condf rfl ?_ | (refine qr ?_; simp only [go_sem, Nat.reduceEqDiff, reduceIte, Nat.reduceAdd, Nat.reduceMul, Nat.reduceSub, Nat.reduceLT, Nat.reduceLeDiff, Nat.reduceBEq, g1, hx, c1, w1]) | (refine qd (by kernel_rfl) (by kernel_rfl) ?_; simp only [go_sem, Nat.reduceEqDiff, reduceIte, Nat.reduceAdd, Nat.reduceMul, Nat.reduceSub, Nat.reduceLT, Nat.reduceLeDiff, Nat.reduceBEq, g1, hx, c1, w1]) | refine dk (by kernel_rfl) ?_)
      refine ⟨⟨j, by omega, h⟩, [0], ?_, rwL (by repeat (first | exact trivial | refine ⟨rfl, rfl, ?_⟩)) (by rfl) (by simp only [go_sem, Nat.reduceEqDiff, reduceIte, Nat.reduceAdd, Nat.reduceMul, Nat.reduceSub, Nat.reduceLT, Nat.reduceLeDiff, Nat.reduceBEq]; first | done | rfl) (by decide) (by intro m hm; first | omega | (rcases m with _ | _ | _ | _ | _ | _ | m <;> first | exact ⟨by decide, rfl⟩ | omega))⟩
      show j < j + 1; omega
    · cases c2 : decide (e.time ≤ t)
      · rw [if_neg (by simp [hit, c2])] at h
        repeat (first | apply Aw_seq | apply Aw_block | apply Aw_skip | apply Aw_exit | refine Aw_condt rfl ?_ | refine Aw_condf rfl ?_ | (refine qr ?_; simp only [go_sem, Nat.reduceEqDiff, reduceIte, Nat.reduceAdd, Nat.reduceMul, Nat.reduceSub, Nat.reduceLT, Nat.reduceLeDiff, Nat.reduceBEq, g1, hx, c1, c2, w1]) | (refine qd (by kernel_rfl) (by kernel_rfl) ?_; simp only [go_sem, Nat.reduceEqDiff, reduceIte, Nat.reduceAdd, Nat.reduceMul, Nat.reduceSub, Nat.reduceLT, Nat.reduceLeDiff, Nat.reduceBEq, g1, hx, c1, c2, w1]) | refine dk (by kernel_rfl) ?_)
        refine ⟨⟨j, by omega, h⟩, [0], ?_, rwL (by repeat (first | exact trivial | refine ⟨rfl, rfl, ?_⟩)) (by rfl) (by simp only [go_sem, Nat.reduceEqDiff, reduceIte, Nat.reduceAdd, Nat.reduceMul, Nat.reduceSub, Nat.reduceLT, Nat.reduceLeDiff, Nat.reduceBEq]; first | done | rfl) (by decide) (by intro m hm; first | omega | (rcases m with _ | _ | _ | _ | _ | _ | m <;> first | exact ⟨by decide, rfl⟩ | omega))⟩
        show j < j + 1; omega
      · rw [if_pos (by simp [hit, c1, c2])] at h
        rw [← h]
        repeat (first | apply Aw_seq | apply Aw_block | apply Aw_skip | apply Aw_exit | refine Aw_condt rfl ?_ | refine Aw_condf rfl ?_ | (refine qr ?_; simp only [go_sem, Nat.reduceEqDiff, reduceIte, Nat.reduceAdd, Nat.reduceMul, Nat.reduceSub, Nat.reduceLT, Nat.reduceLeDiff, Nat.reduceBEq, g1, hx, c1, c2]) | (refine qd (by kernel_rfl) (by kernel_rfl) ?_; simp only [go_sem, Nat.reduceEqDiff, reduceIte, Nat.reduceAdd, Nat.reduceMul, Nat.reduceSub, Nat.reduceLT, Nat.reduceLeDiff, Nat.reduceBEq, g1, hx, c1, c2]) | refine dk (by kernel_rfl) ?_)
        exact Aw_ret (ret0 (.inl rfl) (by simp only [go_sem, Nat.reduceEqDiff, reduceIte, Nat.reduceAdd, Nat.reduceMul, Nat.reduceSub, Nat.reduceLT, Nat.reduceLeDiff, Nat.reduceBEq]; rfl) (by rfl) rfl)
theorem latest_ac (r : List Ent) (k : ByteArray) (t : Int) (hl : r.length ≤ 4000000) : AC Try.prog 78 [runT r, sT k, iT t] noHp 0 ⟨resL (lastM r k t), noHp, 0⟩ := by
  refine AC_of Try.func78 rfl Try.ntmps78 Try.results78 (by kernel_rfl) rfl ?_
  simp only [List.zipIdx, List.map, Nat.zero_add, Nat.reduceAdd]
  have w0 : IntKind.i64.wrap (((r.length : Nat) : Int) - 1) = ((r.length : Nat) : Int) - 1 := wrap_in (by omega) (by omega)
  repeat (first | apply Aw_seq | apply Aw_block | apply Aw_skip | apply Aw_exit | refine Aw_condt rfl ?_ | refine Aw_condf rfl ?_ | (refine qr ?_; simp only [go_sem, Nat.reduceEqDiff, reduceIte, Nat.reduceAdd, Nat.reduceMul, Nat.reduceSub, Nat.reduceLT, Nat.reduceLeDiff, Nat.reduceBEq, w0]) | (refine qd (by kernel_rfl) (by kernel_rfl) ?_; simp only [go_sem, Nat.reduceEqDiff, reduceIte, Nat.reduceAdd, Nat.reduceMul, Nat.reduceSub, Nat.reduceLT, Nat.reduceLeDiff, Nat.reduceBEq, w0]) | refine dk (by kernel_rfl) ?_)
  refine Aw.rw (rwL (l' := [(8, .t (iT (((r.length : Nat) : Int) - 1))), (6, .t (.c (.ph 0 0 0))), (2, .t (iT t)), (1, .t (sT k)), (0, .t (runT r))]) (os := [some (enO zEnt)]) (M := [0]) (n' := 1) (by repeat (first | exact trivial | refine ⟨rfl, rfl, ?_⟩)) (by rfl) (by simp only [go_sem, Nat.reduceEqDiff, reduceIte, Nat.reduceAdd, Nat.reduceMul, Nat.reduceSub, Nat.reduceLT, Nat.reduceLeDiff, Nat.reduceBEq, zEnt]; first | done | rfl) (by decide) (by intro m hm; first | omega | (rcases m with _ | _ | _ | _ | _ | _ | m <;> first | exact ⟨by decide, rfl⟩ | omega))) ?_
  refine Aw_loop_rw (ι := { n : Nat // n ≤ r.length ∧ upToM r k t n = lastM r k t }) (fun q => S [(8, .t (iT (((q.1 : Nat) : Int) - 1))), (6, .t (.c (.ph 0 0 0))), (2, .t (iT t)), (1, .t (sT k)), (0, .t (runT r))] (hpL [some (enO zEnt)]) 1) (fun q => q.1) ⟨r.length, Nat.le_refl _, rfl⟩ ?_
  rintro ⟨n, hn, h⟩
  dsimp only
  rcases n with _ | j
  · have g1 : decide ((0 : Int) ≤ ((0 : Nat) : Int) - 1) = false := rfl
    rw [upToM_0] at h
    rw [← h]
    repeat (first | apply Aw_seq | apply Aw_block | apply Aw_skip | apply Aw_exit | refine Aw_condt rfl ?_ | refine Aw_condf rfl ?_ | (refine qr ?_; simp only [go_sem, Nat.reduceEqDiff, reduceIte, Nat.reduceAdd, Nat.reduceMul, Nat.reduceSub, Nat.reduceLT, Nat.reduceLeDiff, Nat.reduceBEq, g1]) | (refine qd (by kernel_rfl) (by kernel_rfl) ?_; simp only [go_sem, Nat.reduceEqDiff, reduceIte, Nat.reduceAdd, Nat.reduceMul, Nat.reduceSub, Nat.reduceLT, Nat.reduceLeDiff, Nat.reduceBEq, g1]) | refine dk (by kernel_rfl) ?_)
    exact Aw_ret (ret0 (.inl rfl) (by simp only [go_sem, Nat.reduceEqDiff, reduceIte, Nat.reduceAdd, Nat.reduceMul, Nat.reduceSub, Nat.reduceLT, Nat.reduceLeDiff, Nat.reduceBEq]; rfl) (by rfl) rfl)
  · rw [back1]
    have g1 : decide ((0 : Int) ≤ (j : Int)) = true := decide_eq_true (by omega)
    have w1 : IntKind.i64.wrap ((j : Int) - 1) = (j : Int) - 1 := wrap_in (by omega) (by omega)
    obtain ⟨e, hx⟩ : ∃ e, r[j]? = some e := ⟨_, List.getElem?_eq_getElem (by omega)⟩
    rw [upToM_succ hx] at h
    cases c1 : decide (e.key = k)
    · rw [if_neg (by simp [hit, c1])] at h
      repeat (first | apply Aw_seq | apply Aw_block | apply Aw_skip | apply Aw_exit | refine Aw_condt rfl ?_ | refine Aw_condf rfl ?_ | (refine qr ?_; simp only [go_sem, Nat.reduceEqDiff, reduceIte, Nat.reduceAdd, Nat.reduceMul, Nat.reduceSub, Nat.reduceLT, Nat.reduceLeDiff, Nat.reduceBEq, g1, hx, c1, w1]) | (refine qd (by kernel_rfl) (by kernel_rfl) ?_; simp only [go_sem, Nat.reduceEqDiff, reduceIte, Nat.reduceAdd, Nat.reduceMul, Nat.reduceSub, Nat.reduceLT, Nat.reduceLeDiff, Nat.reduceBEq, g1, hx, c1, w1]) | refine dk (by kernel_rfl) ?_)
      refine ⟨⟨j, by omega, h⟩, [0], ?_, rwL (by repeat (first | exact trivial | refine ⟨rfl, rfl, ?_⟩)) (by rfl) (by simp only [go_sem, Nat.reduceEqDiff, reduceIte, Nat.reduceAdd, Nat.reduceMul, Nat.reduceSub, Nat.reduceLT, Nat.reduceLeDiff, Nat.reduceBEq]; first | done | rfl) (by decide) (by intro m hm; first | omega | (rcases m with _ | _ | _ | _ | _ | _ | m <;> first | exact ⟨by decide, rfl⟩ | omega))⟩
      show j < j + 1; omega
    · cases c2 : decide (e.time ≤ t)
      · rw [if_neg (by simp [hit, c2])] at h
        repeat (first | apply Aw_seq | apply Aw_block | apply Aw_skip | apply Aw_exit | refine Aw_condt rfl ?_ | refine Aw_condf rfl ?_ | (refine qr ?_; simp only [go_sem, Nat.reduceEqDiff, reduceIte, Nat.reduceAdd, Nat.reduceMul, Nat.reduceSub, Nat.reduceLT, Nat.reduceLeDiff, Nat.reduceBEq, g1, hx, c1, c2, w1]) | (refine qd (by kernel_rfl) (by kernel_rfl) ?_; simp only [go_sem, Nat.reduceEqDiff, reduceIte, Nat.reduceAdd, Nat.reduceMul, Nat.reduceSub, Nat.reduceLT, Nat.reduceLeDiff, Nat.reduceBEq, g1, hx, c1, c2, w1]) | refine dk (by kernel_rfl) ?_)
        refine ⟨⟨j, by omega, h⟩, [0], ?_, rwL (by repeat (first | exact trivial | refine ⟨rfl, rfl, ?_⟩)) (by rfl) (by simp only [go_sem, Nat.reduceEqDiff, reduceIte, Nat.reduceAdd, Nat.reduceMul, Nat.reduceSub, Nat.reduceLT, Nat.reduceLeDiff, Nat.reduceBEq]; first | done | rfl) (by decide) (by intro m hm; first | omega | (rcases m with _ | _ | _ | _ | _ | _ | m <;> first | exact ⟨by decide, rfl⟩ | omega))⟩
        show j < j + 1; omega
      · rw [if_pos (by simp [hit, c1, c2])] at h
        rw [← h]
        repeat (first | apply Aw_seq | apply Aw_block | apply Aw_skip | apply Aw_exit | refine Aw_condt rfl ?_ | refine Aw_condf rfl ?_ | (refine qr ?_; simp only [go_sem, Nat.reduceEqDiff, reduceIte, Nat.reduceAdd, Nat.reduceMul, Nat.reduceSub, Nat.reduceLT, Nat.reduceLeDiff, Nat.reduceBEq, g1, hx, c1, c2]) | (refine qd (by kernel_rfl) (by kernel_rfl) ?_; simp only [go_sem, Nat.reduceEqDiff, reduceIte, Nat.reduceAdd, Nat.reduceMul, Nat.reduceSub, Nat.reduceLT, Nat.reduceLeDiff, Nat.reduceBEq, g1, hx, c1, c2]) | refine dk (by kernel_rfl) ?_)
        exact Aw_ret (ret0 (.inl rfl) (by simp only [go_sem, Nat.reduceEqDiff, reduceIte, Nat.reduceAdd, Nat.reduceMul, Nat.reduceSub, Nat.reduceLT, Nat.reduceLeDiff, Nat.reduceBEq]; rfl) (by rfl) rfl)
end Go.Proofs.Ytcbhgglpgphimaa.Ab
namespace Go.Proofs.Ytcbhgglpgphimaa.Ab
set_option linter.deprecated false
set_option linter.unusedVariables false
set_option linter.unusedSimpArgs false
open Go Go.Proofs
set_option linter.unusedSimpArgs false
set_option linter.unusedVariables false
def Asc (xs : List ByteArray) : Prop := xs.Pairwise fun a b => klt a b = true
theorem asc_uni : ∀ {xs ys : List ByteArray}, Asc xs → Asc ys → (∀ k, k ∈ xs ↔ k ∈ ys) → xs = ys
  | [], [], _, _, _ => rfl
  | [], y :: ys, _, _, h => absurd ((h y).2 (by simp)) (by simp)
  | x :: xs, [], _, _, h => absurd ((h x).1 (by simp)) (by simp)
  | x :: xs, y :: ys, hx, hy, h => by
    obtain ⟨hx1, hx2⟩ := List.pairwise_cons.1 hx
    obtain ⟨hy1, hy2⟩ := List.pairwise_cons.1 hy
    have e : x = y := by
      rcases List.mem_cons.1 ((h x).1 (by simp)) with e | h1
      · exact e
      · rcases List.mem_cons.1 ((h y).2 (by simp)) with e | h2
        · exact e.symm
        · have := klt_trans (hy1 x h1) (hx1 y h2)
          rw [klt_irrefl] at this; cases this
    subst e
    rw [asc_uni hx2 hy2 fun k => ⟨fun hk => ?_, fun hk => ?_⟩]
    · rcases List.mem_cons.1 ((h k).1 (List.mem_cons_of_mem _ hk)) with e | h1
      · subst e; have := hx1 k hk; rw [klt_irrefl] at this; cases this
      · exact h1
    · rcases List.mem_cons.1 ((h k).2 (List.mem_cons_of_mem _ hk)) with e | h1
      · subst e; have := hy1 k hk; rw [klt_irrefl] at this; cases this
      · exact h1
def insK (k : ByteArray) : List ByteArray → List ByteArray
  | [] => [k]
  | x :: r => if klt x k = true then x :: insK k r else k :: x :: r
open Classical in
theorem putL_done (k : ByteArray) : ∀ (xs out : List ByteArray), putL k xs true out = if k ∈ xs then none else some (out ++ xs)
  | [], out => by simp [putL]
  | x :: r, out => by
    simp only [putL]
    by_cases e : x = k
    · simp [e]
    · rw [if_neg e]
      simp only [Bool.not_true, Bool.false_and, Bool.true_or, Bool.false_eq_true, if_false]
      rw [putL_done k r]
      by_cases h : k ∈ r
      · simp [h]
      · simp [h, Ne.symm e]
open Classical in
theorem putL_ins (k : ByteArray) : ∀ (xs out : List ByteArray), putL k xs false out = if k ∈ xs then none else some (out ++ insK k xs)
  | [], out => by simp [putL, insK]
  | x :: r, out => by
    simp only [putL, insK]
    by_cases e : x = k
    · simp [e]
    · rw [if_neg e]
      cases c : klt x k
      · simp only [Bool.not_false, Bool.true_and, Bool.false_or, if_true, Bool.false_eq_true, if_false]
        rw [putL_done]
        by_cases h : k ∈ r
        · simp [h]
        · simp [h, Ne.symm e]
      · simp only [Bool.not_true, Bool.and_false, Bool.false_or, Bool.false_eq_true, if_false, if_true]
        rw [putL_ins k r]
        by_cases h : k ∈ r
        · simp [h]
        · simp [h, Ne.symm e]
theorem insK_mem {k y : ByteArray} : ∀ {xs : List ByteArray}, y ∈ insK k xs ↔ y = k ∨ y ∈ xs
  | [] => by simp [insK]
  | x :: r => by
    simp only [insK]
    split
    · simp only [List.mem_cons, insK_mem]; constructor <;> (rintro (h | h | h) <;> simp [h])
    · simp
theorem insK_asc {k : ByteArray} : ∀ {xs : List ByteArray}, Asc xs → k ∉ xs → Asc (insK k xs)
  | [], _, _ => by simp [insK, Asc]
  | x :: r, h, hk => by
    obtain ⟨h1, h2⟩ := List.pairwise_cons.1 h
    simp only [insK]
    cases c : klt x k
    · have hxk : klt k x = true := klt_total c (fun e => hk (by simp [e]))
      simp only [Bool.false_eq_true, if_false]
      exact List.pairwise_cons.2 ⟨fun y hy => by
        rcases List.mem_cons.1 hy with rfl | hy
        · exact hxk
        · exact klt_trans hxk (h1 y hy), h⟩
    · rw [if_pos rfl]
      refine List.pairwise_cons.2 ⟨fun y hy => ?_, insK_asc h2 fun e => hk (List.mem_cons_of_mem _ e)⟩
      rcases insK_mem.1 hy with rfl | hy
      · exact c
      · exact h1 y hy
open Classical in
theorem putK_eq (ks : List ByteArray) (k : ByteArray) : putK ks k = if k ∈ ks then ks else insK k ks := by
  unfold putK
  rw [putL_ins]
  by_cases h : k ∈ ks <;> simp [h]
open Classical in
theorem putK_in {ks : List ByteArray} {k y : ByteArray} : y ∈ putK ks k ↔ y = k ∨ y ∈ ks := by
  rw [putK_eq]
  split
  · rename_i h
    exact ⟨.inr, fun e => e.elim (fun e => e ▸ h) id⟩
  · exact insK_mem
open Classical in
theorem putK_asc {ks : List ByteArray} {k : ByteArray} (h : Asc ks) : Asc (putK ks k) := by
  rw [putK_eq]
  split
  · exact h
  · exact insK_asc h ‹_›
def allK (xs : List ByteArray) : List ByteArray := xs.foldl putK []
theorem foldK : ∀ (xs ks : List ByteArray), Asc ks → Asc (xs.foldl putK ks) ∧ ∀ y, y ∈ xs.foldl putK ks ↔ y ∈ xs ∨ y ∈ ks
  | [], ks, h => ⟨h, by simp⟩
  | x :: r, ks, h => by
    obtain ⟨h1, h2⟩ := foldK r (putK ks x) (putK_asc h)
    refine ⟨h1, fun y => (h2 y).trans ?_⟩
    rw [putK_in, List.mem_cons]
    constructor
    · rintro (h | h | h) <;> simp [h]
    · rintro ((h | h) | h) <;> simp [h]
theorem allK_asc (xs : List ByteArray) : Asc (allK xs) := (foldK xs [] .nil).1
theorem allK_mem {xs : List ByteArray} {y : ByteArray} : y ∈ allK xs ↔ y ∈ xs := by
  have := (foldK xs [] .nil).2 y
  simpa [allK] using this
-- sorted and compacted
theorem tl_data (x : ByteArray) : x.toList = x.data.toList := by
  have := ByteArray.toList_eq x
  exact this
theorem lt_u8 (x y : ByteArray) : klt x y = true ↔ u8s x < u8s y := by
  rw [klt_iff, tl_data, tl_data]; rfl
theorem lt_l (x y : List UInt8) : x < y ↔ klt (bsOf x) (bsOf y) = true := by rw [lt_u8, u8_bs, u8_bs]
theorem sortU (l : List (List UInt8)) : (l.mergeSort fun x y => decide (x ≤ y)).Pairwise fun a b => ¬ b < a := by
  have h := List.pairwise_mergeSort (le := fun x y : List UInt8 => decide (x ≤ y)) (fun a b c h1 h2 => by
    simp only [decide_eq_true_eq] at *; exact List.le_trans h1 h2) (fun a b => by
    simp only [Bool.or_eq_true, decide_eq_true_eq]; exact List.le_total a b) l
  exact h.imp fun h => by
    simp only [decide_eq_true_eq] at h
    exact List.not_lt.2 h
theorem compU (d : Array (List UInt8)) (hs : d.toList.Pairwise fun a b => ¬ b < a) : ∀ m, m ≤ d.size →
    (Lib.compactUpTo d m).Pairwise (· < ·) ∧ (∀ x, x ∈ Lib.compactUpTo d m ↔ ∃ j, j < m ∧ d[j]! = x)
  | 0, _ => by simp [Lib.compactUpTo]
  | m + 1, h => by
    obtain ⟨h1, h2⟩ := compU d hs m (by omega)
    have hle : ∀ i j, i < j → j < d.size → ¬ d[j]! < d[i]! := fun i j hij hj => by
      have := List.pairwise_iff_getElem.1 hs i j (by simpa using (by omega : i < d.size)) (by simpa using hj) hij
      simpa [getElem!_pos, show i < d.size by omega, hj] using this
    rw [Lib.compactUpTo_succ]
    cases c : Lib.keeps d m
    · have hm : m ≠ 0 ∧ d[m]! = d[m - 1]! := by
        simp only [Lib.keeps, decide_eq_false_iff_not, not_or, Classical.not_not] at c
        exact c
      refine ⟨by simpa using h1, fun x => ?_⟩
      simp only [Bool.false_eq_true, if_false, List.append_nil]
      rw [h2]
      constructor
      · rintro ⟨j, hj, e⟩; exact ⟨j, by omega, e⟩
      · rintro ⟨j, hj, e⟩
        by_cases e2 : j = m
        · subst e2; exact ⟨j - 1, by omega, by rw [← e, hm.2]⟩
        · exact ⟨j, by omega, e⟩
    · have hm : m = 0 ∨ d[m]! ≠ d[m - 1]! := by simpa [Lib.keeps] using c
      simp only [if_true]
      refine ⟨List.pairwise_append.2 ⟨h1, by simp, fun x hx y hy => ?_⟩, fun x => ?_⟩
      · obtain rfl : y = d[m]! := by simpa using hy
        obtain ⟨j, hj, rfl⟩ := (h2 x).1 hx
        rcases hm with hm | hm
        · omega
        · have a1 : ¬ d[m - 1]! < d[j]! := by
            by_cases e : j = m - 1
            · subst e; exact List.lt_irrefl _
            · exact hle j (m - 1) (by omega) (by omega)
          have a2 := hle (m - 1) m (by omega) (by omega)
          have a3 : d[m - 1]! < d[m]! := by
            rcases Std.lt_trichotomy d[m - 1]! d[m]! with x | x | x
            · exact x
            · exact absurd x.symm hm
            · exact absurd x a2
          rcases Std.lt_trichotomy d[j]! d[m - 1]! with x | x | x
          · exact List.lt_trans x a3
          · rw [x]; exact a3
          · exact absurd x a1
      · rw [List.mem_append, h2]
        constructor
        · rintro (⟨j, hj, e⟩ | h3)
          · exact ⟨j, by omega, e⟩
          · exact ⟨m, by omega, by simpa using (by simpa using h3 : x = d[m]!).symm⟩
        · rintro ⟨j, hj, e⟩
          by_cases e2 : j = m
          · subst e2; exact .inr (by simp [e])
          · exact .inl ⟨j, by omega, e⟩
theorem comp_sort (xs : List ByteArray) : compK (sortK xs) = allK xs := by
  have hs : (sortK xs).map u8s = (xs.map u8s).mergeSort fun x y => decide (x ≤ y) := sortK_u8 xs
  obtain ⟨h1, h2⟩ := compU ((sortK xs).map u8s).toArray (by rw [hs]; exact sortU _) ((sortK xs).map u8s).length (by simp)
  refine asc_uni (ys := allK xs) ?_ (allK_asc xs) fun k => ?_
  · unfold compK Asc Lib.compact
    rw [List.pairwise_map]
    exact h1.imp fun h => (lt_l _ _).1 h
  · rw [allK_mem]
    unfold compK Lib.compact
    rw [List.mem_map]
    constructor
    · rintro ⟨a, ha, rfl⟩
      obtain ⟨j, hj, e⟩ := (h2 a).1 ha
      have : a ∈ (sortK xs).map u8s := by
        rw [← e]
        have : ((sortK xs).map u8s).toArray[j]! = ((sortK xs).map u8s)[j] := by rw [getElem!_pos _ j (by simpa using hj)]; rfl
        rw [this]; exact List.getElem_mem hj
      rw [hs, List.mem_mergeSort, List.mem_map] at this
      obtain ⟨y, hy, rfl⟩ := this
      rw [bs_u8]; exact hy
    · intro hk
      have : u8s k ∈ (sortK xs).map u8s := by rw [hs, List.mem_mergeSort]; exact List.mem_map_of_mem hk
      obtain ⟨j, hj, e⟩ := List.getElem_of_mem this
      exact ⟨u8s k, (h2 _).2 ⟨j, hj, by rw [getElem!_pos _ j (by simpa using hj)]; exact e⟩, bs_u8 k⟩
end Go.Proofs.Ytcbhgglpgphimaa.Ab
namespace Go.Proofs.Ytcbhgglpgphimaa.Ab
set_option linter.deprecated false
set_option linter.unusedVariables false
set_option linter.unusedSimpArgs false
open Go Go.Proofs
set_option maxRecDepth 10000
set_option maxHeartbeats 8000000
set_option linter.unusedSimpArgs false
set_option linter.unusedVariables false
theorem tfil {α : Type} {p : α → Bool} {xs : List α} {i : Nat} {x : α} (h : xs[i]? = some x) : (xs.take (i + 1)).filter p = (xs.take i).filter p ++ (if p x = true then [x] else []) := by
  rw [List.take_add_one, h, List.filter_append]
  cases c : p x <;> simp [c]
theorem tfil_le {α : Type} (p : α → Bool) (xs : List α) (i : Nat) : ((xs.take i).filter p).length ≤ i := Nat.le_trans (List.length_filter_le _ _) (by rw [List.length_take]; omega)
theorem keysSort_ac (ks : List ByteArray) (hs : SmS ks) (hl : ks.length ≤ 4000000) : AC Try.prog 35 [strsT ks] noHp 0 ⟨.t (.c (.h 0)), hpL [some (kRow (allK (ks.filter keyOk)))], 1⟩ := by
  refine AC_of Try.func35 rfl Try.ntmps35 Try.results35 (by kernel_rfl) rfl ?_
  simp only [List.zipIdx, List.map, Nat.zero_add, Nat.reduceAdd]
  repeat (first | apply Aw_seq | apply Aw_block | apply Aw_skip | apply Aw_exit | refine Aw_condt rfl ?_ | refine Aw_condf rfl ?_ | (refine qr ?_; simp only [go_sem, Nat.reduceEqDiff, reduceIte, Nat.reduceAdd, Nat.reduceMul, Nat.reduceSub, Nat.reduceLT, Nat.reduceLeDiff, Nat.reduceBEq]) | (refine qd (by kernel_rfl) (by kernel_rfl) ?_; simp only [go_sem, Nat.reduceEqDiff, reduceIte, Nat.reduceAdd, Nat.reduceMul, Nat.reduceSub, Nat.reduceLT, Nat.reduceLeDiff, Nat.reduceBEq]) | refine dk (by kernel_rfl) ?_)
  refine Aw.own (t := 3) (e := 9) (j := 1) rfl (by decide) (by simp only [Nat.reduceAdd]; rfl) ?_
  refine Aw.rw (rw1 (m := _) (l' := [(8, .t (iT (0 : Nat))), (7, .t (iT ks.length)), (6, .t (strsT ks)), (0, .t (strsT ks)), (3, .t (.c (.h 0)))]) (by repeat (first | exact trivial | refine ⟨rfl, rfl, ?_⟩)) (show _ = some (dRow 9 1 (((ks.take 0).filter keyOk).map strD)) from rfl)) ?_
  refine Aw_loop1 (ι := { i : Nat // i ≤ ks.length ∧ (True) }) (fun q => [(8, .t (iT (q.1 : Nat))), (7, .t (iT ks.length)), (6, .t (strsT ks)), (0, .t (strsT ks)), (3, .t (.c (.h 0)))]) (fun q => dRow 9 1 (((ks.take q.1).filter keyOk).map strD)) (fun q => ks.length - q.1) ⟨0, Nat.zero_le _, trivial⟩ ?_
  rintro ⟨i, hi, hp⟩
  dsimp only
  by_cases hlt : i < ks.length
  · have h1 : (i : Int) < (ks.length : Int) := by omega
    have h2 := wrap_succ hlt hs.len
    have hb : (((ks.take i).filter keyOk).length + 1) * 16 ≤ 140737488355328 := by have := tfil_le keyOk ks i; omega
    obtain ⟨e, hx⟩ : ∃ e, ks[i]? = some e := ⟨_, List.getElem?_eq_getElem hlt⟩
    have he := hs.key e (List.mem_of_getElem? hx)
    have hc := tfil (p := keyOk) hx
    cases c : keyOk e
    · rw [c, if_neg (by simp), List.append_nil] at hc
      repeat (first | apply Aw_seq | apply Aw_block | apply Aw_skip | apply Aw_exit | refine Aw_condt rfl ?_ | refine Aw_condf rfl ?_ | (refine qr ?_; simp only [go_sem, Nat.reduceEqDiff, reduceIte, Nat.reduceAdd, Nat.reduceMul, Nat.reduceSub, Nat.reduceLT, Nat.reduceLeDiff, Nat.reduceBEq, h1, h2, hx, c]) | (refine qd (by kernel_rfl) (by kernel_rfl) ?_; simp only [go_sem, Nat.reduceEqDiff, reduceIte, Nat.reduceAdd, Nat.reduceMul, Nat.reduceSub, Nat.reduceLT, Nat.reduceLeDiff, Nat.reduceBEq, h1, h2, hx, c]) | refine dk (by kernel_rfl) ?_ | (refine qp (keyOk_ac _ he) (by simp only [go_sem, Nat.reduceEqDiff, reduceIte, Nat.reduceAdd, Nat.reduceMul, Nat.reduceSub, Nat.reduceLT, Nat.reduceLeDiff, Nat.reduceBEq, h1, h2, hx, c]; first | done | rfl) rfl (by simp only [go_sem, Nat.reduceLT]) rfl rfl ?_; simp only [go_sem, Nat.reduceEqDiff, reduceIte, Nat.reduceAdd, Nat.reduceMul, Nat.reduceSub, Nat.reduceLT, Nat.reduceLeDiff, Nat.reduceBEq, h1, h2, hx, c]))
      refine ⟨⟨i + 1, by omega, trivial⟩, [_], (by simp only []; omega), rw1 (by repeat (first | exact trivial | refine ⟨rfl, rfl, ?_⟩)) (by simp only [go_sem, Nat.reduceEqDiff, reduceIte, Nat.reduceAdd, Nat.reduceMul, Nat.reduceSub, Nat.reduceLT, Nat.reduceLeDiff, Nat.reduceBEq]; rw [hc])⟩
    · rw [c, if_pos rfl] at hc
      repeat (first | apply Aw_seq | apply Aw_block | apply Aw_skip | apply Aw_exit | refine Aw_condt rfl ?_ | refine Aw_condf rfl ?_ | (refine qr ?_; simp only [go_sem, Nat.reduceEqDiff, reduceIte, Nat.reduceAdd, Nat.reduceMul, Nat.reduceSub, Nat.reduceLT, Nat.reduceLeDiff, Nat.reduceBEq, h1, h2, hx, c, hb]) | (refine qd (by kernel_rfl) (by kernel_rfl) ?_; simp only [go_sem, Nat.reduceEqDiff, reduceIte, Nat.reduceAdd, Nat.reduceMul, Nat.reduceSub, Nat.reduceLT, Nat.reduceLeDiff, Nat.reduceBEq, h1, h2, hx, c, hb]) | refine dk (by kernel_rfl) ?_ | (refine qp (keyOk_ac _ he) (by simp only [go_sem, Nat.reduceEqDiff, reduceIte, Nat.reduceAdd, Nat.reduceMul, Nat.reduceSub, Nat.reduceLT, Nat.reduceLeDiff, Nat.reduceBEq, h1, h2, hx, c, hb]; first | done | rfl) rfl (by simp only [go_sem, Nat.reduceLT]) rfl rfl ?_; simp only [go_sem, Nat.reduceEqDiff, reduceIte, Nat.reduceAdd, Nat.reduceMul, Nat.reduceSub, Nat.reduceLT, Nat.reduceLeDiff, Nat.reduceBEq, h1, h2, hx, c, hb]))
      refine ⟨⟨i + 1, by omega, trivial⟩, [_], (by simp only []; omega), rw1 (by repeat (first | exact trivial | refine ⟨rfl, rfl, ?_⟩)) (by simp only [go_sem, Nat.reduceEqDiff, reduceIte, Nat.reduceAdd, Nat.reduceMul, Nat.reduceSub, Nat.reduceLT, Nat.reduceLeDiff, Nat.reduceBEq]; rw [hc]; simp only [go_sem])⟩
  · have h1 : ¬ (i : Int) < (ks.length : Int) := by omega
    have he : i = ks.length := by omega
    subst he
    rw [List.take_length]
    have hf := List.length_filter_le keyOk ks
    have k1 := sort_ac (ks.filter keyOk) (by omega)
    have k2 := comp_ac (sortK (ks.filter keyOk)) (by rw [sortK_len]; omega)
    rw [comp_sort] at k2
    have hf2 := compK_len (sortK (ks.filter keyOk))
    rw [comp_sort, sortK_len] at hf2
    have hb : (allK (ks.filter keyOk)).length * 16 ≤ 140737488355328 := by omega

    repeat (first | apply Aw_seq | apply Aw_block | apply Aw_skip | apply Aw_exit | refine Aw_condt rfl ?_ | refine Aw_condf rfl ?_ | (refine qr ?_; simp only [go_sem, Nat.reduceEqDiff, reduceIte, Nat.reduceAdd, Nat.reduceMul, Nat.reduceSub, Nat.reduceLT, Nat.reduceLeDiff, Nat.reduceBEq, h1, hb]) | (refine qd (by kernel_rfl) (by kernel_rfl) ?_; simp only [go_sem, Nat.reduceEqDiff, reduceIte, Nat.reduceAdd, Nat.reduceMul, Nat.reduceSub, Nat.reduceLT, Nat.reduceLeDiff, Nat.reduceBEq, h1, hb]) | refine dk (by kernel_rfl) ?_ | (refine qx (call_L (N' := [0]) (L := []) (k1) rfl (.cons (.nm rfl) (.nil)) (by decide) (by decide) (by decide) (by simp only [go_sem, Nat.reduceEqDiff, reduceIte, Nat.reduceAdd, Nat.reduceMul, Nat.reduceSub, Nat.reduceLT, Nat.reduceLeDiff, Nat.reduceBEq, h1, hb]; first | done | rfl) (.inl rfl) rfl (by decide)) (by simp only [go_sem, Nat.reduceEqDiff, reduceIte, Nat.reduceAdd, Nat.reduceMul, Nat.reduceSub, Nat.reduceLT, Nat.reduceLeDiff, Nat.reduceBEq, h1, hb]; first | done | rfl) rfl (by simp only [go_sem, Nat.reduceLT]) ?_; simp only [go_sem, Nat.reduceEqDiff, reduceIte, Nat.reduceAdd, Nat.reduceMul, Nat.reduceSub, Nat.reduceLT, Nat.reduceLeDiff, Nat.reduceBEq, h1, hb]) | (refine qx (call_L (N' := [0]) (L := []) (k2) rfl (.cons (.nm rfl) (.nil)) (by decide) (by decide) (by decide) (by simp only [go_sem, Nat.reduceEqDiff, reduceIte, Nat.reduceAdd, Nat.reduceMul, Nat.reduceSub, Nat.reduceLT, Nat.reduceLeDiff, Nat.reduceBEq, h1, hb]; first | done | rfl) (.inl rfl) rfl (by decide)) (by simp only [go_sem, Nat.reduceEqDiff, reduceIte, Nat.reduceAdd, Nat.reduceMul, Nat.reduceSub, Nat.reduceLT, Nat.reduceLeDiff, Nat.reduceBEq, h1, hb]; first | done | rfl) rfl (by simp only [go_sem, Nat.reduceLT]) ?_; simp only [go_sem, Nat.reduceEqDiff, reduceIte, Nat.reduceAdd, Nat.reduceMul, Nat.reduceSub, Nat.reduceLT, Nat.reduceLeDiff, Nat.reduceBEq, h1, hb]))


    exact Aw_ret (retL (M := [5]) (.inl rfl) (by simp only [go_sem, Nat.reduceEqDiff, reduceIte, Nat.reduceAdd, Nat.reduceMul, Nat.reduceSub, Nat.reduceLT, Nat.reduceLeDiff, Nat.reduceBEq]; first | done | rfl) rfl rfl (by rfl) (by simp only [go_sem, Nat.reduceEqDiff, reduceIte, Nat.reduceAdd, Nat.reduceMul, Nat.reduceSub, Nat.reduceLT, Nat.reduceLeDiff, Nat.reduceBEq]; first | done | rfl | (and_intros <;> rfl)) (by decide) (by intro m hm; first | omega | (rcases m with _ | _ | _ | _ | _ | _ | m <;> first | exact ⟨by decide, rfl⟩ | omega)))
end Go.Proofs.Ytcbhgglpgphimaa.Ab
namespace Go.Proofs.Ytcbhgglpgphimaa.Ab
set_option linter.deprecated false
set_option linter.unusedVariables false
set_option linter.unusedSimpArgs false
open Go Go.Proofs
set_option maxRecDepth 10000
set_option maxHeartbeats 8000000
set_option linter.unusedSimpArgs false
set_option linter.unusedVariables false
abbrev nilT : TV := .c (.d (.s (.slice none 0 0)))
theorem bitsE_ac : AC Try.prog 193 [sT zs] noHp 0 ⟨.t (bT true), noHp, 0⟩ := by
  have g1 : decide ((0 : Int) < (zs.size : Int)) = false := rfl
  have g2 : decide ((zs.size : Int) ≤ 400) = true := rfl
  refine AC_of Try.func193 rfl Try.ntmps193 Try.results193 (by kernel_rfl) rfl ?_
  simp only [List.zipIdx, List.map, Nat.zero_add, Nat.reduceAdd]
  repeat (first | apply Aw_seq | apply Aw_block | apply Aw_skip | apply Aw_exit | refine Aw_condt rfl ?_ | refine Aw_condf rfl ?_ | (refine qr ?_; simp only [go_sem, Nat.reduceEqDiff, reduceIte, Nat.reduceAdd, Nat.reduceMul, Nat.reduceSub, Nat.reduceLT, Nat.reduceLeDiff, Nat.reduceBEq]) | (refine qd (by kernel_rfl) (by kernel_rfl) ?_; simp only [go_sem, Nat.reduceEqDiff, reduceIte, Nat.reduceAdd, Nat.reduceMul, Nat.reduceSub, Nat.reduceLT, Nat.reduceLeDiff, Nat.reduceBEq]) | refine dk (by kernel_rfl) ?_)
  refine Aw_rounds 1 ?_
  refine AwR_succ ?_
  repeat (first | apply Aw_seq | apply Aw_block | apply Aw_skip | apply Aw_exit | refine Aw_condt rfl ?_ | refine Aw_condf rfl ?_ | (refine qr ?_; simp only [go_sem, Nat.reduceEqDiff, reduceIte, Nat.reduceAdd, Nat.reduceMul, Nat.reduceSub, Nat.reduceLT, Nat.reduceLeDiff, Nat.reduceBEq, g1, g2]) | (refine qd (by kernel_rfl) (by kernel_rfl) ?_; simp only [go_sem, Nat.reduceEqDiff, reduceIte, Nat.reduceAdd, Nat.reduceMul, Nat.reduceSub, Nat.reduceLT, Nat.reduceLeDiff, Nat.reduceBEq, g1, g2]) | refine dk (by kernel_rfl) ?_)
  exact Aw_ret (ret0 (.inl rfl) (by simp only [go_sem, Nat.reduceEqDiff, reduceIte, Nat.reduceAdd, Nat.reduceMul, Nat.reduceSub, Nat.reduceLT, Nat.reduceLeDiff, Nat.reduceBEq]; rfl) (by rfl) rfl)
theorem partsE_ac (keep : Int) : AC Try.prog 194 [sveP (eSve keep), iT 0, sT zs, nilT] noHp 0 ⟨.tup [nilT, bT true], noHp, 0⟩ := by
  have k := branchesE_ac keep 0
  unfold eSve at k ⊢
  have g1 : decide ((5 : Int) < (zs.size : Int)) = false := rfl
  have g2 : decide ((0 : Int) < 0) = false := rfl
  refine AC_of Try.func194 rfl Try.ntmps194 Try.results194 (by kernel_rfl) rfl ?_
  simp only [List.zipIdx, List.map, Nat.zero_add, Nat.reduceAdd]
  repeat (first | apply Aw_seq | apply Aw_block | apply Aw_skip | apply Aw_exit | refine Aw_condt rfl ?_ | refine Aw_condf rfl ?_ | (refine qr ?_; simp only [go_sem, Nat.reduceEqDiff, reduceIte, Nat.reduceAdd, Nat.reduceMul, Nat.reduceSub, Nat.reduceLT, Nat.reduceLeDiff, Nat.reduceBEq, g1]) | (refine qd (by kernel_rfl) (by kernel_rfl) ?_; simp only [go_sem, Nat.reduceEqDiff, reduceIte, Nat.reduceAdd, Nat.reduceMul, Nat.reduceSub, Nat.reduceLT, Nat.reduceLeDiff, Nat.reduceBEq, g1]) | refine dk (by kernel_rfl) ?_ | (refine qp (k) (by simp only [go_sem, Nat.reduceEqDiff, reduceIte, Nat.reduceAdd, Nat.reduceMul, Nat.reduceSub, Nat.reduceLT, Nat.reduceLeDiff, Nat.reduceBEq, g1]; first | done | rfl) rfl (by simp only [go_sem, Nat.reduceLT]) rfl rfl ?_; simp only [go_sem, Nat.reduceEqDiff, reduceIte, Nat.reduceAdd, Nat.reduceMul, Nat.reduceSub, Nat.reduceLT, Nat.reduceLeDiff, Nat.reduceBEq, g1]))
  refine Aw_rounds 1 ?_
  refine AwR_succ ?_
  repeat (first | apply Aw_seq | apply Aw_block | apply Aw_skip | apply Aw_exit | refine Aw_condt rfl ?_ | refine Aw_condf rfl ?_ | (refine qr ?_; simp only [go_sem, Nat.reduceEqDiff, reduceIte, Nat.reduceAdd, Nat.reduceMul, Nat.reduceSub, Nat.reduceLT, Nat.reduceLeDiff, Nat.reduceBEq, g2]) | (refine qd (by kernel_rfl) (by kernel_rfl) ?_; simp only [go_sem, Nat.reduceEqDiff, reduceIte, Nat.reduceAdd, Nat.reduceMul, Nat.reduceSub, Nat.reduceLT, Nat.reduceLeDiff, Nat.reduceBEq, g2]) | refine dk (by kernel_rfl) ?_)
  exact Aw_ret (ret0 (.inl rfl) (by simp only [go_sem, Nat.reduceEqDiff, reduceIte, Nat.reduceAdd, Nat.reduceMul, Nat.reduceSub, Nat.reduceLT, Nat.reduceLeDiff, Nat.reduceBEq]; rfl) (by rfl) rfl)
theorem textsE_ac : AC Try.prog 195 [nilT] noHp 0 ⟨.t nilT, noHp, 0⟩ := by
  have g2 : decide ((0 : Int) < 0) = false := rfl
  refine AC_of Try.func195 rfl Try.ntmps195 Try.results195 (by kernel_rfl) rfl ?_
  simp only [List.zipIdx, List.map, Nat.zero_add, Nat.reduceAdd]
  repeat (first | apply Aw_seq | apply Aw_block | apply Aw_skip | apply Aw_exit | refine Aw_condt rfl ?_ | refine Aw_condf rfl ?_ | (refine qr ?_; simp only [go_sem, Nat.reduceEqDiff, reduceIte, Nat.reduceAdd, Nat.reduceMul, Nat.reduceSub, Nat.reduceLT, Nat.reduceLeDiff, Nat.reduceBEq]) | (refine qd (by kernel_rfl) (by kernel_rfl) ?_; simp only [go_sem, Nat.reduceEqDiff, reduceIte, Nat.reduceAdd, Nat.reduceMul, Nat.reduceSub, Nat.reduceLT, Nat.reduceLeDiff, Nat.reduceBEq]) | refine dk (by kernel_rfl) ?_)
  refine Aw_rounds 1 ?_
  refine AwR_succ ?_
  repeat (first | apply Aw_seq | apply Aw_block | apply Aw_skip | apply Aw_exit | refine Aw_condt rfl ?_ | refine Aw_condf rfl ?_ | (refine qr ?_; simp only [go_sem, Nat.reduceEqDiff, reduceIte, Nat.reduceAdd, Nat.reduceMul, Nat.reduceSub, Nat.reduceLT, Nat.reduceLeDiff, Nat.reduceBEq, g2]) | (refine qd (by kernel_rfl) (by kernel_rfl) ?_; simp only [go_sem, Nat.reduceEqDiff, reduceIte, Nat.reduceAdd, Nat.reduceMul, Nat.reduceSub, Nat.reduceLT, Nat.reduceLeDiff, Nat.reduceBEq, g2]) | refine dk (by kernel_rfl) ?_)
  exact Aw_ret (ret0 (.inl rfl) (by simp only [go_sem, Nat.reduceEqDiff, reduceIte, Nat.reduceAdd, Nat.reduceMul, Nat.reduceSub, Nat.reduceLT, Nat.reduceLeDiff, Nat.reduceBEq]; rfl) (by rfl) rfl)
theorem headsE_ac {keep : Nat} (hk : keep ≤ 5) : AC Try.prog 171 [sveP (eSve (keep : Nat))] noHp 0 ⟨.tup [nilT, bT true], noHp, 0⟩ := by
  have k1 := bitsE_ac
  have k2 := isKeep_ac (keep : Nat)
  have k3 := count0_ac
  have k4 := partsE_ac (keep : Nat)
  have k5 := textsE_ac
  have k6 : AC Try.prog 41 [nilT, iT (keep : Nat)] noHp 0 ⟨.tup [sveP (eSve (keep : Nat)), bT true], noHp, 0⟩ := by
    have h := sieveS_ac [] (keep : Nat) (smS_keys smR_nil)
    rw [sieve_nil hk] at h
    exact AC.nilL h (.cons (NilC.nil _) (.cons (NilT.refl _) .nil))
  have k7 := same_ac (eSve (keep : Nat)) (eSve (keep : Nat)) (by simp [eSve])
  rw [sveEq_refl] at k7
  have hi : inB 0 (keep : Int) 5 = true := inKeep hk
  rw [hi] at k2
  unfold eSve at *
  have g1 : decide ((zs.size : Int) = (zs.size : Int)) = true := rfl
  have g2 : decide ((0 : Int) = 0) = true := rfl
  refine AC_of Try.func171 rfl Try.ntmps171 Try.results171 (by kernel_rfl) rfl ?_
  simp only [List.zipIdx, List.map, Nat.zero_add, Nat.reduceAdd]
  repeat (first | apply Aw_seq | apply Aw_block | apply Aw_skip | apply Aw_exit | refine Aw_condt rfl ?_ | refine Aw_condf rfl ?_ | (refine qr ?_; simp only [go_sem, Nat.reduceEqDiff, reduceIte, Nat.reduceAdd, Nat.reduceMul, Nat.reduceSub, Nat.reduceLT, Nat.reduceLeDiff, Nat.reduceBEq, g1, g2]) | (refine qd (by kernel_rfl) (by kernel_rfl) ?_; simp only [go_sem, Nat.reduceEqDiff, reduceIte, Nat.reduceAdd, Nat.reduceMul, Nat.reduceSub, Nat.reduceLT, Nat.reduceLeDiff, Nat.reduceBEq, g1, g2]) | refine dk (by kernel_rfl) ?_ | (refine qp (k1) (by simp only [go_sem, Nat.reduceEqDiff, reduceIte, Nat.reduceAdd, Nat.reduceMul, Nat.reduceSub, Nat.reduceLT, Nat.reduceLeDiff, Nat.reduceBEq, g1, g2]; first | done | rfl) rfl (by simp only [go_sem, Nat.reduceLT]) rfl rfl ?_; simp only [go_sem, Nat.reduceEqDiff, reduceIte, Nat.reduceAdd, Nat.reduceMul, Nat.reduceSub, Nat.reduceLT, Nat.reduceLeDiff, Nat.reduceBEq, g1, g2]) | (refine qp (k2) (by simp only [go_sem, Nat.reduceEqDiff, reduceIte, Nat.reduceAdd, Nat.reduceMul, Nat.reduceSub, Nat.reduceLT, Nat.reduceLeDiff, Nat.reduceBEq, g1, g2]; first | done | rfl) rfl (by simp only [go_sem, Nat.reduceLT]) rfl rfl ?_; simp only [go_sem, Nat.reduceEqDiff, reduceIte, Nat.reduceAdd, Nat.reduceMul, Nat.reduceSub, Nat.reduceLT, Nat.reduceLeDiff, Nat.reduceBEq, g1, g2]) | (refine qp (k3) (by simp only [go_sem, Nat.reduceEqDiff, reduceIte, Nat.reduceAdd, Nat.reduceMul, Nat.reduceSub, Nat.reduceLT, Nat.reduceLeDiff, Nat.reduceBEq, g1, g2]; first | done | rfl) rfl (by simp only [go_sem, Nat.reduceLT]) rfl rfl ?_; simp only [go_sem, Nat.reduceEqDiff, reduceIte, Nat.reduceAdd, Nat.reduceMul, Nat.reduceSub, Nat.reduceLT, Nat.reduceLeDiff, Nat.reduceBEq, g1, g2]) | (refine qp (k4) (by simp only [go_sem, Nat.reduceEqDiff, reduceIte, Nat.reduceAdd, Nat.reduceMul, Nat.reduceSub, Nat.reduceLT, Nat.reduceLeDiff, Nat.reduceBEq, g1, g2]; first | done | rfl) rfl (by simp only [go_sem, Nat.reduceLT]) rfl rfl ?_; simp only [go_sem, Nat.reduceEqDiff, reduceIte, Nat.reduceAdd, Nat.reduceMul, Nat.reduceSub, Nat.reduceLT, Nat.reduceLeDiff, Nat.reduceBEq, g1, g2]) | (refine qp (k5) (by simp only [go_sem, Nat.reduceEqDiff, reduceIte, Nat.reduceAdd, Nat.reduceMul, Nat.reduceSub, Nat.reduceLT, Nat.reduceLeDiff, Nat.reduceBEq, g1, g2]; first | done | rfl) rfl (by simp only [go_sem, Nat.reduceLT]) rfl rfl ?_; simp only [go_sem, Nat.reduceEqDiff, reduceIte, Nat.reduceAdd, Nat.reduceMul, Nat.reduceSub, Nat.reduceLT, Nat.reduceLeDiff, Nat.reduceBEq, g1, g2]) | (refine qp (k6) (by simp only [go_sem, Nat.reduceEqDiff, reduceIte, Nat.reduceAdd, Nat.reduceMul, Nat.reduceSub, Nat.reduceLT, Nat.reduceLeDiff, Nat.reduceBEq, g1, g2]; first | done | rfl) rfl (by simp only [go_sem, Nat.reduceLT]) rfl rfl ?_; simp only [go_sem, Nat.reduceEqDiff, reduceIte, Nat.reduceAdd, Nat.reduceMul, Nat.reduceSub, Nat.reduceLT, Nat.reduceLeDiff, Nat.reduceBEq, g1, g2]) | (refine qp (k7) (by simp only [go_sem, Nat.reduceEqDiff, reduceIte, Nat.reduceAdd, Nat.reduceMul, Nat.reduceSub, Nat.reduceLT, Nat.reduceLeDiff, Nat.reduceBEq, g1, g2]; first | done | rfl) rfl (by simp only [go_sem, Nat.reduceLT]) rfl rfl ?_; simp only [go_sem, Nat.reduceEqDiff, reduceIte, Nat.reduceAdd, Nat.reduceMul, Nat.reduceSub, Nat.reduceLT, Nat.reduceLeDiff, Nat.reduceBEq, g1, g2]))
  exact Aw_ret (ret0 (.inl rfl) (by simp only [go_sem, Nat.reduceEqDiff, reduceIte, Nat.reduceAdd, Nat.reduceMul, Nat.reduceSub, Nat.reduceLT, Nat.reduceLeDiff, Nat.reduceBEq]; rfl) (by rfl) rfl)
theorem seekE_ac {keep : Nat} (hk : keep ≤ 5) (f : ByteArray) (hf : keyOk f = true) (hm : smK f) : AC Try.prog 141 [sveP (eSve (keep : Nat)), sT f] noHp 0 ⟨.tup [sT zs, bT false], noHp, 0⟩ := by
  have k1 := headsE_ac hk
  have k2 := keyOk_ac f hm
  rw [hf] at k2
  unfold eSve at *
  have g2 : decide ((0 : Int) < 0) = false := rfl
  refine AC_of Try.func141 rfl Try.ntmps141 Try.results141 (by kernel_rfl) rfl ?_
  simp only [List.zipIdx, List.map, Nat.zero_add, Nat.reduceAdd]
  repeat (first | apply Aw_seq | apply Aw_block | apply Aw_skip | apply Aw_exit | refine Aw_condt rfl ?_ | refine Aw_condf rfl ?_ | (refine qr ?_; simp only [go_sem, Nat.reduceEqDiff, reduceIte, Nat.reduceAdd, Nat.reduceMul, Nat.reduceSub, Nat.reduceLT, Nat.reduceLeDiff, Nat.reduceBEq]) | (refine qd (by kernel_rfl) (by kernel_rfl) ?_; simp only [go_sem, Nat.reduceEqDiff, reduceIte, Nat.reduceAdd, Nat.reduceMul, Nat.reduceSub, Nat.reduceLT, Nat.reduceLeDiff, Nat.reduceBEq]) | refine dk (by kernel_rfl) ?_ | (refine qp (k1) (by simp only [go_sem, Nat.reduceEqDiff, reduceIte, Nat.reduceAdd, Nat.reduceMul, Nat.reduceSub, Nat.reduceLT, Nat.reduceLeDiff, Nat.reduceBEq]; first | done | rfl) rfl (by simp only [go_sem, Nat.reduceLT]) rfl rfl ?_; simp only [go_sem, Nat.reduceEqDiff, reduceIte, Nat.reduceAdd, Nat.reduceMul, Nat.reduceSub, Nat.reduceLT, Nat.reduceLeDiff, Nat.reduceBEq]) | (refine qp (k2) (by simp only [go_sem, Nat.reduceEqDiff, reduceIte, Nat.reduceAdd, Nat.reduceMul, Nat.reduceSub, Nat.reduceLT, Nat.reduceLeDiff, Nat.reduceBEq]; first | done | rfl) rfl (by simp only [go_sem, Nat.reduceLT]) rfl rfl ?_; simp only [go_sem, Nat.reduceEqDiff, reduceIte, Nat.reduceAdd, Nat.reduceMul, Nat.reduceSub, Nat.reduceLT, Nat.reduceLeDiff, Nat.reduceBEq]))
  refine Aw_rounds 1 ?_
  refine AwR_succ ?_
  repeat (first | apply Aw_seq | apply Aw_block | apply Aw_skip | apply Aw_exit | refine Aw_condt rfl ?_ | refine Aw_condf rfl ?_ | (refine qr ?_; simp only [go_sem, Nat.reduceEqDiff, reduceIte, Nat.reduceAdd, Nat.reduceMul, Nat.reduceSub, Nat.reduceLT, Nat.reduceLeDiff, Nat.reduceBEq, g2]) | (refine qd (by kernel_rfl) (by kernel_rfl) ?_; simp only [go_sem, Nat.reduceEqDiff, reduceIte, Nat.reduceAdd, Nat.reduceMul, Nat.reduceSub, Nat.reduceLT, Nat.reduceLeDiff, Nat.reduceBEq, g2]) | refine dk (by kernel_rfl) ?_)
  exact Aw_ret (ret0 (.inl rfl) (by simp only [go_sem, Nat.reduceEqDiff, reduceIte, Nat.reduceAdd, Nat.reduceMul, Nat.reduceSub, Nat.reduceLT, Nat.reduceLeDiff, Nat.reduceBEq]; rfl) (by rfl) rfl)
theorem meetsE_ac {keep : Nat} (hk : keep ≤ 5) (f t : ByteArray) (hf : keyOk f = true) (hm : smK f) (ht : keyOk t = true) (hn : smK t) : AC Try.prog 110 [sveP (eSve (keep : Nat)), sT f, sT t] noHp 0 ⟨.t (bT false), noHp, 0⟩ := by
  have k1 := seekE_ac hk f hf hm
  have k2 := keyOk_ac f hm
  have k3 := keyOk_ac t hn
  rw [hf] at k2
  rw [ht] at k3
  cases c : klt t f
  · have c2 : (klt f t || decide (f = t)) = true := by rw [kle_not, c]; rfl
    refine AC_of Try.func110 rfl Try.ntmps110 Try.results110 (by kernel_rfl) rfl ?_
    simp only [List.zipIdx, List.map, Nat.zero_add, Nat.reduceAdd]
    repeat (first | apply Aw_seq | apply Aw_block | apply Aw_skip | apply Aw_exit | refine Aw_condt rfl ?_ | refine Aw_condf rfl ?_ | (refine qr ?_; simp only [go_sem, Nat.reduceEqDiff, reduceIte, Nat.reduceAdd, Nat.reduceMul, Nat.reduceSub, Nat.reduceLT, Nat.reduceLeDiff, Nat.reduceBEq, c, c2, kle_not]) | (refine qd (by kernel_rfl) (by kernel_rfl) ?_; simp only [go_sem, Nat.reduceEqDiff, reduceIte, Nat.reduceAdd, Nat.reduceMul, Nat.reduceSub, Nat.reduceLT, Nat.reduceLeDiff, Nat.reduceBEq, c, c2, kle_not]) | refine dk (by kernel_rfl) ?_ | (refine qp (k1) (by simp only [go_sem, Nat.reduceEqDiff, reduceIte, Nat.reduceAdd, Nat.reduceMul, Nat.reduceSub, Nat.reduceLT, Nat.reduceLeDiff, Nat.reduceBEq, c, c2, kle_not]; first | done | rfl) rfl (by simp only [go_sem, Nat.reduceLT]) rfl rfl ?_; simp only [go_sem, Nat.reduceEqDiff, reduceIte, Nat.reduceAdd, Nat.reduceMul, Nat.reduceSub, Nat.reduceLT, Nat.reduceLeDiff, Nat.reduceBEq, c, c2, kle_not]) | (refine qp (k2) (by simp only [go_sem, Nat.reduceEqDiff, reduceIte, Nat.reduceAdd, Nat.reduceMul, Nat.reduceSub, Nat.reduceLT, Nat.reduceLeDiff, Nat.reduceBEq, c, c2, kle_not]; first | done | rfl) rfl (by simp only [go_sem, Nat.reduceLT]) rfl rfl ?_; simp only [go_sem, Nat.reduceEqDiff, reduceIte, Nat.reduceAdd, Nat.reduceMul, Nat.reduceSub, Nat.reduceLT, Nat.reduceLeDiff, Nat.reduceBEq, c, c2, kle_not]) | (refine qp (k3) (by simp only [go_sem, Nat.reduceEqDiff, reduceIte, Nat.reduceAdd, Nat.reduceMul, Nat.reduceSub, Nat.reduceLT, Nat.reduceLeDiff, Nat.reduceBEq, c, c2, kle_not]; first | done | rfl) rfl (by simp only [go_sem, Nat.reduceLT]) rfl rfl ?_; simp only [go_sem, Nat.reduceEqDiff, reduceIte, Nat.reduceAdd, Nat.reduceMul, Nat.reduceSub, Nat.reduceLT, Nat.reduceLeDiff, Nat.reduceBEq, c, c2, kle_not]))
    exact Aw_ret (ret0 (.inl rfl) (by simp only [go_sem, Nat.reduceEqDiff, reduceIte, Nat.reduceAdd, Nat.reduceMul, Nat.reduceSub, Nat.reduceLT, Nat.reduceLeDiff, Nat.reduceBEq]; rfl) (by rfl) rfl)
  · have c2 : (klt f t || decide (f = t)) = false := by rw [kle_not, c]; rfl
    refine AC_of Try.func110 rfl Try.ntmps110 Try.results110 (by kernel_rfl) rfl ?_
    simp only [List.zipIdx, List.map, Nat.zero_add, Nat.reduceAdd]
    repeat (first | apply Aw_seq | apply Aw_block | apply Aw_skip | apply Aw_exit | refine Aw_condt rfl ?_ | refine Aw_condf rfl ?_ | (refine qr ?_; simp only [go_sem, Nat.reduceEqDiff, reduceIte, Nat.reduceAdd, Nat.reduceMul, Nat.reduceSub, Nat.reduceLT, Nat.reduceLeDiff, Nat.reduceBEq, c, c2, kle_not]) | (refine qd (by kernel_rfl) (by kernel_rfl) ?_; simp only [go_sem, Nat.reduceEqDiff, reduceIte, Nat.reduceAdd, Nat.reduceMul, Nat.reduceSub, Nat.reduceLT, Nat.reduceLeDiff, Nat.reduceBEq, c, c2, kle_not]) | refine dk (by kernel_rfl) ?_ | (refine qp (k1) (by simp only [go_sem, Nat.reduceEqDiff, reduceIte, Nat.reduceAdd, Nat.reduceMul, Nat.reduceSub, Nat.reduceLT, Nat.reduceLeDiff, Nat.reduceBEq, c, c2, kle_not]; first | done | rfl) rfl (by simp only [go_sem, Nat.reduceLT]) rfl rfl ?_; simp only [go_sem, Nat.reduceEqDiff, reduceIte, Nat.reduceAdd, Nat.reduceMul, Nat.reduceSub, Nat.reduceLT, Nat.reduceLeDiff, Nat.reduceBEq, c, c2, kle_not]) | (refine qp (k2) (by simp only [go_sem, Nat.reduceEqDiff, reduceIte, Nat.reduceAdd, Nat.reduceMul, Nat.reduceSub, Nat.reduceLT, Nat.reduceLeDiff, Nat.reduceBEq, c, c2, kle_not]; first | done | rfl) rfl (by simp only [go_sem, Nat.reduceLT]) rfl rfl ?_; simp only [go_sem, Nat.reduceEqDiff, reduceIte, Nat.reduceAdd, Nat.reduceMul, Nat.reduceSub, Nat.reduceLT, Nat.reduceLeDiff, Nat.reduceBEq, c, c2, kle_not]) | (refine qp (k3) (by simp only [go_sem, Nat.reduceEqDiff, reduceIte, Nat.reduceAdd, Nat.reduceMul, Nat.reduceSub, Nat.reduceLT, Nat.reduceLeDiff, Nat.reduceBEq, c, c2, kle_not]; first | done | rfl) rfl (by simp only [go_sem, Nat.reduceLT]) rfl rfl ?_; simp only [go_sem, Nat.reduceEqDiff, reduceIte, Nat.reduceAdd, Nat.reduceMul, Nat.reduceSub, Nat.reduceLT, Nat.reduceLeDiff, Nat.reduceBEq, c, c2, kle_not]))
    exact Aw_ret (ret0 (.inl rfl) (by simp only [go_sem, Nat.reduceEqDiff, reduceIte, Nat.reduceAdd, Nat.reduceMul, Nat.reduceSub, Nat.reduceLT, Nat.reduceLeDiff, Nat.reduceBEq]; rfl) (by rfl) rfl)
theorem listE_ac {keep : Nat} (hk : keep ≤ 5) (f t : ByteArray) (hf : keyOk f = true) (hm : smK f) (ht : keyOk t = true) (hn : smK t) : AC Try.prog 49 [stT (eSto (keep : Nat)), sT f, sT t, iT 0] noHp 0 ⟨.t nilT, noHp, 0⟩ := by
  have k1 := storeE_ac hk
  have k2 := keyOk_ac f hm
  have k3 := keyOk_ac t hn
  rw [hf] at k2
  rw [ht] at k3
  have k4 := knownE_ac (keep : Nat)
  have k5 : AC Try.prog 83 [runT []] noHp 0 ⟨.t (strsT []), noHp, 0⟩ := AC.settle0 [0] (keysOf_ac [] smR_nil) (SetC.row0 rfl rfl) rfl
  have k6 := meetsE_ac hk f t hf hm ht hn
  have k7 : AC Try.prog 35 [strsT []] noHp 0 ⟨.t (strsT []), noHp, 0⟩ := AC.settle0 [0] (keysSort_ac [] (smS_keys smR_nil) (by simp)) (SetC.row0 rfl rfl) rfl
  unfold eSto eSve at *
  have l0 : decide ((0 : Int) < 3) = true := rfl
  have l1 : decide ((1 : Int) < 3) = true := rfl
  have l2 : decide ((2 : Int) < 3) = true := rfl
  have l3 : decide ((3 : Int) < 3) = false := rfl
  have l4 : decide ((0 : Int) < 0) = false := rfl
  have w0 : IntKind.i64.wrap ((0 : Int) + 1) = 1 := rfl
  have w1 : IntKind.i64.wrap ((1 : Int) + 1) = 2 := rfl
  have w2 : IntKind.i64.wrap ((2 : Int) + 1) = 3 := rfl
  refine AC_of Try.func49 rfl Try.ntmps49 Try.results49 (by kernel_rfl) rfl ?_
  simp only [List.zipIdx, List.map, Nat.zero_add, Nat.reduceAdd]
  repeat (first | apply Aw_seq | apply Aw_block | apply Aw_skip | apply Aw_exit | refine Aw_condt rfl ?_ | refine Aw_condf rfl ?_ | (refine qr ?_; simp only [go_sem, Nat.reduceEqDiff, reduceIte, Nat.reduceAdd, Nat.reduceMul, Nat.reduceSub, Nat.reduceLT, Nat.reduceLeDiff, Nat.reduceBEq]) | (refine qd (by kernel_rfl) (by kernel_rfl) ?_; simp only [go_sem, Nat.reduceEqDiff, reduceIte, Nat.reduceAdd, Nat.reduceMul, Nat.reduceSub, Nat.reduceLT, Nat.reduceLeDiff, Nat.reduceBEq]) | refine dk (by kernel_rfl) ?_ | (refine qp (k1) (by simp only [go_sem, Nat.reduceEqDiff, reduceIte, Nat.reduceAdd, Nat.reduceMul, Nat.reduceSub, Nat.reduceLT, Nat.reduceLeDiff, Nat.reduceBEq]; first | done | rfl) rfl (by simp only [go_sem, Nat.reduceLT]) rfl rfl ?_; simp only [go_sem, Nat.reduceEqDiff, reduceIte, Nat.reduceAdd, Nat.reduceMul, Nat.reduceSub, Nat.reduceLT, Nat.reduceLeDiff, Nat.reduceBEq]) | (refine qp (k2) (by simp only [go_sem, Nat.reduceEqDiff, reduceIte, Nat.reduceAdd, Nat.reduceMul, Nat.reduceSub, Nat.reduceLT, Nat.reduceLeDiff, Nat.reduceBEq]; first | done | rfl) rfl (by simp only [go_sem, Nat.reduceLT]) rfl rfl ?_; simp only [go_sem, Nat.reduceEqDiff, reduceIte, Nat.reduceAdd, Nat.reduceMul, Nat.reduceSub, Nat.reduceLT, Nat.reduceLeDiff, Nat.reduceBEq]) | (refine qp (k3) (by simp only [go_sem, Nat.reduceEqDiff, reduceIte, Nat.reduceAdd, Nat.reduceMul, Nat.reduceSub, Nat.reduceLT, Nat.reduceLeDiff, Nat.reduceBEq]; first | done | rfl) rfl (by simp only [go_sem, Nat.reduceLT]) rfl rfl ?_; simp only [go_sem, Nat.reduceEqDiff, reduceIte, Nat.reduceAdd, Nat.reduceMul, Nat.reduceSub, Nat.reduceLT, Nat.reduceLeDiff, Nat.reduceBEq]) | (refine qp (k4) (by simp only [go_sem, Nat.reduceEqDiff, reduceIte, Nat.reduceAdd, Nat.reduceMul, Nat.reduceSub, Nat.reduceLT, Nat.reduceLeDiff, Nat.reduceBEq]; first | done | rfl) rfl (by simp only [go_sem, Nat.reduceLT]) rfl rfl ?_; simp only [go_sem, Nat.reduceEqDiff, reduceIte, Nat.reduceAdd, Nat.reduceMul, Nat.reduceSub, Nat.reduceLT, Nat.reduceLeDiff, Nat.reduceBEq]) | (refine qp (k5) (by simp only [go_sem, Nat.reduceEqDiff, reduceIte, Nat.reduceAdd, Nat.reduceMul, Nat.reduceSub, Nat.reduceLT, Nat.reduceLeDiff, Nat.reduceBEq]; first | done | rfl) rfl (by simp only [go_sem, Nat.reduceLT]) rfl rfl ?_; simp only [go_sem, Nat.reduceEqDiff, reduceIte, Nat.reduceAdd, Nat.reduceMul, Nat.reduceSub, Nat.reduceLT, Nat.reduceLeDiff, Nat.reduceBEq]))
  refine Aw_rounds 4 ?_
  refine AwR_succ ?_
  repeat (first | apply Aw_seq | apply Aw_block | apply Aw_skip | apply Aw_exit | refine Aw_condt rfl ?_ | refine Aw_condf rfl ?_ | (refine qr ?_; simp only [go_sem, Nat.reduceEqDiff, reduceIte, Nat.reduceAdd, Nat.reduceMul, Nat.reduceSub, Nat.reduceLT, Nat.reduceLeDiff, Nat.reduceBEq, l0, l1, l2, l3, w0, w1, w2]) | (refine qd (by kernel_rfl) (by kernel_rfl) ?_; simp only [go_sem, Nat.reduceEqDiff, reduceIte, Nat.reduceAdd, Nat.reduceMul, Nat.reduceSub, Nat.reduceLT, Nat.reduceLeDiff, Nat.reduceBEq, l0, l1, l2, l3, w0, w1, w2]) | refine dk (by kernel_rfl) ?_ | (refine qp (k6) (by simp only [go_sem, Nat.reduceEqDiff, reduceIte, Nat.reduceAdd, Nat.reduceMul, Nat.reduceSub, Nat.reduceLT, Nat.reduceLeDiff, Nat.reduceBEq, l0, l1, l2, l3, w0, w1, w2]; first | done | rfl) rfl (by simp only [go_sem, Nat.reduceLT]) rfl rfl ?_; simp only [go_sem, Nat.reduceEqDiff, reduceIte, Nat.reduceAdd, Nat.reduceMul, Nat.reduceSub, Nat.reduceLT, Nat.reduceLeDiff, Nat.reduceBEq, l0, l1, l2, l3, w0, w1, w2]) | (refine qp (k7) (by simp only [go_sem, Nat.reduceEqDiff, reduceIte, Nat.reduceAdd, Nat.reduceMul, Nat.reduceSub, Nat.reduceLT, Nat.reduceLeDiff, Nat.reduceBEq, l0, l1, l2, l3, w0, w1, w2]; first | done | rfl) rfl (by simp only [go_sem, Nat.reduceLT]) rfl rfl ?_; simp only [go_sem, Nat.reduceEqDiff, reduceIte, Nat.reduceAdd, Nat.reduceMul, Nat.reduceSub, Nat.reduceLT, Nat.reduceLeDiff, Nat.reduceBEq, l0, l1, l2, l3, w0, w1, w2]))
  refine Aw_rounds 1 ?_
  refine AwR_succ ?_
  repeat (first | apply Aw_seq | apply Aw_block | apply Aw_skip | apply Aw_exit | refine Aw_condt rfl ?_ | refine Aw_condf rfl ?_ | (refine qr ?_; simp only [go_sem, Nat.reduceEqDiff, reduceIte, Nat.reduceAdd, Nat.reduceMul, Nat.reduceSub, Nat.reduceLT, Nat.reduceLeDiff, Nat.reduceBEq, l4]) | (refine qd (by kernel_rfl) (by kernel_rfl) ?_; simp only [go_sem, Nat.reduceEqDiff, reduceIte, Nat.reduceAdd, Nat.reduceMul, Nat.reduceSub, Nat.reduceLT, Nat.reduceLeDiff, Nat.reduceBEq, l4]) | refine dk (by kernel_rfl) ?_)
  exact Aw_ret (ret0 (.inl rfl) (by simp only [go_sem, Nat.reduceEqDiff, reduceIte, Nat.reduceAdd, Nat.reduceMul, Nat.reduceSub, Nat.reduceLT, Nat.reduceLeDiff, Nat.reduceBEq]; rfl) (by rfl) rfl)
end Go.Proofs.Ytcbhgglpgphimaa.Ab
namespace Go.Proofs.Ytcbhgglpgphimaa.Ab
set_option linter.deprecated false
set_option linter.unusedVariables false
set_option linter.unusedSimpArgs false
open Go Go.Proofs
set_option maxRecDepth 10000
set_option maxHeartbeats 8000000
set_option linter.unusedSimpArgs false
set_option linter.unusedVariables false
@[go_sem] theorem r_aggE {P : Program} {t : Nat} {cs ds : List CV} : aggEq P t .eql cs ds = (aggFs P t).bind fun fs => (fEq cs ds fs).map .bool := by
  unfold aggEq
  cases aggFs P t with
  | none => rfl
  | some fs => simp only [Option.bind_some]; cases fEq cs ds fs <;> rfl
@[go_sem] theorem r_aggN {P : Program} {t : Nat} {cs ds : List CV} : aggEq P t .neq cs ds = (aggFs P t).bind fun fs => (fEq cs ds fs).map fun b => .bool !b := by
  unfold aggEq
  cases aggFs P t with
  | none => rfl
  | some fs => simp only [Option.bind_some]; cases fEq cs ds fs <;> rfl
theorem ltRuns_ac (a : List Ent) (hl : a.length ≤ 4000000) : AC Try.prog 45 [runT a, runT a] noHp 0 ⟨.t (bT true), noHp, 0⟩ := by
  refine AC_of Try.func45 rfl Try.ntmps45 Try.results45 (by kernel_rfl) rfl ?_
  simp only [List.zipIdx, List.map, Nat.zero_add, Nat.reduceAdd]
  repeat (first | apply Aw_seq | apply Aw_block | apply Aw_skip | apply Aw_exit | refine Aw_condt rfl ?_ | refine Aw_condf rfl ?_ | (refine qr ?_; simp only [go_sem, Nat.reduceEqDiff, reduceIte, Nat.reduceAdd, Nat.reduceMul, Nat.reduceSub, Nat.reduceLT, Nat.reduceLeDiff, Nat.reduceBEq, iref]) | (refine qd (by kernel_rfl) (by kernel_rfl) ?_; simp only [go_sem, Nat.reduceEqDiff, reduceIte, Nat.reduceAdd, Nat.reduceMul, Nat.reduceSub, Nat.reduceLT, Nat.reduceLeDiff, Nat.reduceBEq, iref]) | refine dk (by kernel_rfl) ?_)
  refine Aw.rw (rw0 (l' := [(5, .t (iT (0 : Nat))), (1, .t (runT a)), (0, .t (runT a))]) (n' := 0) (by repeat (first | exact trivial | refine ⟨rfl, rfl, ?_⟩))) ?_
  refine Aw_loop0 (ι := { i : Nat // i ≤ a.length ∧ (True) }) (fun q => [(5, .t (iT (q.1 : Nat))), (1, .t (runT a)), (0, .t (runT a))]) (fun q => a.length - q.1) ⟨0, Nat.zero_le _, trivial⟩ ?_
  rintro ⟨i, hi, hp⟩
  dsimp only
  by_cases hlt : i < a.length
  · have h1 : (i : Int) < (a.length : Int) := by omega
    have h2 := wrap_succ hlt (by omega)
    obtain ⟨e, hx⟩ : ∃ e, a[i]? = some e := ⟨_, List.getElem?_eq_getElem hlt⟩
    repeat (first | apply Aw_seq | apply Aw_block | apply Aw_skip | apply Aw_exit | refine Aw_condt rfl ?_ | refine Aw_condf rfl ?_ | (refine qr ?_; simp only [go_sem, Nat.reduceEqDiff, reduceIte, Nat.reduceAdd, Nat.reduceMul, Nat.reduceSub, Nat.reduceLT, Nat.reduceLeDiff, Nat.reduceBEq, h1, h2, hx, iref, sref, bref]) | (refine qd (by kernel_rfl) (by kernel_rfl) ?_; simp only [go_sem, Nat.reduceEqDiff, reduceIte, Nat.reduceAdd, Nat.reduceMul, Nat.reduceSub, Nat.reduceLT, Nat.reduceLeDiff, Nat.reduceBEq, h1, h2, hx, iref, sref, bref]) | refine dk (by kernel_rfl) ?_)
    exact ⟨⟨i + 1, by omega, trivial⟩, (by simp only []; omega), rw0 (by repeat (first | exact trivial | refine ⟨rfl, rfl, ?_⟩))⟩
  · have h1 : ¬ (i : Int) < (a.length : Int) := by omega
    repeat (first | apply Aw_seq | apply Aw_block | apply Aw_skip | apply Aw_exit | refine Aw_condt rfl ?_ | refine Aw_condf rfl ?_ | (refine qr ?_; simp only [go_sem, Nat.reduceEqDiff, reduceIte, Nat.reduceAdd, Nat.reduceMul, Nat.reduceSub, Nat.reduceLT, Nat.reduceLeDiff, Nat.reduceBEq, h1]) | (refine qd (by kernel_rfl) (by kernel_rfl) ?_; simp only [go_sem, Nat.reduceEqDiff, reduceIte, Nat.reduceAdd, Nat.reduceMul, Nat.reduceSub, Nat.reduceLT, Nat.reduceLeDiff, Nat.reduceBEq, h1]) | refine dk (by kernel_rfl) ?_)
    exact Aw_ret (ret0 (.inl rfl) (by simp only [go_sem, Nat.reduceEqDiff, reduceIte, Nat.reduceAdd, Nat.reduceMul, Nat.reduceSub, Nat.reduceLT, Nat.reduceLeDiff, Nat.reduceBEq]; rfl) (by rfl) rfl)
end Go.Proofs.Ytcbhgglpgphimaa.Ab
namespace Go.Proofs.Ytcbhgglpgphimaa.Ab
set_option linter.deprecated false
set_option linter.unusedVariables false
set_option linter.unusedSimpArgs false
open Go Go.Proofs
set_option maxRecDepth 10000
set_option maxHeartbeats 8000000
set_option linter.unusedSimpArgs false
set_option linter.unusedVariables false
theorem ltSames_ac (a : List ByteArray) (hl : a.length ≤ 1099511627776) : AC Try.prog 32 [strsT a, strsT a] noHp 0 ⟨.t (bT true), noHp, 0⟩ := by
  refine AC_of Try.func32 rfl Try.ntmps32 Try.results32 (by kernel_rfl) rfl ?_
  simp only [List.zipIdx, List.map, Nat.zero_add, Nat.reduceAdd]
  repeat (first | apply Aw_seq | apply Aw_block | apply Aw_skip | apply Aw_exit | refine Aw_condt rfl ?_ | refine Aw_condf rfl ?_ | (refine qr ?_; simp only [go_sem, Nat.reduceEqDiff, reduceIte, Nat.reduceAdd, Nat.reduceMul, Nat.reduceSub, Nat.reduceLT, Nat.reduceLeDiff, Nat.reduceBEq, iref]) | (refine qd (by kernel_rfl) (by kernel_rfl) ?_; simp only [go_sem, Nat.reduceEqDiff, reduceIte, Nat.reduceAdd, Nat.reduceMul, Nat.reduceSub, Nat.reduceLT, Nat.reduceLeDiff, Nat.reduceBEq, iref]) | refine dk (by kernel_rfl) ?_)
  refine Aw.rw (rw0 (l' := [(5, .t (iT (0 : Nat))), (1, .t (strsT a)), (0, .t (strsT a))]) (n' := 0) (by repeat (first | exact trivial | refine ⟨rfl, rfl, ?_⟩))) ?_
  refine Aw_loop0 (ι := { i : Nat // i ≤ a.length ∧ (True) }) (fun q => [(5, .t (iT (q.1 : Nat))), (1, .t (strsT a)), (0, .t (strsT a))]) (fun q => a.length - q.1) ⟨0, Nat.zero_le _, trivial⟩ ?_
  rintro ⟨i, hi, hp⟩
  dsimp only
  by_cases hlt : i < a.length
  · have h1 : (i : Int) < (a.length : Int) := by omega
    have h2 := wrap_succ hlt (by omega)
    obtain ⟨e, hx⟩ : ∃ e, a[i]? = some e := ⟨_, List.getElem?_eq_getElem hlt⟩
    repeat (first | apply Aw_seq | apply Aw_block | apply Aw_skip | apply Aw_exit | refine Aw_condt rfl ?_ | refine Aw_condf rfl ?_ | (refine qr ?_; simp only [go_sem, Nat.reduceEqDiff, reduceIte, Nat.reduceAdd, Nat.reduceMul, Nat.reduceSub, Nat.reduceLT, Nat.reduceLeDiff, Nat.reduceBEq, h1, h2, hx, iref, sref, bref]) | (refine qd (by kernel_rfl) (by kernel_rfl) ?_; simp only [go_sem, Nat.reduceEqDiff, reduceIte, Nat.reduceAdd, Nat.reduceMul, Nat.reduceSub, Nat.reduceLT, Nat.reduceLeDiff, Nat.reduceBEq, h1, h2, hx, iref, sref, bref]) | refine dk (by kernel_rfl) ?_)
    exact ⟨⟨i + 1, by omega, trivial⟩, (by simp only []; omega), rw0 (by repeat (first | exact trivial | refine ⟨rfl, rfl, ?_⟩))⟩
  · have h1 : ¬ (i : Int) < (a.length : Int) := by omega
    repeat (first | apply Aw_seq | apply Aw_block | apply Aw_skip | apply Aw_exit | refine Aw_condt rfl ?_ | refine Aw_condf rfl ?_ | (refine qr ?_; simp only [go_sem, Nat.reduceEqDiff, reduceIte, Nat.reduceAdd, Nat.reduceMul, Nat.reduceSub, Nat.reduceLT, Nat.reduceLeDiff, Nat.reduceBEq, h1]) | (refine qd (by kernel_rfl) (by kernel_rfl) ?_; simp only [go_sem, Nat.reduceEqDiff, reduceIte, Nat.reduceAdd, Nat.reduceMul, Nat.reduceSub, Nat.reduceLT, Nat.reduceLeDiff, Nat.reduceBEq, h1]) | refine dk (by kernel_rfl) ?_)
    exact Aw_ret (ret0 (.inl rfl) (by simp only [go_sem, Nat.reduceEqDiff, reduceIte, Nat.reduceAdd, Nat.reduceMul, Nat.reduceSub, Nat.reduceLT, Nat.reduceLeDiff, Nat.reduceBEq]; rfl) (by rfl) rfl)
theorem ltSieve_ac (x : Sve) (hl : x.rests.length ≤ 1099511627776) : AC Try.prog 42 [sveP x, sveP x] noHp 0 ⟨.t (bT true), noHp, 0⟩ := by
  refine AC_of Try.func42 rfl Try.ntmps42 Try.results42 (by kernel_rfl) rfl ?_
  simp only [List.zipIdx, List.map, Nat.zero_add, Nat.reduceAdd]
  have k := ltSames_ac x.rests hl
  repeat (first | apply Aw_seq | apply Aw_block | apply Aw_skip | apply Aw_exit | refine Aw_condt rfl ?_ | refine Aw_condf rfl ?_ | (refine qr ?_; simp only [go_sem, Nat.reduceEqDiff, reduceIte, Nat.reduceAdd, Nat.reduceMul, Nat.reduceSub, Nat.reduceLT, Nat.reduceLeDiff, Nat.reduceBEq, iref, sref, bref]) | (refine qd (by kernel_rfl) (by kernel_rfl) ?_; simp only [go_sem, Nat.reduceEqDiff, reduceIte, Nat.reduceAdd, Nat.reduceMul, Nat.reduceSub, Nat.reduceLT, Nat.reduceLeDiff, Nat.reduceBEq, iref, sref, bref]) | refine dk (by kernel_rfl) ?_ | (refine qp (k) (by simp only [go_sem, Nat.reduceEqDiff, reduceIte, Nat.reduceAdd, Nat.reduceMul, Nat.reduceSub, Nat.reduceLT, Nat.reduceLeDiff, Nat.reduceBEq, iref, sref, bref]; first | done | rfl) rfl (by simp only [go_sem, Nat.reduceLT]) rfl rfl ?_; simp only [go_sem, Nat.reduceEqDiff, reduceIte, Nat.reduceAdd, Nat.reduceMul, Nat.reduceSub, Nat.reduceLT, Nat.reduceLeDiff, Nat.reduceBEq, iref, sref, bref]))
  exact Aw_ret (ret0 (.inl rfl) (by simp only [go_sem, Nat.reduceEqDiff, reduceIte, Nat.reduceAdd, Nat.reduceMul, Nat.reduceSub, Nat.reduceLT, Nat.reduceLeDiff, Nat.reduceBEq]; rfl) (by rfl) rfl)
end Go.Proofs.Ytcbhgglpgphimaa.Ab
namespace Go.Proofs.Ytcbhgglpgphimaa.Ab
set_option linter.deprecated false
set_option linter.unusedVariables false
set_option linter.unusedSimpArgs false
open Go Go.Proofs Go.Deep Go.WideShapes Go.ChangeShapes Go.RowKit
set_option linter.unusedVariables false
set_option linter.unusedSimpArgs false
theorem cell_lt {w : World} {a : Addr} {v : Value} (h : w.cell? a = some v) : a.block < w.heap.size := by
  apply Classical.byContradiction
  intro hn
  have : w.heap[a.block]? = none := Array.getElem?_eq_none (by omega)
  simp [World.cell?, this] at h
/-- What is read as data of type t is, cell by cell, the data that f tells of a value that is ok. -/
structure RdB {α : Type} (P : Program) (t : TypeId) (f : α → List D) (ok : α → Prop) : Prop where
  down : ∀ {H : Type} {enc : TypeId × Value → H} {w : World} {base : Nat} {spare : Nat → Bool} {held : Bool} {fuel : Nat} {cs : List Value} {x : DataW H × List MemPlace},
    DataW.trod enc P w base spare held fuel t cs = some x → ∃ y, All2 (RepD w (· < w.heap.size)) (f y) cs ∧ ok y
theorem RdB.int {P : Program} {t : TypeId} {k : IntKind} (ht : P.underlying t = some (.int k)) : RdB P t (fun n : Int => [.s (.int k n)]) (fun n => (Lit.int k n).wf = true) :=
  ⟨fun h => by obtain ⟨n, rfl, _, hw⟩ := DataW.trod_int ht h; exact ⟨n, .cons (.s rfl) .nil, hw⟩⟩
theorem RdB.bool {P : Program} {t : TypeId} (ht : P.underlying t = some .bool) : RdB P t (fun b : Bool => [.s (.bool b)]) (fun _ => True) :=
  ⟨fun h => by obtain ⟨b, rfl, _⟩ := DataW.trod_bool ht h; exact ⟨b, .cons (.s rfl) .nil, trivial⟩⟩
theorem RdB.str {P : Program} {t : TypeId} (ht : P.underlying t = some .string) : RdB P t (fun s : ByteArray => [.s (.string s)]) (fun s => s.size ≤ maxLen) :=
  ⟨fun h => by obtain ⟨s, rfl, _, hs⟩ := DataW.trod_string ht h; exact ⟨s, .cons (.s rfl) .nil, hs⟩⟩
theorem RdB.slice {α : Type} {P : Program} {t e k : Nat} {f : α → List D} {ok : α → Prop} (ht : P.underlying t = some (.slice e)) (hc : P.cellsOf e = k) (hd : RdB P e f ok) :
    RdB P t (fun xs : List α => [.rs k (xs.map f)]) (fun xs => xs.length ≤ maxLen ∧ ∀ x ∈ xs, ok x) := by
  refine ⟨fun {H enc w base spare held fuel cs x} h => ?_⟩
  rcases open_slice ht h with ⟨rfl, rfl⟩ | ⟨a, len, cap, m, n, D, Pl, rfl, hb, hl, hm, hmm, rfl, hx⟩
  · exact ⟨[], .cons (.rs (A := none) (cap := 0) (fun _ _ => .bool false) (Nat.le_refl _) (Nat.zero_le _) (by simp) (fun i j hi => absurd hi (by simp)) (fun i j cs x hi => by simp at hi)) .nil, by simp, by simp⟩
  · have hlm : len ≤ m := by rw [hmm]; split <;> omega
    have hy : ∀ i : _root_.Fin len, ∃ y, ∃ cs', w.cells? base (a.add (i.1 * P.cellsOf e)) (P.cellsOf e) = some cs' ∧ All2 (RepD w (· < w.heap.size)) (f y) cs' ∧ ok y := fun i => by
      obtain ⟨cs', h1, h2⟩ := hx i.1 (by omega)
      obtain ⟨y, h3, h4⟩ := hd.down h2
      exact ⟨y, cs', h1, h3, h4⟩
    have hsp : ∀ i : _root_.Fin len, ∃ cs', w.cells? base (a.add (i.1 * P.cellsOf e)) (P.cellsOf e) = some cs' ∧ All2 (RepD w (· < w.heap.size)) (f (Classical.choose (hy i))) cs' ∧ ok (Classical.choose (hy i)) := fun i => Classical.choose_spec (hy i)
    have hlen : (List.ofFn fun i : _root_.Fin len => Classical.choose (hy i)).length = len := List.length_ofFn
    have hget : ∀ {j : Nat} {p : α}, (List.ofFn fun i : _root_.Fin len => Classical.choose (hy i))[j]? = some p → ∃ cs', w.cells? base (a.add (j * k)) k = some cs' ∧ All2 (RepD w (· < w.heap.size)) (f p) cs' := fun {j p} hj => by
      have hjl : j < len := by
        have := (List.getElem?_eq_some_iff.1 hj).1
        rwa [hlen] at this
      rw [List.getElem?_ofFn, dif_pos hjl] at hj
      obtain rfl := Option.some.inj hj
      obtain ⟨cs', h1, h2, _⟩ := hsp ⟨j, hjl⟩
      rw [hc] at h1
      exact ⟨cs', h1, h2⟩
    have hbk : ∀ n, (a.add n).block = a.block := fun n => by unfold Addr.add; split <;> rfl
    have hcell : ∀ i, i < len → ∃ cs' : List Value, cs'.length = k ∧ ∀ j, j < k → w.cell? (a.add (i * k + j)) = cs'[j]? := fun i hi => by
      obtain ⟨cs', h1, _⟩ := hsp ⟨i, hi⟩
      rw [hc] at h1
      obtain ⟨_, h3, h4⟩ := World.cells?_some h1
      refine ⟨cs', h3, fun j hj => ?_⟩
      have := h4 j hj
      rw [Deep.add_add] at this
      exact this
    refine ⟨List.ofFn fun i : _root_.Fin len => Classical.choose (hy i), .cons ?_ .nil, by rw [hlen]; omega, ?_⟩
    · have := RepD.rs (w := w) (S := (· < w.heap.size)) (k := k) (els := (List.ofFn fun i : _root_.Fin len => Classical.choose (hy i)).map f) (A := some a) (cap := cap) (fun i j => (w.cell? (a.add (i * k + j))).getD (.bool false)) (by rw [List.length_map, hlen]; exact hl) hm ?_ ?_ ?_
      · rw [List.length_map, hlen] at this; exact this
      · intro cs hcs
        obtain ⟨p, hp, rfl⟩ := List.mem_map.1 hcs
        obtain ⟨j, hj⟩ := List.mem_iff_getElem?.1 hp
        obtain ⟨cs', h1, h2⟩ := hget hj
        rw [h2.len]; exact (World.cells?_some h1).2.1
      · intro i j hi hj
        rw [List.length_map, hlen] at hi
        obtain ⟨cs', h1, h2⟩ := hcell i hi
        have h3 := h2 j hj
        rw [List.getElem?_eq_getElem (by omega)] at h3
        refine ⟨a, rfl, ?_, ?_⟩
        · have := cell_lt h3; rwa [hbk] at this
        · simp only [h3]; rfl
      · intro i j cs x hi hj
        rw [List.getElem?_map] at hi
        obtain ⟨p, hp, rfl⟩ := Option.map_eq_some_iff.1 hi
        obtain ⟨cs', h1, h2⟩ := hget hp
        obtain ⟨_, h3, h4⟩ := World.cells?_some h1
        obtain ⟨v, hv, hr⟩ := h2.get hj
        have hjk : j < k := by have := (List.getElem?_eq_some_iff.1 hv).1; omega
        have := h4 j hjk
        rw [Deep.add_add, hv] at this
        simp only [this]
        exact hr
    · intro x hx
      obtain ⟨i, rfl⟩ := List.mem_ofFn.1 hx
      exact (hsp i).choose_spec.2.2
/-- The fields of a struct, from a cell on. -/
structure FRdB {α : Type} (P : Program) (off : Nat) (fs : List Field) (sz : Nat) (f : α → List D) (ok : α → Prop) : Prop where
  down : ∀ {H : Type} {enc : TypeId × Value → H} {w : World} {base : Nat} {spare : Nat → Bool} {held : Bool} {n : Nat} {cs : List Value} (ys : List (DataW H × List MemPlace)),
    cs.length = off + sz → ys.length = fs.length → (∀ (i : Nat) (f : Field), fs[i]? = some f → DataW.trod enc P w base spare held n f.type ((cs.drop f.offset).take (P.cellsOf f.type)) = ys[i]?) → ∃ y, All2 (RepD w (· < w.heap.size)) (f y) (cs.drop off) ∧ ok y
theorem FRdB.last {α : Type} {P : Program} {off sz : Nat} {f : Field} {d : α → List D} {ok : α → Prop} (ho : f.offset = off) (hc : P.cellsOf f.type = sz) (hd : RdB P f.type d ok) : FRdB P off [f] sz d ok := by
  refine ⟨fun {H enc w base spare held n cs} ys hl hy h => ?_⟩
  have h0 := h 0 f rfl
  rw [ho, hc, List.take_of_length_le (by rw [List.length_drop]; omega)] at h0
  have h1 : 0 < ys.length := by rw [hy]; simp
  rw [List.getElem?_eq_getElem h1] at h0
  exact hd.down h0
theorem FRdB.cons {α β : Type} {P : Program} {off sa sb : Nat} {f : Field} {fs : List Field} {a : α → List D} {b : β → List D} {oka : α → Prop} {okb : β → Prop} (ho : f.offset = off) (hc : P.cellsOf f.type = sa) (ha : RdB P f.type a oka) (hb : FRdB P (off + sa) fs sb b okb) :
    FRdB P off (f :: fs) (sa + sb) (fun y : α × β => a y.1 ++ b y.2) (fun y => oka y.1 ∧ okb y.2) := by
  refine ⟨fun {H enc w base spare held n cs} ys hl hy h => ?_⟩
  have h0 := h 0 f rfl
  rw [ho, hc] at h0
  match ys, hy with
  | [], hy => simp at hy
  | y0 :: ys, hy =>
    obtain ⟨x, h1, h2⟩ := ha.down (x := y0) h0
    obtain ⟨z, h3, h4⟩ := hb.down (cs := cs) ys (by omega) (by simpa using hy) (fun i g hg => by simpa using h (i + 1) g (by simpa using hg))
    refine ⟨(x, z), ?_, h2, h4⟩
    have := h1.app h3
    rw [← List.drop_drop, List.take_append_drop] at this
    exact this
theorem RdB.struct {α : Type} {P : Program} {t sz : Nat} {fs : Array Field} {d : α → List D} {ok : α → Prop} (ht : P.underlying t = some (.struct fs)) (hc : P.cellsOf t = sz) (hf : FRdB P 0 fs.toList sz d ok) : RdB P t d ok := by
  refine ⟨fun {H enc w base spare held fuel cs x} h => ?_⟩
  obtain ⟨xs, n, _, _, hl, hx, hi⟩ := DataW.trod_struct ht h
  have := hf.down (cs := cs) xs (by omega) (by simpa using hx) (fun i f hf => hi i f (by simpa using hf))
  simpa using this
theorem RdB.iso {α β : Type} {P : Program} {t : TypeId} {d : α → List D} {d' : β → List D} {ok : α → Prop} {ok' : β → Prop} (g : α → β) (hd : RdB P t d ok) (hg : ∀ x, d' (g x) = d x) (hk : ∀ x, ok x → ok' (g x)) : RdB P t d' ok' :=
  ⟨fun h => by
    obtain ⟨x, h1, h2⟩ := hd.down h
    exact ⟨g x, by rw [hg]; exact h1, hk x h2⟩⟩
/-- An argument that is a struct; one that is a slice. -/
theorem RdB.argS {α H : Type} {enc : TypeId × Value → H} {P : Program} {w : World} {base : Nat} {spare : Nat → Bool} {held : Bool} {t : TypeId} {d : α → List D} {ok : α → Prop} {cs : Array Value} {x : DataW H} {p : List MemPlace}
    (hd : RdB P t d ok) (h : DataW.Trod enc P w base spare held t (.agg cs) x p) : ∃ y : α, All2 (RepD w (· < w.heap.size)) (d y) cs.toList ∧ ok y := by
  obtain ⟨fuel, hf⟩ := h
  exact hd.down hf
theorem RdB.arg1 {α H : Type} {enc : TypeId × Value → H} {P : Program} {w : World} {base : Nat} {spare : Nat → Bool} {held : Bool} {t : TypeId} {d : α → D} {ok : α → Prop} {a : Option Addr} {len cap : Nat} {x : DataW H} {p : List MemPlace}
    (hd : RdB P t (fun y => [d y]) ok) (h : DataW.Trod enc P w base spare held t (.slice a len cap) x p) : ∃ y : α, RepD w (· < w.heap.size) (d y) (.slice a len cap) ∧ ok y := by
  obtain ⟨fuel, hf⟩ := h
  obtain ⟨y, h1, h2⟩ := hd.down hf
  simp [Value.cells] at h1
  cases h1 with
  | cons h _ => exact ⟨y, h, h2⟩
/-- A law's contract, of data alone: it gives its value, and leaves what was there. -/
theorem AC.run {P : Program} {f : FuncId} {args : List TV} {b : Bool} {n : Nat} (h : AC P f args noHp 0 ⟨.t (bT b), noHp, n⟩) {W : World} {vs : List Value} (hv : All2 (RepT ⟨W, fun _ => 0, fun _ => .bool false, fun _ => 0, (· < W.heap.size), fun _ => False⟩) args vs) :
    Calls P f vs.toArray W fun e W' => e = .returned (.bool b) ∧ Below W.heap.size W W' := by
  have g : Good ⟨W, fun _ => 0, fun _ => .bool false, fun _ => 0, (· < W.heap.size), fun _ => False⟩ noHp := by
    refine ⟨fun m o hm => ?_, fun m o hm => ?_, fun b hb => ?_, fun m o m' o' b hm => ?_, fun b hb => hb⟩
    · simp [noHp] at hm
    · simp [noHp] at hm
    · obtain ⟨m, o, hm, _⟩ := hb; simp [noHp] at hm
    · simp [noHp] at hm
  refine Calls.mono (h.2 _ vs g (fun m hm => hm.elim) hv) fun e w' => ?_
  rintro ⟨v, c', rfl, rfl, t, _, r, _⟩
  refine ⟨by rw [show v = .bool b by cases r; rfl], t.os, t.tape, t.output, t.size, fun k hk => t.keep k hk ?_⟩
  rintro ⟨m, o, hm, _⟩
  simp [noHp] at hm
theorem rep_agg {W : World} {c : Cx} {cs : List D} {vs : Array Value} (hc : c.w = W) (hS : c.S = (· < W.heap.size)) (h : All2 (RepD W (· < W.heap.size)) cs vs.toList) : RepT c (.agg (cs.map .d)) (.agg vs) :=
  ⟨vs.toList, by simp, All2.map_left (h.imp fun a b hab => by subst hc; rw [← hS] at hab; exact hab)⟩
end Go.Proofs.Ytcbhgglpgphimaa.Ab
namespace Go.Proofs.Ytcbhgglpgphimaa.Ab
set_option linter.deprecated false
set_option linter.unusedVariables false
set_option linter.unusedSimpArgs false
open Go Go.Proofs
set_option maxRecDepth 10000
set_option maxHeartbeats 8000000
set_option linter.unusedSimpArgs false
set_option linter.unusedVariables false
def okY (c : List Int) : Prop := c.length ≤ maxLen ∧ ∀ x ∈ c, (Lit.int .u8 x).wf = true
theorem okY.byte {c : List Int} (h : okY c) : byteL (c.take 2000) := by
  refine ⟨by rw [List.length_take]; omega, fun x hx => ?_⟩
  have := h.2 x (List.mem_of_mem_take hx)
  simp only [Lit.wf, IntKind.min, IntKind.max, Bool.and_eq_true, decide_eq_true_eq] at this
  simp [IntKind.signed, IntKind.bits] at this
  omega
theorem rdBytes : RdB Try.prog 41 (fun r => [.rs 1 (r.map u8D)]) okY := RdB.slice Try.underlying41 (by kernel_rfl) (RdB.int Try.underlying5)
theorem ltIntsE_ac : AC Try.prog 107 [intsT [], intsT []] noHp 0 ⟨.t (bT true), noHp, 0⟩ := by
  have g : decide ((0 : Int) = 0) = true := rfl
  have g2 : decide ((0 : Int) < 0) = false := rfl
  refine AC_of Try.func107 rfl Try.ntmps107 Try.results107 (by kernel_rfl) rfl ?_
  simp only [List.zipIdx, List.map, Nat.zero_add, Nat.reduceAdd]
  repeat (first | apply Aw_seq | apply Aw_block | apply Aw_skip | apply Aw_exit | refine Aw_condt rfl ?_ | refine Aw_condf rfl ?_ | (refine qr ?_; simp only [go_sem, Nat.reduceEqDiff, reduceIte, Nat.reduceAdd, Nat.reduceMul, Nat.reduceSub, Nat.reduceLT, Nat.reduceLeDiff, Nat.reduceBEq, g]) | (refine qd (by kernel_rfl) (by kernel_rfl) ?_; simp only [go_sem, Nat.reduceEqDiff, reduceIte, Nat.reduceAdd, Nat.reduceMul, Nat.reduceSub, Nat.reduceLT, Nat.reduceLeDiff, Nat.reduceBEq, g]) | refine dk (by kernel_rfl) ?_)
  refine Aw_rounds 1 ?_
  refine AwR_succ ?_
  repeat (first | apply Aw_seq | apply Aw_block | apply Aw_skip | apply Aw_exit | refine Aw_condt rfl ?_ | refine Aw_condf rfl ?_ | (refine qr ?_; simp only [go_sem, Nat.reduceEqDiff, reduceIte, Nat.reduceAdd, Nat.reduceMul, Nat.reduceSub, Nat.reduceLT, Nat.reduceLeDiff, Nat.reduceBEq, g2]) | (refine qd (by kernel_rfl) (by kernel_rfl) ?_; simp only [go_sem, Nat.reduceEqDiff, reduceIte, Nat.reduceAdd, Nat.reduceMul, Nat.reduceSub, Nat.reduceLT, Nat.reduceLeDiff, Nat.reduceBEq, g2]) | refine dk (by kernel_rfl) ?_)
  exact Aw_ret (ret0 (.inl rfl) (by simp only [go_sem, Nat.reduceEqDiff, reduceIte, Nat.reduceAdd, Nat.reduceMul, Nat.reduceSub, Nat.reduceLT, Nat.reduceLeDiff, Nat.reduceBEq]; rfl) (by rfl) rfl)
theorem ltStoreZ_ac : AC Try.prog 47 [stT zSto, stT zSto] noHp 0 ⟨.t (bT true), noHp, 0⟩ := by
  have k1 := ltRuns_ac [] (by simp)
  have k2 := ltIntsE_ac
  unfold zSto
  have g : decide ((0 : Int) = 0) = true := rfl
  have g2 : decide ((0 : Int) < 0) = false := rfl
  refine AC_of Try.func47 rfl Try.ntmps47 Try.results47 (by kernel_rfl) rfl ?_
  simp only [List.zipIdx, List.map, Nat.zero_add, Nat.reduceAdd]
  repeat (first | apply Aw_seq | apply Aw_block | apply Aw_skip | apply Aw_exit | refine Aw_condt rfl ?_ | refine Aw_condf rfl ?_ | (refine qr ?_; simp only [go_sem, Nat.reduceEqDiff, reduceIte, Nat.reduceAdd, Nat.reduceMul, Nat.reduceSub, Nat.reduceLT, Nat.reduceLeDiff, Nat.reduceBEq, g]) | (refine qd (by kernel_rfl) (by kernel_rfl) ?_; simp only [go_sem, Nat.reduceEqDiff, reduceIte, Nat.reduceAdd, Nat.reduceMul, Nat.reduceSub, Nat.reduceLT, Nat.reduceLeDiff, Nat.reduceBEq, g]) | refine dk (by kernel_rfl) ?_ | (refine qp (k1) (by simp only [go_sem, Nat.reduceEqDiff, reduceIte, Nat.reduceAdd, Nat.reduceMul, Nat.reduceSub, Nat.reduceLT, Nat.reduceLeDiff, Nat.reduceBEq, g]; first | done | rfl) rfl (by simp only [go_sem, Nat.reduceLT]) rfl rfl ?_; simp only [go_sem, Nat.reduceEqDiff, reduceIte, Nat.reduceAdd, Nat.reduceMul, Nat.reduceSub, Nat.reduceLT, Nat.reduceLeDiff, Nat.reduceBEq, g]) | (refine qp (k2) (by simp only [go_sem, Nat.reduceEqDiff, reduceIte, Nat.reduceAdd, Nat.reduceMul, Nat.reduceSub, Nat.reduceLT, Nat.reduceLeDiff, Nat.reduceBEq, g]; first | done | rfl) rfl (by simp only [go_sem, Nat.reduceLT]) rfl rfl ?_; simp only [go_sem, Nat.reduceEqDiff, reduceIte, Nat.reduceAdd, Nat.reduceMul, Nat.reduceSub, Nat.reduceLT, Nat.reduceLeDiff, Nat.reduceBEq, g]))
  refine Aw_rounds 1 ?_
  refine AwR_succ ?_
  repeat (first | apply Aw_seq | apply Aw_block | apply Aw_skip | apply Aw_exit | refine Aw_condt rfl ?_ | refine Aw_condf rfl ?_ | (refine qr ?_; simp only [go_sem, Nat.reduceEqDiff, reduceIte, Nat.reduceAdd, Nat.reduceMul, Nat.reduceSub, Nat.reduceLT, Nat.reduceLeDiff, Nat.reduceBEq, g2]) | (refine qd (by kernel_rfl) (by kernel_rfl) ?_; simp only [go_sem, Nat.reduceEqDiff, reduceIte, Nat.reduceAdd, Nat.reduceMul, Nat.reduceSub, Nat.reduceLT, Nat.reduceLeDiff, Nat.reduceBEq, g2]) | refine dk (by kernel_rfl) ?_)
  refine Aw_rounds 1 ?_
  refine AwR_succ ?_
  repeat (first | apply Aw_seq | apply Aw_block | apply Aw_skip | apply Aw_exit | refine Aw_condt rfl ?_ | refine Aw_condf rfl ?_ | (refine qr ?_; simp only [go_sem, Nat.reduceEqDiff, reduceIte, Nat.reduceAdd, Nat.reduceMul, Nat.reduceSub, Nat.reduceLT, Nat.reduceLeDiff, Nat.reduceBEq, g2]) | (refine qd (by kernel_rfl) (by kernel_rfl) ?_; simp only [go_sem, Nat.reduceEqDiff, reduceIte, Nat.reduceAdd, Nat.reduceMul, Nat.reduceSub, Nat.reduceLT, Nat.reduceLeDiff, Nat.reduceBEq, g2]) | refine dk (by kernel_rfl) ?_)
  exact Aw_ret (ret0 (.inl rfl) (by simp only [go_sem, Nat.reduceEqDiff, reduceIte, Nat.reduceAdd, Nat.reduceMul, Nat.reduceSub, Nat.reduceLT, Nat.reduceLeDiff, Nat.reduceBEq]; rfl) (by rfl) rfl)
theorem ltStoreE_ac (keep : Int) : AC Try.prog 47 [stT (eSto keep), stT (eSto keep)] noHp 0 ⟨.t (bT true), noHp, 0⟩ := by
  have k1 := ltRuns_ac [] (by simp)
  have k2 := ltIntsE_ac
  have k3 := ltSieve_ac (eSve keep) (by simp [eSve])
  unfold eSto
  unfold eSve at *
  have g : decide ((0 : Int) = 0) = true := rfl
  have g3 : decide ((3 : Int) = 3) = true := rfl
  have l0 : decide ((0 : Int) < 3) = true := rfl
  have l1 : decide ((1 : Int) < 3) = true := rfl
  have l2 : decide ((2 : Int) < 3) = true := rfl
  have l3 : decide ((3 : Int) < 3) = false := rfl
  have w0 : IntKind.i64.wrap ((0 : Int) + 1) = 1 := rfl
  have w1 : IntKind.i64.wrap ((1 : Int) + 1) = 2 := rfl
  have w2 : IntKind.i64.wrap ((2 : Int) + 1) = 3 := rfl
  refine AC_of Try.func47 rfl Try.ntmps47 Try.results47 (by kernel_rfl) rfl ?_
  simp only [List.zipIdx, List.map, Nat.zero_add, Nat.reduceAdd]
  repeat (first | apply Aw_seq | apply Aw_block | apply Aw_skip | apply Aw_exit | refine Aw_condt rfl ?_ | refine Aw_condf rfl ?_ | (refine qr ?_; simp only [go_sem, Nat.reduceEqDiff, reduceIte, Nat.reduceAdd, Nat.reduceMul, Nat.reduceSub, Nat.reduceLT, Nat.reduceLeDiff, Nat.reduceBEq, g, g3, iref]) | (refine qd (by kernel_rfl) (by kernel_rfl) ?_; simp only [go_sem, Nat.reduceEqDiff, reduceIte, Nat.reduceAdd, Nat.reduceMul, Nat.reduceSub, Nat.reduceLT, Nat.reduceLeDiff, Nat.reduceBEq, g, g3, iref]) | refine dk (by kernel_rfl) ?_ | (refine qp (k1) (by simp only [go_sem, Nat.reduceEqDiff, reduceIte, Nat.reduceAdd, Nat.reduceMul, Nat.reduceSub, Nat.reduceLT, Nat.reduceLeDiff, Nat.reduceBEq, g, g3, iref]; first | done | rfl) rfl (by simp only [go_sem, Nat.reduceLT]) rfl rfl ?_; simp only [go_sem, Nat.reduceEqDiff, reduceIte, Nat.reduceAdd, Nat.reduceMul, Nat.reduceSub, Nat.reduceLT, Nat.reduceLeDiff, Nat.reduceBEq, g, g3, iref]) | (refine qp (k2) (by simp only [go_sem, Nat.reduceEqDiff, reduceIte, Nat.reduceAdd, Nat.reduceMul, Nat.reduceSub, Nat.reduceLT, Nat.reduceLeDiff, Nat.reduceBEq, g, g3, iref]; first | done | rfl) rfl (by simp only [go_sem, Nat.reduceLT]) rfl rfl ?_; simp only [go_sem, Nat.reduceEqDiff, reduceIte, Nat.reduceAdd, Nat.reduceMul, Nat.reduceSub, Nat.reduceLT, Nat.reduceLeDiff, Nat.reduceBEq, g, g3, iref]))
  refine Aw_rounds 4 ?_
  refine AwR_succ ?_
  repeat (first | apply Aw_seq | apply Aw_block | apply Aw_skip | apply Aw_exit | refine Aw_condt rfl ?_ | refine Aw_condf rfl ?_ | (refine qr ?_; simp only [go_sem, Nat.reduceEqDiff, reduceIte, Nat.reduceAdd, Nat.reduceMul, Nat.reduceSub, Nat.reduceLT, Nat.reduceLeDiff, Nat.reduceBEq, l0, l1, l2, l3, w0, w1, w2]) | (refine qd (by kernel_rfl) (by kernel_rfl) ?_; simp only [go_sem, Nat.reduceEqDiff, reduceIte, Nat.reduceAdd, Nat.reduceMul, Nat.reduceSub, Nat.reduceLT, Nat.reduceLeDiff, Nat.reduceBEq, l0, l1, l2, l3, w0, w1, w2]) | refine dk (by kernel_rfl) ?_ | (refine qp (k1) (by simp only [go_sem, Nat.reduceEqDiff, reduceIte, Nat.reduceAdd, Nat.reduceMul, Nat.reduceSub, Nat.reduceLT, Nat.reduceLeDiff, Nat.reduceBEq, l0, l1, l2, l3, w0, w1, w2]; first | done | rfl) rfl (by simp only [go_sem, Nat.reduceLT]) rfl rfl ?_; simp only [go_sem, Nat.reduceEqDiff, reduceIte, Nat.reduceAdd, Nat.reduceMul, Nat.reduceSub, Nat.reduceLT, Nat.reduceLeDiff, Nat.reduceBEq, l0, l1, l2, l3, w0, w1, w2]))
  refine Aw_rounds 4 ?_
  refine AwR_succ ?_
  repeat (first | apply Aw_seq | apply Aw_block | apply Aw_skip | apply Aw_exit | refine Aw_condt rfl ?_ | refine Aw_condf rfl ?_ | (refine qr ?_; simp only [go_sem, Nat.reduceEqDiff, reduceIte, Nat.reduceAdd, Nat.reduceMul, Nat.reduceSub, Nat.reduceLT, Nat.reduceLeDiff, Nat.reduceBEq, l0, l1, l2, l3, w0, w1, w2]) | (refine qd (by kernel_rfl) (by kernel_rfl) ?_; simp only [go_sem, Nat.reduceEqDiff, reduceIte, Nat.reduceAdd, Nat.reduceMul, Nat.reduceSub, Nat.reduceLT, Nat.reduceLeDiff, Nat.reduceBEq, l0, l1, l2, l3, w0, w1, w2]) | refine dk (by kernel_rfl) ?_ | (refine qp (k3) (by simp only [go_sem, Nat.reduceEqDiff, reduceIte, Nat.reduceAdd, Nat.reduceMul, Nat.reduceSub, Nat.reduceLT, Nat.reduceLeDiff, Nat.reduceBEq, l0, l1, l2, l3, w0, w1, w2]; first | done | rfl) rfl (by simp only [go_sem, Nat.reduceLT]) rfl rfl ?_; simp only [go_sem, Nat.reduceEqDiff, reduceIte, Nat.reduceAdd, Nat.reduceMul, Nat.reduceSub, Nat.reduceLT, Nat.reduceLeDiff, Nat.reduceBEq, l0, l1, l2, l3, w0, w1, w2]))
  exact Aw_ret (ret0 (.inl rfl) (by simp only [go_sem, Nat.reduceEqDiff, reduceIte, Nat.reduceAdd, Nat.reduceMul, Nat.reduceSub, Nat.reduceLT, Nat.reduceLeDiff, Nat.reduceBEq]; rfl) (by rfl) rfl)
end Go.Proofs.Ytcbhgglpgphimaa.Ab
namespace Go.Proofs.Ytcbhgglpgphimaa.Ab
set_option linter.deprecated false
set_option linter.unusedVariables false
set_option linter.unusedSimpArgs false
open Go Go.Proofs
set_option maxRecDepth 10000
set_option maxHeartbeats 8000000
set_option linter.unusedSimpArgs false
set_option linter.unusedVariables false
theorem storeNewS_ac {keep : Nat} (hk : keep ≤ 5) : AC Try.prog 21 [iT (keep : Nat)] noHp 0 ⟨.tup [stT (eSto (keep : Nat)), bT true], noHp, 0⟩ :=
  AC.settle0 [1] (storeNew_ok keep hk) (.cons (.cons (.inl rfl) (.cons (.inl rfl) (.cons (SetC.row0 rfl rfl) (.cons (.inl rfl) (.cons (.inl rfl) (.cons (.inl rfl) .nil)))))) (.cons (.inl rfl) .nil)) rfl
noncomputable def dnV (b : List Int) : Int := ((pickV b 0 9 : Nat) : Int) - 1
theorem drawStoreNew_ac (c : List Int) (hl : c.length ≤ 1099511627776) (hb : byteL (c.take 2000)) : AC Try.prog 46 [bytesT c] noHp 0 ⟨.t (iT (dnV (c.take 2000))), noHp, 0⟩ := by
  have k0 := l6Open_ac c hl
  obtain ⟨b, hbe⟩ : ∃ b, b = c.take 2000 := ⟨_, rfl⟩
  rw [← hbe] at hb k0 ⊢
  have k9 := pickV_ac (n := 9) hb (show 0 ≤ 1000000 by omega) (by omega)
  have l9 := pickV_lt (n := 9) hb (show 0 ≤ 1000000 by omega) (by omega) (by omega)
  have w : IntKind.i64.wrap (((pickV b 0 9 : Nat) : Int) - 1) = ((pickV b 0 9 : Nat) : Int) - 1 := wrap_in (by omega) (by omega)
  unfold dnV
  refine AC_of Try.func46 rfl Try.ntmps46 Try.results46 (by kernel_rfl) rfl ?_
  simp only [List.zipIdx, List.map, Nat.zero_add, Nat.reduceAdd]
  repeat (first | apply Aw_seq | apply Aw_block | apply Aw_skip | apply Aw_exit | refine Aw_condt rfl ?_ | refine Aw_condf rfl ?_ | (refine qr ?_; simp only [go_sem, Nat.reduceEqDiff, reduceIte, Nat.reduceAdd, Nat.reduceMul, Nat.reduceSub, Nat.reduceLT, Nat.reduceLeDiff, Nat.reduceBEq, w]) | (refine qd (by kernel_rfl) (by kernel_rfl) ?_; simp only [go_sem, Nat.reduceEqDiff, reduceIte, Nat.reduceAdd, Nat.reduceMul, Nat.reduceSub, Nat.reduceLT, Nat.reduceLeDiff, Nat.reduceBEq, w]) | refine dk (by kernel_rfl) ?_ | (refine qx (call_N (L := []) (k0) rfl (.cons (.nm rfl) (.nil)) (.inl rfl) rfl) (by simp only [go_sem, Nat.reduceEqDiff, reduceIte, Nat.reduceAdd, Nat.reduceMul, Nat.reduceSub, Nat.reduceLT, Nat.reduceLeDiff, Nat.reduceBEq, w]; first | done | rfl) rfl (by simp only [go_sem, Nat.reduceLT]) ?_; simp only [go_sem, Nat.reduceEqDiff, reduceIte, Nat.reduceAdd, Nat.reduceMul, Nat.reduceSub, Nat.reduceLT, Nat.reduceLeDiff, Nat.reduceBEq, w]) | (refine qx (call_L (N' := [2]) (L := []) (k9) rfl (.cons (.nm rfl) (.cons (.nm rfl) (.nil))) (by decide) (by decide) (by decide) (by simp only [go_sem, Nat.reduceEqDiff, reduceIte, Nat.reduceAdd, Nat.reduceMul, Nat.reduceSub, Nat.reduceLT, Nat.reduceLeDiff, Nat.reduceBEq, w]; first | done | rfl) (.inl rfl) rfl (by decide)) (by simp only [go_sem, Nat.reduceEqDiff, reduceIte, Nat.reduceAdd, Nat.reduceMul, Nat.reduceSub, Nat.reduceLT, Nat.reduceLeDiff, Nat.reduceBEq, w]; first | done | rfl) rfl (by simp only [go_sem, Nat.reduceLT]) ?_; simp only [go_sem, Nat.reduceEqDiff, reduceIte, Nat.reduceAdd, Nat.reduceMul, Nat.reduceSub, Nat.reduceLT, Nat.reduceLeDiff, Nat.reduceBEq, w]))
  exact Aw_ret (ret0 (.inl rfl) (by simp only [go_sem, Nat.reduceEqDiff, reduceIte, Nat.reduceAdd, Nat.reduceMul, Nat.reduceSub, Nat.reduceLT, Nat.reduceLeDiff, Nat.reduceBEq]; rfl) (by rfl) rfl)
theorem law_StoreNewD (c : List Int) (ho : okY c) : AC Try.prog 12 [bytesT c] noHp 0 ⟨.t (bT true), noHp, 0⟩ := by
  refine AC_of Try.func12 rfl Try.ntmps12 Try.results12 (by kernel_rfl) rfl ?_
  simp only [List.zipIdx, List.map, Nat.zero_add, Nat.reduceAdd]
  by_cases hc : c.length ≤ 1048576
  case neg =>
    have g0 : decide ((1048576 : Int) < (c.length : Int)) = true := decide_eq_true (by omega)
    repeat (first | apply Aw_seq | apply Aw_block | apply Aw_skip | apply Aw_exit | refine Aw_condt rfl ?_ | refine Aw_condf rfl ?_ | (refine qr ?_; simp only [go_sem, Nat.reduceEqDiff, reduceIte, Nat.reduceAdd, Nat.reduceMul, Nat.reduceSub, Nat.reduceLT, Nat.reduceLeDiff, Nat.reduceBEq, g0]) | (refine qd (by kernel_rfl) (by kernel_rfl) ?_; simp only [go_sem, Nat.reduceEqDiff, reduceIte, Nat.reduceAdd, Nat.reduceMul, Nat.reduceSub, Nat.reduceLT, Nat.reduceLeDiff, Nat.reduceBEq, g0]) | refine dk (by kernel_rfl) ?_)
    exact Aw_ret (ret0 (.inl rfl) (by simp only [go_sem, Nat.reduceEqDiff, reduceIte, Nat.reduceAdd, Nat.reduceMul, Nat.reduceSub, Nat.reduceLT, Nat.reduceLeDiff, Nat.reduceBEq]; rfl) (by rfl) rfl)
  have g0 : decide ((1048576 : Int) < (c.length : Int)) = false := decide_eq_false (by omega)
  have hb := ho.byte
  have k0 := drawStoreNew_ac c (by omega) hb
  generalize dnV (c.take 2000) = keep at k0
  cases hk : inB 0 keep 5
  · have k1 := storeNew_no keep hk
    have k2 := sstoreNew_no keep hk
    have k3 := ltStoreZ_ac
    repeat (first | apply Aw_seq | apply Aw_block | apply Aw_skip | apply Aw_exit | refine Aw_condt rfl ?_ | refine Aw_condf rfl ?_ | (refine qr ?_; simp only [go_sem, Nat.reduceEqDiff, reduceIte, Nat.reduceAdd, Nat.reduceMul, Nat.reduceSub, Nat.reduceLT, Nat.reduceLeDiff, Nat.reduceBEq, g0, bref]) | (refine qd (by kernel_rfl) (by kernel_rfl) ?_; simp only [go_sem, Nat.reduceEqDiff, reduceIte, Nat.reduceAdd, Nat.reduceMul, Nat.reduceSub, Nat.reduceLT, Nat.reduceLeDiff, Nat.reduceBEq, g0, bref]) | refine dk (by kernel_rfl) ?_ | (refine qp (k0) (by simp only [go_sem, Nat.reduceEqDiff, reduceIte, Nat.reduceAdd, Nat.reduceMul, Nat.reduceSub, Nat.reduceLT, Nat.reduceLeDiff, Nat.reduceBEq, g0, bref]; first | done | rfl) rfl (by simp only [go_sem, Nat.reduceLT]) rfl rfl ?_; simp only [go_sem, Nat.reduceEqDiff, reduceIte, Nat.reduceAdd, Nat.reduceMul, Nat.reduceSub, Nat.reduceLT, Nat.reduceLeDiff, Nat.reduceBEq, g0, bref]) | (refine qp (k1) (by simp only [go_sem, Nat.reduceEqDiff, reduceIte, Nat.reduceAdd, Nat.reduceMul, Nat.reduceSub, Nat.reduceLT, Nat.reduceLeDiff, Nat.reduceBEq, g0, bref]; first | done | rfl) rfl (by simp only [go_sem, Nat.reduceLT]) rfl rfl ?_; simp only [go_sem, Nat.reduceEqDiff, reduceIte, Nat.reduceAdd, Nat.reduceMul, Nat.reduceSub, Nat.reduceLT, Nat.reduceLeDiff, Nat.reduceBEq, g0, bref]) | (refine qp (k2) (by simp only [go_sem, Nat.reduceEqDiff, reduceIte, Nat.reduceAdd, Nat.reduceMul, Nat.reduceSub, Nat.reduceLT, Nat.reduceLeDiff, Nat.reduceBEq, g0, bref]; first | done | rfl) rfl (by simp only [go_sem, Nat.reduceLT]) rfl rfl ?_; simp only [go_sem, Nat.reduceEqDiff, reduceIte, Nat.reduceAdd, Nat.reduceMul, Nat.reduceSub, Nat.reduceLT, Nat.reduceLeDiff, Nat.reduceBEq, g0, bref]) | (refine qp (k3) (by simp only [go_sem, Nat.reduceEqDiff, reduceIte, Nat.reduceAdd, Nat.reduceMul, Nat.reduceSub, Nat.reduceLT, Nat.reduceLeDiff, Nat.reduceBEq, g0, bref]; first | done | rfl) rfl (by simp only [go_sem, Nat.reduceLT]) rfl rfl ?_; simp only [go_sem, Nat.reduceEqDiff, reduceIte, Nat.reduceAdd, Nat.reduceMul, Nat.reduceSub, Nat.reduceLT, Nat.reduceLeDiff, Nat.reduceBEq, g0, bref]))
    exact Aw_ret (ret0 (.inl rfl) (by simp only [go_sem, Nat.reduceEqDiff, reduceIte, Nat.reduceAdd, Nat.reduceMul, Nat.reduceSub, Nat.reduceLT, Nat.reduceLeDiff, Nat.reduceBEq]; rfl) (by rfl) rfl)
  obtain ⟨kn, hk5, rfl⟩ : ∃ n : Nat, n ≤ 5 ∧ keep = n := by
    unfold inB at hk
    rw [Bool.and_eq_true] at hk
    have h1 := of_decide_eq_true hk.1; have h2 := of_decide_eq_true hk.2
    exact ⟨keep.toNat, by omega, by omega⟩
  have k1 := storeNewS_ac hk5
  have k2 := sstoreNew_ok kn hk5
  have k3 := ltStoreE_ac (kn : Nat)
  have ke : keyOk ⟨#[]⟩ = true := rfl
  have kd : keyOk ⟨#[100, 100, 100, 100, 100]⟩ = true := rfl
  have ka : keyOk ⟨#[97]⟩ = true := rfl
  have k4 := getE_ac hk5 ⟨#[]⟩ ke (by unfold smK; decide)
  have k5 := storeE_ac hk5
  have k6 := listE_ac hk5 ⟨#[]⟩ ⟨#[100, 100, 100, 100, 100]⟩ ke (by unfold smK; decide) kd (by unfold smK; decide)
  have k7 := looksE_ac hk5 ⟨#[97]⟩ ka (by unfold smK; decide)
  have z0 : decide ((0 : Int) = 0) = true := rfl
  have z1 : decide (((0 : Nat) : Int) = 0) = true := rfl
  repeat (first | apply Aw_seq | apply Aw_block | apply Aw_skip | apply Aw_exit | refine Aw_condt rfl ?_ | refine Aw_condf rfl ?_ | (refine qr ?_; simp only [go_sem, Nat.reduceEqDiff, reduceIte, Nat.reduceAdd, Nat.reduceMul, Nat.reduceSub, Nat.reduceLT, Nat.reduceLeDiff, Nat.reduceBEq, g0, bref, z0, z1]) | (refine qd (by kernel_rfl) (by kernel_rfl) ?_; simp only [go_sem, Nat.reduceEqDiff, reduceIte, Nat.reduceAdd, Nat.reduceMul, Nat.reduceSub, Nat.reduceLT, Nat.reduceLeDiff, Nat.reduceBEq, g0, bref, z0, z1]) | refine dk (by kernel_rfl) ?_ | (refine qp (k0) (by simp only [go_sem, Nat.reduceEqDiff, reduceIte, Nat.reduceAdd, Nat.reduceMul, Nat.reduceSub, Nat.reduceLT, Nat.reduceLeDiff, Nat.reduceBEq, g0, bref, z0, z1]; first | done | rfl) rfl (by simp only [go_sem, Nat.reduceLT]) rfl rfl ?_; simp only [go_sem, Nat.reduceEqDiff, reduceIte, Nat.reduceAdd, Nat.reduceMul, Nat.reduceSub, Nat.reduceLT, Nat.reduceLeDiff, Nat.reduceBEq, g0, bref, z0, z1]) | (refine qp (k1) (by simp only [go_sem, Nat.reduceEqDiff, reduceIte, Nat.reduceAdd, Nat.reduceMul, Nat.reduceSub, Nat.reduceLT, Nat.reduceLeDiff, Nat.reduceBEq, g0, bref, z0, z1]; first | done | rfl) rfl (by simp only [go_sem, Nat.reduceLT]) rfl rfl ?_; simp only [go_sem, Nat.reduceEqDiff, reduceIte, Nat.reduceAdd, Nat.reduceMul, Nat.reduceSub, Nat.reduceLT, Nat.reduceLeDiff, Nat.reduceBEq, g0, bref, z0, z1]) | (refine qp (k2) (by simp only [go_sem, Nat.reduceEqDiff, reduceIte, Nat.reduceAdd, Nat.reduceMul, Nat.reduceSub, Nat.reduceLT, Nat.reduceLeDiff, Nat.reduceBEq, g0, bref, z0, z1]; first | done | rfl) rfl (by simp only [go_sem, Nat.reduceLT]) rfl rfl ?_; simp only [go_sem, Nat.reduceEqDiff, reduceIte, Nat.reduceAdd, Nat.reduceMul, Nat.reduceSub, Nat.reduceLT, Nat.reduceLeDiff, Nat.reduceBEq, g0, bref, z0, z1]) | (refine qp (k3) (by simp only [go_sem, Nat.reduceEqDiff, reduceIte, Nat.reduceAdd, Nat.reduceMul, Nat.reduceSub, Nat.reduceLT, Nat.reduceLeDiff, Nat.reduceBEq, g0, bref, z0, z1]; first | done | rfl) rfl (by simp only [go_sem, Nat.reduceLT]) rfl rfl ?_; simp only [go_sem, Nat.reduceEqDiff, reduceIte, Nat.reduceAdd, Nat.reduceMul, Nat.reduceSub, Nat.reduceLT, Nat.reduceLeDiff, Nat.reduceBEq, g0, bref, z0, z1]) | (refine qp (k4) (by simp only [go_sem, Nat.reduceEqDiff, reduceIte, Nat.reduceAdd, Nat.reduceMul, Nat.reduceSub, Nat.reduceLT, Nat.reduceLeDiff, Nat.reduceBEq, g0, bref, z0, z1]; first | done | rfl) rfl (by simp only [go_sem, Nat.reduceLT]) rfl rfl ?_; simp only [go_sem, Nat.reduceEqDiff, reduceIte, Nat.reduceAdd, Nat.reduceMul, Nat.reduceSub, Nat.reduceLT, Nat.reduceLeDiff, Nat.reduceBEq, g0, bref, z0, z1]) | (refine qp (k5) (by simp only [go_sem, Nat.reduceEqDiff, reduceIte, Nat.reduceAdd, Nat.reduceMul, Nat.reduceSub, Nat.reduceLT, Nat.reduceLeDiff, Nat.reduceBEq, g0, bref, z0, z1]; first | done | rfl) rfl (by simp only [go_sem, Nat.reduceLT]) rfl rfl ?_; simp only [go_sem, Nat.reduceEqDiff, reduceIte, Nat.reduceAdd, Nat.reduceMul, Nat.reduceSub, Nat.reduceLT, Nat.reduceLeDiff, Nat.reduceBEq, g0, bref, z0, z1]) | (refine qp (k6) (by simp only [go_sem, Nat.reduceEqDiff, reduceIte, Nat.reduceAdd, Nat.reduceMul, Nat.reduceSub, Nat.reduceLT, Nat.reduceLeDiff, Nat.reduceBEq, g0, bref, z0, z1]; first | done | rfl) rfl (by simp only [go_sem, Nat.reduceLT]) rfl rfl ?_; simp only [go_sem, Nat.reduceEqDiff, reduceIte, Nat.reduceAdd, Nat.reduceMul, Nat.reduceSub, Nat.reduceLT, Nat.reduceLeDiff, Nat.reduceBEq, g0, bref, z0, z1]) | (refine qp (k7) (by simp only [go_sem, Nat.reduceEqDiff, reduceIte, Nat.reduceAdd, Nat.reduceMul, Nat.reduceSub, Nat.reduceLT, Nat.reduceLeDiff, Nat.reduceBEq, g0, bref, z0, z1]; first | done | rfl) rfl (by simp only [go_sem, Nat.reduceLT]) rfl rfl ?_; simp only [go_sem, Nat.reduceEqDiff, reduceIte, Nat.reduceAdd, Nat.reduceMul, Nat.reduceSub, Nat.reduceLT, Nat.reduceLeDiff, Nat.reduceBEq, g0, bref, z0, z1]))
  exact Aw_ret (ret0 (.inl rfl) (by simp only [go_sem, Nat.reduceEqDiff, reduceIte, Nat.reduceAdd, Nat.reduceMul, Nat.reduceSub, Nat.reduceLT, Nat.reduceLeDiff, Nat.reduceBEq]; rfl) (by rfl) rfl)
end Go.Proofs.Ytcbhgglpgphimaa.Ab
