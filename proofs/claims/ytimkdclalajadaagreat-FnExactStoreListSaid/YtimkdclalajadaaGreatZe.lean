/-
  Contracts: the sizes of what a law is given. No condition.
  Contracts: what a law is given, laid out for the program; rows of our own that are read only from there on. No condition.
  Contracts: a law's comparisons, of what is the same; the law of the store's check. No condition.
  Whatever argument of the seat's kinds can be read as data is plain data of the machine's: lemmas, kind by kind (whole numbers, bools, strings, slices, structs). No condition.
  What a law reads as a store, a run, is plain data of the machine's, of sizes that a word holds. No condition.
  Contract: the law of the store's check gives true, of every store. No condition.
  Contracts: how many sieves may have a key of a range, the program's and the reference's; the law of it. No condition.
  slices.Sort and slices.Compact at strings, over a row of our own. No condition.
  slices.Sort and slices.Compact at strings as contracts. No condition.
  Contracts: a key that is put into its place, the reference's. No condition.
  Contracts: what was put last of a key; both. No condition.
  Plain law: keys put in place one by one are keys sorted and made one of a kind. No condition.
  Contracts: keys sorted. No condition.
  Contracts: the last entries of the keys of a range, the program's. No condition.
  What is listed of a store, in plain Lean. No condition.
  States told weaker under their names; a row of rows of its own, however many. No condition.
  Contracts: a law's marks: what it writes into rows of its own, and looks for afterwards. No condition.
  Contracts: a law's marks, found again. No condition.
  A law's marks in rows of rows, however many. No condition.
  Contracts: runs that are joined, and trimmed, the reference's. No condition.
-/
import Derived.Test.YtimkdclalajadaaGreatZd
import Derived.Test.YtimkdclalajadaaGreatZc
import Derived.Deep.Slices
import Derived.ChangeArms
import Derived.DataReads
import Derived.Below
import Derived.Test.YtimkdclalajadaaGreatZb
import Derived.Shelf.Sort.Plain
import Derived.Shelf.Slices.CompactS
import Derived.Shelf.Slices.In.SortNone
import Derived.Ground.NamesProg
import Derived.Sort.OwnSorted
import Derived.Sort.Grow
import Derived.Lib.OwnBridge
import Derived.Lib.RowBridge
namespace Go.Proofs.YtimkdclalajadaaGreat.Ab
open Nat renaming reduceEqDiff → jE, reduceAdd → jA, reduceMul → jM, reduceSub → jS, reduceLT → jL, reduceLeDiff → jD, reduceBEq → jB
set_option linter.deprecated false
set_option linter.unusedVariables false
set_option linter.unusedSimpArgs false
open Go Go.Proofs
set_option maxRecDepth 10000
set_option maxHeartbeats 8000000
theorem wrap_far {x : Int} (h0 : -9223372036854775808 ≤ x) (h1 : x ≤ 9223372036854775807) : IntKind.i64.wrap x = x := by
  simp only [IntKind.wrap, IntKind.bits, IntKind.signed]
  by_cases h : 0 ≤ x
  · have : x % 2 ^ 64 = x := by omega
    simp [this]; omega
  · have : x % 2 ^ 64 = x + 2 ^ 64 := by omega
    simp [this]; omega
def szM (w l : Nat) : Int := if w ≤ l then ((l - w : Nat) : Int) else -1
theorem szM_ok {w l : Nat} (h : w ≤ l) : szM w l = ((l - w : Nat) : Int) := if_pos h
theorem szM_no {w l : Nat} (h : ¬ w ≤ l) : szM w l = -1 := if_neg h
theorem wrap_sub {l n : Nat} (h : n ≤ l) (hl : l ≤ 1048576) : IntKind.i64.wrap ((l : Int) - (n : Int)) = ((l - n : Nat) : Int) := by
  rw [show (l : Int) - (n : Int) = ((l - n : Nat) : Int) by omega]; exact wrap_nat (by omega)
theorem wrap_neg {l n : Nat} (h : ¬ n ≤ l) (hl : l ≤ 1048576) (hn : n ≤ 9223372036854775807) : decide (IntKind.i64.wrap ((l : Int) - (n : Int)) < 0) = true := by
  rw [wrap_far (by omega) (by omega)]; exact decide_eq_true (by omega)
theorem nneg (n : Nat) : decide ((n : Int) < 0) = false := decide_eq_false (by omega)
theorem neg1 : decide ((-1 : Int) < 0) = true := rfl
def wS {α : Type} (f : α → Nat) (xs : List α) : Nat := xs.length + (xs.map f).sum
def wI {α : Type} (f : α → Nat) (xs : List α) (i : Nat) : Nat := xs.length + ((xs.take i).map f).sum
theorem wI_0 {α : Type} (f : α → Nat) (xs : List α) : wI f xs 0 = xs.length := rfl
theorem wI_succ {α : Type} {f : α → Nat} {xs : List α} {i : Nat} {x : α} (h : xs[i]? = some x) : wI f xs (i + 1) = wI f xs i + f x := by
  unfold wI
  rw [List.take_add_one, h]
  simp [List.sum_append]; omega
theorem wI_end {α : Type} (f : α → Nat) (xs : List α) : wI f xs xs.length = wS f xs := by unfold wI wS; rw [List.take_length]
theorem wI_le {α : Type} (f : α → Nat) (xs : List α) (i : Nat) : wI f xs i ≤ wS f xs := by
  unfold wI wS
  have : (xs.map f).sum = ((xs.take i).map f).sum + ((xs.drop i).map f).sum := by
    conv => lhs; rw [← List.take_append_drop i xs]
    rw [List.map_append, List.sum_append]
  omega
abbrev big (n : Nat) : Prop := n ≤ 9223372036854775807
def wEnt (e : Ent) : Nat := e.key.size
theorem szEntry_ac (e : Ent) (l : Nat) (hl : l ≤ 1048576) (he : big e.key.size) : AC Tryz.prog 74 [entT e, iT l] noHp 0 ⟨.t (iT (szM (wEnt e) l)), noHp, 0⟩ := by
  refine AC_of Tryz.func74 rfl Tryz.ntmps74 Tryz.results74 (by kernel_rfl) rfl ?_
  simp only [List.zipIdx, List.map, Nat.zero_add, Nat.reduceAdd]
  unfold wEnt
  by_cases h : e.key.size ≤ l
  · have w1 := wrap_sub h hl
    have h1 := nneg (l - e.key.size)
    rw [szM_ok h]
    repeat (first | apply Aw_seq | apply Aw_block | apply Aw_skip | apply Aw_exit | refine Aw_condt rfl ?_ | refine Aw_condf rfl ?_ | ((first | refine qr ?_ | refine qd (by kernel_rfl) (by kernel_rfl) ?_); simp only [go_sem, jE, reduceIte, jA, jM, jS, jL, jD, jB, w1, h1]) | refine dk (by kernel_rfl) ?_)
    exact Aw_ret (ret0 (.inl rfl) (by simp only [go_sem, jE, reduceIte, jA, jM, jS, jL, jD, jB]; rfl) (by rfl) rfl)
  · have w1 := wrap_neg h hl he
    rw [szM_no h]
    repeat (first | apply Aw_seq | apply Aw_block | apply Aw_skip | apply Aw_exit | refine Aw_condt rfl ?_ | refine Aw_condf rfl ?_ | ((first | refine qr ?_ | refine qd (by kernel_rfl) (by kernel_rfl) ?_); simp only [go_sem, jE, reduceIte, jA, jM, jS, jL, jD, jB, w1]) | refine dk (by kernel_rfl) ?_)
    exact Aw_ret (ret0 (.inl rfl) (by simp only [go_sem, jE, reduceIte, jA, jM, jS, jL, jD, jB]; rfl) (by rfl) rfl)
abbrev lvsT (r : List (List Ent)) : TV := .c (.d (.rs 1 (r.map lvD)))
abbrev svsT (r : List Sve) : TV := .c (.d (.rs 5 (r.map sveD)))
theorem szEntryS_ac (r : List Ent) (l : Nat) (hl : l ≤ 1048576) (hr : big r.length) (he : ∀ e ∈ r, big e.key.size) : AC Tryz.prog 26 [runT r, iT l] noHp 0 ⟨.t (iT (szM (wS wEnt r) l)), noHp, 0⟩ := by
  refine AC_of Tryz.func26 rfl Tryz.ntmps26 Tryz.results26 (by kernel_rfl) rfl ?_
  simp only [List.zipIdx, List.map, Nat.zero_add, Nat.reduceAdd]
  by_cases h : r.length ≤ l
  case neg =>
    have w1 := wrap_neg h hl hr
    rw [szM_no (by have := wI_le wEnt r 0; rw [wI_0] at this; omega)]
    repeat (first | apply Aw_seq | apply Aw_block | apply Aw_skip | apply Aw_exit | refine Aw_condt rfl ?_ | refine Aw_condf rfl ?_ | ((first | refine qr ?_ | refine qd (by kernel_rfl) (by kernel_rfl) ?_); simp only [go_sem, jE, reduceIte, jA, jM, jS, jL, jD, jB, w1]) | refine dk (by kernel_rfl) ?_)
    exact Aw_ret (ret0 (.inl rfl) (by simp only [go_sem, jE, reduceIte, jA, jM, jS, jL, jD, jB]; rfl) (by rfl) rfl)
  have w1 := wrap_sub h hl
  have h0 := nneg (l - r.length)
  repeat (first | apply Aw_seq | apply Aw_block | apply Aw_skip | apply Aw_exit | refine Aw_condt rfl ?_ | refine Aw_condf rfl ?_ | ((first | refine qr ?_ | refine qd (by kernel_rfl) (by kernel_rfl) ?_); simp only [go_sem, jE, reduceIte, jA, jM, jS, jL, jD, jB, w1, h0]) | refine dk (by kernel_rfl) ?_)
  refine Aw.rw (rw0 (l' := [(5, .t (iT (0 : Nat))), (1, .t (iT ((l - wI wEnt r 0 : Nat) : Int))), (0, .t (runT r))]) (n' := 0) (by repeat (first | exact trivial | refine ⟨rfl, rfl, ?_⟩))) ?_
  refine Aw_loop0 (ι := { i : Nat // i ≤ r.length ∧ (wI wEnt r i ≤ l) }) (fun q => [(5, .t (iT (q.1 : Nat))), (1, .t (iT ((l - wI wEnt r q.1 : Nat) : Int))), (0, .t (runT r))]) (fun q => r.length - q.1) ⟨0, Nat.zero_le _, h⟩ ?_
  rintro ⟨i, hi, hp⟩
  dsimp only
  by_cases hlt : i < r.length
  · have h1 : (i : Int) < (r.length : Int) := by omega
    have h2 := wrap_succ hlt (by omega)
    obtain ⟨e, hx⟩ : ∃ e, r[i]? = some e := ⟨_, List.getElem?_eq_getElem hlt⟩
    have k := szEntry_ac e (l - wI wEnt r i) (by omega) (he e (List.mem_of_getElem? hx))
    have e1 := wI_succ (f := wEnt) hx
    by_cases h3 : wEnt e ≤ l - wI wEnt r i
    · rw [szM_ok h3, show l - wI wEnt r i - wEnt e = l - wI wEnt r (i + 1) by omega] at k
      have h4 := nneg (l - wI wEnt r (i + 1))
      repeat (first | apply Aw_seq | apply Aw_block | apply Aw_skip | apply Aw_exit | refine Aw_condt rfl ?_ | refine Aw_condf rfl ?_ | ((first | refine qr ?_ | refine qd (by kernel_rfl) (by kernel_rfl) ?_); simp only [go_sem, jE, reduceIte, jA, jM, jS, jL, jD, jB, h1, h2, hx, h4]) | refine dk (by kernel_rfl) ?_ | (refine qp (k) (by simp only [go_sem, jE, reduceIte, jA, jM, jS, jL, jD, jB, h1, h2, hx, h4]; first | done | rfl) rfl (by simp only [go_sem, Nat.reduceLT]) rfl rfl ?_; simp only [go_sem, jE, reduceIte, jA, jM, jS, jL, jD, jB, h1, h2, hx, h4]))
      exact ⟨⟨i + 1, by omega, by omega⟩, (by simp only []; omega), rw0 (by repeat (first | exact trivial | refine ⟨rfl, rfl, ?_⟩))⟩
    · rw [szM_no h3] at k
      rw [szM_no (w := wS wEnt r) (by have := wI_le wEnt r (i + 1); omega)]
      repeat (first | apply Aw_seq | apply Aw_block | apply Aw_skip | apply Aw_exit | refine Aw_condt rfl ?_ | refine Aw_condf rfl ?_ | ((first | refine qr ?_ | refine qd (by kernel_rfl) (by kernel_rfl) ?_); simp only [go_sem, jE, reduceIte, jA, jM, jS, jL, jD, jB, h1, h2, hx, neg1]) | refine dk (by kernel_rfl) ?_ | (refine qp (k) (by simp only [go_sem, jE, reduceIte, jA, jM, jS, jL, jD, jB, h1, h2, hx, neg1]; first | done | rfl) rfl (by simp only [go_sem, Nat.reduceLT]) rfl rfl ?_; simp only [go_sem, jE, reduceIte, jA, jM, jS, jL, jD, jB, h1, h2, hx, neg1]))
      exact Aw_ret (ret0 (.inl rfl) (by simp only [go_sem, jE, reduceIte, jA, jM, jS, jL, jD, jB]; rfl) (by rfl) rfl)
  · have h1 : ¬ (i : Int) < (r.length : Int) := by omega
    obtain rfl : i = r.length := by omega
    rw [wI_end] at hp ⊢
    rw [szM_ok hp]
    repeat (first | apply Aw_seq | apply Aw_block | apply Aw_skip | apply Aw_exit | refine Aw_condt rfl ?_ | refine Aw_condf rfl ?_ | ((first | refine qr ?_ | refine qd (by kernel_rfl) (by kernel_rfl) ?_); simp only [go_sem, jE, reduceIte, jA, jM, jS, jL, jD, jB, h1]) | refine dk (by kernel_rfl) ?_)
    exact Aw_ret (ret0 (.inl rfl) (by simp only [go_sem, jE, reduceIte, jA, jM, jS, jL, jD, jB]; rfl) (by rfl) rfl)
def bigR (r : List Ent) : Prop := big r.length ∧ ∀ e ∈ r, big e.key.size
def wRun (r : List Ent) : Nat := wS wEnt r
theorem szEntrySS_ac (r : List (List Ent)) (l : Nat) (hl : l ≤ 1048576) (hr : big r.length) (he : ∀ e ∈ r, bigR e) : AC Tryz.prog 27 [lvsT r, iT l] noHp 0 ⟨.t (iT (szM (wS wRun r) l)), noHp, 0⟩ := by
  refine AC_of Tryz.func27 rfl Tryz.ntmps27 Tryz.results27 (by kernel_rfl) rfl ?_
  simp only [List.zipIdx, List.map, Nat.zero_add, Nat.reduceAdd]
  by_cases h : r.length ≤ l
  case neg =>
    have w1 := wrap_neg h hl hr
    rw [szM_no (by have := wI_le wRun r 0; rw [wI_0] at this; omega)]
    repeat (first | apply Aw_seq | apply Aw_block | apply Aw_skip | apply Aw_exit | refine Aw_condt rfl ?_ | refine Aw_condf rfl ?_ | ((first | refine qr ?_ | refine qd (by kernel_rfl) (by kernel_rfl) ?_); simp only [go_sem, jE, reduceIte, jA, jM, jS, jL, jD, jB, w1]) | refine dk (by kernel_rfl) ?_)
    exact Aw_ret (ret0 (.inl rfl) (by simp only [go_sem, jE, reduceIte, jA, jM, jS, jL, jD, jB]; rfl) (by rfl) rfl)
  have w1 := wrap_sub h hl
  have h0 := nneg (l - r.length)
  repeat (first | apply Aw_seq | apply Aw_block | apply Aw_skip | apply Aw_exit | refine Aw_condt rfl ?_ | refine Aw_condf rfl ?_ | ((first | refine qr ?_ | refine qd (by kernel_rfl) (by kernel_rfl) ?_); simp only [go_sem, jE, reduceIte, jA, jM, jS, jL, jD, jB, w1, h0]) | refine dk (by kernel_rfl) ?_)
  refine Aw.rw (rw0 (l' := [(5, .t (iT (0 : Nat))), (1, .t (iT ((l - wI wRun r 0 : Nat) : Int))), (0, .t (lvsT r))]) (n' := 0) (by repeat (first | exact trivial | refine ⟨rfl, rfl, ?_⟩))) ?_
  refine Aw_loop0 (ι := { i : Nat // i ≤ r.length ∧ (wI wRun r i ≤ l) }) (fun q => [(5, .t (iT (q.1 : Nat))), (1, .t (iT ((l - wI wRun r q.1 : Nat) : Int))), (0, .t (lvsT r))]) (fun q => r.length - q.1) ⟨0, Nat.zero_le _, h⟩ ?_
  rintro ⟨i, hi, hp⟩
  dsimp only
  by_cases hlt : i < r.length
  · have h1 : (i : Int) < (r.length : Int) := by omega
    have h2 := wrap_succ hlt (by omega)
    obtain ⟨e, hx⟩ : ∃ e, r[i]? = some e := ⟨_, List.getElem?_eq_getElem hlt⟩
    have k := szEntryS_ac e (l - wI wRun r i) (by omega) (he e (List.mem_of_getElem? hx)).1 (he e (List.mem_of_getElem? hx)).2
    rw [show wS wEnt e = wRun e from rfl] at k
    have e1 := wI_succ (f := wRun) hx
    by_cases h3 : wRun e ≤ l - wI wRun r i
    · rw [szM_ok h3, show l - wI wRun r i - wRun e = l - wI wRun r (i + 1) by omega] at k
      have h4 := nneg (l - wI wRun r (i + 1))
      repeat (first | apply Aw_seq | apply Aw_block | apply Aw_skip | apply Aw_exit | refine Aw_condt rfl ?_ | refine Aw_condf rfl ?_ | ((first | refine qr ?_ | refine qd (by kernel_rfl) (by kernel_rfl) ?_); simp only [go_sem, jE, reduceIte, jA, jM, jS, jL, jD, jB, h1, h2, hx, h4]) | refine dk (by kernel_rfl) ?_ | (refine qp (k) (by simp only [go_sem, jE, reduceIte, jA, jM, jS, jL, jD, jB, h1, h2, hx, h4]; first | done | rfl) rfl (by simp only [go_sem, Nat.reduceLT]) rfl rfl ?_; simp only [go_sem, jE, reduceIte, jA, jM, jS, jL, jD, jB, h1, h2, hx, h4]))
      exact ⟨⟨i + 1, by omega, by omega⟩, (by simp only []; omega), rw0 (by repeat (first | exact trivial | refine ⟨rfl, rfl, ?_⟩))⟩
    · rw [szM_no h3] at k
      rw [szM_no (w := wS wRun r) (by have := wI_le wRun r (i + 1); omega)]
      repeat (first | apply Aw_seq | apply Aw_block | apply Aw_skip | apply Aw_exit | refine Aw_condt rfl ?_ | refine Aw_condf rfl ?_ | ((first | refine qr ?_ | refine qd (by kernel_rfl) (by kernel_rfl) ?_); simp only [go_sem, jE, reduceIte, jA, jM, jS, jL, jD, jB, h1, h2, hx, neg1]) | refine dk (by kernel_rfl) ?_ | (refine qp (k) (by simp only [go_sem, jE, reduceIte, jA, jM, jS, jL, jD, jB, h1, h2, hx, neg1]; first | done | rfl) rfl (by simp only [go_sem, Nat.reduceLT]) rfl rfl ?_; simp only [go_sem, jE, reduceIte, jA, jM, jS, jL, jD, jB, h1, h2, hx, neg1]))
      exact Aw_ret (ret0 (.inl rfl) (by simp only [go_sem, jE, reduceIte, jA, jM, jS, jL, jD, jB]; rfl) (by rfl) rfl)
  · have h1 : ¬ (i : Int) < (r.length : Int) := by omega
    obtain rfl : i = r.length := by omega
    rw [wI_end] at hp ⊢
    rw [szM_ok hp]
    repeat (first | apply Aw_seq | apply Aw_block | apply Aw_skip | apply Aw_exit | refine Aw_condt rfl ?_ | refine Aw_condf rfl ?_ | ((first | refine qr ?_ | refine qd (by kernel_rfl) (by kernel_rfl) ?_); simp only [go_sem, jE, reduceIte, jA, jM, jS, jL, jD, jB, h1]) | refine dk (by kernel_rfl) ?_)
    exact Aw_ret (ret0 (.inl rfl) (by simp only [go_sem, jE, reduceIte, jA, jM, jS, jL, jD, jB]; rfl) (by rfl) rfl)
theorem szStringS_ac (r : List ByteArray) (l : Nat) (hl : l ≤ 1048576) (hr : big r.length) (he : ∀ e ∈ r, big e.size) : AC Tryz.prog 117 [strsT r, iT l] noHp 0 ⟨.t (iT (szM (wS ByteArray.size r) l)), noHp, 0⟩ := by
  refine AC_of Tryz.func117 rfl Tryz.ntmps117 Tryz.results117 (by kernel_rfl) rfl ?_
  simp only [List.zipIdx, List.map, Nat.zero_add, Nat.reduceAdd]
  by_cases h : r.length ≤ l
  case neg =>
    have w1 := wrap_neg h hl hr
    rw [szM_no (by have := wI_le ByteArray.size r 0; rw [wI_0] at this; omega)]
    repeat (first | apply Aw_seq | apply Aw_block | apply Aw_skip | apply Aw_exit | refine Aw_condt rfl ?_ | refine Aw_condf rfl ?_ | ((first | refine qr ?_ | refine qd (by kernel_rfl) (by kernel_rfl) ?_); simp only [go_sem, jE, reduceIte, jA, jM, jS, jL, jD, jB, w1]) | refine dk (by kernel_rfl) ?_)
    exact Aw_ret (ret0 (.inl rfl) (by simp only [go_sem, jE, reduceIte, jA, jM, jS, jL, jD, jB]; rfl) (by rfl) rfl)
  have w1 := wrap_sub h hl
  have h0 := nneg (l - r.length)
  repeat (first | apply Aw_seq | apply Aw_block | apply Aw_skip | apply Aw_exit | refine Aw_condt rfl ?_ | refine Aw_condf rfl ?_ | ((first | refine qr ?_ | refine qd (by kernel_rfl) (by kernel_rfl) ?_); simp only [go_sem, jE, reduceIte, jA, jM, jS, jL, jD, jB, w1, h0]) | refine dk (by kernel_rfl) ?_)
  refine Aw.rw (rw0 (l' := [(5, .t (iT (0 : Nat))), (1, .t (iT ((l - wI ByteArray.size r 0 : Nat) : Int))), (0, .t (strsT r))]) (n' := 0) (by repeat (first | exact trivial | refine ⟨rfl, rfl, ?_⟩))) ?_
  refine Aw_loop0 (ι := { i : Nat // i ≤ r.length ∧ (wI ByteArray.size r i ≤ l) }) (fun q => [(5, .t (iT (q.1 : Nat))), (1, .t (iT ((l - wI ByteArray.size r q.1 : Nat) : Int))), (0, .t (strsT r))]) (fun q => r.length - q.1) ⟨0, Nat.zero_le _, h⟩ ?_
  rintro ⟨i, hi, hp⟩
  dsimp only
  by_cases hlt : i < r.length
  · have h1 : (i : Int) < (r.length : Int) := by omega
    have h2 := wrap_succ hlt (by omega)
    obtain ⟨e, hx⟩ : ∃ e, r[i]? = some e := ⟨_, List.getElem?_eq_getElem hlt⟩
    have hk := he e (List.mem_of_getElem? hx)
    have e1 := wI_succ (f := ByteArray.size) hx
    by_cases h3 : ByteArray.size e ≤ l - wI ByteArray.size r i
    · have w2 := wrap_sub (n := e.size) h3 (by omega)
      rw [show l - wI ByteArray.size r i - e.size = l - wI ByteArray.size r (i + 1) by omega] at w2
      have h4 := nneg (l - wI ByteArray.size r (i + 1))
      repeat (first | apply Aw_seq | apply Aw_block | apply Aw_skip | apply Aw_exit | refine Aw_condt rfl ?_ | refine Aw_condf rfl ?_ | ((first | refine qr ?_ | refine qd (by kernel_rfl) (by kernel_rfl) ?_); simp only [go_sem, jE, reduceIte, jA, jM, jS, jL, jD, jB, h1, h2, hx, w2, h4]) | refine dk (by kernel_rfl) ?_)
      exact ⟨⟨i + 1, by omega, by omega⟩, (by simp only []; omega), rw0 (by repeat (first | exact trivial | refine ⟨rfl, rfl, ?_⟩))⟩
    · have w2 := wrap_neg (n := e.size) h3 (by omega) hk
      rw [szM_no (w := wS ByteArray.size r) (by have := wI_le ByteArray.size r (i + 1); omega)]
      repeat (first | apply Aw_seq | apply Aw_block | apply Aw_skip | apply Aw_exit | refine Aw_condt rfl ?_ | refine Aw_condf rfl ?_ | ((first | refine qr ?_ | refine qd (by kernel_rfl) (by kernel_rfl) ?_); simp only [go_sem, jE, reduceIte, jA, jM, jS, jL, jD, jB, h1, h2, hx, w2]) | refine dk (by kernel_rfl) ?_)
      exact Aw_ret (ret0 (.inl rfl) (by simp only [go_sem, jE, reduceIte, jA, jM, jS, jL, jD, jB]; rfl) (by rfl) rfl)
  · have h1 : ¬ (i : Int) < (r.length : Int) := by omega
    obtain rfl : i = r.length := by omega
    rw [wI_end] at hp ⊢
    rw [szM_ok hp]
    repeat (first | apply Aw_seq | apply Aw_block | apply Aw_skip | apply Aw_exit | refine Aw_condt rfl ?_ | refine Aw_condf rfl ?_ | ((first | refine qr ?_ | refine qd (by kernel_rfl) (by kernel_rfl) ?_); simp only [go_sem, jE, reduceIte, jA, jM, jS, jL, jD, jB, h1]) | refine dk (by kernel_rfl) ?_)
    exact Aw_ret (ret0 (.inl rfl) (by simp only [go_sem, jE, reduceIte, jA, jM, jS, jL, jD, jB]; rfl) (by rfl) rfl)
structure bigS (s : Sve) : Prop where
  letters : big s.letters.size
  more : big s.more.size
  first : big s.first.size
  rl : big s.rests.length
  rests : ∀ e ∈ s.rests, big e.size
def wSve (s : Sve) : Nat := s.letters.size + s.more.size + s.first.size + wS ByteArray.size s.rests
theorem szSieve_ac (s : Sve) (l : Nat) (hl : l ≤ 1048576) (hs : bigS s) : AC Tryz.prog 75 [sveP s, iT l] noHp 0 ⟨.t (iT (szM (wSve s) l)), noHp, 0⟩ := by
  refine AC_of Tryz.func75 rfl Tryz.ntmps75 Tryz.results75 (by kernel_rfl) rfl ?_
  simp only [List.zipIdx, List.map, Nat.zero_add, Nat.reduceAdd]
  by_cases h : s.letters.size ≤ l
  case neg =>
    have w1 := wrap_neg h hl hs.letters
    rw [szM_no (by unfold wSve; omega)]
    repeat (first | apply Aw_seq | apply Aw_block | apply Aw_skip | apply Aw_exit | refine Aw_condt rfl ?_ | refine Aw_condf rfl ?_ | ((first | refine qr ?_ | refine qd (by kernel_rfl) (by kernel_rfl) ?_); simp only [go_sem, jE, reduceIte, jA, jM, jS, jL, jD, jB, w1]) | refine dk (by kernel_rfl) ?_)
    exact Aw_ret (ret0 (.inl rfl) (by simp only [go_sem, jE, reduceIte, jA, jM, jS, jL, jD, jB]; rfl) (by rfl) rfl)
  have w1 := wrap_sub h hl
  have h0 := nneg (l - s.letters.size)
  obtain ⟨l1, e1⟩ : ∃ l1, l1 = l - s.letters.size := ⟨_, rfl⟩
  rw [← e1] at w1 h0
  by_cases h2 : s.more.size ≤ l1
  case neg =>
    have w2 := wrap_neg h2 (by omega) hs.more
    rw [szM_no (by unfold wSve; omega)]
    repeat (first | apply Aw_seq | apply Aw_block | apply Aw_skip | apply Aw_exit | refine Aw_condt rfl ?_ | refine Aw_condf rfl ?_ | ((first | refine qr ?_ | refine qd (by kernel_rfl) (by kernel_rfl) ?_); simp only [go_sem, jE, reduceIte, jA, jM, jS, jL, jD, jB, w1, h0, w2]) | refine dk (by kernel_rfl) ?_)
    exact Aw_ret (ret0 (.inl rfl) (by simp only [go_sem, jE, reduceIte, jA, jM, jS, jL, jD, jB]; rfl) (by rfl) rfl)
  have w2 := wrap_sub h2 (by omega)
  have h3 := nneg (l1 - s.more.size)
  obtain ⟨l2, e2⟩ : ∃ l2, l2 = l1 - s.more.size := ⟨_, rfl⟩
  rw [← e2] at w2 h3
  by_cases h4 : s.first.size ≤ l2
  case neg =>
    have w3 := wrap_neg h4 (by omega) hs.first
    rw [szM_no (by unfold wSve; omega)]
    repeat (first | apply Aw_seq | apply Aw_block | apply Aw_skip | apply Aw_exit | refine Aw_condt rfl ?_ | refine Aw_condf rfl ?_ | ((first | refine qr ?_ | refine qd (by kernel_rfl) (by kernel_rfl) ?_); simp only [go_sem, jE, reduceIte, jA, jM, jS, jL, jD, jB, w1, h0, w2, h3, w3]) | refine dk (by kernel_rfl) ?_)
    exact Aw_ret (ret0 (.inl rfl) (by simp only [go_sem, jE, reduceIte, jA, jM, jS, jL, jD, jB]; rfl) (by rfl) rfl)
  have w3 := wrap_sub h4 (by omega)
  have h5 := nneg (l2 - s.first.size)
  obtain ⟨l3, e3⟩ : ∃ l3, l3 = l2 - s.first.size := ⟨_, rfl⟩
  rw [← e3] at w3 h5
  have k := szStringS_ac s.rests l3 (by omega) hs.rl hs.rests
  by_cases h6 : wS ByteArray.size s.rests ≤ l3
  · rw [szM_ok h6] at k
    have h7 := nneg (l3 - wS ByteArray.size s.rests)
    rw [szM_ok (w := wSve s) (by unfold wSve; omega), show l - wSve s = l3 - wS ByteArray.size s.rests by unfold wSve; omega]
    repeat (first | apply Aw_seq | apply Aw_block | apply Aw_skip | apply Aw_exit | refine Aw_condt rfl ?_ | refine Aw_condf rfl ?_ | ((first | refine qr ?_ | refine qd (by kernel_rfl) (by kernel_rfl) ?_); simp only [go_sem, jE, reduceIte, jA, jM, jS, jL, jD, jB, w1, h0, w2, h3, w3, h5, h7]) | refine dk (by kernel_rfl) ?_ | (refine qp (k) (by simp only [go_sem, jE, reduceIte, jA, jM, jS, jL, jD, jB, w1, h0, w2, h3, w3, h5, h7]; first | done | rfl) rfl (by simp only [go_sem, Nat.reduceLT]) rfl rfl ?_; simp only [go_sem, jE, reduceIte, jA, jM, jS, jL, jD, jB, w1, h0, w2, h3, w3, h5, h7]))
    exact Aw_ret (ret0 (.inl rfl) (by simp only [go_sem, jE, reduceIte, jA, jM, jS, jL, jD, jB]; rfl) (by rfl) rfl)
  · rw [szM_no h6] at k
    rw [szM_no (by unfold wSve; omega)]
    repeat (first | apply Aw_seq | apply Aw_block | apply Aw_skip | apply Aw_exit | refine Aw_condt rfl ?_ | refine Aw_condf rfl ?_ | ((first | refine qr ?_ | refine qd (by kernel_rfl) (by kernel_rfl) ?_); simp only [go_sem, jE, reduceIte, jA, jM, jS, jL, jD, jB, w1, h0, w2, h3, w3, h5, neg1]) | refine dk (by kernel_rfl) ?_ | (refine qp (k) (by simp only [go_sem, jE, reduceIte, jA, jM, jS, jL, jD, jB, w1, h0, w2, h3, w3, h5, neg1]; first | done | rfl) rfl (by simp only [go_sem, Nat.reduceLT]) rfl rfl ?_; simp only [go_sem, jE, reduceIte, jA, jM, jS, jL, jD, jB, w1, h0, w2, h3, w3, h5, neg1]))
    exact Aw_ret (ret0 (.inl rfl) (by simp only [go_sem, jE, reduceIte, jA, jM, jS, jL, jD, jB]; rfl) (by rfl) rfl)
theorem szSieveS_ac (r : List Sve) (l : Nat) (hl : l ≤ 1048576) (hr : big r.length) (he : ∀ e ∈ r, bigS e) : AC Tryz.prog 28 [svsT r, iT l] noHp 0 ⟨.t (iT (szM (wS wSve r) l)), noHp, 0⟩ := by
  refine AC_of Tryz.func28 rfl Tryz.ntmps28 Tryz.results28 (by kernel_rfl) rfl ?_
  simp only [List.zipIdx, List.map, Nat.zero_add, Nat.reduceAdd]
  by_cases h : r.length ≤ l
  case neg =>
    have w1 := wrap_neg h hl hr
    rw [szM_no (by have := wI_le wSve r 0; rw [wI_0] at this; omega)]
    repeat (first | apply Aw_seq | apply Aw_block | apply Aw_skip | apply Aw_exit | refine Aw_condt rfl ?_ | refine Aw_condf rfl ?_ | ((first | refine qr ?_ | refine qd (by kernel_rfl) (by kernel_rfl) ?_); simp only [go_sem, jE, reduceIte, jA, jM, jS, jL, jD, jB, w1]) | refine dk (by kernel_rfl) ?_)
    exact Aw_ret (ret0 (.inl rfl) (by simp only [go_sem, jE, reduceIte, jA, jM, jS, jL, jD, jB]; rfl) (by rfl) rfl)
  have w1 := wrap_sub h hl
  have h0 := nneg (l - r.length)
  repeat (first | apply Aw_seq | apply Aw_block | apply Aw_skip | apply Aw_exit | refine Aw_condt rfl ?_ | refine Aw_condf rfl ?_ | ((first | refine qr ?_ | refine qd (by kernel_rfl) (by kernel_rfl) ?_); simp only [go_sem, jE, reduceIte, jA, jM, jS, jL, jD, jB, w1, h0]) | refine dk (by kernel_rfl) ?_)
  refine Aw.rw (rw0 (l' := [(5, .t (iT (0 : Nat))), (1, .t (iT ((l - wI wSve r 0 : Nat) : Int))), (0, .t (svsT r))]) (n' := 0) (by repeat (first | exact trivial | refine ⟨rfl, rfl, ?_⟩))) ?_
  refine Aw_loop0 (ι := { i : Nat // i ≤ r.length ∧ (wI wSve r i ≤ l) }) (fun q => [(5, .t (iT (q.1 : Nat))), (1, .t (iT ((l - wI wSve r q.1 : Nat) : Int))), (0, .t (svsT r))]) (fun q => r.length - q.1) ⟨0, Nat.zero_le _, h⟩ ?_
  rintro ⟨i, hi, hp⟩
  dsimp only
  by_cases hlt : i < r.length
  · have h1 : (i : Int) < (r.length : Int) := by omega
    have h2 := wrap_succ hlt (by omega)
    obtain ⟨e, hx⟩ : ∃ e, r[i]? = some e := ⟨_, List.getElem?_eq_getElem hlt⟩
    have k := szSieve_ac e (l - wI wSve r i) (by omega) (he e (List.mem_of_getElem? hx))
    have e1 := wI_succ (f := wSve) hx
    by_cases h3 : wSve e ≤ l - wI wSve r i
    · rw [szM_ok h3, show l - wI wSve r i - wSve e = l - wI wSve r (i + 1) by omega] at k
      have h4 := nneg (l - wI wSve r (i + 1))
      repeat (first | apply Aw_seq | apply Aw_block | apply Aw_skip | apply Aw_exit | refine Aw_condt rfl ?_ | refine Aw_condf rfl ?_ | ((first | refine qr ?_ | refine qd (by kernel_rfl) (by kernel_rfl) ?_); simp only [go_sem, jE, reduceIte, jA, jM, jS, jL, jD, jB, h1, h2, hx, h4]) | refine dk (by kernel_rfl) ?_ | (refine qp (k) (by simp only [go_sem, jE, reduceIte, jA, jM, jS, jL, jD, jB, h1, h2, hx, h4]; first | done | rfl) rfl (by simp only [go_sem, Nat.reduceLT]) rfl rfl ?_; simp only [go_sem, jE, reduceIte, jA, jM, jS, jL, jD, jB, h1, h2, hx, h4]))
      exact ⟨⟨i + 1, by omega, by omega⟩, (by simp only []; omega), rw0 (by repeat (first | exact trivial | refine ⟨rfl, rfl, ?_⟩))⟩
    · rw [szM_no h3] at k
      rw [szM_no (w := wS wSve r) (by have := wI_le wSve r (i + 1); omega)]
      repeat (first | apply Aw_seq | apply Aw_block | apply Aw_skip | apply Aw_exit | refine Aw_condt rfl ?_ | refine Aw_condf rfl ?_ | ((first | refine qr ?_ | refine qd (by kernel_rfl) (by kernel_rfl) ?_); simp only [go_sem, jE, reduceIte, jA, jM, jS, jL, jD, jB, h1, h2, hx, neg1]) | refine dk (by kernel_rfl) ?_ | (refine qp (k) (by simp only [go_sem, jE, reduceIte, jA, jM, jS, jL, jD, jB, h1, h2, hx, neg1]; first | done | rfl) rfl (by simp only [go_sem, Nat.reduceLT]) rfl rfl ?_; simp only [go_sem, jE, reduceIte, jA, jM, jS, jL, jD, jB, h1, h2, hx, neg1]))
      exact Aw_ret (ret0 (.inl rfl) (by simp only [go_sem, jE, reduceIte, jA, jM, jS, jL, jD, jB]; rfl) (by rfl) rfl)
  · have h1 : ¬ (i : Int) < (r.length : Int) := by omega
    obtain rfl : i = r.length := by omega
    rw [wI_end] at hp ⊢
    rw [szM_ok hp]
    repeat (first | apply Aw_seq | apply Aw_block | apply Aw_skip | apply Aw_exit | refine Aw_condt rfl ?_ | refine Aw_condf rfl ?_ | ((first | refine qr ?_ | refine qd (by kernel_rfl) (by kernel_rfl) ?_); simp only [go_sem, jE, reduceIte, jA, jM, jS, jL, jD, jB, h1]) | refine dk (by kernel_rfl) ?_)
    exact Aw_ret (ret0 (.inl rfl) (by simp only [go_sem, jE, reduceIte, jA, jM, jS, jL, jD, jB]; rfl) (by rfl) rfl)
theorem szIntS_ac (r : List Int) (l : Nat) (hl : l ≤ 1048576) (hr : big r.length) : AC Tryz.prog 29 [intsT r, iT l] noHp 0 ⟨.t (iT (szM r.length l)), noHp, 0⟩ := by
  refine AC_of Tryz.func29 rfl Tryz.ntmps29 Tryz.results29 (by kernel_rfl) rfl ?_
  simp only [List.zipIdx, List.map, Nat.zero_add, Nat.reduceAdd]
  by_cases h : r.length ≤ l
  · have w1 := wrap_sub h hl
    have h1 := nneg (l - r.length)
    rw [szM_ok h]
    repeat (first | apply Aw_seq | apply Aw_block | apply Aw_skip | apply Aw_exit | refine Aw_condt rfl ?_ | refine Aw_condf rfl ?_ | ((first | refine qr ?_ | refine qd (by kernel_rfl) (by kernel_rfl) ?_); simp only [go_sem, jE, reduceIte, jA, jM, jS, jL, jD, jB, w1, h1]) | refine dk (by kernel_rfl) ?_)
    exact Aw_ret (ret0 (.inl rfl) (by simp only [go_sem, jE, reduceIte, jA, jM, jS, jL, jD, jB]; rfl) (by rfl) rfl)
  · have w1 := wrap_neg h hl hr
    rw [szM_no h]
    repeat (first | apply Aw_seq | apply Aw_block | apply Aw_skip | apply Aw_exit | refine Aw_condt rfl ?_ | refine Aw_condf rfl ?_ | ((first | refine qr ?_ | refine qd (by kernel_rfl) (by kernel_rfl) ?_); simp only [go_sem, jE, reduceIte, jA, jM, jS, jL, jD, jB, w1]) | refine dk (by kernel_rfl) ?_)
    exact Aw_ret (ret0 (.inl rfl) (by simp only [go_sem, jE, reduceIte, jA, jM, jS, jL, jD, jB]; rfl) (by rfl) rfl)
structure bigT (s : Sto) : Prop where
  top : bigR s.top
  ll : big s.levels.length
  levels : ∀ e ∈ s.levels, bigR e
  sl : big s.sieves.length
  sieves : ∀ e ∈ s.sieves, bigS e
  times : big s.times.length
def wSto (s : Sto) : Nat := wRun s.top + wS wRun s.levels + wS wSve s.sieves + s.times.length
theorem szStore_ac (s : Sto) (l : Nat) (hl : l ≤ 1048576) (hs : bigT s) : AC Tryz.prog 8 [stT s, iT l] noHp 0 ⟨.t (iT (szM (wSto s) l)), noHp, 0⟩ := by
  refine AC_of Tryz.func8 rfl Tryz.ntmps8 Tryz.results8 (by kernel_rfl) rfl ?_
  simp only [List.zipIdx, List.map, Nat.zero_add, Nat.reduceAdd]
  have k1 := szEntryS_ac s.top l hl hs.top.1 hs.top.2
  rw [show wS wEnt s.top = wRun s.top from rfl] at k1
  by_cases h1 : wRun s.top ≤ l
  case neg =>
    rw [szM_no h1] at k1
    rw [szM_no (by unfold wSto; omega)]
    repeat (first | apply Aw_seq | apply Aw_block | apply Aw_skip | apply Aw_exit | refine Aw_condt rfl ?_ | refine Aw_condf rfl ?_ | ((first | refine qr ?_ | refine qd (by kernel_rfl) (by kernel_rfl) ?_); simp only [go_sem, jE, reduceIte, jA, jM, jS, jL, jD, jB, neg1]) | refine dk (by kernel_rfl) ?_ | (refine qp (k1) (by simp only [go_sem, jE, reduceIte, jA, jM, jS, jL, jD, jB, neg1]; first | done | rfl) rfl (by simp only [go_sem, Nat.reduceLT]) rfl rfl ?_; simp only [go_sem, jE, reduceIte, jA, jM, jS, jL, jD, jB, neg1]))
    exact Aw_ret (ret0 (.inl rfl) (by simp only [go_sem, jE, reduceIte, jA, jM, jS, jL, jD, jB]; rfl) (by rfl) rfl)
  obtain ⟨l1, e1⟩ : ∃ l1, l1 = l - wRun s.top := ⟨_, rfl⟩
  rw [szM_ok h1, ← e1] at k1
  have n1 := nneg l1
  have k2 := szEntrySS_ac s.levels l1 (by omega) hs.ll hs.levels
  by_cases h2 : wS wRun s.levels ≤ l1
  case neg =>
    rw [szM_no h2] at k2
    rw [szM_no (by unfold wSto; omega)]
    repeat (first | apply Aw_seq | apply Aw_block | apply Aw_skip | apply Aw_exit | refine Aw_condt rfl ?_ | refine Aw_condf rfl ?_ | ((first | refine qr ?_ | refine qd (by kernel_rfl) (by kernel_rfl) ?_); simp only [go_sem, jE, reduceIte, jA, jM, jS, jL, jD, jB, n1, neg1]) | refine dk (by kernel_rfl) ?_ | (refine qp (k1) (by simp only [go_sem, jE, reduceIte, jA, jM, jS, jL, jD, jB, n1, neg1]; first | done | rfl) rfl (by simp only [go_sem, Nat.reduceLT]) rfl rfl ?_; simp only [go_sem, jE, reduceIte, jA, jM, jS, jL, jD, jB, n1, neg1]) | (refine qp (k2) (by simp only [go_sem, jE, reduceIte, jA, jM, jS, jL, jD, jB, n1, neg1]; first | done | rfl) rfl (by simp only [go_sem, Nat.reduceLT]) rfl rfl ?_; simp only [go_sem, jE, reduceIte, jA, jM, jS, jL, jD, jB, n1, neg1]))
    exact Aw_ret (ret0 (.inl rfl) (by simp only [go_sem, jE, reduceIte, jA, jM, jS, jL, jD, jB]; rfl) (by rfl) rfl)
  obtain ⟨l2, e2⟩ : ∃ l2, l2 = l1 - wS wRun s.levels := ⟨_, rfl⟩
  rw [szM_ok h2, ← e2] at k2
  have n2 := nneg l2
  have k3 := szSieveS_ac s.sieves l2 (by omega) hs.sl hs.sieves
  by_cases h3 : wS wSve s.sieves ≤ l2
  case neg =>
    rw [szM_no h3] at k3
    rw [szM_no (by unfold wSto; omega)]
    repeat (first | apply Aw_seq | apply Aw_block | apply Aw_skip | apply Aw_exit | refine Aw_condt rfl ?_ | refine Aw_condf rfl ?_ | ((first | refine qr ?_ | refine qd (by kernel_rfl) (by kernel_rfl) ?_); simp only [go_sem, jE, reduceIte, jA, jM, jS, jL, jD, jB, n1, n2, neg1]) | refine dk (by kernel_rfl) ?_ | (refine qp (k1) (by simp only [go_sem, jE, reduceIte, jA, jM, jS, jL, jD, jB, n1, n2, neg1]; first | done | rfl) rfl (by simp only [go_sem, Nat.reduceLT]) rfl rfl ?_; simp only [go_sem, jE, reduceIte, jA, jM, jS, jL, jD, jB, n1, n2, neg1]) | (refine qp (k2) (by simp only [go_sem, jE, reduceIte, jA, jM, jS, jL, jD, jB, n1, n2, neg1]; first | done | rfl) rfl (by simp only [go_sem, Nat.reduceLT]) rfl rfl ?_; simp only [go_sem, jE, reduceIte, jA, jM, jS, jL, jD, jB, n1, n2, neg1]) | (refine qp (k3) (by simp only [go_sem, jE, reduceIte, jA, jM, jS, jL, jD, jB, n1, n2, neg1]; first | done | rfl) rfl (by simp only [go_sem, Nat.reduceLT]) rfl rfl ?_; simp only [go_sem, jE, reduceIte, jA, jM, jS, jL, jD, jB, n1, n2, neg1]))
    exact Aw_ret (ret0 (.inl rfl) (by simp only [go_sem, jE, reduceIte, jA, jM, jS, jL, jD, jB]; rfl) (by rfl) rfl)
  obtain ⟨l3, e3⟩ : ∃ l3, l3 = l2 - wS wSve s.sieves := ⟨_, rfl⟩
  rw [szM_ok h3, ← e3] at k3
  have n3 := nneg l3
  have k4 := szIntS_ac s.times l3 (by omega) hs.times
  by_cases h4 : s.times.length ≤ l3
  · rw [szM_ok h4] at k4
    have n4 := nneg (l3 - s.times.length)
    rw [szM_ok (w := wSto s) (by unfold wSto; omega), show l - wSto s = l3 - s.times.length by unfold wSto; omega]
    repeat (first | apply Aw_seq | apply Aw_block | apply Aw_skip | apply Aw_exit | refine Aw_condt rfl ?_ | refine Aw_condf rfl ?_ | ((first | refine qr ?_ | refine qd (by kernel_rfl) (by kernel_rfl) ?_); simp only [go_sem, jE, reduceIte, jA, jM, jS, jL, jD, jB, n1, n2, n3, n4]) | refine dk (by kernel_rfl) ?_ | (refine qp (k1) (by simp only [go_sem, jE, reduceIte, jA, jM, jS, jL, jD, jB, n1, n2, n3, n4]; first | done | rfl) rfl (by simp only [go_sem, Nat.reduceLT]) rfl rfl ?_; simp only [go_sem, jE, reduceIte, jA, jM, jS, jL, jD, jB, n1, n2, n3, n4]) | (refine qp (k2) (by simp only [go_sem, jE, reduceIte, jA, jM, jS, jL, jD, jB, n1, n2, n3, n4]; first | done | rfl) rfl (by simp only [go_sem, Nat.reduceLT]) rfl rfl ?_; simp only [go_sem, jE, reduceIte, jA, jM, jS, jL, jD, jB, n1, n2, n3, n4]) | (refine qp (k3) (by simp only [go_sem, jE, reduceIte, jA, jM, jS, jL, jD, jB, n1, n2, n3, n4]; first | done | rfl) rfl (by simp only [go_sem, Nat.reduceLT]) rfl rfl ?_; simp only [go_sem, jE, reduceIte, jA, jM, jS, jL, jD, jB, n1, n2, n3, n4]) | (refine qp (k4) (by simp only [go_sem, jE, reduceIte, jA, jM, jS, jL, jD, jB, n1, n2, n3, n4]; first | done | rfl) rfl (by simp only [go_sem, Nat.reduceLT]) rfl rfl ?_; simp only [go_sem, jE, reduceIte, jA, jM, jS, jL, jD, jB, n1, n2, n3, n4]))
    exact Aw_ret (ret0 (.inl rfl) (by simp only [go_sem, jE, reduceIte, jA, jM, jS, jL, jD, jB]; rfl) (by rfl) rfl)
  · rw [szM_no h4] at k4
    rw [szM_no (by unfold wSto; omega)]
    repeat (first | apply Aw_seq | apply Aw_block | apply Aw_skip | apply Aw_exit | refine Aw_condt rfl ?_ | refine Aw_condf rfl ?_ | ((first | refine qr ?_ | refine qd (by kernel_rfl) (by kernel_rfl) ?_); simp only [go_sem, jE, reduceIte, jA, jM, jS, jL, jD, jB, n1, n2, n3, neg1]) | refine dk (by kernel_rfl) ?_ | (refine qp (k1) (by simp only [go_sem, jE, reduceIte, jA, jM, jS, jL, jD, jB, n1, n2, n3, neg1]; first | done | rfl) rfl (by simp only [go_sem, Nat.reduceLT]) rfl rfl ?_; simp only [go_sem, jE, reduceIte, jA, jM, jS, jL, jD, jB, n1, n2, n3, neg1]) | (refine qp (k2) (by simp only [go_sem, jE, reduceIte, jA, jM, jS, jL, jD, jB, n1, n2, n3, neg1]; first | done | rfl) rfl (by simp only [go_sem, Nat.reduceLT]) rfl rfl ?_; simp only [go_sem, jE, reduceIte, jA, jM, jS, jL, jD, jB, n1, n2, n3, neg1]) | (refine qp (k3) (by simp only [go_sem, jE, reduceIte, jA, jM, jS, jL, jD, jB, n1, n2, n3, neg1]; first | done | rfl) rfl (by simp only [go_sem, Nat.reduceLT]) rfl rfl ?_; simp only [go_sem, jE, reduceIte, jA, jM, jS, jL, jD, jB, n1, n2, n3, neg1]) | (refine qp (k4) (by simp only [go_sem, jE, reduceIte, jA, jM, jS, jL, jD, jB, n1, n2, n3, neg1]; first | done | rfl) rfl (by simp only [go_sem, Nat.reduceLT]) rfl rfl ?_; simp only [go_sem, jE, reduceIte, jA, jM, jS, jL, jD, jB, n1, n2, n3, neg1]))
    exact Aw_ret (ret0 (.inl rfl) (by simp only [go_sem, jE, reduceIte, jA, jM, jS, jL, jD, jB]; rfl) (by rfl) rfl)
def tkD {α : Type} (f : α → List D) (z : List D) (xs : List α) (i : Nat) : List (List D) := (xs.take i).map f ++ List.replicate (xs.length - i) z
theorem tkD_0 {α : Type} (f : α → List D) (z : List D) (xs : List α) : List.replicate xs.length (z.map CV.d) = (tkD f z xs 0).map (·.map .d) := by simp [tkD]
theorem tkD_end {α : Type} (f : α → List D) (z : List D) (xs : List α) : tkD f z xs xs.length = xs.map f := by simp [tkD]
theorem tkD_len {α : Type} (f : α → List D) (z : List D) (xs : List α) {i : Nat} (h : i ≤ xs.length) : ((tkD f z xs i).map (·.map CV.d)).length = xs.length := by simp [tkD]; omega
theorem tkD_ln {α : Type} (f : α → List D) (z : List D) (xs : List α) {i : Nat} (h : i ≤ xs.length) : (tkD f z xs i).length = xs.length := by simp [tkD]; omega
theorem tkD_get {α : Type} (f : α → List D) (z : List D) {xs : List α} {i : Nat} (h : i < xs.length) : ((tkD f z xs i).map (·.map CV.d))[i]? = some (z.map .d) := by
  unfold tkD
  rw [List.getElem?_map, List.getElem?_append_right (by simp; omega), List.getElem?_replicate, if_pos (by simp; omega)]
  rfl
theorem tkD_set {α : Type} (f : α → List D) (z : List D) {xs : List α} {i : Nat} {x : α} (h : xs[i]? = some x) : ((tkD f z xs i).map (·.map CV.d)).set i ((f x).map .d) = (tkD f z xs (i + 1)).map (·.map .d) := by
  have hi : i < xs.length := (List.getElem?_eq_some_iff.1 h).1
  unfold tkD
  rw [List.take_add_one, h, show xs.length - i = (xs.length - (i + 1)) + 1 by omega, List.replicate_succ]
  simp only [List.map_append, List.map_cons, Option.toList_some, List.map_nil, List.append_assoc]
  rw [List.set_append_right _ _ (by simp; omega)]
  simp [Nat.min_eq_left (Nat.le_of_lt hi)]
theorem toEntry_ac (e : Ent) : AC Tryz.prog 78 [entT e] noHp 0 ⟨.t (entT e), noHp, 0⟩ := by
  refine AC_of Tryz.func78 rfl Tryz.ntmps78 Tryz.results78 (by kernel_rfl) rfl ?_
  simp only [List.zipIdx, List.map, Nat.zero_add, Nat.reduceAdd]
  repeat (first | apply Aw_seq | apply Aw_block | apply Aw_skip | apply Aw_exit | refine Aw_condt rfl ?_ | refine Aw_condf rfl ?_ | ((first | refine qr ?_ | refine qd (by kernel_rfl) (by kernel_rfl) ?_); simp only [go_sem, jE, reduceIte, jA, jM, jS, jL, jD, jB]) | refine dk (by kernel_rfl) ?_)
  exact Aw_ret (ret0 (.inl rfl) (by simp only [go_sem, jE, reduceIte, jA, jM, jS, jL, jD, jB]; rfl) (by rfl) rfl)
theorem toEntrySR_ac (r : List Ent) (hl : r.length ≤ 1048576) : AC Tryz.prog 31 [runT r] noHp 0 ⟨.t (.c (.h 0)), hpL [some (dRow 56 4 (r.map entD))], 1⟩ := by
  refine AC_of Tryz.func31 rfl Tryz.ntmps31 Tryz.results31 (by kernel_rfl) rfl ?_
  simp only [List.zipIdx, List.map, Nat.zero_add, Nat.reduceAdd]
  have t0 : ((r.length : Nat) : Int).toNat = r.length := rfl
  have t1 : (0 : Int) ≤ ((r.length : Nat) : Int) := by omega
  have t2 : ((r.length : Nat) : Int) ≤ 140737488355328 := by omega
  have t3 : decide (r.length * 40 ≤ 140737488355328) = true := decide_eq_true (by omega)
  have t4 := of_decide_eq_true t3
  have t5 := tkD_0 entD [.s (.string zs), .s (.int .i64 0), .s (.bool false), .s (.int .i64 0)] r
  simp only [List.map] at t5
  repeat (first | apply Aw_seq | apply Aw_block | apply Aw_skip | apply Aw_exit | refine Aw_condt rfl ?_ | refine Aw_condf rfl ?_ | ((first | refine qr ?_ | refine qd (by kernel_rfl) (by kernel_rfl) ?_); simp only [go_sem, jE, reduceIte, jA, jM, jS, jL, jD, jB, t0, t1, t2, t4]) | refine dk (by kernel_rfl) ?_)
  refine Aw.rw (rwL (l' := [(4, .t (iT (0 : Nat))), (3, .t (.c (.h 0))), (0, .t (runT r))]) (os := [some (dRow 56 4 (tkD entD [.s (.string zs), .s (.int .i64 0), .s (.bool false), .s (.int .i64 0)] r 0))]) (M := [3]) (n' := 1) (by repeat (first | exact trivial | refine ⟨rfl, rfl, ?_⟩)) (by rfl) (by simp only [go_sem, jE, reduceIte, jA, jM, jS, jL, jD, jB, t5]; first | done | rfl) (by decide) (by unfold idM; decide)) ?_
  refine Aw_loop_rw (ι := { j : Nat // j ≤ r.length }) (fun j => S [(4, .t (iT (j.1 : Nat))), (3, .t (.c (.h 0))), (0, .t (runT r))] (hpL [some (dRow 56 4 (tkD entD [.s (.string zs), .s (.int .i64 0), .s (.bool false), .s (.int .i64 0)] r j.1))]) 1) (fun j => r.length - j.1) ⟨0, Nat.zero_le _⟩ ?_
  rintro ⟨i, hi⟩
  dsimp only
  by_cases hlt : i < r.length
  · have h1 : (i : Int) < (r.length : Int) := by omega
    have h2 := wrap_succ hlt (by omega)
    obtain ⟨e, hx⟩ : ∃ e, r[i]? = some e := ⟨_, List.getElem?_eq_getElem hlt⟩
    have g1 := tkD_ln entD [.s (.string zs), .s (.int .i64 0), .s (.bool false), .s (.int .i64 0)] r hi
    have g2 := tkD_get entD [.s (.string zs), .s (.int .i64 0), .s (.bool false), .s (.int .i64 0)] hlt
    have g3 := tkD_set entD [.s (.string zs), .s (.int .i64 0), .s (.bool false), .s (.int .i64 0)] hx
    simp only [List.map] at g2
    rw [show ((entD e).map CV.d) = [.d (.s (.string e.key)), .d (.s (.int .i64 e.val)), .d (.s (.bool e.gone)), .d (.s (.int .i64 e.time))] from rfl] at g3
    repeat (first | apply Aw_seq | apply Aw_block | apply Aw_skip | apply Aw_exit | refine Aw_condt rfl ?_ | refine Aw_condf rfl ?_ | ((first | refine qr ?_ | refine qd (by kernel_rfl) (by kernel_rfl) ?_); simp only [go_sem, jE, reduceIte, jA, jM, jS, jL, jD, jB, h1, h2, hx, hlt, g1, g2, t0]) | refine dk (by kernel_rfl) ?_ | (refine qp (toEntry_ac e) (by simp only [go_sem, jE, reduceIte, jA, jM, jS, jL, jD, jB, h1, h2, hx, hlt, g1, g2, t0]; first | done | rfl) rfl (by simp only [go_sem, Nat.reduceLT]) rfl rfl ?_; simp only [go_sem, jE, reduceIte, jA, jM, jS, jL, jD, jB, h1, h2, hx, hlt, g1, g2, t0]))
    refine ⟨⟨i + 1, hlt⟩, [0], ?_, rwL (by repeat (first | exact trivial | refine ⟨rfl, rfl, ?_⟩)) (by rfl) (by simp only [go_sem, jE, reduceIte, jA, jM, jS, jL, jD, jB, g3]; first | done | rfl) (by decide) (by unfold idM; decide)⟩
    show r.length - (i + 1) < r.length - i; omega
  · have h1 : ¬ (i : Int) < (r.length : Int) := by omega
    obtain rfl : i = r.length := by omega
    repeat (first | apply Aw_seq | apply Aw_block | apply Aw_skip | apply Aw_exit | refine Aw_condt rfl ?_ | refine Aw_condf rfl ?_ | ((first | refine qr ?_ | refine qd (by kernel_rfl) (by kernel_rfl) ?_); simp only [go_sem, jE, reduceIte, jA, jM, jS, jL, jD, jB, h1]) | refine dk (by kernel_rfl) ?_)
    exact Aw_ret (retL (M := [0]) (.inl rfl) (by simp only [go_sem, jE, reduceIte, jA, jM, jS, jL, jD, jB]; first | done | rfl) rfl rfl (by rfl) (by simp only [go_sem, jE, reduceIte, jA, jM, jS, jL, jD, jB, tkD_end]; first | done | rfl | (and_intros <;> rfl)) (by decide) (by unfold idM; decide))
theorem toEntryS_ac (r : List Ent) (hl : r.length ≤ 1048576) : AC Tryz.prog 31 [runT r] noHp 0 ⟨.t (runT r), noHp, 0⟩ := AC.settle0 [0] (toEntrySR_ac r hl) (SetC.row0 rfl rfl) rfl
theorem toEntrySSR_ac (r : List (List Ent)) (hl : r.length ≤ 1048576) (he : ∀ e ∈ r, e.length ≤ 1048576) : AC Tryz.prog 32 [lvsT r] noHp 0 ⟨.t (.c (.h 0)), hpL [some (dRow 29 1 (r.map lvD))], 1⟩ := by
  refine AC_of Tryz.func32 rfl Tryz.ntmps32 Tryz.results32 (by kernel_rfl) rfl ?_
  simp only [List.zipIdx, List.map, Nat.zero_add, Nat.reduceAdd]
  have t0 : ((r.length : Nat) : Int).toNat = r.length := rfl
  have t1 : (0 : Int) ≤ ((r.length : Nat) : Int) := by omega
  have t2 : ((r.length : Nat) : Int) ≤ 140737488355328 := by omega
  have t3 : decide (r.length * 24 ≤ 140737488355328) = true := decide_eq_true (by omega)
  have t4 := of_decide_eq_true t3
  have t5 := tkD_0 lvD [.s (.slice none 0 0)] r
  simp only [List.map] at t5
  repeat (first | apply Aw_seq | apply Aw_block | apply Aw_skip | apply Aw_exit | refine Aw_condt rfl ?_ | refine Aw_condf rfl ?_ | ((first | refine qr ?_ | refine qd (by kernel_rfl) (by kernel_rfl) ?_); simp only [go_sem, jE, reduceIte, jA, jM, jS, jL, jD, jB, t0, t1, t2, t4]) | refine dk (by kernel_rfl) ?_)
  refine Aw.rw (rwL (l' := [(4, .t (iT (0 : Nat))), (3, .t (.c (.h 0))), (0, .t (lvsT r))]) (os := [some (dRow 29 1 (tkD lvD [.s (.slice none 0 0)] r 0))]) (M := [3]) (n' := 1) (by repeat (first | exact trivial | refine ⟨rfl, rfl, ?_⟩)) (by rfl) (by simp only [go_sem, jE, reduceIte, jA, jM, jS, jL, jD, jB, t5]; first | done | rfl) (by decide) (by unfold idM; decide)) ?_
  refine Aw_loop_rw (ι := { j : Nat // j ≤ r.length }) (fun j => S [(4, .t (iT (j.1 : Nat))), (3, .t (.c (.h 0))), (0, .t (lvsT r))] (hpL [some (dRow 29 1 (tkD lvD [.s (.slice none 0 0)] r j.1))]) 1) (fun j => r.length - j.1) ⟨0, Nat.zero_le _⟩ ?_
  rintro ⟨i, hi⟩
  dsimp only
  by_cases hlt : i < r.length
  · have h1 : (i : Int) < (r.length : Int) := by omega
    have h2 := wrap_succ hlt (by omega)
    obtain ⟨e, hx⟩ : ∃ e, r[i]? = some e := ⟨_, List.getElem?_eq_getElem hlt⟩
    have g1 := tkD_ln lvD [.s (.slice none 0 0)] r hi
    have g2 := tkD_get lvD [.s (.slice none 0 0)] hlt
    have g3 := tkD_set lvD [.s (.slice none 0 0)] hx
    simp only [List.map] at g2
    rw [show ((lvD e).map CV.d) = [.d (.rs 4 (e.map entD))] from rfl] at g3
    repeat (first | apply Aw_seq | apply Aw_block | apply Aw_skip | apply Aw_exit | refine Aw_condt rfl ?_ | refine Aw_condf rfl ?_ | ((first | refine qr ?_ | refine qd (by kernel_rfl) (by kernel_rfl) ?_); simp only [go_sem, jE, reduceIte, jA, jM, jS, jL, jD, jB, h1, h2, hx, hlt, g1, g2, t0]) | refine dk (by kernel_rfl) ?_ | (refine qp (toEntryS_ac e (he e (List.mem_of_getElem? hx))) (by simp only [go_sem, jE, reduceIte, jA, jM, jS, jL, jD, jB, h1, h2, hx, hlt, g1, g2, t0]; first | done | rfl) rfl (by simp only [go_sem, Nat.reduceLT]) rfl rfl ?_; simp only [go_sem, jE, reduceIte, jA, jM, jS, jL, jD, jB, h1, h2, hx, hlt, g1, g2, t0]))
    refine ⟨⟨i + 1, hlt⟩, [0], ?_, rwL (by repeat (first | exact trivial | refine ⟨rfl, rfl, ?_⟩)) (by rfl) (by simp only [go_sem, jE, reduceIte, jA, jM, jS, jL, jD, jB, g3]; first | done | rfl) (by decide) (by unfold idM; decide)⟩
    show r.length - (i + 1) < r.length - i; omega
  · have h1 : ¬ (i : Int) < (r.length : Int) := by omega
    obtain rfl : i = r.length := by omega
    repeat (first | apply Aw_seq | apply Aw_block | apply Aw_skip | apply Aw_exit | refine Aw_condt rfl ?_ | refine Aw_condf rfl ?_ | ((first | refine qr ?_ | refine qd (by kernel_rfl) (by kernel_rfl) ?_); simp only [go_sem, jE, reduceIte, jA, jM, jS, jL, jD, jB, h1]) | refine dk (by kernel_rfl) ?_)
    exact Aw_ret (retL (M := [0]) (.inl rfl) (by simp only [go_sem, jE, reduceIte, jA, jM, jS, jL, jD, jB]; first | done | rfl) rfl rfl (by rfl) (by simp only [go_sem, jE, reduceIte, jA, jM, jS, jL, jD, jB, tkD_end]; first | done | rfl | (and_intros <;> rfl)) (by decide) (by unfold idM; decide))
theorem toEntrySS_ac (r : List (List Ent)) (hl : r.length ≤ 1048576) (he : ∀ e ∈ r, e.length ≤ 1048576) : AC Tryz.prog 32 [lvsT r] noHp 0 ⟨.t (lvsT r), noHp, 0⟩ := AC.settle0 [0] (toEntrySSR_ac r hl he) (SetC.row0 rfl rfl) rfl
theorem toStringSR_ac (r : List ByteArray) (hl : r.length ≤ 1048576) : AC Tryz.prog 119 [strsT r] noHp 0 ⟨.t (.c (.h 0)), hpL [some (dRow 9 1 (r.map strD))], 1⟩ := by
  refine AC_of Tryz.func119 rfl Tryz.ntmps119 Tryz.results119 (by kernel_rfl) rfl ?_
  simp only [List.zipIdx, List.map, Nat.zero_add, Nat.reduceAdd]
  have t0 : ((r.length : Nat) : Int).toNat = r.length := rfl
  have t1 : (0 : Int) ≤ ((r.length : Nat) : Int) := by omega
  have t2 : ((r.length : Nat) : Int) ≤ 140737488355328 := by omega
  have t3 : decide (r.length * 16 ≤ 140737488355328) = true := decide_eq_true (by omega)
  have t4 := of_decide_eq_true t3
  have t5 := tkD_0 strD [.s (.string zs)] r
  simp only [List.map] at t5
  repeat (first | apply Aw_seq | apply Aw_block | apply Aw_skip | apply Aw_exit | refine Aw_condt rfl ?_ | refine Aw_condf rfl ?_ | ((first | refine qr ?_ | refine qd (by kernel_rfl) (by kernel_rfl) ?_); simp only [go_sem, jE, reduceIte, jA, jM, jS, jL, jD, jB, t0, t1, t2, t4]) | refine dk (by kernel_rfl) ?_)
  refine Aw.rw (rwL (l' := [(4, .t (iT (0 : Nat))), (3, .t (.c (.h 0))), (0, .t (strsT r))]) (os := [some (dRow 9 1 (tkD strD [.s (.string zs)] r 0))]) (M := [3]) (n' := 1) (by repeat (first | exact trivial | refine ⟨rfl, rfl, ?_⟩)) (by rfl) (by simp only [go_sem, jE, reduceIte, jA, jM, jS, jL, jD, jB, t5]; first | done | rfl) (by decide) (by unfold idM; decide)) ?_
  refine Aw_loop_rw (ι := { j : Nat // j ≤ r.length }) (fun j => S [(4, .t (iT (j.1 : Nat))), (3, .t (.c (.h 0))), (0, .t (strsT r))] (hpL [some (dRow 9 1 (tkD strD [.s (.string zs)] r j.1))]) 1) (fun j => r.length - j.1) ⟨0, Nat.zero_le _⟩ ?_
  rintro ⟨i, hi⟩
  dsimp only
  by_cases hlt : i < r.length
  · have h1 : (i : Int) < (r.length : Int) := by omega
    have h2 := wrap_succ hlt (by omega)
    obtain ⟨e, hx⟩ : ∃ e, r[i]? = some e := ⟨_, List.getElem?_eq_getElem hlt⟩
    have g1 := tkD_ln strD [.s (.string zs)] r hi
    have g2 := tkD_get strD [.s (.string zs)] hlt
    have g3 := tkD_set strD [.s (.string zs)] hx
    simp only [List.map] at g2
    rw [show ((strD e).map CV.d) = [.d (.s (.string e))] from rfl] at g3
    repeat (first | apply Aw_seq | apply Aw_block | apply Aw_skip | apply Aw_exit | refine Aw_condt rfl ?_ | refine Aw_condf rfl ?_ | ((first | refine qr ?_ | refine qd (by kernel_rfl) (by kernel_rfl) ?_); simp only [go_sem, jE, reduceIte, jA, jM, jS, jL, jD, jB, h1, h2, hx, hlt, g1, g2, t0]) | refine dk (by kernel_rfl) ?_)
    refine ⟨⟨i + 1, hlt⟩, [0], ?_, rwL (by repeat (first | exact trivial | refine ⟨rfl, rfl, ?_⟩)) (by rfl) (by simp only [go_sem, jE, reduceIte, jA, jM, jS, jL, jD, jB, g3]; first | done | rfl) (by decide) (by unfold idM; decide)⟩
    show r.length - (i + 1) < r.length - i; omega
  · have h1 : ¬ (i : Int) < (r.length : Int) := by omega
    obtain rfl : i = r.length := by omega
    repeat (first | apply Aw_seq | apply Aw_block | apply Aw_skip | apply Aw_exit | refine Aw_condt rfl ?_ | refine Aw_condf rfl ?_ | ((first | refine qr ?_ | refine qd (by kernel_rfl) (by kernel_rfl) ?_); simp only [go_sem, jE, reduceIte, jA, jM, jS, jL, jD, jB, h1]) | refine dk (by kernel_rfl) ?_)
    exact Aw_ret (retL (M := [0]) (.inl rfl) (by simp only [go_sem, jE, reduceIte, jA, jM, jS, jL, jD, jB]; first | done | rfl) rfl rfl (by rfl) (by simp only [go_sem, jE, reduceIte, jA, jM, jS, jL, jD, jB, tkD_end]; first | done | rfl | (and_intros <;> rfl)) (by decide) (by unfold idM; decide))
theorem toStringS_ac (r : List ByteArray) (hl : r.length ≤ 1048576) : AC Tryz.prog 119 [strsT r] noHp 0 ⟨.t (strsT r), noHp, 0⟩ := AC.settle0 [0] (toStringSR_ac r hl) (SetC.row0 rfl rfl) rfl
theorem toSieve_ac (s : Sve) (hl : s.rests.length ≤ 1048576) : AC Tryz.prog 79 [sveP s] noHp 0 ⟨.t (sveP s), noHp, 0⟩ := by
  refine AC_of Tryz.func79 rfl Tryz.ntmps79 Tryz.results79 (by kernel_rfl) rfl ?_
  simp only [List.zipIdx, List.map, Nat.zero_add, Nat.reduceAdd]
  repeat (first | apply Aw_seq | apply Aw_block | apply Aw_skip | apply Aw_exit | refine Aw_condt rfl ?_ | refine Aw_condf rfl ?_ | ((first | refine qr ?_ | refine qd (by kernel_rfl) (by kernel_rfl) ?_); simp only [go_sem, jE, reduceIte, jA, jM, jS, jL, jD, jB]) | refine dk (by kernel_rfl) ?_ | (refine qp (toStringS_ac s.rests hl) (by simp only [go_sem, jE, reduceIte, jA, jM, jS, jL, jD, jB]; first | done | rfl) rfl (by simp only [go_sem, Nat.reduceLT]) rfl rfl ?_; simp only [go_sem, jE, reduceIte, jA, jM, jS, jL, jD, jB]))
  exact Aw_ret (ret0 (.inl rfl) (by simp only [go_sem, jE, reduceIte, jA, jM, jS, jL, jD, jB]; rfl) (by rfl) rfl)
theorem toSieveSR_ac (r : List Sve) (hl : r.length ≤ 1048576) (he : ∀ e ∈ r, e.rests.length ≤ 1048576) : AC Tryz.prog 33 [svsT r] noHp 0 ⟨.t (.c (.h 0)), hpL [some (dRow 82 5 (r.map sveD))], 1⟩ := by
  refine AC_of Tryz.func33 rfl Tryz.ntmps33 Tryz.results33 (by kernel_rfl) rfl ?_
  simp only [List.zipIdx, List.map, Nat.zero_add, Nat.reduceAdd]
  have t0 : ((r.length : Nat) : Int).toNat = r.length := rfl
  have t1 : (0 : Int) ≤ ((r.length : Nat) : Int) := by omega
  have t2 : ((r.length : Nat) : Int) ≤ 140737488355328 := by omega
  have t3 : decide (r.length * 80 ≤ 140737488355328) = true := decide_eq_true (by omega)
  have t4 := of_decide_eq_true t3
  have t5 := tkD_0 sveD [.s (.string zs), .s (.string zs), .s (.string zs), .s (.slice none 0 0), .s (.int .i64 0)] r
  simp only [List.map] at t5
  repeat (first | apply Aw_seq | apply Aw_block | apply Aw_skip | apply Aw_exit | refine Aw_condt rfl ?_ | refine Aw_condf rfl ?_ | ((first | refine qr ?_ | refine qd (by kernel_rfl) (by kernel_rfl) ?_); simp only [go_sem, jE, reduceIte, jA, jM, jS, jL, jD, jB, t0, t1, t2, t4]) | refine dk (by kernel_rfl) ?_)
  refine Aw.rw (rwL (l' := [(4, .t (iT (0 : Nat))), (3, .t (.c (.h 0))), (0, .t (svsT r))]) (os := [some (dRow 82 5 (tkD sveD [.s (.string zs), .s (.string zs), .s (.string zs), .s (.slice none 0 0), .s (.int .i64 0)] r 0))]) (M := [3]) (n' := 1) (by repeat (first | exact trivial | refine ⟨rfl, rfl, ?_⟩)) (by rfl) (by simp only [go_sem, jE, reduceIte, jA, jM, jS, jL, jD, jB, t5]; first | done | rfl) (by decide) (by unfold idM; decide)) ?_
  refine Aw_loop_rw (ι := { j : Nat // j ≤ r.length }) (fun j => S [(4, .t (iT (j.1 : Nat))), (3, .t (.c (.h 0))), (0, .t (svsT r))] (hpL [some (dRow 82 5 (tkD sveD [.s (.string zs), .s (.string zs), .s (.string zs), .s (.slice none 0 0), .s (.int .i64 0)] r j.1))]) 1) (fun j => r.length - j.1) ⟨0, Nat.zero_le _⟩ ?_
  rintro ⟨i, hi⟩
  dsimp only
  by_cases hlt : i < r.length
  · have h1 : (i : Int) < (r.length : Int) := by omega
    have h2 := wrap_succ hlt (by omega)
    obtain ⟨e, hx⟩ : ∃ e, r[i]? = some e := ⟨_, List.getElem?_eq_getElem hlt⟩
    have g1 := tkD_ln sveD [.s (.string zs), .s (.string zs), .s (.string zs), .s (.slice none 0 0), .s (.int .i64 0)] r hi
    have g2 := tkD_get sveD [.s (.string zs), .s (.string zs), .s (.string zs), .s (.slice none 0 0), .s (.int .i64 0)] hlt
    have g3 := tkD_set sveD [.s (.string zs), .s (.string zs), .s (.string zs), .s (.slice none 0 0), .s (.int .i64 0)] hx
    simp only [List.map] at g2
    rw [show ((sveD e).map CV.d) = [.d (.s (.string e.letters)), .d (.s (.string e.more)), .d (.s (.string e.first)), .d (.rs 1 (e.rests.map strD)), .d (.s (.int .i64 e.keep))] from rfl] at g3
    repeat (first | apply Aw_seq | apply Aw_block | apply Aw_skip | apply Aw_exit | refine Aw_condt rfl ?_ | refine Aw_condf rfl ?_ | ((first | refine qr ?_ | refine qd (by kernel_rfl) (by kernel_rfl) ?_); simp only [go_sem, jE, reduceIte, jA, jM, jS, jL, jD, jB, h1, h2, hx, hlt, g1, g2, t0]) | refine dk (by kernel_rfl) ?_ | (refine qp (toSieve_ac e (he e (List.mem_of_getElem? hx))) (by simp only [go_sem, jE, reduceIte, jA, jM, jS, jL, jD, jB, h1, h2, hx, hlt, g1, g2, t0]; first | done | rfl) rfl (by simp only [go_sem, Nat.reduceLT]) rfl rfl ?_; simp only [go_sem, jE, reduceIte, jA, jM, jS, jL, jD, jB, h1, h2, hx, hlt, g1, g2, t0]))
    refine ⟨⟨i + 1, hlt⟩, [0], ?_, rwL (by repeat (first | exact trivial | refine ⟨rfl, rfl, ?_⟩)) (by rfl) (by simp only [go_sem, jE, reduceIte, jA, jM, jS, jL, jD, jB, g3]; first | done | rfl) (by decide) (by unfold idM; decide)⟩
    show r.length - (i + 1) < r.length - i; omega
  · have h1 : ¬ (i : Int) < (r.length : Int) := by omega
    obtain rfl : i = r.length := by omega
    repeat (first | apply Aw_seq | apply Aw_block | apply Aw_skip | apply Aw_exit | refine Aw_condt rfl ?_ | refine Aw_condf rfl ?_ | ((first | refine qr ?_ | refine qd (by kernel_rfl) (by kernel_rfl) ?_); simp only [go_sem, jE, reduceIte, jA, jM, jS, jL, jD, jB, h1]) | refine dk (by kernel_rfl) ?_)
    exact Aw_ret (retL (M := [0]) (.inl rfl) (by simp only [go_sem, jE, reduceIte, jA, jM, jS, jL, jD, jB]; first | done | rfl) rfl rfl (by rfl) (by simp only [go_sem, jE, reduceIte, jA, jM, jS, jL, jD, jB, tkD_end]; first | done | rfl | (and_intros <;> rfl)) (by decide) (by unfold idM; decide))
theorem toSieveS_ac (r : List Sve) (hl : r.length ≤ 1048576) (he : ∀ e ∈ r, e.rests.length ≤ 1048576) : AC Tryz.prog 33 [svsT r] noHp 0 ⟨.t (svsT r), noHp, 0⟩ := AC.settle0 [0] (toSieveSR_ac r hl he) (SetC.row0 rfl rfl) rfl
theorem toIntSR_ac (r : List Int) (hl : r.length ≤ 1048576) : AC Tryz.prog 34 [intsT r] noHp 0 ⟨.t (.c (.h 0)), hpL [some (dRow 3 1 (r.map intD))], 1⟩ := by
  refine AC_of Tryz.func34 rfl Tryz.ntmps34 Tryz.results34 (by kernel_rfl) rfl ?_
  simp only [List.zipIdx, List.map, Nat.zero_add, Nat.reduceAdd]
  have t0 : ((r.length : Nat) : Int).toNat = r.length := rfl
  have t1 : (0 : Int) ≤ ((r.length : Nat) : Int) := by omega
  have t2 : ((r.length : Nat) : Int) ≤ 140737488355328 := by omega
  have t3 : decide (r.length * 8 ≤ 140737488355328) = true := decide_eq_true (by omega)
  have t4 := of_decide_eq_true t3
  have t5 := tkD_0 intD [.s (.int .i64 0)] r
  simp only [List.map] at t5
  repeat (first | apply Aw_seq | apply Aw_block | apply Aw_skip | apply Aw_exit | refine Aw_condt rfl ?_ | refine Aw_condf rfl ?_ | ((first | refine qr ?_ | refine qd (by kernel_rfl) (by kernel_rfl) ?_); simp only [go_sem, jE, reduceIte, jA, jM, jS, jL, jD, jB, t0, t1, t2, t4]) | refine dk (by kernel_rfl) ?_)
  refine Aw.rw (rwL (l' := [(4, .t (iT (0 : Nat))), (3, .t (.c (.h 0))), (0, .t (intsT r))]) (os := [some (dRow 3 1 (tkD intD [.s (.int .i64 0)] r 0))]) (M := [3]) (n' := 1) (by repeat (first | exact trivial | refine ⟨rfl, rfl, ?_⟩)) (by rfl) (by simp only [go_sem, jE, reduceIte, jA, jM, jS, jL, jD, jB, t5]; first | done | rfl) (by decide) (by unfold idM; decide)) ?_
  refine Aw_loop_rw (ι := { j : Nat // j ≤ r.length }) (fun j => S [(4, .t (iT (j.1 : Nat))), (3, .t (.c (.h 0))), (0, .t (intsT r))] (hpL [some (dRow 3 1 (tkD intD [.s (.int .i64 0)] r j.1))]) 1) (fun j => r.length - j.1) ⟨0, Nat.zero_le _⟩ ?_
  rintro ⟨i, hi⟩
  dsimp only
  by_cases hlt : i < r.length
  · have h1 : (i : Int) < (r.length : Int) := by omega
    have h2 := wrap_succ hlt (by omega)
    obtain ⟨e, hx⟩ : ∃ e, r[i]? = some e := ⟨_, List.getElem?_eq_getElem hlt⟩
    have g1 := tkD_ln intD [.s (.int .i64 0)] r hi
    have g2 := tkD_get intD [.s (.int .i64 0)] hlt
    have g3 := tkD_set intD [.s (.int .i64 0)] hx
    simp only [List.map] at g2
    rw [show ((intD e).map CV.d) = [.d (.s (.int .i64 e))] from rfl] at g3
    repeat (first | apply Aw_seq | apply Aw_block | apply Aw_skip | apply Aw_exit | refine Aw_condt rfl ?_ | refine Aw_condf rfl ?_ | ((first | refine qr ?_ | refine qd (by kernel_rfl) (by kernel_rfl) ?_); simp only [go_sem, jE, reduceIte, jA, jM, jS, jL, jD, jB, h1, h2, hx, hlt, g1, g2, t0]) | refine dk (by kernel_rfl) ?_)
    refine ⟨⟨i + 1, hlt⟩, [0], ?_, rwL (by repeat (first | exact trivial | refine ⟨rfl, rfl, ?_⟩)) (by rfl) (by simp only [go_sem, jE, reduceIte, jA, jM, jS, jL, jD, jB, g3]; first | done | rfl) (by decide) (by unfold idM; decide)⟩
    show r.length - (i + 1) < r.length - i; omega
  · have h1 : ¬ (i : Int) < (r.length : Int) := by omega
    obtain rfl : i = r.length := by omega
    repeat (first | apply Aw_seq | apply Aw_block | apply Aw_skip | apply Aw_exit | refine Aw_condt rfl ?_ | refine Aw_condf rfl ?_ | ((first | refine qr ?_ | refine qd (by kernel_rfl) (by kernel_rfl) ?_); simp only [go_sem, jE, reduceIte, jA, jM, jS, jL, jD, jB, h1]) | refine dk (by kernel_rfl) ?_)
    exact Aw_ret (retL (M := [0]) (.inl rfl) (by simp only [go_sem, jE, reduceIte, jA, jM, jS, jL, jD, jB]; first | done | rfl) rfl rfl (by rfl) (by simp only [go_sem, jE, reduceIte, jA, jM, jS, jL, jD, jB, tkD_end]; first | done | rfl | (and_intros <;> rfl)) (by decide) (by unfold idM; decide))
theorem toIntS_ac (r : List Int) (hl : r.length ≤ 1048576) : AC Tryz.prog 34 [intsT r] noHp 0 ⟨.t (intsT r), noHp, 0⟩ := AC.settle0 [0] (toIntSR_ac r hl) (SetC.row0 rfl rfl) rfl
structure midT (s : Sto) : Prop where
  top : s.top.length ≤ 1048576
  ll : s.levels.length ≤ 1048576
  levels : ∀ e ∈ s.levels, e.length ≤ 1048576
  sl : s.sieves.length ≤ 1048576
  sieves : ∀ e ∈ s.sieves, e.rests.length ≤ 1048576
  times : s.times.length ≤ 1048576
theorem toStore_ac (s : Sto) (h : midT s) : AC Tryz.prog 10 [stT s] noHp 0 ⟨.t (stT s), noHp, 0⟩ := by
  refine AC_of Tryz.func10 rfl Tryz.ntmps10 Tryz.results10 (by kernel_rfl) rfl ?_
  simp only [List.zipIdx, List.map, Nat.zero_add, Nat.reduceAdd]
  repeat (first | apply Aw_seq | apply Aw_block | apply Aw_skip | apply Aw_exit | refine Aw_condt rfl ?_ | refine Aw_condf rfl ?_ | ((first | refine qr ?_ | refine qd (by kernel_rfl) (by kernel_rfl) ?_); simp only [go_sem, jE, reduceIte, jA, jM, jS, jL, jD, jB]) | refine dk (by kernel_rfl) ?_ | (refine qp (toEntryS_ac s.top h.top) (by simp only [go_sem, jE, reduceIte, jA, jM, jS, jL, jD, jB]; first | done | rfl) rfl (by simp only [go_sem, Nat.reduceLT]) rfl rfl ?_; simp only [go_sem, jE, reduceIte, jA, jM, jS, jL, jD, jB]) | (refine qp (toEntrySS_ac s.levels h.ll h.levels) (by simp only [go_sem, jE, reduceIte, jA, jM, jS, jL, jD, jB]; first | done | rfl) rfl (by simp only [go_sem, Nat.reduceLT]) rfl rfl ?_; simp only [go_sem, jE, reduceIte, jA, jM, jS, jL, jD, jB]) | (refine qp (toSieveS_ac s.sieves h.sl h.sieves) (by simp only [go_sem, jE, reduceIte, jA, jM, jS, jL, jD, jB]; first | done | rfl) rfl (by simp only [go_sem, Nat.reduceLT]) rfl rfl ?_; simp only [go_sem, jE, reduceIte, jA, jM, jS, jL, jD, jB]) | (refine qp (toIntS_ac s.times h.times) (by simp only [go_sem, jE, reduceIte, jA, jM, jS, jL, jD, jB]; first | done | rfl) rfl (by simp only [go_sem, Nat.reduceLT]) rfl rfl ?_; simp only [go_sem, jE, reduceIte, jA, jM, jS, jL, jD, jB]))
  exact Aw_ret (ret0 (.inl rfl) (by simp only [go_sem, jE, reduceIte, jA, jM, jS, jL, jD, jB]; rfl) (by rfl) rfl)
theorem eqEntry_ac (e : Ent) : AC Tryz.prog 72 [entT e, entT e] noHp 0 ⟨.t (bT true), noHp, 0⟩ := by
  refine AC_of Tryz.func72 rfl Tryz.ntmps72 Tryz.results72 (by kernel_rfl) rfl ?_
  simp only [List.zipIdx, List.map, Nat.zero_add, Nat.reduceAdd]
  repeat (first | apply Aw_seq | apply Aw_block | apply Aw_skip | apply Aw_exit | refine Aw_condt rfl ?_ | refine Aw_condf rfl ?_ | ((first | refine qr ?_ | refine qd (by kernel_rfl) (by kernel_rfl) ?_); simp only [go_sem, jE, reduceIte, jA, jM, jS, jL, jD, jB, iref, sref, bref]) | refine dk (by kernel_rfl) ?_)
  exact Aw_ret (ret0 (.inl rfl) (by simp only [go_sem, jE, reduceIte, jA, jM, jS, jL, jD, jB]; rfl) (by rfl) rfl)
theorem eqEntryS_ac (r : List Ent) (hl : r.length ≤ 1099511627776) : AC Tryz.prog 23 [runT r, runT r] noHp 0 ⟨.t (bT true), noHp, 0⟩ := by
  refine AC_of Tryz.func23 rfl Tryz.ntmps23 Tryz.results23 (by kernel_rfl) rfl ?_
  simp only [List.zipIdx, List.map, Nat.zero_add, Nat.reduceAdd]
  repeat (first | apply Aw_seq | apply Aw_block | apply Aw_skip | apply Aw_exit | refine Aw_condt rfl ?_ | refine Aw_condf rfl ?_ | ((first | refine qr ?_ | refine qd (by kernel_rfl) (by kernel_rfl) ?_); simp only [go_sem, jE, reduceIte, jA, jM, jS, jL, jD, jB, iref]) | refine dk (by kernel_rfl) ?_)
  refine Aw.rw (rw0 (l' := [(5, .t (iT (0 : Nat))), (1, .t (runT r)), (0, .t (runT r))]) (n' := 0) (by repeat (first | exact trivial | refine ⟨rfl, rfl, ?_⟩))) ?_
  refine Aw_loop0 (ι := { i : Nat // i ≤ r.length ∧ (True) }) (fun q => [(5, .t (iT (q.1 : Nat))), (1, .t (runT r)), (0, .t (runT r))]) (fun q => r.length - q.1) ⟨0, Nat.zero_le _, trivial⟩ ?_
  rintro ⟨i, hi, hp⟩
  dsimp only
  by_cases hlt : i < r.length
  · have h1 : (i : Int) < (r.length : Int) := by omega
    have h2 := wrap_succ hlt hl
    obtain ⟨e, hx⟩ : ∃ e, r[i]? = some e := ⟨_, List.getElem?_eq_getElem hlt⟩
    repeat (first | apply Aw_seq | apply Aw_block | apply Aw_skip | apply Aw_exit | refine Aw_condt rfl ?_ | refine Aw_condf rfl ?_ | ((first | refine qr ?_ | refine qd (by kernel_rfl) (by kernel_rfl) ?_); simp only [go_sem, jE, reduceIte, jA, jM, jS, jL, jD, jB, h1, h2, hx, iref, sref, bref]) | refine dk (by kernel_rfl) ?_ | (refine qp (eqEntry_ac e) (by simp only [go_sem, jE, reduceIte, jA, jM, jS, jL, jD, jB, h1, h2, hx, iref, sref, bref]; first | done | rfl) rfl (by simp only [go_sem, Nat.reduceLT]) rfl rfl ?_; simp only [go_sem, jE, reduceIte, jA, jM, jS, jL, jD, jB, h1, h2, hx, iref, sref, bref]))
    exact ⟨⟨i + 1, by omega, trivial⟩, (by simp only []; omega), rw0 (by repeat (first | exact trivial | refine ⟨rfl, rfl, ?_⟩))⟩
  · have h1 : ¬ (i : Int) < (r.length : Int) := by omega
    repeat (first | apply Aw_seq | apply Aw_block | apply Aw_skip | apply Aw_exit | refine Aw_condt rfl ?_ | refine Aw_condf rfl ?_ | ((first | refine qr ?_ | refine qd (by kernel_rfl) (by kernel_rfl) ?_); simp only [go_sem, jE, reduceIte, jA, jM, jS, jL, jD, jB, h1]) | refine dk (by kernel_rfl) ?_)
    exact Aw_ret (ret0 (.inl rfl) (by simp only [go_sem, jE, reduceIte, jA, jM, jS, jL, jD, jB]; rfl) (by rfl) rfl)
theorem eqEntrySS_ac (r : List (List Ent)) (hl : r.length ≤ 1099511627776) (he : ∀ e ∈ r, e.length ≤ 1099511627776) : AC Tryz.prog 38 [lvsT r, lvsT r] noHp 0 ⟨.t (bT true), noHp, 0⟩ := by
  refine AC_of Tryz.func38 rfl Tryz.ntmps38 Tryz.results38 (by kernel_rfl) rfl ?_
  simp only [List.zipIdx, List.map, Nat.zero_add, Nat.reduceAdd]
  repeat (first | apply Aw_seq | apply Aw_block | apply Aw_skip | apply Aw_exit | refine Aw_condt rfl ?_ | refine Aw_condf rfl ?_ | ((first | refine qr ?_ | refine qd (by kernel_rfl) (by kernel_rfl) ?_); simp only [go_sem, jE, reduceIte, jA, jM, jS, jL, jD, jB, iref]) | refine dk (by kernel_rfl) ?_)
  refine Aw.rw (rw0 (l' := [(5, .t (iT (0 : Nat))), (1, .t (lvsT r)), (0, .t (lvsT r))]) (n' := 0) (by repeat (first | exact trivial | refine ⟨rfl, rfl, ?_⟩))) ?_
  refine Aw_loop0 (ι := { i : Nat // i ≤ r.length ∧ (True) }) (fun q => [(5, .t (iT (q.1 : Nat))), (1, .t (lvsT r)), (0, .t (lvsT r))]) (fun q => r.length - q.1) ⟨0, Nat.zero_le _, trivial⟩ ?_
  rintro ⟨i, hi, hp⟩
  dsimp only
  by_cases hlt : i < r.length
  · have h1 : (i : Int) < (r.length : Int) := by omega
    have h2 := wrap_succ hlt hl
    obtain ⟨e, hx⟩ : ∃ e, r[i]? = some e := ⟨_, List.getElem?_eq_getElem hlt⟩
    repeat (first | apply Aw_seq | apply Aw_block | apply Aw_skip | apply Aw_exit | refine Aw_condt rfl ?_ | refine Aw_condf rfl ?_ | ((first | refine qr ?_ | refine qd (by kernel_rfl) (by kernel_rfl) ?_); simp only [go_sem, jE, reduceIte, jA, jM, jS, jL, jD, jB, h1, h2, hx, iref, sref, bref]) | refine dk (by kernel_rfl) ?_ | (refine qp (eqEntryS_ac e (he e (List.mem_of_getElem? hx))) (by simp only [go_sem, jE, reduceIte, jA, jM, jS, jL, jD, jB, h1, h2, hx, iref, sref, bref]; first | done | rfl) rfl (by simp only [go_sem, Nat.reduceLT]) rfl rfl ?_; simp only [go_sem, jE, reduceIte, jA, jM, jS, jL, jD, jB, h1, h2, hx, iref, sref, bref]))
    exact ⟨⟨i + 1, by omega, trivial⟩, (by simp only []; omega), rw0 (by repeat (first | exact trivial | refine ⟨rfl, rfl, ?_⟩))⟩
  · have h1 : ¬ (i : Int) < (r.length : Int) := by omega
    repeat (first | apply Aw_seq | apply Aw_block | apply Aw_skip | apply Aw_exit | refine Aw_condt rfl ?_ | refine Aw_condf rfl ?_ | ((first | refine qr ?_ | refine qd (by kernel_rfl) (by kernel_rfl) ?_); simp only [go_sem, jE, reduceIte, jA, jM, jS, jL, jD, jB, h1]) | refine dk (by kernel_rfl) ?_)
    exact Aw_ret (ret0 (.inl rfl) (by simp only [go_sem, jE, reduceIte, jA, jM, jS, jL, jD, jB]; rfl) (by rfl) rfl)
theorem eqStringS_ac (r : List ByteArray) (hl : r.length ≤ 1099511627776) : AC Tryz.prog 126 [strsT r, strsT r] noHp 0 ⟨.t (bT true), noHp, 0⟩ := by
  refine AC_of Tryz.func126 rfl Tryz.ntmps126 Tryz.results126 (by kernel_rfl) rfl ?_
  simp only [List.zipIdx, List.map, Nat.zero_add, Nat.reduceAdd]
  repeat (first | apply Aw_seq | apply Aw_block | apply Aw_skip | apply Aw_exit | refine Aw_condt rfl ?_ | refine Aw_condf rfl ?_ | ((first | refine qr ?_ | refine qd (by kernel_rfl) (by kernel_rfl) ?_); simp only [go_sem, jE, reduceIte, jA, jM, jS, jL, jD, jB, iref]) | refine dk (by kernel_rfl) ?_)
  refine Aw.rw (rw0 (l' := [(5, .t (iT (0 : Nat))), (1, .t (strsT r)), (0, .t (strsT r))]) (n' := 0) (by repeat (first | exact trivial | refine ⟨rfl, rfl, ?_⟩))) ?_
  refine Aw_loop0 (ι := { i : Nat // i ≤ r.length ∧ (True) }) (fun q => [(5, .t (iT (q.1 : Nat))), (1, .t (strsT r)), (0, .t (strsT r))]) (fun q => r.length - q.1) ⟨0, Nat.zero_le _, trivial⟩ ?_
  rintro ⟨i, hi, hp⟩
  dsimp only
  by_cases hlt : i < r.length
  · have h1 : (i : Int) < (r.length : Int) := by omega
    have h2 := wrap_succ hlt hl
    obtain ⟨e, hx⟩ : ∃ e, r[i]? = some e := ⟨_, List.getElem?_eq_getElem hlt⟩
    repeat (first | apply Aw_seq | apply Aw_block | apply Aw_skip | apply Aw_exit | refine Aw_condt rfl ?_ | refine Aw_condf rfl ?_ | ((first | refine qr ?_ | refine qd (by kernel_rfl) (by kernel_rfl) ?_); simp only [go_sem, jE, reduceIte, jA, jM, jS, jL, jD, jB, h1, h2, hx, iref, sref, bref]) | refine dk (by kernel_rfl) ?_)
    exact ⟨⟨i + 1, by omega, trivial⟩, (by simp only []; omega), rw0 (by repeat (first | exact trivial | refine ⟨rfl, rfl, ?_⟩))⟩
  · have h1 : ¬ (i : Int) < (r.length : Int) := by omega
    repeat (first | apply Aw_seq | apply Aw_block | apply Aw_skip | apply Aw_exit | refine Aw_condt rfl ?_ | refine Aw_condf rfl ?_ | ((first | refine qr ?_ | refine qd (by kernel_rfl) (by kernel_rfl) ?_); simp only [go_sem, jE, reduceIte, jA, jM, jS, jL, jD, jB, h1]) | refine dk (by kernel_rfl) ?_)
    exact Aw_ret (ret0 (.inl rfl) (by simp only [go_sem, jE, reduceIte, jA, jM, jS, jL, jD, jB]; rfl) (by rfl) rfl)
theorem eqSieve_ac (s : Sve) (hl : s.rests.length ≤ 1099511627776) : AC Tryz.prog 83 [sveP s, sveP s] noHp 0 ⟨.t (bT true), noHp, 0⟩ := by
  refine AC_of Tryz.func83 rfl Tryz.ntmps83 Tryz.results83 (by kernel_rfl) rfl ?_
  simp only [List.zipIdx, List.map, Nat.zero_add, Nat.reduceAdd]
  repeat (first | apply Aw_seq | apply Aw_block | apply Aw_skip | apply Aw_exit | refine Aw_condt rfl ?_ | refine Aw_condf rfl ?_ | ((first | refine qr ?_ | refine qd (by kernel_rfl) (by kernel_rfl) ?_); simp only [go_sem, jE, reduceIte, jA, jM, jS, jL, jD, jB, iref, sref, bref]) | refine dk (by kernel_rfl) ?_ | (refine qp (eqStringS_ac s.rests hl) (by simp only [go_sem, jE, reduceIte, jA, jM, jS, jL, jD, jB, iref, sref, bref]; first | done | rfl) rfl (by simp only [go_sem, Nat.reduceLT]) rfl rfl ?_; simp only [go_sem, jE, reduceIte, jA, jM, jS, jL, jD, jB, iref, sref, bref]))
  exact Aw_ret (ret0 (.inl rfl) (by simp only [go_sem, jE, reduceIte, jA, jM, jS, jL, jD, jB]; rfl) (by rfl) rfl)
theorem eqSieveS_ac (r : List Sve) (hl : r.length ≤ 1099511627776) (he : ∀ e ∈ r, e.rests.length ≤ 1099511627776) : AC Tryz.prog 39 [svsT r, svsT r] noHp 0 ⟨.t (bT true), noHp, 0⟩ := by
  refine AC_of Tryz.func39 rfl Tryz.ntmps39 Tryz.results39 (by kernel_rfl) rfl ?_
  simp only [List.zipIdx, List.map, Nat.zero_add, Nat.reduceAdd]
  repeat (first | apply Aw_seq | apply Aw_block | apply Aw_skip | apply Aw_exit | refine Aw_condt rfl ?_ | refine Aw_condf rfl ?_ | ((first | refine qr ?_ | refine qd (by kernel_rfl) (by kernel_rfl) ?_); simp only [go_sem, jE, reduceIte, jA, jM, jS, jL, jD, jB, iref]) | refine dk (by kernel_rfl) ?_)
  refine Aw.rw (rw0 (l' := [(5, .t (iT (0 : Nat))), (1, .t (svsT r)), (0, .t (svsT r))]) (n' := 0) (by repeat (first | exact trivial | refine ⟨rfl, rfl, ?_⟩))) ?_
  refine Aw_loop0 (ι := { i : Nat // i ≤ r.length ∧ (True) }) (fun q => [(5, .t (iT (q.1 : Nat))), (1, .t (svsT r)), (0, .t (svsT r))]) (fun q => r.length - q.1) ⟨0, Nat.zero_le _, trivial⟩ ?_
  rintro ⟨i, hi, hp⟩
  dsimp only
  by_cases hlt : i < r.length
  · have h1 : (i : Int) < (r.length : Int) := by omega
    have h2 := wrap_succ hlt hl
    obtain ⟨e, hx⟩ : ∃ e, r[i]? = some e := ⟨_, List.getElem?_eq_getElem hlt⟩
    repeat (first | apply Aw_seq | apply Aw_block | apply Aw_skip | apply Aw_exit | refine Aw_condt rfl ?_ | refine Aw_condf rfl ?_ | ((first | refine qr ?_ | refine qd (by kernel_rfl) (by kernel_rfl) ?_); simp only [go_sem, jE, reduceIte, jA, jM, jS, jL, jD, jB, h1, h2, hx, iref, sref, bref]) | refine dk (by kernel_rfl) ?_ | (refine qp (eqSieve_ac e (he e (List.mem_of_getElem? hx))) (by simp only [go_sem, jE, reduceIte, jA, jM, jS, jL, jD, jB, h1, h2, hx, iref, sref, bref]; first | done | rfl) rfl (by simp only [go_sem, Nat.reduceLT]) rfl rfl ?_; simp only [go_sem, jE, reduceIte, jA, jM, jS, jL, jD, jB, h1, h2, hx, iref, sref, bref]))
    exact ⟨⟨i + 1, by omega, trivial⟩, (by simp only []; omega), rw0 (by repeat (first | exact trivial | refine ⟨rfl, rfl, ?_⟩))⟩
  · have h1 : ¬ (i : Int) < (r.length : Int) := by omega
    repeat (first | apply Aw_seq | apply Aw_block | apply Aw_skip | apply Aw_exit | refine Aw_condt rfl ?_ | refine Aw_condf rfl ?_ | ((first | refine qr ?_ | refine qd (by kernel_rfl) (by kernel_rfl) ?_); simp only [go_sem, jE, reduceIte, jA, jM, jS, jL, jD, jB, h1]) | refine dk (by kernel_rfl) ?_)
    exact Aw_ret (ret0 (.inl rfl) (by simp only [go_sem, jE, reduceIte, jA, jM, jS, jL, jD, jB]; rfl) (by rfl) rfl)
theorem eqIntS_ac (r : List Int) (hl : r.length ≤ 1099511627776) : AC Tryz.prog 40 [intsT r, intsT r] noHp 0 ⟨.t (bT true), noHp, 0⟩ := by
  refine AC_of Tryz.func40 rfl Tryz.ntmps40 Tryz.results40 (by kernel_rfl) rfl ?_
  simp only [List.zipIdx, List.map, Nat.zero_add, Nat.reduceAdd]
  repeat (first | apply Aw_seq | apply Aw_block | apply Aw_skip | apply Aw_exit | refine Aw_condt rfl ?_ | refine Aw_condf rfl ?_ | ((first | refine qr ?_ | refine qd (by kernel_rfl) (by kernel_rfl) ?_); simp only [go_sem, jE, reduceIte, jA, jM, jS, jL, jD, jB, iref]) | refine dk (by kernel_rfl) ?_)
  refine Aw.rw (rw0 (l' := [(5, .t (iT (0 : Nat))), (1, .t (intsT r)), (0, .t (intsT r))]) (n' := 0) (by repeat (first | exact trivial | refine ⟨rfl, rfl, ?_⟩))) ?_
  refine Aw_loop0 (ι := { i : Nat // i ≤ r.length ∧ (True) }) (fun q => [(5, .t (iT (q.1 : Nat))), (1, .t (intsT r)), (0, .t (intsT r))]) (fun q => r.length - q.1) ⟨0, Nat.zero_le _, trivial⟩ ?_
  rintro ⟨i, hi, hp⟩
  dsimp only
  by_cases hlt : i < r.length
  · have h1 : (i : Int) < (r.length : Int) := by omega
    have h2 := wrap_succ hlt hl
    obtain ⟨e, hx⟩ : ∃ e, r[i]? = some e := ⟨_, List.getElem?_eq_getElem hlt⟩
    repeat (first | apply Aw_seq | apply Aw_block | apply Aw_skip | apply Aw_exit | refine Aw_condt rfl ?_ | refine Aw_condf rfl ?_ | ((first | refine qr ?_ | refine qd (by kernel_rfl) (by kernel_rfl) ?_); simp only [go_sem, jE, reduceIte, jA, jM, jS, jL, jD, jB, h1, h2, hx, iref, sref, bref]) | refine dk (by kernel_rfl) ?_)
    exact ⟨⟨i + 1, by omega, trivial⟩, (by simp only []; omega), rw0 (by repeat (first | exact trivial | refine ⟨rfl, rfl, ?_⟩))⟩
  · have h1 : ¬ (i : Int) < (r.length : Int) := by omega
    repeat (first | apply Aw_seq | apply Aw_block | apply Aw_skip | apply Aw_exit | refine Aw_condt rfl ?_ | refine Aw_condf rfl ?_ | ((first | refine qr ?_ | refine qd (by kernel_rfl) (by kernel_rfl) ?_); simp only [go_sem, jE, reduceIte, jA, jM, jS, jL, jD, jB, h1]) | refine dk (by kernel_rfl) ?_)
    exact Aw_ret (ret0 (.inl rfl) (by simp only [go_sem, jE, reduceIte, jA, jM, jS, jL, jD, jB]; rfl) (by rfl) rfl)
structure farT (s : Sto) : Prop where
  top : s.top.length ≤ 1099511627776
  ll : s.levels.length ≤ 1099511627776
  levels : ∀ e ∈ s.levels, e.length ≤ 1099511627776
  sl : s.sieves.length ≤ 1099511627776
  sieves : ∀ e ∈ s.sieves, e.rests.length ≤ 1099511627776
  times : s.times.length ≤ 1099511627776
theorem midT.far {s : Sto} (h : midT s) : farT s := ⟨by have := h.top; omega, by have := h.ll; omega, fun e he => by have := h.levels e he; omega, by have := h.sl; omega, fun e he => by have := h.sieves e he; omega, by have := h.times; omega⟩
theorem eqStore_ac (s : Sto) (h : farT s) : AC Tryz.prog 12 [stT s, stT s] noHp 0 ⟨.t (bT true), noHp, 0⟩ := by
  refine AC_of Tryz.func12 rfl Tryz.ntmps12 Tryz.results12 (by kernel_rfl) rfl ?_
  simp only [List.zipIdx, List.map, Nat.zero_add, Nat.reduceAdd]
  repeat (first | apply Aw_seq | apply Aw_block | apply Aw_skip | apply Aw_exit | refine Aw_condt rfl ?_ | refine Aw_condf rfl ?_ | ((first | refine qr ?_ | refine qd (by kernel_rfl) (by kernel_rfl) ?_); simp only [go_sem, jE, reduceIte, jA, jM, jS, jL, jD, jB, iref, sref, bref]) | refine dk (by kernel_rfl) ?_ | (refine qp (eqEntryS_ac s.top h.top) (by simp only [go_sem, jE, reduceIte, jA, jM, jS, jL, jD, jB, iref, sref, bref]; first | done | rfl) rfl (by simp only [go_sem, Nat.reduceLT]) rfl rfl ?_; simp only [go_sem, jE, reduceIte, jA, jM, jS, jL, jD, jB, iref, sref, bref]) | (refine qp (eqEntrySS_ac s.levels h.ll h.levels) (by simp only [go_sem, jE, reduceIte, jA, jM, jS, jL, jD, jB, iref, sref, bref]; first | done | rfl) rfl (by simp only [go_sem, Nat.reduceLT]) rfl rfl ?_; simp only [go_sem, jE, reduceIte, jA, jM, jS, jL, jD, jB, iref, sref, bref]) | (refine qp (eqSieveS_ac s.sieves h.sl h.sieves) (by simp only [go_sem, jE, reduceIte, jA, jM, jS, jL, jD, jB, iref, sref, bref]; first | done | rfl) rfl (by simp only [go_sem, Nat.reduceLT]) rfl rfl ?_; simp only [go_sem, jE, reduceIte, jA, jM, jS, jL, jD, jB, iref, sref, bref]) | (refine qp (eqIntS_ac s.times h.times) (by simp only [go_sem, jE, reduceIte, jA, jM, jS, jL, jD, jB, iref, sref, bref]; first | done | rfl) rfl (by simp only [go_sem, Nat.reduceLT]) rfl rfl ?_; simp only [go_sem, jE, reduceIte, jA, jM, jS, jL, jD, jB, iref, sref, bref]))
  exact Aw_ret (ret0 (.inl rfl) (by simp only [go_sem, jE, reduceIte, jA, jM, jS, jL, jD, jB]; rfl) (by rfl) rfl)
theorem wS_mem {α : Type} {f : α → Nat} {xs : List α} {x : α} (h : x ∈ xs) : f x ≤ wS f xs := by
  unfold wS
  have : ∀ ys : List Nat, ∀ y ∈ ys, y ≤ ys.sum := fun ys => by
    induction ys with
    | nil => intro y hy; simp at hy
    | cons a r ih => intro y hy; rcases List.mem_cons.1 hy with rfl | hy; simp; have := ih y hy; simp; omega
  have := this (xs.map f) (f x) (List.mem_map.2 ⟨x, h, rfl⟩)
  omega
theorem wS_len {α : Type} {f : α → Nat} {xs : List α} : xs.length ≤ wS f xs := by unfold wS; omega
theorem wRun_smR {r : List Ent} {n : Nat} (h : wRun r ≤ n) (hn : n ≤ 1048576) : SmR r := ⟨by have := wS_len (f := wEnt) (xs := r); unfold wRun at h; omega, fun e he => by have := wS_mem (f := wEnt) he; unfold wRun at h; unfold wEnt at this; unfold smK; unfold wEnt at h; omega⟩
theorem w_mid {s : Sto} (h : wSto s ≤ 1048576) : midT s := by
  unfold wSto at h
  refine ⟨?_, ?_, fun e he => ?_, ?_, fun e he => ?_, ?_⟩
  · have := wS_len (f := wEnt) (xs := s.top); unfold wRun at h; omega
  · have := wS_len (f := wRun) (xs := s.levels); omega
  · have := wS_mem (f := wRun) he; have h2 := wS_len (f := wEnt) (xs := e); unfold wRun at this h; omega
  · have := wS_len (f := wSve) (xs := s.sieves); omega
  · have := wS_mem (f := wSve) he; have h2 := wS_len (f := ByteArray.size) (xs := e.rests); unfold wSve at this h; omega
  · omega
open Go Go.Proofs Go.Deep Go.WideShapes Go.ChangeShapes Go.RowKit
theorem cell_lt {w : World} {a : Addr} {v : Value} (h : w.cell? a = some v) : a.block < w.heap.size := by
  apply Classical.byContradiction
  intro hn
  have : w.heap[a.block]? = none := Array.getElem?_eq_none (by omega)
  simp [World.cell?, this] at h
/-- What is read as data of type t is, cell by cell, the data that f tells of a value that is ok. -/
structure RdB {α : Type} (P : Program) (t : TypeId) (f : α → List D) (ok : α → Prop) : Prop where
  down : ∀ {H : Type} {enc : TypeId × Value → H} {w : World} {base : Nat} {spare : Nat → Bool} {held : Bool} {fuel : Nat} {cs : List Value} {x : DataW H × List MemPlace},
    DataW.trod enc P w base spare held fuel t cs = some x → ∃ y, All2 (RepD w (· < w.heap.size)) (f y) cs ∧ ok y
theorem RdB.int {P : Program} {t : TypeId} {k : IntKind} (ht : P.underlying t = some (.int k)) : RdB P t (fun n : Int => [.s (.int k n)]) (fun n => (Lit.int k n).wf = true) :=
  ⟨fun h => by obtain ⟨n, rfl, _, hw⟩ := DataW.trod_int ht h; exact ⟨n, .cons (.s rfl) .nil, hw⟩⟩
theorem RdB.bool {P : Program} {t : TypeId} (ht : P.underlying t = some .bool) : RdB P t (fun b : Bool => [.s (.bool b)]) (fun _ => True) :=
  ⟨fun h => by obtain ⟨b, rfl, _⟩ := DataW.trod_bool ht h; exact ⟨b, .cons (.s rfl) .nil, trivial⟩⟩
theorem RdB.str {P : Program} {t : TypeId} (ht : P.underlying t = some .string) : RdB P t (fun s : ByteArray => [.s (.string s)]) (fun s => s.size ≤ maxLen) :=
  ⟨fun h => by obtain ⟨s, rfl, _, hs⟩ := DataW.trod_string ht h; exact ⟨s, .cons (.s rfl) .nil, hs⟩⟩
theorem RdB.slice {α : Type} {P : Program} {t e k : Nat} {f : α → List D} {ok : α → Prop} (ht : P.underlying t = some (.slice e)) (hc : P.cellsOf e = k) (hd : RdB P e f ok) :
    RdB P t (fun xs : List α => [.rs k (xs.map f)]) (fun xs => xs.length ≤ maxLen ∧ ∀ x ∈ xs, ok x) := by
  refine ⟨fun {H enc w base spare held fuel cs x} h => ?_⟩
  rcases open_slice ht h with ⟨rfl, rfl⟩ | ⟨a, len, cap, m, n, D, Pl, rfl, hb, hl, hm, hmm, rfl, hx⟩
  · exact ⟨[], .cons (.rs (A := none) (cap := 0) (fun _ _ => .bool false) (Nat.le_refl _) (Nat.zero_le _) (by simp) (fun i j hi => absurd hi (by simp)) (fun i j cs x hi => by simp at hi)) .nil, by simp, by simp⟩
  · have hlm : len ≤ m := by rw [hmm]; split <;> omega
    have hy : ∀ i : _root_.Fin len, ∃ y, ∃ cs', w.cells? base (a.add (i.1 * P.cellsOf e)) (P.cellsOf e) = some cs' ∧ All2 (RepD w (· < w.heap.size)) (f y) cs' ∧ ok y := fun i => by
      obtain ⟨cs', h1, h2⟩ := hx i.1 (by omega)
      obtain ⟨y, h3, h4⟩ := hd.down h2
      exact ⟨y, cs', h1, h3, h4⟩
    have hsp : ∀ i : _root_.Fin len, ∃ cs', w.cells? base (a.add (i.1 * P.cellsOf e)) (P.cellsOf e) = some cs' ∧ All2 (RepD w (· < w.heap.size)) (f (Classical.choose (hy i))) cs' ∧ ok (Classical.choose (hy i)) := fun i => Classical.choose_spec (hy i)
    have hlen : (List.ofFn fun i : _root_.Fin len => Classical.choose (hy i)).length = len := List.length_ofFn
    have hget : ∀ {j : Nat} {p : α}, (List.ofFn fun i : _root_.Fin len => Classical.choose (hy i))[j]? = some p → ∃ cs', w.cells? base (a.add (j * k)) k = some cs' ∧ All2 (RepD w (· < w.heap.size)) (f p) cs' := fun {j p} hj => by
      have hjl : j < len := by
        have := (List.getElem?_eq_some_iff.1 hj).1
        rwa [hlen] at this
      rw [List.getElem?_ofFn, dif_pos hjl] at hj
      obtain rfl := Option.some.inj hj
      obtain ⟨cs', h1, h2, _⟩ := hsp ⟨j, hjl⟩
      rw [hc] at h1
      exact ⟨cs', h1, h2⟩
    have hbk : ∀ n, (a.add n).block = a.block := fun n => by unfold Addr.add; split <;> rfl
    have hcell : ∀ i, i < len → ∃ cs' : List Value, cs'.length = k ∧ ∀ j, j < k → w.cell? (a.add (i * k + j)) = cs'[j]? := fun i hi => by
      obtain ⟨cs', h1, _⟩ := hsp ⟨i, hi⟩
      rw [hc] at h1
      obtain ⟨_, h3, h4⟩ := World.cells?_some h1
      refine ⟨cs', h3, fun j hj => ?_⟩
      have := h4 j hj
      rw [Deep.add_add] at this
      exact this
    refine ⟨List.ofFn fun i : _root_.Fin len => Classical.choose (hy i), .cons ?_ .nil, by rw [hlen]; omega, ?_⟩
    · have := RepD.rs (w := w) (S := (· < w.heap.size)) (k := k) (els := (List.ofFn fun i : _root_.Fin len => Classical.choose (hy i)).map f) (A := some a) (cap := cap) (fun i j => (w.cell? (a.add (i * k + j))).getD (.bool false)) (by rw [List.length_map, hlen]; exact hl) hm ?_ ?_ ?_
      · rw [List.length_map, hlen] at this; exact this
      · intro cs hcs
        obtain ⟨p, hp, rfl⟩ := List.mem_map.1 hcs
        obtain ⟨j, hj⟩ := List.mem_iff_getElem?.1 hp
        obtain ⟨cs', h1, h2⟩ := hget hj
        rw [h2.len]; exact (World.cells?_some h1).2.1
      · intro i j hi hj
        rw [List.length_map, hlen] at hi
        obtain ⟨cs', h1, h2⟩ := hcell i hi
        have h3 := h2 j hj
        rw [List.getElem?_eq_getElem (by omega)] at h3
        refine ⟨a, rfl, ?_, ?_⟩
        · have := cell_lt h3; rwa [hbk] at this
        · simp only [h3]; rfl
      · intro i j cs x hi hj
        rw [List.getElem?_map] at hi
        obtain ⟨p, hp, rfl⟩ := Option.map_eq_some_iff.1 hi
        obtain ⟨cs', h1, h2⟩ := hget hp
        obtain ⟨_, h3, h4⟩ := World.cells?_some h1
        obtain ⟨v, hv, hr⟩ := h2.get hj
        have hjk : j < k := by have := (List.getElem?_eq_some_iff.1 hv).1; omega
        have := h4 j hjk
        rw [Deep.add_add, hv] at this
        simp only [this]
        exact hr
    · intro x hx
      obtain ⟨i, rfl⟩ := List.mem_ofFn.1 hx
      exact (hsp i).choose_spec.2.2
/-- The fields of a struct, from a cell on. -/
structure FRdB {α : Type} (P : Program) (off : Nat) (fs : List Field) (sz : Nat) (f : α → List D) (ok : α → Prop) : Prop where
  down : ∀ {H : Type} {enc : TypeId × Value → H} {w : World} {base : Nat} {spare : Nat → Bool} {held : Bool} {n : Nat} {cs : List Value} (ys : List (DataW H × List MemPlace)),
    cs.length = off + sz → ys.length = fs.length → (∀ (i : Nat) (f : Field), fs[i]? = some f → DataW.trod enc P w base spare held n f.type ((cs.drop f.offset).take (P.cellsOf f.type)) = ys[i]?) → ∃ y, All2 (RepD w (· < w.heap.size)) (f y) (cs.drop off) ∧ ok y
theorem FRdB.last {α : Type} {P : Program} {off sz : Nat} {f : Field} {d : α → List D} {ok : α → Prop} (ho : f.offset = off) (hc : P.cellsOf f.type = sz) (hd : RdB P f.type d ok) : FRdB P off [f] sz d ok := by
  refine ⟨fun {H enc w base spare held n cs} ys hl hy h => ?_⟩
  have h0 := h 0 f rfl
  rw [ho, hc, List.take_of_length_le (by rw [List.length_drop]; omega)] at h0
  have h1 : 0 < ys.length := by rw [hy]; simp
  rw [List.getElem?_eq_getElem h1] at h0
  exact hd.down h0
theorem FRdB.cons {α β : Type} {P : Program} {off sa sb : Nat} {f : Field} {fs : List Field} {a : α → List D} {b : β → List D} {oka : α → Prop} {okb : β → Prop} (ho : f.offset = off) (hc : P.cellsOf f.type = sa) (ha : RdB P f.type a oka) (hb : FRdB P (off + sa) fs sb b okb) :
    FRdB P off (f :: fs) (sa + sb) (fun y : α × β => a y.1 ++ b y.2) (fun y => oka y.1 ∧ okb y.2) := by
  refine ⟨fun {H enc w base spare held n cs} ys hl hy h => ?_⟩
  have h0 := h 0 f rfl
  rw [ho, hc] at h0
  match ys, hy with
  | [], hy => simp at hy
  | y0 :: ys, hy =>
    obtain ⟨x, h1, h2⟩ := ha.down (x := y0) h0
    obtain ⟨z, h3, h4⟩ := hb.down (cs := cs) ys (by omega) (by simpa using hy) (fun i g hg => by simpa using h (i + 1) g (by simpa using hg))
    refine ⟨(x, z), ?_, h2, h4⟩
    have := h1.app h3
    rw [← List.drop_drop, List.take_append_drop] at this
    exact this
theorem RdB.struct {α : Type} {P : Program} {t sz : Nat} {fs : Array Field} {d : α → List D} {ok : α → Prop} (ht : P.underlying t = some (.struct fs)) (hc : P.cellsOf t = sz) (hf : FRdB P 0 fs.toList sz d ok) : RdB P t d ok := by
  refine ⟨fun {H enc w base spare held fuel cs x} h => ?_⟩
  obtain ⟨xs, n, _, _, hl, hx, hi⟩ := DataW.trod_struct ht h
  have := hf.down (cs := cs) xs (by omega) (by simpa using hx) (fun i f hf => hi i f (by simpa using hf))
  simpa using this
theorem RdB.iso {α β : Type} {P : Program} {t : TypeId} {d : α → List D} {d' : β → List D} {ok : α → Prop} {ok' : β → Prop} (g : α → β) (hd : RdB P t d ok) (hg : ∀ x, d' (g x) = d x) (hk : ∀ x, ok x → ok' (g x)) : RdB P t d' ok' :=
  ⟨fun h => by
    obtain ⟨x, h1, h2⟩ := hd.down h
    exact ⟨g x, by rw [hg]; exact h1, hk x h2⟩⟩
/-- An argument that is a struct; one that is a slice. -/
theorem RdB.argS {α H : Type} {enc : TypeId × Value → H} {P : Program} {w : World} {base : Nat} {spare : Nat → Bool} {held : Bool} {t : TypeId} {d : α → List D} {ok : α → Prop} {cs : Array Value} {x : DataW H} {p : List MemPlace}
    (hd : RdB P t d ok) (h : DataW.Trod enc P w base spare held t (.agg cs) x p) : ∃ y : α, All2 (RepD w (· < w.heap.size)) (d y) cs.toList ∧ ok y := by
  obtain ⟨fuel, hf⟩ := h
  exact hd.down hf
/-- A law's contract, of data alone: it gives its value, and leaves what was there. -/
theorem AC.run {P : Program} {f : FuncId} {args : List TV} {b : Bool} {n : Nat} (h : AC P f args noHp 0 ⟨.t (bT b), noHp, n⟩) {W : World} {vs : List Value} (hv : All2 (RepT ⟨W, fun _ => 0, fun _ => .bool false, fun _ => 0, (· < W.heap.size), fun _ => False⟩) args vs) :
    Calls P f vs.toArray W fun e W' => e = .returned (.bool b) ∧ Below W.heap.size W W' := by
  have g : Good ⟨W, fun _ => 0, fun _ => .bool false, fun _ => 0, (· < W.heap.size), fun _ => False⟩ noHp := by
    refine ⟨fun m o hm => ?_, fun m o hm => ?_, fun b hb => ?_, fun m o m' o' b hm => ?_, fun b hb => hb⟩
    · simp [noHp] at hm
    · simp [noHp] at hm
    · obtain ⟨m, o, hm, _⟩ := hb; simp [noHp] at hm
    · simp [noHp] at hm
  refine Calls.mono (h.2 _ vs g (fun m hm => hm.elim) hv) fun e w' => ?_
  rintro ⟨v, c', rfl, rfl, t, _, r, _⟩
  refine ⟨by rw [show v = .bool b by cases r; rfl], t.os, t.tape, t.output, t.size, fun k hk => t.keep k hk ?_⟩
  rintro ⟨m, o, hm, _⟩
  simp [noHp] at hm
theorem rep_agg {W : World} {c : Cx} {cs : List D} {vs : Array Value} (hc : c.w = W) (hS : c.S = (· < W.heap.size)) (h : All2 (RepD W (· < W.heap.size)) cs vs.toList) : RepT c (.agg (cs.map .d)) (.agg vs) :=
  ⟨vs.toList, by simp, All2.map_left (h.imp fun a b hab => by subst hc; rw [← hS] at hab; exact hab)⟩
set_option maxRecDepth 100000
def w64 (n : Int) : Prop := (Lit.int .i64 n).wf = true
structure okE (e : Ent) : Prop where
  key : big e.key.size
  val : w64 e.val
  time : w64 e.time
def okR (r : List Ent) : Prop := big r.length ∧ ∀ e ∈ r, okE e
def okS (s : Sve) : Prop := bigS s ∧ w64 s.keep
structure okT (s : Sto) : Prop where
  top : okR s.top
  ll : big s.levels.length
  levels : ∀ e ∈ s.levels, okR e
  sl : big s.sieves.length
  sieves : ∀ e ∈ s.sieves, okS e
  times : big s.times.length
  keep : w64 s.keep
  time : w64 s.time
  tw : ∀ t ∈ s.times, w64 t
theorem okR.big {r : List Ent} (h : okR r) : bigR r := ⟨h.1, fun e he => (h.2 e he).key⟩
theorem okT.big {s : Sto} (h : okT s) : bigT s := ⟨h.top.big, h.ll, fun e he => (h.levels e he).big, h.sl, fun e he => (h.sieves e he).1, h.times⟩
theorem rdEnt : RdB Tryz.prog 92 entD okE :=
  RdB.iso (fun x : ByteArray × Int × Bool × Int => (⟨x.1, x.2.1, x.2.2.1, x.2.2.2⟩ : Ent)) (RdB.struct Tryz.underlying92 (by kernel_rfl) (FRdB.cons (sa := 1) rfl (by kernel_rfl) (RdB.str Tryz.underlying9) (FRdB.cons (sa := 1) rfl (by kernel_rfl) (RdB.int Tryz.underlying3) (FRdB.cons (sa := 1) rfl (by kernel_rfl) (RdB.bool Tryz.underlying4) (FRdB.last (sz := 1) rfl (by kernel_rfl) (RdB.int Tryz.underlying3)))))) (fun _ => rfl) (fun x h => ⟨h.1, h.2.1, h.2.2.2⟩)
theorem rdRun : RdB Tryz.prog 22 (fun r => [.rs 4 (r.map entD)]) okR := RdB.slice Tryz.underlying22 (by kernel_rfl) rdEnt
theorem rdSve : RdB Tryz.prog 94 sveD okS :=
  RdB.iso (fun x : ByteArray × ByteArray × ByteArray × List ByteArray × Int => (⟨x.1, x.2.1, x.2.2.1, x.2.2.2.1, x.2.2.2.2⟩ : Sve)) (RdB.struct Tryz.underlying94 (by kernel_rfl) (FRdB.cons (sa := 1) rfl (by kernel_rfl) (RdB.str Tryz.underlying9) (FRdB.cons (sa := 1) rfl (by kernel_rfl) (RdB.str Tryz.underlying9) (FRdB.cons (sa := 1) rfl (by kernel_rfl) (RdB.str Tryz.underlying9) (FRdB.cons (sa := 1) rfl (by kernel_rfl) (RdB.slice Tryz.underlying78 (by kernel_rfl) (RdB.str Tryz.underlying9)) (FRdB.last (sz := 1) rfl (by kernel_rfl) (RdB.int Tryz.underlying3))))))) (fun _ => rfl) (fun x h => ⟨⟨h.1, h.2.1, h.2.2.1, h.2.2.2.1.1, h.2.2.2.1.2⟩, h.2.2.2.2⟩)
def stC (s : Sto) : List D := [.rs 4 (s.top.map entD), .rs 1 (s.levels.map lvD), .rs 5 (s.sieves.map sveD), .s (.int .i64 s.keep), .s (.int .i64 s.time), .rs 1 (s.times.map intD)]
theorem rdSto : RdB Tryz.prog 27 stC okT :=
  RdB.iso (fun x : List Ent × List (List Ent) × List Sve × Int × Int × List Int => (⟨x.1, x.2.1, x.2.2.1, x.2.2.2.1, x.2.2.2.2.1, x.2.2.2.2.2⟩ : Sto)) (RdB.struct Tryz.underlying27 (by kernel_rfl) (FRdB.cons (sa := 1) rfl (by kernel_rfl) rdRun (FRdB.cons (sa := 1) rfl (by kernel_rfl) (RdB.slice Tryz.underlying23 (by kernel_rfl) rdRun) (FRdB.cons (sa := 1) rfl (by kernel_rfl) (RdB.slice Tryz.underlying24 (by kernel_rfl) rdSve) (FRdB.cons (sa := 1) rfl (by kernel_rfl) (RdB.int Tryz.underlying3) (FRdB.cons (sa := 1) rfl (by kernel_rfl) (RdB.int Tryz.underlying3) (FRdB.last (sz := 1) rfl (by kernel_rfl) (RdB.slice Tryz.underlying25 (by kernel_rfl) (RdB.int Tryz.underlying3)))))))))
    (fun _ => rfl) (fun x h => ⟨h.1, h.2.1.1, h.2.1.2, h.2.2.1.1, h.2.2.1.2, h.2.2.2.2.2.1, h.2.2.2.1, h.2.2.2.2.1, h.2.2.2.2.2.2⟩)
theorem rep_st {W : World} {c : Cx} {s : Sto} {vs : Array Value} (hc : c.w = W) (hS : c.S = (· < W.heap.size)) (h : All2 (RepD W (· < W.heap.size)) (stC s) vs.toList) : RepT c (stT s) (.agg vs) := rep_agg hc hS h
set_option maxRecDepth 10000
theorem w_sm {s : Sto} (h : wSto s ≤ 1048576) : SmSt s := by
  have m := w_mid h
  unfold wSto at h
  refine ⟨wRun_smR (n := 1048576) (by omega) (Nat.le_refl _), fun r hr => ?_, m.far.ll, m.far.sl, m.far.sieves, m.far.times⟩
  have := wS_mem (f := wRun) hr
  exact wRun_smR (n := 1048576) (by omega) (Nat.le_refl _)
theorem VSt.me {s : Sto} (hv : VSt s) {i : Nat} {r : List Ent} {x : Sve} (hr : s.levels[i]? = some r) (hx : s.sieves[i]? = some x) : SvIs s.keep.toNat (keysM r) x ∧ sieveM (keysM r) ((s.keep.toNat : Nat) : Int) = some x := by
  obtain ⟨h1, h2, _⟩ := hv.sv i r x hr hx
  refine ⟨h1, ?_⟩
  rw [show ((s.keep.toNat : Nat) : Int) = s.keep by have := hv.kp; omega]
  exact h2
open Go Go.Proofs Go.Shelf Go.Sort
def Tryz.lSort_ren : Go.Shelf.Ren := ⟨fun | 190 => 113 | 125 => 149 | 258 => 148 | 128 => 178 | 129 => 179 | 302 => 169 | 303 => 170 | 304 => 171 | 305 => 172 | 306 => 173 | 307 => 174 | 308 => 175 | 309 => 176 | 310 => 177 | 333 => 189 | 329 => 190 | 330 => 191 | 334 => 192 | 335 => 193 | 336 => 194 | 344 => 198 | n => n, fun | 31 => 78 | 9 => 9 | 3 => 3 | 46 => 154 | 0 => 0 | 51 => 184 | 53 => 186 | 4 => 4 | 183 => 177 | 182 => 176 | 131 => 181 | 5 => 5 | 218 => 193 | 222 => 197 | 228 => 201 | 229 => 140 | n => n, fun | n => n⟩
theorem Tryz.lSort : Go.Proofs.Lays.n190 Tryz.prog Tryz.lSort_ren := {
  mixed := by kernel_rfl
  f125 := Tryz.func149.trans (congrArg some (by kernel_rfl))
  f128 := Tryz.func178.trans (congrArg some (by kernel_rfl))
  f129 := Tryz.func179.trans (congrArg some (by kernel_rfl))
  f190 := Tryz.func113.trans (congrArg some (by kernel_rfl))
  f258 := Tryz.func148.trans (congrArg some (by kernel_rfl))
  f302 := Tryz.func169.trans (congrArg some (by kernel_rfl))
  f303 := Tryz.func170.trans (congrArg some (by kernel_rfl))
  f304 := Tryz.func171.trans (congrArg some (by kernel_rfl))
  f305 := Tryz.func172.trans (congrArg some (by kernel_rfl))
  f306 := Tryz.func173.trans (congrArg some (by kernel_rfl))
  f307 := Tryz.func174.trans (congrArg some (by kernel_rfl))
  f308 := Tryz.func175.trans (congrArg some (by kernel_rfl))
  f309 := Tryz.func176.trans (congrArg some (by kernel_rfl))
  f310 := Tryz.func177.trans (congrArg some (by kernel_rfl))
  f329 := Tryz.func190.trans (congrArg some (by kernel_rfl))
  f330 := Tryz.func191.trans (congrArg some (by kernel_rfl))
  f333 := Tryz.func189.trans (congrArg some (by kernel_rfl))
  f334 := Tryz.func192.trans (congrArg some (by kernel_rfl))
  f335 := Tryz.func193.trans (congrArg some (by kernel_rfl))
  f336 := Tryz.func194.trans (congrArg some (by kernel_rfl))
  f344 := Tryz.func198.trans (congrArg some (by kernel_rfl))
  t0 := Tryz.underlying0
  a0 := Tryz.isAgg0
  z0 := Tryz.sizeOf0
  v0 := Tryz.zeroValue0
  t3 := Tryz.underlying3
  a3 := Tryz.isAgg3
  z3 := Tryz.sizeOf3
  v3 := Tryz.zeroValue3
  t4 := Tryz.underlying4
  a4 := Tryz.isAgg4
  z4 := Tryz.sizeOf4
  v4 := Tryz.zeroValue4
  t5 := Tryz.underlying5
  a5 := Tryz.isAgg5
  z5 := Tryz.sizeOf5
  v5 := Tryz.zeroValue5
  t9 := Tryz.underlying9
  a9 := Tryz.isAgg9
  z9 := Tryz.sizeOf9
  v9 := Tryz.zeroValue9
  t31 := Tryz.underlying78
  a31 := Tryz.isAgg78
  z31 := Tryz.sizeOf78
  v31 := Tryz.zeroValue78
  t46 := Tryz.underlying154
  a46 := Tryz.isAgg154
  z46 := Tryz.sizeOf154
  v46 := Tryz.zeroValue154
  t51 := Tryz.underlying184
  a51 := Tryz.isAgg184
  z51 := Tryz.sizeOf184
  v51 := Tryz.zeroValue184
  t53 := Tryz.underlying186
  a53 := Tryz.isAgg186
  z53 := Tryz.sizeOf186
  v53 := Tryz.zeroValue186
  t131 := Tryz.underlying181
  a131 := Tryz.isAgg181
  z131 := Tryz.sizeOf181
  v131 := Tryz.zeroValue181
  t182 := Tryz.underlying176
  a182 := Tryz.isAgg176
  z182 := Tryz.sizeOf176
  v182 := Tryz.zeroValue176
  t183 := Tryz.underlying177
  a183 := Tryz.isAgg177
  z183 := Tryz.sizeOf177
  v183 := Tryz.zeroValue177
  t218 := Tryz.underlying193
  a218 := Tryz.isAgg193
  z218 := Tryz.sizeOf193
  v218 := Tryz.zeroValue193
  t222 := Tryz.underlying197
  a222 := Tryz.isAgg197
  z222 := Tryz.sizeOf197
  v222 := Tryz.zeroValue197
  t228 := Tryz.underlying201
  a228 := Tryz.isAgg201
  z228 := Tryz.sizeOf201
  v228 := Tryz.zeroValue201
  t229 := Tryz.underlying140
  a229 := Tryz.isAgg140
  z229 := Tryz.sizeOf140
  v229 := Tryz.zeroValue140 }
def Tryz.lComp_ren : Go.Shelf.Ren := ⟨fun | 194 => 114 | n => n, fun | 31 => 78 | 9 => 9 | 3 => 3 | 4 => 4 | 0 => 0 | n => n, fun | n => n⟩
theorem Tryz.lComp : Go.Proofs.Lays.n194 Tryz.prog Tryz.lComp_ren := {
  mixed := by kernel_rfl
  f194 := Tryz.func114.trans (congrArg some (by kernel_rfl))
  t0 := Tryz.underlying0
  a0 := Tryz.isAgg0
  z0 := Tryz.sizeOf0
  v0 := Tryz.zeroValue0
  t3 := Tryz.underlying3
  a3 := Tryz.isAgg3
  z3 := Tryz.sizeOf3
  v3 := Tryz.zeroValue3
  t4 := Tryz.underlying4
  a4 := Tryz.isAgg4
  z4 := Tryz.sizeOf4
  v4 := Tryz.zeroValue4
  t9 := Tryz.underlying9
  a9 := Tryz.isAgg9
  z9 := Tryz.sizeOf9
  v9 := Tryz.zeroValue9
  t31 := Tryz.underlying78
  a31 := Tryz.isAgg78
  z31 := Tryz.sizeOf78
  v31 := Tryz.zeroValue78 }
def bsOf (l : List UInt8) : ByteArray := ⟨l.toArray⟩
def u8s (x : ByteArray) : List UInt8 := x.data.toList
theorem bs_u8 (x : ByteArray) : bsOf (u8s x) = x := by cases x; simp [bsOf, u8s]
theorem u8_bs (l : List UInt8) : u8s (bsOf l) = l := by simp [bsOf, u8s]
def sortK (xs : List ByteArray) : List ByteArray := ((xs.map u8s).mergeSort (fun x y => decide (x ≤ y))).map bsOf
def compK (xs : List ByteArray) : List ByteArray := (Lib.compact (xs.map u8s)).map bsOf
theorem sortK_u8 (xs : List ByteArray) : (sortK xs).map u8s = (xs.map u8s).mergeSort (fun x y => decide (x ≤ y)) := by
  unfold sortK; rw [List.map_map]; conv => rhs; rw [← List.map_id ((xs.map u8s).mergeSort _)]
  exact List.map_congr_left fun l _ => u8_bs l
theorem compK_u8 (xs : List ByteArray) : (compK xs).map u8s = Lib.compact (xs.map u8s) := by
  unfold compK; rw [List.map_map]; conv => rhs; rw [← List.map_id (Lib.compact (xs.map u8s))]
  exact List.map_congr_left fun l _ => u8_bs l
theorem sortK_len (xs : List ByteArray) : (sortK xs).length = xs.length := by simp [sortK, List.length_mergeSort]
theorem compK_len (xs : List ByteArray) : (compK xs).length ≤ xs.length := by
  have := Lib.compact_length_le (xs.map u8s); simpa [compK] using this
theorem enc_u8 (xs : List ByteArray) : (xs.map u8s).map encStr = xs.map Value.string := by
  rw [List.map_map]; exact List.map_congr_left fun x _ => by simp [encStr, u8s]
theorem own_nil {w : World} {e : Nat} {n : Nat} {vs : List Value} (h : w.ownsRow 0 e 1 (.slice none 0 0) n vs) : n = 0 := by
  rcases h.2 with ⟨_, h⟩ | ⟨_, _, _, h, _⟩
  · exact h
  · cases h
theorem sort_calls (v : Value) (xs : List ByteArray) (w : World) (hrow : w.ownsRow 0 9 1 v xs.length (xs.map Value.string)) (hn : xs.length ≤ 1000000000000000) :
    Calls Tryz.prog 113 #[v] w fun e w' => e = .returned (.tuple #[]) ∧ w'.ownsRow 0 9 1 v xs.length ((sortK xs).map Value.string) ∧ w.grownBy w' v.ownBlock := by
  rw [← enc_u8] at hrow
  by_cases hv : v = .slice none 0 0
  · subst hv
    have h0 : xs = [] := List.eq_nil_of_length_eq_zero (own_nil hrow)
    subst h0
    refine (Any.slices_Sort_string_none Tryz.lSort none 0 w).mono ?_
    rintro e w' ⟨rfl, rfl⟩
    exact ⟨rfl, by simpa [sortK] using hrow, rfl, rfl, rfl, Nat.le_refl _, fun _ _ _ => rfl⟩
  obtain ⟨g, cap, rfl, hbg, hgl, hncap, hcm, hlen, hH⟩ := Lib.holds_of_ownsRow hrow hv
  have hs := Any.slices_Sort_string Tryz.lSort g 0 cap (xs.map u8s) w hH hgl (by simp; omega)
  rw [List.length_map] at hs
  refine hs.mono ?_
  rintro e w' ⟨rfl, n, os, rfl⟩
  rcases hrow.2 with ⟨h0, _⟩ | ⟨g', cap', cur, hv', hbase, hb, h1, h2, h3, h4⟩
  · cases h0
  cases hv'
  refine ⟨rfl, ?_, ?_⟩
  · have := ownsRow_sorted (w := w) (n := n) (os := os) (ss := xs.map u8s) (ts := (xs.map u8s).mergeSort fun x y => decide (x ≤ y)) (List.length_mergeSort _) hbase hb (by simpa using h1) h2 h3
    rw [← sortK_u8, enc_u8, List.length_map] at this
    rw [← sortK_u8]
    exact this
  · obtain ⟨a, b, c, d, f⟩ := grownBy_sorted (w := w) (g := g) (n := n) (os := os) ((xs.map u8s).mergeSort fun x y => decide (x ≤ y)).toArray
    exact ⟨a, b, c, d, fun k hk hne => f k hk (by simpa [Value.ownBlock] using hne)⟩
theorem comp_calls (v : Value) (xs : List ByteArray) (w : World) (hrow : w.ownsRow 0 9 1 v xs.length (xs.map Value.string)) (hn : xs.length ≤ 1000000000000000) :
    Calls Tryz.prog 114 #[v] w fun e w' => ∃ v', e = .returned v' ∧ v'.ownBlock = v.ownBlock ∧ w'.ownsRow 0 9 1 v' (compK xs).length ((compK xs).map Value.string) ∧ w.grownBy w' v.ownBlock := by
  rw [← enc_u8] at hrow
  by_cases hv : v = .slice none 0 0
  · subst hv
    have h0 : xs = [] := List.eq_nil_of_length_eq_zero (own_nil hrow)
    subst h0
    refine (Any.slices_Compact_string_empty Tryz.lComp none 0 w).mono ?_
    rintro e w' ⟨rfl, rfl⟩
    exact ⟨_, rfl, rfl, by simpa [compK, Lib.compact, Lib.compactUpTo] using hrow, rfl, rfl, rfl, Nat.le_refl _, fun _ _ _ => rfl⟩
  obtain ⟨g, cap, rfl, hbg, hgl, hncap, hcm, hlen, hH⟩ := Lib.holds_of_ownsRow hrow hv
  have hs := Any.slices_Compact_string Tryz.lComp g 0 cap (xs.map u8s) w hH (by simp; omega) (by simpa using hncap)
  rw [List.length_map] at hs
  refine hs.mono ?_
  rintro e w' ⟨rfl, q, rfl⟩
  have hle := compK_len xs
  have hle2 : (Lib.compact (xs.map u8s)).length ≤ xs.length := by simpa [compK] using hle
  refine ⟨_, rfl, rfl, ?_, rfl, rfl, rfl, ?_, ?_⟩
  · have := Lib.ownsRow_putRow (q := q) (k := (Lib.compact (xs.map u8s)).length) (ys := Lib.compact (xs.map u8s) ++ List.replicate (xs.length - (Lib.compact (xs.map u8s)).length) []) hrow (by simp; omega) (by omega)
    rw [List.take_left] at this
    rw [← compK_u8, enc_u8] at this
    rw [show (compK xs).length = (Lib.compact (xs.map u8s)).length by simp [compK], ← compK_u8]
    exact this
  · simp [putRow, mapBlock, Sort.ahead]
  · intro k hk hne
    have : g ≠ k := fun e => hne (by simp [Value.ownBlock, e])
    simp [putRow, mapBlock, Sort.ahead, Array.getElem?_modify, this]
/-- Row m is changed where it lies. -/
theorem renew_same {c : Cx} {hp : Hp} (g : Good c hp) {m : Nat} {q : Obj} (hq : hp m = some q) (hrow : q.row = true) {w' : World} {els : List (List CV)} {xs : List Value} (hg : c.w.grownBy w' (c.hd m).ownBlock) (hE : RepE c q.k els xs)
    (hown : w'.ownsRow 0 q.e q.k (c.hd m) els.length xs) :
    Tr c hp (c.at w') (upd hp m (some { q with els := els })) ∧ Good (c.at w') (upd hp m (some { q with els := els })) := by
  have hbm : blk c m q = (c.hd m).ownBlock := by unfold blk; rw [if_pos hrow]
  have hbm' : blk c m { q with els := els } = blk c m q := rfl
  obtain ⟨k1, k2, xs0, hE0, hor⟩ := g.obj m q hq
  have hrho : ∀ b, (c.hd m).ownBlock = some b → b = c.ρ m := by
    rcases hor with ⟨_, _, h⟩ | ⟨h, _⟩
    · exact h
    · rw [hrow] at h; cases h
  obtain ⟨g1, t1⟩ := g.drop (hp1 := upd hp m none) (w' := w') (fun n r hr => by
      by_cases e : n = m
      · subst e; rw [upd_same] at hr; cases hr
      · rw [upd_ne _ _ e] at hr; exact hr) hg.os hg.tape hg.output hg.size (fun b hb hnb => hg.block b hb (fun he => hnb ⟨⟨m, q, hq, by rw [hbm]; exact he.symm⟩, fun ⟨n, r, h1, h2⟩ => by
        by_cases e : n = m
        · subst e; rw [upd_same] at h1; cases h1
        · rw [upd_ne _ _ e] at h1; exact e (g.inj n r m q b h1 hq h2 (by rw [hbm]; exact he.symm))⟩))
  have le : Le c (c.at w') := t1.le g
  have hup : ∀ n r, upd hp m (some { q with els := els }) n = some r → ∃ r0, hp n = some r0 ∧ blk c n r = blk c n r0 ∧ ((n = m ∧ r = { q with els := els }) ∨ (n ≠ m ∧ upd hp m none n = some r)) := by
    intro n r h
    by_cases e : n = m
    · subst e; rw [upd_same] at h; obtain rfl := Option.some.inj h; exact ⟨q, hq, rfl, .inl ⟨rfl, rfl⟩⟩
    · rw [upd_ne _ _ e] at h; exact ⟨r, h, rfl, .inr ⟨e, by rw [upd_ne _ _ e]; exact h⟩⟩
  have hO : ∀ b, Owned c (upd hp m (some { q with els := els })) b → Owned c hp b := by
    rintro b ⟨n, r, h1, h2⟩
    obtain ⟨r0, h3, h4, _⟩ := hup n r h1
    exact ⟨n, r0, h3, by rw [← h4]; exact h2⟩
  refine ⟨⟨t1.os, t1.tape, t1.output, t1.size, t1.keep, t1.names, t1.sup, t1.sub, fun b h => .inl (hO b h)⟩, ⟨fun n r h => ?_, fun n r h => ?_, fun b h => g.own b (hO b h), fun n r n' r' b a1 a2 a3 a4 => ?_, g1.lt⟩⟩
  · obtain ⟨r0, h3, _⟩ := hup n r h; exact g.dom n r0 h3
  · obtain ⟨r0, h3, h4, ⟨rfl, rfl⟩ | ⟨e, h5⟩⟩ := hup n r h
    · exact ⟨k1, k2, xs, hE.mono le, .inl ⟨hrow, hown, hrho⟩⟩
    · exact g1.obj n r h5
  · obtain ⟨r0, h3, h4, _⟩ := hup n r a1
    obtain ⟨r0', h3', h4', _⟩ := hup n' r' a2
    exact g.inj n r0 n' r0' b h3 h3' (by rw [← h4]; exact a3) (by rw [← h4']; exact a4)
theorem repE_strs (c : Cx) (xs : List ByteArray) : RepE c 1 (kRow xs).els (xs.map Value.string) := by
  refine ⟨by simp [kRow, dRow], fun cs h => ?_, fun i j cs x h1 h2 => ?_⟩
  · simp [kRow, dRow] at h; obtain ⟨a, _, rfl⟩ := h; rfl
  · simp [kRow, dRow] at h1
    obtain ⟨a, h3, rfl⟩ := h1
    cases j with
    | succ j => simp [strD] at h2
    | zero =>
      simp [strD] at h2; subst h2
      exact ⟨.string a, by simp [h3], .s rfl⟩
theorem strs_of (c : Cx) (xs : List ByteArray) (vs : List Value) (h : RepE c 1 (kRow xs).els vs) : vs = xs.map Value.string := by
  obtain ⟨h1, _, h3⟩ := h
  refine List.ext_getElem? fun i => ?_
  have hl : vs.length = xs.length := by simpa [kRow, dRow] using h1
  by_cases hi : i < xs.length
  · obtain ⟨u, h4, h5⟩ := h3 i 0 [.d (.s (.string xs[i]))] (.d (.s (.string xs[i]))) (by simp [kRow, dRow, strD, hi]) rfl
    rw [Nat.mul_one, Nat.add_zero] at h4
    rw [h4, repD_s h5]; simp [hi]
  · rw [List.getElem?_eq_none (by omega), List.getElem?_eq_none (by simp; omega)]
theorem own_strs {c : Cx} {hp : Hp} (g : Good c hp) {m : Nat} {xs : List ByteArray} (hq : hp m = some (kRow xs)) : c.w.ownsRow 0 9 1 (c.hd m) xs.length (xs.map Value.string) := by
  obtain ⟨_, _, vs, hE, ⟨_, h, _⟩ | ⟨h, _⟩⟩ := g.obj m _ hq
  · have hh : c.w.ownsRow 0 9 1 (c.hd m) (kRow xs).els.length vs := h
    rw [strs_of c xs vs hE] at hh
    have hl : (kRow xs).els.length = xs.length := by simp [kRow, dRow]
    rw [hl] at hh; exact hh
  · cases h
theorem hp1_upd (o o' : Obj) : upd (hpL [some o]) 0 (some o') = hpL [some o'] := by
  rw [← hp1_L, ← hp1_L]; funext j; cases j <;> simp [hp1, upd]
theorem sort_ac (xs : List ByteArray) (hn : xs.length ≤ 1000000000000000) : AC Tryz.prog 113 [.c (.h 0)] (hpL [some (kRow xs)]) 1 ⟨.tup [], hpL [some (kRow (sortK xs))], 1⟩ := by
  refine ⟨by exact ⟨_, Tryz.func113, rfl, rfl⟩, fun c vs g hU hA => ?_⟩
  obtain ⟨v, rfl, rfl⟩ : ∃ v, vs = [v] ∧ v = c.hd 0 := by
    cases hA with
    | cons h1 h2 => cases h2; exact ⟨_, rfl, h1.2.1⟩
  refine (sort_calls _ xs c.w (own_strs g rfl) hn).mono ?_
  rintro e w' ⟨rfl, hown, hg⟩
  obtain ⟨t, g2⟩ := renew_same g (m := 0) (q := kRow xs) rfl rfl hg (els := (kRow (sortK xs)).els) (repE_strs c _) (by simpa [kRow, dRow, sortK_len] using hown)
  rw [hp1_upd] at t g2
  exact ⟨_, _, rfl, rfl, t, g2, ⟨[], rfl, .nil⟩, hU⟩
theorem comp_ac (xs : List ByteArray) (hn : xs.length ≤ 1000000000000000) : AC Tryz.prog 114 [.c (.h 0)] (hpL [some (kRow xs)]) 1 ⟨.t (.c (.h 1)), hpL [none, some (kRow (compK xs))], 2⟩ := by
  refine ⟨by exact ⟨_, Tryz.func114, rfl, rfl⟩, fun c vs g hU hA => ?_⟩
  obtain ⟨v, rfl, rfl⟩ : ∃ v, vs = [v] ∧ v = c.hd 0 := by
    cases hA with
    | cons h1 h2 => cases h2; exact ⟨_, rfl, h1.2.1⟩
  refine (comp_calls _ xs c.w (own_strs g rfl) hn).mono ?_
  rintro e w' ⟨v', rfl, hb, hown, hg⟩
  obtain ⟨c', hw, t, g2, hr, hU2⟩ := renew (nm := 1) g (fun h => by have := hU 1 h; omega) (m := 0) (q := kRow xs) rfl rfl hg (u := v') (els := (kRow (compK xs)).els) (repE_strs c _) (by simpa [kRow, dRow] using hown) (fun b hb' => .inl (by rw [← hb]; exact hb'))
  have hh : upd (upd (hpL [some (kRow xs)]) 0 none) 1 (some { kRow xs with els := (kRow (compK xs)).els }) = hpL [none, some (kRow (compK xs))] := by
    funext j; rcases j with _ | _ | j <;> simp [upd, hpL, kRow, dRow]
  rw [hh] at t g2
  exact ⟨_, c', rfl, hw, t, g2, hr, fun m hm => (hU2 m hm).elim (fun h => by have := hU m h; show m < 2; omega) (fun h => by subst h; show 1 < 2; omega)⟩
def putL (k : ByteArray) : List ByteArray → Bool → List ByteArray → Option (List ByteArray)
  | [], done, out => some (if done = true then out else out ++ [k])
  | x :: r, done, out => if x = k then none else putL k r (done || !klt x k) ((if (!done && !klt x k) = true then out ++ [k] else out) ++ [x])
def putK (ks : List ByteArray) (k : ByteArray) : List ByteArray := (putL k ks false []).getD ks
@[go_sem] theorem d_ft2 (e k : Nat) (a : List (List D)) (x y : D) : (⟨e, k, true, List.map (fun x => List.map CV.d x) a ++ [[.d x], [.d y]]⟩ : Obj) = dRow e k (a ++ [[x], [y]]) := by simp [dRow]
theorem lenA {α : Type} {out : List α} {i : Nat} {k x : α} (h : out.length ≤ i + (if false = true then 1 else 0)) : (out ++ [k] ++ [x]).length ≤ i + 1 + (if true = true then 1 else 0) := by simp at h ⊢; omega
theorem lenB {α : Type} {out : List α} {i : Nat} {b : Bool} {x : α} (h : out.length ≤ i + (if b = true then 1 else 0)) : (out ++ [x]).length ≤ i + 1 + (if b = true then 1 else 0) := by cases b <;> simp at h ⊢ <;> omega
theorem lenC {α : Type} {out : List α} {i n : Nat} {b : Bool} (h : out.length ≤ i + (if b = true then 1 else 0)) (hi : i ≤ n) (hn : n ≤ 4000000) : (out.length + 1) * 16 ≤ 140737488355328 ∧ (out.length + 1 + 1) * 16 ≤ 140737488355328 := by cases b <;> simp at h <;> omega
structure PuI (ks : List ByteArray) (k : ByteArray) where
  i : Nat
  d : Bool
  out : List ByteArray
  hi : i ≤ ks.length
  hl : out.length ≤ i + (if d = true then 1 else 0)
  h : putL k (ks.drop i) d out = putL k ks false []
theorem l2Put_no (ks : List ByteArray) (k : ByteArray) (hl : ks.length ≤ 4000000) (h0 : putL k ks false [] = none) : AC Tryz.prog 63 [strsT ks, sT k] noHp 0 ⟨.t (strsT ks), noHp, 0⟩ := by
  refine AC_of Tryz.func63 rfl Tryz.ntmps63 Tryz.results63 (by kernel_rfl) rfl ?_
  simp only [List.zipIdx, List.map, Nat.zero_add, Nat.reduceAdd]
  repeat (first | apply Aw_seq | apply Aw_block | apply Aw_skip | apply Aw_exit | refine Aw_condt rfl ?_ | refine Aw_condf rfl ?_ | ((first | refine qr ?_ | refine qd (by kernel_rfl) (by kernel_rfl) ?_); simp only [go_sem, jE, reduceIte, jA, jM, jS, jL, jD, jB]) | refine dk (by kernel_rfl) ?_)
  refine Aw.rw (rwL (l' := [(7, .t (iT (0 : Nat))), (6, .t (bT false)), (5, .t (.c (.h 0))), (1, .t (sT k)), (0, .t (strsT ks))]) (os := [some (kRow [])]) (M := [1]) (n' := 1) (by repeat (first | exact trivial | refine ⟨rfl, rfl, ?_⟩)) (by rfl) (by simp only [go_sem, jE, reduceIte, jA, jM, jS, jL, jD, jB, List.map_nil]; first | done | rfl) (by decide) (by unfold idM; decide)) ?_
  refine Aw_loop_rw (ι := PuI ks k) (fun q => S [(7, .t (iT (q.i : Nat))), (6, .t (bT q.d)), (5, .t (.c (.h 0))), (1, .t (sT k)), (0, .t (strsT ks))] (hpL [some (kRow q.out)]) 1) (fun q => ks.length - q.i) ⟨0, false, [], Nat.zero_le _, by simp, rfl⟩ ?_
  rintro ⟨i, d, out, hi, hlo, h⟩
  dsimp only
  by_cases hlt : i < ks.length
  · have g1 : (i : Int) < (ks.length : Int) := by omega
    have w1 := wrap_succ hlt (by omega)
    obtain ⟨x, hx⟩ : ∃ e, ks[i]? = some e := ⟨_, List.getElem?_eq_getElem hlt⟩
    have hd : ks.drop i = x :: ks.drop (i + 1) := by rw [List.drop_eq_getElem_cons hlt]; congr 1; rw [List.getElem?_eq_getElem hlt] at hx; exact Option.some.inj hx
    obtain ⟨q1, q2⟩ := lenC hlo hi hl
    rw [hd] at h
    cases c1 : decide (x = k)
    · have hne := of_decide_eq_false c1
      simp only [putL, if_neg hne] at h
      cases d
      · cases c2 : klt x k
        · have h' : putL k (ks.drop (i + 1)) true (out ++ [k] ++ [x]) = putL k ks false [] := by rw [← h, c2]; rfl
          repeat (first | apply Aw_seq | apply Aw_block | apply Aw_skip | apply Aw_exit | refine Aw_condt rfl ?_ | refine Aw_condf rfl ?_ | ((first | refine qr ?_ | refine qd (by kernel_rfl) (by kernel_rfl) ?_); simp only [go_sem, jE, reduceIte, jA, jM, jS, jL, jD, jB, g1, w1, hx, c1, c2, q1, q2]) | refine dk (by kernel_rfl) ?_)
          refine ⟨⟨i + 1, true, out ++ [k] ++ [x], hlt, lenA hlo, h'⟩, [33], ?_, rwL (by repeat (first | exact trivial | refine ⟨rfl, rfl, ?_⟩)) (by rfl) (by simp only [go_sem, jE, reduceIte, jA, jM, jS, jL, jD, jB, List.map_append, List.map_cons, List.map_nil, List.append_assoc]; first | done | rfl) (by decide) (by unfold idM; decide)⟩
          show ks.length - (i + 1) < ks.length - i; omega
        · have h' : putL k (ks.drop (i + 1)) false (out ++ [x]) = putL k ks false [] := by rw [← h, c2]; rfl
          repeat (first | apply Aw_seq | apply Aw_block | apply Aw_skip | apply Aw_exit | refine Aw_condt rfl ?_ | refine Aw_condf rfl ?_ | ((first | refine qr ?_ | refine qd (by kernel_rfl) (by kernel_rfl) ?_); simp only [go_sem, jE, reduceIte, jA, jM, jS, jL, jD, jB, g1, w1, hx, c1, c2, q1]) | refine dk (by kernel_rfl) ?_)
          refine ⟨⟨i + 1, false, out ++ [x], hlt, lenB hlo, h'⟩, [27], ?_, rwL (by repeat (first | exact trivial | refine ⟨rfl, rfl, ?_⟩)) (by rfl) (by simp only [go_sem, jE, reduceIte, jA, jM, jS, jL, jD, jB, List.map_append, List.map_cons, List.map_nil]; first | done | rfl) (by decide) (by unfold idM; decide)⟩
          show ks.length - (i + 1) < ks.length - i; omega
      · have h' : putL k (ks.drop (i + 1)) true (out ++ [x]) = putL k ks false [] := by rw [← h]; cases klt x k <;> rfl
        repeat (first | apply Aw_seq | apply Aw_block | apply Aw_skip | apply Aw_exit | refine Aw_condt rfl ?_ | refine Aw_condf rfl ?_ | ((first | refine qr ?_ | refine qd (by kernel_rfl) (by kernel_rfl) ?_); simp only [go_sem, jE, reduceIte, jA, jM, jS, jL, jD, jB, g1, w1, hx, c1, q1]) | refine dk (by kernel_rfl) ?_)
        refine ⟨⟨i + 1, true, out ++ [x], hlt, lenB hlo, h'⟩, [21], ?_, rwL (by repeat (first | exact trivial | refine ⟨rfl, rfl, ?_⟩)) (by rfl) (by simp only [go_sem, jE, reduceIte, jA, jM, jS, jL, jD, jB, List.map_append, List.map_cons, List.map_nil]; first | done | rfl) (by decide) (by unfold idM; decide)⟩
        show ks.length - (i + 1) < ks.length - i; omega
    · repeat (first | apply Aw_seq | apply Aw_block | apply Aw_skip | apply Aw_exit | refine Aw_condt rfl ?_ | refine Aw_condf rfl ?_ | ((first | refine qr ?_ | refine qd (by kernel_rfl) (by kernel_rfl) ?_); simp only [go_sem, jE, reduceIte, jA, jM, jS, jL, jD, jB, g1, hx, c1]) | refine dk (by kernel_rfl) ?_)
      exact Aw_ret (ret0 (.inl rfl) (by simp only [go_sem, jE, reduceIte, jA, jM, jS, jL, jD, jB]; rfl) (by rfl) rfl)
  · have g1 : ¬ (i : Int) < (ks.length : Int) := by omega
    rw [List.drop_eq_nil_of_le (by omega), h0] at h
    simp [putL] at h
theorem l2Put_ok (ks o : List ByteArray) (k : ByteArray) (hl : ks.length ≤ 4000000) (h0 : putL k ks false [] = some o) : AC Tryz.prog 63 [strsT ks, sT k] noHp 0 ⟨.t (.c (.h 0)), hpL [some (kRow o)], 1⟩ := by
  refine AC_of Tryz.func63 rfl Tryz.ntmps63 Tryz.results63 (by kernel_rfl) rfl ?_
  simp only [List.zipIdx, List.map, Nat.zero_add, Nat.reduceAdd]
  repeat (first | apply Aw_seq | apply Aw_block | apply Aw_skip | apply Aw_exit | refine Aw_condt rfl ?_ | refine Aw_condf rfl ?_ | ((first | refine qr ?_ | refine qd (by kernel_rfl) (by kernel_rfl) ?_); simp only [go_sem, jE, reduceIte, jA, jM, jS, jL, jD, jB]) | refine dk (by kernel_rfl) ?_)
  refine Aw.rw (rwL (l' := [(7, .t (iT (0 : Nat))), (6, .t (bT false)), (5, .t (.c (.h 0))), (1, .t (sT k)), (0, .t (strsT ks))]) (os := [some (kRow [])]) (M := [1]) (n' := 1) (by repeat (first | exact trivial | refine ⟨rfl, rfl, ?_⟩)) (by rfl) (by simp only [go_sem, jE, reduceIte, jA, jM, jS, jL, jD, jB, List.map_nil]; first | done | rfl) (by decide) (by unfold idM; decide)) ?_
  refine Aw_loop_rw (ι := PuI ks k) (fun q => S [(7, .t (iT (q.i : Nat))), (6, .t (bT q.d)), (5, .t (.c (.h 0))), (1, .t (sT k)), (0, .t (strsT ks))] (hpL [some (kRow q.out)]) 1) (fun q => ks.length - q.i) ⟨0, false, [], Nat.zero_le _, by simp, rfl⟩ ?_
  rintro ⟨i, d, out, hi, hlo, h⟩
  dsimp only
  by_cases hlt : i < ks.length
  · have g1 : (i : Int) < (ks.length : Int) := by omega
    have w1 := wrap_succ hlt (by omega)
    obtain ⟨x, hx⟩ : ∃ e, ks[i]? = some e := ⟨_, List.getElem?_eq_getElem hlt⟩
    have hd : ks.drop i = x :: ks.drop (i + 1) := by rw [List.drop_eq_getElem_cons hlt]; congr 1; rw [List.getElem?_eq_getElem hlt] at hx; exact Option.some.inj hx
    obtain ⟨q1, q2⟩ := lenC hlo hi hl
    rw [hd] at h
    cases c1 : decide (x = k)
    · have hne := of_decide_eq_false c1
      simp only [putL, if_neg hne] at h
      cases d
      · cases c2 : klt x k
        · have h' : putL k (ks.drop (i + 1)) true (out ++ [k] ++ [x]) = putL k ks false [] := by rw [← h, c2]; rfl
          repeat (first | apply Aw_seq | apply Aw_block | apply Aw_skip | apply Aw_exit | refine Aw_condt rfl ?_ | refine Aw_condf rfl ?_ | ((first | refine qr ?_ | refine qd (by kernel_rfl) (by kernel_rfl) ?_); simp only [go_sem, jE, reduceIte, jA, jM, jS, jL, jD, jB, g1, w1, hx, c1, c2, q1, q2]) | refine dk (by kernel_rfl) ?_)
          refine ⟨⟨i + 1, true, out ++ [k] ++ [x], hlt, lenA hlo, h'⟩, [33], ?_, rwL (by repeat (first | exact trivial | refine ⟨rfl, rfl, ?_⟩)) (by rfl) (by simp only [go_sem, jE, reduceIte, jA, jM, jS, jL, jD, jB, List.map_append, List.map_cons, List.map_nil, List.append_assoc]; first | done | rfl) (by decide) (by unfold idM; decide)⟩
          show ks.length - (i + 1) < ks.length - i; omega
        · have h' : putL k (ks.drop (i + 1)) false (out ++ [x]) = putL k ks false [] := by rw [← h, c2]; rfl
          repeat (first | apply Aw_seq | apply Aw_block | apply Aw_skip | apply Aw_exit | refine Aw_condt rfl ?_ | refine Aw_condf rfl ?_ | ((first | refine qr ?_ | refine qd (by kernel_rfl) (by kernel_rfl) ?_); simp only [go_sem, jE, reduceIte, jA, jM, jS, jL, jD, jB, g1, w1, hx, c1, c2, q1]) | refine dk (by kernel_rfl) ?_)
          refine ⟨⟨i + 1, false, out ++ [x], hlt, lenB hlo, h'⟩, [27], ?_, rwL (by repeat (first | exact trivial | refine ⟨rfl, rfl, ?_⟩)) (by rfl) (by simp only [go_sem, jE, reduceIte, jA, jM, jS, jL, jD, jB, List.map_append, List.map_cons, List.map_nil]; first | done | rfl) (by decide) (by unfold idM; decide)⟩
          show ks.length - (i + 1) < ks.length - i; omega
      · have h' : putL k (ks.drop (i + 1)) true (out ++ [x]) = putL k ks false [] := by rw [← h]; cases klt x k <;> rfl
        repeat (first | apply Aw_seq | apply Aw_block | apply Aw_skip | apply Aw_exit | refine Aw_condt rfl ?_ | refine Aw_condf rfl ?_ | ((first | refine qr ?_ | refine qd (by kernel_rfl) (by kernel_rfl) ?_); simp only [go_sem, jE, reduceIte, jA, jM, jS, jL, jD, jB, g1, w1, hx, c1, q1]) | refine dk (by kernel_rfl) ?_)
        refine ⟨⟨i + 1, true, out ++ [x], hlt, lenB hlo, h'⟩, [21], ?_, rwL (by repeat (first | exact trivial | refine ⟨rfl, rfl, ?_⟩)) (by rfl) (by simp only [go_sem, jE, reduceIte, jA, jM, jS, jL, jD, jB, List.map_append, List.map_cons, List.map_nil]; first | done | rfl) (by decide) (by unfold idM; decide)⟩
        show ks.length - (i + 1) < ks.length - i; omega
    · rw [h0] at h
      simp [putL, of_decide_eq_true c1] at h
  · have g1 : ¬ (i : Int) < (ks.length : Int) := by omega
    obtain ⟨q1, q2⟩ := lenC hlo hi hl
    rw [List.drop_eq_nil_of_le (by omega), h0] at h
    cases d
    · have ho : o = out ++ [k] := by simpa [putL] using h.symm
      subst ho
      repeat (first | apply Aw_seq | apply Aw_block | apply Aw_skip | apply Aw_exit | refine Aw_condt rfl ?_ | refine Aw_condf rfl ?_ | ((first | refine qr ?_ | refine qd (by kernel_rfl) (by kernel_rfl) ?_); simp only [go_sem, jE, reduceIte, jA, jM, jS, jL, jD, jB, g1, q1]) | refine dk (by kernel_rfl) ?_)
      exact Aw_ret (retL (M := [10]) (.inl rfl) (by simp only [go_sem, jE, reduceIte, jA, jM, jS, jL, jD, jB]; first | done | rfl) rfl rfl (by rfl) (by simp only [go_sem, jE, reduceIte, jA, jM, jS, jL, jD, jB, List.map_append, List.map_cons, List.map_nil]; first | done | rfl | (and_intros <;> rfl)) (by decide) (by unfold idM; decide))
    · have ho : o = out := by simpa [putL] using h.symm
      subst ho
      repeat (first | apply Aw_seq | apply Aw_block | apply Aw_skip | apply Aw_exit | refine Aw_condt rfl ?_ | refine Aw_condf rfl ?_ | ((first | refine qr ?_ | refine qd (by kernel_rfl) (by kernel_rfl) ?_); simp only [go_sem, jE, reduceIte, jA, jM, jS, jL, jD, jB, g1]) | refine dk (by kernel_rfl) ?_)
      exact Aw_ret (retL (M := [0]) (.inl rfl) (by simp only [go_sem, jE, reduceIte, jA, jM, jS, jL, jD, jB]; first | done | rfl) rfl rfl (by rfl) (by simp only [go_sem, jE, reduceIte, jA, jM, jS, jL, jD, jB]; first | done | rfl | (and_intros <;> rfl)) (by decide) (by unfold idM; decide))
theorem l2Put_ac (ks : List ByteArray) (k : ByteArray) (hl : ks.length ≤ 4000000) : AC Tryz.prog 63 [strsT ks, sT k] noHp 0 ⟨.t (strsT (putK ks k)), noHp, 0⟩ := by
  unfold putK
  cases h : putL k ks false [] with
  | none => exact l2Put_no ks k hl h
  | some o => exact AC.settle0 [0] (l2Put_ok ks o k hl h) (SetC.row0 rfl rfl) rfl
def Asc (xs : List ByteArray) : Prop := xs.Pairwise fun a b => klt a b = true
theorem asc_uni : ∀ {xs ys : List ByteArray}, Asc xs → Asc ys → (∀ k, k ∈ xs ↔ k ∈ ys) → xs = ys
  | [], [], _, _, _ => rfl
  | [], y :: ys, _, _, h => absurd ((h y).2 (by simp)) (by simp)
  | x :: xs, [], _, _, h => absurd ((h x).1 (by simp)) (by simp)
  | x :: xs, y :: ys, hx, hy, h => by
    obtain ⟨hx1, hx2⟩ := List.pairwise_cons.1 hx
    obtain ⟨hy1, hy2⟩ := List.pairwise_cons.1 hy
    have e : x = y := by
      rcases List.mem_cons.1 ((h x).1 (by simp)) with e | h1
      · exact e
      · rcases List.mem_cons.1 ((h y).2 (by simp)) with e | h2
        · exact e.symm
        · have := klt_trans (hy1 x h1) (hx1 y h2)
          rw [klt_irrefl] at this; cases this
    subst e
    rw [asc_uni hx2 hy2 fun k => ⟨fun hk => ?_, fun hk => ?_⟩]
    · rcases List.mem_cons.1 ((h k).1 (List.mem_cons_of_mem _ hk)) with e | h1
      · subst e; have := hx1 k hk; rw [klt_irrefl] at this; cases this
      · exact h1
    · rcases List.mem_cons.1 ((h k).2 (List.mem_cons_of_mem _ hk)) with e | h1
      · subst e; have := hy1 k hk; rw [klt_irrefl] at this; cases this
      · exact h1
def insK (k : ByteArray) : List ByteArray → List ByteArray
  | [] => [k]
  | x :: r => if klt x k = true then x :: insK k r else k :: x :: r
open Classical in
theorem putL_done (k : ByteArray) : ∀ (xs out : List ByteArray), putL k xs true out = if k ∈ xs then none else some (out ++ xs)
  | [], out => by simp [putL]
  | x :: r, out => by
    simp only [putL]
    by_cases e : x = k
    · simp [e]
    · rw [if_neg e]
      simp only [Bool.not_true, Bool.false_and, Bool.true_or, Bool.false_eq_true, if_false]
      rw [putL_done k r]
      by_cases h : k ∈ r
      · simp [h]
      · simp [h, Ne.symm e]
open Classical in
theorem putL_ins (k : ByteArray) : ∀ (xs out : List ByteArray), putL k xs false out = if k ∈ xs then none else some (out ++ insK k xs)
  | [], out => by simp [putL, insK]
  | x :: r, out => by
    simp only [putL, insK]
    by_cases e : x = k
    · simp [e]
    · rw [if_neg e]
      cases c : klt x k
      · simp only [Bool.not_false, Bool.true_and, Bool.false_or, if_true, Bool.false_eq_true, if_false]
        rw [putL_done]
        by_cases h : k ∈ r
        · simp [h]
        · simp [h, Ne.symm e]
      · simp only [Bool.not_true, Bool.and_false, Bool.false_or, Bool.false_eq_true, if_false, if_true]
        rw [putL_ins k r]
        by_cases h : k ∈ r
        · simp [h]
        · simp [h, Ne.symm e]
theorem insK_mem {k y : ByteArray} : ∀ {xs : List ByteArray}, y ∈ insK k xs ↔ y = k ∨ y ∈ xs
  | [] => by simp [insK]
  | x :: r => by
    simp only [insK]
    split
    · simp only [List.mem_cons, insK_mem]; constructor <;> (rintro (h | h | h) <;> simp [h])
    · simp
theorem insK_asc {k : ByteArray} : ∀ {xs : List ByteArray}, Asc xs → k ∉ xs → Asc (insK k xs)
  | [], _, _ => by simp [insK, Asc]
  | x :: r, h, hk => by
    obtain ⟨h1, h2⟩ := List.pairwise_cons.1 h
    simp only [insK]
    cases c : klt x k
    · have hxk : klt k x = true := klt_total c (fun e => hk (by simp [e]))
      simp only [Bool.false_eq_true, if_false]
      exact List.pairwise_cons.2 ⟨fun y hy => by
        rcases List.mem_cons.1 hy with rfl | hy
        · exact hxk
        · exact klt_trans hxk (h1 y hy), h⟩
    · rw [if_pos rfl]
      refine List.pairwise_cons.2 ⟨fun y hy => ?_, insK_asc h2 fun e => hk (List.mem_cons_of_mem _ e)⟩
      rcases insK_mem.1 hy with rfl | hy
      · exact c
      · exact h1 y hy
open Classical in
theorem putK_eq (ks : List ByteArray) (k : ByteArray) : putK ks k = if k ∈ ks then ks else insK k ks := by
  unfold putK
  rw [putL_ins]
  by_cases h : k ∈ ks <;> simp [h]
open Classical in
theorem putK_in {ks : List ByteArray} {k y : ByteArray} : y ∈ putK ks k ↔ y = k ∨ y ∈ ks := by
  rw [putK_eq]
  split
  · rename_i h
    exact ⟨.inr, fun e => e.elim (fun e => e ▸ h) id⟩
  · exact insK_mem
open Classical in
theorem putK_asc {ks : List ByteArray} {k : ByteArray} (h : Asc ks) : Asc (putK ks k) := by
  rw [putK_eq]
  split
  · exact h
  · exact insK_asc h ‹_›
def allK (xs : List ByteArray) : List ByteArray := xs.foldl putK []
theorem foldK : ∀ (xs ks : List ByteArray), Asc ks → Asc (xs.foldl putK ks) ∧ ∀ y, y ∈ xs.foldl putK ks ↔ y ∈ xs ∨ y ∈ ks
  | [], ks, h => ⟨h, by simp⟩
  | x :: r, ks, h => by
    obtain ⟨h1, h2⟩ := foldK r (putK ks x) (putK_asc h)
    refine ⟨h1, fun y => (h2 y).trans ?_⟩
    rw [putK_in, List.mem_cons]
    constructor
    · rintro (h | h | h) <;> simp [h]
    · rintro ((h | h) | h) <;> simp [h]
theorem allK_asc (xs : List ByteArray) : Asc (allK xs) := (foldK xs [] .nil).1
theorem allK_mem {xs : List ByteArray} {y : ByteArray} : y ∈ allK xs ↔ y ∈ xs := by
  have := (foldK xs [] .nil).2 y
  simpa [allK] using this
-- sorted and compacted
theorem tl_data (x : ByteArray) : x.toList = x.data.toList := by
  have := ByteArray.toList_eq x
  exact this
theorem lt_u8 (x y : ByteArray) : klt x y = true ↔ u8s x < u8s y := by
  rw [klt_iff, tl_data, tl_data]; rfl
theorem lt_l (x y : List UInt8) : x < y ↔ klt (bsOf x) (bsOf y) = true := by rw [lt_u8, u8_bs, u8_bs]
theorem sortU (l : List (List UInt8)) : (l.mergeSort fun x y => decide (x ≤ y)).Pairwise fun a b => ¬ b < a := by
  have h := List.pairwise_mergeSort (le := fun x y : List UInt8 => decide (x ≤ y)) (fun a b c h1 h2 => by
    simp only [decide_eq_true_eq] at *; exact List.le_trans h1 h2) (fun a b => by
    simp only [Bool.or_eq_true, decide_eq_true_eq]; exact List.le_total a b) l
  exact h.imp fun h => by
    simp only [decide_eq_true_eq] at h
    exact List.not_lt.2 h
theorem compU (d : Array (List UInt8)) (hs : d.toList.Pairwise fun a b => ¬ b < a) : ∀ m, m ≤ d.size →
    (Lib.compactUpTo d m).Pairwise (· < ·) ∧ (∀ x, x ∈ Lib.compactUpTo d m ↔ ∃ j, j < m ∧ d[j]! = x)
  | 0, _ => by simp [Lib.compactUpTo]
  | m + 1, h => by
    obtain ⟨h1, h2⟩ := compU d hs m (by omega)
    have hle : ∀ i j, i < j → j < d.size → ¬ d[j]! < d[i]! := fun i j hij hj => by
      have := List.pairwise_iff_getElem.1 hs i j (by simpa using (by omega : i < d.size)) (by simpa using hj) hij
      simpa [getElem!_pos, show i < d.size by omega, hj] using this
    rw [Lib.compactUpTo_succ]
    cases c : Lib.keeps d m
    · have hm : m ≠ 0 ∧ d[m]! = d[m - 1]! := by
        simp only [Lib.keeps, decide_eq_false_iff_not, not_or, Classical.not_not] at c
        exact c
      refine ⟨by simpa using h1, fun x => ?_⟩
      simp only [Bool.false_eq_true, if_false, List.append_nil]
      rw [h2]
      constructor
      · rintro ⟨j, hj, e⟩; exact ⟨j, by omega, e⟩
      · rintro ⟨j, hj, e⟩
        by_cases e2 : j = m
        · subst e2; exact ⟨j - 1, by omega, by rw [← e, hm.2]⟩
        · exact ⟨j, by omega, e⟩
    · have hm : m = 0 ∨ d[m]! ≠ d[m - 1]! := by simpa [Lib.keeps] using c
      simp only [if_true]
      refine ⟨List.pairwise_append.2 ⟨h1, by simp, fun x hx y hy => ?_⟩, fun x => ?_⟩
      · obtain rfl : y = d[m]! := by simpa using hy
        obtain ⟨j, hj, rfl⟩ := (h2 x).1 hx
        rcases hm with hm | hm
        · omega
        · have a1 : ¬ d[m - 1]! < d[j]! := by
            by_cases e : j = m - 1
            · subst e; exact List.lt_irrefl _
            · exact hle j (m - 1) (by omega) (by omega)
          have a2 := hle (m - 1) m (by omega) (by omega)
          have a3 : d[m - 1]! < d[m]! := by
            rcases Std.lt_trichotomy d[m - 1]! d[m]! with x | x | x
            · exact x
            · exact absurd x.symm hm
            · exact absurd x a2
          rcases Std.lt_trichotomy d[j]! d[m - 1]! with x | x | x
          · exact List.lt_trans x a3
          · rw [x]; exact a3
          · exact absurd x a1
      · rw [List.mem_append, h2]
        constructor
        · rintro (⟨j, hj, e⟩ | h3)
          · exact ⟨j, by omega, e⟩
          · exact ⟨m, by omega, by simpa using (by simpa using h3 : x = d[m]!).symm⟩
        · rintro ⟨j, hj, e⟩
          by_cases e2 : j = m
          · subst e2; exact .inr (by simp [e])
          · exact .inl ⟨j, by omega, e⟩
theorem comp_sort (xs : List ByteArray) : compK (sortK xs) = allK xs := by
  have hs : (sortK xs).map u8s = (xs.map u8s).mergeSort fun x y => decide (x ≤ y) := sortK_u8 xs
  obtain ⟨h1, h2⟩ := compU ((sortK xs).map u8s).toArray (by rw [hs]; exact sortU _) ((sortK xs).map u8s).length (by simp)
  refine asc_uni (ys := allK xs) ?_ (allK_asc xs) fun k => ?_
  · unfold compK Asc Lib.compact
    rw [List.pairwise_map]
    exact h1.imp fun h => (lt_l _ _).1 h
  · rw [allK_mem]
    unfold compK Lib.compact
    rw [List.mem_map]
    constructor
    · rintro ⟨a, ha, rfl⟩
      obtain ⟨j, hj, e⟩ := (h2 a).1 ha
      have : a ∈ (sortK xs).map u8s := by
        rw [← e]
        have : ((sortK xs).map u8s).toArray[j]! = ((sortK xs).map u8s)[j] := by rw [getElem!_pos _ j (by simpa using hj)]; rfl
        rw [this]; exact List.getElem_mem hj
      rw [hs, List.mem_mergeSort, List.mem_map] at this
      obtain ⟨y, hy, rfl⟩ := this
      rw [bs_u8]; exact hy
    · intro hk
      have : u8s k ∈ (sortK xs).map u8s := by rw [hs, List.mem_mergeSort]; exact List.mem_map_of_mem hk
      obtain ⟨j, hj, e⟩ := List.getElem_of_mem this
      exact ⟨u8s k, (h2 _).2 ⟨j, hj, by rw [getElem!_pos _ j (by simpa using hj)]; exact e⟩, bs_u8 k⟩
theorem tfil {α : Type} {p : α → Bool} {xs : List α} {i : Nat} {x : α} (h : xs[i]? = some x) : (xs.take (i + 1)).filter p = (xs.take i).filter p ++ (if p x = true then [x] else []) := by
  rw [List.take_add_one, h, List.filter_append]
  cases c : p x <;> simp [c]
theorem tfil_le {α : Type} (p : α → Bool) (xs : List α) (i : Nat) : ((xs.take i).filter p).length ≤ i := Nat.le_trans (List.length_filter_le _ _) (by rw [List.length_take]; omega)
theorem keysSort_ac (ks : List ByteArray) (hs : SmS ks) (hl : ks.length ≤ 4000000) : AC Tryz.prog 70 [strsT ks] noHp 0 ⟨.t (.c (.h 0)), hpL [some (kRow (allK (ks.filter keyOk)))], 1⟩ := by
  refine AC_of Tryz.func70 rfl Tryz.ntmps70 Tryz.results70 (by kernel_rfl) rfl ?_
  simp only [List.zipIdx, List.map, Nat.zero_add, Nat.reduceAdd]
  repeat (first | apply Aw_seq | apply Aw_block | apply Aw_skip | apply Aw_exit | refine Aw_condt rfl ?_ | refine Aw_condf rfl ?_ | ((first | refine qr ?_ | refine qd (by kernel_rfl) (by kernel_rfl) ?_); simp only [go_sem, jE, reduceIte, jA, jM, jS, jL, jD, jB]) | refine dk (by kernel_rfl) ?_)
  refine Aw.own (t := 3) (e := 9) (j := 1) rfl (by decide) (by simp only [Nat.reduceAdd]; rfl) ?_
  refine Aw.rw (rw1 (m := _) (l' := [(8, .t (iT (0 : Nat))), (7, .t (iT ks.length)), (6, .t (strsT ks)), (0, .t (strsT ks)), (3, .t (.c (.h 0)))]) (by repeat (first | exact trivial | refine ⟨rfl, rfl, ?_⟩)) (show _ = some (dRow 9 1 (((ks.take 0).filter keyOk).map strD)) from rfl)) ?_
  refine Aw_loop1 (ι := { i : Nat // i ≤ ks.length ∧ (True) }) (fun q => [(8, .t (iT (q.1 : Nat))), (7, .t (iT ks.length)), (6, .t (strsT ks)), (0, .t (strsT ks)), (3, .t (.c (.h 0)))]) (fun q => dRow 9 1 (((ks.take q.1).filter keyOk).map strD)) (fun q => ks.length - q.1) ⟨0, Nat.zero_le _, trivial⟩ ?_
  rintro ⟨i, hi, hp⟩
  dsimp only
  by_cases hlt : i < ks.length
  · have h1 : (i : Int) < (ks.length : Int) := by omega
    have h2 := wrap_succ hlt hs.len
    have hb : (((ks.take i).filter keyOk).length + 1) * 16 ≤ 140737488355328 := by have := tfil_le keyOk ks i; omega
    obtain ⟨e, hx⟩ : ∃ e, ks[i]? = some e := ⟨_, List.getElem?_eq_getElem hlt⟩
    have he := hs.key e (List.mem_of_getElem? hx)
    have hc := tfil (p := keyOk) hx
    cases c : keyOk e
    · rw [c, if_neg (by simp), List.append_nil] at hc
      repeat (first | apply Aw_seq | apply Aw_block | apply Aw_skip | apply Aw_exit | refine Aw_condt rfl ?_ | refine Aw_condf rfl ?_ | ((first | refine qr ?_ | refine qd (by kernel_rfl) (by kernel_rfl) ?_); simp only [go_sem, jE, reduceIte, jA, jM, jS, jL, jD, jB, h1, h2, hx, c]) | refine dk (by kernel_rfl) ?_ | (refine qp (keyOk_ac _ he) (by simp only [go_sem, jE, reduceIte, jA, jM, jS, jL, jD, jB, h1, h2, hx, c]; first | done | rfl) rfl (by simp only [go_sem, Nat.reduceLT]) rfl rfl ?_; simp only [go_sem, jE, reduceIte, jA, jM, jS, jL, jD, jB, h1, h2, hx, c]))
      refine ⟨⟨i + 1, by omega, trivial⟩, [_], (by simp only []; omega), rw1 (by repeat (first | exact trivial | refine ⟨rfl, rfl, ?_⟩)) (by simp only [go_sem, jE, reduceIte, jA, jM, jS, jL, jD, jB]; rw [hc])⟩
    · rw [c, if_pos rfl] at hc
      repeat (first | apply Aw_seq | apply Aw_block | apply Aw_skip | apply Aw_exit | refine Aw_condt rfl ?_ | refine Aw_condf rfl ?_ | ((first | refine qr ?_ | refine qd (by kernel_rfl) (by kernel_rfl) ?_); simp only [go_sem, jE, reduceIte, jA, jM, jS, jL, jD, jB, h1, h2, hx, c, hb]) | refine dk (by kernel_rfl) ?_ | (refine qp (keyOk_ac _ he) (by simp only [go_sem, jE, reduceIte, jA, jM, jS, jL, jD, jB, h1, h2, hx, c, hb]; first | done | rfl) rfl (by simp only [go_sem, Nat.reduceLT]) rfl rfl ?_; simp only [go_sem, jE, reduceIte, jA, jM, jS, jL, jD, jB, h1, h2, hx, c, hb]))
      refine ⟨⟨i + 1, by omega, trivial⟩, [_], (by simp only []; omega), rw1 (by repeat (first | exact trivial | refine ⟨rfl, rfl, ?_⟩)) (by simp only [go_sem, jE, reduceIte, jA, jM, jS, jL, jD, jB]; rw [hc]; simp only [go_sem])⟩
  · have h1 : ¬ (i : Int) < (ks.length : Int) := by omega
    have he : i = ks.length := by omega
    subst he
    rw [List.take_length]
    have hf := List.length_filter_le keyOk ks
    have k1 := sort_ac (ks.filter keyOk) (by omega)
    have k2 := comp_ac (sortK (ks.filter keyOk)) (by rw [sortK_len]; omega)
    rw [comp_sort] at k2
    have hf2 := compK_len (sortK (ks.filter keyOk))
    rw [comp_sort, sortK_len] at hf2
    have hb : (allK (ks.filter keyOk)).length * 16 ≤ 140737488355328 := by omega

    repeat (first | apply Aw_seq | apply Aw_block | apply Aw_skip | apply Aw_exit | refine Aw_condt rfl ?_ | refine Aw_condf rfl ?_ | ((first | refine qr ?_ | refine qd (by kernel_rfl) (by kernel_rfl) ?_); simp only [go_sem, jE, reduceIte, jA, jM, jS, jL, jD, jB, h1, hb]) | refine dk (by kernel_rfl) ?_ | (refine qx (call_L (N' := [0]) (L := []) (k1) rfl (.cons (.nm rfl) (.nil)) (by decide) (by decide) (by decide) (by simp only [go_sem, jE, reduceIte, jA, jM, jS, jL, jD, jB, h1, hb]; first | done | rfl) (.inl rfl) rfl (by decide)) (by simp only [go_sem, jE, reduceIte, jA, jM, jS, jL, jD, jB, h1, hb]; first | done | rfl) rfl (by simp only [go_sem, Nat.reduceLT]) ?_; simp only [go_sem, jE, reduceIte, jA, jM, jS, jL, jD, jB, h1, hb]) | (refine qx (call_L (N' := [0]) (L := []) (k2) rfl (.cons (.nm rfl) (.nil)) (by decide) (by decide) (by decide) (by simp only [go_sem, jE, reduceIte, jA, jM, jS, jL, jD, jB, h1, hb]; first | done | rfl) (.inl rfl) rfl (by decide)) (by simp only [go_sem, jE, reduceIte, jA, jM, jS, jL, jD, jB, h1, hb]; first | done | rfl) rfl (by simp only [go_sem, Nat.reduceLT]) ?_; simp only [go_sem, jE, reduceIte, jA, jM, jS, jL, jD, jB, h1, hb]))


    exact Aw_ret (retL (M := [5]) (.inl rfl) (by simp only [go_sem, jE, reduceIte, jA, jM, jS, jL, jD, jB]; first | done | rfl) rfl rfl (by rfl) (by simp only [go_sem, jE, reduceIte, jA, jM, jS, jL, jD, jB]; first | done | rfl | (and_intros <;> rfl)) (by decide) (by unfold idM; decide))
def rngB (f t k : ByteArray) : Bool := !klt k f && !klt t k
theorem allK_len (xs : List ByteArray) : (allK xs).length ≤ xs.length := by
  rw [← comp_sort]; exact Nat.le_trans (compK_len _) (by rw [sortK_len]; exact Nat.le_refl _)
theorem keysM_allY {r : List Ent} (hb : r.Pairwise fun a b => before a b = true) : ∀ n, n ≤ r.length → Asc (colI n (keyAt r)) ∧ ∀ y, y ∈ colI n (keyAt r) ↔ ∃ (j : Nat) (e : Ent), j < n ∧ r[j]? = some e ∧ e.key = y
  | 0, _ => ⟨List.Pairwise.nil, by simp [colI_0]⟩
  | n + 1, h => by
    obtain ⟨h1, h2⟩ := keysM_allY hb n (by omega)
    obtain ⟨e, hx⟩ : ∃ e, r[n]? = some e := ⟨_, List.getElem?_eq_getElem (by omega)⟩
    have bf : ∀ (i : Nat) (a : Ent) (j : Nat) (b : Ent), i < j → r[i]? = some a → r[j]? = some b → klt a.key b.key = true ∨ a.key = b.key := fun i a j b hij ha hb' => by
      obtain ⟨i1, i2⟩ := List.getElem?_eq_some_iff.1 ha
      obtain ⟨j1, j2⟩ := List.getElem?_eq_some_iff.1 hb'
      have := List.pairwise_iff_getElem.1 hb i j i1 j1 hij
      rw [i2, j2] at this
      unfold before at this
      simp only [Bool.or_eq_true, Bool.and_eq_true, decide_eq_true_eq] at this
      exact this.imp id And.left
    rw [colI_succ]
    have memo : ∀ k : List ByteArray, (∀ y, y ∈ k → y = e.key) → (e.key ∈ k ∨ ∃ (j : Nat) (a : Ent), j < n ∧ r[j]? = some a ∧ a.key = e.key) → ∀ y, y ∈ colI n (keyAt r) ++ k ↔ ∃ (j : Nat) (a : Ent), j < n + 1 ∧ r[j]? = some a ∧ a.key = y := by
      intro k hk hk2 y
      rw [List.mem_append, h2]
      constructor
      · rintro (⟨j, a, hj, ha, e1⟩ | h)
        · exact ⟨j, a, by omega, ha, e1⟩
        · exact ⟨n, e, by omega, hx, (hk y h).symm⟩
      · rintro ⟨j, a, hj, ha, e1⟩
        by_cases e2 : j = n
        · subst e2
          rw [hx] at ha
          obtain rfl := Option.some.inj ha
          subst e1
          rcases hk2 with h | ⟨j, a, hj, ha, e1⟩
          · exact .inr h
          · exact .inl ⟨j, a, hj, ha, e1⟩
        · exact .inl ⟨j, a, by omega, ha, e1⟩
    rcases n with _ | m
    · have hk : keyAt r 0 = [e.key] := by simp [keyAt, hx]
      rw [hk]
      exact ⟨by simp [colI_0, Asc], memo _ (by simp) (.inl (by simp))⟩
    · obtain ⟨p, hy⟩ : ∃ e, r[m]? = some e := ⟨_, List.getElem?_eq_getElem (by omega)⟩
      by_cases c : p.key = e.key
      · have hk : keyAt r (m + 1) = [] := by simp [keyAt, hx, hy, c]
        rw [hk]
        exact ⟨by simpa using h1, memo _ (by simp) (.inr ⟨m, p, by omega, hy, c⟩)⟩
      · have hk : keyAt r (m + 1) = [e.key] := by simp [keyAt, hx, hy, c]
        rw [hk]
        refine ⟨List.pairwise_append.2 ⟨h1, by simp, fun x hxx y hyy => ?_⟩, memo _ (by simp) (.inl (by simp))⟩
        obtain rfl := List.mem_singleton.1 hyy
        obtain ⟨j, a, hj, ha, rfl⟩ := (h2 x).1 hxx
        have hpe : klt p.key e.key = true := (bf m p (m + 1) e (by omega) hy hx).resolve_right c
        by_cases e2 : j = m
        · subst e2; rw [hy] at ha; obtain rfl := Option.some.inj ha; exact hpe
        · rcases bf j a m p (by omega) ha hy with h | h
          · exact klt_trans h hpe
          · rw [h]; exact hpe
theorem keysM_asc {r : List Ent} (h : runOk r = true) : Asc (keysM r) := (keysM_allY (run_pw h).1 r.length (Nat.le_refl _)).1
theorem allK_self {ks : List ByteArray} (h : Asc ks) : allK ks = ks := asc_uni (allK_asc _) h fun _ => allK_mem
theorem keysM_ok {r : List Ent} (h : runOk r = true) : ∀ k ∈ keysM r, keyOk k = true := fun k hk => by
  obtain ⟨e, he, rfl⟩ := keysM_sub k hk
  have := (run_pw h).2.1 e he
  unfold entOk at this
  simp only [Bool.and_eq_true] at this
  exact this.1.1.1
theorem keysM_few {r : List Ent} (h : runOk r = true) : (keysM r).length ≤ 40 := by
  have h1 : (keysM r).length ≤ r.length := colI_len (keyAt_len r)
  have h2 := (run_pw h).2.2
  omega
/-- What a level gives to a range. -/
def lsAt (s : Sto) (f t : ByteArray) (r : List Ent) : List ByteArray := if meetsM s.keep.toNat (keysM r) f t = true then keysM r else []
def lsT (s : Sto) (f t : ByteArray) (i : Nat) : List ByteArray := keysM s.top ++ (s.levels.take i).flatMap (lsAt s f t)
theorem lsT_0 (s : Sto) (f t : ByteArray) : lsT s f t 0 = keysM s.top := by unfold lsT; simp
theorem lsT_succ {s : Sto} {f t : ByteArray} {i : Nat} {r : List Ent} (h : s.levels[i]? = some r) : lsT s f t (i + 1) = lsT s f t i ++ lsAt s f t r := by
  unfold lsT
  rw [List.take_add_one, h, List.flatMap_append, List.append_assoc]; simp
theorem lsT_few {s : Sto} (hv : storeS s = true) (f t : ByteArray) : ∀ i, i ≤ 3 → (lsT s f t i).length ≤ 40 + 40 * i ∧ (lsT s f t i).all keyOk = true
  | 0, _ => by
    rw [lsT_0]
    have h := (storeS_runs hv).1
    exact ⟨by have := keysM_few h; omega, List.all_eq_true.2 (keysM_ok h)⟩
  | i + 1, hi => by
    obtain ⟨h1, h2⟩ := lsT_few hv f t i (by omega)
    have hll := (vst_of hv).ll
    have hx := List.getElem?_eq_getElem (show i < s.levels.length by omega)
    have h := (storeS_runs hv).2 _ (List.getElem_mem (show i < s.levels.length by omega))
    rw [lsT_succ hx]
    have a1 := keysM_few h
    unfold lsAt
    split
    · rw [List.length_append, List.all_append, h2, Bool.true_and]
      exact ⟨by omega, List.all_eq_true.2 (keysM_ok h)⟩
    · rw [List.append_nil]; exact ⟨by omega, h2⟩
def lsZ (s : Sto) (f t : ByteArray) : List ByteArray := allK (lsT s f t 3)
theorem lsZ_ok {s : Sto} (hv : storeS s = true) (f t : ByteArray) : (lsT s f t 3).filter keyOk = lsT s f t 3 := List.filter_eq_self.2 fun k hk => List.all_eq_true.1 (lsT_few hv f t 3 (Nat.le_refl _)).2 k hk
theorem lsZ_len {s : Sto} (hv : storeS s = true) (f t : ByteArray) : (lsZ s f t).length ≤ 160 := Nat.le_trans (allK_len _) (lsT_few hv f t 3 (Nat.le_refl _)).1
theorem lsZ_key {s : Sto} (hv : storeS s = true) {f t k : ByteArray} (hk : k ∈ lsZ s f t) : keyOk k = true := List.all_eq_true.1 (lsT_few hv f t 3 (Nat.le_refl _)).2 k (allK_mem.1 hk)
/-- Keys put in place, one by one. -/
def lsS (s : Sto) (f t : ByteArray) (i : Nat) : List ByteArray := allK (lsT s f t i)
theorem lsS_0 {s : Sto} (hv : storeS s = true) (f t : ByteArray) : lsS s f t 0 = keysM s.top := by unfold lsS; rw [lsT_0, allK_self (keysM_asc (storeS_runs hv).1)]
def lsI (s : Sto) (f t : ByteArray) (i : Nat) (m : List ByteArray) (n : Nat) : List ByteArray := (m.take n).foldl putK (lsS s f t i)
theorem lsI_0 (s : Sto) (f t : ByteArray) (i : Nat) (m : List ByteArray) : lsI s f t i m 0 = lsS s f t i := rfl
theorem lsI_succ {s : Sto} {f t : ByteArray} {i n : Nat} {m : List ByteArray} {k : ByteArray} (h : m[n]? = some k) : lsI s f t i m (n + 1) = putK (lsI s f t i m n) k := by
  unfold lsI
  rw [List.take_add_one, h, List.foldl_append]; rfl
theorem lsI_end {s : Sto} {f t : ByteArray} {i : Nat} {r : List Ent} (h : s.levels[i]? = some r) (hm : meetsM s.keep.toNat (keysM r) f t = true) : lsI s f t i (keysM r) (keysM r).length = lsS s f t (i + 1) := by
  unfold lsI lsS
  rw [List.take_length, lsT_succ h]
  unfold lsAt allK
  rw [if_pos hm, List.foldl_append]
theorem lsS_no {s : Sto} {f t : ByteArray} {i : Nat} {r : List Ent} (h : s.levels[i]? = some r) (hm : meetsM s.keep.toNat (keysM r) f t = false) : lsS s f t (i + 1) = lsS s f t i := by
  unfold lsS
  rw [lsT_succ h]
  unfold lsAt
  rw [hm, if_neg (by simp), List.append_nil]
theorem lsI_len {s : Sto} (hv : storeS s = true) (f t : ByteArray) {i : Nat} (hi : i ≤ 3) (m : List ByteArray) (hm : m.length ≤ 40) (n : Nat) : (lsI s f t i m n).length ≤ 200 := by
  have e : lsI s f t i m n = allK (lsT s f t i ++ m.take n) := by unfold lsI lsS allK; rw [List.foldl_append]
  rw [e]
  have h1 := allK_len (lsT s f t i ++ m.take n)
  have h2 := (lsT_few hv f t i hi).1
  rw [List.length_append, List.length_take] at h1
  omega
/-- What is there of a key. -/
def lsL (s : Sto) (f t : ByteArray) (tm : Int) (k : ByteArray) : List Ent := match findM s k tm with
  | some e => if e.gone = true then [] else if rngB f t k = true then [e] else []
  | none => []
def lsTo (s : Sto) (f t : ByteArray) (tm : Int) (ks : List ByteArray) (i : Nat) : List Ent := (ks.take i).flatMap (lsL s f t tm)
theorem lsTo_0 (s : Sto) (f t : ByteArray) (tm : Int) (ks : List ByteArray) : lsTo s f t tm ks 0 = [] := rfl
theorem lsTo_succ {s : Sto} {f t : ByteArray} {tm : Int} {ks : List ByteArray} {i : Nat} {k : ByteArray} (h : ks[i]? = some k) : lsTo s f t tm ks (i + 1) = lsTo s f t tm ks i ++ lsL s f t tm k := by
  unfold lsTo
  rw [List.take_add_one, h, List.flatMap_append]; simp
theorem lsL_len (s : Sto) (f t : ByteArray) (tm : Int) (k : ByteArray) : (lsL s f t tm k).length ≤ 1 := by
  unfold lsL; split
  · split
    · simp
    · split <;> simp
  · simp
theorem lsTo_len (s : Sto) (f t : ByteArray) (tm : Int) (ks : List ByteArray) : ∀ i, (lsTo s f t tm ks i).length ≤ i
  | 0 => by simp [lsTo_0]
  | i + 1 => by
    have := lsTo_len s f t tm ks i
    by_cases h : i < ks.length
    · rw [lsTo_succ (List.getElem?_eq_getElem h), List.length_append]
      have := lsL_len s f t tm ks[i]; omega
    · unfold lsTo at this ⊢
      rw [List.take_of_length_le (by omega)] at this ⊢; omega
def ChkW (l : List (Nat × AV)) : List (Nat × AV) → Prop
  | [] => True
  | (t, v) :: r => look l t = v ∧ ChkW l r
theorem hpL_get {os : List (Option Obj)} {m : Nat} {o : Obj} : hpL os m = some o ↔ os[m]? = some (some o) := by
  unfold hpL
  cases os[m]? with
  | none => simp
  | some x => simp
theorem CV.ren_idn {π : Nat → Nat} {n : Nat} (h : ∀ m, m < n → π m = m) {x : CV} (hb : x.bd n = true) : x.ren π = x := by
  cases x with
  | d x => rfl
  | h m => simp [CV.bd] at hb; simp [CV.ren, h m hb]
  | ph m i j => simp [CV.bd] at hb; simp [CV.ren, h m hb]
  | pr cs => rfl
  | fn f cap =>
    simp only [CV.bd, List.all_eq_true] at hb
    simp only [CV.ren, CV.fn.injEq, true_and]
    refine (List.map_congr_left fun p hp => ?_).trans (List.map_id _)
    exact PV.ren_id h (hb p hp)
  | dead => rfl
theorem TV.ren_idn {π : Nat → Nat} {n : Nat} (h : ∀ m, m < n → π m = m) {x : TV} (hb : x.bd n = true) : x.ren π = x := by
  cases x with
  | c x => simp only [TV.ren]; rw [CV.ren_idn h hb]
  | agg cs =>
    simp only [TV.bd, List.all_eq_true] at hb
    simp only [TV.ren, TV.agg.injEq]
    exact (List.map_congr_left fun p hp => CV.ren_idn h (hb p hp)).trans (List.map_id _)
theorem AV.ren_idn {π : Nat → Nat} {n : Nat} (h : ∀ m, m < n → π m = m) {x : AV} (hb : x.bd n = true) : x.ren π = x := by
  cases x with
  | t x => simp only [AV.ren]; rw [TV.ren_idn h hb]
  | tup xs =>
    simp only [AV.bd, List.all_eq_true] at hb
    simp only [AV.ren, AV.tup.injEq]
    exact (List.map_congr_left fun p hp => TV.ren_idn h (hb p hp)).trans (List.map_id _)
  | dead => rfl
theorem Obj.ren_idn {π : Nat → Nat} {n : Nat} (h : ∀ m, m < n → π m = m) {o : Obj} (hb : o.bd n = true) : o.ren π = o := by
  obtain ⟨e, k, row, els⟩ := o
  simp only [Obj.bd, List.all_eq_true] at hb
  simp only [Obj.ren, Obj.mk.injEq, true_and]
  refine (List.map_congr_left fun cs hcs => ?_).trans (List.map_id _)
  exact (List.map_congr_left fun p hp => CV.ren_idn h (hb cs hcs p hp)).trans (List.map_id _)
theorem pin_range {n m : Nat} (h : m < n) : pin (List.range n) m = m := by simp [pin, List.getD, h]
theorem bdP_mono {a b : Nat} (h : a ≤ b) {x : PV} (hx : x.bd a = true) : x.bd b = true := by
  cases x with
  | d x => rfl
  | ph m i j => simp [PV.bd] at hx ⊢; omega
theorem bdC_mono {a b : Nat} (h : a ≤ b) {x : CV} (hx : x.bd a = true) : x.bd b = true := by
  cases x with
  | d x => rfl
  | h m => simp [CV.bd] at hx ⊢; omega
  | ph m i j => simp [CV.bd] at hx ⊢; omega
  | pr cs => rfl
  | fn f cap =>
    simp only [CV.bd, List.all_eq_true] at hx ⊢
    exact fun p hp => bdP_mono h (hx p hp)
  | dead => rfl
theorem bdT_mono {a b : Nat} (h : a ≤ b) {x : TV} (hx : x.bd a = true) : x.bd b = true := by
  cases x with
  | c x => exact bdC_mono h hx
  | agg cs =>
    simp only [TV.bd, List.all_eq_true] at hx ⊢
    exact fun p hp => bdC_mono h (hx p hp)
theorem bdA_mono {a b : Nat} (h : a ≤ b) {x : AV} (hx : x.bd a = true) : x.bd b = true := by
  cases x with
  | t x => exact bdT_mono h hx
  | tup xs =>
    simp only [AV.bd, List.all_eq_true] at hx ⊢
    exact fun p hp => bdT_mono h (hx p hp)
  | dead => rfl
theorem chkI {M : List Nat} {l l' : List (Nat × AV)} {n : Nat} (hM : ∀ m, m < n → pin M m = m) (hn : n ≤ M.length) (h : ChkW l l') (hb : ∀ p ∈ l', p.2.bd n = true) : ChkM M l l' := by
  induction l' with
  | nil => trivial
  | cons p r ih =>
    obtain ⟨i, v⟩ := p
    obtain ⟨h1, h2⟩ := h
    have hv : v.bd n = true := hb (i, v) (by simp)
    refine ⟨by rw [h1, AV.ren_idn hM hv], ?_, ih h2 fun p hp => hb p (List.mem_cons_of_mem _ hp)⟩
    exact bdA_mono hn hv
/-- A state under the names that it has. -/
theorem rwI {k : Nat} {l l' : List (Nat × AV)} {hp hp' : Hp} {n m' n' : Nat} (h : ChkW l l') (hb : ∀ p ∈ l', p.2.bd m' = true) (hh : ∀ m o, hp' m = some o → hp m = some o ∧ m < m' ∧ o.bd m' = true) (hn : m' ≤ n') (hk : k ≤ m') : Rw k (List.range m') (S l hp n) (S l' hp' n') := by
  have hi : ∀ m, m < m' → pin (List.range m') m = m := fun m hm => pin_range hm
  refine rwM (chkI hi (by simp) h hb) ⟨fun m m2 o o' h1 h2 q => ?_, fun m o hm => ?_⟩ (by simpa using hn) (fun m hm => ⟨by simp; omega, hi m (by omega)⟩)
  · rw [hi m (hh m o h1).2.1, hi m2 (hh m2 o' h2).2.1] at q; exact q
  · obtain ⟨a, b, c⟩ := hh m o hm
    exact ⟨by simpa using b, by rw [hi m b, Obj.ren_idn hi c]; exact a, by simpa using c⟩
theorem pinM_le {i N m : Nat} (h : m ≤ i) : pin (List.range (i + 1) ++ [N]) m = m := by
  simp [pin, List.getD, List.getElem?_append_left, show m < i + 1 by omega]
theorem pinM_top {i N : Nat} : pin (List.range (i + 1) ++ [N]) (i + 1) = N := by
  simp [pin, List.getD, List.getElem?_append_right]
/-- One new name, told as the next. -/
theorem rwOne {l l' : List (Nat × AV)} {hp hp' : Hp} {n n' i N : Nat} (hN : i < N) (h : ChkW l l') (hb : ∀ p ∈ l', p.2.bd (i + 1) = true) (hh : ∀ m o, hp' m = some o → (m ≤ i ∧ hp m = some (o.ren (pin (List.range (i + 1) ++ [N]))) ∨ m = i + 1 ∧ hp N = some (o.ren (pin (List.range (i + 1) ++ [N])))) ∧ o.bd (i + 2) = true) (hn : i + 2 ≤ n') : Rw 0 (List.range (i + 1) ++ [N]) (S l hp n) (S l' hp' n') := by
  have hl : (List.range (i + 1) ++ [N]).length = i + 2 := by simp
  have hi : ∀ m, m < i + 1 → pin (List.range (i + 1) ++ [N]) m = m := fun m hm => pinM_le (by omega)
  refine rwM (chkI hi (by rw [hl]; omega) h hb) ⟨fun m m2 o o' h1 h2 q => ?_, fun m o hm => ?_⟩ (by rw [hl]; exact hn) (fun m hm => by omega)
  · rcases (hh m o h1).1 with ⟨a, _⟩ | ⟨a, _⟩ <;> rcases (hh m2 o' h2).1 with ⟨b, _⟩ | ⟨b, _⟩
    · rw [hi m (by omega), hi m2 (by omega)] at q; exact q
    · rw [hi m (by omega), b, pinM_top] at q; omega
    · rw [a, hi m2 (by omega), pinM_top] at q; omega
    · omega
  · obtain ⟨a | a, c⟩ := hh m o hm
    · exact ⟨by rw [hl]; omega, by rw [hi m (by omega)]; exact a.2, by rw [hl]; exact c⟩
    · obtain ⟨rfl, a⟩ := a
      exact ⟨by rw [hl]; omega, by rw [pinM_top]; exact a, by rw [hl]; exact c⟩
/-- The end of a function under the names that it has. -/
theorem retI {P : Program} {k : Nat} {l : List (Nat × AV)} {hp hp' : Hp} {n n' : Nat} {rs : List ResultVar} {e : Exit} {x : AV} (he : e = .ret ∨ e = .normal) (h : resA P rs (look l) hp = some x) (hb : x.bd n' = true) (hh : ∀ m o, hp' m = some o → hp m = some o ∧ m < n' ∧ o.bd n' = true) (hk : k ≤ n') :
    RetQ P rs k ⟨x, hp', n'⟩ e (S l hp n) := by
  have hi : ∀ m, m < n' → pin (List.range n') m = m := fun m hm => pin_range hm
  refine ⟨he.symm, List.range n', ⟨?_, by simpa using hb, ⟨fun m m' o o' h1 h2 q => ?_, fun m o hm => ?_⟩, by simp, fun m hm => ⟨by simp; omega, hi m (by omega)⟩⟩⟩
  · rw [h, AV.ren_idn hi hb]
  · rw [hi m (hh m o h1).2.1, hi m' (hh m' o' h2).2.1] at q; exact q
  · obtain ⟨a, b, c⟩ := hh m o hm
    exact ⟨by simpa using b, by rw [hi m b, Obj.ren_idn hi c]; exact a, by simpa using c⟩
theorem hpL_set {os : List (Option Obj)} {i : Nat} {o : Option Obj} (h : i < os.length) : upd (hpL os) i o = hpL (os.set i o) := by
  funext m
  by_cases e : m = i
  · subst e; rw [upd_same]; unfold hpL; rw [List.getElem?_set_self h]; rfl
  · rw [upd_ne _ _ e]; unfold hpL; rw [List.getElem?_set_ne (Ne.symm e)]
/-- A row of rows: the first i of them there. -/
def pEls (i n : Nat) : List (List CV) := (List.range i).map (fun j => [.h (j + 1)]) ++ List.replicate (n - i) [.d (.s (.slice none 0 0))]
def pRow (i n : Nat) : Obj := ⟨29, 1, true, pEls i n⟩
@[go_sem] theorem r_pRow (i n : Nat) : pRow i n = ⟨29, 1, true, pEls i n⟩ := rfl
theorem pE_0 (n : Nat) : List.replicate n [CV.d (.s (.slice none 0 0))] = pEls 0 n := by simp [pEls]
theorem pE_len {i n : Nat} (h : i ≤ n) : (pEls i n).length = n := by simp [pEls]; omega
theorem pE_get {i n : Nat} (h : i < n) : (pEls i n)[i]? = some [.d (.s (.slice none 0 0))] := by
  unfold pEls
  rw [List.getElem?_append_right (by simp), List.getElem?_replicate]
  simp; omega
theorem pE_set {i n : Nat} (h : i < n) : (pEls i n).set i [.h (i + 1)] = pEls (i + 1) n := by
  unfold pEls
  rw [List.set_append_right _ _ (by simp), show n - i = (n - (i + 1)) + 1 by omega, List.replicate_succ]
  simp [List.range_succ]
theorem pE_all {i n : Nat} {k : Nat} (h : i < k) (hi : i ≤ n) : (pEls i n).all (·.all (CV.bd k)) = true := by
  simp only [pEls, List.all_append, List.all_map, List.all_replicate, Bool.and_eq_true]
  refine ⟨List.all_eq_true.2 fun j hj => ?_, by split <;> simp [CV.bd]⟩
  have := List.mem_range.1 hj
  simp [CV.bd]; omega
theorem bd_eRow (r : List Ent) (k : Nat) : (eRow r).bd k = true := dRow_bd _ _ _ _
theorem bd_kRow (r : List ByteArray) (k : Nat) : (kRow r).bd k = true := dRow_bd _ _ _ _
theorem ren_eRow (r : List Ent) (π : Nat → Nat) : (eRow r).ren π = eRow r := dRow_ren _ _ _ _
def lvOs (i : Nat) (r : List (List Ent)) : List (Option Obj) := some (pRow i r.length) :: (r.take i).map fun x => some (eRow x)
theorem lvOs_len {i : Nat} {r : List (List Ent)} (h : i ≤ r.length) : (lvOs i r).length = i + 1 := by simp [lvOs]; omega
theorem pE_r0 (n : Nat) (π : Nat → Nat) : (pEls 0 n).map (fun x => x.map (CV.ren π)) = pEls 0 n := by simp [pEls, CV.ren]
theorem pE_a0 (n : Nat) : ((pEls 0 n).all fun x => x.all (CV.bd 1)) = true := by simp [pEls, CV.bd]
theorem pE_ren {i n N : Nat} (h : i < n) (hN : i < N) : (pRow (i + 1) n).ren (pin (List.range (i + 1) ++ [N])) = ⟨29, 1, true, (pEls i n).set i [.h N]⟩ := by
  simp only [Obj.ren, pRow, Obj.mk.injEq, true_and]
  rw [← pE_set h, List.map_set]
  congr 1
  · refine (List.map_congr_left fun cs hcs => ?_).trans (List.map_id _)
    have := List.all_eq_true.1 (pE_all (k := i + 1) (Nat.lt_succ_self i) (Nat.le_of_lt h)) cs hcs
    exact (List.map_congr_left fun p hp => CV.ren_idn (fun m hm => pinM_le (by omega)) (List.all_eq_true.1 this p hp)).trans (List.map_id _)
  · simp [CV.ren, pinM_top]
theorem lvOs_rw {i N : Nat} {r : List (List Ent)} {x : List Ent} (h : i < r.length) (hx : r[i]? = some x) (hN : i < N) : ∀ m o, hpL (lvOs (i + 1) r) m = some o → (m ≤ i ∧ upd (upd (hpL (lvOs i r)) N (some (dRow 56 4 (x.map entD)))) 0 (some ⟨29, 1, true, (pEls i r.length).set i [.h N]⟩) m = some (o.ren (pin (List.range (i + 1) ++ [N]))) ∨ m = i + 1 ∧ upd (upd (hpL (lvOs i r)) N (some (dRow 56 4 (x.map entD)))) 0 (some ⟨29, 1, true, (pEls i r.length).set i [.h N]⟩) N = some (o.ren (pin (List.range (i + 1) ++ [N])))) ∧ o.bd (i + 2) = true := by
  intro m o hm
  rw [hpL_get] at hm
  rcases m with _ | m
  · simp only [lvOs, List.getElem?_cons_zero, Option.some.injEq] at hm
    subst hm
    exact ⟨.inl ⟨Nat.zero_le _, by rw [upd_same, pE_ren h hN]⟩, pE_all (by omega) (by omega)⟩
  · simp only [lvOs, List.getElem?_cons_succ, List.getElem?_map] at hm
    obtain ⟨y, hy, ho⟩ := Option.map_eq_some_iff.1 hm
    obtain rfl := Option.some.inj ho
    refine ⟨?_, bd_eRow _ _⟩
    rw [ren_eRow]
    rw [List.getElem?_take] at hy
    split at hy
    · rename_i hlt
      by_cases e : m = i
      · subst e
        rw [hx] at hy; obtain rfl := Option.some.inj hy
        exact .inr ⟨rfl, by rw [upd_ne _ _ (by omega), upd_same]; rfl⟩
      · refine .inl ⟨by omega, ?_⟩
        rw [upd_ne _ _ (by omega), upd_ne _ _ (by omega), hpL_get]
        simp [lvOs, List.getElem?_take, hy]
        omega
    · cases hy
theorem toEntrySSO_ac (r : List (List Ent)) (hl : r.length ≤ 1048576) (he : ∀ e ∈ r, e.length ≤ 1048576) : AC Tryz.prog 32 [lvsT r] noHp 0 ⟨.t (.c (.h 0)), hpL (lvOs r.length r), r.length + 1⟩ := by
  refine AC_of Tryz.func32 rfl Tryz.ntmps32 Tryz.results32 (by kernel_rfl) rfl ?_
  simp only [List.zipIdx, List.map, Nat.zero_add, Nat.reduceAdd]
  have t0 : ((r.length : Nat) : Int).toNat = r.length := rfl
  have t1 : (0 : Int) ≤ ((r.length : Nat) : Int) := by omega
  have t2 : ((r.length : Nat) : Int) ≤ 140737488355328 := by omega
  have t3 : decide (r.length * 24 ≤ 140737488355328) = true := decide_eq_true (by omega)
  have t4 := of_decide_eq_true t3
  have t5 := pE_0 r.length
  repeat (first | apply Aw_seq | apply Aw_block | apply Aw_skip | apply Aw_exit | refine Aw_condt rfl ?_ | refine Aw_condf rfl ?_ | ((first | refine qr ?_ | refine qd (by kernel_rfl) (by kernel_rfl) ?_); simp only [go_sem, jE, reduceIte, jA, jM, jS, jL, jD, jB, t0, t1, t2, t4]) | refine dk (by kernel_rfl) ?_)
  refine Aw.rw (rwL (l' := [(4, .t (iT (0 : Nat))), (3, .t (.c (.h 0))), (0, .t (lvsT r))]) (os := [some (pRow 0 r.length)]) (M := [3]) (n' := 1) (by repeat (first | exact trivial | refine ⟨rfl, rfl, ?_⟩)) (by rfl) (by simp only [go_sem, jE, reduceIte, jA, jM, jS, jL, jD, jB, t5, pE_r0, pE_a0]; first | done | rfl) (by decide) (by unfold idM; decide)) ?_
  refine Aw_loop_rw (ι := { j : Nat // j ≤ r.length }) (fun j => S [(4, .t (iT (j.1 : Nat))), (3, .t (.c (.h 0))), (0, .t (lvsT r))] (hpL (lvOs j.1 r)) (j.1 + 1)) (fun j => r.length - j.1) ⟨0, Nat.zero_le _⟩ ?_
  rintro ⟨i, hi⟩
  dsimp only
  by_cases hlt : i < r.length
  · have h1 : (i : Int) < (r.length : Int) := by omega
    have h2 := wrap_succ hlt (by omega)
    obtain ⟨e, hx⟩ : ∃ e, r[i]? = some e := ⟨_, List.getElem?_eq_getElem hlt⟩
    have kk := toEntrySR_ac e (he e (List.mem_of_getElem? hx))
    have g0 : hpL (lvOs i r) 0 = some (pRow i r.length) := rfl
    have g1 := pE_len hi
    have g2 := pE_get hlt
    have g3 := pE_set hlt
    have g4 : (0 = i + 1) = False := eq_false (by omega)
    repeat (first | apply Aw_seq | apply Aw_block | apply Aw_skip | apply Aw_exit | refine Aw_condt rfl ?_ | refine Aw_condf rfl ?_ | ((first | refine qr ?_ | refine qd (by kernel_rfl) (by kernel_rfl) ?_); simp only [go_sem, jE, reduceIte, jA, jM, jS, jL, jD, jB, h1, h2, hx, hlt, g0, g1, g2, g4, t0]) | refine dk (by kernel_rfl) ?_ | (refine qx (call_N (L := []) (kk) rfl (.cons (.nm rfl) (.nil)) (.inl rfl) rfl) (by simp only [go_sem, jE, reduceIte, jA, jM, jS, jL, jD, jB, h1, h2, hx, hlt, g0, g1, g2, g4, t0]; first | done | rfl) rfl (by simp only [go_sem, Nat.reduceLT]) ?_; simp only [go_sem, jE, reduceIte, jA, jM, jS, jL, jD, jB, h1, h2, hx, hlt, g0, g1, g2, g4, t0]))
    refine ⟨⟨i + 1, hlt⟩, _, ?_, rwOne (i := i) (N := i + 1 + 1 + 1 + 1 + 1 + 1 + 1 + 1 + 1 + 1 + 1) (by omega) (by repeat (first | exact trivial | refine ⟨rfl, ?_⟩)) (by simp [AV.bd, TV.bd, CV.bd]) (lvOs_rw hlt hx (by omega)) (Nat.le_refl _)⟩
    show r.length - (i + 1) < r.length - i; omega
  · have h1 : ¬ (i : Int) < (r.length : Int) := by omega
    obtain rfl : i = r.length := by omega
    repeat (first | apply Aw_seq | apply Aw_block | apply Aw_skip | apply Aw_exit | refine Aw_condt rfl ?_ | refine Aw_condf rfl ?_ | ((first | refine qr ?_ | refine qd (by kernel_rfl) (by kernel_rfl) ?_); simp only [go_sem, jE, reduceIte, jA, jM, jS, jL, jD, jB, h1]) | refine dk (by kernel_rfl) ?_)
    refine Aw_ret (retI (.inl rfl) rfl (by simp [AV.bd, TV.bd, CV.bd]) (fun m o hm => ⟨hm, ?_⟩) (Nat.zero_le _))
    have hg := hpL_get.1 hm
    refine ⟨by have := (List.getElem?_eq_some_iff.1 hg).1; rwa [lvOs_len (Nat.le_refl _)] at this, ?_⟩
    rcases m with _ | m
    · simp only [lvOs, List.getElem?_cons_zero, Option.some.injEq] at hg
      subst hg
      exact pE_all (by omega) (Nat.le_refl _)
    · simp only [lvOs, List.getElem?_cons_succ, List.getElem?_map] at hg
      obtain ⟨x, _, hx⟩ := Option.map_eq_some_iff.1 hg
      rw [← Option.some.inj hx]; exact bd_eRow _ _
def digB (x : Nat) : ByteArray := ByteArray.empty.push (UInt8.ofNat (IntKind.u8.wrap (IntKind.i64.wrap (48 + Int.tmod (x : Int) 10))).toNat)
theorem digB_size (x : Nat) : (digB x).size = 1 := rfl
def markG (x : Nat) (s : ByteArray) : ByteArray := if h : 0 < x then markG (x / 10) (digB x ++ s) else s
termination_by x
decreasing_by omega
def mTxt : ByteArray := bs [109]
def m0Txt : ByteArray := bs [109, 48]
def markT (x : Nat) : ByteArray := if x = 0 then m0Txt else mTxt ++ markG x ByteArray.empty
theorem ten0 : ((10 : Int) = 0) = False := eq_false (by decide)
theorem three0 : ((3 : Int) = 0) = False := eq_false (by decide)
theorem markText_ac (k : Nat) (hk : k ≤ 1099511627776) : AC Tryz.prog 73 [iT k] noHp 0 ⟨.t (sT (markT k)), noHp, 0⟩ := by
  refine AC_of Tryz.func73 rfl Tryz.ntmps73 Tryz.results73 (by kernel_rfl) rfl ?_
  simp only [List.zipIdx, List.map, Nat.zero_add, Nat.reduceAdd]
  by_cases h0 : k = 0
  · subst h0
    have h1 : ((0 : Nat) : Int) ≤ 0 := by omega
    repeat (first | apply Aw_seq | apply Aw_block | apply Aw_skip | apply Aw_exit | refine Aw_condt rfl ?_ | refine Aw_condf rfl ?_ | ((first | refine qr ?_ | refine qd (by kernel_rfl) (by kernel_rfl) ?_); simp only [go_sem, jE, reduceIte, jA, jM, jS, jL, jD, jB, h1]) | refine dk (by kernel_rfl) ?_)
    exact Aw_ret (ret0 (.inl rfl) (by simp only [go_sem, jE, reduceIte, jA, jM, jS, jL, jD, jB]; rfl) (by rfl) rfl)
  have h1 : ¬ ((k : Int) ≤ 0) := by omega
  repeat (first | apply Aw_seq | apply Aw_block | apply Aw_skip | apply Aw_exit | refine Aw_condt rfl ?_ | refine Aw_condf rfl ?_ | ((first | refine qr ?_ | refine qd (by kernel_rfl) (by kernel_rfl) ?_); simp only [go_sem, jE, reduceIte, jA, jM, jS, jL, jD, jB, h1]) | refine dk (by kernel_rfl) ?_)
  refine Aw.rw (rwL (l' := [(3, .t (sT ByteArray.empty)), (0, .t (iT (k : Nat)))]) (os := []) (M := []) (n' := 0) (by repeat (first | exact trivial | refine ⟨rfl, rfl, ?_⟩)) (by rfl) (by simp only [go_sem, jE, reduceIte, jA, jM, jS, jL, jD, jB]; first | done | rfl) (by decide) (by unfold idM; decide)) ?_
  refine Aw_loop_rw (ι := { p : Nat × ByteArray // p.1 ≤ 1099511627776 ∧ p.2.size + p.1 ≤ 1099511627776 ∧ mTxt ++ markG p.1 p.2 = markT k }) (fun p => S [(3, .t (sT p.1.2)), (0, .t (iT (p.1.1 : Nat)))] (hpL []) 0) (fun p => p.1.1) ⟨(k, ByteArray.empty), hk, by simpa using hk, by unfold markT; rw [if_neg h0]⟩ ?_
  rintro ⟨⟨x, s⟩, hx, hs, he⟩
  dsimp only at hx hs he ⊢
  by_cases hp : 0 < x
  · have g1 : decide ((0 : Int) < (x : Int)) = true := decide_eq_true (by omega)
    have g2 : zs.push (UInt8.ofNat (IntKind.u8.wrap (IntKind.i64.wrap (48 + (x : Int).tmod 10))).toNat) = digB x := rfl
    have g3 : IntKind.i64.wrap ((x : Int).tdiv 10) = ((x / 10 : Nat) : Int) := by
      rw [show (x : Int).tdiv 10 = ((x / 10 : Nat) : Int) from rfl]; exact wrap_nat (by omega)
    have g4 : ((digB x).size + s.size ≤ 9223372036854775807) = True := eq_true (by rw [digB_size]; omega)
    have he2 : mTxt ++ markG (x / 10) (digB x ++ s) = markT k := by
      rw [← he]
      conv => rhs; rw [markG]
      rw [dif_pos hp]
    have hs2 : (digB x ++ s).size = 1 + s.size := by rw [ByteArray.size_append, digB_size]
    repeat (first | apply Aw_seq | apply Aw_block | apply Aw_skip | apply Aw_exit | refine Aw_condt rfl ?_ | refine Aw_condf rfl ?_ | ((first | refine qr ?_ | refine qd (by kernel_rfl) (by kernel_rfl) ?_); simp only [go_sem, jE, reduceIte, jA, jM, jS, jL, jD, jB, g1, g2, g3, g4, ten0]) | refine dk (by kernel_rfl) ?_)
    refine ⟨⟨(x / 10, digB x ++ s), by dsimp only; omega, by dsimp only; omega, he2⟩, [], ?_, rwL (by repeat (first | exact trivial | refine ⟨rfl, rfl, ?_⟩)) (by rfl) (by simp only [go_sem, jE, reduceIte, jA, jM, jS, jL, jD, jB]; first | done | rfl) (by decide) (by unfold idM; decide)⟩
    show x / 10 < x; omega
  · have g1 : decide ((0 : Int) < (x : Int)) = false := decide_eq_false (by omega)
    have g3 : markG x s = s := by rw [markG, dif_neg hp]
    rw [g3] at he
    have g4 : (1 + s.size ≤ 9223372036854775807) = True := eq_true (by omega)
    rw [← he]
    unfold mTxt
    repeat (first | apply Aw_seq | apply Aw_block | apply Aw_skip | apply Aw_exit | refine Aw_condt rfl ?_ | refine Aw_condf rfl ?_ | ((first | refine qr ?_ | refine qd (by kernel_rfl) (by kernel_rfl) ?_); simp only [go_sem, jE, reduceIte, jA, jM, jS, jL, jD, jB, g1, g4]) | refine dk (by kernel_rfl) ?_)
    exact Aw_ret (ret0 (.inl rfl) (by simp only [go_sem, jE, reduceIte, jA, jM, jS, jL, jD, jB]; rfl) (by rfl) rfl)
/-- What has been marked, i elements of it. -/
def mkD {α : Type} (f : α → List D) (m : Nat → α) (xs : List α) (i : Nat) : List (List D) := (List.range i).map (fun j => f (m j)) ++ (xs.drop i).map f
theorem mkD_0 {α : Type} (f : α → List D) (m : Nat → α) (xs : List α) : mkD f m xs 0 = xs.map f := by simp [mkD]
theorem mkD_end {α : Type} (f : α → List D) (m : Nat → α) (xs : List α) : mkD f m xs xs.length = ((List.range xs.length).map m).map f := by simp [mkD]
theorem mkD_ln {α : Type} (f : α → List D) (m : Nat → α) (xs : List α) {i : Nat} (h : i ≤ xs.length) : (mkD f m xs i).length = xs.length := by simp [mkD]; omega
theorem mkD_get {α : Type} (f : α → List D) (m : Nat → α) {xs : List α} {i : Nat} {x : α} (h : xs[i]? = some x) : ((mkD f m xs i).map (·.map CV.d))[i]? = some ((f x).map .d) := by
  unfold mkD
  rw [List.getElem?_map, List.getElem?_append_right (by simp), List.getElem?_map]
  simp [List.getElem?_drop, h]
theorem mkD_set {α : Type} (f : α → List D) (m : Nat → α) {xs : List α} {i : Nat} (h : i < xs.length) : ((mkD f m xs i).map (·.map CV.d)).set i ((f (m i)).map .d) = (mkD f m xs (i + 1)).map (·.map .d) := by
  unfold mkD
  rw [List.drop_eq_getElem_cons h, List.range_succ]
  simp only [List.map_append, List.map_cons, List.map_nil, List.append_assoc]
  rw [List.set_append_right _ _ (by simp)]
  simp
theorem set_get {α : Type} {L : List α} {i : Nat} (h : i < L.length) (c : α) : (L.set i c)[i]? = some c := by rw [List.getElem?_set_self h]
def mStrs (k n : Nat) : List ByteArray := (List.range n).map fun j => markT (k + j)
theorem markStringS_ac (r : List ByteArray) (k : Nat) (hk : k + r.length ≤ 1099511627776) : AC Tryz.prog 84 [.c (.h 0), iT k] (hpL [some (dRow 9 1 (r.map strD))]) 1 ⟨.t (iT ((k + r.length : Nat) : Int)), hpL [some (dRow 9 1 ((mStrs k r.length).map strD))], 1⟩ := by
  refine AC_of Tryz.func84 rfl Tryz.ntmps84 Tryz.results84 (by kernel_rfl) rfl ?_
  simp only [List.zipIdx, List.map, Nat.zero_add, Nat.reduceAdd]
  repeat (first | apply Aw_seq | apply Aw_block | apply Aw_skip | apply Aw_exit | refine Aw_condt rfl ?_ | refine Aw_condf rfl ?_ | ((first | refine qr ?_ | refine qd (by kernel_rfl) (by kernel_rfl) ?_); simp only [go_sem, jE, reduceIte, jA, jM, jS, jL, jD, jB]) | refine dk (by kernel_rfl) ?_)
  refine Aw.rw (rwL (l' := [(5, .t (iT (0 : Nat))), (1, .t (iT ((k + 0 : Nat) : Int))), (0, .t (.c (.h 0)))]) (os := [some (dRow 9 1 (mkD strD (fun j => markT (k + j)) r 0))]) (M := [0]) (n' := 1) (by repeat (first | exact trivial | refine ⟨rfl, rfl, ?_⟩)) (by rfl) (by simp only [go_sem, jE, reduceIte, jA, jM, jS, jL, jD, jB, mkD_0]; first | done | rfl) (by decide) (by unfold idM; decide)) ?_
  refine Aw_loop_rw (ι := { j : Nat // j ≤ r.length }) (fun j => S [(5, .t (iT (j.1 : Nat))), (1, .t (iT ((k + j.1 : Nat) : Int))), (0, .t (.c (.h 0)))] (hpL [some (dRow 9 1 (mkD strD (fun j => markT (k + j)) r j.1))]) 1) (fun j => r.length - j.1) ⟨0, Nat.zero_le _⟩ ?_
  rintro ⟨i, hi⟩
  dsimp only
  have g0 := mkD_ln strD (fun j => markT (k + j)) r hi
  by_cases hlt : i < r.length
  · have h1 : (i : Int) < (r.length : Int) := by omega
    have h2 := wrap_succ hlt (by omega)
    have h3 : IntKind.i64.wrap (((k + i : Nat) : Int) + 1) = ((k + (i + 1) : Nat) : Int) := wrap_succ (m := k + i + 1) (by omega) (by omega)
    obtain ⟨e, hx⟩ : ∃ e, r[i]? = some e := ⟨_, List.getElem?_eq_getElem hlt⟩
    have g2 := mkD_get strD (fun j => markT (k + j)) hx
    have g3 := mkD_set strD (fun j => markT (k + j)) hlt
    simp only [strD, List.map] at g2
    rw [show (((strD (markT (k + i))).map CV.d)) = [.d (.s (.string (markT (k + i))))] from rfl] at g3
    have km := markText_ac (k + i) (by omega)
    repeat (first | apply Aw_seq | apply Aw_block | apply Aw_skip | apply Aw_exit | refine Aw_condt rfl ?_ | refine Aw_condf rfl ?_ | ((first | refine qr ?_ | refine qd (by kernel_rfl) (by kernel_rfl) ?_); simp only [go_sem, jE, reduceIte, jA, jM, jS, jL, jD, jB, h1, h2, h3, hlt, g0, g2]) | refine dk (by kernel_rfl) ?_ | (refine qp (km) (by simp only [go_sem, jE, reduceIte, jA, jM, jS, jL, jD, jB, h1, h2, h3, hlt, g0, g2]; first | done | rfl) rfl (by simp only [go_sem, Nat.reduceLT]) rfl rfl ?_; simp only [go_sem, jE, reduceIte, jA, jM, jS, jL, jD, jB, h1, h2, h3, hlt, g0, g2]))
    refine ⟨⟨i + 1, hlt⟩, [0], ?_, rwL (by repeat (first | exact trivial | refine ⟨rfl, rfl, ?_⟩)) (by rfl) (by simp only [go_sem, jE, reduceIte, jA, jM, jS, jL, jD, jB, g3]; first | done | rfl) (by decide) (by unfold idM; decide)⟩
    show r.length - (i + 1) < r.length - i; omega
  · have h1 : ¬ (i : Int) < (r.length : Int) := by omega
    obtain rfl : i = r.length := by omega
    repeat (first | apply Aw_seq | apply Aw_block | apply Aw_skip | apply Aw_exit | refine Aw_condt rfl ?_ | refine Aw_condf rfl ?_ | ((first | refine qr ?_ | refine qd (by kernel_rfl) (by kernel_rfl) ?_); simp only [go_sem, jE, reduceIte, jA, jM, jS, jL, jD, jB, h1, g0]) | refine dk (by kernel_rfl) ?_)
    exact Aw_ret (retL (M := [0]) (.inl rfl) (by simp only [go_sem, jE, reduceIte, jA, jM, jS, jL, jD, jB]; first | done | rfl) rfl rfl (by rfl) (by simp only [go_sem, jE, reduceIte, jA, jM, jS, jL, jD, jB, mkD_end, mStrs]; first | done | rfl | (and_intros <;> rfl)) (by decide) (by unfold idM; decide))
def mInts (k n : Nat) : List Int := (List.range n).map fun j => (((k + j) : Nat) : Int)
theorem markIntS_ac (r : List Int) (k : Nat) (hk : k + r.length ≤ 1099511627776) : AC Tryz.prog 43 [.c (.h 0), iT k] (hpL [some (dRow 3 1 (r.map intD))]) 1 ⟨.t (iT ((k + r.length : Nat) : Int)), hpL [some (dRow 3 1 ((mInts k r.length).map intD))], 1⟩ := by
  refine AC_of Tryz.func43 rfl Tryz.ntmps43 Tryz.results43 (by kernel_rfl) rfl ?_
  simp only [List.zipIdx, List.map, Nat.zero_add, Nat.reduceAdd]
  repeat (first | apply Aw_seq | apply Aw_block | apply Aw_skip | apply Aw_exit | refine Aw_condt rfl ?_ | refine Aw_condf rfl ?_ | ((first | refine qr ?_ | refine qd (by kernel_rfl) (by kernel_rfl) ?_); simp only [go_sem, jE, reduceIte, jA, jM, jS, jL, jD, jB]) | refine dk (by kernel_rfl) ?_)
  refine Aw.rw (rwL (l' := [(5, .t (iT (0 : Nat))), (1, .t (iT ((k + 0 : Nat) : Int))), (0, .t (.c (.h 0)))]) (os := [some (dRow 3 1 (mkD intD (fun j => (((k + j) : Nat) : Int)) r 0))]) (M := [0]) (n' := 1) (by repeat (first | exact trivial | refine ⟨rfl, rfl, ?_⟩)) (by rfl) (by simp only [go_sem, jE, reduceIte, jA, jM, jS, jL, jD, jB, mkD_0]; first | done | rfl) (by decide) (by unfold idM; decide)) ?_
  refine Aw_loop_rw (ι := { j : Nat // j ≤ r.length }) (fun j => S [(5, .t (iT (j.1 : Nat))), (1, .t (iT ((k + j.1 : Nat) : Int))), (0, .t (.c (.h 0)))] (hpL [some (dRow 3 1 (mkD intD (fun j => (((k + j) : Nat) : Int)) r j.1))]) 1) (fun j => r.length - j.1) ⟨0, Nat.zero_le _⟩ ?_
  rintro ⟨i, hi⟩
  dsimp only
  have g0 := mkD_ln intD (fun j => (((k + j) : Nat) : Int)) r hi
  by_cases hlt : i < r.length
  · have h1 : (i : Int) < (r.length : Int) := by omega
    have h2 := wrap_succ hlt (by omega)
    have h3 : IntKind.i64.wrap (((k + i : Nat) : Int) + 1) = ((k + (i + 1) : Nat) : Int) := wrap_succ (m := k + i + 1) (by omega) (by omega)
    obtain ⟨e, hx⟩ : ∃ e, r[i]? = some e := ⟨_, List.getElem?_eq_getElem hlt⟩
    have g2 := mkD_get intD (fun j => (((k + j) : Nat) : Int)) hx
    have g3 := mkD_set intD (fun j => (((k + j) : Nat) : Int)) hlt
    simp only [intD, List.map] at g2
    rw [show (((intD ((((k + i) : Nat) : Int))).map CV.d)) = [.d (.s (.int .i64 ((k + i : Nat) : Int)))] from rfl] at g3
    repeat (first | apply Aw_seq | apply Aw_block | apply Aw_skip | apply Aw_exit | refine Aw_condt rfl ?_ | refine Aw_condf rfl ?_ | ((first | refine qr ?_ | refine qd (by kernel_rfl) (by kernel_rfl) ?_); simp only [go_sem, jE, reduceIte, jA, jM, jS, jL, jD, jB, h1, h2, h3, hlt, g0, g2]) | refine dk (by kernel_rfl) ?_)
    refine ⟨⟨i + 1, hlt⟩, [0], ?_, rwL (by repeat (first | exact trivial | refine ⟨rfl, rfl, ?_⟩)) (by rfl) (by simp only [go_sem, jE, reduceIte, jA, jM, jS, jL, jD, jB, g3]; first | done | rfl) (by decide) (by unfold idM; decide)⟩
    show r.length - (i + 1) < r.length - i; omega
  · have h1 : ¬ (i : Int) < (r.length : Int) := by omega
    obtain rfl : i = r.length := by omega
    repeat (first | apply Aw_seq | apply Aw_block | apply Aw_skip | apply Aw_exit | refine Aw_condt rfl ?_ | refine Aw_condf rfl ?_ | ((first | refine qr ?_ | refine qd (by kernel_rfl) (by kernel_rfl) ?_); simp only [go_sem, jE, reduceIte, jA, jM, jS, jL, jD, jB, h1, g0]) | refine dk (by kernel_rfl) ?_)
    exact Aw_ret (retL (M := [0]) (.inl rfl) (by simp only [go_sem, jE, reduceIte, jA, jM, jS, jL, jD, jB]; first | done | rfl) rfl rfl (by rfl) (by simp only [go_sem, jE, reduceIte, jA, jM, jS, jL, jD, jB, mkD_end, mInts]; first | done | rfl | (and_intros <;> rfl)) (by decide) (by unfold idM; decide))
def markE (k : Nat) : Ent := ⟨markT k, ((k + 1 : Nat) : Int), decide (Int.tmod ((k + 2 : Nat) : Int) 3 = 0), ((k + 3 : Nat) : Int)⟩
def mEnts (k n : Nat) : List Ent := (List.range n).map fun j => markE (k + 4 * j)
theorem markEntryS_ac (r : List Ent) (k : Nat) (hk : k + 4 * r.length ≤ 1099511627776) : AC Tryz.prog 24 [.c (.h 0), iT k] (hpL [some (dRow 56 4 (r.map entD))]) 1 ⟨.t (iT ((k + 4 * r.length : Nat) : Int)), hpL [some (dRow 56 4 ((mEnts k r.length).map entD))], 1⟩ := by
  refine AC_of Tryz.func24 rfl Tryz.ntmps24 Tryz.results24 (by kernel_rfl) rfl ?_
  simp only [List.zipIdx, List.map, Nat.zero_add, Nat.reduceAdd]
  repeat (first | apply Aw_seq | apply Aw_block | apply Aw_skip | apply Aw_exit | refine Aw_condt rfl ?_ | refine Aw_condf rfl ?_ | ((first | refine qr ?_ | refine qd (by kernel_rfl) (by kernel_rfl) ?_); simp only [go_sem, jE, reduceIte, jA, jM, jS, jL, jD, jB]) | refine dk (by kernel_rfl) ?_)
  refine Aw.rw (rwL (l' := [(5, .t (iT (0 : Nat))), (1, .t (iT ((k + 4 * 0 : Nat) : Int))), (0, .t (.c (.h 0)))]) (os := [some (dRow 56 4 (mkD entD (fun j => markE (k + 4 * j)) r 0))]) (M := [0]) (n' := 1) (by repeat (first | exact trivial | refine ⟨rfl, rfl, ?_⟩)) (by rfl) (by simp only [go_sem, jE, reduceIte, jA, jM, jS, jL, jD, jB, mkD_0]; first | done | rfl) (by decide) (by unfold idM; decide)) ?_
  refine Aw_loop_rw (ι := { j : Nat // j ≤ r.length }) (fun j => S [(5, .t (iT (j.1 : Nat))), (1, .t (iT ((k + 4 * j.1 : Nat) : Int))), (0, .t (.c (.h 0)))] (hpL [some (dRow 56 4 (mkD entD (fun j => markE (k + 4 * j)) r j.1))]) 1) (fun j => r.length - j.1) ⟨0, Nat.zero_le _⟩ ?_
  rintro ⟨i, hi⟩
  dsimp only
  have g0 := mkD_ln entD (fun j => markE (k + 4 * j)) r hi
  by_cases hlt : i < r.length
  · have h1 : (i : Int) < (r.length : Int) := by omega
    have h2 := wrap_succ hlt (by omega)
    obtain ⟨q, hq⟩ : ∃ q, q = k + 4 * i := ⟨_, rfl⟩
    have hqm : q + 4 ≤ 1099511627776 := by omega
    have w1 : IntKind.i64.wrap ((q : Int) + 1) = ((q + 1 : Nat) : Int) := wrap_succ (m := q + 1) (by omega) (by omega)
    have w2 : IntKind.i64.wrap (((q + 1 : Nat) : Int) + 1) = ((q + 2 : Nat) : Int) := wrap_succ (m := q + 2) (by omega) (by omega)
    have w3 : IntKind.i64.wrap (((q + 2 : Nat) : Int) + 1) = ((q + 3 : Nat) : Int) := wrap_succ (m := q + 3) (by omega) (by omega)
    have w4 : IntKind.i64.wrap (((q + 3 : Nat) : Int) + 1) = ((k + 4 * (i + 1) : Nat) : Int) := by rw [show k + 4 * (i + 1) = q + 4 by omega]; exact wrap_succ (m := q + 4) (by omega) (by omega)
    obtain ⟨e, hx⟩ : ∃ e, r[i]? = some e := ⟨_, List.getElem?_eq_getElem hlt⟩
    have km := markText_ac q (by omega)
    have g2 := mkD_get entD (fun j => markE (k + 4 * j)) hx
    have g3 := mkD_set entD (fun j => markE (k + 4 * j)) hlt
    simp only [entD, List.map] at g2
    rw [show (((entD (markE (k + 4 * i))).map CV.d)) = [.d (.s (.string (markT q))), .d (.s (.int .i64 ((q + 1 : Nat) : Int))), .d (.s (.bool (decide (Int.tmod ((q + 2 : Nat) : Int) 3 = 0)))), .d (.s (.int .i64 ((q + 3 : Nat) : Int)))] by rw [← hq]; rfl] at g3
    have gl : i < ((mkD entD (fun j => markE (k + 4 * j)) r i).map (·.map CV.d)).length := by simp [g0]; exact hlt
    have g4 := set_get gl
    rw [← hq]
    repeat (first | apply Aw_seq | apply Aw_block | apply Aw_skip | apply Aw_exit | refine Aw_condt rfl ?_ | refine Aw_condf rfl ?_ | ((first | refine qr ?_ | refine qd (by kernel_rfl) (by kernel_rfl) ?_); simp only [go_sem, jE, reduceIte, jA, jM, jS, jL, jD, jB, h1, h2, w1, w2, w3, w4, hlt, g0, g2, g4, three0, List.length_set, List.set_set, List.length_map]) | refine dk (by kernel_rfl) ?_ | (refine qp (km) (by simp only [go_sem, jE, reduceIte, jA, jM, jS, jL, jD, jB, h1, h2, w1, w2, w3, w4, hlt, g0, g2, g4, three0, List.length_set, List.set_set, List.length_map]; first | done | rfl) rfl (by simp only [go_sem, Nat.reduceLT]) rfl rfl ?_; simp only [go_sem, jE, reduceIte, jA, jM, jS, jL, jD, jB, h1, h2, w1, w2, w3, w4, hlt, g0, g2, g4, three0, List.length_set, List.set_set, List.length_map]))
    refine ⟨⟨i + 1, hlt⟩, [0], ?_, rwL (by repeat (first | exact trivial | refine ⟨rfl, rfl, ?_⟩)) (by rfl) (by simp only [go_sem, jE, reduceIte, jA, jM, jS, jL, jD, jB, g3]; first | done | rfl) (by decide) (by unfold idM; decide)⟩
    show r.length - (i + 1) < r.length - i; omega
  · have h1 : ¬ (i : Int) < (r.length : Int) := by omega
    obtain rfl : i = r.length := by omega
    repeat (first | apply Aw_seq | apply Aw_block | apply Aw_skip | apply Aw_exit | refine Aw_condt rfl ?_ | refine Aw_condf rfl ?_ | ((first | refine qr ?_ | refine qd (by kernel_rfl) (by kernel_rfl) ?_); simp only [go_sem, jE, reduceIte, jA, jM, jS, jL, jD, jB, h1, g0]) | refine dk (by kernel_rfl) ?_)
    exact Aw_ret (retL (M := [0]) (.inl rfl) (by simp only [go_sem, jE, reduceIte, jA, jM, jS, jL, jD, jB]; first | done | rfl) rfl rfl (by rfl) (by simp only [go_sem, jE, reduceIte, jA, jM, jS, jL, jD, jB, mkD_end, mEnts]; first | done | rfl | (and_intros <;> rfl)) (by decide) (by unfold idM; decide))
theorem mE_key (k : Nat) : (markE k).key = markT k := rfl
theorem mE_val (k : Nat) : (markE k).val = ((k + 1 : Nat) : Int) := rfl
theorem mE_gone (k : Nat) : (markE k).gone = decide (Int.tmod ((k + 2 : Nat) : Int) 3 = 0) := rfl
theorem mE_time (k : Nat) : (markE k).time = ((k + 3 : Nat) : Int) := rfl
theorem heldEntryS_ac (k n : Nat) (hk : k + 4 * n ≤ 1099511627776) : AC Tryz.prog 25 [runT (mEnts k n), iT k] noHp 0 ⟨.t (iT ((k + 4 * n : Nat) : Int)), noHp, 0⟩ := by
  refine AC_of Tryz.func25 rfl Tryz.ntmps25 Tryz.results25 (by kernel_rfl) rfl ?_
  simp only [List.zipIdx, List.map, Nat.zero_add, Nat.reduceAdd]
  have hl : (mEnts k n).length = n := by simp [mEnts]
  repeat (first | apply Aw_seq | apply Aw_block | apply Aw_skip | apply Aw_exit | refine Aw_condt rfl ?_ | refine Aw_condf rfl ?_ | ((first | refine qr ?_ | refine qd (by kernel_rfl) (by kernel_rfl) ?_); simp only [go_sem, jE, reduceIte, jA, jM, jS, jL, jD, jB]) | refine dk (by kernel_rfl) ?_)
  refine Aw.rw (rw0 (l' := [(5, .t (iT (0 : Nat))), (1, .t (iT ((k + 4 * 0 : Nat) : Int))), (0, .t (runT (mEnts k n)))]) (n' := 0) (by repeat (first | exact trivial | refine ⟨rfl, rfl, ?_⟩))) ?_
  refine Aw_loop0 (ι := { i : Nat // i ≤ n ∧ (True) }) (fun q => [(5, .t (iT (q.1 : Nat))), (1, .t (iT ((k + 4 * q.1 : Nat) : Int))), (0, .t (runT (mEnts k n)))]) (fun q => n - q.1) ⟨0, Nat.zero_le _, trivial⟩ ?_
  rintro ⟨i, hi, hp⟩
  dsimp only
  by_cases hlt : i < n
  · have h1 : (i : Int) < (n : Int) := by omega
    have h2 := wrap_succ hlt (by omega)
    have hx : (mEnts k n)[i]? = some (markE (k + 4 * i)) := by simp [mEnts, List.getElem?_map, List.getElem?_range hlt]
    have w1 : IntKind.i64.wrap (((k + 4 * i : Nat) : Int) + 1) = ((k + 4 * i + 1 : Nat) : Int) := wrap_succ (m := k + 4 * i + 1) (by omega) (by omega)
    have w2 : IntKind.i64.wrap (((k + 4 * i + 1 : Nat) : Int) + 1) = ((k + 4 * i + 2 : Nat) : Int) := wrap_succ (m := k + 4 * i + 2) (by omega) (by omega)
    have w3 : IntKind.i64.wrap (((k + 4 * i + 2 : Nat) : Int) + 1) = ((k + 4 * i + 3 : Nat) : Int) := wrap_succ (m := k + 4 * i + 3) (by omega) (by omega)
    have w4 : IntKind.i64.wrap (((k + 4 * i + 3 : Nat) : Int) + 1) = ((k + 4 * (i + 1) : Nat) : Int) := by rw [show k + 4 * (i + 1) = k + 4 * i + 4 by omega]; exact wrap_succ (m := k + 4 * i + 4) (by omega) (by omega)
    have km := markText_ac (k + 4 * i) (by omega)
    repeat (first | apply Aw_seq | apply Aw_block | apply Aw_skip | apply Aw_exit | refine Aw_condt rfl ?_ | refine Aw_condf rfl ?_ | ((first | refine qr ?_ | refine qd (by kernel_rfl) (by kernel_rfl) ?_); simp only [go_sem, jE, reduceIte, jA, jM, jS, jL, jD, jB, h1, h2, hx, hl, iref, sref, bref, w1, w2, w3, w4, mE_key, mE_val, mE_gone, mE_time, three0]) | refine dk (by kernel_rfl) ?_ | (refine qp (km) (by simp only [go_sem, jE, reduceIte, jA, jM, jS, jL, jD, jB, h1, h2, hx, hl, iref, sref, bref, w1, w2, w3, w4, mE_key, mE_val, mE_gone, mE_time, three0]; first | done | rfl) rfl (by simp only [go_sem, Nat.reduceLT]) rfl rfl ?_; simp only [go_sem, jE, reduceIte, jA, jM, jS, jL, jD, jB, h1, h2, hx, hl, iref, sref, bref, w1, w2, w3, w4, mE_key, mE_val, mE_gone, mE_time, three0]))
    exact ⟨⟨i + 1, by omega, trivial⟩, (by simp only []; omega), rw0 (by repeat (first | exact trivial | refine ⟨rfl, rfl, ?_⟩))⟩
  · have h1 : ¬ (i : Int) < (n : Int) := by omega
    obtain rfl : i = n := by omega
    repeat (first | apply Aw_seq | apply Aw_block | apply Aw_skip | apply Aw_exit | refine Aw_condt rfl ?_ | refine Aw_condf rfl ?_ | ((first | refine qr ?_ | refine qd (by kernel_rfl) (by kernel_rfl) ?_); simp only [go_sem, jE, reduceIte, jA, jM, jS, jL, jD, jB, h1, hl]) | refine dk (by kernel_rfl) ?_)
    exact Aw_ret (ret0 (.inl rfl) (by simp only [go_sem, jE, reduceIte, jA, jM, jS, jL, jD, jB]; rfl) (by rfl) rfl)
theorem lt1 {a n : Nat} (h : a < n) : ∀ q ∈ [a], q < n := fun q hq => by rw [List.mem_singleton.1 hq]; exact h
theorem nd1 (a : Nat) : [a].Nodup := by simp
theorem upd_upd {α : Type} (f : Nat → α) (a : Nat) (x y : α) : upd (upd f a x) a y = upd f a y := by
  funext m
  by_cases e : m = a
  · subst e; rw [upd_same, upd_same]
  · rw [upd_ne _ _ e, upd_ne _ _ e, upd_ne _ _ e]
theorem upd_swap {α : Type} (f : Nat → α) {a b : Nat} (h : a ≠ b) (x y : α) : upd (upd f a x) b y = upd (upd f b y) a x := by
  funext m
  by_cases e : m = a
  · subst e; rw [upd_ne _ _ h, upd_same, upd_same]
  · by_cases e2 : m = b
    · subst e2; rw [upd_same, upd_ne _ _ e, upd_same]
    · rw [upd_ne _ _ e2, upd_ne _ _ e, upd_ne _ _ e, upd_ne _ _ e2]
/-- Marked runs, and where counting stands behind them. -/
def kR (q : Nat) (l : List (List Ent)) : Nat := l.foldl (fun k x => k + 4 * x.length) q
def markRs : Nat → List (List Ent) → List (List Ent)
  | _, [] => []
  | q, x :: l => mEnts q x.length :: markRs (q + 4 * x.length) l
theorem kR_app (q : Nat) (a b : List (List Ent)) : kR q (a ++ b) = kR (kR q a) b := by simp [kR]
theorem kR_le : ∀ (l : List (List Ent)) (q : Nat), q ≤ kR q l
  | [], q => Nat.le_refl _
  | x :: l, q => Nat.le_trans (by omega) (kR_le l (q + 4 * x.length))
theorem kR_take (l : List (List Ent)) (q i : Nat) : kR q (l.take i) ≤ kR q l := by
  conv => rhs; rw [← List.take_append_drop i l, kR_app]
  exact kR_le _ _
theorem kR_succ {l : List (List Ent)} {q i : Nat} {x : List Ent} (h : l[i]? = some x) : kR q (l.take (i + 1)) = kR q (l.take i) + 4 * x.length := by
  rw [List.take_add_one, h, kR_app]; rfl
theorem markRs_app : ∀ (a b : List (List Ent)) (q : Nat), markRs q (a ++ b) = markRs q a ++ markRs (kR q a) b
  | [], b, q => rfl
  | x :: a, b, q => by simp only [List.cons_append, markRs]; rw [markRs_app a b]; rfl
theorem markRs_len : ∀ (l : List (List Ent)) (q : Nat), (markRs q l).length = l.length
  | [], _ => rfl
  | x :: l, q => by simp only [markRs, List.length_cons]; rw [markRs_len l]
def mRs (q i : Nat) (r : List (List Ent)) : List (List Ent) := markRs q (r.take i) ++ r.drop i
theorem mRs_0 (q : Nat) (r : List (List Ent)) : mRs q 0 r = r := by simp [mRs, markRs]
theorem mRs_end (q : Nat) (r : List (List Ent)) : mRs q r.length r = markRs q r := by simp [mRs]
theorem mRs_len {q i : Nat} {r : List (List Ent)} : (mRs q i r).length = r.length := by simp [mRs, markRs_len]; omega
theorem drop_get {α : Type} {r : List α} {i : Nat} {x : α} (h : r[i]? = some x) : r.drop i = x :: r.drop (i + 1) := by
  obtain ⟨hi, rfl⟩ := List.getElem?_eq_some_iff.1 h
  exact List.drop_eq_getElem_cons hi
theorem mRs_get {q i : Nat} {r : List (List Ent)} {x : List Ent} (h : r[i]? = some x) : (mRs q i r)[i]? = some x := by
  have hi := (List.getElem?_eq_some_iff.1 h).1
  unfold mRs
  rw [List.getElem?_append_right (by rw [markRs_len]; simp; omega), markRs_len, drop_get h]
  simp [Nat.min_eq_left (Nat.le_of_lt hi)]
theorem mRs_set {q i : Nat} {r : List (List Ent)} {x : List Ent} (h : r[i]? = some x) : (mRs q i r).set i (mEnts (kR q (r.take i)) x.length) = mRs q (i + 1) r := by
  have hi := (List.getElem?_eq_some_iff.1 h).1
  unfold mRs
  rw [List.set_append_right _ _ (by rw [markRs_len]; simp; omega), markRs_len, drop_get h, List.take_add_one, h, markRs_app]
  simp [Nat.min_eq_left (Nat.le_of_lt hi), markRs]
def lvF (r : List (List Ent)) : List (Option Obj) := some (pRow r.length r.length) :: r.map fun x => some (eRow x)
theorem lvF_os (r : List (List Ent)) : lvOs r.length r = lvF r := by simp [lvOs, lvF]
theorem lvF_len (r : List (List Ent)) : (lvF r).length = r.length + 1 := by simp [lvF]
theorem lvF_bd {r : List (List Ent)} {m : Nat} {o : Obj} (h : hpL (lvF r) m = some o) : m < r.length + 1 ∧ o.bd (r.length + 1) = true := by
  have hg := hpL_get.1 h
  refine ⟨by have := (List.getElem?_eq_some_iff.1 hg).1; rwa [lvF_len] at this, ?_⟩
  rcases m with _ | m
  · simp only [lvF, List.getElem?_cons_zero, Option.some.injEq] at hg
    subst hg
    exact pE_all (by omega) (Nat.le_refl _)
  · simp only [lvF, List.getElem?_cons_succ, List.getElem?_map] at hg
    obtain ⟨x, _, hx⟩ := Option.map_eq_some_iff.1 hg
    rw [← Option.some.inj hx]; exact bd_eRow _ _
theorem lvF_get {r : List (List Ent)} {i : Nat} {x : List Ent} (h : r[i]? = some x) : hpL (lvF r) (i + 1) = some (eRow x) := by
  rw [hpL_get]; simp [lvF, h]
theorem lvF_set {r : List (List Ent)} {i : Nat} {x : List Ent} (h : i < r.length) : upd (hpL (lvF r)) (i + 1) (some (eRow x)) = hpL (lvF (r.set i x)) := by
  rw [hpL_set (by simp [lvF]; omega)]
  simp [lvF, List.map_set]
theorem pE_end {i n : Nat} (h : i < n) : (pEls n n)[i]? = some [.h (i + 1)] := by
  unfold pEls
  rw [List.getElem?_append_left (by simpa using h)]
  simp [List.getElem?_range h]
theorem markEntrySSO_ac (r : List (List Ent)) (q : Nat) (hl : r.length ≤ 1048576) (hq : kR q r ≤ 1099511627776) : AC Tryz.prog 41 [.c (.h 0), iT q] (hpL (lvF r)) (r.length + 1) ⟨.t (iT ((kR q r : Nat) : Int)), hpL (lvF (markRs q r)), r.length + 1⟩ := by
  refine AC_of Tryz.func41 rfl Tryz.ntmps41 Tryz.results41 (by kernel_rfl) rfl ?_
  simp only [List.zipIdx, List.map, Nat.zero_add, Nat.reduceAdd]
  repeat (first | apply Aw_seq | apply Aw_block | apply Aw_skip | apply Aw_exit | refine Aw_condt rfl ?_ | refine Aw_condf rfl ?_ | ((first | refine qr ?_ | refine qd (by kernel_rfl) (by kernel_rfl) ?_); simp only [go_sem, jE, reduceIte, jA, jM, jS, jL, jD, jB]) | refine dk (by kernel_rfl) ?_)
  have start : ∀ {P : Program} {N k : Nat} {x : Code} {Q : Exit → St → Prop}, Aw P N k x Q (S [(5, .t (iT (0 : Nat))), (1, .t (iT ((kR q (r.take 0) : Nat) : Int))), (0, .t (.c (.h 0)))] (hpL (lvF (mRs q 0 r))) (r.length + 1)) → Aw P N k x Q (S [(5, .t (iT (0 : Nat))), (1, .t (iT (q : Nat))), (0, .t (.c (.h 0)))] (hpL (lvF r)) (r.length + 1)) := by
    intro P N k x Q h
    rw [mRs_0] at h; exact h
  refine Aw.rw (rwI (l' := [(5, .t (iT (0 : Nat))), (1, .t (iT (q : Nat))), (0, .t (.c (.h 0)))]) (hp' := hpL (lvF r)) (m' := r.length + 1) (n' := r.length + 1) (by repeat (first | exact trivial | refine ⟨rfl, ?_⟩)) (by simp [AV.bd, TV.bd, CV.bd]) (fun m o hm => ⟨hm, lvF_bd hm⟩) (Nat.le_refl _) (Nat.le_refl _)) ?_
  refine start ?_
  refine Aw_loop_rw (ι := { j : Nat // j ≤ r.length }) (fun j => S [(5, .t (iT (j.1 : Nat))), (1, .t (iT ((kR q (r.take j.1) : Nat) : Int))), (0, .t (.c (.h 0)))] (hpL (lvF (mRs q j.1 r))) (r.length + 1)) (fun j => r.length - j.1) ⟨0, Nat.zero_le _⟩ ?_
  rintro ⟨i, hi⟩
  dsimp only
  have gl : (mRs q i r).length = r.length := mRs_len
  by_cases hlt : i < r.length
  · have h1 : (i : Int) < (r.length : Int) := by omega
    have h2 := wrap_succ hlt (by omega)
    obtain ⟨e, hx⟩ : ∃ e, r[i]? = some e := ⟨_, List.getElem?_eq_getElem hlt⟩
    have hk := kR_succ (q := q) hx
    have hle := kR_take r q (i + 1)
    have kk := markEntryS_ac e (kR q (r.take i)) (by omega)
    rw [← hk] at kk
    have hm := mRs_set (q := q) hx
    have g0 : hpL (lvF (mRs q i r)) 0 = some (pRow r.length r.length) := by rw [← gl]; rfl
    have g1 := pE_len (Nat.le_refl r.length)
    have g2 := pE_end hlt
    have g3 := lvF_get (mRs_get (q := q) hx)
    have g5 := lvF_set (r := mRs q i r) (x := mEnts (kR q (r.take i)) e.length) (i := i) (by omega)
    rw [hm, r_eRow] at g5
    have hh : HandL (hpL (lvF (mRs q i r))) [i + 1] [i + 1] [some (dRow 56 4 (e.map entD))] := ⟨by rw [g3, dRow_ren]; rfl, dRow_bd _ _ _ _, trivial⟩
    repeat (first | apply Aw_seq | apply Aw_block | apply Aw_skip | apply Aw_exit | refine Aw_condt rfl ?_ | refine Aw_condf rfl ?_ | ((first | refine qr ?_ | refine qd (by kernel_rfl) (by kernel_rfl) ?_); simp only [go_sem, jE, reduceIte, jA, jM, jS, jL, jD, jB, h1, h2, hx, hlt, g0, g1, g2]) | refine dk (by kernel_rfl) ?_ | (refine qx (call_L (N' := [i + 1]) (L := []) kk rfl (.cons (.nm rfl) (.cons (.nm rfl) .nil)) (nd1 _) (lt1 (by omega)) (fun _ h => nomatch h) hh (.inl rfl) rfl (Nat.le_refl _)) (by simp only [go_sem, jE, reduceIte, jA, jM, jS, jL, jD, jB, h1, h2, hx, hlt, g0, g1, g2]; first | done | rfl) rfl (by simp only [go_sem, Nat.reduceLT]) ?_; simp only [go_sem, jE, reduceIte, jA, jM, jS, jL, jD, jB, h1, h2, hx, hlt, g0, g1, g2]))
    rw [g5]
    refine ⟨⟨i + 1, hlt⟩, _, ?_, rwI (m' := r.length + 1) (by repeat (first | exact trivial | refine ⟨rfl, ?_⟩)) (by simp [AV.bd, TV.bd, CV.bd]) (fun m o hm => ⟨hm, by have := lvF_bd hm; rwa [mRs_len] at this⟩) (Nat.le_refl _) (Nat.le_refl _)⟩
    show r.length - (i + 1) < r.length - i; omega
  · have h1 : ¬ (i : Int) < (r.length : Int) := by omega
    obtain rfl : i = r.length := by omega
    have g0 : hpL (lvF (mRs q r.length r)) 0 = some (pRow (mRs q r.length r).length (mRs q r.length r).length) := rfl
    rw [gl] at g0
    have g1 := pE_len (Nat.le_refl r.length)
    repeat (first | apply Aw_seq | apply Aw_block | apply Aw_skip | apply Aw_exit | refine Aw_condt rfl ?_ | refine Aw_condf rfl ?_ | ((first | refine qr ?_ | refine qd (by kernel_rfl) (by kernel_rfl) ?_); simp only [go_sem, jE, reduceIte, jA, jM, jS, jL, jD, jB, h1, g0, g1]) | refine dk (by kernel_rfl) ?_)
    rw [mRs_end, List.take_length]
    refine Aw_ret (retI (.inl rfl) rfl rfl (fun m o hm => ⟨hm, ?_⟩) (Nat.le_refl _))
    have := lvF_bd hm
    rwa [markRs_len] at this
def entV (e : Ent) : List Value := [.string e.key, .int .i64 e.val, .bool e.gone, .int .i64 e.time]
@[simp] theorem flat_eRow (r : List Ent) : (eRow r).flat = true := by
  unfold eRow
  rw [show r.map entD = (r.map entV).map (·.map D.s) by rw [List.map_map]; rfl]
  exact dRow_flat _ _ _
@[simp] theorem flat_kRow (r : List ByteArray) : (kRow r).flat = true := by
  unfold kRow
  rw [show r.map strD = (r.map fun s => [Value.string s]).map (·.map D.s) by rw [List.map_map]; rfl]
  exact dRow_flat _ _ _
def joinM (a b : List Ent) : List Ent := List.merge a b before
structure JnI (a b : List Ent) where
  P : List Ent
  i : Nat
  k : Nat
  hi : i ≤ a.length
  hk : k ≤ b.length
  hl : P.length = i + k
  h : P ++ joinM (a.drop i) (b.drop k) = joinM a b
end Go.Proofs.YtimkdclalajadaaGreat.Ab
