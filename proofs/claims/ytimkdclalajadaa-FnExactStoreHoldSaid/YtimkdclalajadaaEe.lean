/-
  Contracts: a law's marks in a new store. No condition.
  A store of its own, marked, and the marks found again; three levels. No condition.
  Rules for rows that are lent. No condition.
  Whatever argument of the seat's kinds can be read as data is plain data of the machine's: lemmas, kind by kind (whole numbers, bools, strings, slices, structs). No condition.
  What a law reads as a store, a run, is plain data of the machine's, of sizes that a word holds. No condition.
  Contract: the law of a new store gives true, of every number. No condition.
  Plain law: the forks of a sieve in the order of their numbers, and where they stand. No condition.
  Plain law: a sieve by its branches. No condition.
  Plain law: a small number is its own remainder. No condition.
  The shelf's counting of a byte, at this seat. No condition.
  Contracts: ones of a text of bits, beginnings of keys. No condition.
  Plain law: a sieve's texts by its forks and branches. No condition.
  Plain law: what is kept of a sieve's keys has the same sieve. No condition.
  Contracts: a sieve's branches, what they lead to, what is kept of them. No condition.
  Contract: whether a sieve may have a key. No condition.
  Contracts: what is found in a store, and how many sieves may have a key, the program's. No condition.
  Contracts: what a store has of a key, how many sieves may have it, the program's. No condition.
  Contracts: what is put, what is taken away, the top that goes down, the program's. No condition.
  Rules for a law's stores of their own: lent, handed on, marked. No condition.
  Contract: a level that is pushed into the next one, the program's. No condition.
  Plain: how large a store is behind an operation; marked rows told by their sizes. No condition.
  Contract: the top that goes down, the program's. No condition.
  Contract: the time that is held, the program's. No condition.
  Contract: the present time that is held, the program's. No condition.
  Contracts: operations of the program's with results of their own. No condition.
  Contract: the law of the store's check gives true, of every store. No condition.
  Contract: the law of the time that a store holds gives true, of every store. No condition.
-/
import Derived.Test.YtimkdclalajadaaEd
import Derived.Test.YtimkdclalajadaaEc
import Derived.Deep.Slices
import Derived.ChangeArms
import Derived.DataReads
import Derived.Below
import Derived.Test.YtimkdclalajadaaEb
import Derived.Shelf.Strings.Count
import Derived.Ground.NamesProg
namespace Go.Proofs.Ytimkdclalajadaa.Ab
open Nat renaming reduceEqDiff → jE, reduceAdd → jA, reduceMul → jM, reduceSub → jS, reduceLT → jL, reduceLeDiff → jD, reduceBEq → jB
set_option linter.deprecated false
set_option linter.unusedVariables false
set_option linter.unusedSimpArgs false
open Go Go.Proofs
set_option maxRecDepth 10000
set_option maxHeartbeats 8000000
theorem lt00 : decide ((0 : Int) < ((0 : Nat) : Int)) = false := rfl
theorem markEntry0_ac (k : Nat) : AC Try.prog 31 [runT [], iT k] noHp 0 ⟨.t (iT k), noHp, 0⟩ := by
  refine AC_of Try.func31 rfl Try.ntmps31 Try.results31 (by kernel_rfl) rfl ?_
  simp only [List.zipIdx, List.map, Nat.zero_add, Nat.reduceAdd]
  repeat (first | apply Aw_seq | apply Aw_block | apply Aw_skip | apply Aw_exit | refine Aw_condt rfl ?_ | refine Aw_condf rfl ?_ | ((first | refine qr ?_ | refine qd (by kernel_rfl) (by kernel_rfl) ?_); simp only [go_sem, jE, reduceIte, jA, jM, jS, jL, jD, jB]) | refine dk (by kernel_rfl) ?_)
  refine Aw_rounds 1 ?_
  refine AwR_succ ?_
  repeat (first | apply Aw_seq | apply Aw_block | apply Aw_skip | apply Aw_exit | refine Aw_condt rfl ?_ | refine Aw_condf rfl ?_ | ((first | refine qr ?_ | refine qd (by kernel_rfl) (by kernel_rfl) ?_); simp only [go_sem, jE, reduceIte, jA, jM, jS, jL, jD, jB, lt00]) | refine dk (by kernel_rfl) ?_)
  exact Aw_ret (ret0 (.inl rfl) (by simp only [go_sem, jE, reduceIte, jA, jM, jS, jL, jD, jB]; rfl) (by rfl) rfl)
theorem markInt0_ac (k : Nat) : AC Try.prog 34 [intsT [], iT k] noHp 0 ⟨.t (iT k), noHp, 0⟩ := by
  refine AC_of Try.func34 rfl Try.ntmps34 Try.results34 (by kernel_rfl) rfl ?_
  simp only [List.zipIdx, List.map, Nat.zero_add, Nat.reduceAdd]
  repeat (first | apply Aw_seq | apply Aw_block | apply Aw_skip | apply Aw_exit | refine Aw_condt rfl ?_ | refine Aw_condf rfl ?_ | ((first | refine qr ?_ | refine qd (by kernel_rfl) (by kernel_rfl) ?_); simp only [go_sem, jE, reduceIte, jA, jM, jS, jL, jD, jB]) | refine dk (by kernel_rfl) ?_)
  refine Aw_rounds 1 ?_
  refine AwR_succ ?_
  repeat (first | apply Aw_seq | apply Aw_block | apply Aw_skip | apply Aw_exit | refine Aw_condt rfl ?_ | refine Aw_condf rfl ?_ | ((first | refine qr ?_ | refine qd (by kernel_rfl) (by kernel_rfl) ?_); simp only [go_sem, jE, reduceIte, jA, jM, jS, jL, jD, jB, lt00]) | refine dk (by kernel_rfl) ?_)
  exact Aw_ret (ret0 (.inl rfl) (by simp only [go_sem, jE, reduceIte, jA, jM, jS, jL, jD, jB]; rfl) (by rfl) rfl)
theorem markEntrySS0_ac (r : List (List Ent)) (k : Nat) (hl : r.length ≤ 1099511627776) (hr : ∀ x ∈ r, x = []) : AC Try.prog 32 [lvsT r, iT k] noHp 0 ⟨.t (iT k), noHp, 0⟩ := by
  refine AC_of Try.func32 rfl Try.ntmps32 Try.results32 (by kernel_rfl) rfl ?_
  simp only [List.zipIdx, List.map, Nat.zero_add, Nat.reduceAdd]
  repeat (first | apply Aw_seq | apply Aw_block | apply Aw_skip | apply Aw_exit | refine Aw_condt rfl ?_ | refine Aw_condf rfl ?_ | ((first | refine qr ?_ | refine qd (by kernel_rfl) (by kernel_rfl) ?_); simp only [go_sem, jE, reduceIte, jA, jM, jS, jL, jD, jB]) | refine dk (by kernel_rfl) ?_)
  refine Aw.rw (rw0 (l' := [(5, .t (iT (0 : Nat))), (1, .t (iT k)), (0, .t (lvsT r))]) (n' := 0) (by repeat (first | exact trivial | refine ⟨rfl, rfl, ?_⟩))) ?_
  refine Aw_loop0 (ι := { i : Nat // i ≤ r.length ∧ (True) }) (fun q => [(5, .t (iT (q.1 : Nat))), (1, .t (iT k)), (0, .t (lvsT r))]) (fun q => r.length - q.1) ⟨0, Nat.zero_le _, trivial⟩ ?_
  rintro ⟨i, hi, hp⟩
  dsimp only
  by_cases hlt : i < r.length
  · have h1 : (i : Int) < (r.length : Int) := by omega
    have h2 := wrap_succ hlt hl
    obtain ⟨e, hx⟩ : ∃ e, r[i]? = some e := ⟨_, List.getElem?_eq_getElem hlt⟩
    obtain rfl := hr e (List.mem_of_getElem? hx)
    repeat (first | apply Aw_seq | apply Aw_block | apply Aw_skip | apply Aw_exit | refine Aw_condt rfl ?_ | refine Aw_condf rfl ?_ | ((first | refine qr ?_ | refine qd (by kernel_rfl) (by kernel_rfl) ?_); simp only [go_sem, jE, reduceIte, jA, jM, jS, jL, jD, jB, h1, h2, hx]) | refine dk (by kernel_rfl) ?_ | (refine qp (markEntry0_ac k) (by simp only [go_sem, jE, reduceIte, jA, jM, jS, jL, jD, jB, h1, h2, hx]; first | done | rfl) rfl (by simp only [go_sem, Nat.reduceLT]) rfl rfl ?_; simp only [go_sem, jE, reduceIte, jA, jM, jS, jL, jD, jB, h1, h2, hx]))
    exact ⟨⟨i + 1, by omega, trivial⟩, (by simp only []; omega), rw0 (by repeat (first | exact trivial | refine ⟨rfl, rfl, ?_⟩))⟩
  · have h1 : ¬ (i : Int) < (r.length : Int) := by omega
    repeat (first | apply Aw_seq | apply Aw_block | apply Aw_skip | apply Aw_exit | refine Aw_condt rfl ?_ | refine Aw_condf rfl ?_ | ((first | refine qr ?_ | refine qd (by kernel_rfl) (by kernel_rfl) ?_); simp only [go_sem, jE, reduceIte, jA, jM, jS, jL, jD, jB, h1]) | refine dk (by kernel_rfl) ?_)
    exact Aw_ret (ret0 (.inl rfl) (by simp only [go_sem, jE, reduceIte, jA, jM, jS, jL, jD, jB]; rfl) (by rfl) rfl)
def markV (k : Nat) : Sve := ⟨markT k, markT (k + 1), markT (k + 2), [], ((k + 3 : Nat) : Int)⟩
def mSves (k n : Nat) : List Sve := (List.range n).map fun j => markV (k + 4 * j)
theorem heldEntry0_ac (k : Nat) (hk : k ≤ 1099511627776) : AC Try.prog 35 [runT [], iT k] noHp 0 ⟨.t (iT k), noHp, 0⟩ := heldEntryS_ac k 0 hk
theorem heldStr0_ac (k : Nat) (hk : k ≤ 1099511627776) : AC Try.prog 57 [strsT [], iT k] noHp 0 ⟨.t (iT k), noHp, 0⟩ := heldStringS_ac k 0 hk
theorem heldInt0_ac (k : Nat) (hk : k ≤ 1099511627776) : AC Try.prog 38 [intsT [], iT k] noHp 0 ⟨.t (iT k), noHp, 0⟩ := heldIntS_ac k 0 hk
theorem heldEntrySS0_ac (r : List (List Ent)) (k : Nat) (hk : k ≤ 1099511627776) (hl : r.length ≤ 1099511627776) (hr : ∀ x ∈ r, x = []) : AC Try.prog 36 [lvsT r, iT k] noHp 0 ⟨.t (iT k), noHp, 0⟩ := by
  refine AC_of Try.func36 rfl Try.ntmps36 Try.results36 (by kernel_rfl) rfl ?_
  simp only [List.zipIdx, List.map, Nat.zero_add, Nat.reduceAdd]
  have hn := nneg k
  repeat (first | apply Aw_seq | apply Aw_block | apply Aw_skip | apply Aw_exit | refine Aw_condt rfl ?_ | refine Aw_condf rfl ?_ | ((first | refine qr ?_ | refine qd (by kernel_rfl) (by kernel_rfl) ?_); simp only [go_sem, jE, reduceIte, jA, jM, jS, jL, jD, jB]) | refine dk (by kernel_rfl) ?_)
  refine Aw.rw (rw0 (l' := [(5, .t (iT (0 : Nat))), (1, .t (iT k)), (0, .t (lvsT r))]) (n' := 0) (by repeat (first | exact trivial | refine ⟨rfl, rfl, ?_⟩))) ?_
  refine Aw_loop0 (ι := { i : Nat // i ≤ r.length ∧ (True) }) (fun q => [(5, .t (iT (q.1 : Nat))), (1, .t (iT k)), (0, .t (lvsT r))]) (fun q => r.length - q.1) ⟨0, Nat.zero_le _, trivial⟩ ?_
  rintro ⟨i, hi, hp⟩
  dsimp only
  by_cases hlt : i < r.length
  · have h1 : (i : Int) < (r.length : Int) := by omega
    have h2 := wrap_succ hlt hl
    obtain ⟨e, hx⟩ : ∃ e, r[i]? = some e := ⟨_, List.getElem?_eq_getElem hlt⟩
    obtain rfl := hr e (List.mem_of_getElem? hx)
    repeat (first | apply Aw_seq | apply Aw_block | apply Aw_skip | apply Aw_exit | refine Aw_condt rfl ?_ | refine Aw_condf rfl ?_ | ((first | refine qr ?_ | refine qd (by kernel_rfl) (by kernel_rfl) ?_); simp only [go_sem, jE, reduceIte, jA, jM, jS, jL, jD, jB, h1, h2, hx, hn]) | refine dk (by kernel_rfl) ?_ | (refine qp (heldEntry0_ac k hk) (by simp only [go_sem, jE, reduceIte, jA, jM, jS, jL, jD, jB, h1, h2, hx, hn]; first | done | rfl) rfl (by simp only [go_sem, Nat.reduceLT]) rfl rfl ?_; simp only [go_sem, jE, reduceIte, jA, jM, jS, jL, jD, jB, h1, h2, hx, hn]))
    exact ⟨⟨i + 1, by omega, trivial⟩, (by simp only []; omega), rw0 (by repeat (first | exact trivial | refine ⟨rfl, rfl, ?_⟩))⟩
  · have h1 : ¬ (i : Int) < (r.length : Int) := by omega
    repeat (first | apply Aw_seq | apply Aw_block | apply Aw_skip | apply Aw_exit | refine Aw_condt rfl ?_ | refine Aw_condf rfl ?_ | ((first | refine qr ?_ | refine qd (by kernel_rfl) (by kernel_rfl) ?_); simp only [go_sem, jE, reduceIte, jA, jM, jS, jL, jD, jB, h1]) | refine dk (by kernel_rfl) ?_)
    exact Aw_ret (ret0 (.inl rfl) (by simp only [go_sem, jE, reduceIte, jA, jM, jS, jL, jD, jB]; rfl) (by rfl) rfl)
theorem mV_a (k : Nat) : (markV k).letters = markT k := rfl
theorem mV_b (k : Nat) : (markV k).more = markT (k + 1) := rfl
theorem mV_c (k : Nat) : (markV k).first = markT (k + 2) := rfl
theorem mV_d (k : Nat) : (markV k).rests = [] := rfl
theorem mV_e (k : Nat) : (markV k).keep = ((k + 3 : Nat) : Int) := rfl
theorem mnil : List.map strD [] = [] := rfl
theorem heldSieve0_ac (k n : Nat) (hk : k + 4 * n ≤ 1099511627776) : AC Try.prog 37 [svsT (mSves k n), iT k] noHp 0 ⟨.t (iT ((k + 4 * n : Nat) : Int)), noHp, 0⟩ := by
  refine AC_of Try.func37 rfl Try.ntmps37 Try.results37 (by kernel_rfl) rfl ?_
  simp only [List.zipIdx, List.map, Nat.zero_add, Nat.reduceAdd]
  have hl : (mSves k n).length = n := by simp [mSves]
  repeat (first | apply Aw_seq | apply Aw_block | apply Aw_skip | apply Aw_exit | refine Aw_condt rfl ?_ | refine Aw_condf rfl ?_ | ((first | refine qr ?_ | refine qd (by kernel_rfl) (by kernel_rfl) ?_); simp only [go_sem, jE, reduceIte, jA, jM, jS, jL, jD, jB]) | refine dk (by kernel_rfl) ?_)
  refine Aw.rw (rw0 (l' := [(5, .t (iT (0 : Nat))), (1, .t (iT ((k + 4 * 0 : Nat) : Int))), (0, .t (svsT (mSves k n)))]) (n' := 0) (by repeat (first | exact trivial | refine ⟨rfl, rfl, ?_⟩))) ?_
  refine Aw_loop0 (ι := { i : Nat // i ≤ n ∧ (True) }) (fun q => [(5, .t (iT (q.1 : Nat))), (1, .t (iT ((k + 4 * q.1 : Nat) : Int))), (0, .t (svsT (mSves k n)))]) (fun q => n - q.1) ⟨0, Nat.zero_le _, trivial⟩ ?_
  rintro ⟨i, hi, hp⟩
  dsimp only
  by_cases hlt : i < n
  · have h1 : (i : Int) < (n : Int) := by omega
    have h2 := wrap_succ hlt (by omega)
    have hx : (mSves k n)[i]? = some (markV (k + 4 * i)) := by simp [mSves, List.getElem?_map, List.getElem?_range hlt]
    have w1 : IntKind.i64.wrap (((k + 4 * i : Nat) : Int) + 1) = ((k + 4 * i + 1 : Nat) : Int) := wrap_succ (m := k + 4 * i + 1) (by omega) (by omega)
    have w2 : IntKind.i64.wrap (((k + 4 * i + 1 : Nat) : Int) + 1) = ((k + 4 * i + 2 : Nat) : Int) := wrap_succ (m := k + 4 * i + 2) (by omega) (by omega)
    have w3 : IntKind.i64.wrap (((k + 4 * i + 2 : Nat) : Int) + 1) = ((k + 4 * i + 3 : Nat) : Int) := wrap_succ (m := k + 4 * i + 3) (by omega) (by omega)
    have w4 : IntKind.i64.wrap (((k + 4 * i + 3 : Nat) : Int) + 1) = ((k + 4 * (i + 1) : Nat) : Int) := by rw [show k + 4 * (i + 1) = k + 4 * i + 4 by omega]; exact wrap_succ (m := k + 4 * i + 4) (by omega) (by omega)
    have k0 := markText_ac (k + 4 * i) (by omega)
    have k1 := markText_ac (k + 4 * i + 1) (by omega)
    have k2 := markText_ac (k + 4 * i + 2) (by omega)
    have k3 := heldStr0_ac (k + 4 * i + 3) (by omega)
    have hn := nneg (k + 4 * i + 3)
    repeat (first | apply Aw_seq | apply Aw_block | apply Aw_skip | apply Aw_exit | refine Aw_condt rfl ?_ | refine Aw_condf rfl ?_ | ((first | refine qr ?_ | refine qd (by kernel_rfl) (by kernel_rfl) ?_); simp only [go_sem, jE, reduceIte, jA, jM, jS, jL, jD, jB, h1, h2, hx, hl, iref, sref, bref, w1, w2, w3, w4, mV_a, mV_b, mV_c, mV_d, mV_e, mnil, hn]) | refine dk (by kernel_rfl) ?_ | (refine qp (k0) (by simp only [go_sem, jE, reduceIte, jA, jM, jS, jL, jD, jB, h1, h2, hx, hl, iref, sref, bref, w1, w2, w3, w4, mV_a, mV_b, mV_c, mV_d, mV_e, mnil, hn]; first | done | rfl) rfl (by simp only [go_sem, Nat.reduceLT]) rfl rfl ?_; simp only [go_sem, jE, reduceIte, jA, jM, jS, jL, jD, jB, h1, h2, hx, hl, iref, sref, bref, w1, w2, w3, w4, mV_a, mV_b, mV_c, mV_d, mV_e, mnil, hn]) | (refine qp (k1) (by simp only [go_sem, jE, reduceIte, jA, jM, jS, jL, jD, jB, h1, h2, hx, hl, iref, sref, bref, w1, w2, w3, w4, mV_a, mV_b, mV_c, mV_d, mV_e, mnil, hn]; first | done | rfl) rfl (by simp only [go_sem, Nat.reduceLT]) rfl rfl ?_; simp only [go_sem, jE, reduceIte, jA, jM, jS, jL, jD, jB, h1, h2, hx, hl, iref, sref, bref, w1, w2, w3, w4, mV_a, mV_b, mV_c, mV_d, mV_e, mnil, hn]) | (refine qp (k2) (by simp only [go_sem, jE, reduceIte, jA, jM, jS, jL, jD, jB, h1, h2, hx, hl, iref, sref, bref, w1, w2, w3, w4, mV_a, mV_b, mV_c, mV_d, mV_e, mnil, hn]; first | done | rfl) rfl (by simp only [go_sem, Nat.reduceLT]) rfl rfl ?_; simp only [go_sem, jE, reduceIte, jA, jM, jS, jL, jD, jB, h1, h2, hx, hl, iref, sref, bref, w1, w2, w3, w4, mV_a, mV_b, mV_c, mV_d, mV_e, mnil, hn]) | (refine qp (k3) (by simp only [go_sem, jE, reduceIte, jA, jM, jS, jL, jD, jB, h1, h2, hx, hl, iref, sref, bref, w1, w2, w3, w4, mV_a, mV_b, mV_c, mV_d, mV_e, mnil, hn]; first | done | rfl) rfl (by simp only [go_sem, Nat.reduceLT]) rfl rfl ?_; simp only [go_sem, jE, reduceIte, jA, jM, jS, jL, jD, jB, h1, h2, hx, hl, iref, sref, bref, w1, w2, w3, w4, mV_a, mV_b, mV_c, mV_d, mV_e, mnil, hn]))
    exact ⟨⟨i + 1, by omega, trivial⟩, (by simp only []; omega), rw0 (by repeat (first | exact trivial | refine ⟨rfl, rfl, ?_⟩))⟩
  · have h1 : ¬ (i : Int) < (n : Int) := by omega
    obtain rfl : i = n := by omega
    repeat (first | apply Aw_seq | apply Aw_block | apply Aw_skip | apply Aw_exit | refine Aw_condt rfl ?_ | refine Aw_condf rfl ?_ | ((first | refine qr ?_ | refine qd (by kernel_rfl) (by kernel_rfl) ?_); simp only [go_sem, jE, reduceIte, jA, jM, jS, jL, jD, jB, h1, hl]) | refine dk (by kernel_rfl) ?_)
    exact Aw_ret (ret0 (.inl rfl) (by simp only [go_sem, jE, reduceIte, jA, jM, jS, jL, jD, jB]; rfl) (by rfl) rfl)
-- idB
theorem markRs_get {l : List (List Ent)} {q i : Nat} {x : List Ent} (h : l[i]? = some x) : (markRs q l)[i]? = some (mEnts (kR q (l.take i)) x.length) := by
  have hi := (List.getElem?_eq_some_iff.1 h).1
  conv => lhs; rw [← List.take_append_drop i l, markRs_app, drop_get h]
  rw [List.getElem?_append_right (by rw [markRs_len]; simp; omega), markRs_len]
  simp [Nat.min_eq_left (Nat.le_of_lt hi), markRs]
theorem markSs_get {l : List Sve} {q i : Nat} {x : Sve} (h : l[i]? = some x) : (markSs q l)[i]? = some (markSv (kS q (l.take i)) x) := by
  have hi := (List.getElem?_eq_some_iff.1 h).1
  conv => lhs; rw [← List.take_append_drop i l, markSs_app, drop_get h]
  rw [List.getElem?_append_right (by rw [markSs_len]; simp; omega), markSs_len]
  simp [Nat.min_eq_left (Nat.le_of_lt hi), markSs]
theorem heldEntrySSM_ac (l : List (List Ent)) (q : Nat) (hl : l.length ≤ 1048576) (hq : kR q l ≤ 1099511627776) : AC Try.prog 36 [lvsT (markRs q l), iT q] noHp 0 ⟨.t (iT ((kR q l : Nat) : Int)), noHp, 0⟩ := by
  have gl := markRs_len l q
  refine AC_of Try.func36 rfl Try.ntmps36 Try.results36 (by kernel_rfl) rfl ?_
  simp only [List.zipIdx, List.map, Nat.zero_add, Nat.reduceAdd]
  repeat (first | apply Aw_seq | apply Aw_block | apply Aw_skip | apply Aw_exit | refine Aw_condt rfl ?_ | refine Aw_condf rfl ?_ | ((first | refine qr ?_ | refine qd (by kernel_rfl) (by kernel_rfl) ?_); simp only [go_sem, jE, reduceIte, jA, jM, jS, jL, jD, jB]) | refine dk (by kernel_rfl) ?_)
  refine Aw.rw (rwL (l' := [(5, .t (iT (0 : Nat))), (1, .t (iT ((kR q (l.take 0) : Nat) : Int))), (0, .t (lvsT (markRs q l)))]) (os := []) (M := []) (n' := 0) (by repeat (first | exact trivial | refine ⟨rfl, rfl, ?_⟩)) (by rfl) (by simp only [go_sem, jE, reduceIte, jA, jM, jS, jL, jD, jB]; first | done | rfl) (by decide) (idB rfl)) ?_
  refine Aw_loop_rw (ι := { j : Nat // j ≤ l.length }) (fun j => S [(5, .t (iT (j.1 : Nat))), (1, .t (iT ((kR q (l.take j.1) : Nat) : Int))), (0, .t (lvsT (markRs q l)))] (hpL []) 0) (fun j => l.length - j.1) ⟨0, Nat.zero_le _⟩ ?_
  rintro ⟨i, hi⟩
  dsimp only
  by_cases hlt : i < l.length
  · have h1 : (i : Int) < (l.length : Int) := by omega
    have h2 := wrap_succ hlt (by omega)
    obtain ⟨e, hx⟩ : ∃ e, l[i]? = some e := ⟨_, List.getElem?_eq_getElem hlt⟩
    have hk := kR_succ (q := q) hx
    have hle := kR_take l q (i + 1)
    have hm := markRs_get (q := q) hx
    have kk := heldEntryS_ac (kR q (l.take i)) e.length (by omega)
    rw [← hk] at kk
    have hn := nneg (kR q (l.take (i + 1)))
    generalize kR q (l.take i) = p at kk hm ⊢
    repeat (first | apply Aw_seq | apply Aw_block | apply Aw_skip | apply Aw_exit | refine Aw_condt rfl ?_ | refine Aw_condf rfl ?_ | ((first | refine qr ?_ | refine qd (by kernel_rfl) (by kernel_rfl) ?_); simp only [go_sem, jE, reduceIte, jA, jM, jS, jL, jD, jB, h1, h2, hm, gl, hn]) | refine dk (by kernel_rfl) ?_ | (refine qp (kk) (by simp only [go_sem, jE, reduceIte, jA, jM, jS, jL, jD, jB, h1, h2, hm, gl, hn]; first | done | rfl) rfl (by simp only [go_sem, Nat.reduceLT]) rfl rfl ?_; simp only [go_sem, jE, reduceIte, jA, jM, jS, jL, jD, jB, h1, h2, hm, gl, hn]))
    refine ⟨⟨i + 1, hlt⟩, [], ?_, rwL (by repeat (first | exact trivial | refine ⟨rfl, rfl, ?_⟩)) (by rfl) (by simp only [go_sem, jE, reduceIte, jA, jM, jS, jL, jD, jB]; first | done | rfl) (by decide) (idB rfl)⟩
    show l.length - (i + 1) < l.length - i; omega
  · have h1 : ¬ (i : Int) < (l.length : Int) := by omega
    obtain rfl : i = l.length := by omega
    rw [List.take_length]
    repeat (first | apply Aw_seq | apply Aw_block | apply Aw_skip | apply Aw_exit | refine Aw_condt rfl ?_ | refine Aw_condf rfl ?_ | ((first | refine qr ?_ | refine qd (by kernel_rfl) (by kernel_rfl) ?_); simp only [go_sem, jE, reduceIte, jA, jM, jS, jL, jD, jB, h1, gl]) | refine dk (by kernel_rfl) ?_)
    exact Aw_ret (ret0 (.inl rfl) (by simp only [go_sem, jE, reduceIte, jA, jM, jS, jL, jD, jB]; rfl) (by rfl) rfl)
theorem heldSieveSM_ac (l : List Sve) (q : Nat) (hl : l.length ≤ 1048576) (hq : kS q l ≤ 1099511627776) : AC Try.prog 37 [svsT (markSs q l), iT q] noHp 0 ⟨.t (iT ((kS q l : Nat) : Int)), noHp, 0⟩ := by
  have gl := markSs_len l q
  refine AC_of Try.func37 rfl Try.ntmps37 Try.results37 (by kernel_rfl) rfl ?_
  simp only [List.zipIdx, List.map, Nat.zero_add, Nat.reduceAdd]
  repeat (first | apply Aw_seq | apply Aw_block | apply Aw_skip | apply Aw_exit | refine Aw_condt rfl ?_ | refine Aw_condf rfl ?_ | ((first | refine qr ?_ | refine qd (by kernel_rfl) (by kernel_rfl) ?_); simp only [go_sem, jE, reduceIte, jA, jM, jS, jL, jD, jB]) | refine dk (by kernel_rfl) ?_)
  refine Aw.rw (rwL (l' := [(5, .t (iT (0 : Nat))), (1, .t (iT ((kS q (l.take 0) : Nat) : Int))), (0, .t (svsT (markSs q l)))]) (os := []) (M := []) (n' := 0) (by repeat (first | exact trivial | refine ⟨rfl, rfl, ?_⟩)) (by rfl) (by simp only [go_sem, jE, reduceIte, jA, jM, jS, jL, jD, jB]; first | done | rfl) (by decide) (idB rfl)) ?_
  refine Aw_loop_rw (ι := { j : Nat // j ≤ l.length }) (fun j => S [(5, .t (iT (j.1 : Nat))), (1, .t (iT ((kS q (l.take j.1) : Nat) : Int))), (0, .t (svsT (markSs q l)))] (hpL []) 0) (fun j => l.length - j.1) ⟨0, Nat.zero_le _⟩ ?_
  rintro ⟨i, hi⟩
  dsimp only
  by_cases hlt : i < l.length
  · have h1 : (i : Int) < (l.length : Int) := by omega
    have h2 := wrap_succ hlt (by omega)
    obtain ⟨e, hx⟩ : ∃ e, l[i]? = some e := ⟨_, List.getElem?_eq_getElem hlt⟩
    have hk := kS_succ (q := q) hx
    have hle := kS_take l q (i + 1)
    have hm := markSs_get (q := q) hx
    obtain ⟨p, hp⟩ : ∃ p, p = kS q (l.take i) := ⟨_, rfl⟩
    rw [← hp] at hk hm ⊢
    have w1 : IntKind.i64.wrap ((p : Int) + 1) = ((p + 1 : Nat) : Int) := wrap_succ (m := p + 1) (by omega) (by omega)
    have w2 : IntKind.i64.wrap (((p + 1 : Nat) : Int) + 1) = ((p + 2 : Nat) : Int) := wrap_succ (m := p + 2) (by omega) (by omega)
    have w3 : IntKind.i64.wrap (((p + 2 : Nat) : Int) + 1) = ((p + 3 : Nat) : Int) := wrap_succ (m := p + 3) (by omega) (by omega)
    have w4 : IntKind.i64.wrap (((p + 3 + e.rests.length : Nat) : Int) + 1) = ((kS q (l.take (i + 1)) : Nat) : Int) := by rw [hk, show p + 4 + e.rests.length = p + 3 + e.rests.length + 1 by omega]; exact wrap_succ (m := p + 3 + e.rests.length + 1) (by omega) (by omega)
    have k0 := markText_ac p (by omega)
    have k1 := markText_ac (p + 1) (by omega)
    have k2 := markText_ac (p + 2) (by omega)
    have k3 := heldStringS_ac (p + 3) e.rests.length (by omega)
    have hn := nneg (p + 3 + e.rests.length)
    have m1 : (markSv p e).letters = markT p := rfl
    have m2 : (markSv p e).more = markT (p + 1) := rfl
    have m3 : (markSv p e).first = markT (p + 2) := rfl
    have m4 : (markSv p e).rests = mStrs (p + 3) e.rests.length := rfl
    have m5 : (markSv p e).keep = ((p + 3 + e.rests.length : Nat) : Int) := rfl
    repeat (first | apply Aw_seq | apply Aw_block | apply Aw_skip | apply Aw_exit | refine Aw_condt rfl ?_ | refine Aw_condf rfl ?_ | ((first | refine qr ?_ | refine qd (by kernel_rfl) (by kernel_rfl) ?_); simp only [go_sem, jE, reduceIte, jA, jM, jS, jL, jD, jB, h1, h2, hm, gl, iref, sref, bref, w1, w2, w3, w4, m1, m2, m3, m4, m5, hn]) | refine dk (by kernel_rfl) ?_ | (refine qp (k0) (by simp only [go_sem, jE, reduceIte, jA, jM, jS, jL, jD, jB, h1, h2, hm, gl, iref, sref, bref, w1, w2, w3, w4, m1, m2, m3, m4, m5, hn]; first | done | rfl) rfl (by simp only [go_sem, Nat.reduceLT]) rfl rfl ?_; simp only [go_sem, jE, reduceIte, jA, jM, jS, jL, jD, jB, h1, h2, hm, gl, iref, sref, bref, w1, w2, w3, w4, m1, m2, m3, m4, m5, hn]) | (refine qp (k1) (by simp only [go_sem, jE, reduceIte, jA, jM, jS, jL, jD, jB, h1, h2, hm, gl, iref, sref, bref, w1, w2, w3, w4, m1, m2, m3, m4, m5, hn]; first | done | rfl) rfl (by simp only [go_sem, Nat.reduceLT]) rfl rfl ?_; simp only [go_sem, jE, reduceIte, jA, jM, jS, jL, jD, jB, h1, h2, hm, gl, iref, sref, bref, w1, w2, w3, w4, m1, m2, m3, m4, m5, hn]) | (refine qp (k2) (by simp only [go_sem, jE, reduceIte, jA, jM, jS, jL, jD, jB, h1, h2, hm, gl, iref, sref, bref, w1, w2, w3, w4, m1, m2, m3, m4, m5, hn]; first | done | rfl) rfl (by simp only [go_sem, Nat.reduceLT]) rfl rfl ?_; simp only [go_sem, jE, reduceIte, jA, jM, jS, jL, jD, jB, h1, h2, hm, gl, iref, sref, bref, w1, w2, w3, w4, m1, m2, m3, m4, m5, hn]) | (refine qp (k3) (by simp only [go_sem, jE, reduceIte, jA, jM, jS, jL, jD, jB, h1, h2, hm, gl, iref, sref, bref, w1, w2, w3, w4, m1, m2, m3, m4, m5, hn]; first | done | rfl) rfl (by simp only [go_sem, Nat.reduceLT]) rfl rfl ?_; simp only [go_sem, jE, reduceIte, jA, jM, jS, jL, jD, jB, h1, h2, hm, gl, iref, sref, bref, w1, w2, w3, w4, m1, m2, m3, m4, m5, hn]))
    refine ⟨⟨i + 1, hlt⟩, [], ?_, rwL (by repeat (first | exact trivial | refine ⟨rfl, rfl, ?_⟩)) (by rfl) (by simp only [go_sem, jE, reduceIte, jA, jM, jS, jL, jD, jB]; first | done | rfl) (by decide) (idB rfl)⟩
    show l.length - (i + 1) < l.length - i; omega
  · have h1 : ¬ (i : Int) < (l.length : Int) := by omega
    obtain rfl : i = l.length := by omega
    rw [List.take_length]
    repeat (first | apply Aw_seq | apply Aw_block | apply Aw_skip | apply Aw_exit | refine Aw_condt rfl ?_ | refine Aw_condf rfl ?_ | ((first | refine qr ?_ | refine qd (by kernel_rfl) (by kernel_rfl) ?_); simp only [go_sem, jE, reduceIte, jA, jM, jS, jL, jD, jB, h1, gl]) | refine dk (by kernel_rfl) ?_)
    exact Aw_ret (ret0 (.inl rfl) (by simp only [go_sem, jE, reduceIte, jA, jM, jS, jL, jD, jB]; rfl) (by rfl) rfl)
def markSt (q : Nat) (s : Sto) : Sto := ⟨mEnts q s.top.length, markRs (q + 4 * s.top.length) s.levels, markSs (kR (q + 4 * s.top.length) s.levels) s.sieves, s.keep, s.time, mInts (kS (kR (q + 4 * s.top.length) s.levels) s.sieves) s.times.length⟩
theorem heldStoreM_ac (s : Sto) (q : Nat) (hl : s.levels.length ≤ 1048576) (hs : s.sieves.length ≤ 1048576) (hq : cntS q s ≤ 1099511627776) : AC Try.prog 11 [stT (markSt q s), iT q] noHp 0 ⟨.t (iT ((cntS q s : Nat) : Int)), noHp, 0⟩ := by
  unfold cntS at hq ⊢
  unfold markSt
  have a1 := kR_le s.levels (q + 4 * s.top.length)
  have a2 := kS_le s.sieves (kR (q + 4 * s.top.length) s.levels)
  have k1 := heldEntryS_ac q s.top.length (by omega)
  have k2 := heldEntrySSM_ac s.levels (q + 4 * s.top.length) hl (by omega)
  have k3 := heldSieveSM_ac s.sieves (kR (q + 4 * s.top.length) s.levels) hs (by omega)
  have k4 := heldIntS_ac (kS (kR (q + 4 * s.top.length) s.levels) s.sieves) s.times.length hq
  have n1 := nneg (q + 4 * s.top.length)
  have n2 := nneg (kR (q + 4 * s.top.length) s.levels)
  have n3 := nneg (kS (kR (q + 4 * s.top.length) s.levels) s.sieves)
  have n4 := nneg (kS (kR (q + 4 * s.top.length) s.levels) s.sieves + s.times.length)
  generalize kS (kR (q + 4 * s.top.length) s.levels) s.sieves = q3 at k3 k4 n3 n4 ⊢
  generalize kR (q + 4 * s.top.length) s.levels = q2 at k2 k3 n2 ⊢
  generalize q + 4 * s.top.length = q1 at k1 k2 n1 ⊢
  refine AC_of Try.func11 rfl Try.ntmps11 Try.results11 (by kernel_rfl) rfl ?_
  simp only [List.zipIdx, List.map, Nat.zero_add, Nat.reduceAdd]
  repeat (first | apply Aw_seq | apply Aw_block | apply Aw_skip | apply Aw_exit | refine Aw_condt rfl ?_ | refine Aw_condf rfl ?_ | ((first | refine qr ?_ | refine qd (by kernel_rfl) (by kernel_rfl) ?_); simp only [go_sem, jE, reduceIte, jA, jM, jS, jL, jD, jB, n1, n2, n3, n4]) | refine dk (by kernel_rfl) ?_ | (refine qp (k1) (by simp only [go_sem, jE, reduceIte, jA, jM, jS, jL, jD, jB, n1, n2, n3, n4]; first | done | rfl) rfl (by simp only [go_sem, Nat.reduceLT]) rfl rfl ?_; simp only [go_sem, jE, reduceIte, jA, jM, jS, jL, jD, jB, n1, n2, n3, n4]) | (refine qp (k2) (by simp only [go_sem, jE, reduceIte, jA, jM, jS, jL, jD, jB, n1, n2, n3, n4]; first | done | rfl) rfl (by simp only [go_sem, Nat.reduceLT]) rfl rfl ?_; simp only [go_sem, jE, reduceIte, jA, jM, jS, jL, jD, jB, n1, n2, n3, n4]) | (refine qp (k3) (by simp only [go_sem, jE, reduceIte, jA, jM, jS, jL, jD, jB, n1, n2, n3, n4]; first | done | rfl) rfl (by simp only [go_sem, Nat.reduceLT]) rfl rfl ?_; simp only [go_sem, jE, reduceIte, jA, jM, jS, jL, jD, jB, n1, n2, n3, n4]) | (refine qp (k4) (by simp only [go_sem, jE, reduceIte, jA, jM, jS, jL, jD, jB, n1, n2, n3, n4]; first | done | rfl) rfl (by simp only [go_sem, Nat.reduceLT]) rfl rfl ?_; simp only [go_sem, jE, reduceIte, jA, jM, jS, jL, jD, jB, n1, n2, n3, n4]))
  exact Aw_ret (ret0 (.inl rfl) (by simp only [go_sem, jE, reduceIte, jA, jM, jS, jL, jD, jB]; rfl) (by rfl) rfl)
theorem toStoreO_ac (top a b c : List Ent) (x y z : Sve) (keep time : Int) (ts : List Int) (h : midT ⟨top, [a, b, c], [x, y, z], keep, time, ts⟩) : AC Try.prog 7 [stT ⟨top, [a, b, c], [x, y, z], keep, time, ts⟩] noHp 0 ⟨.t (.agg [.h 0, .h 1, .h 2, .d (.s (.int .i64 keep)), .d (.s (.int .i64 time)), .h 3]), hpL (cloS top a b c x y z ts), 10⟩ := by
  have k1 := toEntrySR_ac top h.top
  have k2 : AC Try.prog 22 [lvsT [a, b, c]] noHp 0 ⟨.t (.c (.h 0)), hpL [some ⟨29, 1, true, [[.h 1], [.h 2], [.h 3]]⟩, some (eRow a), some (eRow b), some (eRow c)], 4⟩ := toEntrySSO_ac [a, b, c] h.ll h.levels
  have k3 : AC Try.prog 23 [svsT [x, y, z]] noHp 0 ⟨.t (.c (.h 0)), hpL [some ⟨78, 5, true, [svN x 1, svN y 2, svN z 3]⟩, some (kRow x.rests), some (kRow y.rests), some (kRow z.rests)], 4⟩ := toSieveSO_ac [x, y, z] h.sl h.sieves
  have k4 := toIntSR_ac ts h.times
  unfold cloS svN
  unfold svN at k3
  refine AC_of Try.func7 rfl Try.ntmps7 Try.results7 (by kernel_rfl) rfl ?_
  simp only [List.zipIdx, List.map, Nat.zero_add, Nat.reduceAdd]
  repeat (first | apply Aw_seq | apply Aw_block | apply Aw_skip | apply Aw_exit | refine Aw_condt rfl ?_ | refine Aw_condf rfl ?_ | ((first | refine qr ?_ | refine qd (by kernel_rfl) (by kernel_rfl) ?_); simp only [go_sem, jE, reduceIte, jA, jM, jS, jL, jD, jB]) | refine dk (by kernel_rfl) ?_ | (refine qx (call_N (L := []) (k1) rfl (.cons (.nm rfl) (.nil)) (.inl rfl) rfl) (by simp only [go_sem, jE, reduceIte, jA, jM, jS, jL, jD, jB]; first | done | rfl) rfl (by simp only [go_sem, Nat.reduceLT]) ?_; simp only [go_sem, jE, reduceIte, jA, jM, jS, jL, jD, jB]) | (refine qx (call_N (L := []) (k2) rfl (.cons (.nm rfl) (.nil)) (.inl rfl) rfl) (by simp only [go_sem, jE, reduceIte, jA, jM, jS, jL, jD, jB]; first | done | rfl) rfl (by simp only [go_sem, Nat.reduceLT]) ?_; simp only [go_sem, jE, reduceIte, jA, jM, jS, jL, jD, jB]) | (refine qx (call_N (L := []) (k3) rfl (.cons (.nm rfl) (.nil)) (.inl rfl) rfl) (by simp only [go_sem, jE, reduceIte, jA, jM, jS, jL, jD, jB]; first | done | rfl) rfl (by simp only [go_sem, Nat.reduceLT]) ?_; simp only [go_sem, jE, reduceIte, jA, jM, jS, jL, jD, jB]) | (refine qx (call_N (L := []) (k4) rfl (.cons (.nm rfl) (.nil)) (.inl rfl) rfl) (by simp only [go_sem, jE, reduceIte, jA, jM, jS, jL, jD, jB]; first | done | rfl) rfl (by simp only [go_sem, Nat.reduceLT]) ?_; simp only [go_sem, jE, reduceIte, jA, jM, jS, jL, jD, jB]))
  exact Aw_ret (retL (M := [5, 10, 18, 34, 11, 12, 13, 19, 20, 21]) (.inl rfl) (by simp only [go_sem, jE, reduceIte, jA, jM, jS, jL, jD, jB]; first | done | rfl) rfl rfl (by rfl) (by simp only [go_sem, jE, reduceIte, jA, jM, jS, jL, jD, jB]; first | done | rfl | (and_intros <;> rfl)) (by decide) (idB rfl))
theorem markStoreO_ac (top a b c : List Ent) (x y z : Sve) (keep time : Int) (ts : List Int) (q : Nat) (hq : cntS q ⟨top, [a, b, c], [x, y, z], keep, time, ts⟩ ≤ 1099511627776) :
    AC Try.prog 10 [.agg [.h 0, .h 1, .h 2, .d (.s (.int .i64 keep)), .d (.s (.int .i64 time)), .h 3], iT q] (hpL (cloS top a b c x y z ts)) 10 ⟨.t (iT ((cntS q ⟨top, [a, b, c], [x, y, z], keep, time, ts⟩ : Nat) : Int)), hpL (cloS (mEnts q top.length) (mEnts (q + 4 * top.length) a.length) (mEnts (q + 4 * top.length + 4 * a.length) b.length) (mEnts (q + 4 * top.length + 4 * a.length + 4 * b.length) c.length)
      (markSv (kR (q + 4 * top.length) [a, b, c]) x) (markSv (kR (q + 4 * top.length) [a, b, c] + 4 + x.rests.length) y) (markSv (kR (q + 4 * top.length) [a, b, c] + 4 + x.rests.length + 4 + y.rests.length) z) (mInts (kS (kR (q + 4 * top.length) [a, b, c]) [x, y, z]) ts.length)), 10⟩ := by
  unfold cntS at hq ⊢
  dsimp only at hq ⊢
  have a1 := kR_le [a, b, c] (q + 4 * top.length)
  have a2 := kS_le [x, y, z] (kR (q + 4 * top.length) [a, b, c])
  have k1 := markEntryS_ac top q (by omega)
  have k2 : AC Try.prog 32 [.c (.h 0), iT ((q + 4 * top.length : Nat) : Int)] (hpL [some ⟨29, 1, true, [[.h 1], [.h 2], [.h 3]]⟩, some (eRow a), some (eRow b), some (eRow c)]) 4 ⟨.t (iT ((kR (q + 4 * top.length) [a, b, c] : Nat) : Int)), hpL [some ⟨29, 1, true, [[.h 1], [.h 2], [.h 3]]⟩, some (eRow (mEnts (q + 4 * top.length) a.length)), some (eRow (mEnts (q + 4 * top.length + 4 * a.length) b.length)), some (eRow (mEnts (q + 4 * top.length + 4 * a.length + 4 * b.length) c.length))], 4⟩ := markEntrySSO_ac [a, b, c] (q + 4 * top.length) (by simp) (by omega)
  generalize kR (q + 4 * top.length) [a, b, c] = q2 at a1 a2 hq k2 ⊢
  have k3 : AC Try.prog 33 [.c (.h 0), iT (q2 : Nat)] (hpL [some ⟨78, 5, true, [svN x 1, svN y 2, svN z 3]⟩, some (kRow x.rests), some (kRow y.rests), some (kRow z.rests)]) 4 ⟨.t (iT ((kS q2 [x, y, z] : Nat) : Int)), hpL [some ⟨78, 5, true, [svN (markSv q2 x) 1, svN (markSv (q2 + 4 + x.rests.length) y) 2, svN (markSv (q2 + 4 + x.rests.length + 4 + y.rests.length) z) 3]⟩, some (kRow (markSv q2 x).rests), some (kRow (markSv (q2 + 4 + x.rests.length) y).rests), some (kRow (markSv (q2 + 4 + x.rests.length + 4 + y.rests.length) z).rests)], 4⟩ := markSieveSO_ac [x, y, z] q2 (by simp) (by omega)
  have k4 := markIntS_ac ts (kS q2 [x, y, z]) (by omega)
  generalize kS q2 [x, y, z] = q3 at k3 k4 ⊢
  generalize markSv q2 x = x' at k3 ⊢
  generalize markSv (q2 + 4 + x.rests.length) y = y' at k3 ⊢
  generalize markSv (q2 + 4 + x.rests.length + 4 + y.rests.length) z = z' at k3 ⊢
  generalize mEnts (q + 4 * top.length + 4 * a.length + 4 * b.length) c.length = c' at k2 ⊢
  generalize mEnts (q + 4 * top.length + 4 * a.length) b.length = b' at k2 ⊢
  generalize mEnts (q + 4 * top.length) a.length = a' at k2 ⊢
  generalize mEnts q top.length = t' at k1 ⊢
  generalize mInts q3 ts.length = i' at k4 ⊢
  unfold cloS svN
  unfold svN at k3
  refine AC_of Try.func10 rfl Try.ntmps10 Try.results10 (by kernel_rfl) rfl ?_
  simp only [List.zipIdx, List.map, Nat.zero_add, Nat.reduceAdd]
  repeat (first | apply Aw_seq | apply Aw_block | apply Aw_skip | apply Aw_exit | refine Aw_condt rfl ?_ | refine Aw_condf rfl ?_ | ((first | refine qr ?_ | refine qd (by kernel_rfl) (by kernel_rfl) ?_); simp only [go_sem, jE, reduceIte, jA, jM, jS, jL, jD, jB]) | refine dk (by kernel_rfl) ?_ | (refine qx (call_L (N' := [0]) (L := []) (k1) rfl (.cons (.nm rfl) (.cons (.nm rfl) (.nil))) (by decide) (by decide) (by decide) (by simp only [go_sem, jE, reduceIte, jA, jM, jS, jL, jD, jB]; first | done | rfl) (.inl rfl) rfl (by decide)) (by simp only [go_sem, jE, reduceIte, jA, jM, jS, jL, jD, jB]; first | done | rfl) rfl (by simp only [go_sem, Nat.reduceLT]) ?_; simp only [go_sem, jE, reduceIte, jA, jM, jS, jL, jD, jB]) | (refine qx (call_L (N' := [1, 4, 5, 6]) (L := []) (k2) rfl (.cons (.nm rfl) (.cons (.nm rfl) (.nil))) (by decide) (by decide) (by decide) (by simp only [go_sem, jE, reduceIte, jA, jM, jS, jL, jD, jB]; first | done | rfl) (.inl rfl) rfl (by decide)) (by simp only [go_sem, jE, reduceIte, jA, jM, jS, jL, jD, jB]; first | done | rfl) rfl (by simp only [go_sem, Nat.reduceLT]) ?_; simp only [go_sem, jE, reduceIte, jA, jM, jS, jL, jD, jB]) | (refine qx (call_L (N' := [2, 7, 8, 9]) (L := []) (k3) rfl (.cons (.nm rfl) (.cons (.nm rfl) (.nil))) (by decide) (by decide) (by decide) (by simp only [go_sem, jE, reduceIte, jA, jM, jS, jL, jD, jB]; first | done | rfl) (.inl rfl) rfl (by decide)) (by simp only [go_sem, jE, reduceIte, jA, jM, jS, jL, jD, jB]; first | done | rfl) rfl (by simp only [go_sem, Nat.reduceLT]) ?_; simp only [go_sem, jE, reduceIte, jA, jM, jS, jL, jD, jB]) | (refine qx (call_L (N' := [3]) (L := []) (k4) rfl (.cons (.nm rfl) (.cons (.nm rfl) (.nil))) (by decide) (by decide) (by decide) (by simp only [go_sem, jE, reduceIte, jA, jM, jS, jL, jD, jB]; first | done | rfl) (.inl rfl) rfl (by decide)) (by simp only [go_sem, jE, reduceIte, jA, jM, jS, jL, jD, jB]; first | done | rfl) rfl (by simp only [go_sem, Nat.reduceLT]) ?_; simp only [go_sem, jE, reduceIte, jA, jM, jS, jL, jD, jB]))
  exact Aw_ret (retL (M := [0, 1, 2, 3, 4, 5, 6, 7, 8, 9]) (.inl rfl) (by simp only [go_sem, jE, reduceIte, jA, jM, jS, jL, jD, jB]; first | done | rfl) rfl rfl (by rfl) (by simp only [go_sem, jE, reduceIte, jA, jM, jS, jL, jD, jB]; first | done | rfl | (and_intros <;> rfl)) (by decide) (idB rfl))
theorem AC.toL {P : Program} {f : FuncId} {args : List TV} {x : AV} (h : AC P f args noHp 0 ⟨x, noHp, 0⟩) : AC P f args noHp 0 ⟨x, hpL [], 0⟩ := by rw [hpL_nil]; exact h
open Go Go.Proofs Go.Deep Go.WideShapes Go.ChangeShapes Go.RowKit
theorem cell_lt {w : World} {a : Addr} {v : Value} (h : w.cell? a = some v) : a.block < w.heap.size := by
  apply Classical.byContradiction
  intro hn
  have : w.heap[a.block]? = none := Array.getElem?_eq_none (by omega)
  simp [World.cell?, this] at h
/-- What is read as data of type t is, cell by cell, the data that f tells of a value that is ok. -/
structure RdB {α : Type} (P : Program) (t : TypeId) (f : α → List D) (ok : α → Prop) : Prop where
  down : ∀ {H : Type} {enc : TypeId × Value → H} {w : World} {base : Nat} {spare : Nat → Bool} {held : Bool} {fuel : Nat} {cs : List Value} {x : DataW H × List MemPlace},
    DataW.trod enc P w base spare held fuel t cs = some x → ∃ y, All2 (RepD w (· < w.heap.size)) (f y) cs ∧ ok y
theorem RdB.int {P : Program} {t : TypeId} {k : IntKind} (ht : P.underlying t = some (.int k)) : RdB P t (fun n : Int => [.s (.int k n)]) (fun n => (Lit.int k n).wf = true) :=
  ⟨fun h => by obtain ⟨n, rfl, _, hw⟩ := DataW.trod_int ht h; exact ⟨n, .cons (.s rfl) .nil, hw⟩⟩
theorem RdB.bool {P : Program} {t : TypeId} (ht : P.underlying t = some .bool) : RdB P t (fun b : Bool => [.s (.bool b)]) (fun _ => True) :=
  ⟨fun h => by obtain ⟨b, rfl, _⟩ := DataW.trod_bool ht h; exact ⟨b, .cons (.s rfl) .nil, trivial⟩⟩
theorem RdB.str {P : Program} {t : TypeId} (ht : P.underlying t = some .string) : RdB P t (fun s : ByteArray => [.s (.string s)]) (fun s => s.size ≤ maxLen) :=
  ⟨fun h => by obtain ⟨s, rfl, _, hs⟩ := DataW.trod_string ht h; exact ⟨s, .cons (.s rfl) .nil, hs⟩⟩
theorem RdB.slice {α : Type} {P : Program} {t e k : Nat} {f : α → List D} {ok : α → Prop} (ht : P.underlying t = some (.slice e)) (hc : P.cellsOf e = k) (hd : RdB P e f ok) :
    RdB P t (fun xs : List α => [.rs k (xs.map f)]) (fun xs => xs.length ≤ maxLen ∧ ∀ x ∈ xs, ok x) := by
  refine ⟨fun {H enc w base spare held fuel cs x} h => ?_⟩
  rcases open_slice ht h with ⟨rfl, rfl⟩ | ⟨a, len, cap, m, n, D, Pl, rfl, hb, hl, hm, hmm, rfl, hx⟩
  · exact ⟨[], .cons (.rs (A := none) (cap := 0) (fun _ _ => .bool false) (Nat.le_refl _) (Nat.zero_le _) (by simp) (fun i j hi => absurd hi (by simp)) (fun i j cs x hi => by simp at hi)) .nil, by simp, by simp⟩
  · have hlm : len ≤ m := by rw [hmm]; split <;> omega
    have hy : ∀ i : _root_.Fin len, ∃ y, ∃ cs', w.cells? base (a.add (i.1 * P.cellsOf e)) (P.cellsOf e) = some cs' ∧ All2 (RepD w (· < w.heap.size)) (f y) cs' ∧ ok y := fun i => by
      obtain ⟨cs', h1, h2⟩ := hx i.1 (by omega)
      obtain ⟨y, h3, h4⟩ := hd.down h2
      exact ⟨y, cs', h1, h3, h4⟩
    have hsp : ∀ i : _root_.Fin len, ∃ cs', w.cells? base (a.add (i.1 * P.cellsOf e)) (P.cellsOf e) = some cs' ∧ All2 (RepD w (· < w.heap.size)) (f (Classical.choose (hy i))) cs' ∧ ok (Classical.choose (hy i)) := fun i => Classical.choose_spec (hy i)
    have hlen : (List.ofFn fun i : _root_.Fin len => Classical.choose (hy i)).length = len := List.length_ofFn
    have hget : ∀ {j : Nat} {p : α}, (List.ofFn fun i : _root_.Fin len => Classical.choose (hy i))[j]? = some p → ∃ cs', w.cells? base (a.add (j * k)) k = some cs' ∧ All2 (RepD w (· < w.heap.size)) (f p) cs' := fun {j p} hj => by
      have hjl : j < len := by
        have := (List.getElem?_eq_some_iff.1 hj).1
        rwa [hlen] at this
      rw [List.getElem?_ofFn, dif_pos hjl] at hj
      obtain rfl := Option.some.inj hj
      obtain ⟨cs', h1, h2, _⟩ := hsp ⟨j, hjl⟩
      rw [hc] at h1
      exact ⟨cs', h1, h2⟩
    have hbk : ∀ n, (a.add n).block = a.block := fun n => by unfold Addr.add; split <;> rfl
    have hcell : ∀ i, i < len → ∃ cs' : List Value, cs'.length = k ∧ ∀ j, j < k → w.cell? (a.add (i * k + j)) = cs'[j]? := fun i hi => by
      obtain ⟨cs', h1, _⟩ := hsp ⟨i, hi⟩
      rw [hc] at h1
      obtain ⟨_, h3, h4⟩ := World.cells?_some h1
      refine ⟨cs', h3, fun j hj => ?_⟩
      have := h4 j hj
      rw [Deep.add_add] at this
      exact this
    refine ⟨List.ofFn fun i : _root_.Fin len => Classical.choose (hy i), .cons ?_ .nil, by rw [hlen]; omega, ?_⟩
    · have := RepD.rs (w := w) (S := (· < w.heap.size)) (k := k) (els := (List.ofFn fun i : _root_.Fin len => Classical.choose (hy i)).map f) (A := some a) (cap := cap) (fun i j => (w.cell? (a.add (i * k + j))).getD (.bool false)) (by rw [List.length_map, hlen]; exact hl) hm ?_ ?_ ?_
      · rw [List.length_map, hlen] at this; exact this
      · intro cs hcs
        obtain ⟨p, hp, rfl⟩ := List.mem_map.1 hcs
        obtain ⟨j, hj⟩ := List.mem_iff_getElem?.1 hp
        obtain ⟨cs', h1, h2⟩ := hget hj
        rw [h2.len]; exact (World.cells?_some h1).2.1
      · intro i j hi hj
        rw [List.length_map, hlen] at hi
        obtain ⟨cs', h1, h2⟩ := hcell i hi
        have h3 := h2 j hj
        rw [List.getElem?_eq_getElem (by omega)] at h3
        refine ⟨a, rfl, ?_, ?_⟩
        · have := cell_lt h3; rwa [hbk] at this
        · simp only [h3]; rfl
      · intro i j cs x hi hj
        rw [List.getElem?_map] at hi
        obtain ⟨p, hp, rfl⟩ := Option.map_eq_some_iff.1 hi
        obtain ⟨cs', h1, h2⟩ := hget hp
        obtain ⟨_, h3, h4⟩ := World.cells?_some h1
        obtain ⟨v, hv, hr⟩ := h2.get hj
        have hjk : j < k := by have := (List.getElem?_eq_some_iff.1 hv).1; omega
        have := h4 j hjk
        rw [Deep.add_add, hv] at this
        simp only [this]
        exact hr
    · intro x hx
      obtain ⟨i, rfl⟩ := List.mem_ofFn.1 hx
      exact (hsp i).choose_spec.2.2
/-- The fields of a struct, from a cell on. -/
structure FRdB {α : Type} (P : Program) (off : Nat) (fs : List Field) (sz : Nat) (f : α → List D) (ok : α → Prop) : Prop where
  down : ∀ {H : Type} {enc : TypeId × Value → H} {w : World} {base : Nat} {spare : Nat → Bool} {held : Bool} {n : Nat} {cs : List Value} (ys : List (DataW H × List MemPlace)),
    cs.length = off + sz → ys.length = fs.length → (∀ (i : Nat) (f : Field), fs[i]? = some f → DataW.trod enc P w base spare held n f.type ((cs.drop f.offset).take (P.cellsOf f.type)) = ys[i]?) → ∃ y, All2 (RepD w (· < w.heap.size)) (f y) (cs.drop off) ∧ ok y
theorem FRdB.last {α : Type} {P : Program} {off sz : Nat} {f : Field} {d : α → List D} {ok : α → Prop} (ho : f.offset = off) (hc : P.cellsOf f.type = sz) (hd : RdB P f.type d ok) : FRdB P off [f] sz d ok := by
  refine ⟨fun {H enc w base spare held n cs} ys hl hy h => ?_⟩
  have h0 := h 0 f rfl
  rw [ho, hc, List.take_of_length_le (by rw [List.length_drop]; omega)] at h0
  have h1 : 0 < ys.length := by rw [hy]; simp
  rw [List.getElem?_eq_getElem h1] at h0
  exact hd.down h0
theorem FRdB.cons {α β : Type} {P : Program} {off sa sb : Nat} {f : Field} {fs : List Field} {a : α → List D} {b : β → List D} {oka : α → Prop} {okb : β → Prop} (ho : f.offset = off) (hc : P.cellsOf f.type = sa) (ha : RdB P f.type a oka) (hb : FRdB P (off + sa) fs sb b okb) :
    FRdB P off (f :: fs) (sa + sb) (fun y : α × β => a y.1 ++ b y.2) (fun y => oka y.1 ∧ okb y.2) := by
  refine ⟨fun {H enc w base spare held n cs} ys hl hy h => ?_⟩
  have h0 := h 0 f rfl
  rw [ho, hc] at h0
  match ys, hy with
  | [], hy => simp at hy
  | y0 :: ys, hy =>
    obtain ⟨x, h1, h2⟩ := ha.down (x := y0) h0
    obtain ⟨z, h3, h4⟩ := hb.down (cs := cs) ys (by omega) (by simpa using hy) (fun i g hg => by simpa using h (i + 1) g (by simpa using hg))
    refine ⟨(x, z), ?_, h2, h4⟩
    have := h1.app h3
    rw [← List.drop_drop, List.take_append_drop] at this
    exact this
theorem RdB.struct {α : Type} {P : Program} {t sz : Nat} {fs : Array Field} {d : α → List D} {ok : α → Prop} (ht : P.underlying t = some (.struct fs)) (hc : P.cellsOf t = sz) (hf : FRdB P 0 fs.toList sz d ok) : RdB P t d ok := by
  refine ⟨fun {H enc w base spare held fuel cs x} h => ?_⟩
  obtain ⟨xs, n, _, _, hl, hx, hi⟩ := DataW.trod_struct ht h
  have := hf.down (cs := cs) xs (by omega) (by simpa using hx) (fun i f hf => hi i f (by simpa using hf))
  simpa using this
theorem RdB.iso {α β : Type} {P : Program} {t : TypeId} {d : α → List D} {d' : β → List D} {ok : α → Prop} {ok' : β → Prop} (g : α → β) (hd : RdB P t d ok) (hg : ∀ x, d' (g x) = d x) (hk : ∀ x, ok x → ok' (g x)) : RdB P t d' ok' :=
  ⟨fun h => by
    obtain ⟨x, h1, h2⟩ := hd.down h
    exact ⟨g x, by rw [hg]; exact h1, hk x h2⟩⟩
/-- An argument that is a struct; one that is a slice. -/
theorem RdB.argS {α H : Type} {enc : TypeId × Value → H} {P : Program} {w : World} {base : Nat} {spare : Nat → Bool} {held : Bool} {t : TypeId} {d : α → List D} {ok : α → Prop} {cs : Array Value} {x : DataW H} {p : List MemPlace}
    (hd : RdB P t d ok) (h : DataW.Trod enc P w base spare held t (.agg cs) x p) : ∃ y : α, All2 (RepD w (· < w.heap.size)) (d y) cs.toList ∧ ok y := by
  obtain ⟨fuel, hf⟩ := h
  exact hd.down hf
/-- A law's contract, of data alone: it gives its value, and leaves what was there. -/
theorem AC.run {P : Program} {f : FuncId} {args : List TV} {b : Bool} {n : Nat} (h : AC P f args noHp 0 ⟨.t (bT b), noHp, n⟩) {W : World} {vs : List Value} (hv : All2 (RepT ⟨W, fun _ => 0, fun _ => .bool false, fun _ => 0, (· < W.heap.size), fun _ => False⟩) args vs) :
    Calls P f vs.toArray W fun e W' => e = .returned (.bool b) ∧ Below W.heap.size W W' := by
  have g : Good ⟨W, fun _ => 0, fun _ => .bool false, fun _ => 0, (· < W.heap.size), fun _ => False⟩ noHp := by
    refine ⟨fun m o hm => ?_, fun m o hm => ?_, fun b hb => ?_, fun m o m' o' b hm => ?_, fun b hb => hb⟩
    · simp [noHp] at hm
    · simp [noHp] at hm
    · obtain ⟨m, o, hm, _⟩ := hb; simp [noHp] at hm
    · simp [noHp] at hm
  refine Calls.mono (h.2 _ vs g (fun m hm => hm.elim) hv) fun e w' => ?_
  rintro ⟨v, c', rfl, rfl, t, _, r, _⟩
  refine ⟨by rw [show v = .bool b by cases r; rfl], t.os, t.tape, t.output, t.size, fun k hk => t.keep k hk ?_⟩
  rintro ⟨m, o, hm, _⟩
  simp [noHp] at hm
theorem rep_agg {W : World} {c : Cx} {cs : List D} {vs : Array Value} (hc : c.w = W) (hS : c.S = (· < W.heap.size)) (h : All2 (RepD W (· < W.heap.size)) cs vs.toList) : RepT c (.agg (cs.map .d)) (.agg vs) :=
  ⟨vs.toList, by simp, All2.map_left (h.imp fun a b hab => by subst hc; rw [← hS] at hab; exact hab)⟩
set_option maxRecDepth 100000
def w64 (n : Int) : Prop := (Lit.int .i64 n).wf = true
structure okE (e : Ent) : Prop where
  key : big e.key.size
  val : w64 e.val
  time : w64 e.time
def okR (r : List Ent) : Prop := big r.length ∧ ∀ e ∈ r, okE e
def okS (s : Sve) : Prop := bigS s ∧ w64 s.keep
structure okT (s : Sto) : Prop where
  top : okR s.top
  ll : big s.levels.length
  levels : ∀ e ∈ s.levels, okR e
  sl : big s.sieves.length
  sieves : ∀ e ∈ s.sieves, okS e
  times : big s.times.length
  keep : w64 s.keep
  time : w64 s.time
  tw : ∀ t ∈ s.times, w64 t
theorem okR.big {r : List Ent} (h : okR r) : bigR r := ⟨h.1, fun e he => (h.2 e he).key⟩
theorem okT.big {s : Sto} (h : okT s) : bigT s := ⟨h.top.big, h.ll, fun e he => (h.levels e he).big, h.sl, fun e he => (h.sieves e he).1, h.times⟩
theorem rdEnt : RdB Try.prog 69 entD okE :=
  RdB.iso (fun x : ByteArray × Int × Bool × Int => (⟨x.1, x.2.1, x.2.2.1, x.2.2.2⟩ : Ent)) (RdB.struct Try.underlying69 (by kernel_rfl) (FRdB.cons (sa := 1) rfl (by kernel_rfl) (RdB.str Try.underlying9) (FRdB.cons (sa := 1) rfl (by kernel_rfl) (RdB.int Try.underlying3) (FRdB.cons (sa := 1) rfl (by kernel_rfl) (RdB.bool Try.underlying4) (FRdB.last (sz := 1) rfl (by kernel_rfl) (RdB.int Try.underlying3)))))) (fun _ => rfl) (fun x h => ⟨h.1, h.2.1, h.2.2.2⟩)
theorem rdRun : RdB Try.prog 22 (fun r => [.rs 4 (r.map entD)]) okR := RdB.slice Try.underlying22 (by kernel_rfl) rdEnt
theorem rdSve : RdB Try.prog 73 sveD okS :=
  RdB.iso (fun x : ByteArray × ByteArray × ByteArray × List ByteArray × Int => (⟨x.1, x.2.1, x.2.2.1, x.2.2.2.1, x.2.2.2.2⟩ : Sve)) (RdB.struct Try.underlying73 (by kernel_rfl) (FRdB.cons (sa := 1) rfl (by kernel_rfl) (RdB.str Try.underlying9) (FRdB.cons (sa := 1) rfl (by kernel_rfl) (RdB.str Try.underlying9) (FRdB.cons (sa := 1) rfl (by kernel_rfl) (RdB.str Try.underlying9) (FRdB.cons (sa := 1) rfl (by kernel_rfl) (RdB.slice Try.underlying71 (by kernel_rfl) (RdB.str Try.underlying9)) (FRdB.last (sz := 1) rfl (by kernel_rfl) (RdB.int Try.underlying3))))))) (fun _ => rfl) (fun x h => ⟨⟨h.1, h.2.1, h.2.2.1, h.2.2.2.1.1, h.2.2.2.1.2⟩, h.2.2.2.2⟩)
def stC (s : Sto) : List D := [.rs 4 (s.top.map entD), .rs 1 (s.levels.map lvD), .rs 5 (s.sieves.map sveD), .s (.int .i64 s.keep), .s (.int .i64 s.time), .rs 1 (s.times.map intD)]
theorem rdSto : RdB Try.prog 27 stC okT :=
  RdB.iso (fun x : List Ent × List (List Ent) × List Sve × Int × Int × List Int => (⟨x.1, x.2.1, x.2.2.1, x.2.2.2.1, x.2.2.2.2.1, x.2.2.2.2.2⟩ : Sto)) (RdB.struct Try.underlying27 (by kernel_rfl) (FRdB.cons (sa := 1) rfl (by kernel_rfl) rdRun (FRdB.cons (sa := 1) rfl (by kernel_rfl) (RdB.slice Try.underlying23 (by kernel_rfl) rdRun) (FRdB.cons (sa := 1) rfl (by kernel_rfl) (RdB.slice Try.underlying24 (by kernel_rfl) rdSve) (FRdB.cons (sa := 1) rfl (by kernel_rfl) (RdB.int Try.underlying3) (FRdB.cons (sa := 1) rfl (by kernel_rfl) (RdB.int Try.underlying3) (FRdB.last (sz := 1) rfl (by kernel_rfl) (RdB.slice Try.underlying25 (by kernel_rfl) (RdB.int Try.underlying3)))))))))
    (fun _ => rfl) (fun x h => ⟨h.1, h.2.1.1, h.2.1.2, h.2.2.1.1, h.2.2.1.2, h.2.2.2.2.2.1, h.2.2.2.1, h.2.2.2.2.1, h.2.2.2.2.2.2⟩)
theorem rep_st {W : World} {c : Cx} {s : Sto} {vs : Array Value} (hc : c.w = W) (hS : c.S = (· < W.heap.size)) (h : All2 (RepD W (· < W.heap.size)) (stC s) vs.toList) : RepT c (stT s) (.agg vs) := rep_agg hc hS h
set_option maxRecDepth 10000
theorem markSieveE_ac (k : Nat) : AC Try.prog 33 [svsT [], iT k] noHp 0 ⟨.t (iT k), noHp, 0⟩ := by
  refine AC_of Try.func33 rfl Try.ntmps33 Try.results33 (by kernel_rfl) rfl ?_
  simp only [List.zipIdx, List.map, Nat.zero_add, Nat.reduceAdd]
  repeat (first | apply Aw_seq | apply Aw_block | apply Aw_skip | apply Aw_exit | refine Aw_condt rfl ?_ | refine Aw_condf rfl ?_ | ((first | refine qr ?_ | refine qd (by kernel_rfl) (by kernel_rfl) ?_); simp only [go_sem, jE, reduceIte, jA, jM, jS, jL, jD, jB]) | refine dk (by kernel_rfl) ?_)
  refine Aw_rounds 1 ?_
  refine AwR_succ ?_
  repeat (first | apply Aw_seq | apply Aw_block | apply Aw_skip | apply Aw_exit | refine Aw_condt rfl ?_ | refine Aw_condf rfl ?_ | ((first | refine qr ?_ | refine qd (by kernel_rfl) (by kernel_rfl) ?_); simp only [go_sem, jE, reduceIte, jA, jM, jS, jL, jD, jB, lt00]) | refine dk (by kernel_rfl) ?_)
  exact Aw_ret (ret0 (.inl rfl) (by simp only [go_sem, jE, reduceIte, jA, jM, jS, jL, jD, jB]; rfl) (by rfl) rfl)
theorem zSto_far : farT zSto := ⟨by simp [zSto], by simp [zSto], by simp [zSto], by simp [zSto], by simp [zSto], by simp [zSto]⟩
theorem markStoreZ_ac (k : Nat) : AC Try.prog 10 [stT zSto, iT k] noHp 0 ⟨.t (iT k), noHp, 0⟩ := by
  unfold zSto
  refine AC_of Try.func10 rfl Try.ntmps10 Try.results10 (by kernel_rfl) rfl ?_
  simp only [List.zipIdx, List.map, Nat.zero_add, Nat.reduceAdd]
  repeat (first | apply Aw_seq | apply Aw_block | apply Aw_skip | apply Aw_exit | refine Aw_condt rfl ?_ | refine Aw_condf rfl ?_ | ((first | refine qr ?_ | refine qd (by kernel_rfl) (by kernel_rfl) ?_); simp only [go_sem, jE, reduceIte, jA, jM, jS, jL, jD, jB]) | refine dk (by kernel_rfl) ?_ | (refine qp (markEntry0_ac k) (by simp only [go_sem, jE, reduceIte, jA, jM, jS, jL, jD, jB]; first | done | rfl) rfl (by simp only [go_sem, Nat.reduceLT]) rfl rfl ?_; simp only [go_sem, jE, reduceIte, jA, jM, jS, jL, jD, jB]) | (refine qp (markEntrySS0_ac [] k (by simp) (by simp)) (by simp only [go_sem, jE, reduceIte, jA, jM, jS, jL, jD, jB]; first | done | rfl) rfl (by simp only [go_sem, Nat.reduceLT]) rfl rfl ?_; simp only [go_sem, jE, reduceIte, jA, jM, jS, jL, jD, jB]) | (refine qp (markSieveE_ac k) (by simp only [go_sem, jE, reduceIte, jA, jM, jS, jL, jD, jB]; first | done | rfl) rfl (by simp only [go_sem, Nat.reduceLT]) rfl rfl ?_; simp only [go_sem, jE, reduceIte, jA, jM, jS, jL, jD, jB]) | (refine qp (markInt0_ac k) (by simp only [go_sem, jE, reduceIte, jA, jM, jS, jL, jD, jB]; first | done | rfl) rfl (by simp only [go_sem, Nat.reduceLT]) rfl rfl ?_; simp only [go_sem, jE, reduceIte, jA, jM, jS, jL, jD, jB]))
  exact Aw_ret (ret0 (.inl rfl) (by simp only [go_sem, jE, reduceIte, jA, jM, jS, jL, jD, jB]; rfl) (by rfl) rfl)
theorem heldStoreZ_ac (k : Nat) (hk : k ≤ 1099511627776) : AC Try.prog 11 [stT zSto, iT k] noHp 0 ⟨.t (iT k), noHp, 0⟩ := by
  unfold zSto
  refine AC_of Try.func11 rfl Try.ntmps11 Try.results11 (by kernel_rfl) rfl ?_
  simp only [List.zipIdx, List.map, Nat.zero_add, Nat.reduceAdd]
  have hn := nneg k
  have hs := heldSieve0_ac k 0 hk
  repeat (first | apply Aw_seq | apply Aw_block | apply Aw_skip | apply Aw_exit | refine Aw_condt rfl ?_ | refine Aw_condf rfl ?_ | ((first | refine qr ?_ | refine qd (by kernel_rfl) (by kernel_rfl) ?_); simp only [go_sem, jE, reduceIte, jA, jM, jS, jL, jD, jB, hn]) | refine dk (by kernel_rfl) ?_ | (refine qp (heldEntry0_ac k hk) (by simp only [go_sem, jE, reduceIte, jA, jM, jS, jL, jD, jB, hn]; first | done | rfl) rfl (by simp only [go_sem, Nat.reduceLT]) rfl rfl ?_; simp only [go_sem, jE, reduceIte, jA, jM, jS, jL, jD, jB, hn]) | (refine qp (heldEntrySS0_ac [] k hk (by simp) (by simp)) (by simp only [go_sem, jE, reduceIte, jA, jM, jS, jL, jD, jB, hn]; first | done | rfl) rfl (by simp only [go_sem, Nat.reduceLT]) rfl rfl ?_; simp only [go_sem, jE, reduceIte, jA, jM, jS, jL, jD, jB, hn]) | (refine qp (hs) (by simp only [go_sem, jE, reduceIte, jA, jM, jS, jL, jD, jB, hn]; first | done | rfl) rfl (by simp only [go_sem, Nat.reduceLT]) rfl rfl ?_; simp only [go_sem, jE, reduceIte, jA, jM, jS, jL, jD, jB, hn]) | (refine qp (heldInt0_ac k hk) (by simp only [go_sem, jE, reduceIte, jA, jM, jS, jL, jD, jB, hn]; first | done | rfl) rfl (by simp only [go_sem, Nat.reduceLT]) rfl rfl ?_; simp only [go_sem, jE, reduceIte, jA, jM, jS, jL, jD, jB, hn]))
  exact Aw_ret (ret0 (.inl rfl) (by simp only [go_sem, jE, reduceIte, jA, jM, jS, jL, jD, jB]; rfl) (by rfl) rfl)
/-- The forks, one behind the other. -/
def fks (keep : Nat) : Nat → List (List ByteArray × Nat) → List (List ByteArray × Nat)
  | 0, _ => []
  | _ + 1, [] => []
  | n + 1, f :: q => f :: fks keep n (q ++ (node keep f).kids)
theorem fks_bfs (keep : Nat) : ∀ (n : Nat) (q : List (List ByteArray × Nat)), (bfs keep n q).letters = (fks keep n q).flatMap (fun f => (node keep f).letters) ∧ (bfs keep n q).more = (fks keep n q).flatMap (fun f => (node keep f).more) ∧ (bfs keep n q).first = (fks keep n q).flatMap (fun f => (node keep f).first) ∧ (bfs keep n q).rests = (fks keep n q).flatMap (fun f => (node keep f).rests)
  | 0, q => by simp [bfs, fks, zPut]
  | n + 1, [] => by simp [bfs, fks, zPut]
  | n + 1, f :: q => by
    obtain ⟨h1, h2, h3, h4⟩ := fks_bfs keep n (q ++ (node keep f).kids)
    simp only [bfs, fks, Put.add, List.flatMap_cons, h1, h2, h3, h4, and_self]
theorem fks_kids (keep : Nat) : ∀ (n : Nat) (q : List (List ByteArray × Nat)), wts q ≤ n → (∀ f ∈ q, Fork f) → fks keep n q = q ++ (fks keep n q).flatMap (fun f => (node keep f).kids)
  | 0, [], _, _ => rfl
  | 0, f :: q, h, _ => by have := wt_pos f; rw [wts_cons] at h; omega
  | n + 1, [], _, _ => rfl
  | n + 1, f :: q, h, hf => by
    have hff := hf f (by simp)
    have hk := kids_wt (keep := keep) hff.dep
    rw [wts_cons] at h
    have ih := fks_kids keep n (q ++ (node keep f).kids) (by rw [wts_app]; omega) fun g hg => by
      rcases List.mem_append.1 hg with hg | hg
      · exact hf g (List.mem_cons_of_mem _ hg)
      · exact node_fork hff g hg
    simp only [fks, List.flatMap_cons, List.cons_append, List.cons.injEq, true_and]
    conv => lhs; rw [ih]
    rw [List.append_assoc]
/-- The place of the n-th one. -/
def posOne : List UInt8 → Nat → Option Nat
  | [], _ => none
  | b :: l, n => if b = 49 then (match n with
      | 0 => some 0
      | m + 1 => (posOne l m).map (· + 1)) else (posOne l n).map (· + 1)
/-- A branch: the keys behind it, and its depth. -/
abbrev Br := List ByteArray × Nat
def brs (f : List ByteArray × Nat) : List Br := (spl f.2 f.1).map fun g => (g, f.2)
def bLet (b : Br) : UInt8 := lab (b.1.headD zs) b.2
def bMul (b : Br) : Bool := decide (1 < b.1.length)
def bMore (b : Br) : UInt8 := if bMul b = true then 49 else 48
def bCut (keep : Nat) (b : Br) : ByteArray := cutT (b.1.headD zs) b.2 keep
def bKid (b : Br) : List ByteArray × Nat := (b.1, b.2 + 1)
def bFirst : List Br → List UInt8
  | [] => []
  | _ :: r => 49 :: r.map fun _ => 48
theorem runs_all (keep d : Nat) : ∀ (m : UInt8) (gs : List (List ByteArray)), (∀ g ∈ gs, g ≠ []) →
    (runs keep d m gs).letters = (gs.map fun g => (g, d)).map bLet ∧ (runs keep d m gs).more = (gs.map fun g => (g, d)).map bMore ∧ (runs keep d m gs).first = (match gs with | [] => [] | _ :: r => m :: r.map fun _ => 48) ∧
    (runs keep d m gs).rests = ((gs.map fun g => (g, d)).filter fun b => !bMul b).map (bCut keep) ∧ (runs keep d m gs).kids = ((gs.map fun g => (g, d)).filter bMul).map bKid
  | m, [], _ => by simp [runs, zPut]
  | m, g :: gs, h => by
    obtain ⟨h1, h2, h3, h4, h5⟩ := runs_all keep d 48 gs fun x hx => h x (List.mem_cons_of_mem _ hx)
    have h3' : (runs keep d 48 gs).first = gs.map fun _ => 48 := by rw [h3]; cases gs <;> rfl
    match g, h g (by simp) with
    | [], hg => exact absurd rfl hg
    | [k], _ => simp [runs, run1, Put.add, h1, h2, h3', h4, h5, bLet, bMore, bMul, bCut]
    | k :: k2 :: r, _ => simp [runs, run1, Put.add, h1, h2, h3', h4, h5, bLet, bMore, bMul, bCut, bKid]
theorem node_all (keep : Nat) (f : List ByteArray × Nat) : (node keep f).letters = (brs f).map bLet ∧ (node keep f).more = (brs f).map bMore ∧ (node keep f).first = bFirst (brs f) ∧ (node keep f).rests = ((brs f).filter fun b => !bMul b).map (bCut keep) ∧ (node keep f).kids = ((brs f).filter bMul).map bKid := by
  obtain ⟨h1, h2, h3, h4, h5⟩ := runs_all keep f.2 49 (spl f.2 f.1) fun g hg => by
    obtain ⟨k, r, e, _⟩ := spl_ne f.2 f.1.length f.1 (Nat.le_refl _) g hg
    rw [e]; simp
  refine ⟨h1, h2, ?_, h4, h5⟩
  show (runs keep f.2 49 (spl f.2 f.1)).first = _
  rw [h3]; unfold bFirst brs
  cases spl f.2 f.1 with
  | nil => rfl
  | cons g gs => simp
/-- All branches of a key list. -/
def allF (keep : Nat) (ks : List ByteArray) : List (List ByteArray × Nat) := fks keep (wts [(ks, 0)]) [(ks, 0)]
def allB (keep : Nat) (ks : List ByteArray) : List Br := (allF keep ks).flatMap brs
theorem flatMap_map' {α β γ : Type} (g : α → List β) (h : β → γ) : ∀ F : List α, F.flatMap (fun f => (g f).map h) = (F.flatMap g).map h
  | [] => rfl
  | a :: F => by simp only [List.flatMap_cons, List.map_append, flatMap_map' g h F]
theorem flatMap_filter' {α β γ : Type} (g : α → List β) (p : β → Bool) (h : β → γ) : ∀ F : List α, F.flatMap (fun f => ((g f).filter p).map h) = ((F.flatMap g).filter p).map h
  | [] => rfl
  | a :: F => by simp only [List.flatMap_cons, List.filter_append, List.map_append, flatMap_filter' g p h F]
theorem sieve_br {keep : Nat} {ks : List ByteArray} (hf : Fork (ks, 0)) : (bfsF keep [(ks, 0)]).letters = (allB keep ks).map bLet ∧ (bfsF keep [(ks, 0)]).more = (allB keep ks).map bMore ∧ (bfsF keep [(ks, 0)]).first = (allF keep ks).flatMap (fun f => bFirst (brs f)) ∧ (bfsF keep [(ks, 0)]).rests = ((allB keep ks).filter fun b => !bMul b).map (bCut keep) ∧
    allF keep ks = (ks, 0) :: ((allB keep ks).filter bMul).map bKid := by
  obtain ⟨h1, h2, h3, h4⟩ := fks_bfs keep (wts [(ks, 0)]) [(ks, 0)]
  have h5 := fks_kids keep (wts [(ks, 0)]) [(ks, 0)] (Nat.le_refl _) (by simpa using hf)
  have e1 : ∀ f, (node keep f).letters = (brs f).map bLet := fun f => (node_all keep f).1
  have e2 : ∀ f, (node keep f).more = (brs f).map bMore := fun f => (node_all keep f).2.1
  have e3 : ∀ f, (node keep f).first = bFirst (brs f) := fun f => (node_all keep f).2.2.1
  have e4 : ∀ f, (node keep f).rests = ((brs f).filter fun b => !bMul b).map (bCut keep) := fun f => (node_all keep f).2.2.2.1
  have e5 : ∀ f, (node keep f).kids = ((brs f).filter bMul).map bKid := fun f => (node_all keep f).2.2.2.2
  simp only [e1, e2, e3, e4, e5] at h1 h2 h3 h4 h5
  unfold bfsF allB
  refine ⟨by rw [h1, flatMap_map']; rfl, by rw [h2, flatMap_map']; rfl, h3, by rw [h4, flatMap_filter']; rfl, ?_⟩
  unfold allF
  conv => lhs; rw [h5]
  rw [flatMap_filter']; rfl
open Go Go.Proofs Go.Shelf

/-- A text begins with another one. -/
def begB (s h : ByteArray) : Bool := decide (h.size ≤ s.size) && decide (s.extract 0 h.size = h)
structure OneI (l : List UInt8) (R : Option Nat) where
  i : Nat
  n : Nat
  hi : i ≤ l.length
  hn : n ≤ 1000000
  h : (posOne (l.drop i) n).map (· + i) = R
theorem bFirst_len (l : List Br) : (bFirst l).length = l.length := by cases l <;> simp [bFirst]
def firstL (keep : Nat) (ks : List ByteArray) : List UInt8 := (allF keep ks).flatMap fun f => bFirst (brs f)
theorem firstL_len (keep : Nat) (ks : List ByteArray) : (firstL keep ks).length = (allB keep ks).length := by
  unfold firstL allB
  rw [List.length_flatMap, List.length_flatMap]
  congr 1
  exact List.map_congr_left fun f _ => bFirst_len _
theorem bfs_letters {keep : Nat} : ∀ (n : Nat) (q : List (List ByteArray × Nat)), (∀ f ∈ q, Fork f) → (bfs keep n q).letters.length ≤ wts q
  | 0, q, _ => by simp [bfs, zPut]
  | n + 1, [], _ => by simp [bfs, zPut]
  | n + 1, f :: q, h => by
    have hff := h f (by simp)
    have ih := bfs_letters (keep := keep) n (q ++ (node keep f).kids) fun g hg => by
      rcases List.mem_append.1 hg with hg | hg
      · exact h g (List.mem_cons_of_mem _ hg)
      · exact node_fork hff g hg
    have hb := runs_b keep f.2 hff.dep 49 (spl f.2 f.1)
    rw [spl_flat f.2 _ f.1 (Nat.le_refl _)] at hb
    have e : (node keep f).letters.length + wts (node keep f).kids ≤ f.1.length * (8 - f.2) := hb
    rw [wts_app] at ih
    rw [wts_cons]
    simp only [bfs, Put.add, List.length_append]
    unfold wt
    omega
structure SvIs (keep : Nat) (ks : List ByteArray) (s : Sve) : Prop where
  hf : Fork (ks, 0)
  hl : s.letters.data.toList = (allB keep ks).map bLet
  hm : s.more.data.toList = (allB keep ks).map bMore
  h1 : s.first.data.toList = firstL keep ks
  hr : s.rests = ((allB keep ks).filter fun b => !bMul b).map (bCut keep)
  hk : s.keep = (keep : Int)
  hb : (allB keep ks).length ≤ 400
  kp : keep ≤ 5
theorem svIs_of {ks : List ByteArray} {keep : Int} {s : Sve} (h : sieveM ks keep = some s) : SvIs keep.toNat ks s := by
  unfold sieveM at h
  by_cases c : keysOkM ks = true ∧ inB 0 keep 5 = true
  · rw [if_pos c, Option.some.injEq] at h
    subst h
    obtain ⟨hl, hf, _⟩ := ksOk_iff c.1
    obtain ⟨h1, h2, h3, h4, _⟩ := sieve_br (keep := keep.toNat) hf
    have h0 : 0 ≤ keep ∧ keep ≤ 5 := by have := c.2; unfold inB at this; simp at this; exact this
    have hb := bfs_letters (keep := keep.toNat) (wts [(ks, 0)]) [(ks, 0)] (by simpa using hf)
    refine ⟨hf, h1, h2, h3, h4, by show keep = _; omega, ?_, by omega⟩
    have e : (bfsF keep.toNat [(ks, 0)]).letters.length = (allB keep.toNat ks).length := by rw [h1, List.length_map]
    rw [← e]
    refine Nat.le_trans hb ?_
    rw [wts_one]; unfold wt; show 1 + ks.length * 8 ≤ 400; omega
  · rw [if_neg c] at h; cases h
theorem SvIs.sizes {keep : Nat} {ks : List ByteArray} {s : Sve} (h : SvIs keep ks s) : s.letters.size = (allB keep ks).length ∧ s.more.size = (allB keep ks).length ∧ s.first.size = (allB keep ks).length := by
  refine ⟨?_, ?_, ?_⟩
  · have e : s.letters.size = s.letters.data.toList.length := Array.length_toList.symm
    rw [e, h.hl, List.length_map]
  · have e : s.more.size = s.more.data.toList.length := Array.length_toList.symm
    rw [e, h.hm, List.length_map]
  · have e : s.first.size = s.first.data.toList.length := Array.length_toList.symm
    rw [e, h.h1, firstL_len]
def whole (keep : Nat) (b : Br) : Bool := decide (bLet b = 45) || decide ((bCut keep b).size < keep)
structure WayOk (way : ByteArray) (f : List ByteArray × Nat) : Prop where
  len : way.data.toList.length = f.2
  pre : ∀ k ∈ f.1, k.data.toList.take f.2 = way.data.toList
structure BrI (m : Nat) where
  a : Nat
  h1 : 1 ≤ a
  h2 : a ≤ m
def svObj (s : Sve) : Obj := ⟨78, 5, false, [[.d (.s (.string s.letters)), .d (.s (.string s.more)), .d (.s (.string s.first)), .d (.rs 1 (s.rests.map strD)), .d (.s (.int .i64 s.keep))]]⟩
@[go_sem] theorem r_svObj (s : Sve) : svObj s = ⟨78, 5, false, [[.d (.s (.string s.letters)), .d (.s (.string s.more)), .d (.s (.string s.first)), .d (.rs 1 (s.rests.map strD)), .d (.s (.int .i64 s.keep))]]⟩ := rfl
def hitB (k : ByteArray) (d : Nat) (b : Br) : Bool := decide (bLet b = lab k d)
/-- The branch to which a key leads. -/
def walkT (k : ByteArray) : Nat → List ByteArray × Nat → Option Br
  | 0, _ => none
  | n + 1, f => match (brs f).find? (hitB k f.2) with
    | none => none
    | some b => if bMul b = true then walkT k n (bKid b) else some b
def tailT (k : ByteArray) (d : Nat) : ByteArray := k.extract (min (d + 1) k.size) k.size
def fits (keep : Nat) (k : ByteArray) (b : Br) : Bool := if whole keep b = true then decide (tailT k b.2 = bCut keep b) else begB (tailT k b.2) (bCut keep b)
def hasM (keep : Nat) (ks : List ByteArray) (k : ByteArray) : Bool := match walkT k 6 (ks, 0) with
  | none => false
  | some b => fits keep k b
structure HasI (keep : Nat) (ks : List ByteArray) (k : ByteArray) (R : Option Br) where
  j : Nat
  f : List ByteArray × Nat
  n : Nat
  hj : (allF keep ks)[j]? = some f
  hd : f.2 ≤ k.size
  hn : f.2 + n = 6
  hw : walkT k n f = R
structure BrJ (k : ByteArray) (f : List ByteArray × Nat) where
  a : Nat
  h1 : a ≤ (brs f).length
  h2 : ∀ t, t < a → ∀ x, (brs f)[t]? = some x → hitB k f.2 x = false
/-- A store that is one, by its levels and sieves. -/
structure VSt (s : Sto) : Prop where
  ll : s.levels.length = 3
  sl : s.sieves.length = 3
  sv : ∀ (i : Nat) (r : List Ent) (x : Sve), s.levels[i]? = some r → s.sieves[i]? = some x → SvIs s.keep.toNat (keysM r) x ∧ sieveM (keysM r) s.keep = some x ∧ runOk r = true
  kp : 0 ≤ s.keep ∧ s.keep ≤ 5
  tl : s.times.length ≤ 3
theorem vst_of {s : Sto} (h : storeS s = true) : VSt s := by
  unfold storeS headS at h
  simp only [Bool.and_eq_true] at h
  obtain ⟨⟨⟨⟨⟨⟨⟨h1, h2⟩, h3⟩, h4⟩, h5⟩, h6⟩, h7⟩, h8⟩ := h
  have hl := of_decide_eq_true h1
  have hsl := of_decide_eq_true h2
  unfold inB at h3
  simp only [Bool.and_eq_true, decide_eq_true_eq] at h3
  refine ⟨hl, hsl, fun i r x hr hx => ?_, h3, by unfold timesM at h5; rw [Bool.and_eq_true] at h5; exact of_decide_eq_true h5.2⟩
  have := allI_iff.1 h8 i (by have := (List.getElem?_eq_some_iff.1 hr).1; omega)
  unfold sAt at this
  rw [hr, hx] at this
  simp only [Bool.and_eq_true] at this
  have hlv := this.1.1
  unfold lvM at hlv
  simp only [Bool.and_eq_true] at hlv
  obtain ⟨⟨⟨hv1, _⟩, hv3⟩, hv4⟩ := hlv
  cases hs : sieveM (keysM r) s.keep with
  | none => rw [hs] at hv3; cases hv3
  | some y =>
    rw [hs] at hv4
    have : y = x := sveEq_iff.1 hv4
    subst this
    exact ⟨svIs_of hs, rfl, hv1⟩
def findL (keep : Nat) (k : ByteArray) (t : Int) : List (List Ent) → Option Ent
  | [] => none
  | r :: rs => match (if hasM keep (keysM r) k = true then atM r k t else none) with
    | some e => some e
    | none => findL keep k t rs
structure FnI (s : Sto) (k : ByteArray) (t : Int) (R : Option Ent) where
  i : Nat
  hi : i ≤ 3
  hf : findL s.keep.toNat k t (s.levels.drop i) = R
def idxI (ts : List Int) (t : Int) : Int := match ts.findIdx? (fun x => decide (t = x)) with
  | some i => (i : Int)
  | none => -1
theorem index_ac (ts : List Int) (t : Int) (hl : ts.length ≤ 1000) : AC Try.prog 82 [intsT ts, iT t] noHp 0 ⟨.t (iT (idxI ts t)), noHp, 0⟩ := by
  refine AC_of Try.func82 rfl Try.ntmps82 Try.results82 (by kernel_rfl) rfl ?_
  simp only [List.zipIdx, List.map, Nat.zero_add, Nat.reduceAdd]
  repeat (first | apply Aw_seq | apply Aw_block | apply Aw_skip | apply Aw_exit | refine Aw_condt rfl ?_ | refine Aw_condf rfl ?_ | ((first | refine qr ?_ | refine qd (by kernel_rfl) (by kernel_rfl) ?_); simp only [go_sem, jE, reduceIte, jA, jM, jS, jL, jD, jB]) | refine dk (by kernel_rfl) ?_)
  refine Aw.rw (rwL (l' := [(8, .t (iT (0 : Nat))), (7, .t (iT ts.length)), (0, .t (intsT ts)), (1, .t (iT t))]) (os := []) (M := []) (n' := 0) (by repeat (first | exact trivial | refine ⟨rfl, rfl, ?_⟩)) (by rfl) (by simp only [go_sem, jE, reduceIte, jA, jM, jS, jL, jD, jB]; first | done | rfl) (by decide) (by unfold idM; decide)) ?_
  refine Aw_loop_rw (ι := { j : Nat // j ≤ ts.length ∧ ∀ q, q < j → ∀ y, ts[q]? = some y → decide (t = y) = false }) (fun q => S [(8, .t (iT (q.1 : Nat))), (7, .t (iT ts.length)), (0, .t (intsT ts)), (1, .t (iT t))] (hpL []) 0) (fun q => ts.length - q.1) ⟨0, Nat.zero_le _, fun j hj => absurd hj (by omega)⟩ ?_
  rintro ⟨j, hj, hq⟩
  dsimp only
  by_cases hjl : j < ts.length
  · have g1 : decide ((j : Int) < (ts.length : Int)) = true := decide_eq_true (by omega)
    have g2 := wrap_succ hjl (by omega)
    obtain ⟨y, hy⟩ : ∃ e, ts[j]? = some e := ⟨_, List.getElem?_eq_getElem hjl⟩
    cases c1 : decide (t = y)
    · have nx : ∀ q, q < j + 1 → ∀ z, ts[q]? = some z → decide (t = z) = false := fun q hqj z hz => by
        rcases Nat.lt_succ_iff_lt_or_eq.1 hqj with h | rfl
        · exact hq q h z hz
        · rw [hy] at hz; rw [← Option.some.inj hz]; exact c1
      repeat (first | apply Aw_seq | apply Aw_block | apply Aw_skip | apply Aw_exit | refine Aw_condt rfl ?_ | refine Aw_condf rfl ?_ | ((first | refine qr ?_ | refine qd (by kernel_rfl) (by kernel_rfl) ?_); simp only [go_sem, jE, reduceIte, jA, jM, jS, jL, jD, jB, g1, hy, g2, c1]) | refine dk (by kernel_rfl) ?_)
      refine ⟨⟨j + 1, by omega, nx⟩, [], ?_, rwL (by repeat (first | exact trivial | refine ⟨rfl, rfl, ?_⟩)) (by rfl) (by simp only [go_sem, jE, reduceIte, jA, jM, jS, jL, jD, jB]; first | done | rfl) (by decide) (by unfold idM; decide)⟩
      show ts.length - (j + 1) < ts.length - j; omega
    · have e : idxI ts t = (j : Nat) := by
        have : ts.findIdx? (fun x => decide (t = x)) = some j := by
          rw [List.findIdx?_eq_some_iff_getElem]
          refine ⟨hjl, ?_, fun q hqj => ?_⟩
          · rw [List.getElem?_eq_getElem hjl] at hy; rw [Option.some.inj hy]; exact c1
          · have := hq q hqj _ (List.getElem?_eq_getElem (by omega)); simp only [this]; decide
        unfold idxI; rw [this]
      rw [e]
      repeat (first | apply Aw_seq | apply Aw_block | apply Aw_skip | apply Aw_exit | refine Aw_condt rfl ?_ | refine Aw_condf rfl ?_ | ((first | refine qr ?_ | refine qd (by kernel_rfl) (by kernel_rfl) ?_); simp only [go_sem, jE, reduceIte, jA, jM, jS, jL, jD, jB, g1, hy, g2, c1]) | refine dk (by kernel_rfl) ?_)
      exact Aw_ret (ret0 (.inl rfl) (by simp only [go_sem, jE, reduceIte, jA, jM, jS, jL, jD, jB]; rfl) (by rfl) rfl)
  · have g1 : decide ((j : Int) < (ts.length : Int)) = false := decide_eq_false (by omega)
    have e : idxI ts t = -1 := by
      have : ts.findIdx? (fun x => decide (t = x)) = none := by
        rw [List.findIdx?_eq_none_iff]
        intro x hx
        obtain ⟨i, hi⟩ := List.mem_iff_getElem?.1 hx
        exact hq i (by have := (List.getElem?_eq_some_iff.1 hi).1; omega) x hi
      unfold idxI; rw [this]
    rw [e]
    repeat (first | apply Aw_seq | apply Aw_block | apply Aw_skip | apply Aw_exit | refine Aw_condt rfl ?_ | refine Aw_condf rfl ?_ | ((first | refine qr ?_ | refine qd (by kernel_rfl) (by kernel_rfl) ?_); simp only [go_sem, jE, reduceIte, jA, jM, jS, jL, jD, jB, g1]) | refine dk (by kernel_rfl) ?_)
    exact Aw_ret (ret0 (.inl rfl) (by simp only [go_sem, jE, reduceIte, jA, jM, jS, jL, jD, jB]; rfl) (by rfl) rfl)
theorem contains_ac (ts : List Int) (t : Int) (hl : ts.length ≤ 1000) : AC Try.prog 52 [intsT ts, iT t] noHp 0 ⟨.t (bT (ts.any fun x => decide (t = x))), noHp, 0⟩ := by
  have k := index_ac ts t hl
  have e : decide ((0 : Int) ≤ idxI ts t) = ts.any fun x => decide (t = x) := by
    unfold idxI
    cases h : ts.findIdx? (fun x => decide (t = x)) with
    | none =>
      rw [List.findIdx?_eq_none_iff] at h
      rw [show ts.any (fun x => decide (t = x)) = false from List.any_eq_false.2 fun x hx => by rw [h x hx]; simp]; rfl
    | some i =>
      rw [List.findIdx?_eq_some_iff_getElem] at h
      obtain ⟨h1, h2, _⟩ := h
      rw [show ts.any (fun x => decide (t = x)) = true from List.any_eq_true.2 ⟨_, List.getElem_mem h1, h2⟩]
      exact decide_eq_true (Int.natCast_nonneg i)
  rw [← e]
  refine AC_of Try.func52 rfl Try.ntmps52 Try.results52 (by kernel_rfl) rfl ?_
  simp only [List.zipIdx, List.map, Nat.zero_add, Nat.reduceAdd]
  repeat (first | apply Aw_seq | apply Aw_block | apply Aw_skip | apply Aw_exit | refine Aw_condt rfl ?_ | refine Aw_condf rfl ?_ | ((first | refine qr ?_ | refine qd (by kernel_rfl) (by kernel_rfl) ?_); simp only [go_sem, jE, reduceIte, jA, jM, jS, jL, jD, jB]) | refine dk (by kernel_rfl) ?_ | (refine qp (k) (by simp only [go_sem, jE, reduceIte, jA, jM, jS, jL, jD, jB]; first | done | rfl) rfl (by simp only [go_sem, Nat.reduceLT]) rfl rfl ?_; simp only [go_sem, jE, reduceIte, jA, jM, jS, jL, jD, jB]))
  exact Aw_ret (ret0 (.inl rfl) (by simp only [go_sem, jE, reduceIte, jA, jM, jS, jL, jD, jB]; rfl) (by rfl) rfl)
def ksO (k : ByteArray) : Obj := ⟨9, 1, false, [[.d (.s (.string k))]]⟩
@[go_sem] theorem r_ksO (k : ByteArray) : ksO k = ⟨9, 1, false, [[.d (.s (.string k))]]⟩ := rfl
theorem storeOkI_ac (s : Sto) (hs : SmSt s) : AC Try.prog 50 [stT s] noHp 0 ⟨.t (bT (storeS s)), noHp, 0⟩ := by
  have k := storeOk_ac s hs
  rw [store_eq] at k
  exact k
def inO (v : Int) : Obj := ⟨3, 1, false, [[.d (.s (.int .i64 v))]]⟩
@[go_sem] theorem r_inO (v : Int) : inO v = ⟨3, 1, false, [[.d (.s (.int .i64 v))]]⟩ := rfl
@[simp] theorem flat_mk (e k : Nat) (r : Bool) (els : List (List CV)) : (⟨e, k, r, els⟩ : Obj).flat = els.all (·.all CV.flat) := rfl
@[simp] theorem flat_h (j : Nat) : CV.flat (.h j) = true := rfl
@[simp] theorem flat_s (v : Value) : CV.flat (.d (.s v)) = true := rfl
@[simp] theorem flat_tmRow (r : List Int) : (tmRow r).flat = true := by
  unfold tmRow
  rw [show r.map intD = (r.map fun n => [Value.int .i64 n]).map (·.map D.s) by rw [List.map_map]; rfl]
  exact dRow_flat _ _ _
def newG (p : Nat) (s : Sto) : Hp := updL noHp (List.range' p (gK s)) ((gOs s).map (·.map (Obj.ren (pout [] p))))
theorem pout_nil (p : Nat) : pout [] p = (p + ·) := funext fun j => q_n p j
theorem gst_upL (hp : Hp) (p : Nat) (s : Sto) : GSt (updL hp (List.range' p (gK s)) ((gOs s).map (·.map (Obj.ren (pout [] p))))) p s := fun m o hm => by
  have hl := hpL_lt hm
  rw [gOs_len] at hl
  rw [updL_get List.nodup_range' (i := m) (by rw [List.getElem?_range' hl]; simp) (by rw [List.length_map, gOs_len]; exact hl), hpL_map, hm, pout_nil]
  rfl
theorem gst_new (p : Nat) (s : Sto) : GSt (newG p s) p s := gst_upL noHp p s
theorem GSt.upd {hp : Hp} {p q : Nat} {s : Sto} {x : Option Obj} (h : GSt hp p s) (hq : q < p ∨ p + gK s ≤ q) : GSt (upd hp q x) p s := fun m o hm => by
  have hl := hpL_lt hm
  rw [gOs_len] at hl
  rw [upd_ne _ _ (by omega)]; exact h m o hm
theorem newG_cases {p m : Nat} {s : Sto} {o : Obj} (hm : newG p s m = some o) : ∃ j o', m = p + j ∧ j < gK s ∧ hpL (gOs s) j = some o' ∧ o = o'.ren (p + ·) := by
  by_cases hn : m ∈ List.range' p (gK s)
  · obtain ⟨h1, h2⟩ := List.mem_range'_1.1 hn
    obtain ⟨j, rfl⟩ : ∃ j, m = p + j := ⟨m - p, by omega⟩
    have hj : j < gK s := by omega
    unfold newG at hm
    rw [updL_get List.nodup_range' (i := j) (by rw [List.getElem?_range' hj]; simp) (by rw [List.length_map, gOs_len]; exact hj), hpL_map, pout_nil] at hm
    obtain ⟨o', h3, h4⟩ := Option.map_eq_some_iff.1 hm
    exact ⟨j, o', rfl, hj, h3, h4.symm⟩
  · unfold newG at hm
    rw [updL_not hn] at hm
    cases hm
-- states under new names: some objects, and the block behind them
def ChkB (M : List Nat) (b : Nat) (l : List (Nat × AV)) : List (Nat × AV) → Prop
  | [] => True
  | (t, v) :: r => look l t = v.ren (pin M) ∧ v.bd b = true ∧ ChkB M b l r
theorem chkB {M : List Nat} {b : Nat} (hb : b ≤ M.length) : ∀ {l l' : List (Nat × AV)}, ChkB M b l l' → ChkM M l l'
  | _, [], _ => trivial
  | _, (_, _) :: _, h => ⟨h.1, bdA_mono hb h.2.1, chkB hb h.2.2⟩
theorem selBase {hp : Hp} {p : Nat} {s : Sto} {A : List Nat} (hG : GSt hp p s) (hn : (A ++ List.range' p (gK s)).Nodup) : HpSel (A ++ List.range' p (gK s)) hp (newG A.length s) := by
  have hl : (A ++ List.range' p (gK s)).length = A.length + gK s := by simp
  have hr : ∀ j, j < gK s → pin (A ++ List.range' p (gK s)) (A.length + j) = p + j := fun j hj => by rw [pin_r rfl, pin_g hj]
  constructor
  · intro m m' o o' h1 h2 e
    obtain ⟨j, _, rfl, hj, _⟩ := newG_cases h1
    obtain ⟨j', _, rfl, hj', _⟩ := newG_cases h2
    exact pin_inj hn (by omega) (by omega) e
  · intro m o h1
    obtain ⟨j, o', rfl, hj, h2, rfl⟩ := newG_cases h1
    have hb := gOs_bd s j o' h2
    refine ⟨by omega, ?_, by rw [hl]; exact Obj.bd_ren (fun i hi => by omega) hb⟩
    rw [hr j hj, hG j o' h2, Obj.ren_cm (fun i hi => hr i hi) hb]
theorem selPut {hp hp1 : Hp} {M : List Nat} {m : Nat} {o : Obj} (h : HpSel M hp hp1) (hn : M.Nodup) (hm : m < M.length) (ho : hp (pin M m) = some (o.ren (pin M))) (hb : o.bd M.length = true) : HpSel M hp (upd hp1 m (some o)) := by
  have key : ∀ q x, upd hp1 m (some o) q = some x → q = m ∧ x = o ∨ q ≠ m ∧ hp1 q = some x := fun q x hq => by
    by_cases e : q = m
    · subst e; rw [upd_same] at hq; exact .inl ⟨rfl, (Option.some.inj hq).symm⟩
    · rw [upd_ne _ _ e] at hq; exact .inr ⟨e, hq⟩
  have hlt : ∀ q x, upd hp1 m (some o) q = some x → q < M.length := fun q x hq => by
    rcases key q x hq with ⟨rfl, _⟩ | ⟨_, h1⟩
    · exact hm
    · exact (h.obj q x h1).1
  constructor
  · intro q q' x x' h1 h2 e
    exact pin_inj hn (hlt q x h1) (hlt q' x' h2) e
  · intro q x hq
    rcases key q x hq with ⟨rfl, rfl⟩ | ⟨_, h1⟩
    · exact ⟨hm, ho, hb⟩
    · exact h.obj q x h1
def gC (p : Nat) (s : Sto) : List CV := [.h p, .h (p + 1), .h (p + (s.levels.length + 2)), .d (.s (.int .i64 s.keep)), .d (.s (.int .i64 s.time)), .h (p + (s.levels.length + s.sieves.length + 3))]
@[go_sem] theorem r_gC (p : Nat) (s : Sto) : gC p s = [.h p, .h (p + 1), .h (p + (s.levels.length + 2)), .d (.s (.int .i64 s.keep)), .d (.s (.int .i64 s.time)), .h (p + (s.levels.length + s.sieves.length + 3))] := rfl
def sO (e : Nat) (s : Sto) : Obj := ⟨e, 6, false, [[.d (.rs 4 (s.top.map entD)), .d (.rs 1 (s.levels.map lvD)), .d (.rs 5 (s.sieves.map sveD)), .d (.s (.int .i64 s.keep)), .d (.s (.int .i64 s.time)), .d (.rs 1 (s.times.map intD))]]⟩
@[go_sem] theorem r_sO (e : Nat) (s : Sto) : sO e s = ⟨e, 6, false, [[.d (.rs 4 (s.top.map entD)), .d (.rs 1 (s.levels.map lvD)), .d (.rs 5 (s.sieves.map sveD)), .d (.s (.int .i64 s.keep)), .d (.s (.int .i64 s.time)), .d (.rs 1 (s.times.map intD))]]⟩ := rfl
/-- Behind the law's own store: its argument, what the reference gave, and the store, under the first names. -/
theorem rwLaw {l l' : List (Nat × AV)} {hp : Hp} {n a b p : Nat} {s w : Sto} {e1 e2 : Nat} (hab : a < b) (hbp : b < p) (hA : hp a = some (sO e1 s)) (hB : hp b = some (sO e2 w)) (hC : hp (p + gK s) = some ⟨e2, 6, false, [gC p s]⟩) (hG : GSt hp p s) (hk : 3 + gK s ≤ 10000000)
    (h : ChkB ([a, b, p + gK s] ++ List.range' p (gK s)) 3 l l') : Rw 0 ([a, b, p + gK s] ++ List.range' p (gK s)) (S l hp n) (S l' (upd (upd (upd (newG 3 s) 0 (some (sO e1 s))) 1 (some (sO e2 w))) 2 (some ⟨e2, 6, false, [gC 3 s]⟩)) 10000000) := by
  have hl : ([a, b, p + gK s] ++ List.range' p (gK s)).length = 3 + gK s := by simp; omega
  have hn : ([a, b, p + gK s] ++ List.range' p (gK s)).Nodup := by
    rw [List.nodup_append]
    refine ⟨by simp; omega, List.nodup_range', fun x hx y hy e => ?_⟩
    have := List.mem_range'_1.1 hy
    simp at hx
    omega
  have hr : ∀ j, j < gK s → pin ([a, b, p + gK s] ++ List.range' p (gK s)) (3 + j) = p + j := fun j hj => by rw [pin_r (a := [a, b, p + gK s]) (n := 3) rfl, pin_g hj]
  have hK : gK s = s.levels.length + s.sieves.length + 4 := rfl
  refine rwM (chkB (by omega) h) (selPut (selPut (selPut (selBase hG hn) hn (by omega) hA ?_) hn (by omega) hB ?_) hn (by omega) ?_ ?_) (by omega) fun m hm => absurd hm (by omega)
  · rfl
  · rfl
  · have : (⟨e2, 6, false, [gC 3 s]⟩ : Obj).ren (pin ([a, b, p + gK s] ++ List.range' p (gK s))) = ⟨e2, 6, false, [gC p s]⟩ := by
      simp only [Obj.ren, gC, List.map, CV.ren]
      rw [hr 1 (by omega), hr (s.levels.length + 2) (by omega), hr (s.levels.length + s.sieves.length + 3) (by omega), show pin ([a, b, p + gK s] ++ List.range' p (gK s)) 3 = p from hr 0 (by omega)]
    rw [this]; exact hC
  · rw [hl]
    simp only [Obj.bd, gC, List.all_cons, List.all_nil, CV.bd, Bool.and_eq_true, decide_eq_true_eq, Bool.and_true]
    refine ⟨?_, ?_, ?_, ?_, ?_, ?_⟩ <;> first | omega | trivial
theorem some_one {o : Obj} {j : Nat} (h : j < [some o].length) : ∃ q, [some o][j]? = some (some q) := by
  obtain rfl : j = 0 := by simp at h; exact h
  exact ⟨o, rfl⟩
theorem some_app {a b : List (Option Obj)} (h1 : ∀ j, j < a.length → ∃ q, a[j]? = some (some q)) (h2 : ∀ j, j < b.length → ∃ q, b[j]? = some (some q)) : ∀ j, j < (a ++ b).length → ∃ q, (a ++ b)[j]? = some (some q) := fun j hj => by
  rcases Nat.lt_or_ge j a.length with c | c
  · rw [List.getElem?_append_left c]; exact h1 j c
  · rw [List.getElem?_append_right c]; exact h2 _ (by rw [List.length_append] at hj; omega)
theorem some_sh {b : Nat} {a : List (Option Obj)} (h1 : ∀ j, j < a.length → ∃ q, a[j]? = some (some q)) : ∀ j, j < (shO b a).length → ∃ q, (shO b a)[j]? = some (some q) := fun j hj => by
  rw [shO_len] at hj
  obtain ⟨q, hq⟩ := h1 j hj
  exact ⟨q.ren (b + ·), by simp [shO, hq]⟩
theorem gOs_all (s : Sto) : ∀ j, j < (gOs s).length → ∃ q, (gOs s)[j]? = some (some q) :=
  some_app (some_app (some_app (fun _ h => some_one h) (some_sh fun j hj => by obtain ⟨o, h, _⟩ := lvF_blk s.levels j hj; exact ⟨o, h⟩)) (some_sh fun j hj => by obtain ⟨o, h, _⟩ := svF_blk s.sieves j hj; exact ⟨o, h⟩)) (fun _ h => some_one h)
theorem blk_gs {hp : Hp} {p : Nat} {s : Sto} (h : GSt hp p s) : BlkO hp p (gOs s) := fun j hj => by
  obtain ⟨o, ho⟩ := gOs_all s j hj
  have hm : hpL (gOs s) j = some o := by simp [hpL, ho]
  refine ⟨o, ho, h j o hm, ?_⟩
  rw [gOs_len]; exact gOs_bd s j o hm
theorem arg_gN {hp : Hp} {p : Nat} {s : Sto} {L : List Nat} : Arg hp (List.range' p (gK s)) L (gT p s) (gT 0 s) := by
  have hb : (gT 0 s).bd (List.range' p (gK s)).length = true := by
    rw [List.length_range']
    simp only [gT, TV.bd, List.all_cons, List.all_nil, CV.bd, gK]
    simp only [Bool.and_eq_true, decide_eq_true_eq, Bool.and_true]
    refine ⟨?_, ?_, ?_, ?_, ?_, ?_⟩ <;> first | omega | trivial
  have := Arg.nm (hp := hp) (N := List.range' p (gK s)) (L := L) hb
  rw [show (gT 0 s).ren (pin (List.range' p (gK s))) = gT p s by
    have e := fun j (h : j < gK s) => pin_g (p := p) h
    unfold gK at e
    simp only [gT, TV.ren, List.map, CV.ren, gK]
    rw [e 0 (by omega), e (0 + 1) (by omega), e (0 + (s.levels.length + 2)) (by omega), e (0 + (s.levels.length + s.sieves.length + 3)) (by omega)]
    simp only [Nat.zero_add, Nat.add_zero]] at this
  exact this
-- the store of three levels, told cell by cell
theorem arg_oT {hp : Hp} {N' L : List Nat} {p0 p1 p2 p3 pa pb pc px py pz : Nat} {top a b c : List Ent} {x y z : Sve} {keep time : Int} {ts : List Int}
    (h0 : hp p0 = some (eRow top)) (h1 : hp p1 = some ⟨29, 1, true, [[.h pa], [.h pb], [.h pc]]⟩) (h2 : hp p2 = some ⟨78, 5, true, [svN x px, svN y py, svN z pz]⟩) (h3 : hp p3 = some (tmRow ts))
    (ha : hp pa = some (eRow a)) (hb : hp pb = some (eRow b)) (hc : hp pc = some (eRow c)) (hx : hp px = some (kRow x.rests)) (hy : hp py = some (kRow y.rests)) (hz : hp pz = some (kRow z.rests))
    (hL : [p0, p1, p2, p3, pa, pb, pc, px, py, pz].all L.contains = true) :
    Arg hp N' L (.agg [.h p0, .h p1, .h p2, .d (.s (.int .i64 keep)), .d (.s (.int .i64 time)), .h p3]) (stT ⟨top, [a, b, c], [x, y, z], keep, time, ts⟩) := by
  have e1 : lendC hp 3 (.h p1) = some (.rs 1 [lvD a, lvD b, lvD c]) := by
    show (match hp p1 with | some o => _ | none => none) = _
    rw [h1]
    show (List.mapM (fun cs : List CV => cs.mapM (lendC hp 2)) [[.h pa], [.h pb], [.h pc]]).map (D.rs 1) = _
    simp only [List.mapM_cons, List.mapM_nil, lend_dRow ha, lend_dRow hb, lend_dRow hc]
    rfl
  have e2 : lendC hp 3 (.h p2) = some (.rs 5 [sveD x, sveD y, sveD z]) := by
    show (match hp p2 with | some o => _ | none => none) = _
    rw [h2]
    show (List.mapM (fun cs : List CV => cs.mapM (lendC hp 2)) [svN x px, svN y py, svN z pz]).map (D.rs 5) = _
    simp only [svN, List.mapM_cons, List.mapM_nil, lend_dRow hx, lend_dRow hy, lend_dRow hz]
    rfl
  simp only [List.all_cons, List.all_nil, Bool.and_true, Bool.and_eq_true, List.contains_iff_mem] at hL
  obtain ⟨q0, q1, q2, q3, qa, qb, qc, qx, qy, qz⟩ := hL
  refine .ln (n := 3) ?_ fun w hw m hm => ?_
  · simp only [TV.lend, List.mapM_cons, List.mapM_nil, lend_dRow h0, e1, e2, lend_dRow h3]
    rfl
  · have hd : ∀ (i : Int) (n : Nat), lendN hp n (.d (.s (.int .i64 i))) = [] := fun i n => by cases n <;> rfl
    have hdS : ∀ (i : ByteArray) (n : Nat), lendN hp n (.d (.s (.string i))) = [] := fun i n => by cases n <;> rfl
    simp only [TV.cells, List.mem_cons, List.not_mem_nil, or_false] at hw
    rcases hw with rfl | rfl | rfl | rfl | rfl | rfl
    · rw [lendN_dRow h0 2 m hm]; exact q0
    · have e : lendN hp 3 (.h p1) = p1 :: ([[CV.h pa], [.h pb], [.h pc]].flatMap fun cs => cs.flatMap (lendN hp 2)) := by
        show (match hp p1 with | some o => _ | none => []) = _
        rw [h1]
      rw [e] at hm
      simp only [List.flatMap_cons, List.flatMap_nil, List.append_nil, List.mem_cons, List.mem_append] at hm
      rcases hm with rfl | hm | hm | hm
      · exact q1
      · rw [lendN_dRow ha 1 m hm]; exact qa
      · rw [lendN_dRow hb 1 m hm]; exact qb
      · rw [lendN_dRow hc 1 m hm]; exact qc
    · have e : lendN hp 3 (.h p2) = p2 :: ([svN x px, svN y py, svN z pz].flatMap fun cs => cs.flatMap (lendN hp 2)) := by
        show (match hp p2 with | some o => _ | none => []) = _
        rw [h2]
      rw [e] at hm
      simp only [svN, List.flatMap_cons, List.flatMap_nil, List.append_nil, List.nil_append, List.mem_cons, List.mem_append, hd, hdS] at hm
      rcases hm with rfl | hm | hm | hm
      · exact q2
      · rw [lendN_dRow hx 1 m hm]; exact qx
      · rw [lendN_dRow hy 1 m hm]; exact qy
      · rw [lendN_dRow hz 1 m hm]; exact qz
    · rw [hd] at hm; cases hm
    · rw [hd] at hm; cases hm
    · rw [lendN_dRow h3 2 m hm]; exact q3
theorem wS_cons {α : Type} (f : α → Nat) (x : α) (l : List α) : wS f (x :: l) = f x + wS f l + 1 := by unfold wS; simp; omega
theorem kR_w : ∀ (l : List (List Ent)) (q : Nat), kR q l ≤ q + 4 * wS wRun l
  | [], q => by simp [kR]
  | x :: l, q => by
    have h := kR_w l (q + 4 * x.length)
    have h1 : x.length ≤ wRun x := wS_len (f := wEnt) (xs := x)
    have e := wS_cons wRun x l
    show kR (q + 4 * x.length) l ≤ _
    omega
theorem kS_w : ∀ (l : List Sve) (q : Nat), kS q l ≤ q + 4 * wS wSve l
  | [], q => by simp [kS]
  | x :: l, q => by
    have h := kS_w l (q + 4 + x.rests.length)
    have h1 : x.rests.length ≤ wS ByteArray.size x.rests := wS_len
    have h2 : wS ByteArray.size x.rests ≤ wSve x := by unfold wSve; omega
    have e := wS_cons wSve x l
    show kS (q + 4 + x.rests.length) l ≤ _
    omega
theorem cntS_le {s : Sto} (h : wSto s ≤ 1048576) : cntS 1 s ≤ 1099511627776 := by
  unfold wSto at h
  unfold cntS
  have h1 : s.top.length ≤ wRun s.top := wS_len (f := wEnt) (xs := s.top)
  have h2 := kR_w s.levels (1 + 4 * s.top.length)
  have h3 := kS_w s.sieves (kR (1 + 4 * s.top.length) s.levels)
  omega
-- a store of none
theorem eqStoreA_ac : AC Try.prog 9 [zA, stT zSto] noHp 0 ⟨.t (bT true), noHp, 0⟩ :=
  AC.nilL (eqStore_ac zSto zSto_far) (.cons (.cons (NilC.nil _) (.cons (NilC.nil _) (.cons (NilC.nil _) (.cons (.inl rfl) (.cons (.inl rfl) (.cons (NilC.nil _) .nil)))))) (.cons (NilT.refl _) .nil))
theorem markStoreA_ac (k : Nat) : AC Try.prog 10 [zA, iT k] noHp 0 ⟨.t (iT k), noHp, 0⟩ :=
  AC.nilL (markStoreZ_ac k) (.cons (.cons (NilC.nil _) (.cons (NilC.nil _) (.cons (NilC.nil _) (.cons (.inl rfl) (.cons (.inl rfl) (.cons (NilC.nil _) .nil)))))) (.cons (NilT.refl _) .nil))
theorem heldStoreA_ac (k : Nat) (hk : k ≤ 1099511627776) : AC Try.prog 11 [zA, iT k] noHp 0 ⟨.t (iT k), noHp, 0⟩ :=
  AC.nilL (heldStoreZ_ac k hk) (.cons (.cons (NilC.nil _) (.cons (NilC.nil _) (.cons (NilC.nil _) (.cons (.inl rfl) (.cons (.inl rfl) (.cons (NilC.nil _) .nil)))))) (.cons (NilT.refl _) .nil))
-- idB
def Fw (s : Sto) : Prop := ∀ x ∈ s.sieves, x.rests.length ≤ 400
theorem svIs_few {keep : Nat} {ks : List ByteArray} {s : Sve} (h : SvIs keep ks s) : s.rests.length ≤ 400 := by
  rw [h.hr, List.length_map]
  exact Nat.le_trans (List.length_filter_le _ _) h.hb
theorem fw_of {s : Sto} (hv : storeS s = true) : Fw s := fun x hx => by
  have v := vst_of hv
  obtain ⟨i, hi⟩ := List.mem_iff_getElem?.1 hx
  have hl := (List.getElem?_eq_some_iff.1 hi).1
  have hll := v.ll
  have hsl := v.sl
  exact svIs_few (v.sv i _ x (List.getElem?_eq_getElem (show i < s.levels.length by omega)) hi).1
/-- What is known of a store behind an operation. -/
structure OutB (s : Sto) : Prop where
  st : SmSt s
  sm : SmH s
  tp : s.top.length ≤ 5
  fw : Fw s
theorem OutB.far {s : Sto} (h : OutB s) : farT s := by
  have h1 := h.sm.ll; have h2 := h.sm.sl; have h3 := h.sm.tl; have h4 := h.tp
  exact ⟨by omega, by omega, fun e he => by have := (h.sm.lev e he).2; omega, by omega, fun e he => by have := h.fw e he; omega, by omega⟩
theorem OutB.cnt {top a b c : List Ent} {x y z : Sve} {keep time : Int} {ts : List Int} (h : OutB ⟨top, [a, b, c], [x, y, z], keep, time, ts⟩) : cntS 1 ⟨top, [a, b, c], [x, y, z], keep, time, ts⟩ ≤ 1099511627776 := by
  have h1 : top.length ≤ 5 := h.tp
  have h2 := (h.sm.lev a (by simp)).2
  have h3 := (h.sm.lev b (by simp)).2
  have h4 := (h.sm.lev c (by simp)).2
  have h5 := h.fw x (by simp)
  have h6 := h.fw y (by simp)
  have h7 := h.fw z (by simp)
  have h8 : ts.length ≤ 1000 := h.sm.tl
  show 1 + 4 * top.length + 4 * a.length + 4 * b.length + 4 * c.length + 4 + x.rests.length + 4 + y.rests.length + 4 + z.rests.length + ts.length ≤ 1099511627776
  omega
theorem hpN10 : hpL [none, none, none, none, none, none, none, none, none, none] = noHp := by
  funext m
  unfold hpL
  rcases m with _ | _ | _ | _ | _ | _ | _ | _ | _ | _ | m <;> rfl
theorem mark_both (top a b c : List Ent) (x y z : Sve) (keep time : Int) (ts : List Int) (hq : cntS 1 ⟨top, [a, b, c], [x, y, z], keep, time, ts⟩ ≤ 1099511627776) : ∃ (top' a' b' c' : List Ent) (x' y' z' : Sve) (ts' : List Int) (n : Nat),
    AC Try.prog 10 [.agg [.h 0, .h 1, .h 2, .d (.s (.int .i64 keep)), .d (.s (.int .i64 time)), .h 3], iT 1] (hpL (cloS top a b c x y z ts)) 10 ⟨.t (iT (n : Nat)), hpL (cloS top' a' b' c' x' y' z' ts'), 10⟩ ∧
    AC Try.prog 11 [stT ⟨top', [a', b', c'], [x', y', z'], keep, time, ts'⟩, iT 1] noHp 0 ⟨.t (iT (n : Nat)), noHp, 0⟩ :=
  ⟨_, _, _, _, _, _, _, _, _, markStoreO_ac top a b c x y z keep time ts 1 hq, heldStoreM_ac ⟨top, [a, b, c], [x, y, z], keep, time, ts⟩ 1 (by simp) (by simp) hq⟩
theorem mark_none (top a b c : List Ent) (x y z : Sve) (keep time : Int) (ts : List Int) (hq : cntS 1 ⟨top, [a, b, c], [x, y, z], keep, time, ts⟩ ≤ 1099511627776) : ∃ n : Nat,
    AC Try.prog 10 [.agg [.h 0, .h 1, .h 2, .d (.s (.int .i64 keep)), .d (.s (.int .i64 time)), .h 3], iT 1] (hpL (cloS top a b c x y z ts)) 10 ⟨.t (iT (n : Nat)), hpL [none, none, none, none, none, none, none, none, none, none], 10⟩ :=
  ⟨_, by rw [hpN10]; exact AC.drop (markStoreO_ac top a b c x y z keep time ts 1 hq) rfl (Nat.le_refl _)⟩
@[simp] theorem flat_svN (x : Sve) (j : Nat) : (svN x j).all CV.flat = true := rfl
theorem tm_at {ts : List Int} {now : Int} (h : timesM ts now = true) : ts.length ≤ 3 ∧ (∀ t ∈ ts, 0 ≤ t ∧ t ≤ now) ∧ ∀ i, (hi : i + 1 < ts.length) → ts[i] < ts[i + 1] := by
  unfold timesM at h
  rw [Bool.and_eq_true] at h
  have h1 := allI_iff.1 h.1
  refine ⟨of_decide_eq_true h.2, fun t ht => ?_, fun i hi => ?_⟩
  · obtain ⟨i, hi, rfl⟩ := List.getElem_of_mem ht
    have := h1 i hi
    unfold tmAt at this
    rw [List.getElem?_eq_getElem hi] at this
    simp only [Bool.and_eq_true] at this
    have := this.1
    unfold inB at this
    rw [Bool.and_eq_true] at this
    exact ⟨of_decide_eq_true this.1, of_decide_eq_true this.2⟩
  · have := h1 (i + 1) hi
    unfold tmAt at this
    rw [List.getElem?_eq_getElem hi] at this
    simp only [Bool.and_eq_true] at this
    have := this.2
    rw [List.getElem?_eq_getElem (show i < ts.length by omega)] at this
    simp at this
    exact this
theorem tm_lt {ts : List Int} {now : Int} (h : timesM ts now = true) : ∀ (j i : Nat) (hij : i < j) (hj : j < ts.length), ts[i] < ts[j]
  | 0, i, hij, _ => by omega
  | j + 1, i, hij, hj => by
    have h1 := (tm_at h).2.2 j hj
    rcases Nat.lt_succ_iff_lt_or_eq.1 hij with c | rfl
    · have := tm_lt h j i c (by omega); omega
    · exact h1
def holdI (s : Sto) : Option Sto := if (s.times.any fun x => decide (s.time = x)) = true then some s else if s.times.length + 1 ≤ 3 then some { s with times := s.times ++ [s.time] } else none
theorem hold_eq {s : Sto} (hv : storeS s = true) : holdM s = holdI s := by
  obtain ⟨_, _, _, _, _, h6, _⟩ := storeS_facts hv
  unfold inB at h6
  rw [Bool.and_eq_true] at h6
  have t0 := of_decide_eq_true h6.1
  have ht : timesM s.times s.time = true := by
    unfold storeS headS at hv
    simp only [Bool.and_eq_true] at hv
    exact hv.1.1.1.2
  obtain ⟨a1, a2, a3⟩ := tm_at ht
  unfold holdM holdI
  rw [if_pos hv]
  by_cases c : (s.times.any fun x => decide (s.time = x)) = true
  · rw [if_pos c]
    obtain ⟨x, hx, e⟩ := List.any_eq_true.1 c
    have e := of_decide_eq_true e
    subst e
    obtain ⟨i, hi, hxi⟩ := List.getElem_of_mem hx
    have hl : s.times.getLast? = some s.time := by
      rw [List.getLast?_eq_getElem?, List.getElem?_eq_getElem (by omega)]
      congr 1
      rcases Nat.lt_or_ge i (s.times.length - 1) with q | q
      · have := tm_lt ht (s.times.length - 1) i q (by omega)
        have := (a2 _ (List.getElem_mem (show s.times.length - 1 < s.times.length by omega))).2
        omega
      · have : i = s.times.length - 1 := by omega
        subst this; exact hxi
    have e2 : heldTs s = s.times := by unfold heldTs; rw [if_pos hl]
    rw [e2, if_pos ht]
  · rw [if_neg c]
    have hne : ∀ t ∈ s.times, t ≠ s.time := fun t htm e => c (List.any_eq_true.2 ⟨t, htm, decide_eq_true e.symm⟩)
    have hl : ¬ s.times.getLast? = some s.time := fun e => hne _ (List.mem_of_getLast? e) rfl
    have e2 : heldTs s = s.times ++ [s.time] := by unfold heldTs; rw [if_neg hl]
    rw [e2]
    have e3 : timesM (s.times ++ [s.time]) s.time = decide (s.times.length + 1 ≤ 3) := by
      rw [tm_end]
      · rw [List.length_append, List.length_singleton]; exact decide_eq_decide.2 (by omega)
      · intro j hj
        rw [List.length_append, List.length_singleton] at hj
        unfold tmAt
        have hget : ∀ q, (hq : q < s.times.length) → (s.times ++ [s.time])[q]? = some s.times[q] := fun q hq => by rw [List.getElem?_append_left hq, List.getElem?_eq_getElem hq]
        rcases Nat.lt_or_ge j s.times.length with q | q
        · rw [hget j q]
          simp only [Bool.and_eq_true]
          have := a2 _ (List.getElem_mem q)
          refine ⟨by unfold inB; simp; omega, ?_⟩
          cases j with
          | zero => rfl
          | succ j =>
            simp only
            rw [hget j (by omega)]
            have := a3 j q
            simp; omega
        · obtain rfl : j = s.times.length := by omega
          rw [List.getElem?_append_right (Nat.le_refl _), Nat.sub_self]
          simp only [List.getElem?_cons_zero, Bool.and_eq_true]
          refine ⟨by unfold inB; simp; omega, ?_⟩
          cases hn : s.times.length with
          | zero => rfl
          | succ n =>
            simp only
            rw [hget n (by omega)]
            have hm := List.getElem_mem (show n < s.times.length by omega)
            have := a2 _ hm
            have := hne _ hm
            simp; omega
    rw [e3]
    by_cases q : s.times.length + 1 ≤ 3
    · rw [decide_eq_true q, if_pos rfl, if_pos q]
    · rw [decide_eq_false q, if_neg (by simp), if_neg q]
theorem cloneT_ac (s : Sto) (hs : SmSt s) (hv : storeS s = true) : AC Try.prog 51 [stT s] noHp 0 ⟨.t (.agg [.d (.rs 4 (s.top.map entD)), .d (.rs 1 (s.levels.map lvD)), .d (.rs 5 (s.sieves.map sveD)), .d (.s (.int .i64 s.keep)), .d (.s (.int .i64 s.time)), .h 0]), hpL [some (tmRow s.times)], 1⟩ := by
  obtain ⟨l1, l2, l3, l4, l5, _⟩ := storeS_facts hv
  have hrl := hs.rl
  obtain ⟨top, levels, sieves, keep, time, ts⟩ := s
  obtain ⟨a, b, c, rfl⟩ := len3 l1
  obtain ⟨x, y, z, rfl⟩ := len3 l2
  have ha := l5 a (by simp)
  have hb := l5 b (by simp)
  have hc := l5 c (by simp)
  dsimp only at l3 l4
  have k := storeClone_ac top a b c x y z keep time ts (by omega) (by omega) (by omega) (by omega) (hrl x (by simp)) (hrl y (by simp)) (hrl z (by simp)) (by omega)
  unfold cloS svN at k
  have h := AC.setS [4, 5, 6, 7, 8, 9] k (y := .t (.agg [.h 0, .h 1, .h 2, .d (.s (.int .i64 keep)), .d (.s (.int .i64 time)), .h 3])) (os' := [some (eRow top), some (lvRow [a, b, c]), some (svRow [x, y, z]), some (tmRow ts)])
    (.cons (.inl rfl) (.cons (.inl rfl) (.cons (.inl rfl) (.cons (.inl rfl) (.cons (.inl rfl) (.cons (.inl rfl) .nil))))))
    ⟨.inl rfl, rfl, .inr ⟨rfl, rfl, rfl, .cons (.cons (SetC.row0 rfl rfl) .nil) (.cons (.cons (SetC.row0 rfl rfl) .nil) (.cons (.cons (SetC.row0 rfl rfl) .nil) .nil))⟩, rfl,
      .inr ⟨rfl, rfl, rfl, .cons (.cons (.inl rfl) (.cons (.inl rfl) (.cons (.inl rfl) (.cons (SetC.row0 rfl rfl) (.cons (.inl rfl) .nil))))) (.cons (.cons (.inl rfl) (.cons (.inl rfl) (.cons (.inl rfl) (.cons (SetC.row0 rfl rfl) (.cons (.inl rfl) .nil))))) (.cons (.cons (.inl rfl) (.cons (.inl rfl) (.cons (.inl rfl) (.cons (SetC.row0 rfl rfl) (.cons (.inl rfl) .nil))))) .nil))⟩, rfl, .inl rfl, rfl, trivial⟩
  have h2 := AC.setS [0, 1, 2] h (y := .t (.agg [.d (.rs 4 (top.map entD)), .d (.rs 1 ([a, b, c].map lvD)), .d (.rs 5 ([x, y, z].map sveD)), .d (.s (.int .i64 keep)), .d (.s (.int .i64 time)), .h 3])) (os' := [none, none, none, some (tmRow ts)])
    (.cons (SetC.row0 rfl rfl) (.cons (SetC.row0 rfl rfl) (.cons (SetC.row0 rfl rfl) (.cons (.inl rfl) (.cons (.inl rfl) (.cons (.inl rfl) .nil)))))) ⟨.inl rfl, rfl, trivial⟩
  refine AC.sel (M := [3]) h2 rfl rfl (selL rfl ?_) (by decide) fun m hm => absurd hm (by omega)
  simp only [go_sem, LeftL]
theorem arg_qS {hp : Hp} {N' L : List Nat} {a : Nat} {s : Sto} (ha : hp a = some (tmRow s.times)) (hL : a ∈ L) :
    Arg hp N' L (.agg [.d (.rs 4 (s.top.map entD)), .d (.rs 1 (s.levels.map lvD)), .d (.rs 5 (s.sieves.map sveD)), .d (.s (.int .i64 s.keep)), .d (.s (.int .i64 s.time)), .h a]) (stT s) := by
  refine .ln (n := 1) ?_ ?_
  · have e1 := lend_dRow (hp := hp) ha 0
    have e5 : ∀ x, lendC hp (0 + 1) (.d x) = some x := fun _ => rfl
    show (([.d (.rs 4 (s.top.map entD)), .d (.rs 1 (s.levels.map lvD)), .d (.rs 5 (s.sieves.map sveD)), .d (.s (.int .i64 s.keep)), .d (.s (.int .i64 s.time)), .h a] : List CV).mapM (lendC hp (0 + 1))).map _ = _
    simp only [List.mapM_cons, List.mapM_nil, e1, e5]
    rfl
  · intro z hz m hm
    simp only [TV.cells, List.mem_cons, List.not_mem_nil, or_false] at hz
    rcases hz with rfl | rfl | rfl | rfl | rfl | rfl
    · simp [lendN] at hm
    · simp [lendN] at hm
    · simp [lendN] at hm
    · simp [lendN] at hm
    · simp [lendN] at hm
    · rw [lendN_dRow ha 0 m hm]; exact hL
/-- A store in a variable: its times are a row of its own. -/
def qO (s : Sto) : Obj := ⟨33, 6, false, [[.d (.rs 4 (s.top.map entD)), .d (.rs 1 (s.levels.map lvD)), .d (.rs 5 (s.sieves.map sveD)), .d (.s (.int .i64 s.keep)), .d (.s (.int .i64 s.time)), .h 1]]⟩
@[go_sem] theorem r_qO (s : Sto) : qO s = ⟨33, 6, false, [[.d (.rs 4 (s.top.map entD)), .d (.rs 1 (s.levels.map lvD)), .d (.rs 5 (s.sieves.map sveD)), .d (.s (.int .i64 s.keep)), .d (.s (.int .i64 s.time)), .h 1]]⟩ := rfl
/-- And as it is handed back. -/
def qO2 (s : Sto) : Obj := ⟨33, 6, false, [[.d (.rs 4 (s.top.map entD)), .d (.rs 1 (s.levels.map lvD)), .d (.rs 5 (s.sieves.map sveD)), .d (.s (.int .i64 s.keep)), .d (.s (.int .i64 s.time)), .h 2]]⟩
@[go_sem] theorem r_qO2 (s : Sto) : qO2 s = ⟨33, 6, false, [[.d (.rs 4 (s.top.map entD)), .d (.rs 1 (s.levels.map lvD)), .d (.rs 5 (s.sieves.map sveD)), .d (.s (.int .i64 s.keep)), .d (.s (.int .i64 s.time)), .h 2]]⟩ := rfl
theorem hold_ok (s s' : Sto) (hl : s.times.length ≤ 3) (h : holdI s = some s') : AC Try.prog 26 [.c (.ph 0 0 0)] (hpL [some (qO s), some (tmRow s.times)]) 2 ⟨.t (bT true), hpL [some (qO2 s'), none, some (tmRow s'.times)], 3⟩ := by
  have k := (contains_ac s.times s.time (by omega)).toL0
  unfold holdI at h
  by_cases c : (s.times.any fun x => decide (s.time = x)) = true
  · rw [if_pos c, Option.some.injEq] at h
    subst h
    rw [c] at k
    refine AC_of Try.func26 rfl Try.ntmps26 Try.results26 (by kernel_rfl) rfl ?_
    simp only [List.zipIdx, List.map, Nat.zero_add, Nat.reduceAdd]
    repeat (first | apply Aw_seq | apply Aw_block | apply Aw_skip | apply Aw_exit | refine Aw_condt rfl ?_ | refine Aw_condf rfl ?_ | ((first | refine qr ?_ | refine qd (by kernel_rfl) (by kernel_rfl) ?_); simp only [go_sem, jE, reduceIte, jA, jM, jS, jL, jD, jB]) | refine dk (by kernel_rfl) ?_ | (refine qx (call_N (L := [1]) (k) rfl (.cons (arg_lend (m := 1) rfl (by simp)) (.cons (.nm rfl) (.nil))) (.inr ⟨rfl, by simp⟩) rfl) (by simp only [go_sem, jE, reduceIte, jA, jM, jS, jL, jD, jB]; first | done | rfl) rfl (by simp only [go_sem, Nat.reduceLT]) ?_; simp only [go_sem, jE, reduceIte, jA, jM, jS, jL, jD, jB]))
    exact Aw_ret (retL (M := [0, 1, 1]) (.inl rfl) (by simp only [go_sem, jE, reduceIte, jA, jM, jS, jL, jD, jB]; first | done | rfl) rfl rfl (by rfl) (by simp only [go_sem, jE, reduceIte, jA, jM, jS, jL, jD, jB]; first | done | rfl | (and_intros <;> rfl)) (by decide) (by unfold idM; decide))
  · rw [if_neg c] at h
    rw [Bool.not_eq_true] at c
    rw [c] at k
    split at h
    · rename_i q
      obtain rfl := Option.some.inj h
      have hq : (s.times.length + 1) * 8 ≤ 140737488355328 := by omega
      have g : decide (((s.times.length + 1 : Nat) : Int) ≤ 3) = true := decide_eq_true (by omega)
      refine AC_of Try.func26 rfl Try.ntmps26 Try.results26 (by kernel_rfl) rfl ?_
      simp only [List.zipIdx, List.map, Nat.zero_add, Nat.reduceAdd]
      repeat (first | apply Aw_seq | apply Aw_block | apply Aw_skip | apply Aw_exit | refine Aw_condt rfl ?_ | refine Aw_condf rfl ?_ | ((first | refine qr ?_ | refine qd (by kernel_rfl) (by kernel_rfl) ?_); simp only [go_sem, jE, reduceIte, jA, jM, jS, jL, jD, jB, hq, g]) | refine dk (by kernel_rfl) ?_ | (refine qx (call_N (L := [1]) (k) rfl (.cons (arg_lend (m := 1) rfl (by simp)) (.cons (.nm rfl) (.nil))) (.inr ⟨rfl, by simp⟩) rfl) (by simp only [go_sem, jE, reduceIte, jA, jM, jS, jL, jD, jB, hq, g]; first | done | rfl) rfl (by simp only [go_sem, Nat.reduceLT]) ?_; simp only [go_sem, jE, reduceIte, jA, jM, jS, jL, jD, jB, hq, g]))
      exact Aw_ret (retL (M := [0, 1, 21]) (.inl rfl) (by simp only [go_sem, jE, reduceIte, jA, jM, jS, jL, jD, jB]; first | done | rfl) rfl rfl (by rfl) (by simp only [go_sem, jE, reduceIte, jA, jM, jS, jL, jD, jB, List.map_append, List.map_cons, List.map_nil]; first | done | rfl | (and_intros <;> rfl)) (by decide) (by unfold idM; decide))
    · cases h
theorem hold_no (s : Sto) (hl : s.times.length ≤ 3) (h : holdI s = none) : AC Try.prog 26 [.c (.ph 0 0 0)] (hpL [some (qO s), some (tmRow s.times)]) 2 ⟨.t (bT false), hpL [none, none], 2⟩ := by
  have k := (contains_ac s.times s.time (by omega)).toL0
  unfold holdI at h
  by_cases c : (s.times.any fun x => decide (s.time = x)) = true
  · rw [if_pos c] at h; cases h
  · rw [if_neg c] at h
    rw [Bool.not_eq_true] at c
    rw [c] at k
    split at h
    · cases h
    · rename_i q
      have hq : (s.times.length + 1) * 8 ≤ 140737488355328 := by omega
      have g : decide (((s.times.length + 1 : Nat) : Int) ≤ 3) = false := decide_eq_false (by omega)
      refine AC_of Try.func26 rfl Try.ntmps26 Try.results26 (by kernel_rfl) rfl ?_
      simp only [List.zipIdx, List.map, Nat.zero_add, Nat.reduceAdd]
      repeat (first | apply Aw_seq | apply Aw_block | apply Aw_skip | apply Aw_exit | refine Aw_condt rfl ?_ | refine Aw_condf rfl ?_ | ((first | refine qr ?_ | refine qd (by kernel_rfl) (by kernel_rfl) ?_); simp only [go_sem, jE, reduceIte, jA, jM, jS, jL, jD, jB, hq, g]) | refine dk (by kernel_rfl) ?_ | (refine qx (call_N (L := [1]) (k) rfl (.cons (arg_lend (m := 1) rfl (by simp)) (.cons (.nm rfl) (.nil))) (.inr ⟨rfl, by simp⟩) rfl) (by simp only [go_sem, jE, reduceIte, jA, jM, jS, jL, jD, jB, hq, g]; first | done | rfl) rfl (by simp only [go_sem, Nat.reduceLT]) ?_; simp only [go_sem, jE, reduceIte, jA, jM, jS, jL, jD, jB, hq, g]))
      exact Aw_ret (retL (M := [0, 1]) (.inl rfl) (by simp only [go_sem, jE, reduceIte, jA, jM, jS, jL, jD, jB]; first | done | rfl) rfl rfl (by rfl) (by simp only [go_sem, jE, reduceIte, jA, jM, jS, jL, jD, jB]; first | done | rfl | (and_intros <;> rfl)) (by decide) (by unfold idM; decide))
theorem holdI_sm {s s' : Sto} (hs : SmSt s) (hv : storeS s = true) (h : holdI s = some s') : SmSt s' ∧ SmH s' ∧ s'.top.length ≤ 5 := by
  obtain ⟨_, _, l3, l4, _⟩ := storeS_facts hv
  have sm := valid_sm hs hv
  unfold holdI at h
  split at h
  · obtain rfl := Option.some.inj h
    exact ⟨hs, sm, by omega⟩
  · split at h
    · obtain rfl := Option.some.inj h
      have hl : (s.times ++ [s.time]).length ≤ 1000 := by rw [List.length_append]; simp; omega
      exact ⟨⟨hs.top, hs.lev, hs.ll, hs.sl, hs.rl, by show (s.times ++ [s.time]).length ≤ _; omega⟩, ⟨sm.ll, sm.sl, sm.lev, hl⟩, by show s.top.length ≤ 5; omega⟩
    · cases h
theorem chgHold_own (s : Sto) (hs : SmSt s) (hv : storeS s = true) (top a b c : List Ent) (x y z : Sve) (keep time : Int) (ts : List Int) (h : holdI s = some ⟨top, [a, b, c], [x, y, z], keep, time, ts⟩) : AC Try.prog 25 [stT s, .c (.fn 26 [])] noHp 0 ⟨.tup [.agg [.h 0, .h 1, .h 2, .d (.s (.int .i64 keep)), .d (.s (.int .i64 time)), .h 3], bT true], hpL (cloS top a b c x y z ts), 10⟩ := by
  have k1 := storeOkI_ac s hs
  rw [hv] at k1
  have kc := cloneT_ac s hs hv
  have kv := hold_ok s ⟨top, [a, b, c], [x, y, z], keep, time, ts⟩ (by have := storeS_facts hv; omega) h
  obtain ⟨st, g, gt⟩ := holdI_sm hs hv h
  have hrl := st.rl
  have hlv := g.lev
  have htl := g.tl
  dsimp only at hrl hlv htl gt
  have kf := storeClone_ac top a b c x y z keep time ts (by omega) (by have := (hlv a (by simp)).2; omega) (by have := (hlv b (by simp)).2; omega) (by have := (hlv c (by simp)).2; omega) (hrl x (by simp)) (hrl y (by simp)) (hrl z (by simp)) (by omega)
  unfold cloS svN at kf
  unfold cloS svN
  have arS : ∀ {hp : Hp} {N' L : List Nat} (p : Nat), hp p = some (tmRow ts) → p ∈ L → Arg hp N' L (.agg [.d (.rs 4 (top.map entD)), .d (.rs 1 ([a, b, c].map lvD)), .d (.rs 5 ([x, y, z].map sveD)), .d (.s (.int .i64 keep)), .d (.s (.int .i64 time)), .h p]) (stT ⟨top, [a, b, c], [x, y, z], keep, time, ts⟩) := fun p h1 h3 => arg_qS (s := ⟨top, [a, b, c], [x, y, z], keep, time, ts⟩) h1 h3
  refine AC_of Try.func25 rfl Try.ntmps25 Try.results25 (by kernel_rfl) rfl ?_
  simp only [List.zipIdx, List.map, Nat.zero_add, Nat.reduceAdd]
  repeat (first | apply Aw_seq | apply Aw_block | apply Aw_skip | apply Aw_exit | refine Aw_condt rfl ?_ | refine Aw_condf rfl ?_ | ((first | refine qr ?_ | refine qd (by kernel_rfl) (by kernel_rfl) ?_); simp only [go_sem, jE, reduceIte, jA, jM, jS, jL, jD, jB]) | refine dk (by kernel_rfl) ?_ | (refine qp (k1) (by simp only [go_sem, jE, reduceIte, jA, jM, jS, jL, jD, jB]; first | done | rfl) rfl (by simp only [go_sem, Nat.reduceLT]) rfl rfl ?_; simp only [go_sem, jE, reduceIte, jA, jM, jS, jL, jD, jB]) | (refine qx (call_N (L := []) (kc) rfl (.cons (.nm rfl) (.nil)) (.inl rfl) rfl) (by simp only [go_sem, jE, reduceIte, jA, jM, jS, jL, jD, jB]; first | done | rfl) rfl (by simp only [go_sem, Nat.reduceLT]) ?_; simp only [go_sem, jE, reduceIte, jA, jM, jS, jL, jD, jB]) | (refine qx (call_N (L := [10]) (kf) rfl (.cons (arS 10 rfl (by simp)) (.nil)) (.inr ⟨rfl, by simp⟩) rfl) (by simp only [go_sem, jE, reduceIte, jA, jM, jS, jL, jD, jB]; first | done | rfl) rfl (by simp only [go_sem, Nat.reduceLT]) ?_; simp only [go_sem, jE, reduceIte, jA, jM, jS, jL, jD, jB]) | (refine ex_callv (by simp only [go_sem, jE, reduceIte, jA, jM, jS, jL, jD, jB]; first | done | rfl) (call_V (N' := [7, 6]) (L := []) 1 (kv) rfl (.cons (.nm rfl) (.nil)) (by first | exact .nil | (simp only [capT, List.map]; exact .nil)) (by decide) (by decide) (by decide) (by simp only [go_sem, jE, reduceIte, jA, jM, jS, jL, jD, jB]; first | done | rfl) (.inl rfl) rfl (by decide)) (by simp only [go_sem, jE, reduceIte, jA, jM, jS, jL, jD, jB]; first | done | rfl) rfl (by simp only [go_sem, Nat.reduceLT]) ?_; simp only [go_sem, jE, reduceIte, jA, jM, jS, jL, jD, jB]))
  exact Aw_ret (retL (M := [13, 14, 15, 16, 17, 18, 19, 20, 21, 22]) (.inl rfl) (by simp only [go_sem, jE, reduceIte, jA, jM, jS, jL, jD, jB]; first | done | rfl) rfl rfl (by rfl) (by simp only [go_sem, jE, reduceIte, jA, jM, jS, jL, jD, jB]; first | done | rfl | (and_intros <;> rfl)) (by decide) (by unfold idM; decide))
theorem chgHold_ok (s s' : Sto) (hs : SmSt s) (hv : storeS s = true) (h : holdI s = some s') : AC Try.prog 25 [stT s, .c (.fn 26 [])] noHp 0 ⟨.tup [stT s', bT true], noHp, 0⟩ := by
  obtain ⟨st, g, gt⟩ := holdI_sm hs hv h
  obtain ⟨top, levels, sieves, keep, time, ts⟩ := s'
  obtain ⟨a, b, c, rfl⟩ := len3 g.ll
  obtain ⟨x, y, z, rfl⟩ := len3 g.sl
  have kk := chgHold_own s hs hv top a b c x y z keep time ts h
  unfold cloS svN at kk
  have h1 := AC.setS [4, 5, 6, 7, 8, 9] kk (y := .tup [.agg [.h 0, .h 1, .h 2, .d (.s (.int .i64 keep)), .d (.s (.int .i64 time)), .h 3], bT true]) (os' := [some (eRow top), some (lvRow [a, b, c]), some (svRow [x, y, z]), some (tmRow ts)])
    (.cons (.cons (.inl rfl) (.cons (.inl rfl) (.cons (.inl rfl) (.cons (.inl rfl) (.cons (.inl rfl) (.cons (.inl rfl) .nil)))))) (.cons (.inl rfl) .nil))
    ⟨.inl rfl, rfl, .inr ⟨rfl, rfl, rfl, .cons (.cons (SetC.row0 rfl rfl) .nil) (.cons (.cons (SetC.row0 rfl rfl) .nil) (.cons (.cons (SetC.row0 rfl rfl) .nil) .nil))⟩, rfl,
      .inr ⟨rfl, rfl, rfl, .cons (.cons (.inl rfl) (.cons (.inl rfl) (.cons (.inl rfl) (.cons (SetC.row0 rfl rfl) (.cons (.inl rfl) .nil))))) (.cons (.cons (.inl rfl) (.cons (.inl rfl) (.cons (.inl rfl) (.cons (SetC.row0 rfl rfl) (.cons (.inl rfl) .nil))))) (.cons (.cons (.inl rfl) (.cons (.inl rfl) (.cons (.inl rfl) (.cons (SetC.row0 rfl rfl) (.cons (.inl rfl) .nil))))) .nil))⟩, rfl, .inl rfl, rfl, trivial⟩
  exact AC.settle0 [0, 1, 2, 3] h1
    (.cons (.cons (SetC.row0 rfl rfl) (.cons (SetC.row0 rfl rfl) (.cons (SetC.row0 rfl rfl) (.cons (.inl rfl) (.cons (.inl rfl) (.cons (SetC.row0 rfl rfl) .nil)))))) (.cons (.inl rfl) .nil)) rfl
theorem chgHold_no (s : Sto) (hs : SmSt s) (h : holdM s = none) : AC Try.prog 25 [stT s, .c (.fn 26 [])] noHp 0 ⟨.tup [zA, bT false], noHp, 0⟩ := by
  have k1 := storeOkI_ac s hs
  cases hv : storeS s
  · rw [hv] at k1
    refine AC_of Try.func25 rfl Try.ntmps25 Try.results25 (by kernel_rfl) rfl ?_
    simp only [List.zipIdx, List.map, Nat.zero_add, Nat.reduceAdd]
    repeat (first | apply Aw_seq | apply Aw_block | apply Aw_skip | apply Aw_exit | refine Aw_condt rfl ?_ | refine Aw_condf rfl ?_ | ((first | refine qr ?_ | refine qd (by kernel_rfl) (by kernel_rfl) ?_); simp only [go_sem, jE, reduceIte, jA, jM, jS, jL, jD, jB]) | refine dk (by kernel_rfl) ?_ | (refine qp (k1) (by simp only [go_sem, jE, reduceIte, jA, jM, jS, jL, jD, jB]; first | done | rfl) rfl (by simp only [go_sem, Nat.reduceLT]) rfl rfl ?_; simp only [go_sem, jE, reduceIte, jA, jM, jS, jL, jD, jB]))
    exact Aw_ret (ret0 (.inl rfl) (by simp only [go_sem, jE, reduceIte, jA, jM, jS, jL, jD, jB]; rfl) (by rfl) rfl)
  rw [hv] at k1
  rw [hold_eq hv] at h
  have kc := cloneT_ac s hs hv
  have kv := hold_no s (by have := storeS_facts hv; omega) h
  refine AC_of Try.func25 rfl Try.ntmps25 Try.results25 (by kernel_rfl) rfl ?_
  simp only [List.zipIdx, List.map, Nat.zero_add, Nat.reduceAdd]
  repeat (first | apply Aw_seq | apply Aw_block | apply Aw_skip | apply Aw_exit | refine Aw_condt rfl ?_ | refine Aw_condf rfl ?_ | ((first | refine qr ?_ | refine qd (by kernel_rfl) (by kernel_rfl) ?_); simp only [go_sem, jE, reduceIte, jA, jM, jS, jL, jD, jB]) | refine dk (by kernel_rfl) ?_ | (refine qp (k1) (by simp only [go_sem, jE, reduceIte, jA, jM, jS, jL, jD, jB]; first | done | rfl) rfl (by simp only [go_sem, Nat.reduceLT]) rfl rfl ?_; simp only [go_sem, jE, reduceIte, jA, jM, jS, jL, jD, jB]) | (refine qx (call_N (L := []) (kc) rfl (.cons (.nm rfl) (.nil)) (.inl rfl) rfl) (by simp only [go_sem, jE, reduceIte, jA, jM, jS, jL, jD, jB]; first | done | rfl) rfl (by simp only [go_sem, Nat.reduceLT]) ?_; simp only [go_sem, jE, reduceIte, jA, jM, jS, jL, jD, jB]) | (refine ex_callv (by simp only [go_sem, jE, reduceIte, jA, jM, jS, jL, jD, jB]; first | done | rfl) (call_V (N' := [7, 6]) (L := []) 1 (kv) rfl (.cons (.nm rfl) (.nil)) (by first | exact .nil | (simp only [capT, List.map]; exact .nil)) (by decide) (by decide) (by decide) (by simp only [go_sem, jE, reduceIte, jA, jM, jS, jL, jD, jB]; first | done | rfl) (.inl rfl) rfl (by decide)) (by simp only [go_sem, jE, reduceIte, jA, jM, jS, jL, jD, jB]; first | done | rfl) rfl (by simp only [go_sem, Nat.reduceLT]) ?_; simp only [go_sem, jE, reduceIte, jA, jM, jS, jL, jD, jB]))
  exact Aw_ret (ret0 (.inl rfl) (by simp only [go_sem, jE, reduceIte, jA, jM, jS, jL, jD, jB]; rfl) (by rfl) rfl)
theorem storeHold_ac (s : Sto) (hs : SmSt s) : AC Try.prog 8 [stT s] noHp 0 ⟨resH (holdM s), noHp, 0⟩ := by
  cases h : holdM s with
  | none =>
    refine AC.nilR (x := zH) ?_ zH_nil
    have kk := chgHold_no s hs h
    refine AC_of Try.func8 rfl Try.ntmps8 Try.results8 (by kernel_rfl) rfl ?_
    simp only [List.zipIdx, List.map, Nat.zero_add, Nat.reduceAdd]
    repeat (first | apply Aw_seq | apply Aw_block | apply Aw_skip | apply Aw_exit | refine Aw_condt rfl ?_ | refine Aw_condf rfl ?_ | ((first | refine qr ?_ | refine qd (by kernel_rfl) (by kernel_rfl) ?_); simp only [go_sem, jE, reduceIte, jA, jM, jS, jL, jD, jB]) | refine dk (by kernel_rfl) ?_ | (refine qp (kk) (by simp only [go_sem, jE, reduceIte, jA, jM, jS, jL, jD, jB]; first | done | rfl) rfl (by simp only [go_sem, Nat.reduceLT]) rfl rfl ?_; simp only [go_sem, jE, reduceIte, jA, jM, jS, jL, jD, jB]))
    exact Aw_ret (ret0 (.inl rfl) (by simp only [go_sem, jE, reduceIte, jA, jM, jS, jL, jD, jB]; rfl) (by rfl) rfl)
  | some s' =>
    have hv : storeS s = true := by
      unfold holdM at h
      split at h
      · assumption
      · cases h
    have kk := chgHold_ok s s' hs hv (by rw [← hold_eq hv]; exact h)
    refine AC_of Try.func8 rfl Try.ntmps8 Try.results8 (by kernel_rfl) rfl ?_
    simp only [List.zipIdx, List.map, Nat.zero_add, Nat.reduceAdd]
    repeat (first | apply Aw_seq | apply Aw_block | apply Aw_skip | apply Aw_exit | refine Aw_condt rfl ?_ | refine Aw_condf rfl ?_ | ((first | refine qr ?_ | refine qd (by kernel_rfl) (by kernel_rfl) ?_); simp only [go_sem, jE, reduceIte, jA, jM, jS, jL, jD, jB]) | refine dk (by kernel_rfl) ?_ | (refine qp (kk) (by simp only [go_sem, jE, reduceIte, jA, jM, jS, jL, jD, jB]; first | done | rfl) rfl (by simp only [go_sem, Nat.reduceLT]) rfl rfl ?_; simp only [go_sem, jE, reduceIte, jA, jM, jS, jL, jD, jB]))
    exact Aw_ret (ret0 (.inl rfl) (by simp only [go_sem, jE, reduceIte, jA, jM, jS, jL, jD, jB]; rfl) (by rfl) rfl)
-- idB
theorem OwnH.setX {f : FuncId} {args : List TV} {o : Option Sto} (h : OwnH f args o) : AC Try.prog f args noHp 0 ⟨resH o, noHp, 0⟩ := by
  cases o with
  | none => exact AC.nilR (h.2 rfl) zH_nil
  | some x => exact AC.settle0 [0, 1, 2, 3] (h.1 x rfl) (.cons (.cons (SetC.row0 rfl rfl) (.cons (SetC.row0 rfl rfl) (.cons (SetC.row0 rfl rfl) (.cons (.inl rfl) (.cons (.inl rfl) (.cons (SetC.row0 rfl rfl) .nil)))))) (.cons (.inl rfl) (.cons (.inl rfl) .nil))) rfl
theorem holdM_valid {s s' : Sto} (h : holdM s = some s') : storeS s = true := by
  unfold holdM at h
  split at h
  · assumption
  · cases h
theorem holdM_out {s s' : Sto} (hs : SmSt s) (h : holdM s = some s') : OutB s' := by
  have hv := holdM_valid h
  rw [hold_eq hv] at h
  obtain ⟨st, sm, tp⟩ := holdI_sm hs hv h
  refine ⟨st, sm, tp, ?_⟩
  unfold holdI at h
  split at h
  · obtain rfl := Option.some.inj h
    exact fw_of hv
  · split at h
    · obtain rfl := Option.some.inj h
      exact fun x hx => fw_of hv x hx
    · cases h
theorem storeHold_own (s : Sto) (hs : SmSt s) (hv : storeS s = true) (top a b c : List Ent) (x y z : Sve) (keep time : Int) (ts : List Int) (h : holdI s = some ⟨top, [a, b, c], [x, y, z], keep, time, ts⟩) : AC Try.prog 8 [stT s] noHp 0 ⟨.tup [.agg [.h 0, .h 1, .h 2, .d (.s (.int .i64 keep)), .d (.s (.int .i64 time)), .h 3], iT time, bT true], hpL (cloS top a b c x y z ts), 10⟩ := by
  have kk := chgHold_own s hs hv top a b c x y z keep time ts h
  unfold cloS svN at kk
  unfold cloS svN
  refine AC_of Try.func8 rfl Try.ntmps8 Try.results8 (by kernel_rfl) rfl ?_
  simp only [List.zipIdx, List.map, Nat.zero_add, Nat.reduceAdd]
  repeat (first | apply Aw_seq | apply Aw_block | apply Aw_skip | apply Aw_exit | refine Aw_condt rfl ?_ | refine Aw_condf rfl ?_ | ((first | refine qr ?_ | refine qd (by kernel_rfl) (by kernel_rfl) ?_); simp only [go_sem, jE, reduceIte, jA, jM, jS, jL, jD, jB]) | refine dk (by kernel_rfl) ?_ | (refine qx (call_N (L := []) (kk) rfl (.cons (.nm rfl) (.cons (.nm rfl) (.nil))) (.inl rfl) rfl) (by simp only [go_sem, jE, reduceIte, jA, jM, jS, jL, jD, jB]; first | done | rfl) rfl (by simp only [go_sem, Nat.reduceLT]) ?_; simp only [go_sem, jE, reduceIte, jA, jM, jS, jL, jD, jB]))
  exact Aw_ret (retL (M := [5, 6, 7, 8, 9, 10, 11, 12, 13, 14]) (.inl rfl) (by simp only [go_sem, jE, reduceIte, jA, jM, jS, jL, jD, jB]; first | done | rfl) rfl rfl (by rfl) (by simp only [go_sem, jE, reduceIte, jA, jM, jS, jL, jD, jB]; first | done | rfl | (and_intros <;> rfl)) (by decide) (idB rfl))
theorem storeHold_none (s : Sto) (hs : SmSt s) (h : holdM s = none) : AC Try.prog 8 [stT s] noHp 0 ⟨zH, hpL [], 0⟩ := by
  have kk := chgHold_no s hs h
  unfold cloS at kk
  refine AC.toL ?_
  refine AC_of Try.func8 rfl Try.ntmps8 Try.results8 (by kernel_rfl) rfl ?_
  simp only [List.zipIdx, List.map, Nat.zero_add, Nat.reduceAdd]
  repeat (first | apply Aw_seq | apply Aw_block | apply Aw_skip | apply Aw_exit | refine Aw_condt rfl ?_ | refine Aw_condf rfl ?_ | ((first | refine qr ?_ | refine qd (by kernel_rfl) (by kernel_rfl) ?_); simp only [go_sem, jE, reduceIte, jA, jM, jS, jL, jD, jB]) | refine dk (by kernel_rfl) ?_ | (refine qp (kk) (by simp only [go_sem, jE, reduceIte, jA, jM, jS, jL, jD, jB]; first | done | rfl) rfl (by simp only [go_sem, Nat.reduceLT]) rfl rfl ?_; simp only [go_sem, jE, reduceIte, jA, jM, jS, jL, jD, jB]))
  exact Aw_ret (ret0 (.inl rfl) (by simp only [go_sem, jE, reduceIte, jA, jM, jS, jL, jD, jB]; rfl) (by rfl) rfl)
theorem w_sm {s : Sto} (h : wSto s ≤ 1048576) : SmSt s := by
  have m := w_mid h
  unfold wSto at h
  refine ⟨wRun_smR (n := 1048576) (by omega) (Nat.le_refl _), fun r hr => ?_, m.far.ll, m.far.sl, m.far.sieves, m.far.times⟩
  have := wS_mem (f := wRun) hr
  exact wRun_smR (n := 1048576) (by omega) (Nat.le_refl _)
-- idB
theorem law_StoreHoldX (s : Sto) (ho : okT s) : AC Try.prog 3 [stT s] noHp 0 ⟨.t (bT true), noHp, 0⟩ := by
  refine AC_of Try.func3 rfl Try.ntmps3 Try.results3 (by kernel_rfl) rfl ?_
  simp only [List.zipIdx, List.map, Nat.zero_add, Nat.reduceAdd]
  have k1 := szStore_ac s 1048576 (Nat.le_refl _) ho.big
  rw [show ((1048576 : Nat) : Int) = 1048576 from rfl] at k1
  by_cases h : wSto s ≤ 1048576
  case neg =>
    rw [szM_no h] at k1
    repeat (first | apply Aw_seq | apply Aw_block | apply Aw_skip | apply Aw_exit | refine Aw_condt rfl ?_ | refine Aw_condf rfl ?_ | ((first | refine qr ?_ | refine qd (by kernel_rfl) (by kernel_rfl) ?_); simp only [go_sem, jE, reduceIte, jA, jM, jS, jL, jD, jB, neg1, bref]) | refine dk (by kernel_rfl) ?_ | (refine qp (k1) (by simp only [go_sem, jE, reduceIte, jA, jM, jS, jL, jD, jB, neg1, bref]; first | done | rfl) rfl (by simp only [go_sem, Nat.reduceLT]) rfl rfl ?_; simp only [go_sem, jE, reduceIte, jA, jM, jS, jL, jD, jB, neg1, bref]))
    exact Aw_ret (ret0 (.inl rfl) (by simp only [go_sem, jE, reduceIte, jA, jM, jS, jL, jD, jB]; rfl) (by rfl) rfl)
  rw [szM_ok h] at k1
  have n1 := nneg (1048576 - wSto s)
  have hm := w_mid h
  have hs := w_sm h
  have k2 := toStore_ac s hm
  have k3 := OwnH.setX (storeHoldS_own s hs)
  have k4 := storeHold_ac s hs
  cases hM : holdM s with
  | none =>
    rw [hM] at k3 k4
    have k3 : AC Try.prog 6 [stT s] noHp 0 ⟨.tup [stT zSto, iT 0, bT false], noHp, 0⟩ := k3
    have k4 : AC Try.prog 8 [stT s] noHp 0 ⟨.tup [stT zSto, iT 0, bT false], noHp, 0⟩ := k4
    have kx := toStoreG_ac s hm
    unfold gT at kx
    have kno := storeHold_none s hs hM
    have kq := eqStoreA_ac
    have k5 := (eqStore_ac s hm.far).toL
    have k6 := eqStore_ac zSto zSto_far
    have km := markStoreF_ac s 1 hm (cntS_le h)
    have k7 := markStoreA_ac 1
    have k8 := heldStoreA_ac 1 (by omega)
    have n2 : decide ((1 : Int) < 0) = false := rfl
    have n3 : decide ((1 : Int) = 1) = true := rfl
    have n9 : decide ((0 : Int) = 0) = true := rfl
    have n4 := nneg (cntS 1 s)
    rw [show ((1 : Nat) : Int) = 1 from rfl] at km k7 k8
    have hK : gK s ≤ 3000000 := by unfold gK; have := hm.ll; have := hm.sl; omega
    have e0 : ∀ hp : Hp, hole 3 (gK s) hp 0 = hp 0 := fun hp => hole_ne (by omega)
    have e1 : ∀ hp : Hp, hole 3 (gK s) hp 1 = hp 1 := fun hp => hole_ne (by omega)
    have e2 : ∀ hp : Hp, hole 3 (gK s) hp 10000005 = hp 10000005 := fun hp => hole_ne (by omega)
    repeat (first | apply Aw_seq | apply Aw_block | apply Aw_skip | apply Aw_exit | refine Aw_condt rfl ?_ | refine Aw_condf rfl ?_ | ((first | refine qr ?_ | refine qd (by kernel_rfl) (by kernel_rfl) ?_); simp only [go_sem, jE, reduceIte, jA, jM, jS, jL, jD, jB, n1, bref]) | refine dk (by kernel_rfl) ?_ | (refine qp (k1) (by simp only [go_sem, jE, reduceIte, jA, jM, jS, jL, jD, jB, n1, bref]; first | done | rfl) rfl (by simp only [go_sem, Nat.reduceLT]) rfl rfl ?_; simp only [go_sem, jE, reduceIte, jA, jM, jS, jL, jD, jB, n1, bref]) | (refine qp (k3) (by simp only [go_sem, jE, reduceIte, jA, jM, jS, jL, jD, jB, n1, bref]; first | done | rfl) rfl (by simp only [go_sem, Nat.reduceLT]) rfl rfl ?_; simp only [go_sem, jE, reduceIte, jA, jM, jS, jL, jD, jB, n1, bref]) | (refine qx (call_pure (n := 9) rfl rfl rfl k2) (by simp only [go_sem, jE, reduceIte, jA, jM, jS, jL, jD, jB, n1, bref]; first | done | rfl) rfl (by simp only [go_sem, Nat.reduceLT]) ?_; simp only [go_sem, jE, reduceIte, jA, jM, jS, jL, jD, jB, n1, bref]))
    iterate 1 (first | apply Aw_seq | apply Aw_block | apply Aw_skip | apply Aw_exit | refine Aw_condt rfl ?_ | refine Aw_condf rfl ?_ | ((first | refine qr ?_ | refine qd (by kernel_rfl) (by kernel_rfl) ?_); simp only [go_sem, jE, reduceIte, jA, jM, jS, jL, jD, jB]) | refine dk (by kernel_rfl) ?_ | (refine qx (call_N (L := []) kx rfl (.cons (.nm rfl) .nil) (.inl rfl) (gOs_len s)) (by simp only [go_sem, jE, reduceIte, jA, jM, jS, jL, jD, jB]; first | done | rfl) rfl (by simp only [go_sem, Nat.reduceLT]) ?_; simp only [go_sem, jE, reduceIte, jA, jM, jS, jL, jD, jB]))
    refine Aw.rw (rwLaw (s := s) (w := zSto) (e1 := 27) (e2 := 33) (a := 0) (b := 13) (p := 18) (l' := [(7, .t (.c (.ph 2 0 0))), (6, .t (bT false)), (5, .t (iT 0)), (4, .t (.c (.ph 1 0 0))), (1, .t (.c (.ph 0 0 0))), (2, .t (bT false))]) (by omega) (by omega) ?_ ?_ ?_ ?_ (by omega) ?_) ?_
    · rw [upd_ne _ _ (by omega), upd_ne _ _ (by omega), updL_not (fun h => by have := (List.mem_range'_1.1 h).1; omega)]; rfl
    · rw [upd_ne _ _ (by omega), upd_ne _ _ (by omega), updL_not (fun h => by have := (List.mem_range'_1.1 h).1; omega)]; rfl
    · rw [upd_same]; rfl
    · exact ((gst_upL _ 18 s).upd (.inr (Nat.le_refl _))).upd (.inr (Nat.le_refl _))
    · repeat (first | exact trivial | refine ⟨rfl, rfl, ?_⟩)
    repeat (first | apply Aw_seq | apply Aw_block | apply Aw_skip | apply Aw_exit | refine Aw_condt rfl ?_ | refine Aw_condf rfl ?_ | ((first | refine qr ?_ | refine qd (by kernel_rfl) (by kernel_rfl) ?_); simp only [go_sem, jE, reduceIte, jA, jM, jS, jL, jD, jB, bref, iref, n2, n3, n9, n4, e0, e1, e2]) | refine dk (by kernel_rfl) ?_ | (refine qp (k2) (by simp only [go_sem, jE, reduceIte, jA, jM, jS, jL, jD, jB, bref, iref, n2, n3, n9, n4, e0, e1, e2]; first | done | rfl) rfl (by simp only [go_sem, Nat.reduceLT]) rfl rfl ?_; simp only [go_sem, jE, reduceIte, jA, jM, jS, jL, jD, jB, bref, iref, n2, n3, n9, n4, e0, e1, e2]) | (refine qp (kq) (by simp only [go_sem, jE, reduceIte, jA, jM, jS, jL, jD, jB, bref, iref, n2, n3, n9, n4, e0, e1, e2]; first | done | rfl) rfl (by simp only [go_sem, Nat.reduceLT]) rfl rfl ?_; simp only [go_sem, jE, reduceIte, jA, jM, jS, jL, jD, jB, bref, iref, n2, n3, n9, n4, e0, e1, e2]) | (refine qp (k7) (by simp only [go_sem, jE, reduceIte, jA, jM, jS, jL, jD, jB, bref, iref, n2, n3, n9, n4, e0, e1, e2]; first | done | rfl) rfl (by simp only [go_sem, Nat.reduceLT]) rfl rfl ?_; simp only [go_sem, jE, reduceIte, jA, jM, jS, jL, jD, jB, bref, iref, n2, n3, n9, n4, e0, e1, e2]) | (refine qp (k8) (by simp only [go_sem, jE, reduceIte, jA, jM, jS, jL, jD, jB, bref, iref, n2, n3, n9, n4, e0, e1, e2]; first | done | rfl) rfl (by simp only [go_sem, Nat.reduceLT]) rfl rfl ?_; simp only [go_sem, jE, reduceIte, jA, jM, jS, jL, jD, jB, bref, iref, n2, n3, n9, n4, e0, e1, e2]) | (refine qp (k4) (by simp only [go_sem, jE, reduceIte, jA, jM, jS, jL, jD, jB, bref, iref, n2, n3, n9, n4, e0, e1, e2]; first | done | rfl) rfl (by simp only [go_sem, Nat.reduceLT]) rfl rfl ?_; simp only [go_sem, jE, reduceIte, jA, jM, jS, jL, jD, jB, bref, iref, n2, n3, n9, n4, e0, e1, e2]) | (refine qp (k6) (by simp only [go_sem, jE, reduceIte, jA, jM, jS, jL, jD, jB, bref, iref, n2, n3, n9, n4, e0, e1, e2]; first | done | rfl) rfl (by simp only [go_sem, Nat.reduceLT]) rfl rfl ?_; simp only [go_sem, jE, reduceIte, jA, jM, jS, jL, jD, jB, bref, iref, n2, n3, n9, n4, e0, e1, e2]) | (refine qx (call_N (L := List.range' 3 (gK s)) kno rfl (.cons (arg_gT (by repeat (first | exact gst_new 3 s | refine GSt.upd ?_ (by omega))) (fun m h1 h2 => List.mem_range'_1.2 ⟨h1, h2⟩)) .nil) (.inr ⟨rfl, by simp⟩) rfl) (by simp only [go_sem, jE, reduceIte, jA, jM, jS, jL, jD, jB, bref, iref, n2, n3, n9, n4, e0, e1, e2]; first | done | rfl) rfl (by simp only [go_sem, Nat.reduceLT]) ?_; simp only [go_sem, jE, reduceIte, jA, jM, jS, jL, jD, jB, bref, iref, n2, n3, n9, n4, e0, e1, e2]) | (refine qx (call_N (L := List.range' 3 (gK s)) k5 rfl (.cons (arg_gT (by repeat (first | exact gst_new 3 s | refine GSt.upd ?_ (by omega))) (fun m h1 h2 => List.mem_range'_1.2 ⟨h1, h2⟩)) (.cons (.nm rfl) .nil)) (.inr ⟨rfl, by simp⟩) rfl) (by simp only [go_sem, jE, reduceIte, jA, jM, jS, jL, jD, jB, bref, iref, n2, n3, n9, n4, e0, e1, e2]; first | done | rfl) rfl (by simp only [go_sem, Nat.reduceLT]) ?_; simp only [go_sem, jE, reduceIte, jA, jM, jS, jL, jD, jB, bref, iref, n2, n3, n9, n4, e0, e1, e2]) | (refine qx (call_B (b := 3) (gOs_len s) km rfl (.cons arg_gN (.cons (.nm rfl) .nil)) (blk_gs (p := 3) (by repeat (first | exact gst_new 3 s | refine GSt.upd ?_ (by omega)))) rfl) (by simp only [go_sem, jE, reduceIte, jA, jM, jS, jL, jD, jB, bref, iref, n2, n3, n9, n4, e0, e1, e2]; first | done | rfl) rfl (by simp only [go_sem, Nat.reduceLT]) ?_; simp only [go_sem, jE, reduceIte, jA, jM, jS, jL, jD, jB, bref, iref, n2, n3, n9, n4, e0, e1, e2]))
    exact Aw_ret (ret0 (.inl rfl) (by simp only [go_sem, jE, reduceIte, jA, jM, jS, jL, jD, jB]; rfl) (by rfl) rfl)
  | some s' =>
    rw [hM] at k3 k4
    have k3 : AC Try.prog 6 [stT s] noHp 0 ⟨.tup [stT s', iT s'.time, bT true], noHp, 0⟩ := k3
    have k4 : AC Try.prog 8 [stT s] noHp 0 ⟨.tup [stT s', iT s'.time, bT true], noHp, 0⟩ := k4
    have hv : storeS s = true := holdM_valid hM
    have ho := holdM_out hs hM
    have k5 := (eqStore_ac s hm.far).toL
    have k6 := eqStore_ac s' ho.far
    have km1 := cntS_le h
    obtain ⟨hll, hsl, _⟩ := storeS_facts hv
    obtain ⟨top', levels', sieves', keep', time', ts'⟩ := s'
    obtain ⟨a', b', c', rfl⟩ := len3 ho.sm.ll
    obtain ⟨x', y', z', rfl⟩ := len3 ho.sm.sl
    have kown := storeHold_own s hs hv top' a' b' c' x' y' z' keep' time' ts' (by rw [← hold_eq hv]; exact hM)
    obtain ⟨tM, aM, bM, cM, xM, yM, zM, iM, mM, km2, k8⟩ := mark_both top' a' b' c' x' y' z' keep' time' ts' ho.cnt
    obtain ⟨top, levels, sieves, keep, time, ts⟩ := s
    obtain ⟨a, b, c, rfl⟩ := len3 hll
    obtain ⟨x, y, z, rfl⟩ := len3 hsl
    obtain ⟨mX, km⟩ := mark_none top a b c x y z keep time ts km1
    have kx := toStoreO_ac top a b c x y z keep time ts hm
    clear hM ho hv hs hm km1
    have n4 := nneg mX
    have n5 := nneg mM
    unfold cloS svN at *
    dsimp only at *
    have k6L := k6.toL
    have k8L := k8.toL
    repeat (first | apply Aw_seq | apply Aw_block | apply Aw_skip | apply Aw_exit | refine Aw_condt rfl ?_ | refine Aw_condf rfl ?_ | ((first | refine qr ?_ | refine qd (by kernel_rfl) (by kernel_rfl) ?_); simp only [go_sem, jE, reduceIte, jA, jM, jS, jL, jD, jB, n1, bref, n4, n5, bref, iref]) | refine dk (by kernel_rfl) ?_ | (refine qp (k1) (by simp only [go_sem, jE, reduceIte, jA, jM, jS, jL, jD, jB, n1, bref, n4, n5, bref, iref]; first | done | rfl) rfl (by simp only [go_sem, Nat.reduceLT]) rfl rfl ?_; simp only [go_sem, jE, reduceIte, jA, jM, jS, jL, jD, jB, n1, bref, n4, n5, bref, iref]) | (refine qp (k3) (by simp only [go_sem, jE, reduceIte, jA, jM, jS, jL, jD, jB, n1, bref, n4, n5, bref, iref]; first | done | rfl) rfl (by simp only [go_sem, Nat.reduceLT]) rfl rfl ?_; simp only [go_sem, jE, reduceIte, jA, jM, jS, jL, jD, jB, n1, bref, n4, n5, bref, iref]) | (refine qp (k4) (by simp only [go_sem, jE, reduceIte, jA, jM, jS, jL, jD, jB, n1, bref, n4, n5, bref, iref]; first | done | rfl) rfl (by simp only [go_sem, Nat.reduceLT]) rfl rfl ?_; simp only [go_sem, jE, reduceIte, jA, jM, jS, jL, jD, jB, n1, bref, n4, n5, bref, iref]) | (refine qp (k6) (by simp only [go_sem, jE, reduceIte, jA, jM, jS, jL, jD, jB, n1, bref, n4, n5, bref, iref]; first | done | rfl) rfl (by simp only [go_sem, Nat.reduceLT]) rfl rfl ?_; simp only [go_sem, jE, reduceIte, jA, jM, jS, jL, jD, jB, n1, bref, n4, n5, bref, iref]) | (refine qx (call_N (n := 18) (L := []) kx rfl (.cons (.nm rfl) .nil) (.inl rfl) rfl) (by simp only [go_sem, jE, reduceIte, jA, jM, jS, jL, jD, jB, n1, bref, n4, n5, bref, iref]; first | done | rfl) rfl (by simp only [go_sem, Nat.reduceLT]) ?_; simp only [go_sem, jE, reduceIte, jA, jM, jS, jL, jD, jB, n1, bref, n4, n5, bref, iref]) | (refine qx (call_pure rfl rfl rfl k2) (by simp only [go_sem, jE, reduceIte, jA, jM, jS, jL, jD, jB, n1, bref, n4, n5, bref, iref]; first | done | rfl) rfl (by simp only [go_sem, Nat.reduceLT]) ?_; simp only [go_sem, jE, reduceIte, jA, jM, jS, jL, jD, jB, n1, bref, n4, n5, bref, iref]) | (refine qx (call_N (L := [18, 19, 20, 21, 22, 23, 24, 25, 26, 27]) (kown) rfl (.cons (arg_oT rfl rfl rfl rfl rfl rfl rfl rfl rfl rfl rfl) (.nil)) (.inr ⟨rfl, by simp⟩) rfl) (by simp only [go_sem, jE, reduceIte, jA, jM, jS, jL, jD, jB, n1, bref, n4, n5, bref, iref]; first | done | rfl) rfl (by simp only [go_sem, Nat.reduceLT]) ?_; simp only [go_sem, jE, reduceIte, jA, jM, jS, jL, jD, jB, n1, bref, n4, n5, bref, iref]) | (refine qx (call_N (L := [31, 32, 33, 34, 35, 36, 37, 38, 39, 40]) (k6L) rfl (.cons (arg_oT rfl rfl rfl rfl rfl rfl rfl rfl rfl rfl rfl) (.cons (.nm rfl) (.nil))) (.inr ⟨rfl, by simp⟩) rfl) (by simp only [go_sem, jE, reduceIte, jA, jM, jS, jL, jD, jB, n1, bref, n4, n5, bref, iref]; first | done | rfl) rfl (by simp only [go_sem, Nat.reduceLT]) ?_; simp only [go_sem, jE, reduceIte, jA, jM, jS, jL, jD, jB, n1, bref, n4, n5, bref, iref]) | (refine qx (call_N (L := [18, 19, 20, 21, 22, 23, 24, 25, 26, 27]) (k5) rfl (.cons (arg_oT rfl rfl rfl rfl rfl rfl rfl rfl rfl rfl rfl) (.cons (.nm rfl) (.nil))) (.inr ⟨rfl, by simp⟩) rfl) (by simp only [go_sem, jE, reduceIte, jA, jM, jS, jL, jD, jB, n1, bref, n4, n5, bref, iref]; first | done | rfl) rfl (by simp only [go_sem, Nat.reduceLT]) ?_; simp only [go_sem, jE, reduceIte, jA, jM, jS, jL, jD, jB, n1, bref, n4, n5, bref, iref]) | (refine qx (call_L (N' := [18, 19, 20, 21, 22, 23, 24, 25, 26, 27]) (L := []) (km) rfl (.cons (.nm rfl) (.cons (.nm rfl) (.nil))) (by decide) (by decide) (by decide) (by simp only [go_sem, jE, reduceIte, jA, jM, jS, jL, jD, jB, n1, bref, n4, n5, bref, iref]; first | done | rfl) (.inl rfl) rfl (by decide)) (by simp only [go_sem, jE, reduceIte, jA, jM, jS, jL, jD, jB, n1, bref, n4, n5, bref, iref]; first | done | rfl) rfl (by simp only [go_sem, Nat.reduceLT]) ?_; simp only [go_sem, jE, reduceIte, jA, jM, jS, jL, jD, jB, n1, bref, n4, n5, bref, iref]) | (refine qx (call_L (N' := [31, 32, 33, 34, 35, 36, 37, 38, 39, 40]) (L := []) (km2) rfl (.cons (.nm rfl) (.cons (.nm rfl) (.nil))) (by decide) (by decide) (by decide) (by simp only [go_sem, jE, reduceIte, jA, jM, jS, jL, jD, jB, n1, bref, n4, n5, bref, iref]; first | done | rfl) (.inl rfl) rfl (by decide)) (by simp only [go_sem, jE, reduceIte, jA, jM, jS, jL, jD, jB, n1, bref, n4, n5, bref, iref]; first | done | rfl) rfl (by simp only [go_sem, Nat.reduceLT]) ?_; simp only [go_sem, jE, reduceIte, jA, jM, jS, jL, jD, jB, n1, bref, n4, n5, bref, iref]) | (refine qx (call_N (L := [31, 32, 33, 34, 35, 36, 37, 38, 39, 40]) (k8L) rfl (.cons (arg_oT rfl rfl rfl rfl rfl rfl rfl rfl rfl rfl rfl) (.cons (.nm rfl) (.nil))) (.inr ⟨rfl, by simp⟩) rfl) (by simp only [go_sem, jE, reduceIte, jA, jM, jS, jL, jD, jB, n1, bref, n4, n5, bref, iref]; first | done | rfl) rfl (by simp only [go_sem, Nat.reduceLT]) ?_; simp only [go_sem, jE, reduceIte, jA, jM, jS, jL, jD, jB, n1, bref, n4, n5, bref, iref]))
    exact Aw_ret (ret0 (.inl rfl) (by simp only [go_sem, jE, reduceIte, jA, jM, jS, jL, jD, jB]; rfl) (by rfl) rfl)
end Go.Proofs.Ytimkdclalajadaa.Ab
