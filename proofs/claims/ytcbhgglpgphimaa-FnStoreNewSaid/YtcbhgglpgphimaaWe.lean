/-
  Contracts: deeds, one behind the other, the reference's. No condition.
  Contracts: what deeds write, the reference's. No condition.
  Contract: deeds, one behind the other, that leave a store of its own, the reference's. No condition.
  Rules for rows that are lent. No condition.
  Contracts: what reads a code, and draws a number from it. No condition.
  Contracts: a key that is put into its place, the reference's. No condition.
  The drawn number, and a key that is put into its place. No condition.
  Contracts: keys that are drawn, the reference's. No condition.
  Contracts: keys near others that are drawn, the reference's. No condition.
  Contracts: deeds that are drawn, the reference's. No condition.
  Contracts: all that was put, drawn, the reference's. No condition.
  Contract: a store that is drawn, the reference's. No condition.
  Contracts: a sieve without keys has none. No condition.
  Contracts: a sieve without keys has no range; a store without entries. No condition.
  slices.Sort and slices.Compact at strings, over a row of our own. No condition.
  slices.Sort and slices.Compact at strings as contracts. No condition.
-/
import Derived.Test.YtcbhgglpgphimaaWd
import Derived.Test.YtcbhgglpgphimaaWc
import Derived.Shelf.Strings.Count
import Derived.Ground.NamesProg
import Derived.Shelf.Sort.Plain
import Derived.Shelf.Slices.CompactS
import Derived.Shelf.Slices.In.SortNone
import Derived.Sort.OwnSorted
import Derived.Sort.Grow
import Derived.Lib.OwnBridge
import Derived.Lib.RowBridge
namespace Go.Proofs.Ytcbhgglpgphimaa.Ab
set_option linter.deprecated false
set_option linter.unusedVariables false
set_option linter.unusedSimpArgs false
open Go Go.Proofs
set_option maxRecDepth 10000
set_option maxHeartbeats 8000000
set_option linter.unusedSimpArgs false
set_option linter.unusedVariables false
structure Deed where
  kind : Int
  key : ByteArray
  num : Int
def deedD (d : Deed) : List D := [.s (.int .i64 d.kind), .s (.string d.key), .s (.int .i64 d.num)]
@[go_sem] theorem r_deedD (d : Deed) : deedD d = [.s (.int .i64 d.kind), .s (.string d.key), .s (.int .i64 d.num)] := rfl
abbrev deedT (d : Deed) : TV := .agg [.d (.s (.int .i64 d.kind)), .d (.s (.string d.key)), .d (.s (.int .i64 d.num))]
abbrev deedsT (ds : List Deed) : TV := .c (.d (.rs 3 (ds.map deedD)))
def doM (s : Sto) (d : Deed) : Option Sto := if d.kind = 1 then putM s d.key d.num else if d.kind = 2 then takeM s d.key else if d.kind = 3 then holdM s else if d.kind = 4 then freeM s d.num else if d.kind = 5 then sDownM s else if d.kind = 6 then sJoinM s d.num else none
theorem l13Do_own (s : Sto) (d : Deed) (hs : SmSt s) (hk : smK d.key) : OwnR 151 [stT s, deedT d] (doM s d) := by
  unfold doM
  cases c1 : decide (d.kind = 1)
  case true =>
    rw [if_pos (of_decide_eq_true c1)]
    obtain ⟨a1, a2⟩ := storePutS_own s d.key d.num hs hk
    refine ⟨fun x hx => ?_, fun hx => ?_⟩
    · have k := a1 x hx
      refine AC_of Try.func151 rfl Try.ntmps151 Try.results151 (by kernel_rfl) rfl ?_
      simp only [List.zipIdx, List.map, Nat.zero_add, Nat.reduceAdd]
      repeat (first | apply Aw_seq | apply Aw_block | apply Aw_skip | apply Aw_exit | refine Aw_condt rfl ?_ | refine Aw_condf rfl ?_ | (refine qr ?_; simp only [go_sem, Nat.reduceEqDiff, reduceIte, Nat.reduceAdd, Nat.reduceMul, Nat.reduceSub, Nat.reduceLT, Nat.reduceLeDiff, Nat.reduceBEq, c1]) | (refine qd (by kernel_rfl) (by kernel_rfl) ?_; simp only [go_sem, Nat.reduceEqDiff, reduceIte, Nat.reduceAdd, Nat.reduceMul, Nat.reduceSub, Nat.reduceLT, Nat.reduceLeDiff, Nat.reduceBEq, c1]) | refine dk (by kernel_rfl) ?_ | (refine qx (call_N (L := []) (k) rfl (.cons (.nm rfl) (.cons (.nm rfl) (.cons (.nm rfl) (.nil)))) (.inl rfl) rfl) (by simp only [go_sem, Nat.reduceEqDiff, reduceIte, Nat.reduceAdd, Nat.reduceMul, Nat.reduceSub, Nat.reduceLT, Nat.reduceLeDiff, Nat.reduceBEq, c1]; first | done | rfl) rfl (by simp only [go_sem, Nat.reduceLT]) ?_; simp only [go_sem, Nat.reduceEqDiff, reduceIte, Nat.reduceAdd, Nat.reduceMul, Nat.reduceSub, Nat.reduceLT, Nat.reduceLeDiff, Nat.reduceBEq, c1]))
      exact Aw_ret (retL (M := [13, 14, 15, 16]) (.inl rfl) (by simp only [go_sem, Nat.reduceEqDiff, reduceIte, Nat.reduceAdd, Nat.reduceMul, Nat.reduceSub, Nat.reduceLT, Nat.reduceLeDiff, Nat.reduceBEq]; first | done | rfl) rfl rfl (by rfl) (by simp only [go_sem, Nat.reduceEqDiff, reduceIte, Nat.reduceAdd, Nat.reduceMul, Nat.reduceSub, Nat.reduceLT, Nat.reduceLeDiff, Nat.reduceBEq]; first | done | rfl | (and_intros <;> rfl)) (by decide) (by intro m hm; first | omega | (rcases m with _ | _ | _ | _ | _ | _ | m <;> first | exact ⟨by decide, rfl⟩ | omega)))
    · have k := a2 hx
      refine AC_of Try.func151 rfl Try.ntmps151 Try.results151 (by kernel_rfl) rfl ?_
      simp only [List.zipIdx, List.map, Nat.zero_add, Nat.reduceAdd]
      repeat (first | apply Aw_seq | apply Aw_block | apply Aw_skip | apply Aw_exit | refine Aw_condt rfl ?_ | refine Aw_condf rfl ?_ | (refine qr ?_; simp only [go_sem, Nat.reduceEqDiff, reduceIte, Nat.reduceAdd, Nat.reduceMul, Nat.reduceSub, Nat.reduceLT, Nat.reduceLeDiff, Nat.reduceBEq, c1]) | (refine qd (by kernel_rfl) (by kernel_rfl) ?_; simp only [go_sem, Nat.reduceEqDiff, reduceIte, Nat.reduceAdd, Nat.reduceMul, Nat.reduceSub, Nat.reduceLT, Nat.reduceLeDiff, Nat.reduceBEq, c1]) | refine dk (by kernel_rfl) ?_ | (refine qp (k) (by simp only [go_sem, Nat.reduceEqDiff, reduceIte, Nat.reduceAdd, Nat.reduceMul, Nat.reduceSub, Nat.reduceLT, Nat.reduceLeDiff, Nat.reduceBEq, c1]; first | done | rfl) rfl (by simp only [go_sem, Nat.reduceLT]) rfl rfl ?_; simp only [go_sem, Nat.reduceEqDiff, reduceIte, Nat.reduceAdd, Nat.reduceMul, Nat.reduceSub, Nat.reduceLT, Nat.reduceLeDiff, Nat.reduceBEq, c1]))
      exact Aw_ret (ret0 (.inl rfl) (by simp only [go_sem, Nat.reduceEqDiff, reduceIte, Nat.reduceAdd, Nat.reduceMul, Nat.reduceSub, Nat.reduceLT, Nat.reduceLeDiff, Nat.reduceBEq]; rfl) (by rfl) rfl)
  rw [if_neg (of_decide_eq_false c1)]
  cases c2 : decide (d.kind = 2)
  case true =>
    rw [if_pos (of_decide_eq_true c2)]
    obtain ⟨a1, a2⟩ := storeTakeS_own s d.key hs hk
    refine ⟨fun x hx => ?_, fun hx => ?_⟩
    · have k := a1 x hx
      refine AC_of Try.func151 rfl Try.ntmps151 Try.results151 (by kernel_rfl) rfl ?_
      simp only [List.zipIdx, List.map, Nat.zero_add, Nat.reduceAdd]
      repeat (first | apply Aw_seq | apply Aw_block | apply Aw_skip | apply Aw_exit | refine Aw_condt rfl ?_ | refine Aw_condf rfl ?_ | (refine qr ?_; simp only [go_sem, Nat.reduceEqDiff, reduceIte, Nat.reduceAdd, Nat.reduceMul, Nat.reduceSub, Nat.reduceLT, Nat.reduceLeDiff, Nat.reduceBEq, c1, c2]) | (refine qd (by kernel_rfl) (by kernel_rfl) ?_; simp only [go_sem, Nat.reduceEqDiff, reduceIte, Nat.reduceAdd, Nat.reduceMul, Nat.reduceSub, Nat.reduceLT, Nat.reduceLeDiff, Nat.reduceBEq, c1, c2]) | refine dk (by kernel_rfl) ?_ | (refine qx (call_N (L := []) (k) rfl (.cons (.nm rfl) (.cons (.nm rfl) (.nil))) (.inl rfl) rfl) (by simp only [go_sem, Nat.reduceEqDiff, reduceIte, Nat.reduceAdd, Nat.reduceMul, Nat.reduceSub, Nat.reduceLT, Nat.reduceLeDiff, Nat.reduceBEq, c1, c2]; first | done | rfl) rfl (by simp only [go_sem, Nat.reduceLT]) ?_; simp only [go_sem, Nat.reduceEqDiff, reduceIte, Nat.reduceAdd, Nat.reduceMul, Nat.reduceSub, Nat.reduceLT, Nat.reduceLeDiff, Nat.reduceBEq, c1, c2]))
      exact Aw_ret (retL (M := [13, 14, 15, 16]) (.inl rfl) (by simp only [go_sem, Nat.reduceEqDiff, reduceIte, Nat.reduceAdd, Nat.reduceMul, Nat.reduceSub, Nat.reduceLT, Nat.reduceLeDiff, Nat.reduceBEq]; first | done | rfl) rfl rfl (by rfl) (by simp only [go_sem, Nat.reduceEqDiff, reduceIte, Nat.reduceAdd, Nat.reduceMul, Nat.reduceSub, Nat.reduceLT, Nat.reduceLeDiff, Nat.reduceBEq]; first | done | rfl | (and_intros <;> rfl)) (by decide) (by intro m hm; first | omega | (rcases m with _ | _ | _ | _ | _ | _ | m <;> first | exact ⟨by decide, rfl⟩ | omega)))
    · have k := a2 hx
      refine AC_of Try.func151 rfl Try.ntmps151 Try.results151 (by kernel_rfl) rfl ?_
      simp only [List.zipIdx, List.map, Nat.zero_add, Nat.reduceAdd]
      repeat (first | apply Aw_seq | apply Aw_block | apply Aw_skip | apply Aw_exit | refine Aw_condt rfl ?_ | refine Aw_condf rfl ?_ | (refine qr ?_; simp only [go_sem, Nat.reduceEqDiff, reduceIte, Nat.reduceAdd, Nat.reduceMul, Nat.reduceSub, Nat.reduceLT, Nat.reduceLeDiff, Nat.reduceBEq, c1, c2]) | (refine qd (by kernel_rfl) (by kernel_rfl) ?_; simp only [go_sem, Nat.reduceEqDiff, reduceIte, Nat.reduceAdd, Nat.reduceMul, Nat.reduceSub, Nat.reduceLT, Nat.reduceLeDiff, Nat.reduceBEq, c1, c2]) | refine dk (by kernel_rfl) ?_ | (refine qp (k) (by simp only [go_sem, Nat.reduceEqDiff, reduceIte, Nat.reduceAdd, Nat.reduceMul, Nat.reduceSub, Nat.reduceLT, Nat.reduceLeDiff, Nat.reduceBEq, c1, c2]; first | done | rfl) rfl (by simp only [go_sem, Nat.reduceLT]) rfl rfl ?_; simp only [go_sem, Nat.reduceEqDiff, reduceIte, Nat.reduceAdd, Nat.reduceMul, Nat.reduceSub, Nat.reduceLT, Nat.reduceLeDiff, Nat.reduceBEq, c1, c2]))
      exact Aw_ret (ret0 (.inl rfl) (by simp only [go_sem, Nat.reduceEqDiff, reduceIte, Nat.reduceAdd, Nat.reduceMul, Nat.reduceSub, Nat.reduceLT, Nat.reduceLeDiff, Nat.reduceBEq]; rfl) (by rfl) rfl)
  rw [if_neg (of_decide_eq_false c2)]
  cases c3 : decide (d.kind = 3)
  case true =>
    rw [if_pos (of_decide_eq_true c3)]
    obtain ⟨a1, a2⟩ := storeHoldS_own s hs
    refine ⟨fun x hx => ?_, fun hx => ?_⟩
    · have k := a1 x hx
      refine AC_of Try.func151 rfl Try.ntmps151 Try.results151 (by kernel_rfl) rfl ?_
      simp only [List.zipIdx, List.map, Nat.zero_add, Nat.reduceAdd]
      repeat (first | apply Aw_seq | apply Aw_block | apply Aw_skip | apply Aw_exit | refine Aw_condt rfl ?_ | refine Aw_condf rfl ?_ | (refine qr ?_; simp only [go_sem, Nat.reduceEqDiff, reduceIte, Nat.reduceAdd, Nat.reduceMul, Nat.reduceSub, Nat.reduceLT, Nat.reduceLeDiff, Nat.reduceBEq, c1, c2, c3]) | (refine qd (by kernel_rfl) (by kernel_rfl) ?_; simp only [go_sem, Nat.reduceEqDiff, reduceIte, Nat.reduceAdd, Nat.reduceMul, Nat.reduceSub, Nat.reduceLT, Nat.reduceLeDiff, Nat.reduceBEq, c1, c2, c3]) | refine dk (by kernel_rfl) ?_ | (refine qx (call_N (L := []) (k) rfl (.cons (.nm rfl) (.nil)) (.inl rfl) rfl) (by simp only [go_sem, Nat.reduceEqDiff, reduceIte, Nat.reduceAdd, Nat.reduceMul, Nat.reduceSub, Nat.reduceLT, Nat.reduceLeDiff, Nat.reduceBEq, c1, c2, c3]; first | done | rfl) rfl (by simp only [go_sem, Nat.reduceLT]) ?_; simp only [go_sem, Nat.reduceEqDiff, reduceIte, Nat.reduceAdd, Nat.reduceMul, Nat.reduceSub, Nat.reduceLT, Nat.reduceLeDiff, Nat.reduceBEq, c1, c2, c3]))
      exact Aw_ret (retL (M := [13, 14, 15, 16]) (.inl rfl) (by simp only [go_sem, Nat.reduceEqDiff, reduceIte, Nat.reduceAdd, Nat.reduceMul, Nat.reduceSub, Nat.reduceLT, Nat.reduceLeDiff, Nat.reduceBEq]; first | done | rfl) rfl rfl (by rfl) (by simp only [go_sem, Nat.reduceEqDiff, reduceIte, Nat.reduceAdd, Nat.reduceMul, Nat.reduceSub, Nat.reduceLT, Nat.reduceLeDiff, Nat.reduceBEq]; first | done | rfl | (and_intros <;> rfl)) (by decide) (by intro m hm; first | omega | (rcases m with _ | _ | _ | _ | _ | _ | m <;> first | exact ⟨by decide, rfl⟩ | omega)))
    · have k := a2 hx
      refine AC_of Try.func151 rfl Try.ntmps151 Try.results151 (by kernel_rfl) rfl ?_
      simp only [List.zipIdx, List.map, Nat.zero_add, Nat.reduceAdd]
      repeat (first | apply Aw_seq | apply Aw_block | apply Aw_skip | apply Aw_exit | refine Aw_condt rfl ?_ | refine Aw_condf rfl ?_ | (refine qr ?_; simp only [go_sem, Nat.reduceEqDiff, reduceIte, Nat.reduceAdd, Nat.reduceMul, Nat.reduceSub, Nat.reduceLT, Nat.reduceLeDiff, Nat.reduceBEq, c1, c2, c3]) | (refine qd (by kernel_rfl) (by kernel_rfl) ?_; simp only [go_sem, Nat.reduceEqDiff, reduceIte, Nat.reduceAdd, Nat.reduceMul, Nat.reduceSub, Nat.reduceLT, Nat.reduceLeDiff, Nat.reduceBEq, c1, c2, c3]) | refine dk (by kernel_rfl) ?_ | (refine qp (k) (by simp only [go_sem, Nat.reduceEqDiff, reduceIte, Nat.reduceAdd, Nat.reduceMul, Nat.reduceSub, Nat.reduceLT, Nat.reduceLeDiff, Nat.reduceBEq, c1, c2, c3]; first | done | rfl) rfl (by simp only [go_sem, Nat.reduceLT]) rfl rfl ?_; simp only [go_sem, Nat.reduceEqDiff, reduceIte, Nat.reduceAdd, Nat.reduceMul, Nat.reduceSub, Nat.reduceLT, Nat.reduceLeDiff, Nat.reduceBEq, c1, c2, c3]))
      exact Aw_ret (ret0 (.inl rfl) (by simp only [go_sem, Nat.reduceEqDiff, reduceIte, Nat.reduceAdd, Nat.reduceMul, Nat.reduceSub, Nat.reduceLT, Nat.reduceLeDiff, Nat.reduceBEq]; rfl) (by rfl) rfl)
  rw [if_neg (of_decide_eq_false c3)]
  cases c4 : decide (d.kind = 4)
  case true =>
    rw [if_pos (of_decide_eq_true c4)]
    obtain ⟨a1, a2⟩ := storeFreeS_own s d.num hs
    refine ⟨fun x hx => ?_, fun hx => ?_⟩
    · have k := a1 x hx
      refine AC_of Try.func151 rfl Try.ntmps151 Try.results151 (by kernel_rfl) rfl ?_
      simp only [List.zipIdx, List.map, Nat.zero_add, Nat.reduceAdd]
      repeat (first | apply Aw_seq | apply Aw_block | apply Aw_skip | apply Aw_exit | refine Aw_condt rfl ?_ | refine Aw_condf rfl ?_ | (refine qr ?_; simp only [go_sem, Nat.reduceEqDiff, reduceIte, Nat.reduceAdd, Nat.reduceMul, Nat.reduceSub, Nat.reduceLT, Nat.reduceLeDiff, Nat.reduceBEq, c1, c2, c3, c4]) | (refine qd (by kernel_rfl) (by kernel_rfl) ?_; simp only [go_sem, Nat.reduceEqDiff, reduceIte, Nat.reduceAdd, Nat.reduceMul, Nat.reduceSub, Nat.reduceLT, Nat.reduceLeDiff, Nat.reduceBEq, c1, c2, c3, c4]) | refine dk (by kernel_rfl) ?_ | (refine qx (call_N (L := []) (k) rfl (.cons (.nm rfl) (.cons (.nm rfl) (.nil))) (.inl rfl) rfl) (by simp only [go_sem, Nat.reduceEqDiff, reduceIte, Nat.reduceAdd, Nat.reduceMul, Nat.reduceSub, Nat.reduceLT, Nat.reduceLeDiff, Nat.reduceBEq, c1, c2, c3, c4]; first | done | rfl) rfl (by simp only [go_sem, Nat.reduceLT]) ?_; simp only [go_sem, Nat.reduceEqDiff, reduceIte, Nat.reduceAdd, Nat.reduceMul, Nat.reduceSub, Nat.reduceLT, Nat.reduceLeDiff, Nat.reduceBEq, c1, c2, c3, c4]))
      exact Aw_ret (retL (M := [17, 18, 19, 20]) (.inl rfl) (by simp only [go_sem, Nat.reduceEqDiff, reduceIte, Nat.reduceAdd, Nat.reduceMul, Nat.reduceSub, Nat.reduceLT, Nat.reduceLeDiff, Nat.reduceBEq]; first | done | rfl) rfl rfl (by rfl) (by simp only [go_sem, Nat.reduceEqDiff, reduceIte, Nat.reduceAdd, Nat.reduceMul, Nat.reduceSub, Nat.reduceLT, Nat.reduceLeDiff, Nat.reduceBEq]; first | done | rfl | (and_intros <;> rfl)) (by decide) (by intro m hm; first | omega | (rcases m with _ | _ | _ | _ | _ | _ | m <;> first | exact ⟨by decide, rfl⟩ | omega)))
    · have k := a2 hx
      refine AC_of Try.func151 rfl Try.ntmps151 Try.results151 (by kernel_rfl) rfl ?_
      simp only [List.zipIdx, List.map, Nat.zero_add, Nat.reduceAdd]
      repeat (first | apply Aw_seq | apply Aw_block | apply Aw_skip | apply Aw_exit | refine Aw_condt rfl ?_ | refine Aw_condf rfl ?_ | (refine qr ?_; simp only [go_sem, Nat.reduceEqDiff, reduceIte, Nat.reduceAdd, Nat.reduceMul, Nat.reduceSub, Nat.reduceLT, Nat.reduceLeDiff, Nat.reduceBEq, c1, c2, c3, c4]) | (refine qd (by kernel_rfl) (by kernel_rfl) ?_; simp only [go_sem, Nat.reduceEqDiff, reduceIte, Nat.reduceAdd, Nat.reduceMul, Nat.reduceSub, Nat.reduceLT, Nat.reduceLeDiff, Nat.reduceBEq, c1, c2, c3, c4]) | refine dk (by kernel_rfl) ?_ | (refine qp (k) (by simp only [go_sem, Nat.reduceEqDiff, reduceIte, Nat.reduceAdd, Nat.reduceMul, Nat.reduceSub, Nat.reduceLT, Nat.reduceLeDiff, Nat.reduceBEq, c1, c2, c3, c4]; first | done | rfl) rfl (by simp only [go_sem, Nat.reduceLT]) rfl rfl ?_; simp only [go_sem, Nat.reduceEqDiff, reduceIte, Nat.reduceAdd, Nat.reduceMul, Nat.reduceSub, Nat.reduceLT, Nat.reduceLeDiff, Nat.reduceBEq, c1, c2, c3, c4]))
      exact Aw_ret (ret0 (.inl rfl) (by simp only [go_sem, Nat.reduceEqDiff, reduceIte, Nat.reduceAdd, Nat.reduceMul, Nat.reduceSub, Nat.reduceLT, Nat.reduceLeDiff, Nat.reduceBEq]; rfl) (by rfl) rfl)
  rw [if_neg (of_decide_eq_false c4)]
  cases c5 : decide (d.kind = 5)
  case true =>
    rw [if_pos (of_decide_eq_true c5)]
    obtain ⟨a1, a2⟩ := storeDownS_own s hs
    refine ⟨fun x hx => ?_, fun hx => ?_⟩
    · have k := a1 x hx
      refine AC_of Try.func151 rfl Try.ntmps151 Try.results151 (by kernel_rfl) rfl ?_
      simp only [List.zipIdx, List.map, Nat.zero_add, Nat.reduceAdd]
      repeat (first | apply Aw_seq | apply Aw_block | apply Aw_skip | apply Aw_exit | refine Aw_condt rfl ?_ | refine Aw_condf rfl ?_ | (refine qr ?_; simp only [go_sem, Nat.reduceEqDiff, reduceIte, Nat.reduceAdd, Nat.reduceMul, Nat.reduceSub, Nat.reduceLT, Nat.reduceLeDiff, Nat.reduceBEq, c1, c2, c3, c4, c5]) | (refine qd (by kernel_rfl) (by kernel_rfl) ?_; simp only [go_sem, Nat.reduceEqDiff, reduceIte, Nat.reduceAdd, Nat.reduceMul, Nat.reduceSub, Nat.reduceLT, Nat.reduceLeDiff, Nat.reduceBEq, c1, c2, c3, c4, c5]) | refine dk (by kernel_rfl) ?_ | (refine qx (call_N (L := []) (k) rfl (.cons (.nm rfl) (.nil)) (.inl rfl) rfl) (by simp only [go_sem, Nat.reduceEqDiff, reduceIte, Nat.reduceAdd, Nat.reduceMul, Nat.reduceSub, Nat.reduceLT, Nat.reduceLeDiff, Nat.reduceBEq, c1, c2, c3, c4, c5]; first | done | rfl) rfl (by simp only [go_sem, Nat.reduceLT]) ?_; simp only [go_sem, Nat.reduceEqDiff, reduceIte, Nat.reduceAdd, Nat.reduceMul, Nat.reduceSub, Nat.reduceLT, Nat.reduceLeDiff, Nat.reduceBEq, c1, c2, c3, c4, c5]))
      exact Aw_ret (retL (M := [17, 18, 19, 20]) (.inl rfl) (by simp only [go_sem, Nat.reduceEqDiff, reduceIte, Nat.reduceAdd, Nat.reduceMul, Nat.reduceSub, Nat.reduceLT, Nat.reduceLeDiff, Nat.reduceBEq]; first | done | rfl) rfl rfl (by rfl) (by simp only [go_sem, Nat.reduceEqDiff, reduceIte, Nat.reduceAdd, Nat.reduceMul, Nat.reduceSub, Nat.reduceLT, Nat.reduceLeDiff, Nat.reduceBEq]; first | done | rfl | (and_intros <;> rfl)) (by decide) (by intro m hm; first | omega | (rcases m with _ | _ | _ | _ | _ | _ | m <;> first | exact ⟨by decide, rfl⟩ | omega)))
    · have k := a2 hx
      refine AC_of Try.func151 rfl Try.ntmps151 Try.results151 (by kernel_rfl) rfl ?_
      simp only [List.zipIdx, List.map, Nat.zero_add, Nat.reduceAdd]
      repeat (first | apply Aw_seq | apply Aw_block | apply Aw_skip | apply Aw_exit | refine Aw_condt rfl ?_ | refine Aw_condf rfl ?_ | (refine qr ?_; simp only [go_sem, Nat.reduceEqDiff, reduceIte, Nat.reduceAdd, Nat.reduceMul, Nat.reduceSub, Nat.reduceLT, Nat.reduceLeDiff, Nat.reduceBEq, c1, c2, c3, c4, c5]) | (refine qd (by kernel_rfl) (by kernel_rfl) ?_; simp only [go_sem, Nat.reduceEqDiff, reduceIte, Nat.reduceAdd, Nat.reduceMul, Nat.reduceSub, Nat.reduceLT, Nat.reduceLeDiff, Nat.reduceBEq, c1, c2, c3, c4, c5]) | refine dk (by kernel_rfl) ?_ | (refine qp (k) (by simp only [go_sem, Nat.reduceEqDiff, reduceIte, Nat.reduceAdd, Nat.reduceMul, Nat.reduceSub, Nat.reduceLT, Nat.reduceLeDiff, Nat.reduceBEq, c1, c2, c3, c4, c5]; first | done | rfl) rfl (by simp only [go_sem, Nat.reduceLT]) rfl rfl ?_; simp only [go_sem, Nat.reduceEqDiff, reduceIte, Nat.reduceAdd, Nat.reduceMul, Nat.reduceSub, Nat.reduceLT, Nat.reduceLeDiff, Nat.reduceBEq, c1, c2, c3, c4, c5]))
      exact Aw_ret (ret0 (.inl rfl) (by simp only [go_sem, Nat.reduceEqDiff, reduceIte, Nat.reduceAdd, Nat.reduceMul, Nat.reduceSub, Nat.reduceLT, Nat.reduceLeDiff, Nat.reduceBEq]; rfl) (by rfl) rfl)
  rw [if_neg (of_decide_eq_false c5)]
  cases c6 : decide (d.kind = 6)
  case true =>
    rw [if_pos (of_decide_eq_true c6)]
    obtain ⟨a1, a2⟩ := storeJoinS_own s d.num hs
    refine ⟨fun x hx => ?_, fun hx => ?_⟩
    · have k := a1 x hx
      refine AC_of Try.func151 rfl Try.ntmps151 Try.results151 (by kernel_rfl) rfl ?_
      simp only [List.zipIdx, List.map, Nat.zero_add, Nat.reduceAdd]
      repeat (first | apply Aw_seq | apply Aw_block | apply Aw_skip | apply Aw_exit | refine Aw_condt rfl ?_ | refine Aw_condf rfl ?_ | (refine qr ?_; simp only [go_sem, Nat.reduceEqDiff, reduceIte, Nat.reduceAdd, Nat.reduceMul, Nat.reduceSub, Nat.reduceLT, Nat.reduceLeDiff, Nat.reduceBEq, c1, c2, c3, c4, c5, c6]) | (refine qd (by kernel_rfl) (by kernel_rfl) ?_; simp only [go_sem, Nat.reduceEqDiff, reduceIte, Nat.reduceAdd, Nat.reduceMul, Nat.reduceSub, Nat.reduceLT, Nat.reduceLeDiff, Nat.reduceBEq, c1, c2, c3, c4, c5, c6]) | refine dk (by kernel_rfl) ?_ | (refine qx (call_N (L := []) (k) rfl (.cons (.nm rfl) (.cons (.nm rfl) (.nil))) (.inl rfl) rfl) (by simp only [go_sem, Nat.reduceEqDiff, reduceIte, Nat.reduceAdd, Nat.reduceMul, Nat.reduceSub, Nat.reduceLT, Nat.reduceLeDiff, Nat.reduceBEq, c1, c2, c3, c4, c5, c6]; first | done | rfl) rfl (by simp only [go_sem, Nat.reduceLT]) ?_; simp only [go_sem, Nat.reduceEqDiff, reduceIte, Nat.reduceAdd, Nat.reduceMul, Nat.reduceSub, Nat.reduceLT, Nat.reduceLeDiff, Nat.reduceBEq, c1, c2, c3, c4, c5, c6]))
      exact Aw_ret (retL (M := [21, 22, 23, 24]) (.inl rfl) (by simp only [go_sem, Nat.reduceEqDiff, reduceIte, Nat.reduceAdd, Nat.reduceMul, Nat.reduceSub, Nat.reduceLT, Nat.reduceLeDiff, Nat.reduceBEq]; first | done | rfl) rfl rfl (by rfl) (by simp only [go_sem, Nat.reduceEqDiff, reduceIte, Nat.reduceAdd, Nat.reduceMul, Nat.reduceSub, Nat.reduceLT, Nat.reduceLeDiff, Nat.reduceBEq]; first | done | rfl | (and_intros <;> rfl)) (by decide) (by intro m hm; first | omega | (rcases m with _ | _ | _ | _ | _ | _ | m <;> first | exact ⟨by decide, rfl⟩ | omega)))
    · have k := a2 hx
      refine AC_of Try.func151 rfl Try.ntmps151 Try.results151 (by kernel_rfl) rfl ?_
      simp only [List.zipIdx, List.map, Nat.zero_add, Nat.reduceAdd]
      repeat (first | apply Aw_seq | apply Aw_block | apply Aw_skip | apply Aw_exit | refine Aw_condt rfl ?_ | refine Aw_condf rfl ?_ | (refine qr ?_; simp only [go_sem, Nat.reduceEqDiff, reduceIte, Nat.reduceAdd, Nat.reduceMul, Nat.reduceSub, Nat.reduceLT, Nat.reduceLeDiff, Nat.reduceBEq, c1, c2, c3, c4, c5, c6]) | (refine qd (by kernel_rfl) (by kernel_rfl) ?_; simp only [go_sem, Nat.reduceEqDiff, reduceIte, Nat.reduceAdd, Nat.reduceMul, Nat.reduceSub, Nat.reduceLT, Nat.reduceLeDiff, Nat.reduceBEq, c1, c2, c3, c4, c5, c6]) | refine dk (by kernel_rfl) ?_ | (refine qp (k) (by simp only [go_sem, Nat.reduceEqDiff, reduceIte, Nat.reduceAdd, Nat.reduceMul, Nat.reduceSub, Nat.reduceLT, Nat.reduceLeDiff, Nat.reduceBEq, c1, c2, c3, c4, c5, c6]; first | done | rfl) rfl (by simp only [go_sem, Nat.reduceLT]) rfl rfl ?_; simp only [go_sem, Nat.reduceEqDiff, reduceIte, Nat.reduceAdd, Nat.reduceMul, Nat.reduceSub, Nat.reduceLT, Nat.reduceLeDiff, Nat.reduceBEq, c1, c2, c3, c4, c5, c6]))
      exact Aw_ret (ret0 (.inl rfl) (by simp only [go_sem, Nat.reduceEqDiff, reduceIte, Nat.reduceAdd, Nat.reduceMul, Nat.reduceSub, Nat.reduceLT, Nat.reduceLeDiff, Nat.reduceBEq]; rfl) (by rfl) rfl)
  rw [if_neg (of_decide_eq_false c6)]
  refine ⟨fun x hx => (by cases hx), fun _ => ?_⟩
  refine AC_of Try.func151 rfl Try.ntmps151 Try.results151 (by kernel_rfl) rfl ?_
  simp only [List.zipIdx, List.map, Nat.zero_add, Nat.reduceAdd]
  repeat (first | apply Aw_seq | apply Aw_block | apply Aw_skip | apply Aw_exit | refine Aw_condt rfl ?_ | refine Aw_condf rfl ?_ | (refine qr ?_; simp only [go_sem, Nat.reduceEqDiff, reduceIte, Nat.reduceAdd, Nat.reduceMul, Nat.reduceSub, Nat.reduceLT, Nat.reduceLeDiff, Nat.reduceBEq, c1, c2, c3, c4, c5, c6]) | (refine qd (by kernel_rfl) (by kernel_rfl) ?_; simp only [go_sem, Nat.reduceEqDiff, reduceIte, Nat.reduceAdd, Nat.reduceMul, Nat.reduceSub, Nat.reduceLT, Nat.reduceLeDiff, Nat.reduceBEq, c1, c2, c3, c4, c5, c6]) | refine dk (by kernel_rfl) ?_)
  exact Aw_ret (ret0 (.inl rfl) (by simp only [go_sem, Nat.reduceEqDiff, reduceIte, Nat.reduceAdd, Nat.reduceMul, Nat.reduceSub, Nat.reduceLT, Nat.reduceLeDiff, Nat.reduceBEq]; rfl) (by rfl) rfl)
theorem l13Do_ac (s : Sto) (d : Deed) (hs : SmSt s) (hk : smK d.key) : AC Try.prog 151 [stT s, deedT d] noHp 0 ⟨resO (doM s d), noHp, 0⟩ := (l13Do_own s d hs hk).set
theorem setM_st {s s' : Sto} {i : Nat} {r : List Ent} (hs : SmSt s) (hr : SmR r) (h : setM s i r = some s') : SmSt s' := by
  obtain ⟨x, rfl, hx, hl⟩ := setM_ok h
  refine ⟨hs.top, fun q hq => ?_, by simpa using hs.ll, by simpa using hs.sl, fun y hy => ?_, hs.tl⟩
  · rcases List.mem_or_eq_of_mem_set hq with h | rfl
    · exact hs.lev q h
    · exact hr
  · rcases List.mem_or_eq_of_mem_set hy with h | rfl
    · exact hs.rl y h
    · exact sieveM_len hx
theorem intoM_st : ∀ (d : Nat) {s s' : Sto} {i : Nat} {r : List Ent}, i + d = 2 → SmH s → SmSt s → SmR r → r.length ≤ 1000 → intoM d s i r = some s' → SmSt s'
  | 0, s, s', i, r, hi, hh, hs, hr, hl, h => by
    have hq : SmR (s.levels.getD i []) ∧ (s.levels.getD i []).length ≤ 1000 := by
      rw [List.getD_eq_getElem?_getD, List.getElem?_eq_getElem (by rw [hh.ll]; omega)]; exact hh.lev _ (List.getElem_mem _)
    exact setM_st hs (smR_trim (smR_join hr hq.1 hl hq.2) _ _) h
  | d + 1, s, s', i, r, hi, hh, hs, hr, hl, h => by
    have hq : SmR (s.levels.getD i []) ∧ (s.levels.getD i []).length ≤ 1000 := by
      rw [List.getD_eq_getElem?_getD, List.getElem?_eq_getElem (by rw [hh.ll]; omega)]; exact hh.lev _ (List.getElem_mem _)
    simp only [intoM] at h
    split at h
    · rename_i x hx
      obtain rfl := Option.some.inj h
      exact setM_st hs (smR_trim (smR_join hr hq.1 hl hq.2) _ _) hx
    · obtain ⟨s1, h1, h2⟩ := Option.bind_eq_some_iff.1 h
      exact setM_st (intoM_st d (by omega) hh hs hq.1 hq.2 h1) (smR_trim hr _ _) h2
theorem downM_st {s s' : Sto} (hs : SmSt s) (hv : storeS s = true) (h : downM s = some s') : SmSt s' ∧ s'.top = [] := by
  have sm := valid_sm hs hv
  obtain ⟨h1, h2, h3, h4, h5, _⟩ := storeS_facts hv
  have g : SmSt (noTop s) := ⟨smR_nil, hs.lev, hs.ll, hs.sl, hs.rl, hs.tl⟩
  exact ⟨intoM_st 2 (s := noTop s) rfl ⟨sm.ll, sm.sl, sm.lev, sm.tl⟩ g hs.top (by omega) h, (intoM_sm 2 (s := noTop s) (i := 0) rfl ⟨sm.ll, sm.sl, sm.lev, sm.tl⟩ hs.top (by omega) h).2.2.1⟩
theorem smR_one {e : Ent} (h : smK e.key) : SmR [e] := ⟨by simp, by simpa using h⟩
theorem addM_st {s s' : Sto} {e : Ent} (hs : SmSt s) (he : smK e.key) (h : addM s e = some s') : SmSt s' := by
  unfold addM at h
  split at h
  · rename_i hc
    rw [Bool.and_eq_true] at hc
    obtain ⟨h1, h2, h3, h4, h5, _⟩ := storeS_facts hc.1
    split at h
    · obtain ⟨x, hx, rfl⟩ := Option.map_eq_some_iff.1 h
      obtain ⟨g, gt⟩ := downM_st hs hc.1 hx
      exact ⟨smR_join (smR_one he) g.top (by simp) (by rw [gt]; simp), g.lev, g.ll, g.sl, g.rl, g.tl⟩
    · obtain rfl := Option.some.inj h
      exact ⟨smR_join (smR_one he) hs.top (by simp) (by omega), hs.lev, hs.ll, hs.sl, hs.rl, hs.tl⟩
  · cases h
theorem doM_st {s s' : Sto} {d : Deed} (hs : SmSt s) (hk : smK d.key) (h : doM s d = some s') : SmSt s' := by
  unfold doM at h
  split at h
  · exact addM_st (e := ⟨d.key, d.num, false, nextT s⟩) hs hk h
  split at h
  · exact addM_st (e := ⟨d.key, 0, true, nextT s⟩) hs hk h
  split at h
  · unfold holdM at h
    split at h
    · rename_i hv
      obtain ⟨h1, h2, h3, h4, h5, _⟩ := storeS_facts hv
      split at h
      · obtain rfl := Option.some.inj h
        have hl : (heldTs s).length ≤ 1099511627776 := by
          unfold heldTs
          split
          · omega
          · simp only [List.length_append, List.length_cons, List.length_nil]; omega
        exact ⟨hs.top, hs.lev, hs.ll, hs.sl, hs.rl, hl⟩
      · cases h
    · cases h
  split at h
  · unfold freeM at h
    split at h
    · split at h
      · cases h
      · obtain rfl := Option.some.inj h
        exact ⟨hs.top, hs.lev, hs.ll, hs.sl, hs.rl, Nat.le_trans (colI_len (freeAt_len _ _)) hs.tl⟩
    · cases h
  split at h
  · unfold sDownM at h
    split at h
    · rename_i hv; exact (downM_st hs hv h).1
    · cases h
  split at h
  · unfold sJoinM at h
    split at h
    · rename_i hc
      rw [Bool.and_eq_true] at hc
      have sm := valid_sm hs hc.1
      have c2 := hc.2
      unfold inB at c2
      rw [Bool.and_eq_true] at c2
      have g1 := of_decide_eq_true c2.1; have g2 := of_decide_eq_true c2.2
      obtain ⟨x, hx, h2⟩ := Option.bind_eq_some_iff.1 h
      have smx := setM_sm sm (by omega) smR_nil hx
      have hq : SmR (s.levels.getD d.num.toNat []) ∧ (s.levels.getD d.num.toNat []).length ≤ 1000 := by
        rw [List.getD_eq_getElem?_getD, List.getElem?_eq_getElem (by rw [sm.ll]; omega)]; exact sm.lev _ (List.getElem_mem _)
      exact intoM_st _ (by omega) smx (setM_st hs smR_nil hx) hq.1 hq.2 h2
    · cases h
  · cases h
end Go.Proofs.Ytcbhgglpgphimaa.Ab
namespace Go.Proofs.Ytcbhgglpgphimaa.Ab
set_option linter.deprecated false
set_option linter.unusedVariables false
set_option linter.unusedSimpArgs false
open Go Go.Proofs
set_option maxRecDepth 10000
set_option maxHeartbeats 8000000
set_option linter.unusedSimpArgs false
set_option linter.unusedVariables false
/-- The entry that a deed writes. -/
def entOf (d : Deed) (x : Sto) : Ent := if d.kind = 2 then ⟨d.key, 0, true, x.time⟩ else ⟨d.key, d.num, false, x.time⟩
def pastStep (q : Sto × List Ent) (d : Deed) : Sto × List Ent := match doM q.1 d with
  | none => q
  | some x => (x, if q.1.time < x.time then q.2 ++ [entOf d x] else q.2)
def pastTo (s : Sto) (ds : List Deed) (i : Nat) : Sto × List Ent := (ds.take i).foldl pastStep (s, [])
def pastM (s : Sto) (ds : List Deed) : List Ent := if storeS s = true ∧ ds.length ≤ 40 then (pastTo s ds ds.length).2 else []
theorem pastTo_succ {s : Sto} {ds : List Deed} {i : Nat} {d : Deed} (h : ds[i]? = some d) : pastTo s ds (i + 1) = pastStep (pastTo s ds i) d := by
  unfold pastTo
  rw [List.take_add_one, h]
  simp [List.foldl_append]
structure SmD (ds : List Deed) : Prop where
  key : ∀ d ∈ ds, smK d.key
theorem pastTo_st {s : Sto} {ds : List Deed} (hs : SmSt s) (hd : SmD ds) : ∀ i, i ≤ ds.length → SmSt (pastTo s ds i).1 ∧ (pastTo s ds i).2.length ≤ i ∧ ∀ e ∈ (pastTo s ds i).2, smK e.key := by
  intro i
  induction i with
  | zero => intro _; exact ⟨hs, by simp [pastTo], by simp [pastTo]⟩
  | succ i ih =>
    intro hi
    obtain ⟨h1, h2, h3⟩ := ih (by omega)
    obtain ⟨d, hd2⟩ : ∃ d, ds[i]? = some d := ⟨_, List.getElem?_eq_getElem (by omega)⟩
    have hk := hd.key d (List.mem_of_getElem? hd2)
    rw [pastTo_succ hd2]
    unfold pastStep
    cases hm : doM (pastTo s ds i).1 d with
    | none => dsimp only; exact ⟨h1, by omega, h3⟩
    | some x =>
      refine ⟨doM_st h1 hk hm, ?_, ?_⟩
      · dsimp only; split
        · simp; omega
        · omega
      · dsimp only; split
        · intro e he
          rcases List.mem_append.1 he with he | he
          · exact h3 e he
          · obtain rfl : e = entOf d x := by simpa using he
            unfold entOf; split <;> exact hk
        · exact h3
theorem pastM_len {s : Sto} {ds : List Deed} (hs : SmSt s) (hd : SmD ds) : (pastM s ds).length ≤ 40 ∧ ∀ e ∈ pastM s ds, smK e.key := by
  unfold pastM
  split
  · rename_i h
    have := pastTo_st hs hd ds.length (Nat.le_refl _)
    exact ⟨by omega, this.2.2⟩
  · simp
theorem pastAll_ac (s : Sto) (ds : List Deed) (hs : SmSt s) (hd : SmD ds) (hl : ds.length ≤ 1099511627776) : AC Try.prog 122 [stT s, deedsT ds] noHp 0 ⟨.t (.c (.h 0)), hpL [some (eRow (pastM s ds))], 1⟩ := by
  refine AC_of Try.func122 rfl Try.ntmps122 Try.results122 (by kernel_rfl) rfl ?_
  simp only [List.zipIdx, List.map, Nat.zero_add, Nat.reduceAdd]
  have k1 := sstoreOk_ac s hs
  unfold pastM
  cases c1 : storeS s
  · rw [c1] at k1
    rw [if_neg (by simp)]
    repeat (first | apply Aw_seq | apply Aw_block | apply Aw_skip | apply Aw_exit | refine Aw_condt rfl ?_ | refine Aw_condf rfl ?_ | (refine qr ?_; simp only [go_sem, Nat.reduceEqDiff, reduceIte, Nat.reduceAdd, Nat.reduceMul, Nat.reduceSub, Nat.reduceLT, Nat.reduceLeDiff, Nat.reduceBEq]) | (refine qd (by kernel_rfl) (by kernel_rfl) ?_; simp only [go_sem, Nat.reduceEqDiff, reduceIte, Nat.reduceAdd, Nat.reduceMul, Nat.reduceSub, Nat.reduceLT, Nat.reduceLeDiff, Nat.reduceBEq]) | refine dk (by kernel_rfl) ?_ | (refine qp (k1) (by simp only [go_sem, Nat.reduceEqDiff, reduceIte, Nat.reduceAdd, Nat.reduceMul, Nat.reduceSub, Nat.reduceLT, Nat.reduceLeDiff, Nat.reduceBEq]; first | done | rfl) rfl (by simp only [go_sem, Nat.reduceLT]) rfl rfl ?_; simp only [go_sem, Nat.reduceEqDiff, reduceIte, Nat.reduceAdd, Nat.reduceMul, Nat.reduceSub, Nat.reduceLT, Nat.reduceLeDiff, Nat.reduceBEq]))
    exact Aw_ret (retL (M := [2]) (.inl rfl) (by simp only [go_sem, Nat.reduceEqDiff, reduceIte, Nat.reduceAdd, Nat.reduceMul, Nat.reduceSub, Nat.reduceLT, Nat.reduceLeDiff, Nat.reduceBEq]; first | done | rfl) rfl rfl (by rfl) (by simp only [go_sem, Nat.reduceEqDiff, reduceIte, Nat.reduceAdd, Nat.reduceMul, Nat.reduceSub, Nat.reduceLT, Nat.reduceLeDiff, Nat.reduceBEq]; first | done | rfl | (and_intros <;> rfl)) (by decide) (by intro m hm; first | omega | (rcases m with _ | _ | _ | _ | _ | _ | m <;> first | exact ⟨by decide, rfl⟩ | omega)))
  rw [c1] at k1
  by_cases c2 : ds.length ≤ 40
  case neg =>
    have g2 : decide ((40 : Int) < (ds.length : Int)) = true := decide_eq_true (by omega)
    rw [if_neg (by simp [c2])]
    repeat (first | apply Aw_seq | apply Aw_block | apply Aw_skip | apply Aw_exit | refine Aw_condt rfl ?_ | refine Aw_condf rfl ?_ | (refine qr ?_; simp only [go_sem, Nat.reduceEqDiff, reduceIte, Nat.reduceAdd, Nat.reduceMul, Nat.reduceSub, Nat.reduceLT, Nat.reduceLeDiff, Nat.reduceBEq, g2]) | (refine qd (by kernel_rfl) (by kernel_rfl) ?_; simp only [go_sem, Nat.reduceEqDiff, reduceIte, Nat.reduceAdd, Nat.reduceMul, Nat.reduceSub, Nat.reduceLT, Nat.reduceLeDiff, Nat.reduceBEq, g2]) | refine dk (by kernel_rfl) ?_ | (refine qp (k1) (by simp only [go_sem, Nat.reduceEqDiff, reduceIte, Nat.reduceAdd, Nat.reduceMul, Nat.reduceSub, Nat.reduceLT, Nat.reduceLeDiff, Nat.reduceBEq, g2]; first | done | rfl) rfl (by simp only [go_sem, Nat.reduceLT]) rfl rfl ?_; simp only [go_sem, Nat.reduceEqDiff, reduceIte, Nat.reduceAdd, Nat.reduceMul, Nat.reduceSub, Nat.reduceLT, Nat.reduceLeDiff, Nat.reduceBEq, g2]))
    exact Aw_ret (retL (M := [2]) (.inl rfl) (by simp only [go_sem, Nat.reduceEqDiff, reduceIte, Nat.reduceAdd, Nat.reduceMul, Nat.reduceSub, Nat.reduceLT, Nat.reduceLeDiff, Nat.reduceBEq]; first | done | rfl) rfl rfl (by rfl) (by simp only [go_sem, Nat.reduceEqDiff, reduceIte, Nat.reduceAdd, Nat.reduceMul, Nat.reduceSub, Nat.reduceLT, Nat.reduceLeDiff, Nat.reduceBEq]; first | done | rfl | (and_intros <;> rfl)) (by decide) (by intro m hm; first | omega | (rcases m with _ | _ | _ | _ | _ | _ | m <;> first | exact ⟨by decide, rfl⟩ | omega)))
  have g2 : decide ((40 : Int) < (ds.length : Int)) = false := decide_eq_false (by omega)
  rw [if_pos ⟨rfl, c2⟩]
  have e0 : pastTo s ds 0 = (s, []) := rfl
  repeat (first | apply Aw_seq | apply Aw_block | apply Aw_skip | apply Aw_exit | refine Aw_condt rfl ?_ | refine Aw_condf rfl ?_ | (refine qr ?_; simp only [go_sem, Nat.reduceEqDiff, reduceIte, Nat.reduceAdd, Nat.reduceMul, Nat.reduceSub, Nat.reduceLT, Nat.reduceLeDiff, Nat.reduceBEq, g2]) | (refine qd (by kernel_rfl) (by kernel_rfl) ?_; simp only [go_sem, Nat.reduceEqDiff, reduceIte, Nat.reduceAdd, Nat.reduceMul, Nat.reduceSub, Nat.reduceLT, Nat.reduceLeDiff, Nat.reduceBEq, g2]) | refine dk (by kernel_rfl) ?_ | (refine qp (k1) (by simp only [go_sem, Nat.reduceEqDiff, reduceIte, Nat.reduceAdd, Nat.reduceMul, Nat.reduceSub, Nat.reduceLT, Nat.reduceLeDiff, Nat.reduceBEq, g2]; first | done | rfl) rfl (by simp only [go_sem, Nat.reduceLT]) rfl rfl ?_; simp only [go_sem, Nat.reduceEqDiff, reduceIte, Nat.reduceAdd, Nat.reduceMul, Nat.reduceSub, Nat.reduceLT, Nat.reduceLeDiff, Nat.reduceBEq, g2]))
  refine Aw.rw (rwL (l' := [(6, .t (iT (0 : Nat))), (5, .t (.c (.h 1))), (2, .t (.c (.ph 0 0 0))), (1, .t (deedsT ds))]) (os := [some (stO (pastTo s ds 0).1), some (eRow (pastTo s ds 0).2)]) (M := [0, 2]) (n' := 2) (by repeat (first | exact trivial | refine ⟨rfl, rfl, ?_⟩)) (by rfl) (by simp only [go_sem, Nat.reduceEqDiff, reduceIte, Nat.reduceAdd, Nat.reduceMul, Nat.reduceSub, Nat.reduceLT, Nat.reduceLeDiff, Nat.reduceBEq, e0, List.map_nil]; first | done | rfl) (by decide) (by intro m hm; first | omega | (rcases m with _ | _ | _ | _ | _ | _ | m <;> first | exact ⟨by decide, rfl⟩ | omega))) ?_
  refine Aw_loop_rw (ι := { i : Nat // i ≤ ds.length }) (fun q => S [(6, .t (iT (q.1 : Nat))), (5, .t (.c (.h 1))), (2, .t (.c (.ph 0 0 0))), (1, .t (deedsT ds))] (hpL [some (stO (pastTo s ds q.1).1), some (eRow (pastTo s ds q.1).2)]) 2) (fun q => ds.length - q.1) ⟨0, Nat.zero_le _⟩ ?_
  rintro ⟨i, hi⟩
  dsimp only
  by_cases hlt : i < ds.length
  · have g1 : (i : Int) < (ds.length : Int) := by omega
    have w1 := wrap_succ hlt (by omega)
    obtain ⟨d, hx⟩ : ∃ e, ds[i]? = some e := ⟨_, List.getElem?_eq_getElem hlt⟩
    have hk := hd.key d (List.mem_of_getElem? hx)
    obtain ⟨p1, p2, p3⟩ := pastTo_st hs hd i hi
    have e1 := pastTo_succ (s := s) hx
    generalize pastTo s ds i = q at p1 p2 p3 e1 ⊢
    obtain ⟨cs, out⟩ := q
    dsimp only at p1 p2 p3
    have hap : (out.length + 1) * 40 ≤ 140737488355328 := by omega
    have k2 := l13Do_ac cs d p1 hk
    dsimp only
    cases hm : doM cs d with
    | none =>
      rw [hm] at k2
      have e2 : pastTo s ds (i + 1) = (cs, out) := by rw [e1]; unfold pastStep; simp only [hm]
      repeat (first | apply Aw_seq | apply Aw_block | apply Aw_skip | apply Aw_exit | refine Aw_condt rfl ?_ | refine Aw_condf rfl ?_ | (refine qr ?_; simp only [go_sem, Nat.reduceEqDiff, reduceIte, Nat.reduceAdd, Nat.reduceMul, Nat.reduceSub, Nat.reduceLT, Nat.reduceLeDiff, Nat.reduceBEq, g1, w1, hx]) | (refine qd (by kernel_rfl) (by kernel_rfl) ?_; simp only [go_sem, Nat.reduceEqDiff, reduceIte, Nat.reduceAdd, Nat.reduceMul, Nat.reduceSub, Nat.reduceLT, Nat.reduceLeDiff, Nat.reduceBEq, g1, w1, hx]) | refine dk (by kernel_rfl) ?_ | (refine qp (k2) (by simp only [go_sem, Nat.reduceEqDiff, reduceIte, Nat.reduceAdd, Nat.reduceMul, Nat.reduceSub, Nat.reduceLT, Nat.reduceLeDiff, Nat.reduceBEq, g1, w1, hx]; first | done | rfl) rfl (by simp only [go_sem, Nat.reduceLT]) rfl rfl ?_; simp only [go_sem, Nat.reduceEqDiff, reduceIte, Nat.reduceAdd, Nat.reduceMul, Nat.reduceSub, Nat.reduceLT, Nat.reduceLeDiff, Nat.reduceBEq, g1, w1, hx]))
      refine ⟨⟨i + 1, hlt⟩, [0, 1], ?_, rwL (by repeat (first | exact trivial | refine ⟨rfl, rfl, ?_⟩)) (by rfl) (by simp only [go_sem, Nat.reduceEqDiff, reduceIte, Nat.reduceAdd, Nat.reduceMul, Nat.reduceSub, Nat.reduceLT, Nat.reduceLeDiff, Nat.reduceBEq, e2]; first | done | rfl) (by decide) (by intro m hm; first | omega | (rcases m with _ | _ | _ | _ | _ | _ | m <;> first | exact ⟨by decide, rfl⟩ | omega))⟩
      show ds.length - (i + 1) < ds.length - i; omega
    | some x =>
      rw [hm] at k2
      have k2 : AC Try.prog 151 [stT cs, deedT d] noHp 0 ⟨.tup [stT x, bT true], noHp, 0⟩ := k2
      cases c3 : decide (cs.time < x.time)
      · have e2 : pastTo s ds (i + 1) = (x, out) := by rw [e1]; unfold pastStep; simp only [hm]; rw [if_neg (of_decide_eq_false c3)]
        repeat (first | apply Aw_seq | apply Aw_block | apply Aw_skip | apply Aw_exit | refine Aw_condt rfl ?_ | refine Aw_condf rfl ?_ | (refine qr ?_; simp only [go_sem, Nat.reduceEqDiff, reduceIte, Nat.reduceAdd, Nat.reduceMul, Nat.reduceSub, Nat.reduceLT, Nat.reduceLeDiff, Nat.reduceBEq, g1, w1, hx, c3]) | (refine qd (by kernel_rfl) (by kernel_rfl) ?_; simp only [go_sem, Nat.reduceEqDiff, reduceIte, Nat.reduceAdd, Nat.reduceMul, Nat.reduceSub, Nat.reduceLT, Nat.reduceLeDiff, Nat.reduceBEq, g1, w1, hx, c3]) | refine dk (by kernel_rfl) ?_ | (refine qp (k2) (by simp only [go_sem, Nat.reduceEqDiff, reduceIte, Nat.reduceAdd, Nat.reduceMul, Nat.reduceSub, Nat.reduceLT, Nat.reduceLeDiff, Nat.reduceBEq, g1, w1, hx, c3]; first | done | rfl) rfl (by simp only [go_sem, Nat.reduceLT]) rfl rfl ?_; simp only [go_sem, Nat.reduceEqDiff, reduceIte, Nat.reduceAdd, Nat.reduceMul, Nat.reduceSub, Nat.reduceLT, Nat.reduceLeDiff, Nat.reduceBEq, g1, w1, hx, c3]))
        refine ⟨⟨i + 1, hlt⟩, [0, 1], ?_, rwL (by repeat (first | exact trivial | refine ⟨rfl, rfl, ?_⟩)) (by rfl) (by simp only [go_sem, Nat.reduceEqDiff, reduceIte, Nat.reduceAdd, Nat.reduceMul, Nat.reduceSub, Nat.reduceLT, Nat.reduceLeDiff, Nat.reduceBEq, e2]; first | done | rfl) (by decide) (by intro m hm; first | omega | (rcases m with _ | _ | _ | _ | _ | _ | m <;> first | exact ⟨by decide, rfl⟩ | omega))⟩
        show ds.length - (i + 1) < ds.length - i; omega
      · cases c4 : decide (d.kind = 2)
        · have e2 : pastTo s ds (i + 1) = (x, out ++ [⟨d.key, d.num, false, x.time⟩]) := by rw [e1]; unfold pastStep entOf; simp only [hm]; rw [if_pos (of_decide_eq_true c3), if_neg (of_decide_eq_false c4)]
          repeat (first | apply Aw_seq | apply Aw_block | apply Aw_skip | apply Aw_exit | refine Aw_condt rfl ?_ | refine Aw_condf rfl ?_ | (refine qr ?_; simp only [go_sem, Nat.reduceEqDiff, reduceIte, Nat.reduceAdd, Nat.reduceMul, Nat.reduceSub, Nat.reduceLT, Nat.reduceLeDiff, Nat.reduceBEq, g1, w1, hx, c3, c4, hap]) | (refine qd (by kernel_rfl) (by kernel_rfl) ?_; simp only [go_sem, Nat.reduceEqDiff, reduceIte, Nat.reduceAdd, Nat.reduceMul, Nat.reduceSub, Nat.reduceLT, Nat.reduceLeDiff, Nat.reduceBEq, g1, w1, hx, c3, c4, hap]) | refine dk (by kernel_rfl) ?_ | (refine qp (k2) (by simp only [go_sem, Nat.reduceEqDiff, reduceIte, Nat.reduceAdd, Nat.reduceMul, Nat.reduceSub, Nat.reduceLT, Nat.reduceLeDiff, Nat.reduceBEq, g1, w1, hx, c3, c4, hap]; first | done | rfl) rfl (by simp only [go_sem, Nat.reduceLT]) rfl rfl ?_; simp only [go_sem, Nat.reduceEqDiff, reduceIte, Nat.reduceAdd, Nat.reduceMul, Nat.reduceSub, Nat.reduceLT, Nat.reduceLeDiff, Nat.reduceBEq, g1, w1, hx, c3, c4, hap]))
          refine ⟨⟨i + 1, hlt⟩, [0, 48], ?_, rwL (by repeat (first | exact trivial | refine ⟨rfl, rfl, ?_⟩)) (by rfl) (by simp only [go_sem, Nat.reduceEqDiff, reduceIte, Nat.reduceAdd, Nat.reduceMul, Nat.reduceSub, Nat.reduceLT, Nat.reduceLeDiff, Nat.reduceBEq, e2, List.map_append, List.map_cons, List.map_nil]; first | done | rfl) (by decide) (by intro m hm; first | omega | (rcases m with _ | _ | _ | _ | _ | _ | m <;> first | exact ⟨by decide, rfl⟩ | omega))⟩
          show ds.length - (i + 1) < ds.length - i; omega
        · have e2 : pastTo s ds (i + 1) = (x, out ++ [⟨d.key, 0, true, x.time⟩]) := by rw [e1]; unfold pastStep entOf; simp only [hm]; rw [if_pos (of_decide_eq_true c3), if_pos (of_decide_eq_true c4)]
          repeat (first | apply Aw_seq | apply Aw_block | apply Aw_skip | apply Aw_exit | refine Aw_condt rfl ?_ | refine Aw_condf rfl ?_ | (refine qr ?_; simp only [go_sem, Nat.reduceEqDiff, reduceIte, Nat.reduceAdd, Nat.reduceMul, Nat.reduceSub, Nat.reduceLT, Nat.reduceLeDiff, Nat.reduceBEq, g1, w1, hx, c3, c4, hap]) | (refine qd (by kernel_rfl) (by kernel_rfl) ?_; simp only [go_sem, Nat.reduceEqDiff, reduceIte, Nat.reduceAdd, Nat.reduceMul, Nat.reduceSub, Nat.reduceLT, Nat.reduceLeDiff, Nat.reduceBEq, g1, w1, hx, c3, c4, hap]) | refine dk (by kernel_rfl) ?_ | (refine qp (k2) (by simp only [go_sem, Nat.reduceEqDiff, reduceIte, Nat.reduceAdd, Nat.reduceMul, Nat.reduceSub, Nat.reduceLT, Nat.reduceLeDiff, Nat.reduceBEq, g1, w1, hx, c3, c4, hap]; first | done | rfl) rfl (by simp only [go_sem, Nat.reduceLT]) rfl rfl ?_; simp only [go_sem, Nat.reduceEqDiff, reduceIte, Nat.reduceAdd, Nat.reduceMul, Nat.reduceSub, Nat.reduceLT, Nat.reduceLeDiff, Nat.reduceBEq, g1, w1, hx, c3, c4, hap]))
          refine ⟨⟨i + 1, hlt⟩, [0, 57], ?_, rwL (by repeat (first | exact trivial | refine ⟨rfl, rfl, ?_⟩)) (by rfl) (by simp only [go_sem, Nat.reduceEqDiff, reduceIte, Nat.reduceAdd, Nat.reduceMul, Nat.reduceSub, Nat.reduceLT, Nat.reduceLeDiff, Nat.reduceBEq, e2, List.map_append, List.map_cons, List.map_nil]; first | done | rfl) (by decide) (by intro m hm; first | omega | (rcases m with _ | _ | _ | _ | _ | _ | m <;> first | exact ⟨by decide, rfl⟩ | omega))⟩
          show ds.length - (i + 1) < ds.length - i; omega
  · have g1 : ¬ (i : Int) < (ds.length : Int) := by omega
    obtain rfl : i = ds.length := by omega
    repeat (first | apply Aw_seq | apply Aw_block | apply Aw_skip | apply Aw_exit | refine Aw_condt rfl ?_ | refine Aw_condf rfl ?_ | (refine qr ?_; simp only [go_sem, Nat.reduceEqDiff, reduceIte, Nat.reduceAdd, Nat.reduceMul, Nat.reduceSub, Nat.reduceLT, Nat.reduceLeDiff, Nat.reduceBEq, g1]) | (refine qd (by kernel_rfl) (by kernel_rfl) ?_; simp only [go_sem, Nat.reduceEqDiff, reduceIte, Nat.reduceAdd, Nat.reduceMul, Nat.reduceSub, Nat.reduceLT, Nat.reduceLeDiff, Nat.reduceBEq, g1]) | refine dk (by kernel_rfl) ?_)
    exact Aw_ret (retL (M := [1]) (.inl rfl) (by simp only [go_sem, Nat.reduceEqDiff, reduceIte, Nat.reduceAdd, Nat.reduceMul, Nat.reduceSub, Nat.reduceLT, Nat.reduceLeDiff, Nat.reduceBEq]; first | done | rfl) rfl rfl (by rfl) (by simp only [go_sem, Nat.reduceEqDiff, reduceIte, Nat.reduceAdd, Nat.reduceMul, Nat.reduceSub, Nat.reduceLT, Nat.reduceLeDiff, Nat.reduceBEq]; first | done | rfl | (and_intros <;> rfl)) (by decide) (by intro m hm; first | omega | (rcases m with _ | _ | _ | _ | _ | _ | m <;> first | exact ⟨by decide, rfl⟩ | omega)))
theorem pastAllS_ac (s : Sto) (ds : List Deed) (hs : SmSt s) (hd : SmD ds) (hl : ds.length ≤ 1099511627776) : AC Try.prog 122 [stT s, deedsT ds] noHp 0 ⟨.t (runT (pastM s ds)), noHp, 0⟩ := AC.settle0 [0] (pastAll_ac s ds hs hd hl) (SetC.row0 rfl rfl) rfl
end Go.Proofs.Ytcbhgglpgphimaa.Ab
namespace Go.Proofs.Ytcbhgglpgphimaa.Ab
set_option linter.deprecated false
set_option linter.unusedVariables false
set_option linter.unusedSimpArgs false
open Go Go.Proofs
set_option maxRecDepth 10000
set_option maxHeartbeats 8000000
set_option linter.unusedSimpArgs false
set_option linter.unusedVariables false
theorem arg_sto {hp : Hp} {N' L : List Nat} {a b c d : Nat} {s : Sto} (ha : hp a = some (lvRow s.levels)) (hb : hp b = some (svRow s.sieves)) (hc : hp c = some (eRow s.top)) (hd : hp d = some (tmRow s.times)) (hL : a ∈ L ∧ b ∈ L ∧ c ∈ L ∧ d ∈ L) :
    Arg hp N' L (.agg [.h c, .h a, .h b, .d (.s (.int .i64 s.keep)), .d (.s (.int .i64 s.time)), .h d]) (stT s) := by
  obtain ⟨h1, h2, h3, h4⟩ := hL
  refine .ln (n := 1) ?_ ?_
  · have e1 := lend_dRow (hp := hp) ha 0
    have e2 := lend_dRow (hp := hp) hb 0
    have e3 := lend_dRow (hp := hp) hc 0
    have e4 := lend_dRow (hp := hp) hd 0
    have e5 : ∀ x, lendC hp (0 + 1) (.d x) = some x := fun _ => rfl
    show (([.h c, .h a, .h b, .d (.s (.int .i64 s.keep)), .d (.s (.int .i64 s.time)), .h d] : List CV).mapM (lendC hp (0 + 1))).map _ = _
    simp only [List.mapM_cons, List.mapM_nil, e1, e2, e3, e4, e5]
    rfl
  · intro z hz m hm
    simp only [TV.cells, List.mem_cons, List.not_mem_nil, or_false] at hz
    rcases hz with rfl | rfl | rfl | rfl | rfl | rfl
    · rw [lendN_dRow hc 0 m hm]; exact h3
    · rw [lendN_dRow ha 0 m hm]; exact h1
    · rw [lendN_dRow hb 0 m hm]; exact h2
    · simp [lendN] at hm
    · simp [lendN] at hm
    · rw [lendN_dRow hd 0 m hm]; exact h4
def stHo (s : Sto) : Obj := ⟨35, 6, false, [[.h 2, .h 0, .h 1, .d (.s (.int .i64 s.keep)), .d (.s (.int .i64 s.time)), .h 3]]⟩
@[go_sem] theorem r_stHo (s : Sto) : stHo s = ⟨35, 6, false, [[.h 2, .h 0, .h 1, .d (.s (.int .i64 s.keep)), .d (.s (.int .i64 s.time)), .h 3]]⟩ := rfl
def ownO (s : Sto) : List (Option Obj) := [some (lvRow s.levels), some (svRow s.sieves), some (eRow s.top), some (tmRow s.times), some (stHo s), some zO]
@[go_sem] theorem r_ownO (s : Sto) : ownO s = [some (lvRow s.levels), some (svRow s.sieves), some (eRow s.top), some (tmRow s.times), some (stHo s), some zO] := rfl
def datO (s : Sto) : List (Option Obj) := [none, none, none, none, some (stO s), some zO]
@[go_sem] theorem r_datO (s : Sto) : datO s = [none, none, none, none, some (stO s), some zO] := rfl
def phO (J i : Nat) (s : Sto) : List (Option Obj) := if J ≤ i then ownO s else datO s
theorem phO_own {J i : Nat} (s : Sto) (h : J ≤ i) : phO J i s = ownO s := if_pos h
theorem phO_dat {J i : Nat} (s : Sto) (h : i < J) : phO J i s = datO s := if_neg (by omega)
theorem phW (s : Sto) : ownO s = [some (lvRow s.levels), some (svRow s.sieves), some (eRow s.top), some (tmRow s.times), some (stHo s), some zO] := rfl
theorem phD (s : Sto) : datO s = [none, none, none, none, some (stO s), some zO] := rfl
/-- The last one for which it does not hold. -/
theorem lastF (F : Nat → Prop) : ∀ n, ∃ J, J ≤ n ∧ (∀ i, J ≤ i → i < n → F i) ∧ (∀ i, i + 1 = J → ¬ F i)
  | 0 => ⟨0, Nat.le_refl _, fun i _ h => absurd h (by omega), fun i h => absurd h (by omega)⟩
  | n + 1 => by
    obtain ⟨J, h1, h2, h3⟩ := lastF F n
    by_cases h : F n
    · refine ⟨J, by omega, fun i hi hn => ?_, h3⟩
      by_cases e : i = n
      · subst e; exact h
      · exact h2 i hi (by omega)
    · refine ⟨n + 1, by omega, fun i hi hn => by omega, fun i hi => ?_⟩
      obtain rfl : i = n := by omega
      exact h
abbrev pdS (ds : List Deed) (i : Nat) : List (Nat × AV) := [(6, .t (iT i)), (5, .t (bT false)), (4, .t (.c (.ph 5 0 0))), (2, .t (.c (.ph 4 0 0))), (1, .t (deedsT ds))]
theorem settle_own {P : Program} {N k : Nat} {x : Code} {Q : Exit → St → Prop} {s : Sto} {ds : List Deed} {i : Nat} (q : Aw P N k x Q (S (pdS ds i) (hpL (datO s)) 6)) : Aw P N k x Q (S (pdS ds i) (hpL (ownO s)) 6) :=
  Aw.setS (l := [(6, .t (iT i)), (5, .t (bT false)), (4, .t (.c (.ph 5 0 0))), (2, .t (.c (.ph 4 0 0))), (1, .t (deedsT ds))]) (l' := [(6, .t (iT i)), (5, .t (bT false)), (4, .t (.c (.ph 5 0 0))), (2, .t (.c (.ph 4 0 0))), (1, .t (deedsT ds))]) (os := [some (lvRow s.levels), some (svRow s.sieves), some (eRow s.top), some (tmRow s.times), some (stHo s), some zO]) (os' := [none, none, none, none, some (stO s), some zO]) [0, 1, 2, 3] ⟨SetA.same rfl, SetA.same rfl, SetA.same rfl, SetA.same rfl, SetA.same rfl, trivial⟩
    ⟨.inr ⟨rfl, rfl, rfl, .cons (.cons (SetC.row0 rfl rfl) (.cons (SetC.row0 rfl rfl) (.cons (SetC.row0 rfl rfl) (.cons (.inl rfl) (.cons (.inl rfl) (.cons (SetC.row0 rfl rfl) .nil)))))) .nil⟩, rfl, .inl rfl, rfl, trivial⟩ (Nat.le_refl _) q
theorem pastDo_ac (s : Sto) (ds : List Deed) (hs : SmSt s) (hv : storeS s = true) (hd : SmD ds) (hl : ds.length ≤ 40) : AC Try.prog 169 [stT s, deedsT ds] noHp 0 ⟨.tup [hT (pastTo s ds ds.length).1, bT true], hpL (hS (pastTo s ds ds.length).1), 4⟩ := by
  refine AC_of Try.func169 rfl Try.ntmps169 Try.results169 (by kernel_rfl) rfl ?_
  simp only [List.zipIdx, List.map, Nat.zero_add, Nat.reduceAdd]
  have k1 := sstoreOk_ac s hs
  rw [hv] at k1
  have k3 := copyV_ac s hs hv
  have g2 : decide ((40 : Int) < (ds.length : Int)) = false := decide_eq_false (by omega)
  have e0 : (pastTo s ds 0).1 = s := rfl
  obtain ⟨J, j1, j2, j3⟩ := lastF (fun i => ∀ d, ds[i]? = some d → doM (pastTo s ds i).1 d = none) ds.length
  repeat (first | apply Aw_seq | apply Aw_block | apply Aw_skip | apply Aw_exit | refine Aw_condt rfl ?_ | refine Aw_condf rfl ?_ | (refine qr ?_; simp only [go_sem, Nat.reduceEqDiff, reduceIte, Nat.reduceAdd, Nat.reduceMul, Nat.reduceSub, Nat.reduceLT, Nat.reduceLeDiff, Nat.reduceBEq, g2]) | (refine qd (by kernel_rfl) (by kernel_rfl) ?_; simp only [go_sem, Nat.reduceEqDiff, reduceIte, Nat.reduceAdd, Nat.reduceMul, Nat.reduceSub, Nat.reduceLT, Nat.reduceLeDiff, Nat.reduceBEq, g2]) | refine dk (by kernel_rfl) ?_ | (refine qp (k1) (by simp only [go_sem, Nat.reduceEqDiff, reduceIte, Nat.reduceAdd, Nat.reduceMul, Nat.reduceSub, Nat.reduceLT, Nat.reduceLeDiff, Nat.reduceBEq, g2]; first | done | rfl) rfl (by simp only [go_sem, Nat.reduceLT]) rfl rfl ?_; simp only [go_sem, Nat.reduceEqDiff, reduceIte, Nat.reduceAdd, Nat.reduceMul, Nat.reduceSub, Nat.reduceLT, Nat.reduceLeDiff, Nat.reduceBEq, g2]) | (refine qx (call_N (L := []) (k3) rfl (.cons (.nm rfl) (.nil)) (.inl rfl) rfl) (by simp only [go_sem, Nat.reduceEqDiff, reduceIte, Nat.reduceAdd, Nat.reduceMul, Nat.reduceSub, Nat.reduceLT, Nat.reduceLeDiff, Nat.reduceBEq, g2]; first | done | rfl) rfl (by simp only [go_sem, Nat.reduceLT]) ?_; simp only [go_sem, Nat.reduceEqDiff, reduceIte, Nat.reduceAdd, Nat.reduceMul, Nat.reduceSub, Nat.reduceLT, Nat.reduceLeDiff, Nat.reduceBEq, g2]))
  refine Aw.rw (rwL (l' := [(6, .t (iT (0 : Nat))), (5, .t (bT false)), (4, .t (.c (.ph 5 0 0))), (2, .t (.c (.ph 4 0 0))), (1, .t (deedsT ds))]) (os := [some (lvRow s.levels), some (svRow s.sieves), some (eRow s.top), some (tmRow s.times), some (stHo s), some zO]) (M := [11, 12, 13, 14, 0, 1]) (n' := 6) (by repeat (first | exact trivial | refine ⟨rfl, rfl, ?_⟩)) (by rfl) (by simp only [go_sem, Nat.reduceEqDiff, reduceIte, Nat.reduceAdd, Nat.reduceMul, Nat.reduceSub, Nat.reduceLT, Nat.reduceLeDiff, Nat.reduceBEq]; first | done | rfl) (by decide) (by intro m hm; first | omega | (rcases m with _ | _ | _ | _ | _ | _ | m <;> first | exact ⟨by decide, rfl⟩ | omega))) ?_
  change Aw _ _ _ _ _ (S (pdS ds 0) (hpL (ownO s)) 6)
  have start : ∀ {P : Program} {N k : Nat} {x : Code} {Q : Exit → St → Prop}, Aw P N k x Q (S (pdS ds 0) (hpL (phO J 0 (pastTo s ds 0).1)) 6) → Aw P N k x Q (S (pdS ds 0) (hpL (ownO s)) 6) := by
    intro P N k x Q h
    by_cases j0 : J ≤ 0
    · rw [phO_own _ j0] at h; exact h
    · rw [phO_dat _ (by omega)] at h; exact settle_own h
  refine start ?_
  refine Aw_loop_rw (ι := { i : Nat // i ≤ ds.length }) (fun q => S (pdS ds q.1) (hpL (phO J q.1 (pastTo s ds q.1).1)) 6) (fun q => ds.length - q.1) ⟨0, Nat.zero_le _⟩ ?_
  rintro ⟨i, hi⟩
  dsimp only
  by_cases hlt : i < ds.length
  · have g1 : (i : Int) < (ds.length : Int) := by omega
    have w1 := wrap_succ hlt (by omega)
    obtain ⟨d, hx⟩ : ∃ e, ds[i]? = some e := ⟨_, List.getElem?_eq_getElem hlt⟩
    have hk := hd.key d (List.mem_of_getElem? hx)
    obtain ⟨p1, p2, p3⟩ := pastTo_st hs hd i hi
    have e1 := pastTo_succ (s := s) hx
    have f1 := j2 i
    have f2 := j3 i
    simp only [hx, Option.some.injEq, forall_eq'] at f1 f2
    obtain ⟨a1, a2⟩ := l13Do_own (pastTo s ds i).1 d p1 hk
    generalize pastTo s ds i = q at p1 p2 p3 e1 f1 f2 a1 a2 ⊢
    obtain ⟨cs, out⟩ := q
    dsimp only at p1 p2 p3 f1 f2 a1 a2 ⊢
    cases hm : doM cs d with
    | none =>
      have e2 : (pastTo s ds (i + 1)).1 = cs := by rw [e1]; unfold pastStep; simp only [hm]
      by_cases hJ : J ≤ i
      · have k2 := (a2 hm).toL0
        have e3 : phO J (i + 1) (pastTo s ds (i + 1)).1 = ownO cs := by rw [e2, phO_own _ (by omega)]
        rw [phO_own _ hJ, phW]
        repeat (first | apply Aw_seq | apply Aw_block | apply Aw_skip | apply Aw_exit | refine Aw_condt rfl ?_ | refine Aw_condf rfl ?_ | (refine qr ?_; simp only [go_sem, Nat.reduceEqDiff, reduceIte, Nat.reduceAdd, Nat.reduceMul, Nat.reduceSub, Nat.reduceLT, Nat.reduceLeDiff, Nat.reduceBEq, g1, w1, hx]) | (refine qd (by kernel_rfl) (by kernel_rfl) ?_; simp only [go_sem, Nat.reduceEqDiff, reduceIte, Nat.reduceAdd, Nat.reduceMul, Nat.reduceSub, Nat.reduceLT, Nat.reduceLeDiff, Nat.reduceBEq, g1, w1, hx]) | refine dk (by kernel_rfl) ?_ | (refine qx (call_N (L := [0, 1, 2, 3]) (k2) rfl (.cons (arg_sto (a := 0) (b := 1) (c := 2) (d := 3) rfl rfl rfl rfl (by simp)) (.cons (.nm rfl) (.nil))) (.inr ⟨rfl, by simp⟩) rfl) (by simp only [go_sem, Nat.reduceEqDiff, reduceIte, Nat.reduceAdd, Nat.reduceMul, Nat.reduceSub, Nat.reduceLT, Nat.reduceLeDiff, Nat.reduceBEq, g1, w1, hx]; first | done | rfl) rfl (by simp only [go_sem, Nat.reduceLT]) ?_; simp only [go_sem, Nat.reduceEqDiff, reduceIte, Nat.reduceAdd, Nat.reduceMul, Nat.reduceSub, Nat.reduceLT, Nat.reduceLeDiff, Nat.reduceBEq, g1, w1, hx]))
        refine ⟨⟨i + 1, hlt⟩, [0, 1, 2, 3, 4, 5], ?_, ?_⟩
        rotate_left
        dsimp only
        rw [e3, phW]
        exact rwL (by repeat (first | exact trivial | refine ⟨rfl, rfl, ?_⟩)) (by rfl) (by simp only [go_sem, Nat.reduceEqDiff, reduceIte, Nat.reduceAdd, Nat.reduceMul, Nat.reduceSub, Nat.reduceLT, Nat.reduceLeDiff, Nat.reduceBEq]; first | done | rfl) (by decide) (by intro m hm; first | omega | (rcases m with _ | _ | _ | _ | _ | _ | m <;> first | exact ⟨by decide, rfl⟩ | omega))
        show ds.length - (i + 1) < ds.length - i; omega
      · have k2 := a2 hm
        have hJ2 : i + 1 < J := by
          rcases Nat.lt_or_ge (i + 1) J with h | h
          · exact h
          · exact absurd hm (f2 (by omega))
        have e3 : phO J (i + 1) (pastTo s ds (i + 1)).1 = datO cs := by rw [e2, phO_dat _ hJ2]
        rw [phO_dat _ (by omega)]
        unfold datO
        repeat (first | apply Aw_seq | apply Aw_block | apply Aw_skip | apply Aw_exit | refine Aw_condt rfl ?_ | refine Aw_condf rfl ?_ | (refine qr ?_; simp only [go_sem, Nat.reduceEqDiff, reduceIte, Nat.reduceAdd, Nat.reduceMul, Nat.reduceSub, Nat.reduceLT, Nat.reduceLeDiff, Nat.reduceBEq, g1, w1, hx]) | (refine qd (by kernel_rfl) (by kernel_rfl) ?_; simp only [go_sem, Nat.reduceEqDiff, reduceIte, Nat.reduceAdd, Nat.reduceMul, Nat.reduceSub, Nat.reduceLT, Nat.reduceLeDiff, Nat.reduceBEq, g1, w1, hx]) | refine dk (by kernel_rfl) ?_ | (refine qp (k2) (by simp only [go_sem, Nat.reduceEqDiff, reduceIte, Nat.reduceAdd, Nat.reduceMul, Nat.reduceSub, Nat.reduceLT, Nat.reduceLeDiff, Nat.reduceBEq, g1, w1, hx]; first | done | rfl) rfl (by simp only [go_sem, Nat.reduceLT]) rfl rfl ?_; simp only [go_sem, Nat.reduceEqDiff, reduceIte, Nat.reduceAdd, Nat.reduceMul, Nat.reduceSub, Nat.reduceLT, Nat.reduceLeDiff, Nat.reduceBEq, g1, w1, hx]))
        refine ⟨⟨i + 1, hlt⟩, [0, 1, 2, 3, 4, 5], ?_, ?_⟩
        rotate_left
        dsimp only
        rw [e3, phD]
        exact rwL (by repeat (first | exact trivial | refine ⟨rfl, rfl, ?_⟩)) (by rfl) (by simp only [go_sem, Nat.reduceEqDiff, reduceIte, Nat.reduceAdd, Nat.reduceMul, Nat.reduceSub, Nat.reduceLT, Nat.reduceLeDiff, Nat.reduceBEq]; first | done | rfl) (by decide) (by intro m hm; first | omega | (rcases m with _ | _ | _ | _ | _ | _ | m <;> first | exact ⟨by decide, rfl⟩ | omega))
        show ds.length - (i + 1) < ds.length - i; omega
    | some x =>
      have e2 : (pastTo s ds (i + 1)).1 = x := by rw [e1]; unfold pastStep; simp only [hm]
      have hJ : i < J := by
        rcases Nat.lt_or_ge i J with h | h
        · exact h
        · have := f1 h hlt; rw [hm] at this; cases this
      rw [phO_dat _ hJ]
      unfold datO
      by_cases hJ2 : i + 1 < J
      · have k2 : AC Try.prog 151 [stT cs, deedT d] noHp 0 ⟨.tup [stT x, bT true], noHp, 0⟩ := by
          have := l13Do_ac cs d p1 hk; rw [hm] at this; exact this
        have e3 : phO J (i + 1) (pastTo s ds (i + 1)).1 = datO x := by rw [e2, phO_dat _ hJ2]
        repeat (first | apply Aw_seq | apply Aw_block | apply Aw_skip | apply Aw_exit | refine Aw_condt rfl ?_ | refine Aw_condf rfl ?_ | (refine qr ?_; simp only [go_sem, Nat.reduceEqDiff, reduceIte, Nat.reduceAdd, Nat.reduceMul, Nat.reduceSub, Nat.reduceLT, Nat.reduceLeDiff, Nat.reduceBEq, g1, w1, hx]) | (refine qd (by kernel_rfl) (by kernel_rfl) ?_; simp only [go_sem, Nat.reduceEqDiff, reduceIte, Nat.reduceAdd, Nat.reduceMul, Nat.reduceSub, Nat.reduceLT, Nat.reduceLeDiff, Nat.reduceBEq, g1, w1, hx]) | refine dk (by kernel_rfl) ?_ | (refine qp (k2) (by simp only [go_sem, Nat.reduceEqDiff, reduceIte, Nat.reduceAdd, Nat.reduceMul, Nat.reduceSub, Nat.reduceLT, Nat.reduceLeDiff, Nat.reduceBEq, g1, w1, hx]; first | done | rfl) rfl (by simp only [go_sem, Nat.reduceLT]) rfl rfl ?_; simp only [go_sem, Nat.reduceEqDiff, reduceIte, Nat.reduceAdd, Nat.reduceMul, Nat.reduceSub, Nat.reduceLT, Nat.reduceLeDiff, Nat.reduceBEq, g1, w1, hx]))
        refine ⟨⟨i + 1, hlt⟩, [0, 1, 2, 3, 4, 5], ?_, ?_⟩
        rotate_left
        dsimp only
        rw [e3, phD]
        exact rwL (by repeat (first | exact trivial | refine ⟨rfl, rfl, ?_⟩)) (by rfl) (by simp only [go_sem, Nat.reduceEqDiff, reduceIte, Nat.reduceAdd, Nat.reduceMul, Nat.reduceSub, Nat.reduceLT, Nat.reduceLeDiff, Nat.reduceBEq]; first | done | rfl) (by decide) (by intro m hm; first | omega | (rcases m with _ | _ | _ | _ | _ | _ | m <;> first | exact ⟨by decide, rfl⟩ | omega))
        show ds.length - (i + 1) < ds.length - i; omega
      · have k2 := a1 x hm
        have e3 : phO J (i + 1) (pastTo s ds (i + 1)).1 = ownO x := by rw [e2, phO_own _ (by omega)]
        repeat (first | apply Aw_seq | apply Aw_block | apply Aw_skip | apply Aw_exit | refine Aw_condt rfl ?_ | refine Aw_condf rfl ?_ | (refine qr ?_; simp only [go_sem, Nat.reduceEqDiff, reduceIte, Nat.reduceAdd, Nat.reduceMul, Nat.reduceSub, Nat.reduceLT, Nat.reduceLeDiff, Nat.reduceBEq, g1, w1, hx]) | (refine qd (by kernel_rfl) (by kernel_rfl) ?_; simp only [go_sem, Nat.reduceEqDiff, reduceIte, Nat.reduceAdd, Nat.reduceMul, Nat.reduceSub, Nat.reduceLT, Nat.reduceLeDiff, Nat.reduceBEq, g1, w1, hx]) | refine dk (by kernel_rfl) ?_ | (refine qx (call_N (L := []) (k2) rfl (.cons (.nm rfl) (.cons (.nm rfl) (.nil))) (.inl rfl) rfl) (by simp only [go_sem, Nat.reduceEqDiff, reduceIte, Nat.reduceAdd, Nat.reduceMul, Nat.reduceSub, Nat.reduceLT, Nat.reduceLeDiff, Nat.reduceBEq, g1, w1, hx]; first | done | rfl) rfl (by simp only [go_sem, Nat.reduceLT]) ?_; simp only [go_sem, Nat.reduceEqDiff, reduceIte, Nat.reduceAdd, Nat.reduceMul, Nat.reduceSub, Nat.reduceLT, Nat.reduceLeDiff, Nat.reduceBEq, g1, w1, hx]))
        refine ⟨⟨i + 1, hlt⟩, [15, 16, 17, 18, 4, 5], ?_, ?_⟩
        rotate_left
        dsimp only
        rw [e3, phW]
        exact rwL (by repeat (first | exact trivial | refine ⟨rfl, rfl, ?_⟩)) (by rfl) (by simp only [go_sem, Nat.reduceEqDiff, reduceIte, Nat.reduceAdd, Nat.reduceMul, Nat.reduceSub, Nat.reduceLT, Nat.reduceLeDiff, Nat.reduceBEq]; first | done | rfl) (by decide) (by intro m hm; first | omega | (rcases m with _ | _ | _ | _ | _ | _ | m <;> first | exact ⟨by decide, rfl⟩ | omega))
        show ds.length - (i + 1) < ds.length - i; omega
  · have g1 : ¬ (i : Int) < (ds.length : Int) := by omega
    obtain rfl : i = ds.length := by omega
    rw [phO_own _ j1]
    unfold ownO
    generalize (pastTo s ds ds.length).1 = x
    repeat (first | apply Aw_seq | apply Aw_block | apply Aw_skip | apply Aw_exit | refine Aw_condt rfl ?_ | refine Aw_condf rfl ?_ | (refine qr ?_; simp only [go_sem, Nat.reduceEqDiff, reduceIte, Nat.reduceAdd, Nat.reduceMul, Nat.reduceSub, Nat.reduceLT, Nat.reduceLeDiff, Nat.reduceBEq, g1]) | (refine qd (by kernel_rfl) (by kernel_rfl) ?_; simp only [go_sem, Nat.reduceEqDiff, reduceIte, Nat.reduceAdd, Nat.reduceMul, Nat.reduceSub, Nat.reduceLT, Nat.reduceLeDiff, Nat.reduceBEq, g1]) | refine dk (by kernel_rfl) ?_)
    exact Aw_ret (retL (M := [0, 1, 2, 3]) (.inl rfl) (by simp only [go_sem, Nat.reduceEqDiff, reduceIte, Nat.reduceAdd, Nat.reduceMul, Nat.reduceSub, Nat.reduceLT, Nat.reduceLeDiff, Nat.reduceBEq]; first | done | rfl) rfl rfl (by rfl) (by simp only [go_sem, Nat.reduceEqDiff, reduceIte, Nat.reduceAdd, Nat.reduceMul, Nat.reduceSub, Nat.reduceLT, Nat.reduceLeDiff, Nat.reduceBEq]; first | done | rfl | (and_intros <;> rfl)) (by decide) (by intro m hm; first | omega | (rcases m with _ | _ | _ | _ | _ | _ | m <;> first | exact ⟨by decide, rfl⟩ | omega)))
end Go.Proofs.Ytcbhgglpgphimaa.Ab
namespace Go.Proofs.Ytcbhgglpgphimaa.Ab
set_option linter.deprecated false
set_option linter.unusedVariables false
set_option linter.unusedSimpArgs false
open Go Go.Proofs
theorem lnB {hp : Hp} {n : Nat} {a : TV} {L : List Nat} (h : (a.cells.all fun z => (lendN hp n z).all L.contains) = true) : ∀ z ∈ a.cells, ∀ m ∈ lendN hp n z, m ∈ L := fun z hz m hm => by
  have := List.all_eq_true.1 (List.all_eq_true.1 h z hz) m hm
  simpa using this
theorem AC.toL {P : Program} {f : FuncId} {args : List TV} {x : AV} (h : AC P f args noHp 0 ⟨x, noHp, 0⟩) : AC P f args noHp 0 ⟨x, hpL [], 0⟩ := by rw [hpL_nil]; exact h
end Go.Proofs.Ytcbhgglpgphimaa.Ab
namespace Go.Proofs.Ytcbhgglpgphimaa.Ab
set_option linter.deprecated false
set_option linter.unusedVariables false
set_option linter.unusedSimpArgs false
open Go Go.Proofs
set_option maxRecDepth 10000
set_option maxHeartbeats 8000000
set_option linter.unusedSimpArgs false
set_option linter.unusedVariables false
def u8D (n : Int) : List D := [.s (.int .u8 n)]
@[go_sem] theorem r_u8D (n : Int) : u8D n = [.s (.int .u8 n)] := rfl
abbrev bytesT (b : List Int) : TV := .c (.d (.rs 1 (b.map u8D)))
def rdO (b : List Int) (p : Nat) : Obj := ⟨136, 2, false, [[.d (.rs 1 (b.map u8D)), .d (.s (.int .i64 p))]]⟩
@[go_sem] theorem r_rdO (b : List Int) (p : Nat) : rdO b p = ⟨136, 2, false, [[.d (.rs 1 (b.map u8D)), .d (.s (.int .i64 p))]]⟩ := rfl
def byteL (b : List Int) : Prop := b.length ≤ 2000 ∧ ∀ c ∈ b, 0 ≤ c ∧ c ≤ 255
theorem l6Open_ac (b : List Int) (hl : b.length ≤ 1099511627776) : AC Try.prog 73 [bytesT b] noHp 0 ⟨.t (.c (.ph 0 0 0)), hpL [some (rdO (b.take 2000) 0)], 1⟩ := by
  refine AC_of Try.func73 rfl Try.ntmps73 Try.results73 (by kernel_rfl) rfl ?_
  simp only [List.zipIdx, List.map, Nat.zero_add, Nat.reduceAdd]
  by_cases h : b.length ≤ 2000
  · have g1 : decide ((2000 : Int) < (b.length : Int)) = false := decide_eq_false (by omega)
    rw [List.take_of_length_le h]
    repeat (first | apply Aw_seq | apply Aw_block | apply Aw_skip | apply Aw_exit | refine Aw_condt rfl ?_ | refine Aw_condf rfl ?_ | (refine qr ?_; simp only [go_sem, Nat.reduceEqDiff, reduceIte, Nat.reduceAdd, Nat.reduceMul, Nat.reduceSub, Nat.reduceLT, Nat.reduceLeDiff, Nat.reduceBEq, g1]) | (refine qd (by kernel_rfl) (by kernel_rfl) ?_; simp only [go_sem, Nat.reduceEqDiff, reduceIte, Nat.reduceAdd, Nat.reduceMul, Nat.reduceSub, Nat.reduceLT, Nat.reduceLeDiff, Nat.reduceBEq, g1]) | refine dk (by kernel_rfl) ?_)
    exact Aw_ret (retL (M := [6]) (.inl rfl) (by simp only [go_sem, Nat.reduceEqDiff, reduceIte, Nat.reduceAdd, Nat.reduceMul, Nat.reduceSub, Nat.reduceLT, Nat.reduceLeDiff, Nat.reduceBEq]; first | done | rfl) rfl rfl (by rfl) (by simp only [go_sem, Nat.reduceEqDiff, reduceIte, Nat.reduceAdd, Nat.reduceMul, Nat.reduceSub, Nat.reduceLT, Nat.reduceLeDiff, Nat.reduceBEq]; first | done | rfl | (and_intros <;> rfl)) (by decide) (by intro m hm; first | omega | (rcases m with _ | _ | _ | _ | _ | _ | m <;> first | exact ⟨by decide, rfl⟩ | omega)))
  · have g1 : decide ((2000 : Int) < (b.length : Int)) = true := decide_eq_true (by omega)
    have g2 : ((2000 : Int) ≤ (b.length : Int)) = True := eq_true (by omega)
    have g3 : ((0 : Int) ≤ 2000) = True := eq_true (by omega)
    have g4 : Int.toNat 2000 = 2000 := rfl
    have g5 : (List.map u8D b).take 2000 = List.map u8D (b.take 2000) := by rw [List.map_take]
    repeat (first | apply Aw_seq | apply Aw_block | apply Aw_skip | apply Aw_exit | refine Aw_condt rfl ?_ | refine Aw_condf rfl ?_ | (refine qr ?_; simp only [go_sem, Nat.reduceEqDiff, reduceIte, Nat.reduceAdd, Nat.reduceMul, Nat.reduceSub, Nat.reduceLT, Nat.reduceLeDiff, Nat.reduceBEq, g1, g2, g3, g4, g5]) | (refine qd (by kernel_rfl) (by kernel_rfl) ?_; simp only [go_sem, Nat.reduceEqDiff, reduceIte, Nat.reduceAdd, Nat.reduceMul, Nat.reduceSub, Nat.reduceLT, Nat.reduceLeDiff, Nat.reduceBEq, g1, g2, g3, g4, g5]) | refine dk (by kernel_rfl) ?_)
    exact Aw_ret (retL (M := [9]) (.inl rfl) (by simp only [go_sem, Nat.reduceEqDiff, reduceIte, Nat.reduceAdd, Nat.reduceMul, Nat.reduceSub, Nat.reduceLT, Nat.reduceLeDiff, Nat.reduceBEq]; first | done | rfl) rfl rfl (by rfl) (by simp only [go_sem, Nat.reduceEqDiff, reduceIte, Nat.reduceAdd, Nat.reduceMul, Nat.reduceSub, Nat.reduceLT, Nat.reduceLeDiff, Nat.reduceBEq]; first | done | rfl | (and_intros <;> rfl)) (by decide) (by intro m hm; first | omega | (rcases m with _ | _ | _ | _ | _ | _ | m <;> first | exact ⟨by decide, rfl⟩ | omega)))
theorem wn {x : Int} {m : Nat} (e : x = (m : Int)) (h : m ≤ 1099511627776) : IntKind.i64.wrap x = (m : Int) := by rw [e]; exact wrap_nat h
theorem xorN (X Y : Nat) (hX : X ≤ 1099511627776) (hY : Y ≤ 1099511627776) : ∃ v : Nat, IntKind.i64.wrap (((BitVec.ofInt IntKind.i64.bits (X : Int) ^^^ BitVec.ofInt IntKind.i64.bits (Y : Int)).toNat : Nat) : Int) = v := by
  have e62 : (2 : Nat) ^ 62 = 4611686018427387904 := by decide
  have e64 : (2 : Nat) ^ 64 = 18446744073709551616 := by decide
  have hx := Nat.xor_lt_two_pow (n := 62) (show X < 2 ^ 62 by omega) (show Y < 2 ^ 62 by omega)
  have hb : ∀ q : Nat, q < 2 ^ 62 → (BitVec.ofInt IntKind.i64.bits (q : Int)).toNat = q := fun q hq => by
    show (BitVec.ofInt 64 (q : Int)).toNat = q
    rw [BitVec.ofInt_natCast, BitVec.toNat_ofNat]; exact Nat.mod_eq_of_lt (by omega)
  refine ⟨X ^^^ Y, ?_⟩
  rw [BitVec.toNat_xor, hb X (by omega), hb Y (by omega)]
  simp only [IntKind.wrap, IntKind.bits, IntKind.signed]
  simp
  omega
theorem byte_at {b : List Int} (hb : byteL b) {i : Nat} (h : i < b.length) : ∃ n : Nat, n ≤ 255 ∧ b[i]? = some (n : Int) := by
  have := hb.2 b[i] (List.getElem_mem h)
  exact ⟨b[i].toNat, by omega, by rw [List.getElem?_eq_getElem h]; congr 1; omega⟩
theorem pick_ac (b : List Int) (p : Nat) (n : Int) (hb : byteL b) (hp : p ≤ 1000000) (hn : n ≤ 1099511627776) : ∃ v : Nat, (1 ≤ n → (v : Int) < n) ∧ (¬ 1 ≤ n → v = 0) ∧ AC Try.prog 76 [.c (.ph 0 0 0), iT n] (hpL [some (rdO b p)]) 1 ⟨.t (iT v), hpL [some (rdO b (p + 1))], 1⟩ := by
  have w1 : IntKind.i64.wrap ((p : Int) + 1) = ((p + 1 : Nat) : Int) := wn (by omega) (by omega)
  have w2 : IntKind.i64.wrap (((p + 1 : Nat) : Int) - 1) = (p : Int) := wn (by omega) (by omega)
  have z0 : ((0 : Nat) : Int) = 0 := rfl
  by_cases c1 : 1 ≤ n
  case neg =>
    refine ⟨0, fun h => absurd h c1, fun _ => rfl, ?_⟩
    have g1 : decide (n < 1) = true := decide_eq_true (by omega)
    refine AC_of Try.func76 rfl Try.ntmps76 Try.results76 (by kernel_rfl) rfl ?_
    simp only [List.zipIdx, List.map, Nat.zero_add, Nat.reduceAdd]
    repeat (first | apply Aw_seq | apply Aw_block | apply Aw_skip | apply Aw_exit | refine Aw_condt rfl ?_ | refine Aw_condf rfl ?_ | (refine qr ?_; simp only [go_sem, Nat.reduceEqDiff, reduceIte, Nat.reduceAdd, Nat.reduceMul, Nat.reduceSub, Nat.reduceLT, Nat.reduceLeDiff, Nat.reduceBEq, w1, g1]) | (refine qd (by kernel_rfl) (by kernel_rfl) ?_; simp only [go_sem, Nat.reduceEqDiff, reduceIte, Nat.reduceAdd, Nat.reduceMul, Nat.reduceSub, Nat.reduceLT, Nat.reduceLeDiff, Nat.reduceBEq, w1, g1]) | refine dk (by kernel_rfl) ?_)
    exact Aw_ret (retL (M := [0]) (.inl rfl) (by simp only [go_sem, Nat.reduceEqDiff, reduceIte, Nat.reduceAdd, Nat.reduceMul, Nat.reduceSub, Nat.reduceLT, Nat.reduceLeDiff, Nat.reduceBEq]; first | done | rfl) rfl rfl (by rfl) (by simp only [go_sem, Nat.reduceEqDiff, reduceIte, Nat.reduceAdd, Nat.reduceMul, Nat.reduceSub, Nat.reduceLT, Nat.reduceLeDiff, Nat.reduceBEq]; first | done | rfl | (and_intros <;> rfl)) (by decide) (by intro m hm; first | omega | (rcases m with _ | _ | _ | _ | _ | _ | m <;> first | exact ⟨by decide, rfl⟩ | omega)))
  have g1 : decide (n < 1) = false := decide_eq_false (by omega)
  have gn : (n = 0) = False := eq_false (by omega)
  by_cases c2 : b.length = 0
  · refine ⟨0, fun _ => by omega, fun h => absurd c1 h, ?_⟩
    have g2 : decide (((b.length : Nat) : Int) = 0) = true := decide_eq_true (by omega)
    refine AC_of Try.func76 rfl Try.ntmps76 Try.results76 (by kernel_rfl) rfl ?_
    simp only [List.zipIdx, List.map, Nat.zero_add, Nat.reduceAdd]
    repeat (first | apply Aw_seq | apply Aw_block | apply Aw_skip | apply Aw_exit | refine Aw_condt rfl ?_ | refine Aw_condf rfl ?_ | (refine qr ?_; simp only [go_sem, Nat.reduceEqDiff, reduceIte, Nat.reduceAdd, Nat.reduceMul, Nat.reduceSub, Nat.reduceLT, Nat.reduceLeDiff, Nat.reduceBEq, w1, g1, g2]) | (refine qd (by kernel_rfl) (by kernel_rfl) ?_; simp only [go_sem, Nat.reduceEqDiff, reduceIte, Nat.reduceAdd, Nat.reduceMul, Nat.reduceSub, Nat.reduceLT, Nat.reduceLeDiff, Nat.reduceBEq, w1, g1, g2]) | refine dk (by kernel_rfl) ?_)
    exact Aw_ret (retL (M := [0]) (.inl rfl) (by simp only [go_sem, Nat.reduceEqDiff, reduceIte, Nat.reduceAdd, Nat.reduceMul, Nat.reduceSub, Nat.reduceLT, Nat.reduceLeDiff, Nat.reduceBEq]; first | done | rfl) rfl rfl (by rfl) (by simp only [go_sem, Nat.reduceEqDiff, reduceIte, Nat.reduceAdd, Nat.reduceMul, Nat.reduceSub, Nat.reduceLT, Nat.reduceLeDiff, Nat.reduceBEq]; first | done | rfl | (and_intros <;> rfl)) (by decide) (by intro m hm; first | omega | (rcases m with _ | _ | _ | _ | _ | _ | m <;> first | exact ⟨by decide, rfl⟩ | omega)))
  have g2 : decide (((b.length : Nat) : Int) = 0) = false := decide_eq_false (by omega)
  have gl : (((b.length : Nat) : Int) = 0) = False := eq_false (by omega)
  have hL := hb.1
  have tm : ∀ x : Nat, ∃ v : Nat, (x : Int).tmod n = v ∧ (v : Int) < n := fun x => by
    have h1 := Int.tmod_nonneg n (show (0 : Int) ≤ (x : Int) by omega)
    have h2 := Int.tmod_lt_of_pos (x : Int) (show (0 : Int) < n by omega)
    exact ⟨((x : Int).tmod n).toNat, by omega, by omega⟩
  by_cases c3 : p < b.length
  · obtain ⟨x, hx1, hx⟩ := byte_at hb c3
    obtain ⟨v, hv, hv2⟩ := tm x
    refine ⟨v, fun _ => hv2, fun h => absurd c1 h, ?_⟩
    have g3 : decide ((p : Int) < ((b.length : Nat) : Int)) = true := decide_eq_true (by omega)
    have wx : IntKind.i64.wrap (x : Int) = x := wrap_nat (by omega)
    refine AC_of Try.func76 rfl Try.ntmps76 Try.results76 (by kernel_rfl) rfl ?_
    simp only [List.zipIdx, List.map, Nat.zero_add, Nat.reduceAdd]
    repeat (first | apply Aw_seq | apply Aw_block | apply Aw_skip | apply Aw_exit | refine Aw_condt rfl ?_ | refine Aw_condf rfl ?_ | (refine qr ?_; simp only [go_sem, Nat.reduceEqDiff, reduceIte, Nat.reduceAdd, Nat.reduceMul, Nat.reduceSub, Nat.reduceLT, Nat.reduceLeDiff, Nat.reduceBEq, w1, w2, g1, g2, g3, hx, wx, gn, hv]) | (refine qd (by kernel_rfl) (by kernel_rfl) ?_; simp only [go_sem, Nat.reduceEqDiff, reduceIte, Nat.reduceAdd, Nat.reduceMul, Nat.reduceSub, Nat.reduceLT, Nat.reduceLeDiff, Nat.reduceBEq, w1, w2, g1, g2, g3, hx, wx, gn, hv]) | refine dk (by kernel_rfl) ?_)
    exact Aw_ret (retL (M := [0]) (.inl rfl) (by simp only [go_sem, Nat.reduceEqDiff, reduceIte, Nat.reduceAdd, Nat.reduceMul, Nat.reduceSub, Nat.reduceLT, Nat.reduceLeDiff, Nat.reduceBEq]; first | done | rfl) rfl rfl (by rfl) (by simp only [go_sem, Nat.reduceEqDiff, reduceIte, Nat.reduceAdd, Nat.reduceMul, Nat.reduceSub, Nat.reduceLT, Nat.reduceLeDiff, Nat.reduceBEq]; first | done | rfl | (and_intros <;> rfl)) (by decide) (by intro m hm; first | omega | (rcases m with _ | _ | _ | _ | _ | _ | m <;> first | exact ⟨by decide, rfl⟩ | omega)))
  · have g3 : decide ((p : Int) < ((b.length : Nat) : Int)) = false := decide_eq_false (by omega)
    have hi1 : p % b.length < b.length := Nat.mod_lt _ (by omega)
    have hi2 : (p * 7 + 3) % b.length < b.length := Nat.mod_lt _ (by omega)
    obtain ⟨x1, b1, hx1⟩ := byte_at hb hi1
    obtain ⟨x2, b2, hx2⟩ := byte_at hb hi2
    have hq : p / b.length ≤ p := Nat.div_le_self _ _
    have t1 : (p : Int).tmod ((b.length : Nat) : Int) = ((p % b.length : Nat) : Int) := rfl
    have e7 : IntKind.i64.wrap ((p : Int) * 7) = ((p * 7 : Nat) : Int) := wn (by omega) (by omega)
    have e73 : IntKind.i64.wrap (((p * 7 : Nat) : Int) + 3) = ((p * 7 + 3 : Nat) : Int) := wn (by omega) (by omega)
    have t2 : ((p * 7 + 3 : Nat) : Int).tmod ((b.length : Nat) : Int) = (((p * 7 + 3) % b.length : Nat) : Int) := rfl
    have t3 : (p : Int).tdiv ((b.length : Nat) : Int) = ((p / b.length : Nat) : Int) := rfl
    obtain ⟨q, hqe⟩ : ∃ q, q = p / b.length := ⟨_, rfl⟩
    rw [← hqe] at t3 hq
    have wq : IntKind.i64.wrap (q : Int) = q := wrap_nat (by omega)
    have wx1 : IntKind.i64.wrap (x1 : Int) = x1 := wrap_nat (by omega)
    have wx2 : IntKind.i64.wrap (x2 : Int) = x2 := wrap_nat (by omega)
    have m1 : IntKind.i64.wrap ((x1 : Int) * 131) = ((x1 * 131 : Nat) : Int) := wn (by omega) (by omega)
    have m2 : IntKind.i64.wrap ((x2 : Int) * 1117) = ((x2 * 1117 : Nat) : Int) := wn (by omega) (by omega)
    have m3 : IntKind.i64.wrap (((x1 * 131 : Nat) : Int) + ((x2 * 1117 : Nat) : Int)) = ((x1 * 131 + x2 * 1117 : Nat) : Int) := wn (by omega) (by omega)
    have m4 : IntKind.i64.wrap ((p : Int) * 29) = ((p * 29 : Nat) : Int) := wn (by omega) (by omega)
    have m5 : IntKind.i64.wrap (((x1 * 131 + x2 * 1117 : Nat) : Int) + ((p * 29 : Nat) : Int)) = ((x1 * 131 + x2 * 1117 + p * 29 : Nat) : Int) := wn (by omega) (by omega)
    have m6 : IntKind.i64.wrap ((q : Int) * 53) = ((q * 53 : Nat) : Int) := wn (by omega) (by omega)
    obtain ⟨X, hX⟩ : ∃ X, X = x1 * 131 + x2 * 1117 + p * 29 + q * 53 := ⟨_, rfl⟩
    have m7 : IntKind.i64.wrap (((x1 * 131 + x2 * 1117 + p * 29 : Nat) : Int) + ((q * 53 : Nat) : Int)) = (X : Int) := wn (by omega) (by omega)
    have t4 : (X : Int).tdiv 64 = ((X / 64 : Nat) : Int) := rfl
    have m8 : IntKind.i64.wrap ((X / 64 : Nat) : Int) = ((X / 64 : Nat) : Int) := wrap_nat (by omega)
    have s0 : ((64 : Int) = 0) = False := eq_false (by decide)
    obtain ⟨u, hu⟩ := xorN X (X / 64) (by omega) (by omega)
    obtain ⟨v, hv, hv2⟩ := tm u
    refine ⟨v, fun _ => hv2, fun h => absurd c1 h, ?_⟩
    refine AC_of Try.func76 rfl Try.ntmps76 Try.results76 (by kernel_rfl) rfl ?_
    simp only [List.zipIdx, List.map, Nat.zero_add, Nat.reduceAdd]
    repeat (first | apply Aw_seq | apply Aw_block | apply Aw_skip | apply Aw_exit | refine Aw_condt rfl ?_ | refine Aw_condf rfl ?_ | (refine qr ?_; simp only [go_sem, Nat.reduceEqDiff, reduceIte, Nat.reduceAdd, Nat.reduceMul, Nat.reduceSub, Nat.reduceLT, Nat.reduceLeDiff, Nat.reduceBEq, w1, w2, g1, g2, gl, g3, t1, hx1, wx1, m1, e7, e73, t2, hx2, wx2, m2, m3, m4, m5, t3, wq, m6, m7, t4, m8, s0, gn]) | (refine qd (by kernel_rfl) (by kernel_rfl) ?_; simp only [go_sem, Nat.reduceEqDiff, reduceIte, Nat.reduceAdd, Nat.reduceMul, Nat.reduceSub, Nat.reduceLT, Nat.reduceLeDiff, Nat.reduceBEq, w1, w2, g1, g2, gl, g3, t1, hx1, wx1, m1, e7, e73, t2, hx2, wx2, m2, m3, m4, m5, t3, wq, m6, m7, t4, m8, s0, gn]) | refine dk (by kernel_rfl) ?_)
    generalize hg : IntKind.i64.wrap ((BitVec.toNat _ : Nat) : Int) = w
    obtain rfl : w = (u : Int) := hg.symm.trans hu
    rw [hv]
    exact Aw_ret (retL (M := [0]) (.inl rfl) (by simp only [go_sem, Nat.reduceEqDiff, reduceIte, Nat.reduceAdd, Nat.reduceMul, Nat.reduceSub, Nat.reduceLT, Nat.reduceLeDiff, Nat.reduceBEq]; first | done | rfl) rfl rfl (by rfl) (by simp only [go_sem, Nat.reduceEqDiff, reduceIte, Nat.reduceAdd, Nat.reduceMul, Nat.reduceSub, Nat.reduceLT, Nat.reduceLeDiff, Nat.reduceBEq]; first | done | rfl | (and_intros <;> rfl)) (by decide) (by intro m hm; first | omega | (rcases m with _ | _ | _ | _ | _ | _ | m <;> first | exact ⟨by decide, rfl⟩ | omega)))
end Go.Proofs.Ytcbhgglpgphimaa.Ab
namespace Go.Proofs.Ytcbhgglpgphimaa.Ab
set_option linter.deprecated false
set_option linter.unusedVariables false
set_option linter.unusedSimpArgs false
open Go Go.Proofs
set_option maxRecDepth 10000
set_option maxHeartbeats 8000000
set_option linter.unusedSimpArgs false
set_option linter.unusedVariables false
def putL (k : ByteArray) : List ByteArray → Bool → List ByteArray → Option (List ByteArray)
  | [], done, out => some (if done = true then out else out ++ [k])
  | x :: r, done, out => if x = k then none else putL k r (done || !klt x k) ((if (!done && !klt x k) = true then out ++ [k] else out) ++ [x])
def putK (ks : List ByteArray) (k : ByteArray) : List ByteArray := (putL k ks false []).getD ks
theorem putL_mem {k : ByteArray} : ∀ {xs : List ByteArray} {d : Bool} {out o : List ByteArray}, putL k xs d out = some o → (∀ y ∈ o, y ∈ out ∨ y ∈ xs ∨ y = k) ∧ o.length ≤ out.length + xs.length + (if d = true then 0 else 1)
  | [], d, out, o, h => by
    simp only [putL, Option.some.injEq] at h
    subst h
    cases d
    · exact ⟨fun y hy => by simp at hy; rcases hy with h | h; exact .inl h; exact .inr (.inr h), by simp⟩
    · exact ⟨fun y hy => .inl (by simpa using hy), by simp⟩
  | x :: r, d, out, o, h => by
    simp only [putL] at h
    split at h
    · cases h
    · obtain ⟨h1, h2⟩ := putL_mem h
      constructor
      · intro y hy
        rcases h1 y hy with h | h | h
        · rcases List.mem_append.1 h with h | h
          · split at h
            · rcases List.mem_append.1 h with h | h
              · exact .inl h
              · exact .inr (.inr (by simpa using h))
            · exact .inl h
          · exact .inr (.inl (by simp at h; simp [h]))
        · exact .inr (.inl (by simp [h]))
        · exact .inr (.inr h)
      · refine Nat.le_trans h2 ?_
        cases d <;> cases klt x k <;> simp <;> omega
@[go_sem] theorem d_ft2 (e k : Nat) (a : List (List D)) (x y : D) : (⟨e, k, true, List.map (fun x => List.map CV.d x) a ++ [[.d x], [.d y]]⟩ : Obj) = dRow e k (a ++ [[x], [y]]) := by simp [dRow]
theorem lenA {α : Type} {out : List α} {i : Nat} {k x : α} (h : out.length ≤ i + (if false = true then 1 else 0)) : (out ++ [k] ++ [x]).length ≤ i + 1 + (if true = true then 1 else 0) := by simp at h ⊢; omega
theorem lenB {α : Type} {out : List α} {i : Nat} {b : Bool} {x : α} (h : out.length ≤ i + (if b = true then 1 else 0)) : (out ++ [x]).length ≤ i + 1 + (if b = true then 1 else 0) := by cases b <;> simp at h ⊢ <;> omega
theorem lenC {α : Type} {out : List α} {i n : Nat} {b : Bool} (h : out.length ≤ i + (if b = true then 1 else 0)) (hi : i ≤ n) (hn : n ≤ 4000000) : (out.length + 1) * 16 ≤ 140737488355328 ∧ (out.length + 1 + 1) * 16 ≤ 140737488355328 := by cases b <;> simp at h <;> omega
structure PuI (ks : List ByteArray) (k : ByteArray) where
  i : Nat
  d : Bool
  out : List ByteArray
  hi : i ≤ ks.length
  hl : out.length ≤ i + (if d = true then 1 else 0)
  h : putL k (ks.drop i) d out = putL k ks false []
theorem l2Put_no (ks : List ByteArray) (k : ByteArray) (hl : ks.length ≤ 4000000) (h0 : putL k ks false [] = none) : AC Try.prog 79 [strsT ks, sT k] noHp 0 ⟨.t (strsT ks), noHp, 0⟩ := by
  refine AC_of Try.func79 rfl Try.ntmps79 Try.results79 (by kernel_rfl) rfl ?_
  simp only [List.zipIdx, List.map, Nat.zero_add, Nat.reduceAdd]
  repeat (first | apply Aw_seq | apply Aw_block | apply Aw_skip | apply Aw_exit | refine Aw_condt rfl ?_ | refine Aw_condf rfl ?_ | (refine qr ?_; simp only [go_sem, Nat.reduceEqDiff, reduceIte, Nat.reduceAdd, Nat.reduceMul, Nat.reduceSub, Nat.reduceLT, Nat.reduceLeDiff, Nat.reduceBEq]) | (refine qd (by kernel_rfl) (by kernel_rfl) ?_; simp only [go_sem, Nat.reduceEqDiff, reduceIte, Nat.reduceAdd, Nat.reduceMul, Nat.reduceSub, Nat.reduceLT, Nat.reduceLeDiff, Nat.reduceBEq]) | refine dk (by kernel_rfl) ?_)
  refine Aw.rw (rwL (l' := [(7, .t (iT (0 : Nat))), (6, .t (bT false)), (5, .t (.c (.h 0))), (1, .t (sT k)), (0, .t (strsT ks))]) (os := [some (kRow [])]) (M := [1]) (n' := 1) (by repeat (first | exact trivial | refine ⟨rfl, rfl, ?_⟩)) (by rfl) (by simp only [go_sem, Nat.reduceEqDiff, reduceIte, Nat.reduceAdd, Nat.reduceMul, Nat.reduceSub, Nat.reduceLT, Nat.reduceLeDiff, Nat.reduceBEq, List.map_nil]; first | done | rfl) (by decide) (by intro m hm; first | omega | (rcases m with _ | _ | _ | _ | _ | _ | m <;> first | exact ⟨by decide, rfl⟩ | omega))) ?_
  refine Aw_loop_rw (ι := PuI ks k) (fun q => S [(7, .t (iT (q.i : Nat))), (6, .t (bT q.d)), (5, .t (.c (.h 0))), (1, .t (sT k)), (0, .t (strsT ks))] (hpL [some (kRow q.out)]) 1) (fun q => ks.length - q.i) ⟨0, false, [], Nat.zero_le _, by simp, rfl⟩ ?_
  rintro ⟨i, d, out, hi, hlo, h⟩
  dsimp only
  by_cases hlt : i < ks.length
  · have g1 : (i : Int) < (ks.length : Int) := by omega
    have w1 := wrap_succ hlt (by omega)
    obtain ⟨x, hx⟩ : ∃ e, ks[i]? = some e := ⟨_, List.getElem?_eq_getElem hlt⟩
    have hd : ks.drop i = x :: ks.drop (i + 1) := by rw [List.drop_eq_getElem_cons hlt]; congr 1; rw [List.getElem?_eq_getElem hlt] at hx; exact Option.some.inj hx
    obtain ⟨q1, q2⟩ := lenC hlo hi hl
    rw [hd] at h
    cases c1 : decide (x = k)
    · have hne := of_decide_eq_false c1
      simp only [putL, if_neg hne] at h
      cases d
      · cases c2 : klt x k
        · have h' : putL k (ks.drop (i + 1)) true (out ++ [k] ++ [x]) = putL k ks false [] := by rw [← h, c2]; rfl
          repeat (first | apply Aw_seq | apply Aw_block | apply Aw_skip | apply Aw_exit | refine Aw_condt rfl ?_ | refine Aw_condf rfl ?_ | (refine qr ?_; simp only [go_sem, Nat.reduceEqDiff, reduceIte, Nat.reduceAdd, Nat.reduceMul, Nat.reduceSub, Nat.reduceLT, Nat.reduceLeDiff, Nat.reduceBEq, g1, w1, hx, c1, c2, q1, q2]) | (refine qd (by kernel_rfl) (by kernel_rfl) ?_; simp only [go_sem, Nat.reduceEqDiff, reduceIte, Nat.reduceAdd, Nat.reduceMul, Nat.reduceSub, Nat.reduceLT, Nat.reduceLeDiff, Nat.reduceBEq, g1, w1, hx, c1, c2, q1, q2]) | refine dk (by kernel_rfl) ?_)
          refine ⟨⟨i + 1, true, out ++ [k] ++ [x], hlt, lenA hlo, h'⟩, [33], ?_, rwL (by repeat (first | exact trivial | refine ⟨rfl, rfl, ?_⟩)) (by rfl) (by simp only [go_sem, Nat.reduceEqDiff, reduceIte, Nat.reduceAdd, Nat.reduceMul, Nat.reduceSub, Nat.reduceLT, Nat.reduceLeDiff, Nat.reduceBEq, List.map_append, List.map_cons, List.map_nil, List.append_assoc]; first | done | rfl) (by decide) (by intro m hm; first | omega | (rcases m with _ | _ | _ | _ | _ | _ | m <;> first | exact ⟨by decide, rfl⟩ | omega))⟩
          show ks.length - (i + 1) < ks.length - i; omega
        · have h' : putL k (ks.drop (i + 1)) false (out ++ [x]) = putL k ks false [] := by rw [← h, c2]; rfl
          repeat (first | apply Aw_seq | apply Aw_block | apply Aw_skip | apply Aw_exit | refine Aw_condt rfl ?_ | refine Aw_condf rfl ?_ | (refine qr ?_; simp only [go_sem, Nat.reduceEqDiff, reduceIte, Nat.reduceAdd, Nat.reduceMul, Nat.reduceSub, Nat.reduceLT, Nat.reduceLeDiff, Nat.reduceBEq, g1, w1, hx, c1, c2, q1]) | (refine qd (by kernel_rfl) (by kernel_rfl) ?_; simp only [go_sem, Nat.reduceEqDiff, reduceIte, Nat.reduceAdd, Nat.reduceMul, Nat.reduceSub, Nat.reduceLT, Nat.reduceLeDiff, Nat.reduceBEq, g1, w1, hx, c1, c2, q1]) | refine dk (by kernel_rfl) ?_)
          refine ⟨⟨i + 1, false, out ++ [x], hlt, lenB hlo, h'⟩, [27], ?_, rwL (by repeat (first | exact trivial | refine ⟨rfl, rfl, ?_⟩)) (by rfl) (by simp only [go_sem, Nat.reduceEqDiff, reduceIte, Nat.reduceAdd, Nat.reduceMul, Nat.reduceSub, Nat.reduceLT, Nat.reduceLeDiff, Nat.reduceBEq, List.map_append, List.map_cons, List.map_nil]; first | done | rfl) (by decide) (by intro m hm; first | omega | (rcases m with _ | _ | _ | _ | _ | _ | m <;> first | exact ⟨by decide, rfl⟩ | omega))⟩
          show ks.length - (i + 1) < ks.length - i; omega
      · have h' : putL k (ks.drop (i + 1)) true (out ++ [x]) = putL k ks false [] := by rw [← h]; cases klt x k <;> rfl
        repeat (first | apply Aw_seq | apply Aw_block | apply Aw_skip | apply Aw_exit | refine Aw_condt rfl ?_ | refine Aw_condf rfl ?_ | (refine qr ?_; simp only [go_sem, Nat.reduceEqDiff, reduceIte, Nat.reduceAdd, Nat.reduceMul, Nat.reduceSub, Nat.reduceLT, Nat.reduceLeDiff, Nat.reduceBEq, g1, w1, hx, c1, q1]) | (refine qd (by kernel_rfl) (by kernel_rfl) ?_; simp only [go_sem, Nat.reduceEqDiff, reduceIte, Nat.reduceAdd, Nat.reduceMul, Nat.reduceSub, Nat.reduceLT, Nat.reduceLeDiff, Nat.reduceBEq, g1, w1, hx, c1, q1]) | refine dk (by kernel_rfl) ?_)
        refine ⟨⟨i + 1, true, out ++ [x], hlt, lenB hlo, h'⟩, [21], ?_, rwL (by repeat (first | exact trivial | refine ⟨rfl, rfl, ?_⟩)) (by rfl) (by simp only [go_sem, Nat.reduceEqDiff, reduceIte, Nat.reduceAdd, Nat.reduceMul, Nat.reduceSub, Nat.reduceLT, Nat.reduceLeDiff, Nat.reduceBEq, List.map_append, List.map_cons, List.map_nil]; first | done | rfl) (by decide) (by intro m hm; first | omega | (rcases m with _ | _ | _ | _ | _ | _ | m <;> first | exact ⟨by decide, rfl⟩ | omega))⟩
        show ks.length - (i + 1) < ks.length - i; omega
    · repeat (first | apply Aw_seq | apply Aw_block | apply Aw_skip | apply Aw_exit | refine Aw_condt rfl ?_ | refine Aw_condf rfl ?_ | (refine qr ?_; simp only [go_sem, Nat.reduceEqDiff, reduceIte, Nat.reduceAdd, Nat.reduceMul, Nat.reduceSub, Nat.reduceLT, Nat.reduceLeDiff, Nat.reduceBEq, g1, hx, c1]) | (refine qd (by kernel_rfl) (by kernel_rfl) ?_; simp only [go_sem, Nat.reduceEqDiff, reduceIte, Nat.reduceAdd, Nat.reduceMul, Nat.reduceSub, Nat.reduceLT, Nat.reduceLeDiff, Nat.reduceBEq, g1, hx, c1]) | refine dk (by kernel_rfl) ?_)
      exact Aw_ret (ret0 (.inl rfl) (by simp only [go_sem, Nat.reduceEqDiff, reduceIte, Nat.reduceAdd, Nat.reduceMul, Nat.reduceSub, Nat.reduceLT, Nat.reduceLeDiff, Nat.reduceBEq]; rfl) (by rfl) rfl)
  · have g1 : ¬ (i : Int) < (ks.length : Int) := by omega
    rw [List.drop_eq_nil_of_le (by omega), h0] at h
    simp [putL] at h
theorem l2Put_ok (ks o : List ByteArray) (k : ByteArray) (hl : ks.length ≤ 4000000) (h0 : putL k ks false [] = some o) : AC Try.prog 79 [strsT ks, sT k] noHp 0 ⟨.t (.c (.h 0)), hpL [some (kRow o)], 1⟩ := by
  refine AC_of Try.func79 rfl Try.ntmps79 Try.results79 (by kernel_rfl) rfl ?_
  simp only [List.zipIdx, List.map, Nat.zero_add, Nat.reduceAdd]
  repeat (first | apply Aw_seq | apply Aw_block | apply Aw_skip | apply Aw_exit | refine Aw_condt rfl ?_ | refine Aw_condf rfl ?_ | (refine qr ?_; simp only [go_sem, Nat.reduceEqDiff, reduceIte, Nat.reduceAdd, Nat.reduceMul, Nat.reduceSub, Nat.reduceLT, Nat.reduceLeDiff, Nat.reduceBEq]) | (refine qd (by kernel_rfl) (by kernel_rfl) ?_; simp only [go_sem, Nat.reduceEqDiff, reduceIte, Nat.reduceAdd, Nat.reduceMul, Nat.reduceSub, Nat.reduceLT, Nat.reduceLeDiff, Nat.reduceBEq]) | refine dk (by kernel_rfl) ?_)
  refine Aw.rw (rwL (l' := [(7, .t (iT (0 : Nat))), (6, .t (bT false)), (5, .t (.c (.h 0))), (1, .t (sT k)), (0, .t (strsT ks))]) (os := [some (kRow [])]) (M := [1]) (n' := 1) (by repeat (first | exact trivial | refine ⟨rfl, rfl, ?_⟩)) (by rfl) (by simp only [go_sem, Nat.reduceEqDiff, reduceIte, Nat.reduceAdd, Nat.reduceMul, Nat.reduceSub, Nat.reduceLT, Nat.reduceLeDiff, Nat.reduceBEq, List.map_nil]; first | done | rfl) (by decide) (by intro m hm; first | omega | (rcases m with _ | _ | _ | _ | _ | _ | m <;> first | exact ⟨by decide, rfl⟩ | omega))) ?_
  refine Aw_loop_rw (ι := PuI ks k) (fun q => S [(7, .t (iT (q.i : Nat))), (6, .t (bT q.d)), (5, .t (.c (.h 0))), (1, .t (sT k)), (0, .t (strsT ks))] (hpL [some (kRow q.out)]) 1) (fun q => ks.length - q.i) ⟨0, false, [], Nat.zero_le _, by simp, rfl⟩ ?_
  rintro ⟨i, d, out, hi, hlo, h⟩
  dsimp only
  by_cases hlt : i < ks.length
  · have g1 : (i : Int) < (ks.length : Int) := by omega
    have w1 := wrap_succ hlt (by omega)
    obtain ⟨x, hx⟩ : ∃ e, ks[i]? = some e := ⟨_, List.getElem?_eq_getElem hlt⟩
    have hd : ks.drop i = x :: ks.drop (i + 1) := by rw [List.drop_eq_getElem_cons hlt]; congr 1; rw [List.getElem?_eq_getElem hlt] at hx; exact Option.some.inj hx
    obtain ⟨q1, q2⟩ := lenC hlo hi hl
    rw [hd] at h
    cases c1 : decide (x = k)
    · have hne := of_decide_eq_false c1
      simp only [putL, if_neg hne] at h
      cases d
      · cases c2 : klt x k
        · have h' : putL k (ks.drop (i + 1)) true (out ++ [k] ++ [x]) = putL k ks false [] := by rw [← h, c2]; rfl
          repeat (first | apply Aw_seq | apply Aw_block | apply Aw_skip | apply Aw_exit | refine Aw_condt rfl ?_ | refine Aw_condf rfl ?_ | (refine qr ?_; simp only [go_sem, Nat.reduceEqDiff, reduceIte, Nat.reduceAdd, Nat.reduceMul, Nat.reduceSub, Nat.reduceLT, Nat.reduceLeDiff, Nat.reduceBEq, g1, w1, hx, c1, c2, q1, q2]) | (refine qd (by kernel_rfl) (by kernel_rfl) ?_; simp only [go_sem, Nat.reduceEqDiff, reduceIte, Nat.reduceAdd, Nat.reduceMul, Nat.reduceSub, Nat.reduceLT, Nat.reduceLeDiff, Nat.reduceBEq, g1, w1, hx, c1, c2, q1, q2]) | refine dk (by kernel_rfl) ?_)
          refine ⟨⟨i + 1, true, out ++ [k] ++ [x], hlt, lenA hlo, h'⟩, [33], ?_, rwL (by repeat (first | exact trivial | refine ⟨rfl, rfl, ?_⟩)) (by rfl) (by simp only [go_sem, Nat.reduceEqDiff, reduceIte, Nat.reduceAdd, Nat.reduceMul, Nat.reduceSub, Nat.reduceLT, Nat.reduceLeDiff, Nat.reduceBEq, List.map_append, List.map_cons, List.map_nil, List.append_assoc]; first | done | rfl) (by decide) (by intro m hm; first | omega | (rcases m with _ | _ | _ | _ | _ | _ | m <;> first | exact ⟨by decide, rfl⟩ | omega))⟩
          show ks.length - (i + 1) < ks.length - i; omega
        · have h' : putL k (ks.drop (i + 1)) false (out ++ [x]) = putL k ks false [] := by rw [← h, c2]; rfl
          repeat (first | apply Aw_seq | apply Aw_block | apply Aw_skip | apply Aw_exit | refine Aw_condt rfl ?_ | refine Aw_condf rfl ?_ | (refine qr ?_; simp only [go_sem, Nat.reduceEqDiff, reduceIte, Nat.reduceAdd, Nat.reduceMul, Nat.reduceSub, Nat.reduceLT, Nat.reduceLeDiff, Nat.reduceBEq, g1, w1, hx, c1, c2, q1]) | (refine qd (by kernel_rfl) (by kernel_rfl) ?_; simp only [go_sem, Nat.reduceEqDiff, reduceIte, Nat.reduceAdd, Nat.reduceMul, Nat.reduceSub, Nat.reduceLT, Nat.reduceLeDiff, Nat.reduceBEq, g1, w1, hx, c1, c2, q1]) | refine dk (by kernel_rfl) ?_)
          refine ⟨⟨i + 1, false, out ++ [x], hlt, lenB hlo, h'⟩, [27], ?_, rwL (by repeat (first | exact trivial | refine ⟨rfl, rfl, ?_⟩)) (by rfl) (by simp only [go_sem, Nat.reduceEqDiff, reduceIte, Nat.reduceAdd, Nat.reduceMul, Nat.reduceSub, Nat.reduceLT, Nat.reduceLeDiff, Nat.reduceBEq, List.map_append, List.map_cons, List.map_nil]; first | done | rfl) (by decide) (by intro m hm; first | omega | (rcases m with _ | _ | _ | _ | _ | _ | m <;> first | exact ⟨by decide, rfl⟩ | omega))⟩
          show ks.length - (i + 1) < ks.length - i; omega
      · have h' : putL k (ks.drop (i + 1)) true (out ++ [x]) = putL k ks false [] := by rw [← h]; cases klt x k <;> rfl
        repeat (first | apply Aw_seq | apply Aw_block | apply Aw_skip | apply Aw_exit | refine Aw_condt rfl ?_ | refine Aw_condf rfl ?_ | (refine qr ?_; simp only [go_sem, Nat.reduceEqDiff, reduceIte, Nat.reduceAdd, Nat.reduceMul, Nat.reduceSub, Nat.reduceLT, Nat.reduceLeDiff, Nat.reduceBEq, g1, w1, hx, c1, q1]) | (refine qd (by kernel_rfl) (by kernel_rfl) ?_; simp only [go_sem, Nat.reduceEqDiff, reduceIte, Nat.reduceAdd, Nat.reduceMul, Nat.reduceSub, Nat.reduceLT, Nat.reduceLeDiff, Nat.reduceBEq, g1, w1, hx, c1, q1]) | refine dk (by kernel_rfl) ?_)
        refine ⟨⟨i + 1, true, out ++ [x], hlt, lenB hlo, h'⟩, [21], ?_, rwL (by repeat (first | exact trivial | refine ⟨rfl, rfl, ?_⟩)) (by rfl) (by simp only [go_sem, Nat.reduceEqDiff, reduceIte, Nat.reduceAdd, Nat.reduceMul, Nat.reduceSub, Nat.reduceLT, Nat.reduceLeDiff, Nat.reduceBEq, List.map_append, List.map_cons, List.map_nil]; first | done | rfl) (by decide) (by intro m hm; first | omega | (rcases m with _ | _ | _ | _ | _ | _ | m <;> first | exact ⟨by decide, rfl⟩ | omega))⟩
        show ks.length - (i + 1) < ks.length - i; omega
    · rw [h0] at h
      simp [putL, of_decide_eq_true c1] at h
  · have g1 : ¬ (i : Int) < (ks.length : Int) := by omega
    obtain ⟨q1, q2⟩ := lenC hlo hi hl
    rw [List.drop_eq_nil_of_le (by omega), h0] at h
    cases d
    · have ho : o = out ++ [k] := by simpa [putL] using h.symm
      subst ho
      repeat (first | apply Aw_seq | apply Aw_block | apply Aw_skip | apply Aw_exit | refine Aw_condt rfl ?_ | refine Aw_condf rfl ?_ | (refine qr ?_; simp only [go_sem, Nat.reduceEqDiff, reduceIte, Nat.reduceAdd, Nat.reduceMul, Nat.reduceSub, Nat.reduceLT, Nat.reduceLeDiff, Nat.reduceBEq, g1, q1]) | (refine qd (by kernel_rfl) (by kernel_rfl) ?_; simp only [go_sem, Nat.reduceEqDiff, reduceIte, Nat.reduceAdd, Nat.reduceMul, Nat.reduceSub, Nat.reduceLT, Nat.reduceLeDiff, Nat.reduceBEq, g1, q1]) | refine dk (by kernel_rfl) ?_)
      exact Aw_ret (retL (M := [10]) (.inl rfl) (by simp only [go_sem, Nat.reduceEqDiff, reduceIte, Nat.reduceAdd, Nat.reduceMul, Nat.reduceSub, Nat.reduceLT, Nat.reduceLeDiff, Nat.reduceBEq]; first | done | rfl) rfl rfl (by rfl) (by simp only [go_sem, Nat.reduceEqDiff, reduceIte, Nat.reduceAdd, Nat.reduceMul, Nat.reduceSub, Nat.reduceLT, Nat.reduceLeDiff, Nat.reduceBEq, List.map_append, List.map_cons, List.map_nil]; first | done | rfl | (and_intros <;> rfl)) (by decide) (by intro m hm; first | omega | (rcases m with _ | _ | _ | _ | _ | _ | m <;> first | exact ⟨by decide, rfl⟩ | omega)))
    · have ho : o = out := by simpa [putL] using h.symm
      subst ho
      repeat (first | apply Aw_seq | apply Aw_block | apply Aw_skip | apply Aw_exit | refine Aw_condt rfl ?_ | refine Aw_condf rfl ?_ | (refine qr ?_; simp only [go_sem, Nat.reduceEqDiff, reduceIte, Nat.reduceAdd, Nat.reduceMul, Nat.reduceSub, Nat.reduceLT, Nat.reduceLeDiff, Nat.reduceBEq, g1]) | (refine qd (by kernel_rfl) (by kernel_rfl) ?_; simp only [go_sem, Nat.reduceEqDiff, reduceIte, Nat.reduceAdd, Nat.reduceMul, Nat.reduceSub, Nat.reduceLT, Nat.reduceLeDiff, Nat.reduceBEq, g1]) | refine dk (by kernel_rfl) ?_)
      exact Aw_ret (retL (M := [0]) (.inl rfl) (by simp only [go_sem, Nat.reduceEqDiff, reduceIte, Nat.reduceAdd, Nat.reduceMul, Nat.reduceSub, Nat.reduceLT, Nat.reduceLeDiff, Nat.reduceBEq]; first | done | rfl) rfl rfl (by rfl) (by simp only [go_sem, Nat.reduceEqDiff, reduceIte, Nat.reduceAdd, Nat.reduceMul, Nat.reduceSub, Nat.reduceLT, Nat.reduceLeDiff, Nat.reduceBEq]; first | done | rfl | (and_intros <;> rfl)) (by decide) (by intro m hm; first | omega | (rcases m with _ | _ | _ | _ | _ | _ | m <;> first | exact ⟨by decide, rfl⟩ | omega)))
theorem l2Put_ac (ks : List ByteArray) (k : ByteArray) (hl : ks.length ≤ 4000000) : AC Try.prog 79 [strsT ks, sT k] noHp 0 ⟨.t (strsT (putK ks k)), noHp, 0⟩ := by
  unfold putK
  cases h : putL k ks false [] with
  | none => exact l2Put_no ks k hl h
  | some o => exact AC.settle0 [0] (l2Put_ok ks o k hl h) (SetC.row0 rfl rfl) rfl
theorem putK_mem {ks : List ByteArray} {k : ByteArray} : (∀ y ∈ putK ks k, y ∈ ks ∨ y = k) ∧ (putK ks k).length ≤ ks.length + 1 := by
  unfold putK
  cases h : putL k ks false [] with
  | none => exact ⟨fun y hy => .inl hy, by simp⟩
  | some o =>
    obtain ⟨h1, h2⟩ := putL_mem h
    exact ⟨fun y hy => by rcases h1 y hy with h | h | h; simp at h; exact .inl h; exact .inr h, by simpa using h2⟩
end Go.Proofs.Ytcbhgglpgphimaa.Ab

namespace Go.Proofs.Ytcbhgglpgphimaa.Ab
set_option linter.deprecated false
set_option linter.unusedVariables false
set_option linter.unusedSimpArgs false
open Go Go.Proofs
set_option maxRecDepth 10000
set_option maxHeartbeats 8000000
set_option linter.unusedSimpArgs false
set_option linter.unusedVariables false
open Classical in
noncomputable def pickV (b : List Int) (p : Nat) (n : Int) : Nat := if h : byteL b ∧ p ≤ 1000000 ∧ n ≤ 1099511627776 then Classical.choose (pick_ac b p n h.1 h.2.1 h.2.2) else 0
theorem pickV_ac {b : List Int} {p : Nat} {n : Int} (hb : byteL b) (hp : p ≤ 1000000) (hn : n ≤ 1099511627776) : AC Try.prog 76 [.c (.ph 0 0 0), iT n] (hpL [some (rdO b p)]) 1 ⟨.t (iT (pickV b p n)), hpL [some (rdO b (p + 1))], 1⟩ := by
  unfold pickV
  rw [dif_pos ⟨hb, hp, hn⟩]
  exact (Classical.choose_spec (pick_ac b p n hb hp hn)).2.2
theorem pickV_lt {b : List Int} {p : Nat} {n : Int} (hb : byteL b) (hp : p ≤ 1000000) (hn : n ≤ 1099511627776) (h1 : 1 ≤ n) : (pickV b p n : Int) < n := by
  unfold pickV
  rw [dif_pos ⟨hb, hp, hn⟩]
  exact (Classical.choose_spec (pick_ac b p n hb hp hn)).1 h1
noncomputable def ofV (b : List Int) (p : Nat) (l : List ByteArray) : ByteArray := l.getD (pickV b p (l.length : Int)) zs
theorem ofV_at {b : List Int} {p : Nat} {l : List ByteArray} (hb : byteL b) (hp : p ≤ 1000000) (h0 : 0 < l.length) (h1 : l.length ≤ 1000) : l[pickV b p (l.length : Int)]? = some (ofV b p l) := by
  have := pickV_lt (n := (l.length : Int)) hb hp (by omega) (by omega)
  unfold ofV
  rw [List.getD_eq_getElem?_getD, List.getElem?_eq_getElem (by omega)]; rfl
theorem of_ac {b : List Int} {p : Nat} {l : List ByteArray} (hb : byteL b) (hp : p ≤ 1000000) (h0 : 0 < l.length) (h1 : l.length ≤ 1000) : AC Try.prog 125 [.c (.ph 0 0 0), .c (.h 1)] (hpL [some (rdO b p), some (kRow l)]) 2 ⟨.t (sT (ofV b p l)), hpL [some (rdO b (p + 1)), none], 2⟩ := by
  refine AC_of Try.func125 rfl Try.ntmps125 Try.results125 (by kernel_rfl) rfl ?_
  simp only [List.zipIdx, List.map, Nat.zero_add, Nat.reduceAdd]
  have k := pickV_ac (n := (l.length : Int)) hb hp (by omega)
  have hx := ofV_at hb hp h0 h1
  have hlt := (List.getElem?_eq_some_iff.1 hx).1
  repeat (first | apply Aw_seq | apply Aw_block | apply Aw_skip | apply Aw_exit | refine Aw_condt rfl ?_ | refine Aw_condf rfl ?_ | (refine qr ?_; simp only [go_sem, Nat.reduceEqDiff, reduceIte, Nat.reduceAdd, Nat.reduceMul, Nat.reduceSub, Nat.reduceLT, Nat.reduceLeDiff, Nat.reduceBEq, hx, hlt]) | (refine qd (by kernel_rfl) (by kernel_rfl) ?_; simp only [go_sem, Nat.reduceEqDiff, reduceIte, Nat.reduceAdd, Nat.reduceMul, Nat.reduceSub, Nat.reduceLT, Nat.reduceLeDiff, Nat.reduceBEq, hx, hlt]) | refine dk (by kernel_rfl) ?_ | (refine qx (call_L (N' := [0]) (L := []) (k) rfl (.cons (.nm rfl) (.cons (.nm rfl) (.nil))) (by decide) (by decide) (by decide) (by simp only [go_sem, Nat.reduceEqDiff, reduceIte, Nat.reduceAdd, Nat.reduceMul, Nat.reduceSub, Nat.reduceLT, Nat.reduceLeDiff, Nat.reduceBEq, hx, hlt]; first | done | rfl) (.inl rfl) rfl (by decide)) (by simp only [go_sem, Nat.reduceEqDiff, reduceIte, Nat.reduceAdd, Nat.reduceMul, Nat.reduceSub, Nat.reduceLT, Nat.reduceLeDiff, Nat.reduceBEq, hx, hlt]; first | done | rfl) rfl (by simp only [go_sem, Nat.reduceLT]) ?_; simp only [go_sem, Nat.reduceEqDiff, reduceIte, Nat.reduceAdd, Nat.reduceMul, Nat.reduceSub, Nat.reduceLT, Nat.reduceLeDiff, Nat.reduceBEq, hx, hlt]))
  exact Aw_ret (retL (M := [0, 1]) (.inl rfl) (by simp only [go_sem, Nat.reduceEqDiff, reduceIte, Nat.reduceAdd, Nat.reduceMul, Nat.reduceSub, Nat.reduceLT, Nat.reduceLeDiff, Nat.reduceBEq]; first | done | rfl) rfl rfl (by rfl) (by simp only [go_sem, Nat.reduceEqDiff, reduceIte, Nat.reduceAdd, Nat.reduceMul, Nat.reduceSub, Nat.reduceLT, Nat.reduceLeDiff, Nat.reduceBEq]; first | done | rfl | (and_intros <;> rfl)) (by decide) (by intro m hm; first | omega | (rcases m with _ | _ | _ | _ | _ | _ | m <;> first | exact ⟨by decide, rfl⟩ | omega)))
@[go_sem] theorem d_five (e k : Nat) (a b c d f : D) : (⟨e, k, true, [[.d a], [.d b], [.d c], [.d d], [.d f]]⟩ : Obj) = dRow e k [[a], [b], [c], [d], [f]] := rfl
@[go_sem] theorem d_three (e k : Nat) (a b c : D) : (⟨e, k, true, [[.d a], [.d b], [.d c]]⟩ : Obj) = dRow e k [[a], [b], [c]] := rfl
def five : List ByteArray := [bs [97], bs [98], bs [97], bs [99], bs [100]]
def three : List ByteArray := [bs [97], bs [98], bs [100]]
theorem ofV_mem {b : List Int} {p : Nat} {l : List ByteArray} (hb : byteL b) (hp : p ≤ 1000000) (h0 : 0 < l.length) (h1 : l.length ≤ 1000) : ofV b p l ∈ l := List.mem_of_getElem? (ofV_at hb hp h0 h1)
theorem five_size {s : ByteArray} (h : s ∈ five) : s.size = 1 := by
  have : five.all (fun s => s.size == 1) = true := rfl
  simpa using List.all_eq_true.1 this s h
theorem three_size {s : ByteArray} (h : s ∈ three) : s.size = 1 := by
  have : three.all (fun s => s.size == 1) = true := rfl
  simpa using List.all_eq_true.1 this s h
noncomputable def keyL (b : List Int) : Nat → ByteArray → Nat → ByteArray × Nat
  | 0, s, p => (s, p)
  | n + 1, s, p => keyL b n (s ++ ofV b p five) (p + 1)
noncomputable def keyV (b : List Int) (p : Nat) : ByteArray × Nat := keyL b (pickV b p 6) zs (p + 1)
theorem keyL_fin {b : List Int} (hb : byteL b) : ∀ (n : Nat) (s : ByteArray) (p : Nat), p + n ≤ 1000000 → (keyL b n s p).1.size = s.size + n ∧ (keyL b n s p).2 = p + n
  | 0, s, p, _ => ⟨rfl, rfl⟩
  | n + 1, s, p, h => by
    have h1 := five_size (ofV_mem (l := five) hb (show p ≤ 1000000 by omega) (by decide) (by decide))
    obtain ⟨h2, h3⟩ := keyL_fin hb n (s ++ ofV b p five) (p + 1) (by omega)
    have e : (s ++ ofV b p five).size = s.size + 1 := by rw [ByteArray.size_append, h1]
    exact ⟨by simp only [keyL]; rw [h2, e]; omega, by simp only [keyL]; rw [h3]; omega⟩
theorem keyV_fin {b : List Int} (hb : byteL b) {p : Nat} (hp : p ≤ 900000) : (keyV b p).1.size ≤ 5 ∧ (keyV b p).2 ≤ p + 6 := by
  have h := pickV_lt (n := 6) hb (show p ≤ 1000000 by omega) (by omega) (by omega)
  obtain ⟨h1, h2⟩ := keyL_fin hb (pickV b p 6) zs (p + 1) (by omega)
  have z : zs.size = 0 := rfl
  unfold keyV
  rw [h1, h2, z]
  constructor <;> omega
structure KyI (b : List Int) (p0 : Nat) where
  n : Nat
  s : ByteArray
  p : Nat
  hn : n ≤ 5
  hs : s.size + n ≤ 100
  hp : p + n ≤ 1000000
  h : keyL b n s p = keyV b p0
theorem l71Key_ac {b : List Int} {p : Nat} (hb : byteL b) (hp : p ≤ 900000) : AC Try.prog 124 [.c (.ph 0 0 0)] (hpL [some (rdO b p)]) 1 ⟨.t (sT (keyV b p).1), hpL [some (rdO b (keyV b p).2)], 1⟩ := by
  refine AC_of Try.func124 rfl Try.ntmps124 Try.results124 (by kernel_rfl) rfl ?_
  simp only [List.zipIdx, List.map, Nat.zero_add, Nat.reduceAdd]
  have k := pickV_ac (n := 6) hb (show p ≤ 1000000 by omega) (by omega)
  have h6 := pickV_lt (n := 6) hb (show p ≤ 1000000 by omega) (by omega) (by omega)
  repeat (first | apply Aw_seq | apply Aw_block | apply Aw_skip | apply Aw_exit | refine Aw_condt rfl ?_ | refine Aw_condf rfl ?_ | (refine qr ?_; simp only [go_sem, Nat.reduceEqDiff, reduceIte, Nat.reduceAdd, Nat.reduceMul, Nat.reduceSub, Nat.reduceLT, Nat.reduceLeDiff, Nat.reduceBEq]) | (refine qd (by kernel_rfl) (by kernel_rfl) ?_; simp only [go_sem, Nat.reduceEqDiff, reduceIte, Nat.reduceAdd, Nat.reduceMul, Nat.reduceSub, Nat.reduceLT, Nat.reduceLeDiff, Nat.reduceBEq]) | refine dk (by kernel_rfl) ?_ | (refine qx (call_L (N' := [0]) (L := []) (k) rfl (.cons (.nm rfl) (.cons (.nm rfl) (.nil))) (by decide) (by decide) (by decide) (by simp only [go_sem, Nat.reduceEqDiff, reduceIte, Nat.reduceAdd, Nat.reduceMul, Nat.reduceSub, Nat.reduceLT, Nat.reduceLeDiff, Nat.reduceBEq]; first | done | rfl) (.inl rfl) rfl (by decide)) (by simp only [go_sem, Nat.reduceEqDiff, reduceIte, Nat.reduceAdd, Nat.reduceMul, Nat.reduceSub, Nat.reduceLT, Nat.reduceLeDiff, Nat.reduceBEq]; first | done | rfl) rfl (by simp only [go_sem, Nat.reduceLT]) ?_; simp only [go_sem, Nat.reduceEqDiff, reduceIte, Nat.reduceAdd, Nat.reduceMul, Nat.reduceSub, Nat.reduceLT, Nat.reduceLeDiff, Nat.reduceBEq]))
  refine Aw.rw (rwL (l' := [(4, .t (iT (pickV b p 6 : Nat))), (3, .t (sT zs)), (0, .t (.c (.ph 0 0 0)))]) (os := [some (rdO b (p + 1))]) (M := [0]) (n' := 1) (by repeat (first | exact trivial | refine ⟨rfl, rfl, ?_⟩)) (by rfl) (by simp only [go_sem, Nat.reduceEqDiff, reduceIte, Nat.reduceAdd, Nat.reduceMul, Nat.reduceSub, Nat.reduceLT, Nat.reduceLeDiff, Nat.reduceBEq]; first | done | rfl) (by decide) (by intro m hm; first | omega | (rcases m with _ | _ | _ | _ | _ | _ | m <;> first | exact ⟨by decide, rfl⟩ | omega))) ?_
  refine Aw_loop_rw (ι := KyI b p) (fun q => S [(4, .t (iT (q.n : Nat))), (3, .t (sT q.s)), (0, .t (.c (.ph 0 0 0)))] (hpL [some (rdO b q.p)]) 1) (fun q => q.n) ⟨pickV b p 6, zs, p + 1, by omega, by show 0 + _ ≤ _; omega, by omega, rfl⟩ ?_
  rintro ⟨n, s, q, hn, hs, hq, h⟩
  dsimp only
  rcases n with _ | n
  · have g1 : decide ((0 : Int) < ((0 : Nat) : Int)) = false := rfl
    rw [← h]
    repeat (first | apply Aw_seq | apply Aw_block | apply Aw_skip | apply Aw_exit | refine Aw_condt rfl ?_ | refine Aw_condf rfl ?_ | (refine qr ?_; simp only [go_sem, Nat.reduceEqDiff, reduceIte, Nat.reduceAdd, Nat.reduceMul, Nat.reduceSub, Nat.reduceLT, Nat.reduceLeDiff, Nat.reduceBEq, g1]) | (refine qd (by kernel_rfl) (by kernel_rfl) ?_; simp only [go_sem, Nat.reduceEqDiff, reduceIte, Nat.reduceAdd, Nat.reduceMul, Nat.reduceSub, Nat.reduceLT, Nat.reduceLeDiff, Nat.reduceBEq, g1]) | refine dk (by kernel_rfl) ?_)
    exact Aw_ret (retL (M := [0]) (.inl rfl) (by simp only [go_sem, Nat.reduceEqDiff, reduceIte, Nat.reduceAdd, Nat.reduceMul, Nat.reduceSub, Nat.reduceLT, Nat.reduceLeDiff, Nat.reduceBEq]; first | done | rfl) rfl rfl (by rfl) (by simp only [go_sem, Nat.reduceEqDiff, reduceIte, Nat.reduceAdd, Nat.reduceMul, Nat.reduceSub, Nat.reduceLT, Nat.reduceLeDiff, Nat.reduceBEq, keyL]; first | done | rfl | (and_intros <;> rfl)) (by decide) (by intro m hm; first | omega | (rcases m with _ | _ | _ | _ | _ | _ | m <;> first | exact ⟨by decide, rfl⟩ | omega)))
  · have g1 : decide ((0 : Int) < ((n + 1 : Nat) : Int)) = true := decide_eq_true (by omega)
    have w1 : IntKind.i64.wrap (((n + 1 : Nat) : Int) - 1) = (n : Int) := wn (by omega) (by omega)
    have ko : AC Try.prog 125 [.c (.ph 0 0 0), .c (.h 1)] (hpL [some (rdO b q), some (kRow [bs [97], bs [98], bs [97], bs [99], bs [100]])]) 2 ⟨.t (sT (ofV b q five)), hpL [some (rdO b (q + 1)), none], 2⟩ := of_ac (l := five) hb (show q ≤ 1000000 by omega) (by decide) (by decide)
    have e5 := five_size (ofV_mem (l := five) hb (show q ≤ 1000000 by omega) (by decide) (by decide))
    have gs : (s.size + (ofV b q five).size ≤ 9223372036854775807) = True := eq_true (by rw [e5]; omega)
    have hs2 : (s ++ ofV b q five).size = s.size + 1 := by rw [ByteArray.size_append, e5]
    repeat (first | apply Aw_seq | apply Aw_block | apply Aw_skip | apply Aw_exit | refine Aw_condt rfl ?_ | refine Aw_condf rfl ?_ | (refine qr ?_; simp only [go_sem, Nat.reduceEqDiff, reduceIte, Nat.reduceAdd, Nat.reduceMul, Nat.reduceSub, Nat.reduceLT, Nat.reduceLeDiff, Nat.reduceBEq, g1, w1, gs]) | (refine qd (by kernel_rfl) (by kernel_rfl) ?_; simp only [go_sem, Nat.reduceEqDiff, reduceIte, Nat.reduceAdd, Nat.reduceMul, Nat.reduceSub, Nat.reduceLT, Nat.reduceLeDiff, Nat.reduceBEq, g1, w1, gs]) | refine dk (by kernel_rfl) ?_ | (refine qx (call_L (N' := [0, 5]) (L := []) (ko) rfl (.cons (.nm rfl) (.cons (.nm rfl) (.nil))) (by decide) (by decide) (by decide) (by simp only [go_sem, Nat.reduceEqDiff, reduceIte, Nat.reduceAdd, Nat.reduceMul, Nat.reduceSub, Nat.reduceLT, Nat.reduceLeDiff, Nat.reduceBEq, g1, w1, gs]; first | done | rfl) (.inl rfl) rfl (by decide)) (by simp only [go_sem, Nat.reduceEqDiff, reduceIte, Nat.reduceAdd, Nat.reduceMul, Nat.reduceSub, Nat.reduceLT, Nat.reduceLeDiff, Nat.reduceBEq, g1, w1, gs]; first | done | rfl) rfl (by simp only [go_sem, Nat.reduceLT]) ?_; simp only [go_sem, Nat.reduceEqDiff, reduceIte, Nat.reduceAdd, Nat.reduceMul, Nat.reduceSub, Nat.reduceLT, Nat.reduceLeDiff, Nat.reduceBEq, g1, w1, gs]))
    refine ⟨⟨n, s ++ ofV b q five, q + 1, by omega, by rw [hs2]; omega, by omega, h⟩, [0], ?_, rwL (by repeat (first | exact trivial | refine ⟨rfl, rfl, ?_⟩)) (by rfl) (by simp only [go_sem, Nat.reduceEqDiff, reduceIte, Nat.reduceAdd, Nat.reduceMul, Nat.reduceSub, Nat.reduceLT, Nat.reduceLeDiff, Nat.reduceBEq]; first | done | rfl) (by decide) (by intro m hm; first | omega | (rcases m with _ | _ | _ | _ | _ | _ | m <;> first | exact ⟨by decide, rfl⟩ | omega))⟩
    show n < n + 1; omega
end Go.Proofs.Ytcbhgglpgphimaa.Ab
namespace Go.Proofs.Ytcbhgglpgphimaa.Ab
set_option linter.deprecated false
set_option linter.unusedVariables false
set_option linter.unusedSimpArgs false
open Go Go.Proofs
set_option maxRecDepth 10000
set_option maxHeartbeats 8000000
set_option linter.unusedSimpArgs false
set_option linter.unusedVariables false
noncomputable def nearV (b : List Int) (p : Nat) (l : List ByteArray) : ByteArray × Nat :=
  if l.length = 0 then keyV b p else if pickV b p 4 = 0 then keyV b (p + 1) else
    let k := ofV b (p + 1) l
    if pickV b (p + 2) 4 = 0 then (k.extract 0 (pickV b (p + 3) ((k.size + 1 : Nat) : Int)), p + 4)
    else if pickV b (p + 2) 4 = 1 then (if k.size < 5 then (k ++ ofV b (p + 3) three, p + 4) else (k, p + 3)) else (k, p + 3)
theorem nearV_fin {b : List Int} (hb : byteL b) {p K : Nat} {l : List ByteArray} (hp : p ≤ 800000) (hl : l.length ≤ 1000) (hK : 5 ≤ K) (hs : ∀ s ∈ l, s.size ≤ K) : (nearV b p l).1.size ≤ K ∧ (nearV b p l).2 ≤ p + 7 := by
  unfold nearV
  split
  · have := keyV_fin hb (show p ≤ 900000 by omega); omega
  split
  · have := keyV_fin hb (show p + 1 ≤ 900000 by omega); omega
  have hk := hs _ (ofV_mem (l := l) hb (show p + 1 ≤ 1000000 by omega) (by omega) hl)
  dsimp only
  split
  · exact ⟨by rw [ByteArray.size_extract]; omega, by dsimp only; omega⟩
  split
  · split
    · have h3 := three_size (ofV_mem (l := three) hb (show p + 3 ≤ 1000000 by omega) (by decide) (by decide))
      exact ⟨by rw [ByteArray.size_append, h3]; omega, by dsimp only; omega⟩
    · exact ⟨hk, by dsimp only; omega⟩
  · exact ⟨hk, by dsimp only; omega⟩
theorem l71Near_ac {b : List Int} {p : Nat} {l : List ByteArray} (hb : byteL b) (hp : p ≤ 800000) (hl : l.length ≤ 1000) (hs : ∀ s ∈ l, s.size ≤ 1000000) : AC Try.prog 75 [.c (.ph 0 0 0), strsT l] (hpL [some (rdO b p)]) 1 ⟨.t (sT (nearV b p l).1), hpL [some (rdO b (nearV b p l).2)], 1⟩ := by
  by_cases c0 : l.length = 0
  · have e : nearV b p l = keyV b p := by unfold nearV; rw [if_pos c0]
    have g0 : decide (((l.length : Nat) : Int) = 0) = true := decide_eq_true (by omega)
    have kk := l71Key_ac hb (show p ≤ 900000 by omega)
    rw [e]
    refine AC_of Try.func75 rfl Try.ntmps75 Try.results75 (by kernel_rfl) rfl ?_
    simp only [List.zipIdx, List.map, Nat.zero_add, Nat.reduceAdd]
    repeat (first | apply Aw_seq | apply Aw_block | apply Aw_skip | apply Aw_exit | refine Aw_condt rfl ?_ | refine Aw_condf rfl ?_ | (refine qr ?_; simp only [go_sem, Nat.reduceEqDiff, reduceIte, Nat.reduceAdd, Nat.reduceMul, Nat.reduceSub, Nat.reduceLT, Nat.reduceLeDiff, Nat.reduceBEq, g0]) | (refine qd (by kernel_rfl) (by kernel_rfl) ?_; simp only [go_sem, Nat.reduceEqDiff, reduceIte, Nat.reduceAdd, Nat.reduceMul, Nat.reduceSub, Nat.reduceLT, Nat.reduceLeDiff, Nat.reduceBEq, g0]) | refine dk (by kernel_rfl) ?_ | (refine qx (call_L (N' := [0]) (L := []) (kk) rfl (.cons (.nm rfl) (.nil)) (by decide) (by decide) (by decide) (by simp only [go_sem, Nat.reduceEqDiff, reduceIte, Nat.reduceAdd, Nat.reduceMul, Nat.reduceSub, Nat.reduceLT, Nat.reduceLeDiff, Nat.reduceBEq, g0]; first | done | rfl) (.inl rfl) rfl (by decide)) (by simp only [go_sem, Nat.reduceEqDiff, reduceIte, Nat.reduceAdd, Nat.reduceMul, Nat.reduceSub, Nat.reduceLT, Nat.reduceLeDiff, Nat.reduceBEq, g0]; first | done | rfl) rfl (by simp only [go_sem, Nat.reduceLT]) ?_; simp only [go_sem, Nat.reduceEqDiff, reduceIte, Nat.reduceAdd, Nat.reduceMul, Nat.reduceSub, Nat.reduceLT, Nat.reduceLeDiff, Nat.reduceBEq, g0]))
    exact Aw_ret (retL (M := [0]) (.inl rfl) (by simp only [go_sem, Nat.reduceEqDiff, reduceIte, Nat.reduceAdd, Nat.reduceMul, Nat.reduceSub, Nat.reduceLT, Nat.reduceLeDiff, Nat.reduceBEq]; first | done | rfl) rfl rfl (by rfl) (by simp only [go_sem, Nat.reduceEqDiff, reduceIte, Nat.reduceAdd, Nat.reduceMul, Nat.reduceSub, Nat.reduceLT, Nat.reduceLeDiff, Nat.reduceBEq]; first | done | rfl | (and_intros <;> rfl)) (by decide) (by intro m hm; first | omega | (rcases m with _ | _ | _ | _ | _ | _ | m <;> first | exact ⟨by decide, rfl⟩ | omega)))
  have g0 : decide (((l.length : Nat) : Int) = 0) = false := decide_eq_false (by omega)
  have k1 := pickV_ac (n := 4) hb (show p ≤ 1000000 by omega) (by omega)
  by_cases c1 : pickV b p 4 = 0
  · have e : nearV b p l = keyV b (p + 1) := by unfold nearV; rw [if_neg c0, if_pos c1]
    have kk := l71Key_ac hb (show p + 1 ≤ 900000 by omega)
    have g1 : decide (((pickV b p 4 : Nat) : Int) = 0) = true := decide_eq_true (by omega)
    rw [e]
    refine AC_of Try.func75 rfl Try.ntmps75 Try.results75 (by kernel_rfl) rfl ?_
    simp only [List.zipIdx, List.map, Nat.zero_add, Nat.reduceAdd]
    repeat (first | apply Aw_seq | apply Aw_block | apply Aw_skip | apply Aw_exit | refine Aw_condt rfl ?_ | refine Aw_condf rfl ?_ | (refine qr ?_; simp only [go_sem, Nat.reduceEqDiff, reduceIte, Nat.reduceAdd, Nat.reduceMul, Nat.reduceSub, Nat.reduceLT, Nat.reduceLeDiff, Nat.reduceBEq, g0, g1]) | (refine qd (by kernel_rfl) (by kernel_rfl) ?_; simp only [go_sem, Nat.reduceEqDiff, reduceIte, Nat.reduceAdd, Nat.reduceMul, Nat.reduceSub, Nat.reduceLT, Nat.reduceLeDiff, Nat.reduceBEq, g0, g1]) | refine dk (by kernel_rfl) ?_ | (refine qx (call_L (N' := [0]) (L := []) (k1) rfl (.cons (.nm rfl) (.cons (.nm rfl) (.nil))) (by decide) (by decide) (by decide) (by simp only [go_sem, Nat.reduceEqDiff, reduceIte, Nat.reduceAdd, Nat.reduceMul, Nat.reduceSub, Nat.reduceLT, Nat.reduceLeDiff, Nat.reduceBEq, g0, g1]; first | done | rfl) (.inl rfl) rfl (by decide)) (by simp only [go_sem, Nat.reduceEqDiff, reduceIte, Nat.reduceAdd, Nat.reduceMul, Nat.reduceSub, Nat.reduceLT, Nat.reduceLeDiff, Nat.reduceBEq, g0, g1]; first | done | rfl) rfl (by simp only [go_sem, Nat.reduceLT]) ?_; simp only [go_sem, Nat.reduceEqDiff, reduceIte, Nat.reduceAdd, Nat.reduceMul, Nat.reduceSub, Nat.reduceLT, Nat.reduceLeDiff, Nat.reduceBEq, g0, g1]) | (refine qx (call_L (N' := [0]) (L := []) (kk) rfl (.cons (.nm rfl) (.nil)) (by decide) (by decide) (by decide) (by simp only [go_sem, Nat.reduceEqDiff, reduceIte, Nat.reduceAdd, Nat.reduceMul, Nat.reduceSub, Nat.reduceLT, Nat.reduceLeDiff, Nat.reduceBEq, g0, g1]; first | done | rfl) (.inl rfl) rfl (by decide)) (by simp only [go_sem, Nat.reduceEqDiff, reduceIte, Nat.reduceAdd, Nat.reduceMul, Nat.reduceSub, Nat.reduceLT, Nat.reduceLeDiff, Nat.reduceBEq, g0, g1]; first | done | rfl) rfl (by simp only [go_sem, Nat.reduceLT]) ?_; simp only [go_sem, Nat.reduceEqDiff, reduceIte, Nat.reduceAdd, Nat.reduceMul, Nat.reduceSub, Nat.reduceLT, Nat.reduceLeDiff, Nat.reduceBEq, g0, g1]))
    exact Aw_ret (retL (M := [0]) (.inl rfl) (by simp only [go_sem, Nat.reduceEqDiff, reduceIte, Nat.reduceAdd, Nat.reduceMul, Nat.reduceSub, Nat.reduceLT, Nat.reduceLeDiff, Nat.reduceBEq]; first | done | rfl) rfl rfl (by rfl) (by simp only [go_sem, Nat.reduceEqDiff, reduceIte, Nat.reduceAdd, Nat.reduceMul, Nat.reduceSub, Nat.reduceLT, Nat.reduceLeDiff, Nat.reduceBEq]; first | done | rfl | (and_intros <;> rfl)) (by decide) (by intro m hm; first | omega | (rcases m with _ | _ | _ | _ | _ | _ | m <;> first | exact ⟨by decide, rfl⟩ | omega)))
  have g1 : decide (((pickV b p 4 : Nat) : Int) = 0) = false := decide_eq_false (by omega)
  have k2 := pickV_ac (n := (l.length : Int)) hb (show p + 1 ≤ 1000000 by omega) (by omega)
  have k3 := pickV_ac (n := 4) hb (show p + 1 + 1 ≤ 1000000 by omega) (by omega)
  have hx := ofV_at hb (show p + 1 ≤ 1000000 by omega) (show 0 < l.length by omega) hl
  obtain ⟨k, hk⟩ : ∃ k, k = ofV b (p + 1) l := ⟨_, rfl⟩
  rw [← hk] at hx
  have hks := hs k (List.mem_of_getElem? hx)
  by_cases c2 : pickV b (p + 1 + 1) 4 = 0
  · have e : nearV b p l = (k.extract 0 (pickV b (p + 1 + 1 + 1) ((k.size + 1 : Nat) : Int)), p + 4) := by unfold nearV; rw [if_neg c0, if_neg c1]; dsimp only; rw [if_pos c2, ← hk]
    have g2 : decide (((pickV b (p + 1 + 1) 4 : Nat) : Int) = 0) = true := decide_eq_true (by omega)
    have w1 : IntKind.i64.wrap ((k.size : Int) + 1) = ((k.size + 1 : Nat) : Int) := wn (by omega) (by omega)
    have k4 := pickV_ac (n := ((k.size + 1 : Nat) : Int)) hb (show p + 1 + 1 + 1 ≤ 1000000 by omega) (by omega)
    have h4 := pickV_lt (n := ((k.size + 1 : Nat) : Int)) hb (show p + 1 + 1 + 1 ≤ 1000000 by omega) (by omega) (by omega)
    have s1 : ((0 : Int) ≤ ((pickV b (p + 1 + 1 + 1) ((k.size + 1 : Nat) : Int) : Nat) : Int)) = True := eq_true (by omega)
    have s2 : (((pickV b (p + 1 + 1 + 1) ((k.size + 1 : Nat) : Int) : Nat) : Int) ≤ (k.size : Int)) = True := eq_true (by omega)
    have s3 : Int.toNat ((pickV b (p + 1 + 1 + 1) ((k.size + 1 : Nat) : Int) : Nat) : Int) = pickV b (p + 1 + 1 + 1) ((k.size + 1 : Nat) : Int) := rfl
    have s4 : Int.toNat 0 = 0 := rfl
    rw [e]
    refine AC_of Try.func75 rfl Try.ntmps75 Try.results75 (by kernel_rfl) rfl ?_
    simp only [List.zipIdx, List.map, Nat.zero_add, Nat.reduceAdd]
    repeat (first | apply Aw_seq | apply Aw_block | apply Aw_skip | apply Aw_exit | refine Aw_condt rfl ?_ | refine Aw_condf rfl ?_ | (refine qr ?_; simp only [go_sem, Nat.reduceEqDiff, reduceIte, Nat.reduceAdd, Nat.reduceMul, Nat.reduceSub, Nat.reduceLT, Nat.reduceLeDiff, Nat.reduceBEq, g0, g1, hx, g2, w1, s1, s2, s3, s4]) | (refine qd (by kernel_rfl) (by kernel_rfl) ?_; simp only [go_sem, Nat.reduceEqDiff, reduceIte, Nat.reduceAdd, Nat.reduceMul, Nat.reduceSub, Nat.reduceLT, Nat.reduceLeDiff, Nat.reduceBEq, g0, g1, hx, g2, w1, s1, s2, s3, s4]) | refine dk (by kernel_rfl) ?_ | (refine qx (call_L (N' := [0]) (L := []) (k1) rfl (.cons (.nm rfl) (.cons (.nm rfl) (.nil))) (by decide) (by decide) (by decide) (by simp only [go_sem, Nat.reduceEqDiff, reduceIte, Nat.reduceAdd, Nat.reduceMul, Nat.reduceSub, Nat.reduceLT, Nat.reduceLeDiff, Nat.reduceBEq, g0, g1, hx, g2, w1, s1, s2, s3, s4]; first | done | rfl) (.inl rfl) rfl (by decide)) (by simp only [go_sem, Nat.reduceEqDiff, reduceIte, Nat.reduceAdd, Nat.reduceMul, Nat.reduceSub, Nat.reduceLT, Nat.reduceLeDiff, Nat.reduceBEq, g0, g1, hx, g2, w1, s1, s2, s3, s4]; first | done | rfl) rfl (by simp only [go_sem, Nat.reduceLT]) ?_; simp only [go_sem, Nat.reduceEqDiff, reduceIte, Nat.reduceAdd, Nat.reduceMul, Nat.reduceSub, Nat.reduceLT, Nat.reduceLeDiff, Nat.reduceBEq, g0, g1, hx, g2, w1, s1, s2, s3, s4]) | (refine qx (call_L (N' := [0]) (L := []) (k2) rfl (.cons (.nm rfl) (.cons (.nm rfl) (.nil))) (by decide) (by decide) (by decide) (by simp only [go_sem, Nat.reduceEqDiff, reduceIte, Nat.reduceAdd, Nat.reduceMul, Nat.reduceSub, Nat.reduceLT, Nat.reduceLeDiff, Nat.reduceBEq, g0, g1, hx, g2, w1, s1, s2, s3, s4]; first | done | rfl) (.inl rfl) rfl (by decide)) (by simp only [go_sem, Nat.reduceEqDiff, reduceIte, Nat.reduceAdd, Nat.reduceMul, Nat.reduceSub, Nat.reduceLT, Nat.reduceLeDiff, Nat.reduceBEq, g0, g1, hx, g2, w1, s1, s2, s3, s4]; first | done | rfl) rfl (by simp only [go_sem, Nat.reduceLT]) ?_; simp only [go_sem, Nat.reduceEqDiff, reduceIte, Nat.reduceAdd, Nat.reduceMul, Nat.reduceSub, Nat.reduceLT, Nat.reduceLeDiff, Nat.reduceBEq, g0, g1, hx, g2, w1, s1, s2, s3, s4]) | (refine qx (call_L (N' := [0]) (L := []) (k3) rfl (.cons (.nm rfl) (.cons (.nm rfl) (.nil))) (by decide) (by decide) (by decide) (by simp only [go_sem, Nat.reduceEqDiff, reduceIte, Nat.reduceAdd, Nat.reduceMul, Nat.reduceSub, Nat.reduceLT, Nat.reduceLeDiff, Nat.reduceBEq, g0, g1, hx, g2, w1, s1, s2, s3, s4]; first | done | rfl) (.inl rfl) rfl (by decide)) (by simp only [go_sem, Nat.reduceEqDiff, reduceIte, Nat.reduceAdd, Nat.reduceMul, Nat.reduceSub, Nat.reduceLT, Nat.reduceLeDiff, Nat.reduceBEq, g0, g1, hx, g2, w1, s1, s2, s3, s4]; first | done | rfl) rfl (by simp only [go_sem, Nat.reduceLT]) ?_; simp only [go_sem, Nat.reduceEqDiff, reduceIte, Nat.reduceAdd, Nat.reduceMul, Nat.reduceSub, Nat.reduceLT, Nat.reduceLeDiff, Nat.reduceBEq, g0, g1, hx, g2, w1, s1, s2, s3, s4]) | (refine qx (call_L (N' := [0]) (L := []) (k4) rfl (.cons (.nm rfl) (.cons (.nm rfl) (.nil))) (by decide) (by decide) (by decide) (by simp only [go_sem, Nat.reduceEqDiff, reduceIte, Nat.reduceAdd, Nat.reduceMul, Nat.reduceSub, Nat.reduceLT, Nat.reduceLeDiff, Nat.reduceBEq, g0, g1, hx, g2, w1, s1, s2, s3, s4]; first | done | rfl) (.inl rfl) rfl (by decide)) (by simp only [go_sem, Nat.reduceEqDiff, reduceIte, Nat.reduceAdd, Nat.reduceMul, Nat.reduceSub, Nat.reduceLT, Nat.reduceLeDiff, Nat.reduceBEq, g0, g1, hx, g2, w1, s1, s2, s3, s4]; first | done | rfl) rfl (by simp only [go_sem, Nat.reduceLT]) ?_; simp only [go_sem, Nat.reduceEqDiff, reduceIte, Nat.reduceAdd, Nat.reduceMul, Nat.reduceSub, Nat.reduceLT, Nat.reduceLeDiff, Nat.reduceBEq, g0, g1, hx, g2, w1, s1, s2, s3, s4]))
    exact Aw_ret (retL (M := [0]) (.inl rfl) (by simp only [go_sem, Nat.reduceEqDiff, reduceIte, Nat.reduceAdd, Nat.reduceMul, Nat.reduceSub, Nat.reduceLT, Nat.reduceLeDiff, Nat.reduceBEq]; first | done | rfl) rfl rfl (by rfl) (by simp only [go_sem, Nat.reduceEqDiff, reduceIte, Nat.reduceAdd, Nat.reduceMul, Nat.reduceSub, Nat.reduceLT, Nat.reduceLeDiff, Nat.reduceBEq]; first | done | rfl | (and_intros <;> rfl)) (by decide) (by intro m hm; first | omega | (rcases m with _ | _ | _ | _ | _ | _ | m <;> first | exact ⟨by decide, rfl⟩ | omega)))
  have g2 : decide (((pickV b (p + 1 + 1) 4 : Nat) : Int) = 0) = false := decide_eq_false (by omega)
  by_cases c3 : pickV b (p + 1 + 1) 4 = 1
  · have g3 : decide (((pickV b (p + 1 + 1) 4 : Nat) : Int) = 1) = true := decide_eq_true (by omega)
    by_cases c4 : k.size < 5
    · have e : nearV b p l = (k ++ ofV b (p + 1 + 1 + 1) three, p + 4) := by unfold nearV; rw [if_neg c0, if_neg c1]; dsimp only; rw [if_neg c2, if_pos c3, ← hk, if_pos c4]
      have g4 : decide ((k.size : Int) < 5) = true := decide_eq_true (by omega)
      have e3 := three_size (ofV_mem (l := three) hb (show p + 1 + 1 + 1 ≤ 1000000 by omega) (by decide) (by decide))
      have gs : (k.size + (ofV b (p + 1 + 1 + 1) three).size ≤ 9223372036854775807) = True := eq_true (by rw [e3]; omega)
      have ko : AC Try.prog 125 [.c (.ph 0 0 0), .c (.h 1)] (hpL [some (rdO b (p + 1 + 1 + 1)), some (kRow [bs [97], bs [98], bs [100]])]) 2 ⟨.t (sT (ofV b (p + 1 + 1 + 1) three)), hpL [some (rdO b (p + 1 + 1 + 1 + 1)), none], 2⟩ := of_ac (l := three) hb (show p + 1 + 1 + 1 ≤ 1000000 by omega) (by decide) (by decide)
      rw [e]
      refine AC_of Try.func75 rfl Try.ntmps75 Try.results75 (by kernel_rfl) rfl ?_
      simp only [List.zipIdx, List.map, Nat.zero_add, Nat.reduceAdd]
      repeat (first | apply Aw_seq | apply Aw_block | apply Aw_skip | apply Aw_exit | refine Aw_condt rfl ?_ | refine Aw_condf rfl ?_ | (refine qr ?_; simp only [go_sem, Nat.reduceEqDiff, reduceIte, Nat.reduceAdd, Nat.reduceMul, Nat.reduceSub, Nat.reduceLT, Nat.reduceLeDiff, Nat.reduceBEq, g0, g1, hx, g2, g3, g4, gs]) | (refine qd (by kernel_rfl) (by kernel_rfl) ?_; simp only [go_sem, Nat.reduceEqDiff, reduceIte, Nat.reduceAdd, Nat.reduceMul, Nat.reduceSub, Nat.reduceLT, Nat.reduceLeDiff, Nat.reduceBEq, g0, g1, hx, g2, g3, g4, gs]) | refine dk (by kernel_rfl) ?_ | (refine qx (call_L (N' := [0]) (L := []) (k1) rfl (.cons (.nm rfl) (.cons (.nm rfl) (.nil))) (by decide) (by decide) (by decide) (by simp only [go_sem, Nat.reduceEqDiff, reduceIte, Nat.reduceAdd, Nat.reduceMul, Nat.reduceSub, Nat.reduceLT, Nat.reduceLeDiff, Nat.reduceBEq, g0, g1, hx, g2, g3, g4, gs]; first | done | rfl) (.inl rfl) rfl (by decide)) (by simp only [go_sem, Nat.reduceEqDiff, reduceIte, Nat.reduceAdd, Nat.reduceMul, Nat.reduceSub, Nat.reduceLT, Nat.reduceLeDiff, Nat.reduceBEq, g0, g1, hx, g2, g3, g4, gs]; first | done | rfl) rfl (by simp only [go_sem, Nat.reduceLT]) ?_; simp only [go_sem, Nat.reduceEqDiff, reduceIte, Nat.reduceAdd, Nat.reduceMul, Nat.reduceSub, Nat.reduceLT, Nat.reduceLeDiff, Nat.reduceBEq, g0, g1, hx, g2, g3, g4, gs]) | (refine qx (call_L (N' := [0]) (L := []) (k2) rfl (.cons (.nm rfl) (.cons (.nm rfl) (.nil))) (by decide) (by decide) (by decide) (by simp only [go_sem, Nat.reduceEqDiff, reduceIte, Nat.reduceAdd, Nat.reduceMul, Nat.reduceSub, Nat.reduceLT, Nat.reduceLeDiff, Nat.reduceBEq, g0, g1, hx, g2, g3, g4, gs]; first | done | rfl) (.inl rfl) rfl (by decide)) (by simp only [go_sem, Nat.reduceEqDiff, reduceIte, Nat.reduceAdd, Nat.reduceMul, Nat.reduceSub, Nat.reduceLT, Nat.reduceLeDiff, Nat.reduceBEq, g0, g1, hx, g2, g3, g4, gs]; first | done | rfl) rfl (by simp only [go_sem, Nat.reduceLT]) ?_; simp only [go_sem, Nat.reduceEqDiff, reduceIte, Nat.reduceAdd, Nat.reduceMul, Nat.reduceSub, Nat.reduceLT, Nat.reduceLeDiff, Nat.reduceBEq, g0, g1, hx, g2, g3, g4, gs]) | (refine qx (call_L (N' := [0]) (L := []) (k3) rfl (.cons (.nm rfl) (.cons (.nm rfl) (.nil))) (by decide) (by decide) (by decide) (by simp only [go_sem, Nat.reduceEqDiff, reduceIte, Nat.reduceAdd, Nat.reduceMul, Nat.reduceSub, Nat.reduceLT, Nat.reduceLeDiff, Nat.reduceBEq, g0, g1, hx, g2, g3, g4, gs]; first | done | rfl) (.inl rfl) rfl (by decide)) (by simp only [go_sem, Nat.reduceEqDiff, reduceIte, Nat.reduceAdd, Nat.reduceMul, Nat.reduceSub, Nat.reduceLT, Nat.reduceLeDiff, Nat.reduceBEq, g0, g1, hx, g2, g3, g4, gs]; first | done | rfl) rfl (by simp only [go_sem, Nat.reduceLT]) ?_; simp only [go_sem, Nat.reduceEqDiff, reduceIte, Nat.reduceAdd, Nat.reduceMul, Nat.reduceSub, Nat.reduceLT, Nat.reduceLeDiff, Nat.reduceBEq, g0, g1, hx, g2, g3, g4, gs]) | (refine qx (call_L (N' := [0, 26]) (L := []) (ko) rfl (.cons (.nm rfl) (.cons (.nm rfl) (.nil))) (by decide) (by decide) (by decide) (by simp only [go_sem, Nat.reduceEqDiff, reduceIte, Nat.reduceAdd, Nat.reduceMul, Nat.reduceSub, Nat.reduceLT, Nat.reduceLeDiff, Nat.reduceBEq, g0, g1, hx, g2, g3, g4, gs]; first | done | rfl) (.inl rfl) rfl (by decide)) (by simp only [go_sem, Nat.reduceEqDiff, reduceIte, Nat.reduceAdd, Nat.reduceMul, Nat.reduceSub, Nat.reduceLT, Nat.reduceLeDiff, Nat.reduceBEq, g0, g1, hx, g2, g3, g4, gs]; first | done | rfl) rfl (by simp only [go_sem, Nat.reduceLT]) ?_; simp only [go_sem, Nat.reduceEqDiff, reduceIte, Nat.reduceAdd, Nat.reduceMul, Nat.reduceSub, Nat.reduceLT, Nat.reduceLeDiff, Nat.reduceBEq, g0, g1, hx, g2, g3, g4, gs]))
      exact Aw_ret (retL (M := [0]) (.inl rfl) (by simp only [go_sem, Nat.reduceEqDiff, reduceIte, Nat.reduceAdd, Nat.reduceMul, Nat.reduceSub, Nat.reduceLT, Nat.reduceLeDiff, Nat.reduceBEq]; first | done | rfl) rfl rfl (by rfl) (by simp only [go_sem, Nat.reduceEqDiff, reduceIte, Nat.reduceAdd, Nat.reduceMul, Nat.reduceSub, Nat.reduceLT, Nat.reduceLeDiff, Nat.reduceBEq]; first | done | rfl | (and_intros <;> rfl)) (by decide) (by intro m hm; first | omega | (rcases m with _ | _ | _ | _ | _ | _ | m <;> first | exact ⟨by decide, rfl⟩ | omega)))
    · have e : nearV b p l = (k, p + 3) := by unfold nearV; rw [if_neg c0, if_neg c1]; dsimp only; rw [if_neg c2, if_pos c3, ← hk, if_neg c4]
      have g4 : decide ((k.size : Int) < 5) = false := decide_eq_false (by omega)
      rw [e]
      refine AC_of Try.func75 rfl Try.ntmps75 Try.results75 (by kernel_rfl) rfl ?_
      simp only [List.zipIdx, List.map, Nat.zero_add, Nat.reduceAdd]
      repeat (first | apply Aw_seq | apply Aw_block | apply Aw_skip | apply Aw_exit | refine Aw_condt rfl ?_ | refine Aw_condf rfl ?_ | (refine qr ?_; simp only [go_sem, Nat.reduceEqDiff, reduceIte, Nat.reduceAdd, Nat.reduceMul, Nat.reduceSub, Nat.reduceLT, Nat.reduceLeDiff, Nat.reduceBEq, g0, g1, hx, g2, g3, g4]) | (refine qd (by kernel_rfl) (by kernel_rfl) ?_; simp only [go_sem, Nat.reduceEqDiff, reduceIte, Nat.reduceAdd, Nat.reduceMul, Nat.reduceSub, Nat.reduceLT, Nat.reduceLeDiff, Nat.reduceBEq, g0, g1, hx, g2, g3, g4]) | refine dk (by kernel_rfl) ?_ | (refine qx (call_L (N' := [0]) (L := []) (k1) rfl (.cons (.nm rfl) (.cons (.nm rfl) (.nil))) (by decide) (by decide) (by decide) (by simp only [go_sem, Nat.reduceEqDiff, reduceIte, Nat.reduceAdd, Nat.reduceMul, Nat.reduceSub, Nat.reduceLT, Nat.reduceLeDiff, Nat.reduceBEq, g0, g1, hx, g2, g3, g4]; first | done | rfl) (.inl rfl) rfl (by decide)) (by simp only [go_sem, Nat.reduceEqDiff, reduceIte, Nat.reduceAdd, Nat.reduceMul, Nat.reduceSub, Nat.reduceLT, Nat.reduceLeDiff, Nat.reduceBEq, g0, g1, hx, g2, g3, g4]; first | done | rfl) rfl (by simp only [go_sem, Nat.reduceLT]) ?_; simp only [go_sem, Nat.reduceEqDiff, reduceIte, Nat.reduceAdd, Nat.reduceMul, Nat.reduceSub, Nat.reduceLT, Nat.reduceLeDiff, Nat.reduceBEq, g0, g1, hx, g2, g3, g4]) | (refine qx (call_L (N' := [0]) (L := []) (k2) rfl (.cons (.nm rfl) (.cons (.nm rfl) (.nil))) (by decide) (by decide) (by decide) (by simp only [go_sem, Nat.reduceEqDiff, reduceIte, Nat.reduceAdd, Nat.reduceMul, Nat.reduceSub, Nat.reduceLT, Nat.reduceLeDiff, Nat.reduceBEq, g0, g1, hx, g2, g3, g4]; first | done | rfl) (.inl rfl) rfl (by decide)) (by simp only [go_sem, Nat.reduceEqDiff, reduceIte, Nat.reduceAdd, Nat.reduceMul, Nat.reduceSub, Nat.reduceLT, Nat.reduceLeDiff, Nat.reduceBEq, g0, g1, hx, g2, g3, g4]; first | done | rfl) rfl (by simp only [go_sem, Nat.reduceLT]) ?_; simp only [go_sem, Nat.reduceEqDiff, reduceIte, Nat.reduceAdd, Nat.reduceMul, Nat.reduceSub, Nat.reduceLT, Nat.reduceLeDiff, Nat.reduceBEq, g0, g1, hx, g2, g3, g4]) | (refine qx (call_L (N' := [0]) (L := []) (k3) rfl (.cons (.nm rfl) (.cons (.nm rfl) (.nil))) (by decide) (by decide) (by decide) (by simp only [go_sem, Nat.reduceEqDiff, reduceIte, Nat.reduceAdd, Nat.reduceMul, Nat.reduceSub, Nat.reduceLT, Nat.reduceLeDiff, Nat.reduceBEq, g0, g1, hx, g2, g3, g4]; first | done | rfl) (.inl rfl) rfl (by decide)) (by simp only [go_sem, Nat.reduceEqDiff, reduceIte, Nat.reduceAdd, Nat.reduceMul, Nat.reduceSub, Nat.reduceLT, Nat.reduceLeDiff, Nat.reduceBEq, g0, g1, hx, g2, g3, g4]; first | done | rfl) rfl (by simp only [go_sem, Nat.reduceLT]) ?_; simp only [go_sem, Nat.reduceEqDiff, reduceIte, Nat.reduceAdd, Nat.reduceMul, Nat.reduceSub, Nat.reduceLT, Nat.reduceLeDiff, Nat.reduceBEq, g0, g1, hx, g2, g3, g4]))
      exact Aw_ret (retL (M := [0]) (.inl rfl) (by simp only [go_sem, Nat.reduceEqDiff, reduceIte, Nat.reduceAdd, Nat.reduceMul, Nat.reduceSub, Nat.reduceLT, Nat.reduceLeDiff, Nat.reduceBEq]; first | done | rfl) rfl rfl (by rfl) (by simp only [go_sem, Nat.reduceEqDiff, reduceIte, Nat.reduceAdd, Nat.reduceMul, Nat.reduceSub, Nat.reduceLT, Nat.reduceLeDiff, Nat.reduceBEq]; first | done | rfl | (and_intros <;> rfl)) (by decide) (by intro m hm; first | omega | (rcases m with _ | _ | _ | _ | _ | _ | m <;> first | exact ⟨by decide, rfl⟩ | omega)))
  · have g3 : decide (((pickV b (p + 1 + 1) 4 : Nat) : Int) = 1) = false := decide_eq_false (by omega)
    have e : nearV b p l = (k, p + 3) := by unfold nearV; rw [if_neg c0, if_neg c1]; dsimp only; rw [if_neg c2, if_neg c3, ← hk]
    rw [e]
    refine AC_of Try.func75 rfl Try.ntmps75 Try.results75 (by kernel_rfl) rfl ?_
    simp only [List.zipIdx, List.map, Nat.zero_add, Nat.reduceAdd]
    repeat (first | apply Aw_seq | apply Aw_block | apply Aw_skip | apply Aw_exit | refine Aw_condt rfl ?_ | refine Aw_condf rfl ?_ | (refine qr ?_; simp only [go_sem, Nat.reduceEqDiff, reduceIte, Nat.reduceAdd, Nat.reduceMul, Nat.reduceSub, Nat.reduceLT, Nat.reduceLeDiff, Nat.reduceBEq, g0, g1, hx, g2, g3]) | (refine qd (by kernel_rfl) (by kernel_rfl) ?_; simp only [go_sem, Nat.reduceEqDiff, reduceIte, Nat.reduceAdd, Nat.reduceMul, Nat.reduceSub, Nat.reduceLT, Nat.reduceLeDiff, Nat.reduceBEq, g0, g1, hx, g2, g3]) | refine dk (by kernel_rfl) ?_ | (refine qx (call_L (N' := [0]) (L := []) (k1) rfl (.cons (.nm rfl) (.cons (.nm rfl) (.nil))) (by decide) (by decide) (by decide) (by simp only [go_sem, Nat.reduceEqDiff, reduceIte, Nat.reduceAdd, Nat.reduceMul, Nat.reduceSub, Nat.reduceLT, Nat.reduceLeDiff, Nat.reduceBEq, g0, g1, hx, g2, g3]; first | done | rfl) (.inl rfl) rfl (by decide)) (by simp only [go_sem, Nat.reduceEqDiff, reduceIte, Nat.reduceAdd, Nat.reduceMul, Nat.reduceSub, Nat.reduceLT, Nat.reduceLeDiff, Nat.reduceBEq, g0, g1, hx, g2, g3]; first | done | rfl) rfl (by simp only [go_sem, Nat.reduceLT]) ?_; simp only [go_sem, Nat.reduceEqDiff, reduceIte, Nat.reduceAdd, Nat.reduceMul, Nat.reduceSub, Nat.reduceLT, Nat.reduceLeDiff, Nat.reduceBEq, g0, g1, hx, g2, g3]) | (refine qx (call_L (N' := [0]) (L := []) (k2) rfl (.cons (.nm rfl) (.cons (.nm rfl) (.nil))) (by decide) (by decide) (by decide) (by simp only [go_sem, Nat.reduceEqDiff, reduceIte, Nat.reduceAdd, Nat.reduceMul, Nat.reduceSub, Nat.reduceLT, Nat.reduceLeDiff, Nat.reduceBEq, g0, g1, hx, g2, g3]; first | done | rfl) (.inl rfl) rfl (by decide)) (by simp only [go_sem, Nat.reduceEqDiff, reduceIte, Nat.reduceAdd, Nat.reduceMul, Nat.reduceSub, Nat.reduceLT, Nat.reduceLeDiff, Nat.reduceBEq, g0, g1, hx, g2, g3]; first | done | rfl) rfl (by simp only [go_sem, Nat.reduceLT]) ?_; simp only [go_sem, Nat.reduceEqDiff, reduceIte, Nat.reduceAdd, Nat.reduceMul, Nat.reduceSub, Nat.reduceLT, Nat.reduceLeDiff, Nat.reduceBEq, g0, g1, hx, g2, g3]) | (refine qx (call_L (N' := [0]) (L := []) (k3) rfl (.cons (.nm rfl) (.cons (.nm rfl) (.nil))) (by decide) (by decide) (by decide) (by simp only [go_sem, Nat.reduceEqDiff, reduceIte, Nat.reduceAdd, Nat.reduceMul, Nat.reduceSub, Nat.reduceLT, Nat.reduceLeDiff, Nat.reduceBEq, g0, g1, hx, g2, g3]; first | done | rfl) (.inl rfl) rfl (by decide)) (by simp only [go_sem, Nat.reduceEqDiff, reduceIte, Nat.reduceAdd, Nat.reduceMul, Nat.reduceSub, Nat.reduceLT, Nat.reduceLeDiff, Nat.reduceBEq, g0, g1, hx, g2, g3]; first | done | rfl) rfl (by simp only [go_sem, Nat.reduceLT]) ?_; simp only [go_sem, Nat.reduceEqDiff, reduceIte, Nat.reduceAdd, Nat.reduceMul, Nat.reduceSub, Nat.reduceLT, Nat.reduceLeDiff, Nat.reduceBEq, g0, g1, hx, g2, g3]))
    exact Aw_ret (retL (M := [0]) (.inl rfl) (by simp only [go_sem, Nat.reduceEqDiff, reduceIte, Nat.reduceAdd, Nat.reduceMul, Nat.reduceSub, Nat.reduceLT, Nat.reduceLeDiff, Nat.reduceBEq]; first | done | rfl) rfl rfl (by rfl) (by simp only [go_sem, Nat.reduceEqDiff, reduceIte, Nat.reduceAdd, Nat.reduceMul, Nat.reduceSub, Nat.reduceLT, Nat.reduceLeDiff, Nat.reduceBEq]; first | done | rfl | (and_intros <;> rfl)) (by decide) (by intro m hm; first | omega | (rcases m with _ | _ | _ | _ | _ | _ | m <;> first | exact ⟨by decide, rfl⟩ | omega)))
noncomputable def keysL (b : List Int) : Nat → List ByteArray → Nat → List ByteArray × Nat
  | 0, l, p => (l, p)
  | n + 1, l, p => keysL b n (putK l (nearV b p l).1) (nearV b p l).2
noncomputable def keysV (b : List Int) (p : Nat) (most : Nat) : List ByteArray × Nat := keysL b (pickV b p ((most + 1 : Nat) : Int)) [] (p + 1)
theorem keysL_fin {b : List Int} (hb : byteL b) : ∀ (n : Nat) (l : List ByteArray) (p : Nat), p + 7 * n ≤ 700000 → l.length + n ≤ 1000 → (∀ s ∈ l, s.size ≤ 5) → (keysL b n l p).1.length ≤ l.length + n ∧ (∀ s ∈ (keysL b n l p).1, s.size ≤ 5) ∧ (keysL b n l p).2 ≤ p + 7 * n
  | 0, l, p, _, _, h => ⟨by simp [keysL], h, by simp [keysL]⟩
  | n + 1, l, p, h1, h2, h3 => by
    obtain ⟨a1, a2⟩ := nearV_fin hb (p := p) (K := 5) (l := l) (by omega) (by omega) (by omega) h3
    obtain ⟨b1, b2⟩ := putK_mem (ks := l) (k := (nearV b p l).1)
    obtain ⟨c1, c2, c3⟩ := keysL_fin hb n (putK l (nearV b p l).1) (nearV b p l).2 (by omega) (by omega) (fun s hs => by
      rcases b1 s hs with h | h
      · exact h3 s h
      · rw [h]; exact a1)
    exact ⟨by simp only [keysL]; omega, by simp only [keysL]; exact c2, by simp only [keysL]; omega⟩
theorem keysV_fin {b : List Int} (hb : byteL b) {p most : Nat} (hp : p ≤ 600000) (hm : most ≤ 100) : (keysV b p most).1.length ≤ most ∧ (∀ s ∈ (keysV b p most).1, s.size ≤ 5) ∧ (keysV b p most).2 ≤ p + 1 + 7 * most := by
  have h := pickV_lt (n := ((most + 1 : Nat) : Int)) hb (show p ≤ 1000000 by omega) (by omega) (by omega)
  obtain ⟨h1, h2, h3⟩ := keysL_fin hb (pickV b p ((most + 1 : Nat) : Int)) [] (p + 1) (by omega) (by show 0 + _ ≤ _; omega) (by simp)
  unfold keysV
  rw [show ([] : List ByteArray).length = 0 from rfl] at h1
  exact ⟨by omega, h2, by omega⟩
structure KsI (b : List Int) (p0 most : Nat) where
  n : Nat
  l : List ByteArray
  p : Nat
  hn : l.length + n ≤ 1000
  hs : ∀ s ∈ l, s.size ≤ 5
  hp : p + 7 * n ≤ 700000
  h : keysL b n l p = keysV b p0 most
theorem l71Keys_ac {b : List Int} {p most : Nat} (hb : byteL b) (hp : p ≤ 600000) (hm : most ≤ 100) : AC Try.prog 152 [.c (.ph 0 0 0), iT most] (hpL [some (rdO b p)]) 1 ⟨.t (strsT (keysV b p most).1), hpL [some (rdO b (keysV b p most).2)], 1⟩ := by
  refine AC_of Try.func152 rfl Try.ntmps152 Try.results152 (by kernel_rfl) rfl ?_
  simp only [List.zipIdx, List.map, Nat.zero_add, Nat.reduceAdd]
  have w0 : IntKind.i64.wrap ((most : Int) + 1) = ((most + 1 : Nat) : Int) := wn (by omega) (by omega)
  have k := pickV_ac (n := ((most + 1 : Nat) : Int)) hb (show p ≤ 1000000 by omega) (by omega)
  have h6 := pickV_lt (n := ((most + 1 : Nat) : Int)) hb (show p ≤ 1000000 by omega) (by omega) (by omega)
  repeat (first | apply Aw_seq | apply Aw_block | apply Aw_skip | apply Aw_exit | refine Aw_condt rfl ?_ | refine Aw_condf rfl ?_ | (refine qr ?_; simp only [go_sem, Nat.reduceEqDiff, reduceIte, Nat.reduceAdd, Nat.reduceMul, Nat.reduceSub, Nat.reduceLT, Nat.reduceLeDiff, Nat.reduceBEq, w0]) | (refine qd (by kernel_rfl) (by kernel_rfl) ?_; simp only [go_sem, Nat.reduceEqDiff, reduceIte, Nat.reduceAdd, Nat.reduceMul, Nat.reduceSub, Nat.reduceLT, Nat.reduceLeDiff, Nat.reduceBEq, w0]) | refine dk (by kernel_rfl) ?_ | (refine qx (call_L (N' := [0]) (L := []) (k) rfl (.cons (.nm rfl) (.cons (.nm rfl) (.nil))) (by decide) (by decide) (by decide) (by simp only [go_sem, Nat.reduceEqDiff, reduceIte, Nat.reduceAdd, Nat.reduceMul, Nat.reduceSub, Nat.reduceLT, Nat.reduceLeDiff, Nat.reduceBEq, w0]; first | done | rfl) (.inl rfl) rfl (by decide)) (by simp only [go_sem, Nat.reduceEqDiff, reduceIte, Nat.reduceAdd, Nat.reduceMul, Nat.reduceSub, Nat.reduceLT, Nat.reduceLeDiff, Nat.reduceBEq, w0]; first | done | rfl) rfl (by simp only [go_sem, Nat.reduceLT]) ?_; simp only [go_sem, Nat.reduceEqDiff, reduceIte, Nat.reduceAdd, Nat.reduceMul, Nat.reduceSub, Nat.reduceLT, Nat.reduceLeDiff, Nat.reduceBEq, w0]))
  refine Aw.rw (rwL (l' := [(6, .t (iT (pickV b p ((most + 1 : Nat) : Int) : Nat))), (5, .t (.c (.h 1))), (0, .t (.c (.ph 0 0 0)))]) (os := [some (rdO b (p + 1)), some (kRow [])]) (M := [0, 2]) (n' := 2) (by repeat (first | exact trivial | refine ⟨rfl, rfl, ?_⟩)) (by rfl) (by simp only [go_sem, Nat.reduceEqDiff, reduceIte, Nat.reduceAdd, Nat.reduceMul, Nat.reduceSub, Nat.reduceLT, Nat.reduceLeDiff, Nat.reduceBEq, List.map_nil]; first | done | rfl) (by decide) (by intro m hm; first | omega | (rcases m with _ | _ | _ | _ | _ | _ | m <;> first | exact ⟨by decide, rfl⟩ | omega))) ?_
  refine Aw.setL (l' := [(6, .t (iT (pickV b p ((most + 1 : Nat) : Int) : Nat))), (5, .t (strsT [])), (0, .t (.c (.ph 0 0 0)))]) (os' := [some (rdO b (p + 1))]) (n' := 2) [1] (by repeat (first | exact trivial | refine ⟨SetA.same rfl, ?_⟩ | refine ⟨SetA.row rfl rfl (by decide), ?_⟩)) (by repeat (first | exact trivial | refine ⟨rfl, rfl, ?_⟩ | show SubL _ _ _ _)) (by decide) ?_
  refine Aw_loop_rw (ι := KsI b p most) (fun q => S [(6, .t (iT (q.n : Nat))), (5, .t (strsT q.l)), (0, .t (.c (.ph 0 0 0)))] (hpL [some (rdO b q.p)]) 2) (fun q => q.n) ⟨pickV b p ((most + 1 : Nat) : Int), [], p + 1, by show 0 + _ ≤ _; omega, by simp, by omega, rfl⟩ ?_
  rintro ⟨n, l, q, hn, hs, hq, h⟩
  dsimp only
  rcases n with _ | n
  · have g1 : decide ((0 : Int) < ((0 : Nat) : Int)) = false := rfl
    rw [← h]
    repeat (first | apply Aw_seq | apply Aw_block | apply Aw_skip | apply Aw_exit | refine Aw_condt rfl ?_ | refine Aw_condf rfl ?_ | (refine qr ?_; simp only [go_sem, Nat.reduceEqDiff, reduceIte, Nat.reduceAdd, Nat.reduceMul, Nat.reduceSub, Nat.reduceLT, Nat.reduceLeDiff, Nat.reduceBEq, g1]) | (refine qd (by kernel_rfl) (by kernel_rfl) ?_; simp only [go_sem, Nat.reduceEqDiff, reduceIte, Nat.reduceAdd, Nat.reduceMul, Nat.reduceSub, Nat.reduceLT, Nat.reduceLeDiff, Nat.reduceBEq, g1]) | refine dk (by kernel_rfl) ?_)
    exact Aw_ret (retL (M := [0]) (.inl rfl) (by simp only [go_sem, Nat.reduceEqDiff, reduceIte, Nat.reduceAdd, Nat.reduceMul, Nat.reduceSub, Nat.reduceLT, Nat.reduceLeDiff, Nat.reduceBEq]; first | done | rfl) rfl rfl (by rfl) (by simp only [go_sem, Nat.reduceEqDiff, reduceIte, Nat.reduceAdd, Nat.reduceMul, Nat.reduceSub, Nat.reduceLT, Nat.reduceLeDiff, Nat.reduceBEq, keysL]; first | done | rfl | (and_intros <;> rfl)) (by decide) (by intro m hm; first | omega | (rcases m with _ | _ | _ | _ | _ | _ | m <;> first | exact ⟨by decide, rfl⟩ | omega)))
  · have g1 : decide ((0 : Int) < ((n + 1 : Nat) : Int)) = true := decide_eq_true (by omega)
    have w1 : IntKind.i64.wrap (((n + 1 : Nat) : Int) - 1) = (n : Int) := wn (by omega) (by omega)
    have kn := l71Near_ac (l := l) hb (show q ≤ 800000 by omega) (by omega) (fun s h => by have := hs s h; omega)
    have kp := l2Put_ac l (nearV b q l).1 (by omega)
    obtain ⟨a1, a2⟩ := nearV_fin hb (p := q) (K := 5) (l := l) (by omega) (by omega) (by omega) hs
    obtain ⟨b1, b2⟩ := putK_mem (ks := l) (k := (nearV b q l).1)
    repeat (first | apply Aw_seq | apply Aw_block | apply Aw_skip | apply Aw_exit | refine Aw_condt rfl ?_ | refine Aw_condf rfl ?_ | (refine qr ?_; simp only [go_sem, Nat.reduceEqDiff, reduceIte, Nat.reduceAdd, Nat.reduceMul, Nat.reduceSub, Nat.reduceLT, Nat.reduceLeDiff, Nat.reduceBEq, g1, w1]) | (refine qd (by kernel_rfl) (by kernel_rfl) ?_; simp only [go_sem, Nat.reduceEqDiff, reduceIte, Nat.reduceAdd, Nat.reduceMul, Nat.reduceSub, Nat.reduceLT, Nat.reduceLeDiff, Nat.reduceBEq, g1, w1]) | refine dk (by kernel_rfl) ?_ | (refine qp (kp) (by simp only [go_sem, Nat.reduceEqDiff, reduceIte, Nat.reduceAdd, Nat.reduceMul, Nat.reduceSub, Nat.reduceLT, Nat.reduceLeDiff, Nat.reduceBEq, g1, w1]; first | done | rfl) rfl (by simp only [go_sem, Nat.reduceLT]) rfl rfl ?_; simp only [go_sem, Nat.reduceEqDiff, reduceIte, Nat.reduceAdd, Nat.reduceMul, Nat.reduceSub, Nat.reduceLT, Nat.reduceLeDiff, Nat.reduceBEq, g1, w1]) | (refine qx (call_L (N' := [0]) (L := []) (kn) rfl (.cons (.nm rfl) (.cons (.nm rfl) (.nil))) (by decide) (by decide) (by decide) (by simp only [go_sem, Nat.reduceEqDiff, reduceIte, Nat.reduceAdd, Nat.reduceMul, Nat.reduceSub, Nat.reduceLT, Nat.reduceLeDiff, Nat.reduceBEq, g1, w1]; first | done | rfl) (.inl rfl) rfl (by decide)) (by simp only [go_sem, Nat.reduceEqDiff, reduceIte, Nat.reduceAdd, Nat.reduceMul, Nat.reduceSub, Nat.reduceLT, Nat.reduceLeDiff, Nat.reduceBEq, g1, w1]; first | done | rfl) rfl (by simp only [go_sem, Nat.reduceLT]) ?_; simp only [go_sem, Nat.reduceEqDiff, reduceIte, Nat.reduceAdd, Nat.reduceMul, Nat.reduceSub, Nat.reduceLT, Nat.reduceLeDiff, Nat.reduceBEq, g1, w1]))
    refine ⟨⟨n, putK l (nearV b q l).1, (nearV b q l).2, by omega, fun s hs2 => (b1 s hs2).elim (hs s) (fun e => by rw [e]; exact a1), by omega, h⟩, [0], ?_, rwL (by repeat (first | exact trivial | refine ⟨rfl, rfl, ?_⟩)) (by rfl) (by simp only [go_sem, Nat.reduceEqDiff, reduceIte, Nat.reduceAdd, Nat.reduceMul, Nat.reduceSub, Nat.reduceLT, Nat.reduceLeDiff, Nat.reduceBEq]; first | done | rfl) (by decide) (by intro m hm; first | omega | (rcases m with _ | _ | _ | _ | _ | _ | m <;> first | exact ⟨by decide, rfl⟩ | omega))⟩
    show n < n + 1; omega
end Go.Proofs.Ytcbhgglpgphimaa.Ab
namespace Go.Proofs.Ytcbhgglpgphimaa.Ab
set_option linter.deprecated false
set_option linter.unusedVariables false
set_option linter.unusedSimpArgs false
open Go Go.Proofs
set_option maxRecDepth 10000
set_option maxHeartbeats 8000000
set_option linter.unusedSimpArgs false
set_option linter.unusedVariables false
noncomputable def deedV (b : List Int) (p : Nat) (l : List ByteArray) : Deed × Nat :=
  if pickV b p 10 < 5 then (⟨1, (nearV b (p + 1) l).1, (pickV b (nearV b (p + 1) l).2 100 : Nat)⟩, (nearV b (p + 1) l).2 + 1)
  else if pickV b p 10 = 5 then (⟨2, (nearV b (p + 1) l).1, 0⟩, (nearV b (p + 1) l).2)
  else if pickV b p 10 = 6 then (⟨3, zs, 0⟩, p + 1)
  else if pickV b p 10 = 7 then (⟨4, zs, (pickV b (p + 1) 20 : Nat)⟩, p + 2)
  else if pickV b p 10 = 8 then (⟨5, zs, 0⟩, p + 1)
  else (⟨6, zs, (pickV b (p + 1) 3 : Nat)⟩, p + 2)
theorem deedV_fin {b : List Int} (hb : byteL b) {p : Nat} {l : List ByteArray} (hp : p ≤ 500000) (hl : l.length ≤ 1000) (hs : ∀ s ∈ l, s.size ≤ 5) : (deedV b p l).1.key.size ≤ 5 ∧ (deedV b p l).2 ≤ p + 9 := by
  have h := nearV_fin hb (p := p + 1) (K := 5) (l := l) (by omega) hl (by omega) hs
  have z : zs.size = 0 := rfl
  unfold deedV
  (repeat' split) <;> dsimp only <;> (constructor <;> omega)
theorem l71Deed_ac {b : List Int} {p : Nat} {l : List ByteArray} (hb : byteL b) (hp : p ≤ 500000) (hl : l.length ≤ 1000) (hs : ∀ s ∈ l, s.size ≤ 5) : AC Try.prog 153 [.c (.ph 0 0 0), strsT l] (hpL [some (rdO b p)]) 1 ⟨.t (deedT (deedV b p l).1), hpL [some (rdO b (deedV b p l).2)], 1⟩ := by
  have k1 := pickV_ac (n := 10) hb (show p ≤ 1000000 by omega) (by omega)
  have h1 := pickV_lt (n := 10) hb (show p ≤ 1000000 by omega) (by omega) (by omega)
  have kn := l71Near_ac (l := l) hb (show p + 1 ≤ 800000 by omega) hl (fun s h => by have := hs s h; omega)
  have hn := nearV_fin hb (p := p + 1) (K := 5) (l := l) (by omega) hl (by omega) hs
  have k2 := pickV_ac (n := 100) hb (show (nearV b (p + 1) l).2 ≤ 1000000 by omega) (by omega)
  have k3 := pickV_ac (n := 20) hb (show p + 1 ≤ 1000000 by omega) (by omega)
  have k4 := pickV_ac (n := 3) hb (show p + 1 ≤ 1000000 by omega) (by omega)
  have hc : pickV b p 10 = 0 ∨ pickV b p 10 = 1 ∨ pickV b p 10 = 2 ∨ pickV b p 10 = 3 ∨ pickV b p 10 = 4 ∨ pickV b p 10 = 5 ∨ pickV b p 10 = 6 ∨ pickV b p 10 = 7 ∨ pickV b p 10 = 8 ∨ pickV b p 10 = 9 := by omega
  unfold deedV
  rcases hc with hv | hv | hv | hv | hv | hv | hv | hv | hv | hv
  · rw [hv] at k1
    have g0 : decide (((0 : Nat) : Int) = 0) = true := rfl
    simp only [hv]
    rw [if_pos (show 0 < 5 by decide)]
    refine AC_of Try.func153 rfl Try.ntmps153 Try.results153 (by kernel_rfl) rfl ?_
    simp only [List.zipIdx, List.map, Nat.zero_add, Nat.reduceAdd]
    repeat (first | apply Aw_seq | apply Aw_block | apply Aw_skip | apply Aw_exit | refine Aw_condt rfl ?_ | refine Aw_condf rfl ?_ | (refine qr ?_; simp only [go_sem, Nat.reduceEqDiff, reduceIte, Nat.reduceAdd, Nat.reduceMul, Nat.reduceSub, Nat.reduceLT, Nat.reduceLeDiff, Nat.reduceBEq, g0]) | (refine qd (by kernel_rfl) (by kernel_rfl) ?_; simp only [go_sem, Nat.reduceEqDiff, reduceIte, Nat.reduceAdd, Nat.reduceMul, Nat.reduceSub, Nat.reduceLT, Nat.reduceLeDiff, Nat.reduceBEq, g0]) | refine dk (by kernel_rfl) ?_ | (refine qx (call_L (N' := [0]) (L := []) (k1) rfl (.cons (.nm rfl) (.cons (.nm rfl) (.nil))) (by decide) (by decide) (by decide) (by simp only [go_sem, Nat.reduceEqDiff, reduceIte, Nat.reduceAdd, Nat.reduceMul, Nat.reduceSub, Nat.reduceLT, Nat.reduceLeDiff, Nat.reduceBEq, g0]; first | done | rfl) (.inl rfl) rfl (by decide)) (by simp only [go_sem, Nat.reduceEqDiff, reduceIte, Nat.reduceAdd, Nat.reduceMul, Nat.reduceSub, Nat.reduceLT, Nat.reduceLeDiff, Nat.reduceBEq, g0]; first | done | rfl) rfl (by simp only [go_sem, Nat.reduceLT]) ?_; simp only [go_sem, Nat.reduceEqDiff, reduceIte, Nat.reduceAdd, Nat.reduceMul, Nat.reduceSub, Nat.reduceLT, Nat.reduceLeDiff, Nat.reduceBEq, g0]) | (refine qx (call_L (N' := [0]) (L := []) (kn) rfl (.cons (.nm rfl) (.cons (.nm rfl) (.nil))) (by decide) (by decide) (by decide) (by simp only [go_sem, Nat.reduceEqDiff, reduceIte, Nat.reduceAdd, Nat.reduceMul, Nat.reduceSub, Nat.reduceLT, Nat.reduceLeDiff, Nat.reduceBEq, g0]; first | done | rfl) (.inl rfl) rfl (by decide)) (by simp only [go_sem, Nat.reduceEqDiff, reduceIte, Nat.reduceAdd, Nat.reduceMul, Nat.reduceSub, Nat.reduceLT, Nat.reduceLeDiff, Nat.reduceBEq, g0]; first | done | rfl) rfl (by simp only [go_sem, Nat.reduceLT]) ?_; simp only [go_sem, Nat.reduceEqDiff, reduceIte, Nat.reduceAdd, Nat.reduceMul, Nat.reduceSub, Nat.reduceLT, Nat.reduceLeDiff, Nat.reduceBEq, g0]) | (refine qx (call_L (N' := [0]) (L := []) (k2) rfl (.cons (.nm rfl) (.cons (.nm rfl) (.nil))) (by decide) (by decide) (by decide) (by simp only [go_sem, Nat.reduceEqDiff, reduceIte, Nat.reduceAdd, Nat.reduceMul, Nat.reduceSub, Nat.reduceLT, Nat.reduceLeDiff, Nat.reduceBEq, g0]; first | done | rfl) (.inl rfl) rfl (by decide)) (by simp only [go_sem, Nat.reduceEqDiff, reduceIte, Nat.reduceAdd, Nat.reduceMul, Nat.reduceSub, Nat.reduceLT, Nat.reduceLeDiff, Nat.reduceBEq, g0]; first | done | rfl) rfl (by simp only [go_sem, Nat.reduceLT]) ?_; simp only [go_sem, Nat.reduceEqDiff, reduceIte, Nat.reduceAdd, Nat.reduceMul, Nat.reduceSub, Nat.reduceLT, Nat.reduceLeDiff, Nat.reduceBEq, g0]))
    exact Aw_ret (retL (M := [0]) (.inl rfl) (by simp only [go_sem, Nat.reduceEqDiff, reduceIte, Nat.reduceAdd, Nat.reduceMul, Nat.reduceSub, Nat.reduceLT, Nat.reduceLeDiff, Nat.reduceBEq]; first | done | rfl) rfl rfl (by rfl) (by simp only [go_sem, Nat.reduceEqDiff, reduceIte, Nat.reduceAdd, Nat.reduceMul, Nat.reduceSub, Nat.reduceLT, Nat.reduceLeDiff, Nat.reduceBEq]; first | done | rfl | (and_intros <;> rfl)) (by decide) (by intro m hm; first | omega | (rcases m with _ | _ | _ | _ | _ | _ | m <;> first | exact ⟨by decide, rfl⟩ | omega)))
  · rw [hv] at k1
    have g0 : decide (((1 : Nat) : Int) = 0) = false := rfl
    have g1 : decide (((1 : Nat) : Int) = 1) = true := rfl
    simp only [hv]
    rw [if_pos (show 1 < 5 by decide)]
    refine AC_of Try.func153 rfl Try.ntmps153 Try.results153 (by kernel_rfl) rfl ?_
    simp only [List.zipIdx, List.map, Nat.zero_add, Nat.reduceAdd]
    repeat (first | apply Aw_seq | apply Aw_block | apply Aw_skip | apply Aw_exit | refine Aw_condt rfl ?_ | refine Aw_condf rfl ?_ | (refine qr ?_; simp only [go_sem, Nat.reduceEqDiff, reduceIte, Nat.reduceAdd, Nat.reduceMul, Nat.reduceSub, Nat.reduceLT, Nat.reduceLeDiff, Nat.reduceBEq, g0, g1]) | (refine qd (by kernel_rfl) (by kernel_rfl) ?_; simp only [go_sem, Nat.reduceEqDiff, reduceIte, Nat.reduceAdd, Nat.reduceMul, Nat.reduceSub, Nat.reduceLT, Nat.reduceLeDiff, Nat.reduceBEq, g0, g1]) | refine dk (by kernel_rfl) ?_ | (refine qx (call_L (N' := [0]) (L := []) (k1) rfl (.cons (.nm rfl) (.cons (.nm rfl) (.nil))) (by decide) (by decide) (by decide) (by simp only [go_sem, Nat.reduceEqDiff, reduceIte, Nat.reduceAdd, Nat.reduceMul, Nat.reduceSub, Nat.reduceLT, Nat.reduceLeDiff, Nat.reduceBEq, g0, g1]; first | done | rfl) (.inl rfl) rfl (by decide)) (by simp only [go_sem, Nat.reduceEqDiff, reduceIte, Nat.reduceAdd, Nat.reduceMul, Nat.reduceSub, Nat.reduceLT, Nat.reduceLeDiff, Nat.reduceBEq, g0, g1]; first | done | rfl) rfl (by simp only [go_sem, Nat.reduceLT]) ?_; simp only [go_sem, Nat.reduceEqDiff, reduceIte, Nat.reduceAdd, Nat.reduceMul, Nat.reduceSub, Nat.reduceLT, Nat.reduceLeDiff, Nat.reduceBEq, g0, g1]) | (refine qx (call_L (N' := [0]) (L := []) (kn) rfl (.cons (.nm rfl) (.cons (.nm rfl) (.nil))) (by decide) (by decide) (by decide) (by simp only [go_sem, Nat.reduceEqDiff, reduceIte, Nat.reduceAdd, Nat.reduceMul, Nat.reduceSub, Nat.reduceLT, Nat.reduceLeDiff, Nat.reduceBEq, g0, g1]; first | done | rfl) (.inl rfl) rfl (by decide)) (by simp only [go_sem, Nat.reduceEqDiff, reduceIte, Nat.reduceAdd, Nat.reduceMul, Nat.reduceSub, Nat.reduceLT, Nat.reduceLeDiff, Nat.reduceBEq, g0, g1]; first | done | rfl) rfl (by simp only [go_sem, Nat.reduceLT]) ?_; simp only [go_sem, Nat.reduceEqDiff, reduceIte, Nat.reduceAdd, Nat.reduceMul, Nat.reduceSub, Nat.reduceLT, Nat.reduceLeDiff, Nat.reduceBEq, g0, g1]) | (refine qx (call_L (N' := [0]) (L := []) (k2) rfl (.cons (.nm rfl) (.cons (.nm rfl) (.nil))) (by decide) (by decide) (by decide) (by simp only [go_sem, Nat.reduceEqDiff, reduceIte, Nat.reduceAdd, Nat.reduceMul, Nat.reduceSub, Nat.reduceLT, Nat.reduceLeDiff, Nat.reduceBEq, g0, g1]; first | done | rfl) (.inl rfl) rfl (by decide)) (by simp only [go_sem, Nat.reduceEqDiff, reduceIte, Nat.reduceAdd, Nat.reduceMul, Nat.reduceSub, Nat.reduceLT, Nat.reduceLeDiff, Nat.reduceBEq, g0, g1]; first | done | rfl) rfl (by simp only [go_sem, Nat.reduceLT]) ?_; simp only [go_sem, Nat.reduceEqDiff, reduceIte, Nat.reduceAdd, Nat.reduceMul, Nat.reduceSub, Nat.reduceLT, Nat.reduceLeDiff, Nat.reduceBEq, g0, g1]))
    exact Aw_ret (retL (M := [0]) (.inl rfl) (by simp only [go_sem, Nat.reduceEqDiff, reduceIte, Nat.reduceAdd, Nat.reduceMul, Nat.reduceSub, Nat.reduceLT, Nat.reduceLeDiff, Nat.reduceBEq]; first | done | rfl) rfl rfl (by rfl) (by simp only [go_sem, Nat.reduceEqDiff, reduceIte, Nat.reduceAdd, Nat.reduceMul, Nat.reduceSub, Nat.reduceLT, Nat.reduceLeDiff, Nat.reduceBEq]; first | done | rfl | (and_intros <;> rfl)) (by decide) (by intro m hm; first | omega | (rcases m with _ | _ | _ | _ | _ | _ | m <;> first | exact ⟨by decide, rfl⟩ | omega)))
  · rw [hv] at k1
    have g0 : decide (((2 : Nat) : Int) = 0) = false := rfl
    have g1 : decide (((2 : Nat) : Int) = 1) = false := rfl
    have g2 : decide (((2 : Nat) : Int) = 2) = true := rfl
    simp only [hv]
    rw [if_pos (show 2 < 5 by decide)]
    refine AC_of Try.func153 rfl Try.ntmps153 Try.results153 (by kernel_rfl) rfl ?_
    simp only [List.zipIdx, List.map, Nat.zero_add, Nat.reduceAdd]
    repeat (first | apply Aw_seq | apply Aw_block | apply Aw_skip | apply Aw_exit | refine Aw_condt rfl ?_ | refine Aw_condf rfl ?_ | (refine qr ?_; simp only [go_sem, Nat.reduceEqDiff, reduceIte, Nat.reduceAdd, Nat.reduceMul, Nat.reduceSub, Nat.reduceLT, Nat.reduceLeDiff, Nat.reduceBEq, g0, g1, g2]) | (refine qd (by kernel_rfl) (by kernel_rfl) ?_; simp only [go_sem, Nat.reduceEqDiff, reduceIte, Nat.reduceAdd, Nat.reduceMul, Nat.reduceSub, Nat.reduceLT, Nat.reduceLeDiff, Nat.reduceBEq, g0, g1, g2]) | refine dk (by kernel_rfl) ?_ | (refine qx (call_L (N' := [0]) (L := []) (k1) rfl (.cons (.nm rfl) (.cons (.nm rfl) (.nil))) (by decide) (by decide) (by decide) (by simp only [go_sem, Nat.reduceEqDiff, reduceIte, Nat.reduceAdd, Nat.reduceMul, Nat.reduceSub, Nat.reduceLT, Nat.reduceLeDiff, Nat.reduceBEq, g0, g1, g2]; first | done | rfl) (.inl rfl) rfl (by decide)) (by simp only [go_sem, Nat.reduceEqDiff, reduceIte, Nat.reduceAdd, Nat.reduceMul, Nat.reduceSub, Nat.reduceLT, Nat.reduceLeDiff, Nat.reduceBEq, g0, g1, g2]; first | done | rfl) rfl (by simp only [go_sem, Nat.reduceLT]) ?_; simp only [go_sem, Nat.reduceEqDiff, reduceIte, Nat.reduceAdd, Nat.reduceMul, Nat.reduceSub, Nat.reduceLT, Nat.reduceLeDiff, Nat.reduceBEq, g0, g1, g2]) | (refine qx (call_L (N' := [0]) (L := []) (kn) rfl (.cons (.nm rfl) (.cons (.nm rfl) (.nil))) (by decide) (by decide) (by decide) (by simp only [go_sem, Nat.reduceEqDiff, reduceIte, Nat.reduceAdd, Nat.reduceMul, Nat.reduceSub, Nat.reduceLT, Nat.reduceLeDiff, Nat.reduceBEq, g0, g1, g2]; first | done | rfl) (.inl rfl) rfl (by decide)) (by simp only [go_sem, Nat.reduceEqDiff, reduceIte, Nat.reduceAdd, Nat.reduceMul, Nat.reduceSub, Nat.reduceLT, Nat.reduceLeDiff, Nat.reduceBEq, g0, g1, g2]; first | done | rfl) rfl (by simp only [go_sem, Nat.reduceLT]) ?_; simp only [go_sem, Nat.reduceEqDiff, reduceIte, Nat.reduceAdd, Nat.reduceMul, Nat.reduceSub, Nat.reduceLT, Nat.reduceLeDiff, Nat.reduceBEq, g0, g1, g2]) | (refine qx (call_L (N' := [0]) (L := []) (k2) rfl (.cons (.nm rfl) (.cons (.nm rfl) (.nil))) (by decide) (by decide) (by decide) (by simp only [go_sem, Nat.reduceEqDiff, reduceIte, Nat.reduceAdd, Nat.reduceMul, Nat.reduceSub, Nat.reduceLT, Nat.reduceLeDiff, Nat.reduceBEq, g0, g1, g2]; first | done | rfl) (.inl rfl) rfl (by decide)) (by simp only [go_sem, Nat.reduceEqDiff, reduceIte, Nat.reduceAdd, Nat.reduceMul, Nat.reduceSub, Nat.reduceLT, Nat.reduceLeDiff, Nat.reduceBEq, g0, g1, g2]; first | done | rfl) rfl (by simp only [go_sem, Nat.reduceLT]) ?_; simp only [go_sem, Nat.reduceEqDiff, reduceIte, Nat.reduceAdd, Nat.reduceMul, Nat.reduceSub, Nat.reduceLT, Nat.reduceLeDiff, Nat.reduceBEq, g0, g1, g2]))
    exact Aw_ret (retL (M := [0]) (.inl rfl) (by simp only [go_sem, Nat.reduceEqDiff, reduceIte, Nat.reduceAdd, Nat.reduceMul, Nat.reduceSub, Nat.reduceLT, Nat.reduceLeDiff, Nat.reduceBEq]; first | done | rfl) rfl rfl (by rfl) (by simp only [go_sem, Nat.reduceEqDiff, reduceIte, Nat.reduceAdd, Nat.reduceMul, Nat.reduceSub, Nat.reduceLT, Nat.reduceLeDiff, Nat.reduceBEq]; first | done | rfl | (and_intros <;> rfl)) (by decide) (by intro m hm; first | omega | (rcases m with _ | _ | _ | _ | _ | _ | m <;> first | exact ⟨by decide, rfl⟩ | omega)))
  · rw [hv] at k1
    have g0 : decide (((3 : Nat) : Int) = 0) = false := rfl
    have g1 : decide (((3 : Nat) : Int) = 1) = false := rfl
    have g2 : decide (((3 : Nat) : Int) = 2) = false := rfl
    have g3 : decide (((3 : Nat) : Int) = 3) = true := rfl
    simp only [hv]
    rw [if_pos (show 3 < 5 by decide)]
    refine AC_of Try.func153 rfl Try.ntmps153 Try.results153 (by kernel_rfl) rfl ?_
    simp only [List.zipIdx, List.map, Nat.zero_add, Nat.reduceAdd]
    repeat (first | apply Aw_seq | apply Aw_block | apply Aw_skip | apply Aw_exit | refine Aw_condt rfl ?_ | refine Aw_condf rfl ?_ | (refine qr ?_; simp only [go_sem, Nat.reduceEqDiff, reduceIte, Nat.reduceAdd, Nat.reduceMul, Nat.reduceSub, Nat.reduceLT, Nat.reduceLeDiff, Nat.reduceBEq, g0, g1, g2, g3]) | (refine qd (by kernel_rfl) (by kernel_rfl) ?_; simp only [go_sem, Nat.reduceEqDiff, reduceIte, Nat.reduceAdd, Nat.reduceMul, Nat.reduceSub, Nat.reduceLT, Nat.reduceLeDiff, Nat.reduceBEq, g0, g1, g2, g3]) | refine dk (by kernel_rfl) ?_ | (refine qx (call_L (N' := [0]) (L := []) (k1) rfl (.cons (.nm rfl) (.cons (.nm rfl) (.nil))) (by decide) (by decide) (by decide) (by simp only [go_sem, Nat.reduceEqDiff, reduceIte, Nat.reduceAdd, Nat.reduceMul, Nat.reduceSub, Nat.reduceLT, Nat.reduceLeDiff, Nat.reduceBEq, g0, g1, g2, g3]; first | done | rfl) (.inl rfl) rfl (by decide)) (by simp only [go_sem, Nat.reduceEqDiff, reduceIte, Nat.reduceAdd, Nat.reduceMul, Nat.reduceSub, Nat.reduceLT, Nat.reduceLeDiff, Nat.reduceBEq, g0, g1, g2, g3]; first | done | rfl) rfl (by simp only [go_sem, Nat.reduceLT]) ?_; simp only [go_sem, Nat.reduceEqDiff, reduceIte, Nat.reduceAdd, Nat.reduceMul, Nat.reduceSub, Nat.reduceLT, Nat.reduceLeDiff, Nat.reduceBEq, g0, g1, g2, g3]) | (refine qx (call_L (N' := [0]) (L := []) (kn) rfl (.cons (.nm rfl) (.cons (.nm rfl) (.nil))) (by decide) (by decide) (by decide) (by simp only [go_sem, Nat.reduceEqDiff, reduceIte, Nat.reduceAdd, Nat.reduceMul, Nat.reduceSub, Nat.reduceLT, Nat.reduceLeDiff, Nat.reduceBEq, g0, g1, g2, g3]; first | done | rfl) (.inl rfl) rfl (by decide)) (by simp only [go_sem, Nat.reduceEqDiff, reduceIte, Nat.reduceAdd, Nat.reduceMul, Nat.reduceSub, Nat.reduceLT, Nat.reduceLeDiff, Nat.reduceBEq, g0, g1, g2, g3]; first | done | rfl) rfl (by simp only [go_sem, Nat.reduceLT]) ?_; simp only [go_sem, Nat.reduceEqDiff, reduceIte, Nat.reduceAdd, Nat.reduceMul, Nat.reduceSub, Nat.reduceLT, Nat.reduceLeDiff, Nat.reduceBEq, g0, g1, g2, g3]) | (refine qx (call_L (N' := [0]) (L := []) (k2) rfl (.cons (.nm rfl) (.cons (.nm rfl) (.nil))) (by decide) (by decide) (by decide) (by simp only [go_sem, Nat.reduceEqDiff, reduceIte, Nat.reduceAdd, Nat.reduceMul, Nat.reduceSub, Nat.reduceLT, Nat.reduceLeDiff, Nat.reduceBEq, g0, g1, g2, g3]; first | done | rfl) (.inl rfl) rfl (by decide)) (by simp only [go_sem, Nat.reduceEqDiff, reduceIte, Nat.reduceAdd, Nat.reduceMul, Nat.reduceSub, Nat.reduceLT, Nat.reduceLeDiff, Nat.reduceBEq, g0, g1, g2, g3]; first | done | rfl) rfl (by simp only [go_sem, Nat.reduceLT]) ?_; simp only [go_sem, Nat.reduceEqDiff, reduceIte, Nat.reduceAdd, Nat.reduceMul, Nat.reduceSub, Nat.reduceLT, Nat.reduceLeDiff, Nat.reduceBEq, g0, g1, g2, g3]))
    exact Aw_ret (retL (M := [0]) (.inl rfl) (by simp only [go_sem, Nat.reduceEqDiff, reduceIte, Nat.reduceAdd, Nat.reduceMul, Nat.reduceSub, Nat.reduceLT, Nat.reduceLeDiff, Nat.reduceBEq]; first | done | rfl) rfl rfl (by rfl) (by simp only [go_sem, Nat.reduceEqDiff, reduceIte, Nat.reduceAdd, Nat.reduceMul, Nat.reduceSub, Nat.reduceLT, Nat.reduceLeDiff, Nat.reduceBEq]; first | done | rfl | (and_intros <;> rfl)) (by decide) (by intro m hm; first | omega | (rcases m with _ | _ | _ | _ | _ | _ | m <;> first | exact ⟨by decide, rfl⟩ | omega)))
  · rw [hv] at k1
    have g0 : decide (((4 : Nat) : Int) = 0) = false := rfl
    have g1 : decide (((4 : Nat) : Int) = 1) = false := rfl
    have g2 : decide (((4 : Nat) : Int) = 2) = false := rfl
    have g3 : decide (((4 : Nat) : Int) = 3) = false := rfl
    have g4 : decide (((4 : Nat) : Int) = 4) = true := rfl
    simp only [hv]
    rw [if_pos (show 4 < 5 by decide)]
    refine AC_of Try.func153 rfl Try.ntmps153 Try.results153 (by kernel_rfl) rfl ?_
    simp only [List.zipIdx, List.map, Nat.zero_add, Nat.reduceAdd]
    repeat (first | apply Aw_seq | apply Aw_block | apply Aw_skip | apply Aw_exit | refine Aw_condt rfl ?_ | refine Aw_condf rfl ?_ | (refine qr ?_; simp only [go_sem, Nat.reduceEqDiff, reduceIte, Nat.reduceAdd, Nat.reduceMul, Nat.reduceSub, Nat.reduceLT, Nat.reduceLeDiff, Nat.reduceBEq, g0, g1, g2, g3, g4]) | (refine qd (by kernel_rfl) (by kernel_rfl) ?_; simp only [go_sem, Nat.reduceEqDiff, reduceIte, Nat.reduceAdd, Nat.reduceMul, Nat.reduceSub, Nat.reduceLT, Nat.reduceLeDiff, Nat.reduceBEq, g0, g1, g2, g3, g4]) | refine dk (by kernel_rfl) ?_ | (refine qx (call_L (N' := [0]) (L := []) (k1) rfl (.cons (.nm rfl) (.cons (.nm rfl) (.nil))) (by decide) (by decide) (by decide) (by simp only [go_sem, Nat.reduceEqDiff, reduceIte, Nat.reduceAdd, Nat.reduceMul, Nat.reduceSub, Nat.reduceLT, Nat.reduceLeDiff, Nat.reduceBEq, g0, g1, g2, g3, g4]; first | done | rfl) (.inl rfl) rfl (by decide)) (by simp only [go_sem, Nat.reduceEqDiff, reduceIte, Nat.reduceAdd, Nat.reduceMul, Nat.reduceSub, Nat.reduceLT, Nat.reduceLeDiff, Nat.reduceBEq, g0, g1, g2, g3, g4]; first | done | rfl) rfl (by simp only [go_sem, Nat.reduceLT]) ?_; simp only [go_sem, Nat.reduceEqDiff, reduceIte, Nat.reduceAdd, Nat.reduceMul, Nat.reduceSub, Nat.reduceLT, Nat.reduceLeDiff, Nat.reduceBEq, g0, g1, g2, g3, g4]) | (refine qx (call_L (N' := [0]) (L := []) (kn) rfl (.cons (.nm rfl) (.cons (.nm rfl) (.nil))) (by decide) (by decide) (by decide) (by simp only [go_sem, Nat.reduceEqDiff, reduceIte, Nat.reduceAdd, Nat.reduceMul, Nat.reduceSub, Nat.reduceLT, Nat.reduceLeDiff, Nat.reduceBEq, g0, g1, g2, g3, g4]; first | done | rfl) (.inl rfl) rfl (by decide)) (by simp only [go_sem, Nat.reduceEqDiff, reduceIte, Nat.reduceAdd, Nat.reduceMul, Nat.reduceSub, Nat.reduceLT, Nat.reduceLeDiff, Nat.reduceBEq, g0, g1, g2, g3, g4]; first | done | rfl) rfl (by simp only [go_sem, Nat.reduceLT]) ?_; simp only [go_sem, Nat.reduceEqDiff, reduceIte, Nat.reduceAdd, Nat.reduceMul, Nat.reduceSub, Nat.reduceLT, Nat.reduceLeDiff, Nat.reduceBEq, g0, g1, g2, g3, g4]) | (refine qx (call_L (N' := [0]) (L := []) (k2) rfl (.cons (.nm rfl) (.cons (.nm rfl) (.nil))) (by decide) (by decide) (by decide) (by simp only [go_sem, Nat.reduceEqDiff, reduceIte, Nat.reduceAdd, Nat.reduceMul, Nat.reduceSub, Nat.reduceLT, Nat.reduceLeDiff, Nat.reduceBEq, g0, g1, g2, g3, g4]; first | done | rfl) (.inl rfl) rfl (by decide)) (by simp only [go_sem, Nat.reduceEqDiff, reduceIte, Nat.reduceAdd, Nat.reduceMul, Nat.reduceSub, Nat.reduceLT, Nat.reduceLeDiff, Nat.reduceBEq, g0, g1, g2, g3, g4]; first | done | rfl) rfl (by simp only [go_sem, Nat.reduceLT]) ?_; simp only [go_sem, Nat.reduceEqDiff, reduceIte, Nat.reduceAdd, Nat.reduceMul, Nat.reduceSub, Nat.reduceLT, Nat.reduceLeDiff, Nat.reduceBEq, g0, g1, g2, g3, g4]))
    exact Aw_ret (retL (M := [0]) (.inl rfl) (by simp only [go_sem, Nat.reduceEqDiff, reduceIte, Nat.reduceAdd, Nat.reduceMul, Nat.reduceSub, Nat.reduceLT, Nat.reduceLeDiff, Nat.reduceBEq]; first | done | rfl) rfl rfl (by rfl) (by simp only [go_sem, Nat.reduceEqDiff, reduceIte, Nat.reduceAdd, Nat.reduceMul, Nat.reduceSub, Nat.reduceLT, Nat.reduceLeDiff, Nat.reduceBEq]; first | done | rfl | (and_intros <;> rfl)) (by decide) (by intro m hm; first | omega | (rcases m with _ | _ | _ | _ | _ | _ | m <;> first | exact ⟨by decide, rfl⟩ | omega)))
  · rw [hv] at k1
    have g0 : decide (((5 : Nat) : Int) = 0) = false := rfl
    have g1 : decide (((5 : Nat) : Int) = 1) = false := rfl
    have g2 : decide (((5 : Nat) : Int) = 2) = false := rfl
    have g3 : decide (((5 : Nat) : Int) = 3) = false := rfl
    have g4 : decide (((5 : Nat) : Int) = 4) = false := rfl
    have g5 : decide (((5 : Nat) : Int) = 5) = true := rfl
    simp only [hv]
    rw [if_neg (show ¬ 5 < 5 by decide), if_pos trivial]
    refine AC_of Try.func153 rfl Try.ntmps153 Try.results153 (by kernel_rfl) rfl ?_
    simp only [List.zipIdx, List.map, Nat.zero_add, Nat.reduceAdd]
    repeat (first | apply Aw_seq | apply Aw_block | apply Aw_skip | apply Aw_exit | refine Aw_condt rfl ?_ | refine Aw_condf rfl ?_ | (refine qr ?_; simp only [go_sem, Nat.reduceEqDiff, reduceIte, Nat.reduceAdd, Nat.reduceMul, Nat.reduceSub, Nat.reduceLT, Nat.reduceLeDiff, Nat.reduceBEq, g0, g1, g2, g3, g4, g5]) | (refine qd (by kernel_rfl) (by kernel_rfl) ?_; simp only [go_sem, Nat.reduceEqDiff, reduceIte, Nat.reduceAdd, Nat.reduceMul, Nat.reduceSub, Nat.reduceLT, Nat.reduceLeDiff, Nat.reduceBEq, g0, g1, g2, g3, g4, g5]) | refine dk (by kernel_rfl) ?_ | (refine qx (call_L (N' := [0]) (L := []) (k1) rfl (.cons (.nm rfl) (.cons (.nm rfl) (.nil))) (by decide) (by decide) (by decide) (by simp only [go_sem, Nat.reduceEqDiff, reduceIte, Nat.reduceAdd, Nat.reduceMul, Nat.reduceSub, Nat.reduceLT, Nat.reduceLeDiff, Nat.reduceBEq, g0, g1, g2, g3, g4, g5]; first | done | rfl) (.inl rfl) rfl (by decide)) (by simp only [go_sem, Nat.reduceEqDiff, reduceIte, Nat.reduceAdd, Nat.reduceMul, Nat.reduceSub, Nat.reduceLT, Nat.reduceLeDiff, Nat.reduceBEq, g0, g1, g2, g3, g4, g5]; first | done | rfl) rfl (by simp only [go_sem, Nat.reduceLT]) ?_; simp only [go_sem, Nat.reduceEqDiff, reduceIte, Nat.reduceAdd, Nat.reduceMul, Nat.reduceSub, Nat.reduceLT, Nat.reduceLeDiff, Nat.reduceBEq, g0, g1, g2, g3, g4, g5]) | (refine qx (call_L (N' := [0]) (L := []) (kn) rfl (.cons (.nm rfl) (.cons (.nm rfl) (.nil))) (by decide) (by decide) (by decide) (by simp only [go_sem, Nat.reduceEqDiff, reduceIte, Nat.reduceAdd, Nat.reduceMul, Nat.reduceSub, Nat.reduceLT, Nat.reduceLeDiff, Nat.reduceBEq, g0, g1, g2, g3, g4, g5]; first | done | rfl) (.inl rfl) rfl (by decide)) (by simp only [go_sem, Nat.reduceEqDiff, reduceIte, Nat.reduceAdd, Nat.reduceMul, Nat.reduceSub, Nat.reduceLT, Nat.reduceLeDiff, Nat.reduceBEq, g0, g1, g2, g3, g4, g5]; first | done | rfl) rfl (by simp only [go_sem, Nat.reduceLT]) ?_; simp only [go_sem, Nat.reduceEqDiff, reduceIte, Nat.reduceAdd, Nat.reduceMul, Nat.reduceSub, Nat.reduceLT, Nat.reduceLeDiff, Nat.reduceBEq, g0, g1, g2, g3, g4, g5]))
    exact Aw_ret (retL (M := [0]) (.inl rfl) (by simp only [go_sem, Nat.reduceEqDiff, reduceIte, Nat.reduceAdd, Nat.reduceMul, Nat.reduceSub, Nat.reduceLT, Nat.reduceLeDiff, Nat.reduceBEq]; first | done | rfl) rfl rfl (by rfl) (by simp only [go_sem, Nat.reduceEqDiff, reduceIte, Nat.reduceAdd, Nat.reduceMul, Nat.reduceSub, Nat.reduceLT, Nat.reduceLeDiff, Nat.reduceBEq]; first | done | rfl | (and_intros <;> rfl)) (by decide) (by intro m hm; first | omega | (rcases m with _ | _ | _ | _ | _ | _ | m <;> first | exact ⟨by decide, rfl⟩ | omega)))
  · rw [hv] at k1
    have g0 : decide (((6 : Nat) : Int) = 0) = false := rfl
    have g1 : decide (((6 : Nat) : Int) = 1) = false := rfl
    have g2 : decide (((6 : Nat) : Int) = 2) = false := rfl
    have g3 : decide (((6 : Nat) : Int) = 3) = false := rfl
    have g4 : decide (((6 : Nat) : Int) = 4) = false := rfl
    have g5 : decide (((6 : Nat) : Int) = 5) = false := rfl
    have g6 : decide (((6 : Nat) : Int) = 6) = true := rfl
    simp only [hv]
    rw [if_neg (show ¬ 6 < 5 by decide), if_neg (show ¬ (6 = 5) by decide), if_pos trivial]
    refine AC_of Try.func153 rfl Try.ntmps153 Try.results153 (by kernel_rfl) rfl ?_
    simp only [List.zipIdx, List.map, Nat.zero_add, Nat.reduceAdd]
    repeat (first | apply Aw_seq | apply Aw_block | apply Aw_skip | apply Aw_exit | refine Aw_condt rfl ?_ | refine Aw_condf rfl ?_ | (refine qr ?_; simp only [go_sem, Nat.reduceEqDiff, reduceIte, Nat.reduceAdd, Nat.reduceMul, Nat.reduceSub, Nat.reduceLT, Nat.reduceLeDiff, Nat.reduceBEq, g0, g1, g2, g3, g4, g5, g6]) | (refine qd (by kernel_rfl) (by kernel_rfl) ?_; simp only [go_sem, Nat.reduceEqDiff, reduceIte, Nat.reduceAdd, Nat.reduceMul, Nat.reduceSub, Nat.reduceLT, Nat.reduceLeDiff, Nat.reduceBEq, g0, g1, g2, g3, g4, g5, g6]) | refine dk (by kernel_rfl) ?_ | (refine qx (call_L (N' := [0]) (L := []) (k1) rfl (.cons (.nm rfl) (.cons (.nm rfl) (.nil))) (by decide) (by decide) (by decide) (by simp only [go_sem, Nat.reduceEqDiff, reduceIte, Nat.reduceAdd, Nat.reduceMul, Nat.reduceSub, Nat.reduceLT, Nat.reduceLeDiff, Nat.reduceBEq, g0, g1, g2, g3, g4, g5, g6]; first | done | rfl) (.inl rfl) rfl (by decide)) (by simp only [go_sem, Nat.reduceEqDiff, reduceIte, Nat.reduceAdd, Nat.reduceMul, Nat.reduceSub, Nat.reduceLT, Nat.reduceLeDiff, Nat.reduceBEq, g0, g1, g2, g3, g4, g5, g6]; first | done | rfl) rfl (by simp only [go_sem, Nat.reduceLT]) ?_; simp only [go_sem, Nat.reduceEqDiff, reduceIte, Nat.reduceAdd, Nat.reduceMul, Nat.reduceSub, Nat.reduceLT, Nat.reduceLeDiff, Nat.reduceBEq, g0, g1, g2, g3, g4, g5, g6]))
    exact Aw_ret (retL (M := [0]) (.inl rfl) (by simp only [go_sem, Nat.reduceEqDiff, reduceIte, Nat.reduceAdd, Nat.reduceMul, Nat.reduceSub, Nat.reduceLT, Nat.reduceLeDiff, Nat.reduceBEq]; first | done | rfl) rfl rfl (by rfl) (by simp only [go_sem, Nat.reduceEqDiff, reduceIte, Nat.reduceAdd, Nat.reduceMul, Nat.reduceSub, Nat.reduceLT, Nat.reduceLeDiff, Nat.reduceBEq]; first | done | rfl | (and_intros <;> rfl)) (by decide) (by intro m hm; first | omega | (rcases m with _ | _ | _ | _ | _ | _ | m <;> first | exact ⟨by decide, rfl⟩ | omega)))
  · rw [hv] at k1
    have g0 : decide (((7 : Nat) : Int) = 0) = false := rfl
    have g1 : decide (((7 : Nat) : Int) = 1) = false := rfl
    have g2 : decide (((7 : Nat) : Int) = 2) = false := rfl
    have g3 : decide (((7 : Nat) : Int) = 3) = false := rfl
    have g4 : decide (((7 : Nat) : Int) = 4) = false := rfl
    have g5 : decide (((7 : Nat) : Int) = 5) = false := rfl
    have g6 : decide (((7 : Nat) : Int) = 6) = false := rfl
    have g7 : decide (((7 : Nat) : Int) = 7) = true := rfl
    simp only [hv]
    rw [if_neg (show ¬ 7 < 5 by decide), if_neg (show ¬ (7 = 5) by decide), if_neg (show ¬ (7 = 6) by decide), if_pos trivial]
    refine AC_of Try.func153 rfl Try.ntmps153 Try.results153 (by kernel_rfl) rfl ?_
    simp only [List.zipIdx, List.map, Nat.zero_add, Nat.reduceAdd]
    repeat (first | apply Aw_seq | apply Aw_block | apply Aw_skip | apply Aw_exit | refine Aw_condt rfl ?_ | refine Aw_condf rfl ?_ | (refine qr ?_; simp only [go_sem, Nat.reduceEqDiff, reduceIte, Nat.reduceAdd, Nat.reduceMul, Nat.reduceSub, Nat.reduceLT, Nat.reduceLeDiff, Nat.reduceBEq, g0, g1, g2, g3, g4, g5, g6, g7]) | (refine qd (by kernel_rfl) (by kernel_rfl) ?_; simp only [go_sem, Nat.reduceEqDiff, reduceIte, Nat.reduceAdd, Nat.reduceMul, Nat.reduceSub, Nat.reduceLT, Nat.reduceLeDiff, Nat.reduceBEq, g0, g1, g2, g3, g4, g5, g6, g7]) | refine dk (by kernel_rfl) ?_ | (refine qx (call_L (N' := [0]) (L := []) (k1) rfl (.cons (.nm rfl) (.cons (.nm rfl) (.nil))) (by decide) (by decide) (by decide) (by simp only [go_sem, Nat.reduceEqDiff, reduceIte, Nat.reduceAdd, Nat.reduceMul, Nat.reduceSub, Nat.reduceLT, Nat.reduceLeDiff, Nat.reduceBEq, g0, g1, g2, g3, g4, g5, g6, g7]; first | done | rfl) (.inl rfl) rfl (by decide)) (by simp only [go_sem, Nat.reduceEqDiff, reduceIte, Nat.reduceAdd, Nat.reduceMul, Nat.reduceSub, Nat.reduceLT, Nat.reduceLeDiff, Nat.reduceBEq, g0, g1, g2, g3, g4, g5, g6, g7]; first | done | rfl) rfl (by simp only [go_sem, Nat.reduceLT]) ?_; simp only [go_sem, Nat.reduceEqDiff, reduceIte, Nat.reduceAdd, Nat.reduceMul, Nat.reduceSub, Nat.reduceLT, Nat.reduceLeDiff, Nat.reduceBEq, g0, g1, g2, g3, g4, g5, g6, g7]) | (refine qx (call_L (N' := [0]) (L := []) (k3) rfl (.cons (.nm rfl) (.cons (.nm rfl) (.nil))) (by decide) (by decide) (by decide) (by simp only [go_sem, Nat.reduceEqDiff, reduceIte, Nat.reduceAdd, Nat.reduceMul, Nat.reduceSub, Nat.reduceLT, Nat.reduceLeDiff, Nat.reduceBEq, g0, g1, g2, g3, g4, g5, g6, g7]; first | done | rfl) (.inl rfl) rfl (by decide)) (by simp only [go_sem, Nat.reduceEqDiff, reduceIte, Nat.reduceAdd, Nat.reduceMul, Nat.reduceSub, Nat.reduceLT, Nat.reduceLeDiff, Nat.reduceBEq, g0, g1, g2, g3, g4, g5, g6, g7]; first | done | rfl) rfl (by simp only [go_sem, Nat.reduceLT]) ?_; simp only [go_sem, Nat.reduceEqDiff, reduceIte, Nat.reduceAdd, Nat.reduceMul, Nat.reduceSub, Nat.reduceLT, Nat.reduceLeDiff, Nat.reduceBEq, g0, g1, g2, g3, g4, g5, g6, g7]))
    exact Aw_ret (retL (M := [0]) (.inl rfl) (by simp only [go_sem, Nat.reduceEqDiff, reduceIte, Nat.reduceAdd, Nat.reduceMul, Nat.reduceSub, Nat.reduceLT, Nat.reduceLeDiff, Nat.reduceBEq]; first | done | rfl) rfl rfl (by rfl) (by simp only [go_sem, Nat.reduceEqDiff, reduceIte, Nat.reduceAdd, Nat.reduceMul, Nat.reduceSub, Nat.reduceLT, Nat.reduceLeDiff, Nat.reduceBEq]; first | done | rfl | (and_intros <;> rfl)) (by decide) (by intro m hm; first | omega | (rcases m with _ | _ | _ | _ | _ | _ | m <;> first | exact ⟨by decide, rfl⟩ | omega)))
  · rw [hv] at k1
    have g0 : decide (((8 : Nat) : Int) = 0) = false := rfl
    have g1 : decide (((8 : Nat) : Int) = 1) = false := rfl
    have g2 : decide (((8 : Nat) : Int) = 2) = false := rfl
    have g3 : decide (((8 : Nat) : Int) = 3) = false := rfl
    have g4 : decide (((8 : Nat) : Int) = 4) = false := rfl
    have g5 : decide (((8 : Nat) : Int) = 5) = false := rfl
    have g6 : decide (((8 : Nat) : Int) = 6) = false := rfl
    have g7 : decide (((8 : Nat) : Int) = 7) = false := rfl
    have g8 : decide (((8 : Nat) : Int) = 8) = true := rfl
    simp only [hv]
    rw [if_neg (show ¬ 8 < 5 by decide), if_neg (show ¬ (8 = 5) by decide), if_neg (show ¬ (8 = 6) by decide), if_neg (show ¬ (8 = 7) by decide), if_pos trivial]
    refine AC_of Try.func153 rfl Try.ntmps153 Try.results153 (by kernel_rfl) rfl ?_
    simp only [List.zipIdx, List.map, Nat.zero_add, Nat.reduceAdd]
    repeat (first | apply Aw_seq | apply Aw_block | apply Aw_skip | apply Aw_exit | refine Aw_condt rfl ?_ | refine Aw_condf rfl ?_ | (refine qr ?_; simp only [go_sem, Nat.reduceEqDiff, reduceIte, Nat.reduceAdd, Nat.reduceMul, Nat.reduceSub, Nat.reduceLT, Nat.reduceLeDiff, Nat.reduceBEq, g0, g1, g2, g3, g4, g5, g6, g7, g8]) | (refine qd (by kernel_rfl) (by kernel_rfl) ?_; simp only [go_sem, Nat.reduceEqDiff, reduceIte, Nat.reduceAdd, Nat.reduceMul, Nat.reduceSub, Nat.reduceLT, Nat.reduceLeDiff, Nat.reduceBEq, g0, g1, g2, g3, g4, g5, g6, g7, g8]) | refine dk (by kernel_rfl) ?_ | (refine qx (call_L (N' := [0]) (L := []) (k1) rfl (.cons (.nm rfl) (.cons (.nm rfl) (.nil))) (by decide) (by decide) (by decide) (by simp only [go_sem, Nat.reduceEqDiff, reduceIte, Nat.reduceAdd, Nat.reduceMul, Nat.reduceSub, Nat.reduceLT, Nat.reduceLeDiff, Nat.reduceBEq, g0, g1, g2, g3, g4, g5, g6, g7, g8]; first | done | rfl) (.inl rfl) rfl (by decide)) (by simp only [go_sem, Nat.reduceEqDiff, reduceIte, Nat.reduceAdd, Nat.reduceMul, Nat.reduceSub, Nat.reduceLT, Nat.reduceLeDiff, Nat.reduceBEq, g0, g1, g2, g3, g4, g5, g6, g7, g8]; first | done | rfl) rfl (by simp only [go_sem, Nat.reduceLT]) ?_; simp only [go_sem, Nat.reduceEqDiff, reduceIte, Nat.reduceAdd, Nat.reduceMul, Nat.reduceSub, Nat.reduceLT, Nat.reduceLeDiff, Nat.reduceBEq, g0, g1, g2, g3, g4, g5, g6, g7, g8]))
    exact Aw_ret (retL (M := [0]) (.inl rfl) (by simp only [go_sem, Nat.reduceEqDiff, reduceIte, Nat.reduceAdd, Nat.reduceMul, Nat.reduceSub, Nat.reduceLT, Nat.reduceLeDiff, Nat.reduceBEq]; first | done | rfl) rfl rfl (by rfl) (by simp only [go_sem, Nat.reduceEqDiff, reduceIte, Nat.reduceAdd, Nat.reduceMul, Nat.reduceSub, Nat.reduceLT, Nat.reduceLeDiff, Nat.reduceBEq]; first | done | rfl | (and_intros <;> rfl)) (by decide) (by intro m hm; first | omega | (rcases m with _ | _ | _ | _ | _ | _ | m <;> first | exact ⟨by decide, rfl⟩ | omega)))
  · rw [hv] at k1
    have g0 : decide (((9 : Nat) : Int) = 0) = false := rfl
    have g1 : decide (((9 : Nat) : Int) = 1) = false := rfl
    have g2 : decide (((9 : Nat) : Int) = 2) = false := rfl
    have g3 : decide (((9 : Nat) : Int) = 3) = false := rfl
    have g4 : decide (((9 : Nat) : Int) = 4) = false := rfl
    have g5 : decide (((9 : Nat) : Int) = 5) = false := rfl
    have g6 : decide (((9 : Nat) : Int) = 6) = false := rfl
    have g7 : decide (((9 : Nat) : Int) = 7) = false := rfl
    have g8 : decide (((9 : Nat) : Int) = 8) = false := rfl
    simp only [hv]
    rw [if_neg (show ¬ 9 < 5 by decide), if_neg (show ¬ (9 = 5) by decide), if_neg (show ¬ (9 = 6) by decide), if_neg (show ¬ (9 = 7) by decide), if_neg (show ¬ (9 = 8) by decide)]
    refine AC_of Try.func153 rfl Try.ntmps153 Try.results153 (by kernel_rfl) rfl ?_
    simp only [List.zipIdx, List.map, Nat.zero_add, Nat.reduceAdd]
    repeat (first | apply Aw_seq | apply Aw_block | apply Aw_skip | apply Aw_exit | refine Aw_condt rfl ?_ | refine Aw_condf rfl ?_ | (refine qr ?_; simp only [go_sem, Nat.reduceEqDiff, reduceIte, Nat.reduceAdd, Nat.reduceMul, Nat.reduceSub, Nat.reduceLT, Nat.reduceLeDiff, Nat.reduceBEq, g0, g1, g2, g3, g4, g5, g6, g7, g8]) | (refine qd (by kernel_rfl) (by kernel_rfl) ?_; simp only [go_sem, Nat.reduceEqDiff, reduceIte, Nat.reduceAdd, Nat.reduceMul, Nat.reduceSub, Nat.reduceLT, Nat.reduceLeDiff, Nat.reduceBEq, g0, g1, g2, g3, g4, g5, g6, g7, g8]) | refine dk (by kernel_rfl) ?_ | (refine qx (call_L (N' := [0]) (L := []) (k1) rfl (.cons (.nm rfl) (.cons (.nm rfl) (.nil))) (by decide) (by decide) (by decide) (by simp only [go_sem, Nat.reduceEqDiff, reduceIte, Nat.reduceAdd, Nat.reduceMul, Nat.reduceSub, Nat.reduceLT, Nat.reduceLeDiff, Nat.reduceBEq, g0, g1, g2, g3, g4, g5, g6, g7, g8]; first | done | rfl) (.inl rfl) rfl (by decide)) (by simp only [go_sem, Nat.reduceEqDiff, reduceIte, Nat.reduceAdd, Nat.reduceMul, Nat.reduceSub, Nat.reduceLT, Nat.reduceLeDiff, Nat.reduceBEq, g0, g1, g2, g3, g4, g5, g6, g7, g8]; first | done | rfl) rfl (by simp only [go_sem, Nat.reduceLT]) ?_; simp only [go_sem, Nat.reduceEqDiff, reduceIte, Nat.reduceAdd, Nat.reduceMul, Nat.reduceSub, Nat.reduceLT, Nat.reduceLeDiff, Nat.reduceBEq, g0, g1, g2, g3, g4, g5, g6, g7, g8]) | (refine qx (call_L (N' := [0]) (L := []) (k4) rfl (.cons (.nm rfl) (.cons (.nm rfl) (.nil))) (by decide) (by decide) (by decide) (by simp only [go_sem, Nat.reduceEqDiff, reduceIte, Nat.reduceAdd, Nat.reduceMul, Nat.reduceSub, Nat.reduceLT, Nat.reduceLeDiff, Nat.reduceBEq, g0, g1, g2, g3, g4, g5, g6, g7, g8]; first | done | rfl) (.inl rfl) rfl (by decide)) (by simp only [go_sem, Nat.reduceEqDiff, reduceIte, Nat.reduceAdd, Nat.reduceMul, Nat.reduceSub, Nat.reduceLT, Nat.reduceLeDiff, Nat.reduceBEq, g0, g1, g2, g3, g4, g5, g6, g7, g8]; first | done | rfl) rfl (by simp only [go_sem, Nat.reduceLT]) ?_; simp only [go_sem, Nat.reduceEqDiff, reduceIte, Nat.reduceAdd, Nat.reduceMul, Nat.reduceSub, Nat.reduceLT, Nat.reduceLeDiff, Nat.reduceBEq, g0, g1, g2, g3, g4, g5, g6, g7, g8]))
    exact Aw_ret (retL (M := [0]) (.inl rfl) (by simp only [go_sem, Nat.reduceEqDiff, reduceIte, Nat.reduceAdd, Nat.reduceMul, Nat.reduceSub, Nat.reduceLT, Nat.reduceLeDiff, Nat.reduceBEq]; first | done | rfl) rfl rfl (by rfl) (by simp only [go_sem, Nat.reduceEqDiff, reduceIte, Nat.reduceAdd, Nat.reduceMul, Nat.reduceSub, Nat.reduceLT, Nat.reduceLeDiff, Nat.reduceBEq]; first | done | rfl | (and_intros <;> rfl)) (by decide) (by intro m hm; first | omega | (rcases m with _ | _ | _ | _ | _ | _ | m <;> first | exact ⟨by decide, rfl⟩ | omega)))
noncomputable def deedsL (b : List Int) (l : List ByteArray) : Nat → List Deed → Nat → List Deed × Nat
  | 0, o, p => (o, p)
  | n + 1, o, p => deedsL b l n (o ++ [(deedV b p l).1]) (deedV b p l).2
theorem deedsL_fin {b : List Int} (hb : byteL b) {l : List ByteArray} (hl : l.length ≤ 1000) (hs : ∀ s ∈ l, s.size ≤ 5) : ∀ (n : Nat) (o : List Deed) (p : Nat), p + 9 * n ≤ 500000 → o.length + n ≤ 1000 → (∀ d ∈ o, d.key.size ≤ 5) → (deedsL b l n o p).1.length = o.length + n ∧ (∀ d ∈ (deedsL b l n o p).1, d.key.size ≤ 5) ∧ (deedsL b l n o p).2 ≤ p + 9 * n
  | 0, o, p, _, _, h => ⟨by simp [deedsL], h, by simp [deedsL]⟩
  | n + 1, o, p, h1, h2, h3 => by
    obtain ⟨a1, a2⟩ := deedV_fin hb (p := p) (l := l) (by omega) hl hs
    obtain ⟨c1, c2, c3⟩ := deedsL_fin hb hl hs n (o ++ [(deedV b p l).1]) (deedV b p l).2 (by omega) (by simp; omega) (fun d hd => by
      rcases List.mem_append.1 hd with h | h
      · exact h3 d h
      · obtain rfl : d = (deedV b p l).1 := by simpa using h
        exact a1)
    simp only [List.length_append, List.length_cons, List.length_nil] at c1
    exact ⟨by simp only [deedsL]; omega, by simp only [deedsL]; exact c2, by simp only [deedsL]; omega⟩
def xTxt : ByteArray := bs [120]
noncomputable def deedsV (b : List Int) (p : Nat) (most : Nat) : List Deed × Nat :=
  let K := keysV b p 5
  let n := pickV b K.2 ((most + 1 : Nat) : Int)
  let r := deedsL b K.1 n [] (K.2 + 1)
  if pickV b r.2 24 = 0 then (r.1 ++ [⟨IntKind.i64.wrap (((pickV b (r.2 + 1) 9 : Nat) : Int) - 1), xTxt, -1⟩], r.2 + 2) else (r.1, r.2 + 1)
theorem deedsV_fin {b : List Int} (hb : byteL b) {p most : Nat} (hp : p ≤ 100000) (hm : most ≤ 100) : (deedsV b p most).1.length ≤ most + 1 ∧ (∀ d ∈ (deedsV b p most).1, d.key.size ≤ 5) ∧ (deedsV b p most).2 ≤ p + 2000 := by
  obtain ⟨a1, a2, a3⟩ := keysV_fin hb (p := p) (most := 5) (by omega) (by omega)
  have h1 := pickV_lt (n := ((most + 1 : Nat) : Int)) hb (show (keysV b p 5).2 ≤ 1000000 by omega) (by omega) (by omega)
  obtain ⟨c1, c2, c3⟩ := deedsL_fin hb (l := (keysV b p 5).1) (by omega) a2 (pickV b (keysV b p 5).2 ((most + 1 : Nat) : Int)) [] ((keysV b p 5).2 + 1) (by omega) (by show 0 + _ ≤ _; omega) (by simp)
  rw [show ([] : List Deed).length = 0 from rfl] at c1
  unfold deedsV
  dsimp only
  split
  · refine ⟨by simp only [List.length_append, List.length_cons, List.length_nil]; omega, fun d hd => ?_, by dsimp only; omega⟩
    rcases List.mem_append.1 hd with h | h
    · exact c2 d h
    · obtain rfl := by simpa using h
      show xTxt.size ≤ 5
      decide
  · exact ⟨by dsimp only; omega, c2, by dsimp only; omega⟩
end Go.Proofs.Ytcbhgglpgphimaa.Ab
namespace Go.Proofs.Ytcbhgglpgphimaa.Ab
set_option linter.deprecated false
set_option linter.unusedVariables false
set_option linter.unusedSimpArgs false
open Go Go.Proofs
set_option maxRecDepth 10000
set_option maxHeartbeats 8000000
set_option linter.unusedSimpArgs false
set_option linter.unusedVariables false
def dsRow (ds : List Deed) : Obj := dRow 160 3 (ds.map deedD)
@[go_sem] theorem r_dsRow (ds : List Deed) : dsRow ds = dRow 160 3 (ds.map deedD) := rfl
structure DsI (b : List Int) (l : List ByteArray) (R : List Deed × Nat) where
  n : Nat
  o : List Deed
  p : Nat
  hn : o.length + n ≤ 1000
  hp : p + 9 * n ≤ 500000
  h : deedsL b l n o p = R
theorem l71Deeds_ac {b : List Int} {p most : Nat} (hb : byteL b) (hp : p ≤ 100000) (hm : most ≤ 100) : AC Try.prog 123 [.c (.ph 0 0 0), iT most] (hpL [some (rdO b p)]) 1 ⟨.t (.c (.h 1)), hpL [some (rdO b (deedsV b p most).2), some (dsRow (deedsV b p most).1)], 2⟩ := by
  refine AC_of Try.func123 rfl Try.ntmps123 Try.results123 (by kernel_rfl) rfl ?_
  simp only [List.zipIdx, List.map, Nat.zero_add, Nat.reduceAdd]
  have w0 : IntKind.i64.wrap ((most : Int) + 1) = ((most + 1 : Nat) : Int) := wn (by omega) (by omega)
  obtain ⟨a1, a2, a3⟩ := keysV_fin hb (p := p) (most := 5) (by omega) (by omega)
  have kk := l71Keys_ac (most := 5) hb (show p ≤ 600000 by omega) (by omega)
  rw [show ((5 : Nat) : Int) = 5 from rfl] at kk
  have k := pickV_ac (n := ((most + 1 : Nat) : Int)) hb (show (keysV b p 5).2 ≤ 1000000 by omega) (by omega)
  have h6 := pickV_lt (n := ((most + 1 : Nat) : Int)) hb (show (keysV b p 5).2 ≤ 1000000 by omega) (by omega) (by omega)
  obtain ⟨R, hR⟩ : ∃ R, R = deedsL b (keysV b p 5).1 (pickV b (keysV b p 5).2 ((most + 1 : Nat) : Int)) [] ((keysV b p 5).2 + 1) := ⟨_, rfl⟩
  obtain ⟨c1, c2, c3⟩ := deedsL_fin hb (l := (keysV b p 5).1) (by omega) a2 (pickV b (keysV b p 5).2 ((most + 1 : Nat) : Int)) [] ((keysV b p 5).2 + 1) (by omega) (by show 0 + _ ≤ _; omega) (by simp)
  rw [← hR] at c1 c2 c3
  rw [show ([] : List Deed).length = 0 from rfl] at c1
  have hV : deedsV b p most = if pickV b R.2 24 = 0 then (R.1 ++ [⟨IntKind.i64.wrap (((pickV b (R.2 + 1) 9 : Nat) : Int) - 1), xTxt, -1⟩], R.2 + 2) else (R.1, R.2 + 1) := by rw [hR]; rfl
  rw [hV]
  repeat (first | apply Aw_seq | apply Aw_block | apply Aw_skip | apply Aw_exit | refine Aw_condt rfl ?_ | refine Aw_condf rfl ?_ | (refine qr ?_; simp only [go_sem, Nat.reduceEqDiff, reduceIte, Nat.reduceAdd, Nat.reduceMul, Nat.reduceSub, Nat.reduceLT, Nat.reduceLeDiff, Nat.reduceBEq, w0]) | (refine qd (by kernel_rfl) (by kernel_rfl) ?_; simp only [go_sem, Nat.reduceEqDiff, reduceIte, Nat.reduceAdd, Nat.reduceMul, Nat.reduceSub, Nat.reduceLT, Nat.reduceLeDiff, Nat.reduceBEq, w0]) | refine dk (by kernel_rfl) ?_ | (refine qx (call_L (N' := [0]) (L := []) (kk) rfl (.cons (.nm rfl) (.cons (.nm rfl) (.nil))) (by decide) (by decide) (by decide) (by simp only [go_sem, Nat.reduceEqDiff, reduceIte, Nat.reduceAdd, Nat.reduceMul, Nat.reduceSub, Nat.reduceLT, Nat.reduceLeDiff, Nat.reduceBEq, w0]; first | done | rfl) (.inl rfl) rfl (by decide)) (by simp only [go_sem, Nat.reduceEqDiff, reduceIte, Nat.reduceAdd, Nat.reduceMul, Nat.reduceSub, Nat.reduceLT, Nat.reduceLeDiff, Nat.reduceBEq, w0]; first | done | rfl) rfl (by simp only [go_sem, Nat.reduceLT]) ?_; simp only [go_sem, Nat.reduceEqDiff, reduceIte, Nat.reduceAdd, Nat.reduceMul, Nat.reduceSub, Nat.reduceLT, Nat.reduceLeDiff, Nat.reduceBEq, w0]) | (refine qx (call_L (N' := [0]) (L := []) (k) rfl (.cons (.nm rfl) (.cons (.nm rfl) (.nil))) (by decide) (by decide) (by decide) (by simp only [go_sem, Nat.reduceEqDiff, reduceIte, Nat.reduceAdd, Nat.reduceMul, Nat.reduceSub, Nat.reduceLT, Nat.reduceLeDiff, Nat.reduceBEq, w0]; first | done | rfl) (.inl rfl) rfl (by decide)) (by simp only [go_sem, Nat.reduceEqDiff, reduceIte, Nat.reduceAdd, Nat.reduceMul, Nat.reduceSub, Nat.reduceLT, Nat.reduceLeDiff, Nat.reduceBEq, w0]; first | done | rfl) rfl (by simp only [go_sem, Nat.reduceLT]) ?_; simp only [go_sem, Nat.reduceEqDiff, reduceIte, Nat.reduceAdd, Nat.reduceMul, Nat.reduceSub, Nat.reduceLT, Nat.reduceLeDiff, Nat.reduceBEq, w0]))
  refine Aw.rw (rwL (l' := [(7, .t (iT (pickV b (keysV b p 5).2 ((most + 1 : Nat) : Int) : Nat))), (6, .t (.c (.h 1))), (5, .t (strsT (keysV b p 5).1)), (0, .t (.c (.ph 0 0 0)))]) (os := [some (rdO b ((keysV b p 5).2 + 1)), some (dsRow [])]) (M := [0, 4]) (n' := 2) (by repeat (first | exact trivial | refine ⟨rfl, rfl, ?_⟩)) (by rfl) (by simp only [go_sem, Nat.reduceEqDiff, reduceIte, Nat.reduceAdd, Nat.reduceMul, Nat.reduceSub, Nat.reduceLT, Nat.reduceLeDiff, Nat.reduceBEq, List.map_nil]; first | done | rfl) (by decide) (by intro m hm; first | omega | (rcases m with _ | _ | _ | _ | _ | _ | m <;> first | exact ⟨by decide, rfl⟩ | omega))) ?_
  refine Aw_loop_rw (ι := DsI b (keysV b p 5).1 R) (fun q => S [(7, .t (iT (q.n : Nat))), (6, .t (.c (.h 1))), (5, .t (strsT (keysV b p 5).1)), (0, .t (.c (.ph 0 0 0)))] (hpL [some (rdO b q.p), some (dsRow q.o)]) 2) (fun q => q.n) ⟨pickV b (keysV b p 5).2 ((most + 1 : Nat) : Int), [], (keysV b p 5).2 + 1, by show 0 + _ ≤ _; omega, by omega, hR.symm⟩ ?_
  rintro ⟨n, o, q, hn, hq, h⟩
  dsimp only
  rcases n with _ | n
  · have g1 : decide ((0 : Int) < ((0 : Nat) : Int)) = false := rfl
    have ho : R = (o, q) := h.symm
    rw [ho]
    rw [ho] at c1 c2 c3
    dsimp only at c1 c2 c3 ⊢
    have k24 := pickV_ac (n := 24) hb (show q ≤ 1000000 by omega) (by omega)
    by_cases c : pickV b q 24 = 0
    · have g2 : decide (((pickV b q 24 : Nat) : Int) = 0) = true := decide_eq_true (by omega)
      have k9 := pickV_ac (n := 9) hb (show q + 1 ≤ 1000000 by omega) (by omega)
      have hap : (o.length + 1) * 32 ≤ 140737488355328 := by omega
      rw [if_pos c]
      dsimp only
      repeat (first | apply Aw_seq | apply Aw_block | apply Aw_skip | apply Aw_exit | refine Aw_condt rfl ?_ | refine Aw_condf rfl ?_ | (refine qr ?_; simp only [go_sem, Nat.reduceEqDiff, reduceIte, Nat.reduceAdd, Nat.reduceMul, Nat.reduceSub, Nat.reduceLT, Nat.reduceLeDiff, Nat.reduceBEq, g1, g2, hap, xTxt]) | (refine qd (by kernel_rfl) (by kernel_rfl) ?_; simp only [go_sem, Nat.reduceEqDiff, reduceIte, Nat.reduceAdd, Nat.reduceMul, Nat.reduceSub, Nat.reduceLT, Nat.reduceLeDiff, Nat.reduceBEq, g1, g2, hap, xTxt]) | refine dk (by kernel_rfl) ?_ | (refine qx (call_L (N' := [0]) (L := []) (k24) rfl (.cons (.nm rfl) (.cons (.nm rfl) (.nil))) (by decide) (by decide) (by decide) (by simp only [go_sem, Nat.reduceEqDiff, reduceIte, Nat.reduceAdd, Nat.reduceMul, Nat.reduceSub, Nat.reduceLT, Nat.reduceLeDiff, Nat.reduceBEq, g1, g2, hap, xTxt]; first | done | rfl) (.inl rfl) rfl (by decide)) (by simp only [go_sem, Nat.reduceEqDiff, reduceIte, Nat.reduceAdd, Nat.reduceMul, Nat.reduceSub, Nat.reduceLT, Nat.reduceLeDiff, Nat.reduceBEq, g1, g2, hap, xTxt]; first | done | rfl) rfl (by simp only [go_sem, Nat.reduceLT]) ?_; simp only [go_sem, Nat.reduceEqDiff, reduceIte, Nat.reduceAdd, Nat.reduceMul, Nat.reduceSub, Nat.reduceLT, Nat.reduceLeDiff, Nat.reduceBEq, g1, g2, hap, xTxt]) | (refine qx (call_L (N' := [0]) (L := []) (k9) rfl (.cons (.nm rfl) (.cons (.nm rfl) (.nil))) (by decide) (by decide) (by decide) (by simp only [go_sem, Nat.reduceEqDiff, reduceIte, Nat.reduceAdd, Nat.reduceMul, Nat.reduceSub, Nat.reduceLT, Nat.reduceLeDiff, Nat.reduceBEq, g1, g2, hap, xTxt]; first | done | rfl) (.inl rfl) rfl (by decide)) (by simp only [go_sem, Nat.reduceEqDiff, reduceIte, Nat.reduceAdd, Nat.reduceMul, Nat.reduceSub, Nat.reduceLT, Nat.reduceLeDiff, Nat.reduceBEq, g1, g2, hap, xTxt]; first | done | rfl) rfl (by simp only [go_sem, Nat.reduceLT]) ?_; simp only [go_sem, Nat.reduceEqDiff, reduceIte, Nat.reduceAdd, Nat.reduceMul, Nat.reduceSub, Nat.reduceLT, Nat.reduceLeDiff, Nat.reduceBEq, g1, g2, hap, xTxt]))
      exact Aw_ret (retL (M := [0, 11]) (.inl rfl) (by simp only [go_sem, Nat.reduceEqDiff, reduceIte, Nat.reduceAdd, Nat.reduceMul, Nat.reduceSub, Nat.reduceLT, Nat.reduceLeDiff, Nat.reduceBEq]; first | done | rfl) rfl rfl (by rfl) (by simp only [go_sem, Nat.reduceEqDiff, reduceIte, Nat.reduceAdd, Nat.reduceMul, Nat.reduceSub, Nat.reduceLT, Nat.reduceLeDiff, Nat.reduceBEq, List.map_append, List.map_cons, List.map_nil, xTxt]; first | done | rfl | (and_intros <;> rfl)) (by decide) (by intro m hm; first | omega | (rcases m with _ | _ | _ | _ | _ | _ | m <;> first | exact ⟨by decide, rfl⟩ | omega)))
    · have g2 : decide (((pickV b q 24 : Nat) : Int) = 0) = false := decide_eq_false (by omega)
      rw [if_neg c]
      dsimp only
      repeat (first | apply Aw_seq | apply Aw_block | apply Aw_skip | apply Aw_exit | refine Aw_condt rfl ?_ | refine Aw_condf rfl ?_ | (refine qr ?_; simp only [go_sem, Nat.reduceEqDiff, reduceIte, Nat.reduceAdd, Nat.reduceMul, Nat.reduceSub, Nat.reduceLT, Nat.reduceLeDiff, Nat.reduceBEq, g1, g2]) | (refine qd (by kernel_rfl) (by kernel_rfl) ?_; simp only [go_sem, Nat.reduceEqDiff, reduceIte, Nat.reduceAdd, Nat.reduceMul, Nat.reduceSub, Nat.reduceLT, Nat.reduceLeDiff, Nat.reduceBEq, g1, g2]) | refine dk (by kernel_rfl) ?_ | (refine qx (call_L (N' := [0]) (L := []) (k24) rfl (.cons (.nm rfl) (.cons (.nm rfl) (.nil))) (by decide) (by decide) (by decide) (by simp only [go_sem, Nat.reduceEqDiff, reduceIte, Nat.reduceAdd, Nat.reduceMul, Nat.reduceSub, Nat.reduceLT, Nat.reduceLeDiff, Nat.reduceBEq, g1, g2]; first | done | rfl) (.inl rfl) rfl (by decide)) (by simp only [go_sem, Nat.reduceEqDiff, reduceIte, Nat.reduceAdd, Nat.reduceMul, Nat.reduceSub, Nat.reduceLT, Nat.reduceLeDiff, Nat.reduceBEq, g1, g2]; first | done | rfl) rfl (by simp only [go_sem, Nat.reduceLT]) ?_; simp only [go_sem, Nat.reduceEqDiff, reduceIte, Nat.reduceAdd, Nat.reduceMul, Nat.reduceSub, Nat.reduceLT, Nat.reduceLeDiff, Nat.reduceBEq, g1, g2]))
      exact Aw_ret (retL (M := [0, 1]) (.inl rfl) (by simp only [go_sem, Nat.reduceEqDiff, reduceIte, Nat.reduceAdd, Nat.reduceMul, Nat.reduceSub, Nat.reduceLT, Nat.reduceLeDiff, Nat.reduceBEq]; first | done | rfl) rfl rfl (by rfl) (by simp only [go_sem, Nat.reduceEqDiff, reduceIte, Nat.reduceAdd, Nat.reduceMul, Nat.reduceSub, Nat.reduceLT, Nat.reduceLeDiff, Nat.reduceBEq]; first | done | rfl | (and_intros <;> rfl)) (by decide) (by intro m hm; first | omega | (rcases m with _ | _ | _ | _ | _ | _ | m <;> first | exact ⟨by decide, rfl⟩ | omega)))
  · have g1 : decide ((0 : Int) < ((n + 1 : Nat) : Int)) = true := decide_eq_true (by omega)
    have w1 : IntKind.i64.wrap (((n + 1 : Nat) : Int) - 1) = (n : Int) := wn (by omega) (by omega)
    have kd := l71Deed_ac (l := (keysV b p 5).1) hb (show q ≤ 500000 by omega) (by omega) a2
    have hd := deedV_fin hb (p := q) (l := (keysV b p 5).1) (by omega) (by omega) a2
    have hap : (o.length + 1) * 32 ≤ 140737488355328 := by omega
    repeat (first | apply Aw_seq | apply Aw_block | apply Aw_skip | apply Aw_exit | refine Aw_condt rfl ?_ | refine Aw_condf rfl ?_ | (refine qr ?_; simp only [go_sem, Nat.reduceEqDiff, reduceIte, Nat.reduceAdd, Nat.reduceMul, Nat.reduceSub, Nat.reduceLT, Nat.reduceLeDiff, Nat.reduceBEq, g1, w1, hap]) | (refine qd (by kernel_rfl) (by kernel_rfl) ?_; simp only [go_sem, Nat.reduceEqDiff, reduceIte, Nat.reduceAdd, Nat.reduceMul, Nat.reduceSub, Nat.reduceLT, Nat.reduceLeDiff, Nat.reduceBEq, g1, w1, hap]) | refine dk (by kernel_rfl) ?_ | (refine qx (call_L (N' := [0]) (L := []) (kd) rfl (.cons (.nm rfl) (.cons (.nm rfl) (.nil))) (by decide) (by decide) (by decide) (by simp only [go_sem, Nat.reduceEqDiff, reduceIte, Nat.reduceAdd, Nat.reduceMul, Nat.reduceSub, Nat.reduceLT, Nat.reduceLeDiff, Nat.reduceBEq, g1, w1, hap]; first | done | rfl) (.inl rfl) rfl (by decide)) (by simp only [go_sem, Nat.reduceEqDiff, reduceIte, Nat.reduceAdd, Nat.reduceMul, Nat.reduceSub, Nat.reduceLT, Nat.reduceLeDiff, Nat.reduceBEq, g1, w1, hap]; first | done | rfl) rfl (by simp only [go_sem, Nat.reduceLT]) ?_; simp only [go_sem, Nat.reduceEqDiff, reduceIte, Nat.reduceAdd, Nat.reduceMul, Nat.reduceSub, Nat.reduceLT, Nat.reduceLeDiff, Nat.reduceBEq, g1, w1, hap]))
    refine ⟨⟨n, o ++ [(deedV b q (keysV b p 5).1).1], (deedV b q (keysV b p 5).1).2, by simp; omega, by omega, h⟩, [0, 8], ?_, rwL (by repeat (first | exact trivial | refine ⟨rfl, rfl, ?_⟩)) (by rfl) (by simp only [go_sem, Nat.reduceEqDiff, reduceIte, Nat.reduceAdd, Nat.reduceMul, Nat.reduceSub, Nat.reduceLT, Nat.reduceLeDiff, Nat.reduceBEq, List.map_append, List.map_cons, List.map_nil]; first | done | rfl) (by decide) (by intro m hm; first | omega | (rcases m with _ | _ | _ | _ | _ | _ | m <;> first | exact ⟨by decide, rfl⟩ | omega))⟩
    show n < n + 1; omega
theorem pastTo_key (s : Sto) (ds : List Deed) : ∀ i, i ≤ ds.length → ∀ e ∈ (pastTo s ds i).2, ∃ d ∈ ds, e.key = d.key := by
  intro i
  induction i with
  | zero => intro _ e he; simp [pastTo] at he
  | succ i ih =>
    intro hi e he
    obtain ⟨d, hd2⟩ : ∃ d, ds[i]? = some d := ⟨_, List.getElem?_eq_getElem (by omega)⟩
    rw [pastTo_succ hd2] at he
    unfold pastStep at he
    cases hm : doM (pastTo s ds i).1 d with
    | none => rw [hm] at he; exact ih (by omega) e he
    | some x =>
      rw [hm] at he
      dsimp only at he
      split at he
      · rcases List.mem_append.1 he with h | h
        · exact ih (by omega) e h
        · obtain rfl : e = entOf d x := by simpa using h
          exact ⟨d, List.mem_of_getElem? hd2, by unfold entOf; split <;> rfl⟩
      · exact ih (by omega) e he
theorem pastM_key {s : Sto} {ds : List Deed} : ∀ e ∈ pastM s ds, ∃ d ∈ ds, e.key = d.key := by
  unfold pastM
  split
  · exact pastTo_key s ds ds.length (Nat.le_refl _)
  · simp
theorem eSto_st (keep : Int) : SmSt (eSto keep) := ⟨smR_nil, fun r hr => by simp [eSto] at hr; subst hr; exact smR_nil, by simp [eSto], by simp [eSto], fun x hx => by simp [eSto] at hx; subst hx; simp [eSve], by simp [eSto]⟩
noncomputable def allV (b : List Int) (p : Nat) : List Ent := pastM (eSto 1) (deedsV b p 30).1
theorem allV_fin {b : List Int} (hb : byteL b) {p : Nat} (hp : p ≤ 100000) : (allV b p).length ≤ 40 ∧ ∀ e ∈ allV b p, e.key.size ≤ 5 := by
  obtain ⟨h1, h2, h3⟩ := deedsV_fin hb (p := p) (most := 30) hp (by omega)
  refine ⟨(pastM_len (eSto_st 1) ⟨fun d hd => by have := h2 d hd; unfold smK; omega⟩).1, fun e he => ?_⟩
  obtain ⟨d, hd, e2⟩ := pastM_key e he
  rw [e2]; exact h2 d hd
theorem l71All_ac {b : List Int} {p : Nat} (hb : byteL b) (hp : p ≤ 100000) : AC Try.prog 74 [.c (.ph 0 0 0)] (hpL [some (rdO b p)]) 1 ⟨.t (.c (.h 1)), hpL [some (rdO b (deedsV b p 30).2), some (eRow (allV b p))], 2⟩ := by
  refine AC_of Try.func74 rfl Try.ntmps74 Try.results74 (by kernel_rfl) rfl ?_
  simp only [List.zipIdx, List.map, Nat.zero_add, Nat.reduceAdd]
  obtain ⟨h1, h2, h3⟩ := deedsV_fin hb (p := p) (most := 30) hp (by omega)
  have k1 := sstoreNew_ok 1 (by omega)
  rw [show ((1 : Nat) : Int) = 1 from rfl] at k1
  have k2 := l71Deeds_ac (most := 30) hb hp (by omega)
  rw [show ((30 : Nat) : Int) = 30 from rfl] at k2
  have k3 := pastAll_ac (eSto 1) (deedsV b p 30).1 (eSto_st 1) ⟨fun d hd => by have := h2 d hd; unfold smK; omega⟩ (by omega)
  repeat (first | apply Aw_seq | apply Aw_block | apply Aw_skip | apply Aw_exit | refine Aw_condt rfl ?_ | refine Aw_condf rfl ?_ | (refine qr ?_; simp only [go_sem, Nat.reduceEqDiff, reduceIte, Nat.reduceAdd, Nat.reduceMul, Nat.reduceSub, Nat.reduceLT, Nat.reduceLeDiff, Nat.reduceBEq]) | (refine qd (by kernel_rfl) (by kernel_rfl) ?_; simp only [go_sem, Nat.reduceEqDiff, reduceIte, Nat.reduceAdd, Nat.reduceMul, Nat.reduceSub, Nat.reduceLT, Nat.reduceLeDiff, Nat.reduceBEq]) | refine dk (by kernel_rfl) ?_ | (refine qp (k1) (by simp only [go_sem, Nat.reduceEqDiff, reduceIte, Nat.reduceAdd, Nat.reduceMul, Nat.reduceSub, Nat.reduceLT, Nat.reduceLeDiff, Nat.reduceBEq]; first | done | rfl) rfl (by simp only [go_sem, Nat.reduceLT]) rfl rfl ?_; simp only [go_sem, Nat.reduceEqDiff, reduceIte, Nat.reduceAdd, Nat.reduceMul, Nat.reduceSub, Nat.reduceLT, Nat.reduceLeDiff, Nat.reduceBEq]) | (refine qx (call_L (N' := [0]) (L := []) (k2) rfl (.cons (.nm rfl) (.cons (.nm rfl) (.nil))) (by decide) (by decide) (by decide) (by simp only [go_sem, Nat.reduceEqDiff, reduceIte, Nat.reduceAdd, Nat.reduceMul, Nat.reduceSub, Nat.reduceLT, Nat.reduceLeDiff, Nat.reduceBEq]; first | done | rfl) (.inl rfl) rfl (by decide)) (by simp only [go_sem, Nat.reduceEqDiff, reduceIte, Nat.reduceAdd, Nat.reduceMul, Nat.reduceSub, Nat.reduceLT, Nat.reduceLeDiff, Nat.reduceBEq]; first | done | rfl) rfl (by simp only [go_sem, Nat.reduceLT]) ?_; simp only [go_sem, Nat.reduceEqDiff, reduceIte, Nat.reduceAdd, Nat.reduceMul, Nat.reduceSub, Nat.reduceLT, Nat.reduceLeDiff, Nat.reduceBEq]) | (refine qx (call_N (L := [10]) (k3) rfl (.cons (.nm rfl) (.cons (arg_lend (m := 10) rfl (by simp)) (.nil))) (.inr ⟨rfl, by simp⟩) rfl) (by simp only [go_sem, Nat.reduceEqDiff, reduceIte, Nat.reduceAdd, Nat.reduceMul, Nat.reduceSub, Nat.reduceLT, Nat.reduceLeDiff, Nat.reduceBEq]; first | done | rfl) rfl (by simp only [go_sem, Nat.reduceLT]) ?_; simp only [go_sem, Nat.reduceEqDiff, reduceIte, Nat.reduceAdd, Nat.reduceMul, Nat.reduceSub, Nat.reduceLT, Nat.reduceLeDiff, Nat.reduceBEq]))
  exact Aw_ret (retL (M := [0, 11]) (.inl rfl) (by simp only [go_sem, Nat.reduceEqDiff, reduceIte, Nat.reduceAdd, Nat.reduceMul, Nat.reduceSub, Nat.reduceLT, Nat.reduceLeDiff, Nat.reduceBEq]; first | done | rfl) rfl rfl (by rfl) (by simp only [go_sem, Nat.reduceEqDiff, reduceIte, Nat.reduceAdd, Nat.reduceMul, Nat.reduceSub, Nat.reduceLT, Nat.reduceLeDiff, Nat.reduceBEq]; first | done | rfl | (and_intros <;> rfl)) (by decide) (by intro m hm; first | omega | (rcases m with _ | _ | _ | _ | _ | _ | m <;> first | exact ⟨by decide, rfl⟩ | omega)))
noncomputable def drL (b : List Int) : List Ent := allV b 0
noncomputable def drP (b : List Int) : Nat := (deedsV b 0 30).2
noncomputable def drK (b : List Int) : ByteArray × Nat := nearV b (drP b) ((drL b).map Ent.key)
noncomputable def drT (b : List Int) : Nat := pickV b (drK b).2 (((drL b).length + 2 : Nat) : Int)
def keyAtI (r : List Ent) (i : Nat) : List ByteArray := (r.take i).map Ent.key
theorem keyAtI_succ {r : List Ent} {i : Nat} {e : Ent} (h : r[i]? = some e) : keyAtI r (i + 1) = keyAtI r i ++ [e.key] := by unfold keyAtI; rw [List.take_add_one, h]; simp
theorem drawPastGet_ac (c : List Int) (hl : c.length ≤ 1099511627776) (hb : byteL (c.take 2000)) : AC Try.prog 25 [bytesT c] noHp 0 ⟨.tup [runT (drL (c.take 2000)), sT (drK (c.take 2000)).1, iT (drT (c.take 2000))], noHp, 0⟩ := by
  refine AC_of Try.func25 rfl Try.ntmps25 Try.results25 (by kernel_rfl) rfl ?_
  simp only [List.zipIdx, List.map, Nat.zero_add, Nat.reduceAdd]
  obtain ⟨b, hbe⟩ : ∃ b, b = c.take 2000 := ⟨_, rfl⟩
  rw [← hbe] at hb ⊢
  have k0 := l6Open_ac c hl
  rw [← hbe] at k0
  have k1 := l71All_ac hb (p := 0) (by omega)
  obtain ⟨h1, h2, h3⟩ := deedsV_fin hb (p := 0) (most := 30) (by omega) (by omega)
  obtain ⟨l1, l2⟩ := allV_fin hb (p := 0) (by omega)
  have kn := l71Near_ac (p := drP b) (l := (drL b).map Ent.key) hb (by show (deedsV b 0 30).2 ≤ _; omega) (by rw [List.length_map]; show (allV b 0).length ≤ _; omega) (fun s hs => by obtain ⟨e, he, rfl⟩ := List.mem_map.1 hs; have := l2 e he; omega)
  have hn := nearV_fin hb (p := drP b) (K := 5) (l := (drL b).map Ent.key) (by show (deedsV b 0 30).2 ≤ _; omega) (by rw [List.length_map]; show (allV b 0).length ≤ _; omega) (by omega) (fun s hs => by obtain ⟨e, he, rfl⟩ := List.mem_map.1 hs; have := l2 e he; omega)
  have hp : (drK b).2 ≤ 1000000 := by have : drP b ≤ 0 + 2000 := h3; show (nearV _ _ _).2 ≤ _; omega
  have kt := pickV_ac (n := (((drL b).length + 2 : Nat) : Int)) hb hp (by have : (drL b).length ≤ 40 := l1; omega)
  have hlen : (drL b).length ≤ 40 := l1
  have w2 : IntKind.i64.wrap (((drL b).length : Int) + 2) = (((drL b).length + 2 : Nat) : Int) := wn (by omega) (by omega)
  change AC Try.prog _ _ _ _ ⟨_, hpL [some (rdO b (drP b)), some (eRow (drL b))], 2⟩ at k1
  change AC Try.prog _ _ _ _ ⟨.t (sT (drK b).1), hpL [some (rdO b (drK b).2)], 1⟩ at kn
  repeat (first | apply Aw_seq | apply Aw_block | apply Aw_skip | apply Aw_exit | refine Aw_condt rfl ?_ | refine Aw_condf rfl ?_ | (refine qr ?_; simp only [go_sem, Nat.reduceEqDiff, reduceIte, Nat.reduceAdd, Nat.reduceMul, Nat.reduceSub, Nat.reduceLT, Nat.reduceLeDiff, Nat.reduceBEq]) | (refine qd (by kernel_rfl) (by kernel_rfl) ?_; simp only [go_sem, Nat.reduceEqDiff, reduceIte, Nat.reduceAdd, Nat.reduceMul, Nat.reduceSub, Nat.reduceLT, Nat.reduceLeDiff, Nat.reduceBEq]) | refine dk (by kernel_rfl) ?_ | (refine qx (call_N (L := []) (k0) rfl (.cons (.nm rfl) (.nil)) (.inl rfl) rfl) (by simp only [go_sem, Nat.reduceEqDiff, reduceIte, Nat.reduceAdd, Nat.reduceMul, Nat.reduceSub, Nat.reduceLT, Nat.reduceLeDiff, Nat.reduceBEq]; first | done | rfl) rfl (by simp only [go_sem, Nat.reduceLT]) ?_; simp only [go_sem, Nat.reduceEqDiff, reduceIte, Nat.reduceAdd, Nat.reduceMul, Nat.reduceSub, Nat.reduceLT, Nat.reduceLeDiff, Nat.reduceBEq]) | (refine qx (call_L (N' := [4]) (L := []) (k1) rfl (.cons (.nm rfl) (.nil)) (by decide) (by decide) (by decide) (by simp only [go_sem, Nat.reduceEqDiff, reduceIte, Nat.reduceAdd, Nat.reduceMul, Nat.reduceSub, Nat.reduceLT, Nat.reduceLeDiff, Nat.reduceBEq]; first | done | rfl) (.inl rfl) rfl (by decide)) (by simp only [go_sem, Nat.reduceEqDiff, reduceIte, Nat.reduceAdd, Nat.reduceMul, Nat.reduceSub, Nat.reduceLT, Nat.reduceLeDiff, Nat.reduceBEq]; first | done | rfl) rfl (by simp only [go_sem, Nat.reduceLT]) ?_; simp only [go_sem, Nat.reduceEqDiff, reduceIte, Nat.reduceAdd, Nat.reduceMul, Nat.reduceSub, Nat.reduceLT, Nat.reduceLeDiff, Nat.reduceBEq]))
  refine Aw.rw (rwL (l' := [(8, .t (iT (0 : Nat))), (7, .t (.c (.h 2))), (6, .t (.c (.h 1))), (5, .t (.c (.ph 0 0 0)))]) (os := [some (rdO b (drP b)), some (eRow (drL b)), some (kRow (keyAtI (drL b) 0))]) (M := [4, 7, 9]) (n' := 3) (by repeat (first | exact trivial | refine ⟨rfl, rfl, ?_⟩)) (by rfl) (by simp only [go_sem, Nat.reduceEqDiff, reduceIte, Nat.reduceAdd, Nat.reduceMul, Nat.reduceSub, Nat.reduceLT, Nat.reduceLeDiff, Nat.reduceBEq, List.map_nil, keyAtI, List.take_zero]; first | done | rfl) (by decide) (by intro m hm; first | omega | (rcases m with _ | _ | _ | _ | _ | _ | m <;> first | exact ⟨by decide, rfl⟩ | omega))) ?_
  refine Aw.setL (l' := [(8, .t (iT (0 : Nat))), (7, .t (.c (.h 2))), (6, .t (runT (drL b))), (5, .t (.c (.ph 0 0 0)))]) (os' := [some (rdO b (drP b)), none, some (kRow (keyAtI (drL b) 0))]) (n' := 3) [1] (by repeat (first | exact trivial | refine ⟨SetA.same rfl, ?_⟩ | refine ⟨SetA.row rfl rfl (by decide), ?_⟩)) (by repeat (first | exact trivial | refine ⟨rfl, rfl, ?_⟩ | show SubL _ _ _ _)) (by decide) ?_
  refine Aw_loop_rw (ι := { j : Nat // j ≤ (drL b).length }) (fun q => S [(8, .t (iT (q.1 : Nat))), (7, .t (.c (.h 2))), (6, .t (runT (drL b))), (5, .t (.c (.ph 0 0 0)))] (hpL [some (rdO b (drP b)), none, some (kRow (keyAtI (drL b) q.1))]) 3) (fun q => (drL b).length - q.1) ⟨0, Nat.zero_le _⟩ ?_
  rintro ⟨i, hi⟩
  dsimp only
  by_cases hlt : i < (drL b).length
  · have g1 : (i : Int) < ((drL b).length : Int) := by omega
    have w1 := wrap_succ hlt (by omega)
    obtain ⟨e, hx⟩ : ∃ e, (drL b)[i]? = some e := ⟨_, List.getElem?_eq_getElem hlt⟩
    have hap : ((keyAtI (drL b) i).length + 1) * 16 ≤ 140737488355328 := by unfold keyAtI; rw [List.length_map, List.length_take]; omega
    have e1 := keyAtI_succ hx
    repeat (first | apply Aw_seq | apply Aw_block | apply Aw_skip | apply Aw_exit | refine Aw_condt rfl ?_ | refine Aw_condf rfl ?_ | (refine qr ?_; simp only [go_sem, Nat.reduceEqDiff, reduceIte, Nat.reduceAdd, Nat.reduceMul, Nat.reduceSub, Nat.reduceLT, Nat.reduceLeDiff, Nat.reduceBEq, g1, w1, hx, hap]) | (refine qd (by kernel_rfl) (by kernel_rfl) ?_; simp only [go_sem, Nat.reduceEqDiff, reduceIte, Nat.reduceAdd, Nat.reduceMul, Nat.reduceSub, Nat.reduceLT, Nat.reduceLeDiff, Nat.reduceBEq, g1, w1, hx, hap]) | refine dk (by kernel_rfl) ?_)
    refine ⟨⟨i + 1, hlt⟩, [0, 0, 14], ?_, rwL (by repeat (first | exact trivial | refine ⟨rfl, rfl, ?_⟩)) (by rfl) (by simp only [go_sem, Nat.reduceEqDiff, reduceIte, Nat.reduceAdd, Nat.reduceMul, Nat.reduceSub, Nat.reduceLT, Nat.reduceLeDiff, Nat.reduceBEq, e1, List.map_append, List.map_cons, List.map_nil]; first | done | rfl) (by decide) (by intro m hm; first | omega | (rcases m with _ | _ | _ | _ | _ | _ | m <;> first | exact ⟨by decide, rfl⟩ | omega))⟩
    show (drL b).length - (i + 1) < (drL b).length - i; omega
  · have g1 : ¬ (i : Int) < ((drL b).length : Int) := by omega
    obtain rfl : i = (drL b).length := by omega
    have e1 : keyAtI (drL b) (drL b).length = (drL b).map Ent.key := by unfold keyAtI; rw [List.take_length]
    rw [e1]
    iterate 6 (first | apply Aw_seq | apply Aw_block | apply Aw_skip | apply Aw_exit | refine Aw_condt rfl ?_ | refine Aw_condf rfl ?_ | (refine qr ?_; simp only [go_sem, Nat.reduceEqDiff, reduceIte, Nat.reduceAdd, Nat.reduceMul, Nat.reduceSub, Nat.reduceLT, Nat.reduceLeDiff, Nat.reduceBEq, g1]) | (refine qd (by kernel_rfl) (by kernel_rfl) ?_; simp only [go_sem, Nat.reduceEqDiff, reduceIte, Nat.reduceAdd, Nat.reduceMul, Nat.reduceSub, Nat.reduceLT, Nat.reduceLeDiff, Nat.reduceBEq, g1]) | refine dk (by kernel_rfl) ?_)
    refine Aw.setL (l' := [(7, .t (strsT ((drL b).map Ent.key))), (6, .t (runT (drL b))), (5, .t (.c (.ph 0 0 0)))]) (os' := [some (rdO b (drP b))]) (n' := 7) [2] (by repeat (first | exact trivial | refine ⟨SetA.same rfl, ?_⟩ | refine ⟨SetA.row rfl rfl (by decide), ?_⟩)) (by repeat (first | exact trivial | refine ⟨rfl, rfl, ?_⟩ | show SubL _ _ _ _)) (by decide) ?_
    repeat (first | apply Aw_seq | apply Aw_block | apply Aw_skip | apply Aw_exit | refine Aw_condt rfl ?_ | refine Aw_condf rfl ?_ | (refine qr ?_; simp only [go_sem, Nat.reduceEqDiff, reduceIte, Nat.reduceAdd, Nat.reduceMul, Nat.reduceSub, Nat.reduceLT, Nat.reduceLeDiff, Nat.reduceBEq, w2]) | (refine qd (by kernel_rfl) (by kernel_rfl) ?_; simp only [go_sem, Nat.reduceEqDiff, reduceIte, Nat.reduceAdd, Nat.reduceMul, Nat.reduceSub, Nat.reduceLT, Nat.reduceLeDiff, Nat.reduceBEq, w2]) | refine dk (by kernel_rfl) ?_ | (refine qx (call_L (N' := [0]) (L := []) (kn) rfl (.cons (.nm rfl) (.cons (.nm rfl) (.nil))) (by decide) (by decide) (by decide) (by simp only [go_sem, Nat.reduceEqDiff, reduceIte, Nat.reduceAdd, Nat.reduceMul, Nat.reduceSub, Nat.reduceLT, Nat.reduceLeDiff, Nat.reduceBEq, w2]; first | done | rfl) (.inl rfl) rfl (by decide)) (by simp only [go_sem, Nat.reduceEqDiff, reduceIte, Nat.reduceAdd, Nat.reduceMul, Nat.reduceSub, Nat.reduceLT, Nat.reduceLeDiff, Nat.reduceBEq, w2]; first | done | rfl) rfl (by simp only [go_sem, Nat.reduceLT]) ?_; simp only [go_sem, Nat.reduceEqDiff, reduceIte, Nat.reduceAdd, Nat.reduceMul, Nat.reduceSub, Nat.reduceLT, Nat.reduceLeDiff, Nat.reduceBEq, w2]) | (refine qx (call_L (N' := [0]) (L := []) (kt) rfl (.cons (.nm rfl) (.cons (.nm rfl) (.nil))) (by decide) (by decide) (by decide) (by simp only [go_sem, Nat.reduceEqDiff, reduceIte, Nat.reduceAdd, Nat.reduceMul, Nat.reduceSub, Nat.reduceLT, Nat.reduceLeDiff, Nat.reduceBEq, w2]; first | done | rfl) (.inl rfl) rfl (by decide)) (by simp only [go_sem, Nat.reduceEqDiff, reduceIte, Nat.reduceAdd, Nat.reduceMul, Nat.reduceSub, Nat.reduceLT, Nat.reduceLeDiff, Nat.reduceBEq, w2]; first | done | rfl) rfl (by simp only [go_sem, Nat.reduceLT]) ?_; simp only [go_sem, Nat.reduceEqDiff, reduceIte, Nat.reduceAdd, Nat.reduceMul, Nat.reduceSub, Nat.reduceLT, Nat.reduceLeDiff, Nat.reduceBEq, w2]))
    exact Aw_ret (ret0 (.inl rfl) (by simp only [go_sem, Nat.reduceEqDiff, reduceIte, Nat.reduceAdd, Nat.reduceMul, Nat.reduceSub, Nat.reduceLT, Nat.reduceLeDiff, Nat.reduceBEq]; rfl) (by rfl) rfl)
end Go.Proofs.Ytcbhgglpgphimaa.Ab
namespace Go.Proofs.Ytcbhgglpgphimaa.Ab
set_option linter.deprecated false
set_option linter.unusedVariables false
set_option linter.unusedSimpArgs false
open Go Go.Proofs
set_option maxRecDepth 10000
set_option maxHeartbeats 8000000
set_option linter.unusedSimpArgs false
set_option linter.unusedVariables false
theorem l71DeedsS_ac {b : List Int} {p most : Nat} (hb : byteL b) (hp : p ≤ 100000) (hm : most ≤ 100) : AC Try.prog 123 [.c (.ph 0 0 0), iT most] (hpL [some (rdO b p)]) 1 ⟨.t (deedsT (deedsV b p most).1), hpL [some (rdO b (deedsV b p most).2), none], 2⟩ :=
  AC.setS [1] (l71Deeds_ac hb hp hm) (SetC.row0 rfl rfl) ⟨.inl rfl, rfl, trivial⟩
/-- How much a drawn store's sieves keep. -/
def kpN : Nat → Nat
  | 0 => 0
  | 1 => 1
  | 2 => 1
  | 3 => 2
  | _ => 5
theorem kpN_le : ∀ n, kpN n ≤ 5
  | 0 => by decide
  | 1 => by decide
  | 2 => by decide
  | 3 => by decide
  | n + 4 => Nat.le_refl 5
noncomputable def stoV (b : List Int) (p : Nat) : Sto × Nat := ((pastTo (eSto (kpN (pickV b p 5) : Nat)) (deedsV b (p + 1) 30).1 (deedsV b (p + 1) 30).1.length).1, (deedsV b (p + 1) 30).2)
abbrev hT1 (s : Sto) : TV := .agg [.h 3, .h 1, .h 2, .d (.s (.int .i64 s.keep)), .d (.s (.int .i64 s.time)), .h 4]
theorem sveEq_refl (x : Sve) : sveEq x x = true := by unfold sveEq; simp
theorem eSto_ok {k : Nat} (hk : k ≤ 5) : storeS (eSto (k : Nat)) = true := by
  have h0 : sieveM (keysM []) (k : Int) = some (eSve k) := by rw [keysM_nil]; exact sieve_nil hk
  have hl : ∀ i, i < 3 → sAt (eSto (k : Nat)) i = true := by
    intro i hi
    have lv : lvM (k : Int) i [] (eSve k) = true := by
      unfold lvM
      rw [h0]
      have : runOk [] = true := rfl
      rw [this]
      simp [sveEq_refl]
    have nw : newestM [] [] 0 = true := rfl
    have sp : ∀ j, j < 3 → (decide (j ≤ i) || sPair (eSto (k : Nat)) i j) = true := by
      intro j hj
      have : sPair (eSto (k : Nat)) i j = true := by
        match i, hi, j, hj with
        | 0, _, 0, _ => rfl
        | 0, _, 1, _ => rfl
        | 0, _, 2, _ => rfl
        | 1, _, 0, _ => rfl
        | 1, _, 1, _ => rfl
        | 1, _, 2, _ => rfl
        | 2, _, 0, _ => rfl
        | 2, _, 1, _ => rfl
        | 2, _, 2, _ => rfl
      rw [this]; simp
    unfold sAt
    rw [allI_t sp]
    match i, hi with
    | 0, _ => simpa [eSto] using ⟨lv, nw⟩
    | 1, _ => simpa [eSto] using ⟨lv, nw⟩
    | 2, _ => simpa [eSto] using ⟨lv, nw⟩
  unfold storeS
  rw [allI_t hl]
  unfold headS
  have h1 : inB 0 (k : Int) 5 = true := inKeep hk
  simp only [eSto, h1]
  rfl
theorem l71Store_ac {b : List Int} {p : Nat} (hb : byteL b) (hp : p ≤ 90000) : AC Try.prog 138 [.c (.ph 0 0 0)] (hpL [some (rdO b p)]) 1 ⟨.t (hT1 (stoV b p).1), hpL [some (rdO b (stoV b p).2), some (lvRow (stoV b p).1.levels), some (svRow (stoV b p).1.sieves), some (eRow (stoV b p).1.top), some (tmRow (stoV b p).1.times)], 5⟩ := by
  refine AC_of Try.func138 rfl Try.ntmps138 Try.results138 (by kernel_rfl) rfl ?_
  simp only [List.zipIdx, List.map, Nat.zero_add, Nat.reduceAdd]
  obtain ⟨d1, d2, d3⟩ := deedsV_fin hb (p := p + 1) (most := 30) (by omega) (by omega)
  have k5 := pickV_ac (n := 5) hb (show p ≤ 1000000 by omega) (by omega)
  have h5 := pickV_lt (n := 5) hb (show p ≤ 1000000 by omega) (by omega) (by omega)
  obtain ⟨v, hv⟩ : ∃ v, v = pickV b p 5 := ⟨_, rfl⟩
  rw [← hv] at k5 h5
  have k1 := sstoreNew_ok (kpN v) (kpN_le v)
  have kd := l71DeedsS_ac (p := p + 1) (most := 30) hb (by omega) (by omega)
  rw [show ((30 : Nat) : Int) = 30 from rfl] at kd
  have kp := pastDo_ac (eSto (kpN v : Nat)) (deedsV b (p + 1) 30).1 (eSto_st _) (eSto_ok (kpN_le v)) ⟨fun d hd => by have := d2 d hd; unfold smK; omega⟩ (by omega)
  unfold stoV
  rw [← hv]
  dsimp only
  generalize (pastTo (eSto (kpN v : Nat)) (deedsV b (p + 1) 30).1 (deedsV b (p + 1) 30).1.length).1 = x at kp ⊢
  have hx : ([[.d (.s (.int .i64 0))], [.d (.s (.int .i64 1))], [.d (.s (.int .i64 1))], [.d (.s (.int .i64 2))], [.d (.s (.int .i64 5))]] : List (List CV))[v]? = some [.d (.s (.int .i64 (kpN v : Nat)))] := by
    match v, h5 with
    | 0, _ => rfl
    | 1, _ => rfl
    | 2, _ => rfl
    | 3, _ => rfl
    | 4, _ => rfl
  have hlt : v < 5 := by omega
  repeat (first | apply Aw_seq | apply Aw_block | apply Aw_skip | apply Aw_exit | refine Aw_condt rfl ?_ | refine Aw_condf rfl ?_ | (refine qr ?_; simp only [go_sem, Nat.reduceEqDiff, reduceIte, Nat.reduceAdd, Nat.reduceMul, Nat.reduceSub, Nat.reduceLT, Nat.reduceLeDiff, Nat.reduceBEq, hx, hlt]) | (refine qd (by kernel_rfl) (by kernel_rfl) ?_; simp only [go_sem, Nat.reduceEqDiff, reduceIte, Nat.reduceAdd, Nat.reduceMul, Nat.reduceSub, Nat.reduceLT, Nat.reduceLeDiff, Nat.reduceBEq, hx, hlt]) | refine dk (by kernel_rfl) ?_ | (refine qp (k1) (by simp only [go_sem, Nat.reduceEqDiff, reduceIte, Nat.reduceAdd, Nat.reduceMul, Nat.reduceSub, Nat.reduceLT, Nat.reduceLeDiff, Nat.reduceBEq, hx, hlt]; first | done | rfl) rfl (by simp only [go_sem, Nat.reduceLT]) rfl rfl ?_; simp only [go_sem, Nat.reduceEqDiff, reduceIte, Nat.reduceAdd, Nat.reduceMul, Nat.reduceSub, Nat.reduceLT, Nat.reduceLeDiff, Nat.reduceBEq, hx, hlt]) | (refine qx (call_L (N' := [0]) (L := []) (k5) rfl (.cons (.nm rfl) (.cons (.nm rfl) (.nil))) (by decide) (by decide) (by decide) (by simp only [go_sem, Nat.reduceEqDiff, reduceIte, Nat.reduceAdd, Nat.reduceMul, Nat.reduceSub, Nat.reduceLT, Nat.reduceLeDiff, Nat.reduceBEq, hx, hlt]; first | done | rfl) (.inl rfl) rfl (by decide)) (by simp only [go_sem, Nat.reduceEqDiff, reduceIte, Nat.reduceAdd, Nat.reduceMul, Nat.reduceSub, Nat.reduceLT, Nat.reduceLeDiff, Nat.reduceBEq, hx, hlt]; first | done | rfl) rfl (by simp only [go_sem, Nat.reduceLT]) ?_; simp only [go_sem, Nat.reduceEqDiff, reduceIte, Nat.reduceAdd, Nat.reduceMul, Nat.reduceSub, Nat.reduceLT, Nat.reduceLeDiff, Nat.reduceBEq, hx, hlt]) | (refine qx (call_L (N' := [0]) (L := []) (kd) rfl (.cons (.nm rfl) (.cons (.nm rfl) (.nil))) (by decide) (by decide) (by decide) (by simp only [go_sem, Nat.reduceEqDiff, reduceIte, Nat.reduceAdd, Nat.reduceMul, Nat.reduceSub, Nat.reduceLT, Nat.reduceLeDiff, Nat.reduceBEq, hx, hlt]; first | done | rfl) (.inl rfl) rfl (by decide)) (by simp only [go_sem, Nat.reduceEqDiff, reduceIte, Nat.reduceAdd, Nat.reduceMul, Nat.reduceSub, Nat.reduceLT, Nat.reduceLeDiff, Nat.reduceBEq, hx, hlt]; first | done | rfl) rfl (by simp only [go_sem, Nat.reduceLT]) ?_; simp only [go_sem, Nat.reduceEqDiff, reduceIte, Nat.reduceAdd, Nat.reduceMul, Nat.reduceSub, Nat.reduceLT, Nat.reduceLeDiff, Nat.reduceBEq, hx, hlt]) | (refine qx (call_N (L := []) (kp) rfl (.cons (.nm rfl) (.cons (.nm rfl) (.nil))) (.inl rfl) rfl) (by simp only [go_sem, Nat.reduceEqDiff, reduceIte, Nat.reduceAdd, Nat.reduceMul, Nat.reduceSub, Nat.reduceLT, Nat.reduceLeDiff, Nat.reduceBEq, hx, hlt]; first | done | rfl) rfl (by simp only [go_sem, Nat.reduceLT]) ?_; simp only [go_sem, Nat.reduceEqDiff, reduceIte, Nat.reduceAdd, Nat.reduceMul, Nat.reduceSub, Nat.reduceLT, Nat.reduceLeDiff, Nat.reduceBEq, hx, hlt]))
  exact Aw_ret (retL (M := [0, 15, 16, 17, 18]) (.inl rfl) (by simp only [go_sem, Nat.reduceEqDiff, reduceIte, Nat.reduceAdd, Nat.reduceMul, Nat.reduceSub, Nat.reduceLT, Nat.reduceLeDiff, Nat.reduceBEq]; first | done | rfl) rfl rfl (by rfl) (by simp only [go_sem, Nat.reduceEqDiff, reduceIte, Nat.reduceAdd, Nat.reduceMul, Nat.reduceSub, Nat.reduceLT, Nat.reduceLeDiff, Nat.reduceBEq]; first | done | rfl | (and_intros <;> rfl)) (by decide) (by intro m hm; first | omega | (rcases m with _ | _ | _ | _ | _ | _ | m <;> first | exact ⟨by decide, rfl⟩ | omega)))
end Go.Proofs.Ytcbhgglpgphimaa.Ab
namespace Go.Proofs.Ytcbhgglpgphimaa.Ab
set_option linter.deprecated false
set_option linter.unusedVariables false
set_option linter.unusedSimpArgs false
open Go Go.Proofs
set_option maxRecDepth 10000
set_option maxHeartbeats 8000000
set_option linter.unusedSimpArgs false
set_option linter.unusedVariables false
theorem oneE_ac (n : Int) : AC Try.prog 172 [sT zs, iT n] noHp 0 ⟨.t (iT (-1)), noHp, 0⟩ := by
  have g1 : decide ((0 : Int) < (zs.size : Int)) = false := rfl
  refine AC_of Try.func172 rfl Try.ntmps172 Try.results172 (by kernel_rfl) rfl ?_
  simp only [List.zipIdx, List.map, Nat.zero_add, Nat.reduceAdd]
  repeat (first | apply Aw_seq | apply Aw_block | apply Aw_skip | apply Aw_exit | refine Aw_condt rfl ?_ | refine Aw_condf rfl ?_ | (refine qr ?_; simp only [go_sem, Nat.reduceEqDiff, reduceIte, Nat.reduceAdd, Nat.reduceMul, Nat.reduceSub, Nat.reduceLT, Nat.reduceLeDiff, Nat.reduceBEq]) | (refine qd (by kernel_rfl) (by kernel_rfl) ?_; simp only [go_sem, Nat.reduceEqDiff, reduceIte, Nat.reduceAdd, Nat.reduceMul, Nat.reduceSub, Nat.reduceLT, Nat.reduceLeDiff, Nat.reduceBEq]) | refine dk (by kernel_rfl) ?_)
  refine Aw_rounds 1 ?_
  refine AwR_succ ?_
  repeat (first | apply Aw_seq | apply Aw_block | apply Aw_skip | apply Aw_exit | refine Aw_condt rfl ?_ | refine Aw_condf rfl ?_ | (refine qr ?_; simp only [go_sem, Nat.reduceEqDiff, reduceIte, Nat.reduceAdd, Nat.reduceMul, Nat.reduceSub, Nat.reduceLT, Nat.reduceLeDiff, Nat.reduceBEq, g1]) | (refine qd (by kernel_rfl) (by kernel_rfl) ?_; simp only [go_sem, Nat.reduceEqDiff, reduceIte, Nat.reduceAdd, Nat.reduceMul, Nat.reduceSub, Nat.reduceLT, Nat.reduceLeDiff, Nat.reduceBEq, g1]) | refine dk (by kernel_rfl) ?_)
  exact Aw_ret (ret0 (.inl rfl) (by simp only [go_sem, Nat.reduceEqDiff, reduceIte, Nat.reduceAdd, Nat.reduceMul, Nat.reduceSub, Nat.reduceLT, Nat.reduceLeDiff, Nat.reduceBEq]; rfl) (by rfl) rfl)
theorem branchesE_ac (keep n : Int) : AC Try.prog 142 [sveP (eSve keep), iT n] noHp 0 ⟨.tup [iT 0, iT 0], noHp, 0⟩ := by
  have k := oneE_ac n
  unfold eSve
  have g1 : decide ((-1 : Int) < 0) = true := rfl
  refine AC_of Try.func142 rfl Try.ntmps142 Try.results142 (by kernel_rfl) rfl ?_
  simp only [List.zipIdx, List.map, Nat.zero_add, Nat.reduceAdd]
  repeat (first | apply Aw_seq | apply Aw_block | apply Aw_skip | apply Aw_exit | refine Aw_condt rfl ?_ | refine Aw_condf rfl ?_ | (refine qr ?_; simp only [go_sem, Nat.reduceEqDiff, reduceIte, Nat.reduceAdd, Nat.reduceMul, Nat.reduceSub, Nat.reduceLT, Nat.reduceLeDiff, Nat.reduceBEq, g1]) | (refine qd (by kernel_rfl) (by kernel_rfl) ?_; simp only [go_sem, Nat.reduceEqDiff, reduceIte, Nat.reduceAdd, Nat.reduceMul, Nat.reduceSub, Nat.reduceLT, Nat.reduceLeDiff, Nat.reduceBEq, g1]) | refine dk (by kernel_rfl) ?_ | (refine qp (k) (by simp only [go_sem, Nat.reduceEqDiff, reduceIte, Nat.reduceAdd, Nat.reduceMul, Nat.reduceSub, Nat.reduceLT, Nat.reduceLeDiff, Nat.reduceBEq, g1]; first | done | rfl) rfl (by simp only [go_sem, Nat.reduceLT]) rfl rfl ?_; simp only [go_sem, Nat.reduceEqDiff, reduceIte, Nat.reduceAdd, Nat.reduceMul, Nat.reduceSub, Nat.reduceLT, Nat.reduceLeDiff, Nat.reduceBEq, g1]))
  exact Aw_ret (ret0 (.inl rfl) (by simp only [go_sem, Nat.reduceEqDiff, reduceIte, Nat.reduceAdd, Nat.reduceMul, Nat.reduceSub, Nat.reduceLT, Nat.reduceLeDiff, Nat.reduceBEq]; rfl) (by rfl) rfl)
theorem hasE_ac (keep : Int) (s : ByteArray) : AC Try.prog 113 [sveP (eSve keep), sT s] noHp 0 ⟨.t (bT false), noHp, 0⟩ := by
  have k := branchesE_ac keep 0
  unfold eSve at k ⊢
  have g1 : decide ((0 : Int) < 0) = false := rfl
  have g2 : decide ((0 : Int) = 0) = true := rfl
  refine AC_of Try.func113 rfl Try.ntmps113 Try.results113 (by kernel_rfl) rfl ?_
  simp only [List.zipIdx, List.map, Nat.zero_add, Nat.reduceAdd]
  repeat (first | apply Aw_seq | apply Aw_block | apply Aw_skip | apply Aw_exit | refine Aw_condt rfl ?_ | refine Aw_condf rfl ?_ | (refine qr ?_; simp only [go_sem, Nat.reduceEqDiff, reduceIte, Nat.reduceAdd, Nat.reduceMul, Nat.reduceSub, Nat.reduceLT, Nat.reduceLeDiff, Nat.reduceBEq]) | (refine qd (by kernel_rfl) (by kernel_rfl) ?_; simp only [go_sem, Nat.reduceEqDiff, reduceIte, Nat.reduceAdd, Nat.reduceMul, Nat.reduceSub, Nat.reduceLT, Nat.reduceLeDiff, Nat.reduceBEq]) | refine dk (by kernel_rfl) ?_)
  refine Aw_rounds 1 ?_
  refine AwR_succ ?_
  repeat (first | apply Aw_seq | apply Aw_block | apply Aw_skip | apply Aw_exit | refine Aw_condt rfl ?_ | refine Aw_condf rfl ?_ | (refine qr ?_; simp only [go_sem, Nat.reduceEqDiff, reduceIte, Nat.reduceAdd, Nat.reduceMul, Nat.reduceSub, Nat.reduceLT, Nat.reduceLeDiff, Nat.reduceBEq]) | (refine qd (by kernel_rfl) (by kernel_rfl) ?_; simp only [go_sem, Nat.reduceEqDiff, reduceIte, Nat.reduceAdd, Nat.reduceMul, Nat.reduceSub, Nat.reduceLT, Nat.reduceLeDiff, Nat.reduceBEq]) | refine dk (by kernel_rfl) ?_ | (refine qp (k) (by simp only [go_sem, Nat.reduceEqDiff, reduceIte, Nat.reduceAdd, Nat.reduceMul, Nat.reduceSub, Nat.reduceLT, Nat.reduceLeDiff, Nat.reduceBEq]; first | done | rfl) rfl (by simp only [go_sem, Nat.reduceLT]) rfl rfl ?_; simp only [go_sem, Nat.reduceEqDiff, reduceIte, Nat.reduceAdd, Nat.reduceMul, Nat.reduceSub, Nat.reduceLT, Nat.reduceLeDiff, Nat.reduceBEq]))
  refine Aw_rounds 1 ?_
  refine AwR_succ ?_
  repeat (first | apply Aw_seq | apply Aw_block | apply Aw_skip | apply Aw_exit | refine Aw_condt rfl ?_ | refine Aw_condf rfl ?_ | (refine qr ?_; simp only [go_sem, Nat.reduceEqDiff, reduceIte, Nat.reduceAdd, Nat.reduceMul, Nat.reduceSub, Nat.reduceLT, Nat.reduceLeDiff, Nat.reduceBEq, g1, g2]) | (refine qd (by kernel_rfl) (by kernel_rfl) ?_; simp only [go_sem, Nat.reduceEqDiff, reduceIte, Nat.reduceAdd, Nat.reduceMul, Nat.reduceSub, Nat.reduceLT, Nat.reduceLeDiff, Nat.reduceBEq, g1, g2]) | refine dk (by kernel_rfl) ?_)
  exact Aw_ret (ret0 (.inl rfl) (by simp only [go_sem, Nat.reduceEqDiff, reduceIte, Nat.reduceAdd, Nat.reduceMul, Nat.reduceSub, Nat.reduceLT, Nat.reduceLeDiff, Nat.reduceBEq]; rfl) (by rfl) rfl)
theorem looksF_ac (keep : Int) (s : ByteArray) : AC Try.prog 112 [sveP (eSve keep), .c (.ph 0 0 0)] (hpL [some ⟨9, 1, false, [[.d (.s (.string s))]]⟩]) 1 ⟨.t (bT false), hpL [some ⟨9, 1, false, [[.d (.s (.string s))]]⟩], 1⟩ := by
  have k := hasE_ac keep s
  unfold eSve at k ⊢
  refine AC_of Try.func112 rfl Try.ntmps112 Try.results112 (by kernel_rfl) rfl ?_
  simp only [List.zipIdx, List.map, Nat.zero_add, Nat.reduceAdd]
  repeat (first | apply Aw_seq | apply Aw_block | apply Aw_skip | apply Aw_exit | refine Aw_condt rfl ?_ | refine Aw_condf rfl ?_ | (refine qr ?_; simp only [go_sem, Nat.reduceEqDiff, reduceIte, Nat.reduceAdd, Nat.reduceMul, Nat.reduceSub, Nat.reduceLT, Nat.reduceLeDiff, Nat.reduceBEq]) | (refine qd (by kernel_rfl) (by kernel_rfl) ?_; simp only [go_sem, Nat.reduceEqDiff, reduceIte, Nat.reduceAdd, Nat.reduceMul, Nat.reduceSub, Nat.reduceLT, Nat.reduceLeDiff, Nat.reduceBEq]) | refine dk (by kernel_rfl) ?_ | (refine qp (k) (by simp only [go_sem, Nat.reduceEqDiff, reduceIte, Nat.reduceAdd, Nat.reduceMul, Nat.reduceSub, Nat.reduceLT, Nat.reduceLeDiff, Nat.reduceBEq]; first | done | rfl) rfl (by simp only [go_sem, Nat.reduceLT]) rfl rfl ?_; simp only [go_sem, Nat.reduceEqDiff, reduceIte, Nat.reduceAdd, Nat.reduceMul, Nat.reduceSub, Nat.reduceLT, Nat.reduceLeDiff, Nat.reduceBEq]))
  exact Aw_ret (retL (M := [0]) (.inl rfl) (by simp only [go_sem, Nat.reduceEqDiff, reduceIte, Nat.reduceAdd, Nat.reduceMul, Nat.reduceSub, Nat.reduceLT, Nat.reduceLeDiff, Nat.reduceBEq]; first | done | rfl) rfl rfl (by rfl) (by simp only [go_sem, Nat.reduceEqDiff, reduceIte, Nat.reduceAdd, Nat.reduceMul, Nat.reduceSub, Nat.reduceLT, Nat.reduceLeDiff, Nat.reduceBEq]; first | done | rfl | (and_intros <;> rfl)) (by decide) (by intro m hm; first | omega | (rcases m with _ | _ | _ | _ | _ | _ | m <;> first | exact ⟨by decide, rfl⟩ | omega)))
theorem countE_ac (keep : Int) (s : ByteArray) : AC Try.prog 111 [stT (eSto keep), .c (.fn 112 [.ph 0 0 0])] (hpL [some ⟨9, 1, false, [[.d (.s (.string s))]]⟩]) 1 ⟨.t (iT 0), hpL [some ⟨9, 1, false, [[.d (.s (.string s))]]⟩], 1⟩ := by
  have k := looksF_ac keep s
  unfold eSve at k
  unfold eSto eSve
  have l0 : decide ((0 : Int) < 3) = true := rfl
  have l1 : decide ((1 : Int) < 3) = true := rfl
  have l2 : decide ((2 : Int) < 3) = true := rfl
  have l3 : decide ((3 : Int) < 3) = false := rfl
  have w0 : IntKind.i64.wrap ((0 : Int) + 1) = 1 := rfl
  have w1 : IntKind.i64.wrap ((1 : Int) + 1) = 2 := rfl
  have w2 : IntKind.i64.wrap ((2 : Int) + 1) = 3 := rfl
  refine AC_of Try.func111 rfl Try.ntmps111 Try.results111 (by kernel_rfl) rfl ?_
  simp only [List.zipIdx, List.map, Nat.zero_add, Nat.reduceAdd]
  repeat (first | apply Aw_seq | apply Aw_block | apply Aw_skip | apply Aw_exit | refine Aw_condt rfl ?_ | refine Aw_condf rfl ?_ | (refine qr ?_; simp only [go_sem, Nat.reduceEqDiff, reduceIte, Nat.reduceAdd, Nat.reduceMul, Nat.reduceSub, Nat.reduceLT, Nat.reduceLeDiff, Nat.reduceBEq]) | (refine qd (by kernel_rfl) (by kernel_rfl) ?_; simp only [go_sem, Nat.reduceEqDiff, reduceIte, Nat.reduceAdd, Nat.reduceMul, Nat.reduceSub, Nat.reduceLT, Nat.reduceLeDiff, Nat.reduceBEq]) | refine dk (by kernel_rfl) ?_)
  refine Aw_rounds 4 ?_
  refine AwR_succ ?_
  repeat (first | apply Aw_seq | apply Aw_block | apply Aw_skip | apply Aw_exit | refine Aw_condt rfl ?_ | refine Aw_condf rfl ?_ | (refine qr ?_; simp only [go_sem, Nat.reduceEqDiff, reduceIte, Nat.reduceAdd, Nat.reduceMul, Nat.reduceSub, Nat.reduceLT, Nat.reduceLeDiff, Nat.reduceBEq, l0, l1, l2, l3, w0, w1, w2]) | (refine qd (by kernel_rfl) (by kernel_rfl) ?_; simp only [go_sem, Nat.reduceEqDiff, reduceIte, Nat.reduceAdd, Nat.reduceMul, Nat.reduceSub, Nat.reduceLT, Nat.reduceLeDiff, Nat.reduceBEq, l0, l1, l2, l3, w0, w1, w2]) | refine dk (by kernel_rfl) ?_ | (refine ex_callv (by simp only [go_sem, Nat.reduceEqDiff, reduceIte, Nat.reduceAdd, Nat.reduceMul, Nat.reduceSub, Nat.reduceLT, Nat.reduceLeDiff, Nat.reduceBEq, l0, l1, l2, l3, w0, w1, w2]; first | done | rfl) (call_V (N' := [0]) (L := []) 1 (k) rfl (.cons (.nm rfl) (.nil)) (by first | exact .cons (arg_nm rfl rfl) (.nil) | (simp only [capT, List.map]; exact .cons (arg_nm rfl rfl) (.nil))) (by decide) (by decide) (by decide) (by simp only [go_sem, Nat.reduceEqDiff, reduceIte, Nat.reduceAdd, Nat.reduceMul, Nat.reduceSub, Nat.reduceLT, Nat.reduceLeDiff, Nat.reduceBEq, l0, l1, l2, l3, w0, w1, w2]; first | done | rfl) (.inl rfl) rfl (by decide)) (by simp only [go_sem, Nat.reduceEqDiff, reduceIte, Nat.reduceAdd, Nat.reduceMul, Nat.reduceSub, Nat.reduceLT, Nat.reduceLeDiff, Nat.reduceBEq, l0, l1, l2, l3, w0, w1, w2]; first | done | rfl) rfl (by simp only [go_sem, Nat.reduceLT]) ?_; simp only [go_sem, Nat.reduceEqDiff, reduceIte, Nat.reduceAdd, Nat.reduceMul, Nat.reduceSub, Nat.reduceLT, Nat.reduceLeDiff, Nat.reduceBEq, l0, l1, l2, l3, w0, w1, w2]))
  exact Aw_ret (retL (M := [0]) (.inl rfl) (by simp only [go_sem, Nat.reduceEqDiff, reduceIte, Nat.reduceAdd, Nat.reduceMul, Nat.reduceSub, Nat.reduceLT, Nat.reduceLeDiff, Nat.reduceBEq]; first | done | rfl) rfl rfl (by rfl) (by simp only [go_sem, Nat.reduceEqDiff, reduceIte, Nat.reduceAdd, Nat.reduceMul, Nat.reduceSub, Nat.reduceLT, Nat.reduceLeDiff, Nat.reduceBEq]; first | done | rfl | (and_intros <;> rfl)) (by decide) (by intro m hm; first | omega | (rcases m with _ | _ | _ | _ | _ | _ | m <;> first | exact ⟨by decide, rfl⟩ | omega)))
theorem storeE_ac {keep : Nat} (hk : keep ≤ 5) : AC Try.prog 39 [stT (eSto (keep : Nat))] noHp 0 ⟨.t (bT true), noHp, 0⟩ := by
  have k1 := storeOk_ac (eSto (keep : Nat)) (eSto_st _)
  rw [store_eq, eSto_ok hk] at k1
  exact k1
theorem looksE_ac {keep : Nat} (hk : keep ≤ 5) (s : ByteArray) (hs : keyOk s = true) (hm : smK s) : AC Try.prog 50 [stT (eSto (keep : Nat)), sT s] noHp 0 ⟨.t (iT 0), noHp, 0⟩ := by
  have k1 := storeE_ac hk
  have k2 := keyOk_ac s hm
  rw [hs] at k2
  have k3 := countE_ac (keep : Nat) s
  unfold eSto eSve at *
  refine AC_of Try.func50 rfl Try.ntmps50 Try.results50 (by kernel_rfl) rfl ?_
  simp only [List.zipIdx, List.map, Nat.zero_add, Nat.reduceAdd]
  repeat (first | apply Aw_seq | apply Aw_block | apply Aw_skip | apply Aw_exit | refine Aw_condt rfl ?_ | refine Aw_condf rfl ?_ | (refine qr ?_; simp only [go_sem, Nat.reduceEqDiff, reduceIte, Nat.reduceAdd, Nat.reduceMul, Nat.reduceSub, Nat.reduceLT, Nat.reduceLeDiff, Nat.reduceBEq]) | (refine qd (by kernel_rfl) (by kernel_rfl) ?_; simp only [go_sem, Nat.reduceEqDiff, reduceIte, Nat.reduceAdd, Nat.reduceMul, Nat.reduceSub, Nat.reduceLT, Nat.reduceLeDiff, Nat.reduceBEq]) | refine dk (by kernel_rfl) ?_ | (refine qp (k1) (by simp only [go_sem, Nat.reduceEqDiff, reduceIte, Nat.reduceAdd, Nat.reduceMul, Nat.reduceSub, Nat.reduceLT, Nat.reduceLeDiff, Nat.reduceBEq]; first | done | rfl) rfl (by simp only [go_sem, Nat.reduceLT]) rfl rfl ?_; simp only [go_sem, Nat.reduceEqDiff, reduceIte, Nat.reduceAdd, Nat.reduceMul, Nat.reduceSub, Nat.reduceLT, Nat.reduceLeDiff, Nat.reduceBEq]) | (refine qp (k2) (by simp only [go_sem, Nat.reduceEqDiff, reduceIte, Nat.reduceAdd, Nat.reduceMul, Nat.reduceSub, Nat.reduceLT, Nat.reduceLeDiff, Nat.reduceBEq]; first | done | rfl) rfl (by simp only [go_sem, Nat.reduceLT]) rfl rfl ?_; simp only [go_sem, Nat.reduceEqDiff, reduceIte, Nat.reduceAdd, Nat.reduceMul, Nat.reduceSub, Nat.reduceLT, Nat.reduceLeDiff, Nat.reduceBEq]) | (refine qx (call_L (N' := [1]) (L := []) (k3) rfl (.cons (.nm rfl) (.cons (.nm rfl) (.nil))) (by decide) (by decide) (by decide) (by simp only [go_sem, Nat.reduceEqDiff, reduceIte, Nat.reduceAdd, Nat.reduceMul, Nat.reduceSub, Nat.reduceLT, Nat.reduceLeDiff, Nat.reduceBEq]; first | done | rfl) (.inl rfl) rfl (by decide)) (by simp only [go_sem, Nat.reduceEqDiff, reduceIte, Nat.reduceAdd, Nat.reduceMul, Nat.reduceSub, Nat.reduceLT, Nat.reduceLeDiff, Nat.reduceBEq]; first | done | rfl) rfl (by simp only [go_sem, Nat.reduceLT]) ?_; simp only [go_sem, Nat.reduceEqDiff, reduceIte, Nat.reduceAdd, Nat.reduceMul, Nat.reduceSub, Nat.reduceLT, Nat.reduceLeDiff, Nat.reduceBEq]))
  exact Aw_ret (ret0 (.inl rfl) (by simp only [go_sem, Nat.reduceEqDiff, reduceIte, Nat.reduceAdd, Nat.reduceMul, Nat.reduceSub, Nat.reduceLT, Nat.reduceLeDiff, Nat.reduceBEq]; rfl) (by rfl) rfl)
theorem findE_ac (keep : Int) (s : ByteArray) (t : Int) : AC Try.prog 109 [stT (eSto keep), sT s, iT t] noHp 0 ⟨.tup [entT zEnt, bT false], noHp, 0⟩ := by
  have k := hasE_ac keep s
  have k0 : AC Try.prog 140 [runT [], sT s, iT t] noHp 0 ⟨.tup [entT zEnt, bT false], noHp, 0⟩ := at_ac [] s t smR_nil
  unfold eSto eSve at *
  have l0 : decide ((0 : Int) < 3) = true := rfl
  have l1 : decide ((1 : Int) < 3) = true := rfl
  have l2 : decide ((2 : Int) < 3) = true := rfl
  have l3 : decide ((3 : Int) < 3) = false := rfl
  have w0 : IntKind.i64.wrap ((0 : Int) + 1) = 1 := rfl
  have w1 : IntKind.i64.wrap ((1 : Int) + 1) = 2 := rfl
  have w2 : IntKind.i64.wrap ((2 : Int) + 1) = 3 := rfl
  refine AC_of Try.func109 rfl Try.ntmps109 Try.results109 (by kernel_rfl) rfl ?_
  simp only [List.zipIdx, List.map, Nat.zero_add, Nat.reduceAdd]
  repeat (first | apply Aw_seq | apply Aw_block | apply Aw_skip | apply Aw_exit | refine Aw_condt rfl ?_ | refine Aw_condf rfl ?_ | (refine qr ?_; simp only [go_sem, Nat.reduceEqDiff, reduceIte, Nat.reduceAdd, Nat.reduceMul, Nat.reduceSub, Nat.reduceLT, Nat.reduceLeDiff, Nat.reduceBEq]) | (refine qd (by kernel_rfl) (by kernel_rfl) ?_; simp only [go_sem, Nat.reduceEqDiff, reduceIte, Nat.reduceAdd, Nat.reduceMul, Nat.reduceSub, Nat.reduceLT, Nat.reduceLeDiff, Nat.reduceBEq]) | refine dk (by kernel_rfl) ?_ | (refine qp (k0) (by simp only [go_sem, Nat.reduceEqDiff, reduceIte, Nat.reduceAdd, Nat.reduceMul, Nat.reduceSub, Nat.reduceLT, Nat.reduceLeDiff, Nat.reduceBEq]; first | done | rfl) rfl (by simp only [go_sem, Nat.reduceLT]) rfl rfl ?_; simp only [go_sem, Nat.reduceEqDiff, reduceIte, Nat.reduceAdd, Nat.reduceMul, Nat.reduceSub, Nat.reduceLT, Nat.reduceLeDiff, Nat.reduceBEq]))
  refine Aw_rounds 4 ?_
  refine AwR_succ ?_
  repeat (first | apply Aw_seq | apply Aw_block | apply Aw_skip | apply Aw_exit | refine Aw_condt rfl ?_ | refine Aw_condf rfl ?_ | (refine qr ?_; simp only [go_sem, Nat.reduceEqDiff, reduceIte, Nat.reduceAdd, Nat.reduceMul, Nat.reduceSub, Nat.reduceLT, Nat.reduceLeDiff, Nat.reduceBEq, l0, l1, l2, l3, w0, w1, w2]) | (refine qd (by kernel_rfl) (by kernel_rfl) ?_; simp only [go_sem, Nat.reduceEqDiff, reduceIte, Nat.reduceAdd, Nat.reduceMul, Nat.reduceSub, Nat.reduceLT, Nat.reduceLeDiff, Nat.reduceBEq, l0, l1, l2, l3, w0, w1, w2]) | refine dk (by kernel_rfl) ?_ | (refine qp (k) (by simp only [go_sem, Nat.reduceEqDiff, reduceIte, Nat.reduceAdd, Nat.reduceMul, Nat.reduceSub, Nat.reduceLT, Nat.reduceLeDiff, Nat.reduceBEq, l0, l1, l2, l3, w0, w1, w2]; first | done | rfl) rfl (by simp only [go_sem, Nat.reduceLT]) rfl rfl ?_; simp only [go_sem, Nat.reduceEqDiff, reduceIte, Nat.reduceAdd, Nat.reduceMul, Nat.reduceSub, Nat.reduceLT, Nat.reduceLeDiff, Nat.reduceBEq, l0, l1, l2, l3, w0, w1, w2]))
  exact Aw_ret (ret0 (.inl rfl) (by simp only [go_sem, Nat.reduceEqDiff, reduceIte, Nat.reduceAdd, Nat.reduceMul, Nat.reduceSub, Nat.reduceLT, Nat.reduceLeDiff, Nat.reduceBEq]; rfl) (by rfl) rfl)
theorem knownE_ac (keep : Int) : AC Try.prog 108 [stT (eSto keep), iT 0] noHp 0 ⟨.t (bT true), noHp, 0⟩ := by
  unfold eSto eSve
  have g : decide ((0 : Int) = 0) = true := rfl
  refine AC_of Try.func108 rfl Try.ntmps108 Try.results108 (by kernel_rfl) rfl ?_
  simp only [List.zipIdx, List.map, Nat.zero_add, Nat.reduceAdd]
  repeat (first | apply Aw_seq | apply Aw_block | apply Aw_skip | apply Aw_exit | refine Aw_condt rfl ?_ | refine Aw_condf rfl ?_ | (refine qr ?_; simp only [go_sem, Nat.reduceEqDiff, reduceIte, Nat.reduceAdd, Nat.reduceMul, Nat.reduceSub, Nat.reduceLT, Nat.reduceLeDiff, Nat.reduceBEq, g]) | (refine qd (by kernel_rfl) (by kernel_rfl) ?_; simp only [go_sem, Nat.reduceEqDiff, reduceIte, Nat.reduceAdd, Nat.reduceMul, Nat.reduceSub, Nat.reduceLT, Nat.reduceLeDiff, Nat.reduceBEq, g]) | refine dk (by kernel_rfl) ?_)
  exact Aw_ret (ret0 (.inl rfl) (by simp only [go_sem, Nat.reduceEqDiff, reduceIte, Nat.reduceAdd, Nat.reduceMul, Nat.reduceSub, Nat.reduceLT, Nat.reduceLeDiff, Nat.reduceBEq]; rfl) (by rfl) rfl)
theorem getE_ac {keep : Nat} (hk : keep ≤ 5) (s : ByteArray) (hs : keyOk s = true) (hm : smK s) : AC Try.prog 48 [stT (eSto (keep : Nat)), sT s, iT 0] noHp 0 ⟨.tup [iT 0, bT false], noHp, 0⟩ := by
  have k1 := storeE_ac hk
  have k2 := keyOk_ac s hm
  rw [hs] at k2
  have k3 := knownE_ac (keep : Nat)
  have k4 := findE_ac (keep : Nat) s 0
  unfold eSto eSve at *
  refine AC_of Try.func48 rfl Try.ntmps48 Try.results48 (by kernel_rfl) rfl ?_
  simp only [List.zipIdx, List.map, Nat.zero_add, Nat.reduceAdd]
  repeat (first | apply Aw_seq | apply Aw_block | apply Aw_skip | apply Aw_exit | refine Aw_condt rfl ?_ | refine Aw_condf rfl ?_ | (refine qr ?_; simp only [go_sem, Nat.reduceEqDiff, reduceIte, Nat.reduceAdd, Nat.reduceMul, Nat.reduceSub, Nat.reduceLT, Nat.reduceLeDiff, Nat.reduceBEq]) | (refine qd (by kernel_rfl) (by kernel_rfl) ?_; simp only [go_sem, Nat.reduceEqDiff, reduceIte, Nat.reduceAdd, Nat.reduceMul, Nat.reduceSub, Nat.reduceLT, Nat.reduceLeDiff, Nat.reduceBEq]) | refine dk (by kernel_rfl) ?_ | (refine qp (k1) (by simp only [go_sem, Nat.reduceEqDiff, reduceIte, Nat.reduceAdd, Nat.reduceMul, Nat.reduceSub, Nat.reduceLT, Nat.reduceLeDiff, Nat.reduceBEq]; first | done | rfl) rfl (by simp only [go_sem, Nat.reduceLT]) rfl rfl ?_; simp only [go_sem, Nat.reduceEqDiff, reduceIte, Nat.reduceAdd, Nat.reduceMul, Nat.reduceSub, Nat.reduceLT, Nat.reduceLeDiff, Nat.reduceBEq]) | (refine qp (k2) (by simp only [go_sem, Nat.reduceEqDiff, reduceIte, Nat.reduceAdd, Nat.reduceMul, Nat.reduceSub, Nat.reduceLT, Nat.reduceLeDiff, Nat.reduceBEq]; first | done | rfl) rfl (by simp only [go_sem, Nat.reduceLT]) rfl rfl ?_; simp only [go_sem, Nat.reduceEqDiff, reduceIte, Nat.reduceAdd, Nat.reduceMul, Nat.reduceSub, Nat.reduceLT, Nat.reduceLeDiff, Nat.reduceBEq]) | (refine qp (k3) (by simp only [go_sem, Nat.reduceEqDiff, reduceIte, Nat.reduceAdd, Nat.reduceMul, Nat.reduceSub, Nat.reduceLT, Nat.reduceLeDiff, Nat.reduceBEq]; first | done | rfl) rfl (by simp only [go_sem, Nat.reduceLT]) rfl rfl ?_; simp only [go_sem, Nat.reduceEqDiff, reduceIte, Nat.reduceAdd, Nat.reduceMul, Nat.reduceSub, Nat.reduceLT, Nat.reduceLeDiff, Nat.reduceBEq]) | (refine qp (k4) (by simp only [go_sem, Nat.reduceEqDiff, reduceIte, Nat.reduceAdd, Nat.reduceMul, Nat.reduceSub, Nat.reduceLT, Nat.reduceLeDiff, Nat.reduceBEq]; first | done | rfl) rfl (by simp only [go_sem, Nat.reduceLT]) rfl rfl ?_; simp only [go_sem, Nat.reduceEqDiff, reduceIte, Nat.reduceAdd, Nat.reduceMul, Nat.reduceSub, Nat.reduceLT, Nat.reduceLeDiff, Nat.reduceBEq]))
  exact Aw_ret (ret0 (.inl rfl) (by simp only [go_sem, Nat.reduceEqDiff, reduceIte, Nat.reduceAdd, Nat.reduceMul, Nat.reduceSub, Nat.reduceLT, Nat.reduceLeDiff, Nat.reduceBEq]; rfl) (by rfl) rfl)
end Go.Proofs.Ytcbhgglpgphimaa.Ab
namespace Go.Proofs.Ytcbhgglpgphimaa.Ab
set_option linter.deprecated false
set_option linter.unusedVariables false
set_option linter.unusedSimpArgs false
open Go Go.Proofs Go.Shelf
set_option maxRecDepth 10000
set_option maxHeartbeats 8000000
set_option linter.unusedSimpArgs false
set_option linter.unusedVariables false
def Try.lCount_ren : Go.Shelf.Ren := ⟨fun | 138 => 173 | 195 => 196 | 218 => 197 | 143 => 198 | 219 => 206 | 217 => 208 | 225 => 209 | 224 => 210 | 267 => 211 | 266 => 213 | 314 => 214 | n => n, fun | 9 => 9 | 3 => 3 | 4 => 4 | 5 => 5 | 0 => 0 | 46 => 144 | 146 => 215 | 51 => 171 | n => n, fun | 1 => 0 | n => n⟩
theorem Try.lCount : Go.Proofs.Lays.n138 Try.prog Try.lCount_ren := {
  mixed := by kernel_rfl
  f138 := Try.func173.trans (congrArg some (by kernel_rfl))
  f143 := Try.func198.trans (congrArg some (by kernel_rfl))
  f195 := Try.func196.trans (congrArg some (by kernel_rfl))
  f217 := Try.func208.trans (congrArg some (by kernel_rfl))
  f218 := Try.func197.trans (congrArg some (by kernel_rfl))
  f219 := Try.func206.trans (congrArg some (by kernel_rfl))
  f224 := Try.func210.trans (congrArg some (by kernel_rfl))
  f225 := Try.func209.trans (congrArg some (by kernel_rfl))
  f266 := Try.func213.trans (congrArg some (by kernel_rfl))
  f267 := Try.func211.trans (congrArg some (by kernel_rfl))
  f314 := Try.func214.trans (congrArg some (by kernel_rfl))
  t0 := Try.underlying0
  a0 := Try.isAgg0
  z0 := Try.sizeOf0
  v0 := Try.zeroValue0
  t3 := Try.underlying3
  a3 := Try.isAgg3
  z3 := Try.sizeOf3
  v3 := Try.zeroValue3
  t4 := Try.underlying4
  a4 := Try.isAgg4
  z4 := Try.sizeOf4
  v4 := Try.zeroValue4
  t5 := Try.underlying5
  a5 := Try.isAgg5
  z5 := Try.sizeOf5
  v5 := Try.zeroValue5
  t9 := Try.underlying9
  a9 := Try.isAgg9
  z9 := Try.sizeOf9
  v9 := Try.zeroValue9
  t46 := Try.underlying144
  a46 := Try.isAgg144
  z46 := Try.sizeOf144
  v46 := Try.zeroValue144
  t51 := Try.underlying171
  a51 := Try.isAgg171
  z51 := Try.sizeOf171
  v51 := Try.zeroValue171
  t146 := Try.underlying215
  a146 := Try.isAgg215
  z146 := Try.sizeOf215
  v146 := Try.zeroValue215
  g1 := by kernel_rfl }
theorem count0_ac : AC Try.prog 173 [sT zs, sT ⟨#[48]⟩] noHp 0 ⟨.t (iT 0), noHp, 0⟩ := by
  refine ⟨by exact ⟨_, Try.func173, rfl, rfl⟩, fun c vs g hU hA => ?_⟩
  obtain rfl : vs = [.string zs, .string ⟨#[48]⟩] := by
    cases hA with
    | cons h1 h2 => cases h2 with
      | cons h2 h3 =>
        cases h3
        have e1 := repD_s h1
        have e2 := repD_s h2
        rw [e1, e2]
  refine (Any.strings_Count_one Try.lCount zs 48 c.w).mono ?_
  rintro e w' ⟨rfl, rfl⟩
  exact ⟨_, c, rfl, rfl, Tr.refl c _, g, .s rfl, hU⟩
end Go.Proofs.Ytcbhgglpgphimaa.Ab
namespace Go.Proofs.Ytcbhgglpgphimaa.Ab
set_option linter.deprecated false
set_option linter.unusedVariables false
set_option linter.unusedSimpArgs false
open Go Go.Proofs Go.Shelf Go.Sort
set_option maxRecDepth 10000
set_option linter.unusedSimpArgs false
set_option linter.unusedVariables false
def Try.lSort_ren : Go.Shelf.Ren := ⟨fun | 190 => 80 | 125 => 127 | 258 => 126 | 128 => 163 | 129 => 164 | 302 => 154 | 303 => 155 | 304 => 156 | 305 => 157 | 306 => 158 | 307 => 159 | 308 => 160 | 309 => 161 | 310 => 162 | 333 => 183 | 329 => 184 | 330 => 185 | 334 => 186 | 335 => 187 | 336 => 188 | 344 => 205 | n => n, fun | 31 => 52 | 9 => 9 | 3 => 3 | 46 => 144 | 0 => 0 | 51 => 171 | 53 => 173 | 4 => 4 | 183 => 165 | 182 => 164 | 131 => 44 | 5 => 5 | 218 => 195 | 222 => 199 | 228 => 211 | 229 => 152 | n => n, fun | n => n⟩
theorem Try.lSort : Go.Proofs.Lays.n190 Try.prog Try.lSort_ren := {
  mixed := by kernel_rfl
  f125 := Try.func127.trans (congrArg some (by kernel_rfl))
  f128 := Try.func163.trans (congrArg some (by kernel_rfl))
  f129 := Try.func164.trans (congrArg some (by kernel_rfl))
  f190 := Try.func80.trans (congrArg some (by kernel_rfl))
  f258 := Try.func126.trans (congrArg some (by kernel_rfl))
  f302 := Try.func154.trans (congrArg some (by kernel_rfl))
  f303 := Try.func155.trans (congrArg some (by kernel_rfl))
  f304 := Try.func156.trans (congrArg some (by kernel_rfl))
  f305 := Try.func157.trans (congrArg some (by kernel_rfl))
  f306 := Try.func158.trans (congrArg some (by kernel_rfl))
  f307 := Try.func159.trans (congrArg some (by kernel_rfl))
  f308 := Try.func160.trans (congrArg some (by kernel_rfl))
  f309 := Try.func161.trans (congrArg some (by kernel_rfl))
  f310 := Try.func162.trans (congrArg some (by kernel_rfl))
  f329 := Try.func184.trans (congrArg some (by kernel_rfl))
  f330 := Try.func185.trans (congrArg some (by kernel_rfl))
  f333 := Try.func183.trans (congrArg some (by kernel_rfl))
  f334 := Try.func186.trans (congrArg some (by kernel_rfl))
  f335 := Try.func187.trans (congrArg some (by kernel_rfl))
  f336 := Try.func188.trans (congrArg some (by kernel_rfl))
  f344 := Try.func205.trans (congrArg some (by kernel_rfl))
  t0 := Try.underlying0
  a0 := Try.isAgg0
  z0 := Try.sizeOf0
  v0 := Try.zeroValue0
  t3 := Try.underlying3
  a3 := Try.isAgg3
  z3 := Try.sizeOf3
  v3 := Try.zeroValue3
  t4 := Try.underlying4
  a4 := Try.isAgg4
  z4 := Try.sizeOf4
  v4 := Try.zeroValue4
  t5 := Try.underlying5
  a5 := Try.isAgg5
  z5 := Try.sizeOf5
  v5 := Try.zeroValue5
  t9 := Try.underlying9
  a9 := Try.isAgg9
  z9 := Try.sizeOf9
  v9 := Try.zeroValue9
  t31 := Try.underlying52
  a31 := Try.isAgg52
  z31 := Try.sizeOf52
  v31 := Try.zeroValue52
  t46 := Try.underlying144
  a46 := Try.isAgg144
  z46 := Try.sizeOf144
  v46 := Try.zeroValue144
  t51 := Try.underlying171
  a51 := Try.isAgg171
  z51 := Try.sizeOf171
  v51 := Try.zeroValue171
  t53 := Try.underlying173
  a53 := Try.isAgg173
  z53 := Try.sizeOf173
  v53 := Try.zeroValue173
  t131 := Try.underlying44
  a131 := Try.isAgg44
  z131 := Try.sizeOf44
  v131 := Try.zeroValue44
  t182 := Try.underlying164
  a182 := Try.isAgg164
  z182 := Try.sizeOf164
  v182 := Try.zeroValue164
  t183 := Try.underlying165
  a183 := Try.isAgg165
  z183 := Try.sizeOf165
  v183 := Try.zeroValue165
  t218 := Try.underlying195
  a218 := Try.isAgg195
  z218 := Try.sizeOf195
  v218 := Try.zeroValue195
  t222 := Try.underlying199
  a222 := Try.isAgg199
  z222 := Try.sizeOf199
  v222 := Try.zeroValue199
  t228 := Try.underlying211
  a228 := Try.isAgg211
  z228 := Try.sizeOf211
  v228 := Try.zeroValue211
  t229 := Try.underlying152
  a229 := Try.isAgg152
  z229 := Try.sizeOf152
  v229 := Try.zeroValue152 }
def Try.lComp_ren : Go.Shelf.Ren := ⟨fun | 194 => 81 | n => n, fun | 31 => 52 | 9 => 9 | 3 => 3 | 4 => 4 | 0 => 0 | n => n, fun | n => n⟩
theorem Try.lComp : Go.Proofs.Lays.n194 Try.prog Try.lComp_ren := {
  mixed := by kernel_rfl
  f194 := Try.func81.trans (congrArg some (by kernel_rfl))
  t0 := Try.underlying0
  a0 := Try.isAgg0
  z0 := Try.sizeOf0
  v0 := Try.zeroValue0
  t3 := Try.underlying3
  a3 := Try.isAgg3
  z3 := Try.sizeOf3
  v3 := Try.zeroValue3
  t4 := Try.underlying4
  a4 := Try.isAgg4
  z4 := Try.sizeOf4
  v4 := Try.zeroValue4
  t9 := Try.underlying9
  a9 := Try.isAgg9
  z9 := Try.sizeOf9
  v9 := Try.zeroValue9
  t31 := Try.underlying52
  a31 := Try.isAgg52
  z31 := Try.sizeOf52
  v31 := Try.zeroValue52 }
def bsOf (l : List UInt8) : ByteArray := ⟨l.toArray⟩
def u8s (x : ByteArray) : List UInt8 := x.data.toList
theorem bs_u8 (x : ByteArray) : bsOf (u8s x) = x := by cases x; simp [bsOf, u8s]
theorem u8_bs (l : List UInt8) : u8s (bsOf l) = l := by simp [bsOf, u8s]
def sortK (xs : List ByteArray) : List ByteArray := ((xs.map u8s).mergeSort (fun x y => decide (x ≤ y))).map bsOf
def compK (xs : List ByteArray) : List ByteArray := (Lib.compact (xs.map u8s)).map bsOf
theorem sortK_u8 (xs : List ByteArray) : (sortK xs).map u8s = (xs.map u8s).mergeSort (fun x y => decide (x ≤ y)) := by
  unfold sortK; rw [List.map_map]; conv => rhs; rw [← List.map_id ((xs.map u8s).mergeSort _)]
  exact List.map_congr_left fun l _ => u8_bs l
theorem compK_u8 (xs : List ByteArray) : (compK xs).map u8s = Lib.compact (xs.map u8s) := by
  unfold compK; rw [List.map_map]; conv => rhs; rw [← List.map_id (Lib.compact (xs.map u8s))]
  exact List.map_congr_left fun l _ => u8_bs l
theorem sortK_len (xs : List ByteArray) : (sortK xs).length = xs.length := by simp [sortK, List.length_mergeSort]
theorem compK_len (xs : List ByteArray) : (compK xs).length ≤ xs.length := by
  have := Lib.compact_length_le (xs.map u8s); simpa [compK] using this
theorem enc_u8 (xs : List ByteArray) : (xs.map u8s).map encStr = xs.map Value.string := by
  rw [List.map_map]; exact List.map_congr_left fun x _ => by simp [encStr, u8s]
theorem own_nil {w : World} {e : Nat} {n : Nat} {vs : List Value} (h : w.ownsRow 0 e 1 (.slice none 0 0) n vs) : n = 0 := by
  rcases h.2 with ⟨_, h⟩ | ⟨_, _, _, h, _⟩
  · exact h
  · cases h
theorem sort_calls (v : Value) (xs : List ByteArray) (w : World) (hrow : w.ownsRow 0 9 1 v xs.length (xs.map Value.string)) (hn : xs.length ≤ 1000000000000000) :
    Calls Try.prog 80 #[v] w fun e w' => e = .returned (.tuple #[]) ∧ w'.ownsRow 0 9 1 v xs.length ((sortK xs).map Value.string) ∧ w.grownBy w' v.ownBlock := by
  rw [← enc_u8] at hrow
  by_cases hv : v = .slice none 0 0
  · subst hv
    have h0 : xs = [] := List.eq_nil_of_length_eq_zero (own_nil hrow)
    subst h0
    refine (Any.slices_Sort_string_none Try.lSort none 0 w).mono ?_
    rintro e w' ⟨rfl, rfl⟩
    exact ⟨rfl, by simpa [sortK] using hrow, rfl, rfl, rfl, Nat.le_refl _, fun _ _ _ => rfl⟩
  obtain ⟨g, cap, rfl, hbg, hgl, hncap, hcm, hlen, hH⟩ := Lib.holds_of_ownsRow hrow hv
  have hs := Any.slices_Sort_string Try.lSort g 0 cap (xs.map u8s) w hH hgl (by simp; omega)
  rw [List.length_map] at hs
  refine hs.mono ?_
  rintro e w' ⟨rfl, n, os, rfl⟩
  rcases hrow.2 with ⟨h0, _⟩ | ⟨g', cap', cur, hv', hbase, hb, h1, h2, h3, h4⟩
  · cases h0
  cases hv'
  refine ⟨rfl, ?_, ?_⟩
  · have := ownsRow_sorted (w := w) (n := n) (os := os) (ss := xs.map u8s) (ts := (xs.map u8s).mergeSort fun x y => decide (x ≤ y)) (List.length_mergeSort _) hbase hb (by simpa using h1) h2 h3
    rw [← sortK_u8, enc_u8, List.length_map] at this
    rw [← sortK_u8]
    exact this
  · obtain ⟨a, b, c, d, f⟩ := grownBy_sorted (w := w) (g := g) (n := n) (os := os) ((xs.map u8s).mergeSort fun x y => decide (x ≤ y)).toArray
    exact ⟨a, b, c, d, fun k hk hne => f k hk (by simpa [Value.ownBlock] using hne)⟩
theorem comp_calls (v : Value) (xs : List ByteArray) (w : World) (hrow : w.ownsRow 0 9 1 v xs.length (xs.map Value.string)) (hn : xs.length ≤ 1000000000000000) :
    Calls Try.prog 81 #[v] w fun e w' => ∃ v', e = .returned v' ∧ v'.ownBlock = v.ownBlock ∧ w'.ownsRow 0 9 1 v' (compK xs).length ((compK xs).map Value.string) ∧ w.grownBy w' v.ownBlock := by
  rw [← enc_u8] at hrow
  by_cases hv : v = .slice none 0 0
  · subst hv
    have h0 : xs = [] := List.eq_nil_of_length_eq_zero (own_nil hrow)
    subst h0
    refine (Any.slices_Compact_string_empty Try.lComp none 0 w).mono ?_
    rintro e w' ⟨rfl, rfl⟩
    exact ⟨_, rfl, rfl, by simpa [compK, Lib.compact, Lib.compactUpTo] using hrow, rfl, rfl, rfl, Nat.le_refl _, fun _ _ _ => rfl⟩
  obtain ⟨g, cap, rfl, hbg, hgl, hncap, hcm, hlen, hH⟩ := Lib.holds_of_ownsRow hrow hv
  have hs := Any.slices_Compact_string Try.lComp g 0 cap (xs.map u8s) w hH (by simp; omega) (by simpa using hncap)
  rw [List.length_map] at hs
  refine hs.mono ?_
  rintro e w' ⟨rfl, q, rfl⟩
  have hle := compK_len xs
  have hle2 : (Lib.compact (xs.map u8s)).length ≤ xs.length := by simpa [compK] using hle
  refine ⟨_, rfl, rfl, ?_, rfl, rfl, rfl, ?_, ?_⟩
  · have := Lib.ownsRow_putRow (q := q) (k := (Lib.compact (xs.map u8s)).length) (ys := Lib.compact (xs.map u8s) ++ List.replicate (xs.length - (Lib.compact (xs.map u8s)).length) []) hrow (by simp; omega) (by omega)
    rw [List.take_left] at this
    rw [← compK_u8, enc_u8] at this
    rw [show (compK xs).length = (Lib.compact (xs.map u8s)).length by simp [compK], ← compK_u8]
    exact this
  · simp [putRow, mapBlock, Sort.ahead]
  · intro k hk hne
    have : g ≠ k := fun e => hne (by simp [Value.ownBlock, e])
    simp [putRow, mapBlock, Sort.ahead, Array.getElem?_modify, this]
end Go.Proofs.Ytcbhgglpgphimaa.Ab
namespace Go.Proofs.Ytcbhgglpgphimaa.Ab
set_option linter.deprecated false
set_option linter.unusedVariables false
set_option linter.unusedSimpArgs false
open Go Go.Proofs
set_option maxRecDepth 10000
set_option linter.unusedSimpArgs false
set_option linter.unusedVariables false
/-- Row m is changed where it lies. -/
theorem renew_same {c : Cx} {hp : Hp} (g : Good c hp) {m : Nat} {q : Obj} (hq : hp m = some q) (hrow : q.row = true) {w' : World} {els : List (List CV)} {xs : List Value} (hg : c.w.grownBy w' (c.hd m).ownBlock) (hE : RepE c q.k els xs)
    (hown : w'.ownsRow 0 q.e q.k (c.hd m) els.length xs) :
    Tr c hp (c.at w') (upd hp m (some { q with els := els })) ∧ Good (c.at w') (upd hp m (some { q with els := els })) := by
  have hbm : blk c m q = (c.hd m).ownBlock := by unfold blk; rw [if_pos hrow]
  have hbm' : blk c m { q with els := els } = blk c m q := rfl
  obtain ⟨k1, k2, xs0, hE0, hor⟩ := g.obj m q hq
  have hrho : ∀ b, (c.hd m).ownBlock = some b → b = c.ρ m := by
    rcases hor with ⟨_, _, h⟩ | ⟨h, _⟩
    · exact h
    · rw [hrow] at h; cases h
  obtain ⟨g1, t1⟩ := g.drop (hp1 := upd hp m none) (w' := w') (fun n r hr => by
      by_cases e : n = m
      · subst e; rw [upd_same] at hr; cases hr
      · rw [upd_ne _ _ e] at hr; exact hr) hg.os hg.tape hg.output hg.size (fun b hb hnb => hg.block b hb (fun he => hnb ⟨⟨m, q, hq, by rw [hbm]; exact he.symm⟩, fun ⟨n, r, h1, h2⟩ => by
        by_cases e : n = m
        · subst e; rw [upd_same] at h1; cases h1
        · rw [upd_ne _ _ e] at h1; exact e (g.inj n r m q b h1 hq h2 (by rw [hbm]; exact he.symm))⟩))
  have le : Le c (c.at w') := t1.le g
  have hup : ∀ n r, upd hp m (some { q with els := els }) n = some r → ∃ r0, hp n = some r0 ∧ blk c n r = blk c n r0 ∧ ((n = m ∧ r = { q with els := els }) ∨ (n ≠ m ∧ upd hp m none n = some r)) := by
    intro n r h
    by_cases e : n = m
    · subst e; rw [upd_same] at h; obtain rfl := Option.some.inj h; exact ⟨q, hq, rfl, .inl ⟨rfl, rfl⟩⟩
    · rw [upd_ne _ _ e] at h; exact ⟨r, h, rfl, .inr ⟨e, by rw [upd_ne _ _ e]; exact h⟩⟩
  have hO : ∀ b, Owned c (upd hp m (some { q with els := els })) b → Owned c hp b := by
    rintro b ⟨n, r, h1, h2⟩
    obtain ⟨r0, h3, h4, _⟩ := hup n r h1
    exact ⟨n, r0, h3, by rw [← h4]; exact h2⟩
  refine ⟨⟨t1.os, t1.tape, t1.output, t1.size, t1.keep, t1.names, t1.sup, t1.sub, fun b h => .inl (hO b h)⟩, ⟨fun n r h => ?_, fun n r h => ?_, fun b h => g.own b (hO b h), fun n r n' r' b a1 a2 a3 a4 => ?_, g1.lt⟩⟩
  · obtain ⟨r0, h3, _⟩ := hup n r h; exact g.dom n r0 h3
  · obtain ⟨r0, h3, h4, ⟨rfl, rfl⟩ | ⟨e, h5⟩⟩ := hup n r h
    · exact ⟨k1, k2, xs, hE.mono le, .inl ⟨hrow, hown, hrho⟩⟩
    · exact g1.obj n r h5
  · obtain ⟨r0, h3, h4, _⟩ := hup n r a1
    obtain ⟨r0', h3', h4', _⟩ := hup n' r' a2
    exact g.inj n r0 n' r0' b h3 h3' (by rw [← h4]; exact a3) (by rw [← h4']; exact a4)
theorem repE_strs (c : Cx) (xs : List ByteArray) : RepE c 1 (kRow xs).els (xs.map Value.string) := by
  refine ⟨by simp [kRow, dRow], fun cs h => ?_, fun i j cs x h1 h2 => ?_⟩
  · simp [kRow, dRow] at h; obtain ⟨a, _, rfl⟩ := h; rfl
  · simp [kRow, dRow] at h1
    obtain ⟨a, h3, rfl⟩ := h1
    cases j with
    | succ j => simp [strD] at h2
    | zero =>
      simp [strD] at h2; subst h2
      exact ⟨.string a, by simp [h3], .s rfl⟩
theorem strs_of (c : Cx) (xs : List ByteArray) (vs : List Value) (h : RepE c 1 (kRow xs).els vs) : vs = xs.map Value.string := by
  obtain ⟨h1, _, h3⟩ := h
  refine List.ext_getElem? fun i => ?_
  have hl : vs.length = xs.length := by simpa [kRow, dRow] using h1
  by_cases hi : i < xs.length
  · obtain ⟨u, h4, h5⟩ := h3 i 0 [.d (.s (.string xs[i]))] (.d (.s (.string xs[i]))) (by simp [kRow, dRow, strD, hi]) rfl
    rw [Nat.mul_one, Nat.add_zero] at h4
    rw [h4, repD_s h5]; simp [hi]
  · rw [List.getElem?_eq_none (by omega), List.getElem?_eq_none (by simp; omega)]
theorem own_strs {c : Cx} {hp : Hp} (g : Good c hp) {m : Nat} {xs : List ByteArray} (hq : hp m = some (kRow xs)) : c.w.ownsRow 0 9 1 (c.hd m) xs.length (xs.map Value.string) := by
  obtain ⟨_, _, vs, hE, ⟨_, h, _⟩ | ⟨h, _⟩⟩ := g.obj m _ hq
  · have hh : c.w.ownsRow 0 9 1 (c.hd m) (kRow xs).els.length vs := h
    rw [strs_of c xs vs hE] at hh
    have hl : (kRow xs).els.length = xs.length := by simp [kRow, dRow]
    rw [hl] at hh; exact hh
  · cases h
theorem hp1_upd (o o' : Obj) : upd (hpL [some o]) 0 (some o') = hpL [some o'] := by
  rw [← hp1_L, ← hp1_L]; funext j; cases j <;> simp [hp1, upd]
theorem sort_ac (xs : List ByteArray) (hn : xs.length ≤ 1000000000000000) : AC Try.prog 80 [.c (.h 0)] (hpL [some (kRow xs)]) 1 ⟨.tup [], hpL [some (kRow (sortK xs))], 1⟩ := by
  refine ⟨by exact ⟨_, Try.func80, rfl, rfl⟩, fun c vs g hU hA => ?_⟩
  obtain ⟨v, rfl, rfl⟩ : ∃ v, vs = [v] ∧ v = c.hd 0 := by
    cases hA with
    | cons h1 h2 => cases h2; exact ⟨_, rfl, h1.2.1⟩
  refine (sort_calls _ xs c.w (own_strs g rfl) hn).mono ?_
  rintro e w' ⟨rfl, hown, hg⟩
  obtain ⟨t, g2⟩ := renew_same g (m := 0) (q := kRow xs) rfl rfl hg (els := (kRow (sortK xs)).els) (repE_strs c _) (by simpa [kRow, dRow, sortK_len] using hown)
  rw [hp1_upd] at t g2
  exact ⟨_, _, rfl, rfl, t, g2, ⟨[], rfl, .nil⟩, hU⟩
theorem comp_ac (xs : List ByteArray) (hn : xs.length ≤ 1000000000000000) : AC Try.prog 81 [.c (.h 0)] (hpL [some (kRow xs)]) 1 ⟨.t (.c (.h 1)), hpL [none, some (kRow (compK xs))], 2⟩ := by
  refine ⟨by exact ⟨_, Try.func81, rfl, rfl⟩, fun c vs g hU hA => ?_⟩
  obtain ⟨v, rfl, rfl⟩ : ∃ v, vs = [v] ∧ v = c.hd 0 := by
    cases hA with
    | cons h1 h2 => cases h2; exact ⟨_, rfl, h1.2.1⟩
  refine (comp_calls _ xs c.w (own_strs g rfl) hn).mono ?_
  rintro e w' ⟨v', rfl, hb, hown, hg⟩
  obtain ⟨c', hw, t, g2, hr, hU2⟩ := renew (nm := 1) g (fun h => by have := hU 1 h; omega) (m := 0) (q := kRow xs) rfl rfl hg (u := v') (els := (kRow (compK xs)).els) (repE_strs c _) (by simpa [kRow, dRow] using hown) (fun b hb' => .inl (by rw [← hb]; exact hb'))
  have hh : upd (upd (hpL [some (kRow xs)]) 0 none) 1 (some { kRow xs with els := (kRow (compK xs)).els }) = hpL [none, some (kRow (compK xs))] := by
    funext j; rcases j with _ | _ | j <;> simp [upd, hpL, kRow, dRow]
  rw [hh] at t g2
  exact ⟨_, c', rfl, hw, t, g2, hr, fun m hm => (hU2 m hm).elim (fun h => by have := hU m h; show m < 2; omega) (fun h => by subst h; show 1 < 2; omega)⟩
end Go.Proofs.Ytcbhgglpgphimaa.Ab
