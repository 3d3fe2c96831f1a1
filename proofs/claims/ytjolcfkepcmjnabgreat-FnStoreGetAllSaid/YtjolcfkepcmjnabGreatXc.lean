/-
  Contracts: the reference's sieve, its parts. No condition.
  Contracts: the reference's sieve. No condition.
  Contracts: the reference's sieve of keys; both sieves, settled. No condition.
  Contracts: times, sizes of levels, texts and sieves that are the same. No condition.
  Contracts: sizes of levels, sieves that are the same, runs that are newer than others. No condition.
  Calls of function values. Definitions and lemmas. No condition.
  slices.Grow at nil: a row of our own. No condition.
  Contracts: slices.Concat at two runs, slices.ContainsFunc with a store's function. No condition.
  Contracts: the function that looks for entries behind a store's time; the store's check, the program's. No condition.
  Contracts: the store's check, both. No condition.
  Contracts: the store's check, the reference's. No condition.
  Contracts: the store's check, the reference's; both checks are one. No condition.
  A slice that is nil is a row without elements: contracts told of the one serve for the other. Definitions and lemmas. No condition.
  Contracts: a new store. No condition.
  Contracts: runs that are joined, and trimmed, the reference's. No condition.
  Contracts: a run that is trimmed, the reference's. No condition.
  Contracts: a store anew, a level that is set, the reference's. No condition.
  Contract: a store anew, the reference's. No condition.
  Contracts: a run that is let into a level, the reference's. No condition.
  Contracts: the top that goes down, an entry that is added, the reference's. No condition.
  Contracts: an entry that is put, or a key that is taken away, the reference's. No condition.
-/
import Derived.Test.YtjolcfkepcmjnabGreatXb
import Derived.LoopN
import Derived.WalkKit
import Derived.OwnWalk
import Derived.Lib.AppendZeros
namespace Go.Proofs.YtjolcfkepcmjnabGreat.Ab
open Nat (reduceEqDiff reduceAdd reduceMul reduceSub reduceLT reduceLeDiff)
set_option linter.deprecated false
set_option linter.unusedVariables false
set_option linter.unusedSimpArgs false
open Go Go.Proofs
set_option maxRecDepth 10000
theorem ext1 {k : ByteArray} {d : Nat} (h : d < k.size) : k.extract d (d + 1) = bs [lab k d] := by
  have h' : d < k.data.size := h
  have e : lab k d = k.data[d] := by
    unfold lab; rw [if_neg (by omega), Array.getD_eq_getD_getElem?, Array.getElem?_eq_getElem h']; rfl
  rw [e]
  unfold bs
  apply ByteArray.ext
  rw [ByteArray.data_extract]
  apply Array.ext'
  simp only [Array.toList_extract, List.extract_eq_drop_take]
  rw [List.drop_eq_getElem_cons (by simpa using h')]
  simp
theorem l3Letter_ac (k : ByteArray) (d : Nat) (h : d ≤ k.size) (h5 : k.size ≤ 5) : AC Tryz.prog 124 [sT k, iT d] noHp 0 ⟨.t (sT (labS k d)), noHp, 0⟩ := by
  refine AC_of Tryz.func124 rfl Tryz.ntmps124 Tryz.results124 (by kernel_rfl) rfl ?_
  simp only [List.zipIdx, List.map, Nat.zero_add, Nat.reduceAdd]
  by_cases e : k.size = d
  · have c : decide ((k.size : Int) ≤ (d : Int)) = true := decide_eq_true (by omega)
    repeat (first | apply Aw_seq | apply Aw_block | apply Aw_skip | apply Aw_exit | refine Aw_condt rfl ?_ | refine Aw_condf rfl ?_ | ((first | refine qr ?_ | refine qd (by kernel_rfl) (by kernel_rfl) ?_); simp only [go_sem, reduceEqDiff, reduceIte, reduceAdd, reduceMul, reduceSub, reduceLT, reduceLeDiff, Nat.reduceBEq, c]) | refine dk (by kernel_rfl) ?_)
    exact Aw_ret (ret0 (.inl rfl) (by simp only [go_sem, reduceEqDiff, reduceIte, reduceAdd, reduceMul, reduceSub, reduceLT, reduceLeDiff, Nat.reduceBEq]; rfl) (by unfold lab; rw [if_pos e]) rfl)
  · have c : decide ((k.size : Int) ≤ (d : Int)) = false := decide_eq_false (by omega)
    have hw := wrap_succ (i := d) (m := k.size) (by omega) (by omega)
    have c1 : ((d : Int) ≤ ((d + 1 : Nat) : Int)) = True := eq_true (by omega)
    have c2 : (((d + 1 : Nat) : Int) ≤ (k.size : Int)) = True := eq_true (by omega)
    have c3 := ext1 (k := k) (d := d) (by omega)
    repeat (first | apply Aw_seq | apply Aw_block | apply Aw_skip | apply Aw_exit | refine Aw_condt rfl ?_ | refine Aw_condf rfl ?_ | ((first | refine qr ?_ | refine qd (by kernel_rfl) (by kernel_rfl) ?_); simp only [go_sem, reduceEqDiff, reduceIte, reduceAdd, reduceMul, reduceSub, reduceLT, reduceLeDiff, Nat.reduceBEq, c, hw, c1, c2, c3]) | refine dk (by kernel_rfl) ?_)
    exact Aw_ret (ret0 (.inl rfl) (by simp only [go_sem, reduceEqDiff, reduceIte, reduceAdd, reduceMul, reduceSub, reduceLT, reduceLeDiff, Nat.reduceBEq]; rfl) (by rfl) rfl)
theorem cutT_nil {k : ByteArray} {d : Nat} (h : k.size ≤ d + 1) (keep : Nat) : cutT k d keep = zs := by
  unfold cutT
  apply ByteArray.ext
  rw [ByteArray.data_extract, ByteArray.data_extract]
  apply Array.ext'
  simp only [Array.toList_extract, List.extract_eq_drop_take]
  rw [Nat.min_eq_right h]
  simp; rfl
theorem cutT_def (k : ByteArray) (d keep : Nat) (h : d + 1 ≤ k.size) : cutT k d keep = (k.extract (d + 1) k.size).extract 0 (min (k.extract (d + 1) k.size).size keep) := by
  unfold cutT; rw [Nat.min_eq_left h, Nat.min_comm]
theorem l3Rest_ac (k : ByteArray) (d keep : Nat) (h5 : k.size ≤ 5) : AC Tryz.prog 143 [sT k, iT ((d + 1 : Nat) : Int), iT keep] noHp 0 ⟨.t (sT (cutT k d keep)), noHp, 0⟩ := by
  refine AC_of Tryz.func143 rfl Tryz.ntmps143 Tryz.results143 (by kernel_rfl) rfl ?_
  simp only [List.zipIdx, List.map, Nat.zero_add, Nat.reduceAdd]
  by_cases e : k.size ≤ d + 1
  · have c : decide ((k.size : Int) ≤ ((d + 1 : Nat) : Int)) = true := decide_eq_true (by omega)
    rw [cutT_nil e]
    repeat (first | apply Aw_seq | apply Aw_block | apply Aw_skip | apply Aw_exit | refine Aw_condt rfl ?_ | refine Aw_condf rfl ?_ | ((first | refine qr ?_ | refine qd (by kernel_rfl) (by kernel_rfl) ?_); simp only [go_sem, reduceEqDiff, reduceIte, reduceAdd, reduceMul, reduceSub, reduceLT, reduceLeDiff, Nat.reduceBEq, c]) | refine dk (by kernel_rfl) ?_)
    exact Aw_ret (ret0 (.inl rfl) (by simp only [go_sem, reduceEqDiff, reduceIte, reduceAdd, reduceMul, reduceSub, reduceLT, reduceLeDiff, Nat.reduceBEq]; rfl) (by rfl) rfl)
  · have c : decide ((k.size : Int) ≤ ((d + 1 : Nat) : Int)) = false := decide_eq_false (by omega)
    have c1 : (((d + 1 : Nat) : Int) ≤ (k.size : Int)) = True := eq_true (by omega)
    rw [cutT_def k d keep (by omega)]
    have c2 : ((((min (k.extract (d + 1) k.size).size keep) : Nat) : Int) ≤ ((k.extract (d + 1) k.size).size : Int)) = True := eq_true (by omega)
    repeat (first | apply Aw_seq | apply Aw_block | apply Aw_skip | apply Aw_exit | refine Aw_condt rfl ?_ | refine Aw_condf rfl ?_ | ((first | refine qr ?_ | refine qd (by kernel_rfl) (by kernel_rfl) ?_); simp only [go_sem, reduceEqDiff, reduceIte, reduceAdd, reduceMul, reduceSub, reduceLT, reduceLeDiff, Nat.reduceBEq, c, c1, min_if, c2]) | refine dk (by kernel_rfl) ?_)
    exact Aw_ret (ret0 (.inl rfl) (by simp only [go_sem, reduceEqDiff, reduceIte, reduceAdd, reduceMul, reduceSub, reduceLT, reduceLeDiff, Nat.reduceBEq]; rfl) (by rfl) rfl)
/-- A fork, as it lies in a variable. -/
def fkO (ks : List ByteArray) (d : Nat) : Obj := ⟨143, 2, false, [[.d (.rs 1 (ks.map strD)), .d (.s (.int .i64 (d : Int)))]]⟩
@[go_sem] theorem r_fkO (ks : List ByteArray) (d : Nat) : fkO ks d = ⟨143, 2, false, [[.d (.rs 1 (ks.map strD)), .d (.s (.int .i64 (d : Int)))]]⟩ := rfl
abbrev fkT (ks : List ByteArray) (d : Nat) : TV := .agg [.d (.rs 1 (ks.map strD)), .d (.s (.int .i64 (d : Int)))]
theorem l3Group_ac (x : ByteArray) (r : List ByteArray) (d : Nat) (hl : (x :: r).length ≤ 3000) (hk : ∀ k ∈ x :: r, d ≤ k.size ∧ k.size ≤ 5) : AC Tryz.prog 142 [fkT (x :: r) d] noHp 0 ⟨.t (strsT (colI (x :: r).length (grpAt (x :: r) d x))), noHp, 0⟩ := by
  refine AC.settle0 (x := .t (.c (.h 0))) (hp1 := hpL [some (kRow (colI (x :: r).length (grpAt (x :: r) d x)))]) (n := 1) [0] ?_ (SetC.row0 rfl rfl) rfl
  have hx0 : (x :: r)[0]? = some x := rfl
  have hx := hk x (by simp)
  generalize x :: r = ks at *
  refine AC_of Tryz.func142 rfl Tryz.ntmps142 Tryz.results142 (by kernel_rfl) rfl ?_
  simp only [List.zipIdx, List.map, Nat.zero_add, Nat.reduceAdd]
  repeat (first | apply Aw_seq | apply Aw_block | apply Aw_skip | apply Aw_exit | refine Aw_condt rfl ?_ | refine Aw_condf rfl ?_ | ((first | refine qr ?_ | refine qd (by kernel_rfl) (by kernel_rfl) ?_); simp only [go_sem, reduceEqDiff, reduceIte, reduceAdd, reduceMul, reduceSub, reduceLT, reduceLeDiff, Nat.reduceBEq]) | refine dk (by kernel_rfl) ?_)
  refine Aw.rw (rwL (l' := [(4, .t (iT (0 : Nat))), (3, .t (.c (.h 1))), (1, .t (.c (.ph 0 0 0)))]) (os := [some (fkO ks d), some (kRow (colI 0 (grpAt ks d x)))]) (M := [0, 2]) (n' := 2) (by repeat (first | exact trivial | refine ⟨rfl, rfl, ?_⟩)) (by rfl) (by simp only [go_sem, reduceEqDiff, reduceIte, reduceAdd, reduceMul, reduceSub, reduceLT, reduceLeDiff, Nat.reduceBEq]; first | done | rfl) (by decide) (by intro m hm; first | omega | (rcases m with _ | _ | _ | _ | _ | _ | m <;> first | exact ⟨by decide, rfl⟩ | omega))) ?_
  refine Aw_loop_rw (ι := { i : Nat // i ≤ ks.length }) (fun i => S [(4, .t (iT (i.1 : Nat))), (3, .t (.c (.h 1))), (1, .t (.c (.ph 0 0 0)))] (hpL [some (fkO ks d), some (kRow (colI i.1 (grpAt ks d x)))]) 2) (fun i => ks.length - i.1) ⟨0, Nat.zero_le _⟩ ?_
  rintro ⟨i, hi⟩
  dsimp only
  by_cases hlt : i < ks.length
  · have h1 : decide ((i : Int) < (ks.length : Int)) = true := decide_eq_true (by omega)
    have h2 := wrap_succ hlt (by omega)
    obtain ⟨y, hy⟩ : ∃ y, ks[i]? = some y := ⟨_, List.getElem?_eq_getElem hlt⟩
    have hyk := hk y (List.mem_of_getElem? hy)
    have hb : ((colI i (grpAt ks d x)).length + 1) * 16 ≤ 140737488355328 := by have := colI_len (n := i) (grp_len ks d x); omega
    cases c1 : decide (lab y d = lab x d)
    · repeat (first | apply Aw_seq | apply Aw_block | apply Aw_skip | apply Aw_exit | refine Aw_condt rfl ?_ | refine Aw_condf rfl ?_ | ((first | refine qr ?_ | refine qd (by kernel_rfl) (by kernel_rfl) ?_); simp only [go_sem, reduceEqDiff, reduceIte, reduceAdd, reduceMul, reduceSub, reduceLT, reduceLeDiff, Nat.reduceBEq, h1, h2, hy, hx0, c1]) | refine dk (by kernel_rfl) ?_ | (refine qp (l3Letter_ac y d hyk.1 hyk.2) (by simp only [go_sem, reduceEqDiff, reduceIte, reduceAdd, reduceMul, reduceSub, reduceLT, reduceLeDiff, Nat.reduceBEq, h1, h2, hy, hx0, c1]; first | done | rfl) rfl (by simp only [go_sem, Nat.reduceLT]) rfl rfl ?_; simp only [go_sem, reduceEqDiff, reduceIte, reduceAdd, reduceMul, reduceSub, reduceLT, reduceLeDiff, Nat.reduceBEq, h1, h2, hy, hx0, c1]) | (refine qp (l3Letter_ac x d hx.1 hx.2) (by simp only [go_sem, reduceEqDiff, reduceIte, reduceAdd, reduceMul, reduceSub, reduceLT, reduceLeDiff, Nat.reduceBEq, h1, h2, hy, hx0, c1]; first | done | rfl) rfl (by simp only [go_sem, Nat.reduceLT]) rfl rfl ?_; simp only [go_sem, reduceEqDiff, reduceIte, reduceAdd, reduceMul, reduceSub, reduceLT, reduceLeDiff, Nat.reduceBEq, h1, h2, hy, hx0, c1]))
      have hc : colI (i + 1) (grpAt ks d x) = colI i (grpAt ks d x) := by rw [colI_succ]; unfold grpAt; rw [hy]; simp only []; rw [if_neg (by simpa using c1)]; simp
      refine ⟨⟨i + 1, hlt⟩, [0, 1], ?_, rwL (by repeat (first | exact trivial | refine ⟨rfl, rfl, ?_⟩)) (by rfl) (by simp only [go_sem, reduceEqDiff, reduceIte, reduceAdd, reduceMul, reduceSub, reduceLT, reduceLeDiff, Nat.reduceBEq, hc]; first | done | rfl) (by decide) (by intro m hm; first | omega | (rcases m with _ | _ | _ | _ | _ | _ | m <;> first | exact ⟨by decide, rfl⟩ | omega))⟩
      show ks.length - (i + 1) < ks.length - i; omega
    · repeat (first | apply Aw_seq | apply Aw_block | apply Aw_skip | apply Aw_exit | refine Aw_condt rfl ?_ | refine Aw_condf rfl ?_ | ((first | refine qr ?_ | refine qd (by kernel_rfl) (by kernel_rfl) ?_); simp only [go_sem, reduceEqDiff, reduceIte, reduceAdd, reduceMul, reduceSub, reduceLT, reduceLeDiff, Nat.reduceBEq, h1, h2, hy, hx0, c1, hb]) | refine dk (by kernel_rfl) ?_ | (refine qp (l3Letter_ac y d hyk.1 hyk.2) (by simp only [go_sem, reduceEqDiff, reduceIte, reduceAdd, reduceMul, reduceSub, reduceLT, reduceLeDiff, Nat.reduceBEq, h1, h2, hy, hx0, c1, hb]; first | done | rfl) rfl (by simp only [go_sem, Nat.reduceLT]) rfl rfl ?_; simp only [go_sem, reduceEqDiff, reduceIte, reduceAdd, reduceMul, reduceSub, reduceLT, reduceLeDiff, Nat.reduceBEq, h1, h2, hy, hx0, c1, hb]) | (refine qp (l3Letter_ac x d hx.1 hx.2) (by simp only [go_sem, reduceEqDiff, reduceIte, reduceAdd, reduceMul, reduceSub, reduceLT, reduceLeDiff, Nat.reduceBEq, h1, h2, hy, hx0, c1, hb]; first | done | rfl) rfl (by simp only [go_sem, Nat.reduceLT]) rfl rfl ?_; simp only [go_sem, reduceEqDiff, reduceIte, reduceAdd, reduceMul, reduceSub, reduceLT, reduceLeDiff, Nat.reduceBEq, h1, h2, hy, hx0, c1, hb]))
      have hc : colI (i + 1) (grpAt ks d x) = colI i (grpAt ks d x) ++ [y] := by rw [colI_succ]; unfold grpAt; rw [hy]; simp only []; rw [if_pos (by simpa using c1)]
      refine ⟨⟨i + 1, hlt⟩, [0, 28], ?_, rwL (by repeat (first | exact trivial | refine ⟨rfl, rfl, ?_⟩)) (by rfl) (by simp only [go_sem, reduceEqDiff, reduceIte, reduceAdd, reduceMul, reduceSub, reduceLT, reduceLeDiff, Nat.reduceBEq, hc]; first | done | rfl) (by decide) (by intro m hm; first | omega | (rcases m with _ | _ | _ | _ | _ | _ | m <;> first | exact ⟨by decide, rfl⟩ | omega))⟩
      show ks.length - (i + 1) < ks.length - i; omega
  · have h1 : decide ((i : Int) < (ks.length : Int)) = false := decide_eq_false (by omega)
    obtain rfl : i = ks.length := by omega
    repeat (first | apply Aw_seq | apply Aw_block | apply Aw_skip | apply Aw_exit | refine Aw_condt rfl ?_ | refine Aw_condf rfl ?_ | ((first | refine qr ?_ | refine qd (by kernel_rfl) (by kernel_rfl) ?_); simp only [go_sem, reduceEqDiff, reduceIte, reduceAdd, reduceMul, reduceSub, reduceLT, reduceLeDiff, Nat.reduceBEq, h1]) | refine dk (by kernel_rfl) ?_)
    exact Aw_ret (retL (M := [1]) (.inl rfl) (by simp only [go_sem, reduceEqDiff, reduceIte, reduceAdd, reduceMul, reduceSub, reduceLT, reduceLeDiff, Nat.reduceBEq]; first | done | rfl) rfl rfl (by rfl) (by simp only [go_sem, reduceEqDiff, reduceIte, reduceAdd, reduceMul, reduceSub, reduceLT, reduceLeDiff, Nat.reduceBEq]; first | done | rfl | (and_intros <;> rfl)) (by decide) (by intro m hm; first | omega | (rcases m with _ | _ | _ | _ | _ | _ | m <;> first | exact ⟨by decide, rfl⟩ | omega)))
theorem grp_ex {x : ByteArray} {r : List ByteArray} {d : Nat} (hf : Fork (x :: r, d)) (hl : (x :: r).length ≤ 3000) : ∃ g, AC Tryz.prog 142 [fkT (x :: r) d] noHp 0 ⟨.t (strsT g), noHp, 0⟩ ∧ g[0]? = some x ∧ 1 ≤ g.length ∧ g.length ≤ (x :: r).length ∧ spl d (x :: r) = g :: spl d ((x :: r).drop g.length) := by
  refine ⟨grpF d (x :: r), ?_, rfl, by simp [grpF], ?_, spl_grp⟩
  · have h := l3Group_ac x r d hl (fun k hk => ⟨(hf.ok k hk).2, keyOk_size (hf.ok k hk).1⟩)
    rw [grp_fork hf rfl] at h
    exact h
  · unfold grpF
    simp only [List.length_cons]
    have := (List.takeWhile_sublist (fun y => lab y d == lab x d) (l := r)).length_le
    omega
structure PutI (keep d : Nat) (G : Put) where
  B : Put
  rest : List ByteArray
  m : UInt8
  eq : B.add (runs keep d m (spl d rest)) = G
  fork : Fork (rest, d)
  l1 : B.letters.length + rest.length ≤ 2000
  b4 : B.more.length = B.letters.length
  b5 : B.first.length = B.letters.length
  l2 : B.rests.length + rest.length ≤ 2000
  l3 : B.kids.length + rest.length ≤ 3000
@[go_sem] theorem bs_size (l : List UInt8) : (bs l).size = l.length := by simp [bs, ByteArray.size]
def puH (B : Put) (rest : List ByteArray) (d keep : Nat) : List (Option Obj) := [none, some (svO (bs B.letters) (bs B.more) (bs B.first) (.h 5) keep), some (fkO rest d), some (svO zs zs zs (.d (.s (.slice none 0 0))) 0), some (dRow 143 2 (B.kids.map grpD)), some (kRow B.rests)]
@[go_sem] theorem r_puH (B : Put) (rest : List ByteArray) (d keep : Nat) : puH B rest d keep = [none, some (svO (bs B.letters) (bs B.more) (bs B.first) (.h 5) keep), some (fkO rest d), some (svO zs zs zs (.d (.s (.slice none 0 0))) 0), some (dRow 143 2 (B.kids.map grpD)), some (kRow B.rests)] := rfl
abbrev puSl (m : UInt8) : List (Nat × AV) := [(7, .t (sT (bs [m]))), (6, .t (.c (.h 4))), (4, .t (.c (.ph 3 0 0))), (3, .t (.c (.ph 2 0 0))), (2, .t (.c (.ph 1 0 0)))]
abbrev pvT (A : Put) (keep : Nat) (r : CV) : TV := .agg [.d (.s (.string (bs A.letters))), .d (.s (.string (bs A.more))), .d (.s (.string (bs A.first))), r, .d (.s (.int .i64 (keep : Int)))]
theorem l3Put_ac (A : Put) (f : List ByteArray × Nat) (keep : Nat) (hf : Fork f) (hA : A.kids = []) (hl : f.1.length ≤ 1000) (hr : A.rests.length ≤ 1000) (ha : A.letters.length ≤ 1000) (ha4 : A.more.length = A.letters.length) (ha5 : A.first.length = A.letters.length) :
    AC Tryz.prog 127 [pvT A keep (.h 0), fkT f.1 f.2] (hpL [some (kRow A.rests)]) 1 ⟨.tup [pvT (A.add (node keep f)) keep (.h 1), .c (.h 2)], hpL [none, some (kRow (A.add (node keep f)).rests), some (dRow 143 2 ((A.add (node keep f)).kids.map grpD))], 3⟩ := by
  refine AC_of Tryz.func127 rfl Tryz.ntmps127 Tryz.results127 (by kernel_rfl) rfl ?_
  simp only [List.zipIdx, List.map, Nat.zero_add, Nat.reduceAdd]
  repeat (first | apply Aw_seq | apply Aw_block | apply Aw_skip | apply Aw_exit | refine Aw_condt rfl ?_ | refine Aw_condf rfl ?_ | ((first | refine qr ?_ | refine qd (by kernel_rfl) (by kernel_rfl) ?_); simp only [go_sem, reduceEqDiff, reduceIte, reduceAdd, reduceMul, reduceSub, reduceLT, reduceLeDiff, Nat.reduceBEq]) | refine dk (by kernel_rfl) ?_)
  refine Aw.rw (rwL (l' := puSl 49) (os := puH A f.1 f.2 keep) (M := [0, 1, 2, 3, 5, 0]) (n' := 6) (by repeat (first | exact trivial | refine ⟨rfl, rfl, ?_⟩)) (by rfl) (by simp only [go_sem, reduceEqDiff, reduceIte, reduceAdd, reduceMul, reduceSub, reduceLT, reduceLeDiff, Nat.reduceBEq, hA]; first | done | rfl) (by decide) (by intro m hm; first | omega | (rcases m with _ | _ | _ | _ | _ | _ | m <;> first | exact ⟨by decide, rfl⟩ | omega))) ?_
  refine Aw_loop_rw (ι := PutI keep f.2 (A.add (node keep f))) (fun i => S (puSl i.m) (hpL (puH i.B i.rest f.2 keep)) 6) (fun i => i.rest.length) ⟨A, f.1, 49, rfl, hf, by omega, ha4, ha5, by omega, by rw [hA]; simp; omega⟩ ?_
  rintro ⟨B, rest, m, eq, fork, l1, b4, b5, l2, l3⟩
  dsimp only
  rcases hr : rest with _ | ⟨x, r⟩
  · subst hr
    have e : B = A.add (node keep f) := by rw [spl_nil] at eq; simpa [runs, Put.addz] using eq
    subst e
    repeat (first | apply Aw_seq | apply Aw_block | apply Aw_skip | apply Aw_exit | refine Aw_condt rfl ?_ | refine Aw_condf rfl ?_ | ((first | refine qr ?_ | refine qd (by kernel_rfl) (by kernel_rfl) ?_); simp only [go_sem, reduceEqDiff, reduceIte, reduceAdd, reduceMul, reduceSub, reduceLT, reduceLeDiff, Nat.reduceBEq]) | refine dk (by kernel_rfl) ?_)
    exact Aw_ret (retL (M := [0, 5, 4]) (.inl rfl) (by simp only [go_sem, reduceEqDiff, reduceIte, reduceAdd, reduceMul, reduceSub, reduceLT, reduceLeDiff, Nat.reduceBEq]; first | done | rfl) rfl rfl (by rfl) (by simp only [go_sem, reduceEqDiff, reduceIte, reduceAdd, reduceMul, reduceSub, reduceLT, reduceLeDiff, Nat.reduceBEq]; first | done | rfl | (and_intros <;> rfl)) (by decide) (by intro m hm; first | omega | (rcases m with _ | _ | _ | _ | _ | _ | m <;> first | exact ⟨by decide, rfl⟩ | omega)))
  · rw [← hr]
    have hlen : 1 ≤ rest.length := by rw [hr]; simp
    obtain ⟨g, gac, g0, g1, g2, g3⟩ := grp_ex (by rw [← hr]; exact fork) (by rw [← hr]; omega)
    rw [← hr] at gac g2 g3
    have hpos : decide ((0 : Int) < (rest.length : Int)) = true := decide_eq_true (by omega)
    have hx := fork.ok x (by rw [hr]; simp)
    have hx5 := keyOk_size hx.1
    clear hr
    have q1 : (B.letters.length + 1 ≤ 9223372036854775807) = True := eq_true (by omega)
    have q2 : (B.first.length + 1 ≤ 9223372036854775807) = True := eq_true (by omega)
    have q3 : (B.more.length + 1 ≤ 9223372036854775807) = True := eq_true (by omega)
    repeat (first | apply Aw_seq | apply Aw_block | apply Aw_skip | apply Aw_exit | refine Aw_condt rfl ?_ | refine Aw_condf rfl ?_ | ((first | refine qr ?_ | refine qd (by kernel_rfl) (by kernel_rfl) ?_); simp only [go_sem, reduceEqDiff, reduceIte, reduceAdd, reduceMul, reduceSub, reduceLT, reduceLeDiff, Nat.reduceBEq, hpos, g0, q1, q2]) | refine dk (by kernel_rfl) ?_ | (refine qp (gac) (by simp only [go_sem, reduceEqDiff, reduceIte, reduceAdd, reduceMul, reduceSub, reduceLT, reduceLeDiff, Nat.reduceBEq, hpos, g0, q1, q2]; first | done | rfl) rfl (by simp only [go_sem, Nat.reduceLT]) rfl rfl ?_; simp only [go_sem, reduceEqDiff, reduceIte, reduceAdd, reduceMul, reduceSub, reduceLT, reduceLeDiff, Nat.reduceBEq, hpos, g0, q1, q2]) | (refine qp (l3Letter_ac x f.2 hx.2 hx5) (by simp only [go_sem, reduceEqDiff, reduceIte, reduceAdd, reduceMul, reduceSub, reduceLT, reduceLeDiff, Nat.reduceBEq, hpos, g0, q1, q2]; first | done | rfl) rfl (by simp only [go_sem, Nat.reduceLT]) rfl rfl ?_; simp only [go_sem, reduceEqDiff, reduceIte, reduceAdd, reduceMul, reduceSub, reduceLT, reduceLeDiff, Nat.reduceBEq, hpos, g0, q1, q2]))
    have hg1 : g = x :: g.drop 1 := by
      match g, g0 with
      | y :: q, h => simp at h; subst h; rfl
    have hkm : (List.map strD rest).drop g.length = List.map strD (rest.drop g.length) := List.map_drop.symm
    have hnl : ((g.length : Int) ≤ (rest.length : Int)) = True := eq_true (by omega)
    have htd : List.drop g.length (List.take rest.length (List.map strD rest)) = List.map strD (rest.drop g.length) := by
      rw [List.take_of_length_le (by simp), ← List.map_drop]
    have wd : IntKind.i64.wrap ((f.2 : Int) + 1) = ((f.2 + 1 : Nat) : Int) := wrap_succ (m := 10) (by have := hf.dep; omega) (by omega)
    refine cut_seq (J := fun (_ : Unit) => S ((8, .t (strsT g)) :: puSl 48) (hpL (puH (B.add (run1 keep f.2 m g)) rest f.2 keep)) 6) ?_ ?_
    · by_cases hn : 1 < g.length
      · have c1 : decide ((1 : Int) < (g.length : Int)) = true := decide_eq_true (by omega)
        have hq : (B.kids.length + 1) * 32 ≤ 140737488355328 := by omega
        rw [c1]
        repeat (first | apply Aw_seq | apply Aw_block | apply Aw_skip | apply Aw_exit | refine Aw_condt rfl ?_ | refine Aw_condf rfl ?_ | ((first | refine qr ?_ | refine qd (by kernel_rfl) (by kernel_rfl) ?_); simp only [go_sem, reduceEqDiff, reduceIte, reduceAdd, reduceMul, reduceSub, reduceLT, reduceLeDiff, Nat.reduceBEq, c1, q3, hq, wd]) | refine dk (by kernel_rfl) ?_)
        have hrun : run1 keep f.2 m g = ⟨[lab x f.2], [49], [m], [], [(g, f.2 + 1)]⟩ := by
          match g, hg1, hn with
          | y :: z :: q, hg1, _ => obtain ⟨rfl, _⟩ := List.cons.inj hg1; rfl
        exact ⟨(), [0, 1, 2, 3, 46, 5], rwL (by repeat (first | exact trivial | refine ⟨rfl, rfl, ?_⟩)) (by rfl) (by simp only [go_sem, reduceEqDiff, reduceIte, reduceAdd, reduceMul, reduceSub, reduceLT, reduceLeDiff, Nat.reduceBEq, hrun, Put.add]; first | done | rfl) (by decide) (by intro m hm; first | omega | (rcases m with _ | _ | _ | _ | _ | _ | m <;> first | exact ⟨by decide, rfl⟩ | omega))⟩
      · have c1 : decide ((1 : Int) < (g.length : Int)) = false := decide_eq_false (by omega)
        have hq : (B.rests.length + 1) * 16 ≤ 140737488355328 := by omega
        rw [c1]
        repeat (first | apply Aw_seq | apply Aw_block | apply Aw_skip | apply Aw_exit | refine Aw_condt rfl ?_ | refine Aw_condf rfl ?_ | ((first | refine qr ?_ | refine qd (by kernel_rfl) (by kernel_rfl) ?_); simp only [go_sem, reduceEqDiff, reduceIte, reduceAdd, reduceMul, reduceSub, reduceLT, reduceLeDiff, Nat.reduceBEq, c1, g0, q3, hq, wd]) | refine dk (by kernel_rfl) ?_ | (refine qp (l3Rest_ac x f.2 keep hx5) (by simp only [go_sem, reduceEqDiff, reduceIte, reduceAdd, reduceMul, reduceSub, reduceLT, reduceLeDiff, Nat.reduceBEq, c1, g0, q3, hq, wd]; first | done | rfl) rfl (by simp only [go_sem, Nat.reduceLT]) rfl rfl ?_; simp only [go_sem, reduceEqDiff, reduceIte, reduceAdd, reduceMul, reduceSub, reduceLT, reduceLeDiff, Nat.reduceBEq, c1, g0, q3, hq, wd]))
        have hrun : run1 keep f.2 m g = ⟨[lab x f.2], [48], [m], [cutT x f.2 keep], []⟩ := by
          have hg2 : g = [x] := by rw [hg1, List.drop_eq_nil_of_le (by omega)]
          rw [hg2]; rfl
        exact ⟨(), [0, 1, 2, 3, 4, 50], rwL (by repeat (first | exact trivial | refine ⟨rfl, rfl, ?_⟩)) (by rfl) (by simp only [go_sem, reduceEqDiff, reduceIte, reduceAdd, reduceMul, reduceSub, reduceLT, reduceLeDiff, Nat.reduceBEq, hrun, Put.add]; first | done | rfl) (by decide) (by intro m hm; first | omega | (rcases m with _ | _ | _ | _ | _ | _ | m <;> first | exact ⟨by decide, rfl⟩ | omega))⟩
    · intro _
      repeat (first | apply Aw_seq | apply Aw_block | apply Aw_skip | apply Aw_exit | refine Aw_condt rfl ?_ | refine Aw_condf rfl ?_ | ((first | refine qr ?_ | refine qd (by kernel_rfl) (by kernel_rfl) ?_); simp only [go_sem, reduceEqDiff, reduceIte, reduceAdd, reduceMul, reduceSub, reduceLT, reduceLeDiff, Nat.reduceBEq, hnl, htd]) | refine dk (by kernel_rfl) ?_)
      refine ⟨⟨B.add (run1 keep f.2 m g), rest.drop g.length, 48, by rw [← eq, g3]; simp only [runs, Put.add_assoc], fork.drop g.length, by rw [List.length_drop]; have := (run1_len keep f.2 m g).1; simp only [Put.add, List.length_append]; omega, by have := (run1_len keep f.2 m g).2.2.2.1; simp only [Put.add, List.length_append]; omega, by have := (run1_len keep f.2 m g).2.2.2.2; simp only [Put.add, List.length_append]; omega, by rw [List.length_drop]; have := (run1_len keep f.2 m g).2.1; simp only [Put.add, List.length_append]; omega, by rw [List.length_drop]; have := (run1_len keep f.2 m g).2.2.1; simp only [Put.add, List.length_append]; omega⟩, [0, 1, 2, 3, 4, 5], ?_, rwL (by repeat (first | exact trivial | refine ⟨rfl, rfl, ?_⟩)) (by rfl) (by simp only [go_sem, reduceEqDiff, reduceIte, reduceAdd, reduceMul, reduceSub, reduceLT, reduceLeDiff, Nat.reduceBEq]; first | done | rfl) (by decide) (by intro m hm; first | omega | (rcases m with _ | _ | _ | _ | _ | _ | m <;> first | exact ⟨by decide, rfl⟩ | omega))⟩
      show (rest.drop g.length).length < rest.length
      rw [List.length_drop]; omega
@[go_sem] theorem d_fm (e k : Nat) (a : List (List D)) : (⟨e, k, true, List.map (fun x => List.map CV.d x) a⟩ : Obj) = dRow e k a := rfl
@[go_sem] theorem d_ff (e k : Nat) (a b : List (List D)) : (⟨e, k, true, List.map (fun x => List.map CV.d x) a ++ List.map (fun x => List.map CV.d x) b⟩ : Obj) = dRow e k (a ++ b) := by simp [dRow]
@[go_sem] theorem all_grpD (q : List (List ByteArray × Nat)) : (List.map (fun x => List.map CV.d x) (List.map grpD q)).all (fun cs => cs.length == 2) = true := by simp [grpD]
@[go_sem] theorem all_strD (q : List ByteArray) : (List.map (fun x => List.map CV.d x) (List.map strD q)).all (fun cs => cs.length == 1) = true := by simp [strD]
theorem bs_nil : bs [] = zs := rfl
def ssH (A : Put) (k keep : Nat) : List (Option Obj) := [some (svO zs zs zs (.d (.s (.slice none 0 0))) 0), some (svO (bs A.letters) (bs A.more) (bs A.first) (.h 2) keep), some (kRow A.rests), some (dRow 143 2 ((A.kids.drop k).map grpD))]
@[go_sem] theorem r_ssH (A : Put) (k keep : Nat) : ssH A k keep = [some (svO zs zs zs (.d (.s (.slice none 0 0))) 0), some (svO (bs A.letters) (bs A.more) (bs A.first) (.h 2) keep), some (kRow A.rests), some (dRow 143 2 ((A.kids.drop k).map grpD))] := rfl
abbrev ssSl : List (Nat × AV) := [(7, .t (.c (.h 3))), (6, .t (.c (.ph 1 0 0))), (4, .t (.c (.ph 0 0 0)))]
structure SsI (keep : Nat) (T : Put) where
  A : Put
  k : Nat
  h : Rest keep T A k
theorem ssieve_ac (keys : List ByteArray) (keep : Int) (hs : SmS keys) : AC Tryz.prog 101 [strsT keys, iT keep] noHp 0 ⟨.tup [sveT ((sieveM keys keep).getD zSve) (.h 0), bT (sieveM keys keep).isSome], hpL [some (kRow ((sieveM keys keep).getD zSve).rests)], 1⟩ := by
  refine AC_of Tryz.func101 rfl Tryz.ntmps101 Tryz.results101 (by kernel_rfl) rfl ?_
  simp only [List.zipIdx, List.map, Nat.zero_add, Nat.reduceAdd]
  cases c1 : keysOkM keys
  · repeat (first | apply Aw_seq | apply Aw_block | apply Aw_skip | apply Aw_exit | refine Aw_condt rfl ?_ | refine Aw_condf rfl ?_ | ((first | refine qr ?_ | refine qd (by kernel_rfl) (by kernel_rfl) ?_); simp only [go_sem, reduceEqDiff, reduceIte, reduceAdd, reduceMul, reduceSub, reduceLT, reduceLeDiff, Nat.reduceBEq, c1]) | refine dk (by kernel_rfl) ?_ | (refine qp (skeysOk_ac _ hs) (by simp only [go_sem, reduceEqDiff, reduceIte, reduceAdd, reduceMul, reduceSub, reduceLT, reduceLeDiff, Nat.reduceBEq, c1]; first | done | rfl) rfl (by simp only [go_sem, Nat.reduceLT]) rfl rfl ?_; simp only [go_sem, reduceEqDiff, reduceIte, reduceAdd, reduceMul, reduceSub, reduceLT, reduceLeDiff, Nat.reduceBEq, c1]))
    have e : sieveM keys keep = none := by unfold sieveM; simp [c1]
    rw [e]
    refine Aw.ownC (m := 0) (i := 3) (e := 9) (j := 1) rfl rfl (by decide) (by simp only [Nat.reduceAdd]; rfl) rfl ?_
    exact Aw_ret (retL (M := [9]) (.inl rfl) (by simp only [go_sem, reduceEqDiff, reduceIte, reduceAdd, reduceMul, reduceSub, reduceLT, reduceLeDiff, Nat.reduceBEq]; first | done | rfl) rfl rfl (by rfl) (by simp only [go_sem, reduceEqDiff, reduceIte, reduceAdd, reduceMul, reduceSub, reduceLT, reduceLeDiff, Nat.reduceBEq, zSve, Option.getD_none]; first | done | rfl | (and_intros <;> rfl)) (by decide) (by intro m hm; first | omega | (rcases m with _ | _ | _ | _ | _ | _ | m <;> first | exact ⟨by decide, rfl⟩ | omega)))
  · cases c2 : inB 0 keep 5
    · repeat (first | apply Aw_seq | apply Aw_block | apply Aw_skip | apply Aw_exit | refine Aw_condt rfl ?_ | refine Aw_condf rfl ?_ | ((first | refine qr ?_ | refine qd (by kernel_rfl) (by kernel_rfl) ?_); simp only [go_sem, reduceEqDiff, reduceIte, reduceAdd, reduceMul, reduceSub, reduceLT, reduceLeDiff, Nat.reduceBEq, c1, c2]) | refine dk (by kernel_rfl) ?_ | (refine qp (skeysOk_ac _ hs) (by simp only [go_sem, reduceEqDiff, reduceIte, reduceAdd, reduceMul, reduceSub, reduceLT, reduceLeDiff, Nat.reduceBEq, c1, c2]; first | done | rfl) rfl (by simp only [go_sem, Nat.reduceLT]) rfl rfl ?_; simp only [go_sem, reduceEqDiff, reduceIte, reduceAdd, reduceMul, reduceSub, reduceLT, reduceLeDiff, Nat.reduceBEq, c1, c2]) | (refine qp (l6In_ac _ _ _) (by simp only [go_sem, reduceEqDiff, reduceIte, reduceAdd, reduceMul, reduceSub, reduceLT, reduceLeDiff, Nat.reduceBEq, c1, c2]; first | done | rfl) rfl (by simp only [go_sem, Nat.reduceLT]) rfl rfl ?_; simp only [go_sem, reduceEqDiff, reduceIte, reduceAdd, reduceMul, reduceSub, reduceLT, reduceLeDiff, Nat.reduceBEq, c1, c2]))
      have e : sieveM keys keep = none := by unfold sieveM; simp [c2]
      rw [e]
      refine Aw.ownC (m := 0) (i := 3) (e := 9) (j := 1) rfl rfl (by decide) (by simp only [Nat.reduceAdd]; rfl) rfl ?_
      exact Aw_ret (retL (M := [11]) (.inl rfl) (by simp only [go_sem, reduceEqDiff, reduceIte, reduceAdd, reduceMul, reduceSub, reduceLT, reduceLeDiff, Nat.reduceBEq]; first | done | rfl) rfl rfl (by rfl) (by simp only [go_sem, reduceEqDiff, reduceIte, reduceAdd, reduceMul, reduceSub, reduceLT, reduceLeDiff, Nat.reduceBEq, zSve, Option.getD_none]; first | done | rfl | (and_intros <;> rfl)) (by decide) (by intro m hm; first | omega | (rcases m with _ | _ | _ | _ | _ | _ | m <;> first | exact ⟨by decide, rfl⟩ | omega)))
    · obtain ⟨kp, rfl⟩ : ∃ n : Nat, keep = n := ⟨keep.toNat, by unfold inB at c2; simp at c2; omega⟩
      obtain ⟨hl, hf, _⟩ := ksOk_iff c1
      have hk5 : kp ≤ 5 := by unfold inB at c2; simp at c2; omega
      have e : sieveM keys kp = some ⟨⟨(bfsF kp [(keys, 0)]).letters.toArray⟩, ⟨(bfsF kp [(keys, 0)]).more.toArray⟩, ⟨(bfsF kp [(keys, 0)]).first.toArray⟩, (bfsF kp [(keys, 0)]).rests, kp⟩ := by unfold sieveM; rw [if_pos ⟨c1, c2⟩]; rfl
      rw [e]
      repeat (first | apply Aw_seq | apply Aw_block | apply Aw_skip | apply Aw_exit | refine Aw_condt rfl ?_ | refine Aw_condf rfl ?_ | ((first | refine qr ?_ | refine qd (by kernel_rfl) (by kernel_rfl) ?_); simp only [go_sem, reduceEqDiff, reduceIte, reduceAdd, reduceMul, reduceSub, reduceLT, reduceLeDiff, Nat.reduceBEq, c1, c2]) | refine dk (by kernel_rfl) ?_ | (refine qp (skeysOk_ac _ hs) (by simp only [go_sem, reduceEqDiff, reduceIte, reduceAdd, reduceMul, reduceSub, reduceLT, reduceLeDiff, Nat.reduceBEq, c1, c2]; first | done | rfl) rfl (by simp only [go_sem, Nat.reduceLT]) rfl rfl ?_; simp only [go_sem, reduceEqDiff, reduceIte, reduceAdd, reduceMul, reduceSub, reduceLT, reduceLeDiff, Nat.reduceBEq, c1, c2]) | (refine qp (l6In_ac _ _ _) (by simp only [go_sem, reduceEqDiff, reduceIte, reduceAdd, reduceMul, reduceSub, reduceLT, reduceLeDiff, Nat.reduceBEq, c1, c2]; first | done | rfl) rfl (by simp only [go_sem, Nat.reduceLT]) rfl rfl ?_; simp only [go_sem, reduceEqDiff, reduceIte, reduceAdd, reduceMul, reduceSub, reduceLT, reduceLeDiff, Nat.reduceBEq, c1, c2]))
      refine Aw.rw (rwL (l' := ssSl) (os := ssH ⟨[], [], [], [], [(keys, 0)]⟩ 0 kp) (M := [0, 11, 8, 15]) (n' := 4) (by repeat (first | exact trivial | refine ⟨rfl, rfl, ?_⟩)) (by rfl) (by simp only [go_sem, reduceEqDiff, reduceIte, reduceAdd, reduceMul, reduceSub, reduceLT, reduceLeDiff, Nat.reduceBEq, bs_nil]; first | done | rfl) (by decide) (by intro m hm; first | omega | (rcases m with _ | _ | _ | _ | _ | _ | m <;> first | exact ⟨by decide, rfl⟩ | omega))) ?_
      refine Aw_loop_rw (ι := SsI kp (bfsF kp [(keys, 0)])) (fun i => S ssSl (hpL (ssH i.A i.k kp)) 4) (fun i => wts (i.A.kids.drop i.k)) ⟨_, 0, rest0 hf hl⟩ ?_
      rintro ⟨A, k, h⟩
      dsimp only
      have hb1 := h.b1; have hb2 := h.b2; have hb3 := h.b3; have hb4 := h.b4; have hb5 := h.b5
      by_cases hlt : k < A.kids.length
      · obtain ⟨f, hx⟩ : ∃ f, A.kids[k]? = some f := ⟨_, List.getElem?_eq_getElem hlt⟩
        have hd : A.kids.drop k = f :: A.kids.drop (k + 1) := by
          rw [List.drop_eq_getElem_cons hlt]; congr 1; rw [List.getElem?_eq_getElem hlt] at hx; exact Option.some.inj hx
        have hff := h.fork f (by rw [hd]; simp)
        have hwf : f.1.length ≤ 1000 := by
          rw [hd, wts_cons] at hb1
          have := hff.dep
          unfold wt at hb1
          have : f.1.length ≤ f.1.length * (8 - f.2) := Nat.le_mul_of_pos_right _ (by omega)
          omega
        refine Aw.setL (l' := [(7, .t (.c (.d (.rs 2 ((A.kids.drop k).map grpD))))), (6, .t (.c (.ph 1 0 0))), (4, .t (.c (.ph 0 0 0)))]) (os' := [some (svO zs zs zs (.d (.s (.slice none 0 0))) 0), some (svO (bs A.letters) (bs A.more) (bs A.first) (.h 2) kp), some (kRow A.rests), none]) (n' := 4) [3] (by repeat (first | exact trivial | refine ⟨SetA.same rfl, ?_⟩ | refine ⟨SetA.row rfl rfl (by decide), ?_⟩)) (by repeat (first | exact trivial | refine ⟨rfl, rfl, ?_⟩ | show SubL _ _ _ _)) (by decide) ?_
        have hpos : decide ((0 : Int) < (((A.kids.drop (k + 1)).length + 1 : Nat) : Int)) = true := decide_eq_true (by omega)
        have hput := l3Put_ac { A with kids := [] } f kp hff rfl hwf (by show A.rests.length ≤ 1000; omega) (by show A.letters.length ≤ 1000; omega) hb4 hb5
        have c01 : ((0 : Int) ≤ 1) = True := eq_true (by omega)
        have c1l : ((1 : Int) ≤ (((A.kids.drop (k + 1)).length + 1 : Nat) : Int)) = True := eq_true (by omega)
        have tn : Int.toNat 1 = 1 := rfl
        have tk : List.take (A.kids.drop (k + 1)).length (List.map grpD (A.kids.drop (k + 1))) = List.map grpD (A.kids.drop (k + 1)) := by rw [List.take_of_length_le (by simp)]
        have hdr2 : (A.kids ++ (node kp f).kids).drop (k + 1) = A.kids.drop (k + 1) ++ (node kp f).kids := by
          rw [List.drop_append_of_le_length (by omega)]
        have hnx := h.next hx
        have hdr : (A.add (node kp f)).kids.drop (k + 1) = A.kids.drop (k + 1) ++ (node kp f).kids := by
          simp only [Put.add]; rw [List.drop_append_of_le_length (by omega)]
        have hb6 := hnx.b3
        rw [hdr, wts_app] at hb6
        have w1 := wts_len (A.kids.drop (k + 1)); have w2 := wts_len (node kp f).kids
        have q1 : (A.kids.drop (k + 1)).length * 32 ≤ 140737488355328 := by omega
        have q2 : ((A.kids.drop (k + 1)).length + (node kp f).kids.length) * 32 ≤ 140737488355328 := by omega
        have hkd : (({ A with kids := [] } : Put).add (node kp f)).kids = (node kp f).kids := rfl
        repeat (first | apply Aw_seq | apply Aw_block | apply Aw_skip | apply Aw_exit | refine Aw_condt rfl ?_ | refine Aw_condf rfl ?_ | ((first | refine qr ?_ | refine qd (by kernel_rfl) (by kernel_rfl) ?_); simp only [go_sem, reduceEqDiff, reduceIte, reduceAdd, reduceMul, reduceSub, reduceLT, reduceLeDiff, Nat.reduceBEq, hpos, hd, c01, c1l, tn, tk, q1, q2, hkd]) | refine dk (by kernel_rfl) ?_ | (refine qx (call_L (N' := [2]) (L := []) (hput) rfl (.cons (.nm rfl) (.cons (.nm rfl) (.nil))) (by decide) (by decide) (by decide) (by simp only [go_sem, reduceEqDiff, reduceIte, reduceAdd, reduceMul, reduceSub, reduceLT, reduceLeDiff, Nat.reduceBEq, hpos, hd, c01, c1l, tn, tk, q1, q2, hkd]; first | done | rfl) (.inl rfl) rfl (by decide)) (by simp only [go_sem, reduceEqDiff, reduceIte, reduceAdd, reduceMul, reduceSub, reduceLT, reduceLeDiff, Nat.reduceBEq, hpos, hd, c01, c1l, tn, tk, q1, q2, hkd]; first | done | rfl) rfl (by simp only [go_sem, Nat.reduceLT]) ?_; simp only [go_sem, reduceEqDiff, reduceIte, reduceAdd, reduceMul, reduceSub, reduceLT, reduceLeDiff, Nat.reduceBEq, hpos, hd, c01, c1l, tn, tk, q1, q2, hkd]))
        refine ⟨⟨A.add (node kp f), k + 1, hnx⟩, [0, 1, 13, 25], ?_, rwL (by repeat (first | exact trivial | refine ⟨rfl, rfl, ?_⟩)) (by rfl) (by simp only [go_sem, reduceEqDiff, reduceIte, reduceAdd, reduceMul, reduceSub, reduceLT, reduceLeDiff, Nat.reduceBEq, hdr2, Put.add]; first | done | rfl) (by decide) (by intro m hm; first | omega | (rcases m with _ | _ | _ | _ | _ | _ | m <;> first | exact ⟨by decide, rfl⟩ | omega))⟩
        have hdc := h.dec hx
        rw [hd] at hdc
        exact hdc
      · have hk0 : A.kids.drop k = [] := by rw [List.drop_eq_nil_iff]; omega
        have e1 := h.letters; have e2 := h.more; have e3 := h.first; have e4 := h.rests
        rw [hk0, bfsF_nil] at e1 e2 e3 e4
        simp only [zPut, List.append_nil] at e1 e2 e3 e4
        have hpos : decide ((0 : Int) < ((0 : Nat) : Int)) = false := rfl
        repeat (first | apply Aw_seq | apply Aw_block | apply Aw_skip | apply Aw_exit | refine Aw_condt rfl ?_ | refine Aw_condf rfl ?_ | ((first | refine qr ?_ | refine qd (by kernel_rfl) (by kernel_rfl) ?_); simp only [go_sem, reduceEqDiff, reduceIte, reduceAdd, reduceMul, reduceSub, reduceLT, reduceLeDiff, Nat.reduceBEq, hk0, hpos]) | refine dk (by kernel_rfl) ?_)
        rw [← e1, ← e2, ← e3, ← e4]
        exact Aw_ret (retL (M := [2]) (.inl rfl) (by simp only [go_sem, reduceEqDiff, reduceIte, reduceAdd, reduceMul, reduceSub, reduceLT, reduceLeDiff, Nat.reduceBEq]; first | done | rfl) rfl rfl (by rfl) (by simp only [go_sem, reduceEqDiff, reduceIte, reduceAdd, reduceMul, reduceSub, reduceLT, reduceLeDiff, Nat.reduceBEq, Option.getD_some]; first | done | rfl | (and_intros <;> rfl)) (by decide) (by intro m hm; first | omega | (rcases m with _ | _ | _ | _ | _ | _ | m <;> first | exact ⟨by decide, rfl⟩ | omega)))
theorem sieveS_ac (keys : List ByteArray) (keep : Int) (hs : SmS keys) : AC Tryz.prog 70 [strsT keys, iT keep] noHp 0 ⟨.tup [sveT ((sieveM keys keep).getD zSve) (.d (.rs 1 (((sieveM keys keep).getD zSve).rests.map strD))), bT (sieveM keys keep).isSome], noHp, 0⟩ :=
  AC.settle0 [0] (sieve_ac keys keep hs) (.cons (.cons (.inl rfl) (.cons (.inl rfl) (.cons (.inl rfl) (.cons (SetC.row0 rfl rfl) (.cons (.inl rfl) .nil))))) (.cons (.inl rfl) .nil)) rfl
theorem ssieveS_ac (keys : List ByteArray) (keep : Int) (hs : SmS keys) : AC Tryz.prog 101 [strsT keys, iT keep] noHp 0 ⟨.tup [sveT ((sieveM keys keep).getD zSve) (.d (.rs 1 (((sieveM keys keep).getD zSve).rests.map strD))), bT (sieveM keys keep).isSome], noHp, 0⟩ :=
  AC.settle0 [0] (ssieve_ac keys keep hs) (.cons (.cons (.inl rfl) (.cons (.inl rfl) (.cons (.inl rfl) (.cons (SetC.row0 rfl rfl) (.cons (.inl rfl) .nil))))) (.cons (.inl rfl) .nil)) rfl
def tmAt (ts : List Int) (now : Int) (i : Nat) : Bool := match ts[i]? with
  | some t => inB 0 t now && (match i with
    | 0 => true
    | j + 1 => match ts[j]? with
      | some p => !decide (t ≤ p)
      | none => true)
  | none => true
def timesM (ts : List Int) (now : Int) : Bool := allI ts.length (tmAt ts now) && decide (ts.length ≤ 3)
theorem tm_bad {ts : List Int} {now : Int} {i : Nat} (hi : i < ts.length) (h : tmAt ts now i = false) : timesM ts now = false := by unfold timesM; rw [allI_f hi h]; rfl
theorem tm_end {ts : List Int} {now : Int} (h : ∀ j, j < ts.length → tmAt ts now j = true) : timesM ts now = decide ((ts.length : Int) ≤ 3) := by
  unfold timesM; rw [allI_t h, Bool.true_and]; exact decide_eq_decide.2 (by omega)
theorem timesOk_ac (ts : List Int) (now : Int) (hl : ts.length ≤ 1099511627776) : AC Tryz.prog 69 [intsT ts, iT now] noHp 0 ⟨.t (bT (timesM ts now)), noHp, 0⟩ := by
  refine AC_of Tryz.func69 rfl Tryz.ntmps69 Tryz.results69 (by kernel_rfl) rfl ?_
  simp only [List.zipIdx, List.map, Nat.zero_add, Nat.reduceAdd]
  repeat (first | apply Aw_seq | apply Aw_block | apply Aw_skip | apply Aw_exit | refine Aw_condt rfl ?_ | refine Aw_condf rfl ?_ | ((first | refine qr ?_ | refine qd (by kernel_rfl) (by kernel_rfl) ?_); simp only [go_sem, reduceEqDiff, reduceIte, reduceAdd, reduceMul, reduceSub, reduceLT, reduceLeDiff, Nat.reduceBEq]) | refine dk (by kernel_rfl) ?_)
  refine Aw.rw (rw0 (l' := [(9, .t (iT (0 : Nat))), (8, .t (iT ts.length)), (7, .t (intsT ts)), (1, .t (iT now)), (0, .t (intsT ts))]) (n' := 0) (by repeat (first | exact trivial | refine ⟨rfl, rfl, ?_⟩))) ?_
  refine Aw_loop0 (ι := { i : Nat // i ≤ ts.length ∧ (∀ j, j < i → tmAt ts now j = true) }) (fun q => [(9, .t (iT (q.1 : Nat))), (8, .t (iT ts.length)), (7, .t (intsT ts)), (1, .t (iT now)), (0, .t (intsT ts))]) (fun q => ts.length - q.1) ⟨0, Nat.zero_le _, fun j hj => absurd hj (by omega)⟩ ?_
  rintro ⟨i, hi, hp⟩
  dsimp only
  by_cases hlt : i < ts.length
  · have h1 : (i : Int) < (ts.length : Int) := by omega
    have h2 := wrap_succ hlt hl
    obtain ⟨t, hx⟩ : ∃ e, ts[i]? = some e := ⟨_, List.getElem?_eq_getElem hlt⟩
    cases c1 : inB 0 t now
    · repeat (first | apply Aw_seq | apply Aw_block | apply Aw_skip | apply Aw_exit | refine Aw_condt rfl ?_ | refine Aw_condf rfl ?_ | ((first | refine qr ?_ | refine qd (by kernel_rfl) (by kernel_rfl) ?_); simp only [go_sem, reduceEqDiff, reduceIte, reduceAdd, reduceMul, reduceSub, reduceLT, reduceLeDiff, Nat.reduceBEq, h1, hx, c1]) | refine dk (by kernel_rfl) ?_ | (refine qp (in_ac _ _ _) (by simp only [go_sem, reduceEqDiff, reduceIte, reduceAdd, reduceMul, reduceSub, reduceLT, reduceLeDiff, Nat.reduceBEq, h1, hx, c1]; first | done | rfl) rfl (by simp only [go_sem, Nat.reduceLT]) rfl rfl ?_; simp only [go_sem, reduceEqDiff, reduceIte, reduceAdd, reduceMul, reduceSub, reduceLT, reduceLeDiff, Nat.reduceBEq, h1, hx, c1]))
      exact Aw_ret (ret0 (.inl rfl) (by simp only [go_sem, reduceEqDiff, reduceIte, reduceAdd, reduceMul, reduceSub, reduceLT, reduceLeDiff, Nat.reduceBEq]; rfl) (by rw [tm_bad hlt (by simp [tmAt, hx, c1])]) rfl)
    · rcases i with _ | j
      · have h5 : decide ((0 : Int) < ((0 : Nat) : Int)) = false := rfl
        repeat (first | apply Aw_seq | apply Aw_block | apply Aw_skip | apply Aw_exit | refine Aw_condt rfl ?_ | refine Aw_condf rfl ?_ | ((first | refine qr ?_ | refine qd (by kernel_rfl) (by kernel_rfl) ?_); simp only [go_sem, reduceEqDiff, reduceIte, reduceAdd, reduceMul, reduceSub, reduceLT, reduceLeDiff, Nat.reduceBEq, h1, hx, c1, h2, h5]) | refine dk (by kernel_rfl) ?_ | (refine qp (in_ac _ _ _) (by simp only [go_sem, reduceEqDiff, reduceIte, reduceAdd, reduceMul, reduceSub, reduceLT, reduceLeDiff, Nat.reduceBEq, h1, hx, c1, h2, h5]; first | done | rfl) rfl (by simp only [go_sem, Nat.reduceLT]) rfl rfl ?_; simp only [go_sem, reduceEqDiff, reduceIte, reduceAdd, reduceMul, reduceSub, reduceLT, reduceLeDiff, Nat.reduceBEq, h1, hx, c1, h2, h5]))
        exact ⟨⟨0 + 1, by omega, upto_succ hp (by simp [tmAt, hx, c1])⟩, (by simp only []; omega), rw0 (by repeat (first | exact trivial | refine ⟨rfl, rfl, ?_⟩))⟩
      · have h5 : decide ((0 : Int) < ((j + 1 : Nat) : Int)) = true := decide_eq_true (by omega)
        have h6 := wrap_pred (i := j) (by omega) hl
        obtain ⟨p, hy⟩ : ∃ e, ts[j]? = some e := ⟨_, List.getElem?_eq_getElem (by omega)⟩
        cases c2 : decide (t ≤ p)
        · repeat (first | apply Aw_seq | apply Aw_block | apply Aw_skip | apply Aw_exit | refine Aw_condt rfl ?_ | refine Aw_condf rfl ?_ | ((first | refine qr ?_ | refine qd (by kernel_rfl) (by kernel_rfl) ?_); simp only [go_sem, reduceEqDiff, reduceIte, reduceAdd, reduceMul, reduceSub, reduceLT, reduceLeDiff, Nat.reduceBEq, h1, hx, c1, h2, h5, h6, hy, c2]) | refine dk (by kernel_rfl) ?_ | (refine qp (in_ac _ _ _) (by simp only [go_sem, reduceEqDiff, reduceIte, reduceAdd, reduceMul, reduceSub, reduceLT, reduceLeDiff, Nat.reduceBEq, h1, hx, c1, h2, h5, h6, hy, c2]; first | done | rfl) rfl (by simp only [go_sem, Nat.reduceLT]) rfl rfl ?_; simp only [go_sem, reduceEqDiff, reduceIte, reduceAdd, reduceMul, reduceSub, reduceLT, reduceLeDiff, Nat.reduceBEq, h1, hx, c1, h2, h5, h6, hy, c2]))
          exact ⟨⟨j + 1 + 1, by omega, upto_succ hp (by simp [tmAt, hx, hy, c1]; simpa using c2)⟩, (by simp only []; omega), rw0 (by repeat (first | exact trivial | refine ⟨rfl, rfl, ?_⟩))⟩
        · repeat (first | apply Aw_seq | apply Aw_block | apply Aw_skip | apply Aw_exit | refine Aw_condt rfl ?_ | refine Aw_condf rfl ?_ | ((first | refine qr ?_ | refine qd (by kernel_rfl) (by kernel_rfl) ?_); simp only [go_sem, reduceEqDiff, reduceIte, reduceAdd, reduceMul, reduceSub, reduceLT, reduceLeDiff, Nat.reduceBEq, h1, hx, c1, h2, h5, h6, hy, c2]) | refine dk (by kernel_rfl) ?_ | (refine qp (in_ac _ _ _) (by simp only [go_sem, reduceEqDiff, reduceIte, reduceAdd, reduceMul, reduceSub, reduceLT, reduceLeDiff, Nat.reduceBEq, h1, hx, c1, h2, h5, h6, hy, c2]; first | done | rfl) rfl (by simp only [go_sem, Nat.reduceLT]) rfl rfl ?_; simp only [go_sem, reduceEqDiff, reduceIte, reduceAdd, reduceMul, reduceSub, reduceLT, reduceLeDiff, Nat.reduceBEq, h1, hx, c1, h2, h5, h6, hy, c2]))
          exact Aw_ret (ret0 (.inl rfl) (by simp only [go_sem, reduceEqDiff, reduceIte, reduceAdd, reduceMul, reduceSub, reduceLT, reduceLeDiff, Nat.reduceBEq]; rfl) (by rw [tm_bad hlt (by simp [tmAt, hx, hy, c1]; simpa using c2)]) rfl)
  · have h1 : ¬ (i : Int) < (ts.length : Int) := by omega
    have he : i = ts.length := by omega
    subst he
    repeat (first | apply Aw_seq | apply Aw_block | apply Aw_skip | apply Aw_exit | refine Aw_condt rfl ?_ | refine Aw_condf rfl ?_ | ((first | refine qr ?_ | refine qd (by kernel_rfl) (by kernel_rfl) ?_); simp only [go_sem, reduceEqDiff, reduceIte, reduceAdd, reduceMul, reduceSub, reduceLT, reduceLeDiff, Nat.reduceBEq, h1]) | refine dk (by kernel_rfl) ?_)
    exact Aw_ret (ret0 (.inl rfl) (by simp only [go_sem, reduceEqDiff, reduceIte, reduceAdd, reduceMul, reduceSub, reduceLT, reduceLeDiff, Nat.reduceBEq]; rfl) (by rw [tm_end hp]) rfl)
theorem l12Times_ac (ts : List Int) (now : Int) (hl : ts.length ≤ 1099511627776) : AC Tryz.prog 54 [intsT ts, iT now] noHp 0 ⟨.t (bT (timesM ts now)), noHp, 0⟩ := by
  refine AC_of Tryz.func54 rfl Tryz.ntmps54 Tryz.results54 (by kernel_rfl) rfl ?_
  simp only [List.zipIdx, List.map, Nat.zero_add, Nat.reduceAdd]
  repeat (first | apply Aw_seq | apply Aw_block | apply Aw_skip | apply Aw_exit | refine Aw_condt rfl ?_ | refine Aw_condf rfl ?_ | ((first | refine qr ?_ | refine qd (by kernel_rfl) (by kernel_rfl) ?_); simp only [go_sem, reduceEqDiff, reduceIte, reduceAdd, reduceMul, reduceSub, reduceLT, reduceLeDiff, Nat.reduceBEq]) | refine dk (by kernel_rfl) ?_)
  refine Aw.rw (rw0 (l' := [(5, .t (iT (0 : Nat))), (1, .t (iT now)), (0, .t (intsT ts))]) (n' := 0) (by repeat (first | exact trivial | refine ⟨rfl, rfl, ?_⟩))) ?_
  refine Aw_loop0 (ι := { i : Nat // i ≤ ts.length ∧ (∀ j, j < i → tmAt ts now j = true) }) (fun q => [(5, .t (iT (q.1 : Nat))), (1, .t (iT now)), (0, .t (intsT ts))]) (fun q => ts.length - q.1) ⟨0, Nat.zero_le _, fun j hj => absurd hj (by omega)⟩ ?_
  rintro ⟨i, hi, hp⟩
  dsimp only
  by_cases hlt : i < ts.length
  · have h1 : (i : Int) < (ts.length : Int) := by omega
    have h2 := wrap_succ hlt hl
    obtain ⟨t, hx⟩ : ∃ e, ts[i]? = some e := ⟨_, List.getElem?_eq_getElem hlt⟩
    cases c1 : inB 0 t now
    · repeat (first | apply Aw_seq | apply Aw_block | apply Aw_skip | apply Aw_exit | refine Aw_condt rfl ?_ | refine Aw_condf rfl ?_ | ((first | refine qr ?_ | refine qd (by kernel_rfl) (by kernel_rfl) ?_); simp only [go_sem, reduceEqDiff, reduceIte, reduceAdd, reduceMul, reduceSub, reduceLT, reduceLeDiff, Nat.reduceBEq, h1, hx, c1]) | refine dk (by kernel_rfl) ?_ | (refine qp (l6In_ac _ _ _) (by simp only [go_sem, reduceEqDiff, reduceIte, reduceAdd, reduceMul, reduceSub, reduceLT, reduceLeDiff, Nat.reduceBEq, h1, hx, c1]; first | done | rfl) rfl (by simp only [go_sem, Nat.reduceLT]) rfl rfl ?_; simp only [go_sem, reduceEqDiff, reduceIte, reduceAdd, reduceMul, reduceSub, reduceLT, reduceLeDiff, Nat.reduceBEq, h1, hx, c1]))
      exact Aw_ret (ret0 (.inl rfl) (by simp only [go_sem, reduceEqDiff, reduceIte, reduceAdd, reduceMul, reduceSub, reduceLT, reduceLeDiff, Nat.reduceBEq]; rfl) (by rw [tm_bad hlt (by simp [tmAt, hx, c1])]) rfl)
    · rcases i with _ | j
      · have h5 : decide ((0 : Int) < ((0 : Nat) : Int)) = false := rfl
        repeat (first | apply Aw_seq | apply Aw_block | apply Aw_skip | apply Aw_exit | refine Aw_condt rfl ?_ | refine Aw_condf rfl ?_ | ((first | refine qr ?_ | refine qd (by kernel_rfl) (by kernel_rfl) ?_); simp only [go_sem, reduceEqDiff, reduceIte, reduceAdd, reduceMul, reduceSub, reduceLT, reduceLeDiff, Nat.reduceBEq, h1, hx, c1, h2, h5]) | refine dk (by kernel_rfl) ?_ | (refine qp (l6In_ac _ _ _) (by simp only [go_sem, reduceEqDiff, reduceIte, reduceAdd, reduceMul, reduceSub, reduceLT, reduceLeDiff, Nat.reduceBEq, h1, hx, c1, h2, h5]; first | done | rfl) rfl (by simp only [go_sem, Nat.reduceLT]) rfl rfl ?_; simp only [go_sem, reduceEqDiff, reduceIte, reduceAdd, reduceMul, reduceSub, reduceLT, reduceLeDiff, Nat.reduceBEq, h1, hx, c1, h2, h5]))
        exact ⟨⟨0 + 1, by omega, upto_succ hp (by simp [tmAt, hx, c1])⟩, (by simp only []; omega), rw0 (by repeat (first | exact trivial | refine ⟨rfl, rfl, ?_⟩))⟩
      · have h5 : decide ((0 : Int) < ((j + 1 : Nat) : Int)) = true := decide_eq_true (by omega)
        have h6 := wrap_pred (i := j) (by omega) hl
        obtain ⟨p, hy⟩ : ∃ e, ts[j]? = some e := ⟨_, List.getElem?_eq_getElem (by omega)⟩
        cases c2 : decide (t ≤ p)
        · repeat (first | apply Aw_seq | apply Aw_block | apply Aw_skip | apply Aw_exit | refine Aw_condt rfl ?_ | refine Aw_condf rfl ?_ | ((first | refine qr ?_ | refine qd (by kernel_rfl) (by kernel_rfl) ?_); simp only [go_sem, reduceEqDiff, reduceIte, reduceAdd, reduceMul, reduceSub, reduceLT, reduceLeDiff, Nat.reduceBEq, h1, hx, c1, h2, h5, h6, hy, c2]) | refine dk (by kernel_rfl) ?_ | (refine qp (l6In_ac _ _ _) (by simp only [go_sem, reduceEqDiff, reduceIte, reduceAdd, reduceMul, reduceSub, reduceLT, reduceLeDiff, Nat.reduceBEq, h1, hx, c1, h2, h5, h6, hy, c2]; first | done | rfl) rfl (by simp only [go_sem, Nat.reduceLT]) rfl rfl ?_; simp only [go_sem, reduceEqDiff, reduceIte, reduceAdd, reduceMul, reduceSub, reduceLT, reduceLeDiff, Nat.reduceBEq, h1, hx, c1, h2, h5, h6, hy, c2]))
          exact ⟨⟨j + 1 + 1, by omega, upto_succ hp (by simp [tmAt, hx, hy, c1]; simpa using c2)⟩, (by simp only []; omega), rw0 (by repeat (first | exact trivial | refine ⟨rfl, rfl, ?_⟩))⟩
        · repeat (first | apply Aw_seq | apply Aw_block | apply Aw_skip | apply Aw_exit | refine Aw_condt rfl ?_ | refine Aw_condf rfl ?_ | ((first | refine qr ?_ | refine qd (by kernel_rfl) (by kernel_rfl) ?_); simp only [go_sem, reduceEqDiff, reduceIte, reduceAdd, reduceMul, reduceSub, reduceLT, reduceLeDiff, Nat.reduceBEq, h1, hx, c1, h2, h5, h6, hy, c2]) | refine dk (by kernel_rfl) ?_ | (refine qp (l6In_ac _ _ _) (by simp only [go_sem, reduceEqDiff, reduceIte, reduceAdd, reduceMul, reduceSub, reduceLT, reduceLeDiff, Nat.reduceBEq, h1, hx, c1, h2, h5, h6, hy, c2]; first | done | rfl) rfl (by simp only [go_sem, Nat.reduceLT]) rfl rfl ?_; simp only [go_sem, reduceEqDiff, reduceIte, reduceAdd, reduceMul, reduceSub, reduceLT, reduceLeDiff, Nat.reduceBEq, h1, hx, c1, h2, h5, h6, hy, c2]))
          exact Aw_ret (ret0 (.inl rfl) (by simp only [go_sem, reduceEqDiff, reduceIte, reduceAdd, reduceMul, reduceSub, reduceLT, reduceLeDiff, Nat.reduceBEq]; rfl) (by rw [tm_bad hlt (by simp [tmAt, hx, hy, c1]; simpa using c2)]) rfl)
  · have h1 : ¬ (i : Int) < (ts.length : Int) := by omega
    have he : i = ts.length := by omega
    subst he
    repeat (first | apply Aw_seq | apply Aw_block | apply Aw_skip | apply Aw_exit | refine Aw_condt rfl ?_ | refine Aw_condf rfl ?_ | ((first | refine qr ?_ | refine qd (by kernel_rfl) (by kernel_rfl) ?_); simp only [go_sem, reduceEqDiff, reduceIte, reduceAdd, reduceMul, reduceSub, reduceLT, reduceLeDiff, Nat.reduceBEq, h1]) | refine dk (by kernel_rfl) ?_)
    exact Aw_ret (ret0 (.inl rfl) (by simp only [go_sem, reduceEqDiff, reduceIte, reduceAdd, reduceMul, reduceSub, reduceLT, reduceLeDiff, Nat.reduceBEq]; rfl) (by rw [tm_end hp]) rfl)
theorem ls_eq {α : Type} {a b : List α} (hl : a.length = b.length) (h : ∀ j, j < a.length → a[j]? = b[j]?) : a = b := by
  apply List.ext_getElem? 
  intro i
  rcases Nat.lt_or_ge i a.length with hi | hi
  · exact h i hi
  · rw [List.getElem?_eq_none hi, List.getElem?_eq_none (by omega)]
theorem equal_ac (a b : List ByteArray) (ha : a.length ≤ 1099511627776) : AC Tryz.prog 111 [strsT a, strsT b] noHp 0 ⟨.t (bT (decide (a = b))), noHp, 0⟩ := by
  refine AC_of Tryz.func111 rfl Tryz.ntmps111 Tryz.results111 (by kernel_rfl) rfl ?_
  simp only [List.zipIdx, List.map, Nat.zero_add, Nat.reduceAdd]
  cases c0 : decide ((a.length : Int) = (b.length : Int))
  · repeat (first | apply Aw_seq | apply Aw_block | apply Aw_skip | apply Aw_exit | refine Aw_condt rfl ?_ | refine Aw_condf rfl ?_ | ((first | refine qr ?_ | refine qd (by kernel_rfl) (by kernel_rfl) ?_); simp only [go_sem, reduceEqDiff, reduceIte, reduceAdd, reduceMul, reduceSub, reduceLT, reduceLeDiff, Nat.reduceBEq, c0]) | refine dk (by kernel_rfl) ?_)
    exact Aw_ret (ret0 (.inl rfl) (by simp only [go_sem, reduceEqDiff, reduceIte, reduceAdd, reduceMul, reduceSub, reduceLT, reduceLeDiff, Nat.reduceBEq]; rfl) (by rw [decide_eq_false (fun e => by rw [e] at c0; simp at c0)]) rfl)
  · have hl : a.length = b.length := by have := of_decide_eq_true c0; omega
    repeat (first | apply Aw_seq | apply Aw_block | apply Aw_skip | apply Aw_exit | refine Aw_condt rfl ?_ | refine Aw_condf rfl ?_ | ((first | refine qr ?_ | refine qd (by kernel_rfl) (by kernel_rfl) ?_); simp only [go_sem, reduceEqDiff, reduceIte, reduceAdd, reduceMul, reduceSub, reduceLT, reduceLeDiff, Nat.reduceBEq, c0]) | refine dk (by kernel_rfl) ?_)
    refine Aw.rw (rw0 (l' := [(13, .t (iT (0 : Nat))), (12, .t (iT a.length)), (1, .t (strsT b)), (0, .t (strsT a))]) (n' := 0) (by repeat (first | exact trivial | refine ⟨rfl, rfl, ?_⟩))) ?_
    refine Aw_loop0 (ι := { i : Nat // i ≤ a.length ∧ (∀ j, j < i → a[j]? = b[j]?) }) (fun q => [(13, .t (iT (q.1 : Nat))), (12, .t (iT a.length)), (1, .t (strsT b)), (0, .t (strsT a))]) (fun q => a.length - q.1) ⟨0, Nat.zero_le _, fun j hj => absurd hj (by omega)⟩ ?_
    rintro ⟨i, hi, hp⟩
    dsimp only
    by_cases hlt : i < a.length
    · have h1 : (i : Int) < (a.length : Int) := by omega
      have h2 := wrap_succ hlt ha
      obtain ⟨x, hx⟩ : ∃ e, a[i]? = some e := ⟨_, List.getElem?_eq_getElem hlt⟩
      obtain ⟨y, hy⟩ : ∃ e, b[i]? = some e := ⟨_, List.getElem?_eq_getElem (by omega)⟩
      cases c1 : decide (x = y)
      · repeat (first | apply Aw_seq | apply Aw_block | apply Aw_skip | apply Aw_exit | refine Aw_condt rfl ?_ | refine Aw_condf rfl ?_ | ((first | refine qr ?_ | refine qd (by kernel_rfl) (by kernel_rfl) ?_); simp only [go_sem, reduceEqDiff, reduceIte, reduceAdd, reduceMul, reduceSub, reduceLT, reduceLeDiff, Nat.reduceBEq, h1, hx, hy, h2, c1]) | refine dk (by kernel_rfl) ?_)
        exact Aw_ret (ret0 (.inl rfl) (by simp only [go_sem, reduceEqDiff, reduceIte, reduceAdd, reduceMul, reduceSub, reduceLT, reduceLeDiff, Nat.reduceBEq]; rfl) (by rw [decide_eq_false (fun e => by rw [e, hy] at hx; rw [Option.some.inj hx] at c1; simp at c1)]) rfl)
      · repeat (first | apply Aw_seq | apply Aw_block | apply Aw_skip | apply Aw_exit | refine Aw_condt rfl ?_ | refine Aw_condf rfl ?_ | ((first | refine qr ?_ | refine qd (by kernel_rfl) (by kernel_rfl) ?_); simp only [go_sem, reduceEqDiff, reduceIte, reduceAdd, reduceMul, reduceSub, reduceLT, reduceLeDiff, Nat.reduceBEq, h1, hx, hy, h2, c1]) | refine dk (by kernel_rfl) ?_)
        exact ⟨⟨i + 1, by omega, fun j hj => by rcases Nat.lt_succ_iff_lt_or_eq.1 hj with h | rfl; exact hp j h; rw [hx, hy, of_decide_eq_true c1]⟩, (by simp only []; omega), rw0 (by repeat (first | exact trivial | refine ⟨rfl, rfl, ?_⟩))⟩
    · have h1 : ¬ (i : Int) < (a.length : Int) := by omega
      have he : i = a.length := by omega
      subst he
      repeat (first | apply Aw_seq | apply Aw_block | apply Aw_skip | apply Aw_exit | refine Aw_condt rfl ?_ | refine Aw_condf rfl ?_ | ((first | refine qr ?_ | refine qd (by kernel_rfl) (by kernel_rfl) ?_); simp only [go_sem, reduceEqDiff, reduceIte, reduceAdd, reduceMul, reduceSub, reduceLT, reduceLeDiff, Nat.reduceBEq, h1]) | refine dk (by kernel_rfl) ?_)
      exact Aw_ret (ret0 (.inl rfl) (by simp only [go_sem, reduceEqDiff, reduceIte, reduceAdd, reduceMul, reduceSub, reduceLT, reduceLeDiff, Nat.reduceBEq]; rfl) (by rw [decide_eq_true (ls_eq hl hp)]) rfl)
theorem l3Sames_ac (a b : List ByteArray) (ha : a.length ≤ 1099511627776) : AC Tryz.prog 102 [strsT a, strsT b] noHp 0 ⟨.t (bT (decide (a = b))), noHp, 0⟩ := by
  refine AC_of Tryz.func102 rfl Tryz.ntmps102 Tryz.results102 (by kernel_rfl) rfl ?_
  simp only [List.zipIdx, List.map, Nat.zero_add, Nat.reduceAdd]
  cases c0 : decide ((a.length : Int) = (b.length : Int))
  · repeat (first | apply Aw_seq | apply Aw_block | apply Aw_skip | apply Aw_exit | refine Aw_condt rfl ?_ | refine Aw_condf rfl ?_ | ((first | refine qr ?_ | refine qd (by kernel_rfl) (by kernel_rfl) ?_); simp only [go_sem, reduceEqDiff, reduceIte, reduceAdd, reduceMul, reduceSub, reduceLT, reduceLeDiff, Nat.reduceBEq, c0]) | refine dk (by kernel_rfl) ?_)
    exact Aw_ret (ret0 (.inl rfl) (by simp only [go_sem, reduceEqDiff, reduceIte, reduceAdd, reduceMul, reduceSub, reduceLT, reduceLeDiff, Nat.reduceBEq]; rfl) (by rw [decide_eq_false (fun e => by rw [e] at c0; simp at c0)]) rfl)
  · have hl : a.length = b.length := by have := of_decide_eq_true c0; omega
    repeat (first | apply Aw_seq | apply Aw_block | apply Aw_skip | apply Aw_exit | refine Aw_condt rfl ?_ | refine Aw_condf rfl ?_ | ((first | refine qr ?_ | refine qd (by kernel_rfl) (by kernel_rfl) ?_); simp only [go_sem, reduceEqDiff, reduceIte, reduceAdd, reduceMul, reduceSub, reduceLT, reduceLeDiff, Nat.reduceBEq, c0]) | refine dk (by kernel_rfl) ?_)
    refine Aw.rw (rw0 (l' := [(5, .t (iT (0 : Nat))), (1, .t (strsT b)), (0, .t (strsT a))]) (n' := 0) (by repeat (first | exact trivial | refine ⟨rfl, rfl, ?_⟩))) ?_
    refine Aw_loop0 (ι := { i : Nat // i ≤ a.length ∧ (∀ j, j < i → a[j]? = b[j]?) }) (fun q => [(5, .t (iT (q.1 : Nat))), (1, .t (strsT b)), (0, .t (strsT a))]) (fun q => a.length - q.1) ⟨0, Nat.zero_le _, fun j hj => absurd hj (by omega)⟩ ?_
    rintro ⟨i, hi, hp⟩
    dsimp only
    by_cases hlt : i < a.length
    · have h1 : (i : Int) < (a.length : Int) := by omega
      have h2 := wrap_succ hlt ha
      obtain ⟨x, hx⟩ : ∃ e, a[i]? = some e := ⟨_, List.getElem?_eq_getElem hlt⟩
      obtain ⟨y, hy⟩ : ∃ e, b[i]? = some e := ⟨_, List.getElem?_eq_getElem (by omega)⟩
      cases c1 : decide (x = y)
      · repeat (first | apply Aw_seq | apply Aw_block | apply Aw_skip | apply Aw_exit | refine Aw_condt rfl ?_ | refine Aw_condf rfl ?_ | ((first | refine qr ?_ | refine qd (by kernel_rfl) (by kernel_rfl) ?_); simp only [go_sem, reduceEqDiff, reduceIte, reduceAdd, reduceMul, reduceSub, reduceLT, reduceLeDiff, Nat.reduceBEq, h1, hx, hy, h2, c1]) | refine dk (by kernel_rfl) ?_)
        exact Aw_ret (ret0 (.inl rfl) (by simp only [go_sem, reduceEqDiff, reduceIte, reduceAdd, reduceMul, reduceSub, reduceLT, reduceLeDiff, Nat.reduceBEq]; rfl) (by rw [decide_eq_false (fun e => by rw [e, hy] at hx; rw [Option.some.inj hx] at c1; simp at c1)]) rfl)
      · repeat (first | apply Aw_seq | apply Aw_block | apply Aw_skip | apply Aw_exit | refine Aw_condt rfl ?_ | refine Aw_condf rfl ?_ | ((first | refine qr ?_ | refine qd (by kernel_rfl) (by kernel_rfl) ?_); simp only [go_sem, reduceEqDiff, reduceIte, reduceAdd, reduceMul, reduceSub, reduceLT, reduceLeDiff, Nat.reduceBEq, h1, hx, hy, h2, c1]) | refine dk (by kernel_rfl) ?_)
        exact ⟨⟨i + 1, by omega, fun j hj => by rcases Nat.lt_succ_iff_lt_or_eq.1 hj with h | rfl; exact hp j h; rw [hx, hy, of_decide_eq_true c1]⟩, (by simp only []; omega), rw0 (by repeat (first | exact trivial | refine ⟨rfl, rfl, ?_⟩))⟩
    · have h1 : ¬ (i : Int) < (a.length : Int) := by omega
      have he : i = a.length := by omega
      subst he
      repeat (first | apply Aw_seq | apply Aw_block | apply Aw_skip | apply Aw_exit | refine Aw_condt rfl ?_ | refine Aw_condf rfl ?_ | ((first | refine qr ?_ | refine qd (by kernel_rfl) (by kernel_rfl) ?_); simp only [go_sem, reduceEqDiff, reduceIte, reduceAdd, reduceMul, reduceSub, reduceLT, reduceLeDiff, Nat.reduceBEq, h1]) | refine dk (by kernel_rfl) ?_)
      exact Aw_ret (ret0 (.inl rfl) (by simp only [go_sem, reduceEqDiff, reduceIte, reduceAdd, reduceMul, reduceSub, reduceLT, reduceLeDiff, Nat.reduceBEq]; rfl) (by rw [decide_eq_true (ls_eq hl hp)]) rfl)
theorem wrap_room {l : Nat} (h : l ≤ 1000) : IntKind.i64.wrap (8 * ((l + 1 : Nat) : Int)) = ((8 * (l + 1) : Nat) : Int) := by
  rw [show 8 * ((l + 1 : Nat) : Int) = ((8 * (l + 1) : Nat) : Int) by omega]; exact wrap_nat (by omega)
theorem room_ac (l : Nat) (h : l ≤ 1000) : AC Tryz.prog 71 [iT l] noHp 0 ⟨.t (iT ((8 * (l + 1) : Nat) : Int)), noHp, 0⟩ := by
  have h1 := wrap_succ (i := l) (m := 2000) (by omega) (by omega)
  have h2 := wrap_room h
  refine AC_of Tryz.func71 rfl Tryz.ntmps71 Tryz.results71 (by kernel_rfl) rfl ?_
  simp only [List.zipIdx, List.map, Nat.zero_add, Nat.reduceAdd]
  repeat (first | apply Aw_seq | apply Aw_block | apply Aw_skip | apply Aw_exit | refine Aw_condt rfl ?_ | refine Aw_condf rfl ?_ | ((first | refine qr ?_ | refine qd (by kernel_rfl) (by kernel_rfl) ?_); simp only [go_sem, reduceEqDiff, reduceIte, reduceAdd, reduceMul, reduceSub, reduceLT, reduceLeDiff, Nat.reduceBEq, h1, h2]) | refine dk (by kernel_rfl) ?_)
  exact Aw_ret (ret0 (.inl rfl) (by simp only [go_sem, reduceEqDiff, reduceIte, reduceAdd, reduceMul, reduceSub, reduceLT, reduceLeDiff, Nat.reduceBEq]; rfl) (by rfl) rfl)
theorem l12Size_ac (l : Nat) (h : l ≤ 1000) : AC Tryz.prog 100 [iT l] noHp 0 ⟨.t (iT ((8 * (l + 1) : Nat) : Int)), noHp, 0⟩ := by
  have h1 := wrap_succ (i := l) (m := 2000) (by omega) (by omega)
  have h2 := wrap_room h
  refine AC_of Tryz.func100 rfl Tryz.ntmps100 Tryz.results100 (by kernel_rfl) rfl ?_
  simp only [List.zipIdx, List.map, Nat.zero_add, Nat.reduceAdd]
  repeat (first | apply Aw_seq | apply Aw_block | apply Aw_skip | apply Aw_exit | refine Aw_condt rfl ?_ | refine Aw_condf rfl ?_ | ((first | refine qr ?_ | refine qd (by kernel_rfl) (by kernel_rfl) ?_); simp only [go_sem, reduceEqDiff, reduceIte, reduceAdd, reduceMul, reduceSub, reduceLT, reduceLeDiff, Nat.reduceBEq, h1, h2]) | refine dk (by kernel_rfl) ?_)
  exact Aw_ret (ret0 (.inl rfl) (by simp only [go_sem, reduceEqDiff, reduceIte, reduceAdd, reduceMul, reduceSub, reduceLT, reduceLeDiff, Nat.reduceBEq]; rfl) (by rfl) rfl)
abbrev sveP (s : Sve) : TV := sveT s (.d (.rs 1 (s.rests.map strD)))
def sveEq (a b : Sve) : Bool := decide (a.letters = b.letters) && decide (a.more = b.more) && decide (a.first = b.first) && decide (a.keep = b.keep) && decide (a.rests = b.rests)
theorem sveEq_iff {a b : Sve} : sveEq a b = true ↔ a = b := by
  unfold sveEq
  cases a; cases b
  simp only [Bool.and_eq_true, decide_eq_true_eq, Sve.mk.injEq]
  constructor
  · rintro ⟨⟨⟨⟨h1, h2⟩, h3⟩, h4⟩, h5⟩; exact ⟨h1, h2, h3, h5, h4⟩
  · rintro ⟨h1, h2, h3, h5, h4⟩; exact ⟨⟨⟨⟨h1, h2⟩, h3⟩, h4⟩, h5⟩
theorem same_ac (a b : Sve) (hl : a.rests.length ≤ 1099511627776) : AC Tryz.prog 72 [sveP a, sveP b] noHp 0 ⟨.t (bT (sveEq a b)), noHp, 0⟩ := by
  refine AC_of Tryz.func72 rfl Tryz.ntmps72 Tryz.results72 (by kernel_rfl) rfl ?_
  simp only [List.zipIdx, List.map, Nat.zero_add, Nat.reduceAdd]
  cases c1 : decide (a.letters = b.letters)
  · repeat (first | apply Aw_seq | apply Aw_block | apply Aw_skip | apply Aw_exit | refine Aw_condt rfl ?_ | refine Aw_condf rfl ?_ | ((first | refine qr ?_ | refine qd (by kernel_rfl) (by kernel_rfl) ?_); simp only [go_sem, reduceEqDiff, reduceIte, reduceAdd, reduceMul, reduceSub, reduceLT, reduceLeDiff, Nat.reduceBEq, c1]) | refine dk (by kernel_rfl) ?_)
    exact Aw_ret (ret0 (.inl rfl) (by simp only [go_sem, reduceEqDiff, reduceIte, reduceAdd, reduceMul, reduceSub, reduceLT, reduceLeDiff, Nat.reduceBEq]; rfl) (by unfold sveEq; simp [c1]) rfl)
  cases c2 : decide (a.more = b.more)
  · repeat (first | apply Aw_seq | apply Aw_block | apply Aw_skip | apply Aw_exit | refine Aw_condt rfl ?_ | refine Aw_condf rfl ?_ | ((first | refine qr ?_ | refine qd (by kernel_rfl) (by kernel_rfl) ?_); simp only [go_sem, reduceEqDiff, reduceIte, reduceAdd, reduceMul, reduceSub, reduceLT, reduceLeDiff, Nat.reduceBEq, c1, c2]) | refine dk (by kernel_rfl) ?_)
    exact Aw_ret (ret0 (.inl rfl) (by simp only [go_sem, reduceEqDiff, reduceIte, reduceAdd, reduceMul, reduceSub, reduceLT, reduceLeDiff, Nat.reduceBEq]; rfl) (by unfold sveEq; simp [c1, c2]) rfl)
  cases c3 : decide (a.first = b.first)
  · repeat (first | apply Aw_seq | apply Aw_block | apply Aw_skip | apply Aw_exit | refine Aw_condt rfl ?_ | refine Aw_condf rfl ?_ | ((first | refine qr ?_ | refine qd (by kernel_rfl) (by kernel_rfl) ?_); simp only [go_sem, reduceEqDiff, reduceIte, reduceAdd, reduceMul, reduceSub, reduceLT, reduceLeDiff, Nat.reduceBEq, c1, c2, c3]) | refine dk (by kernel_rfl) ?_)
    exact Aw_ret (ret0 (.inl rfl) (by simp only [go_sem, reduceEqDiff, reduceIte, reduceAdd, reduceMul, reduceSub, reduceLT, reduceLeDiff, Nat.reduceBEq]; rfl) (by unfold sveEq; simp [c1, c2, c3]) rfl)
  cases c4 : decide (a.keep = b.keep)
  · repeat (first | apply Aw_seq | apply Aw_block | apply Aw_skip | apply Aw_exit | refine Aw_condt rfl ?_ | refine Aw_condf rfl ?_ | ((first | refine qr ?_ | refine qd (by kernel_rfl) (by kernel_rfl) ?_); simp only [go_sem, reduceEqDiff, reduceIte, reduceAdd, reduceMul, reduceSub, reduceLT, reduceLeDiff, Nat.reduceBEq, c1, c2, c3, c4]) | refine dk (by kernel_rfl) ?_)
    exact Aw_ret (ret0 (.inl rfl) (by simp only [go_sem, reduceEqDiff, reduceIte, reduceAdd, reduceMul, reduceSub, reduceLT, reduceLeDiff, Nat.reduceBEq]; rfl) (by unfold sveEq; simp [c1, c2, c3, c4]) rfl)
  repeat (first | apply Aw_seq | apply Aw_block | apply Aw_skip | apply Aw_exit | refine Aw_condt rfl ?_ | refine Aw_condf rfl ?_ | ((first | refine qr ?_ | refine qd (by kernel_rfl) (by kernel_rfl) ?_); simp only [go_sem, reduceEqDiff, reduceIte, reduceAdd, reduceMul, reduceSub, reduceLT, reduceLeDiff, Nat.reduceBEq, c1, c2, c3, c4]) | refine dk (by kernel_rfl) ?_ | (refine qp (equal_ac a.rests b.rests hl) (by simp only [go_sem, reduceEqDiff, reduceIte, reduceAdd, reduceMul, reduceSub, reduceLT, reduceLeDiff, Nat.reduceBEq, c1, c2, c3, c4]; first | done | rfl) rfl (by simp only [go_sem, Nat.reduceLT]) rfl rfl ?_; simp only [go_sem, reduceEqDiff, reduceIte, reduceAdd, reduceMul, reduceSub, reduceLT, reduceLeDiff, Nat.reduceBEq, c1, c2, c3, c4]))
  exact Aw_ret (ret0 (.inl rfl) (by simp only [go_sem, reduceEqDiff, reduceIte, reduceAdd, reduceMul, reduceSub, reduceLT, reduceLeDiff, Nat.reduceBEq]; rfl) (by unfold sveEq; simp [c1, c2, c3, c4]) rfl)
/-- An entry, as it lies in a variable. -/
def enO (e : Ent) : Obj := ⟨53, 4, false, [(entD e).map .d]⟩
@[go_sem] theorem r_enO (e : Ent) : enO e = ⟨53, 4, false, [[.d (.s (.string e.key)), .d (.s (.int .i64 e.val)), .d (.s (.bool e.gone)), .d (.s (.int .i64 e.time))]]⟩ := rfl
def older (x y : Ent) : Bool := decide (x.key = y.key) && decide (x.time ≤ y.time)
def newerM (a b : List Ent) : Bool := a.all fun x => b.all fun y => !older x y
theorem newer_bad {a b : List Ent} {x y : Ent} {i j : Nat} (hx : a[i]? = some x) (hy : b[j]? = some y) (h : older x y = true) : newerM a b = false := by
  unfold newerM
  rw [List.all_eq_false]
  refine ⟨x, List.mem_of_getElem? hx, ?_⟩
  rw [Bool.not_eq_true, List.all_eq_false]
  exact ⟨y, List.mem_of_getElem? hy, by simp [h]⟩
def noOld (x : Ent) (b : List Ent) (n : Nat) : Prop := ∀ j, j < n → ∀ y, b[j]? = some y → older x y = false
theorem newer_end {a b : List Ent} (h : ∀ i, i < a.length → ∀ x, a[i]? = some x → noOld x b b.length) : newerM a b = true := by
  unfold newerM
  rw [List.all_eq_true]
  intro x hx
  obtain ⟨i, hi⟩ := List.mem_iff_getElem?.1 hx
  rw [List.all_eq_true]
  intro y hy
  obtain ⟨j, hj⟩ := List.mem_iff_getElem?.1 hy
  rw [h i (List.getElem?_eq_some_iff.1 hi).1 x hi j (List.getElem?_eq_some_iff.1 hj).1 y hj]; rfl
theorem newer_ac (a b : List Ent) (ha : a.length ≤ 1099511627776) (hb : b.length ≤ 1099511627776) : AC Tryz.prog 73 [runT a, runT b] noHp 0 ⟨.t (bT (newerM a b)), noHp, 0⟩ := by
  refine AC_of Tryz.func73 rfl Tryz.ntmps73 Tryz.results73 (by kernel_rfl) rfl ?_
  simp only [List.zipIdx, List.map, Nat.zero_add, Nat.reduceAdd]
  repeat (first | apply Aw_seq | apply Aw_block | apply Aw_skip | apply Aw_exit | refine Aw_condt rfl ?_ | refine Aw_condf rfl ?_ | ((first | refine qr ?_ | refine qd (by kernel_rfl) (by kernel_rfl) ?_); simp only [go_sem, reduceEqDiff, reduceIte, reduceAdd, reduceMul, reduceSub, reduceLT, reduceLeDiff, Nat.reduceBEq]) | refine dk (by kernel_rfl) ?_)
  refine Aw.rw (rw0 (l' := [(11, .t (iT (0 : Nat))), (10, .t (iT a.length)), (9, .t (runT a)), (1, .t (runT b)), (0, .t (runT a))]) (n' := 0) (by repeat (first | exact trivial | refine ⟨rfl, rfl, ?_⟩))) ?_
  refine Aw_loop0 (ι := { i : Nat // i ≤ a.length ∧ (∀ j, j < i → ∀ x, a[j]? = some x → noOld x b b.length) }) (fun q => [(11, .t (iT (q.1 : Nat))), (10, .t (iT a.length)), (9, .t (runT a)), (1, .t (runT b)), (0, .t (runT a))]) (fun q => a.length - q.1) ⟨0, Nat.zero_le _, fun j hj => absurd hj (by omega)⟩ ?_
  rintro ⟨i, hi, hp⟩
  dsimp only
  by_cases hlt : i < a.length
  · have h1 : (i : Int) < (a.length : Int) := by omega
    have h2 := wrap_succ hlt ha
    obtain ⟨x, hx⟩ : ∃ e, a[i]? = some e := ⟨_, List.getElem?_eq_getElem hlt⟩
    repeat (first | apply Aw_seq | apply Aw_block | apply Aw_skip | apply Aw_exit | refine Aw_condt rfl ?_ | refine Aw_condf rfl ?_ | ((first | refine qr ?_ | refine qd (by kernel_rfl) (by kernel_rfl) ?_); simp only [go_sem, reduceEqDiff, reduceIte, reduceAdd, reduceMul, reduceSub, reduceLT, reduceLeDiff, Nat.reduceBEq, h1, hx]) | refine dk (by kernel_rfl) ?_)
    refine Aw.rw (rwL (l' := [(17, .t (iT (0 : Nat))), (16, .t (iT b.length)), (15, .t (runT b)), (6, .t (.c (.ph 0 0 0))), (11, .t (iT (i : Nat))), (10, .t (iT a.length)), (9, .t (runT a)), (1, .t (runT b)), (0, .t (runT a))]) (os := [some (enO x)]) (M := [3]) (n' := 1) (by repeat (first | exact trivial | refine ⟨rfl, rfl, ?_⟩)) (by rfl) (by simp only [go_sem, reduceEqDiff, reduceIte, reduceAdd, reduceMul, reduceSub, reduceLT, reduceLeDiff, Nat.reduceBEq]; first | done | rfl) (by decide) (by intro m hm; first | omega | (rcases m with _ | _ | _ | _ | _ | _ | m <;> first | exact ⟨by decide, rfl⟩ | omega))) ?_
    refine Aw_loop_rw (ι := { j : Nat // j ≤ b.length ∧ noOld x b j }) (fun j => S [(17, .t (iT (j.1 : Nat))), (16, .t (iT b.length)), (15, .t (runT b)), (6, .t (.c (.ph 0 0 0))), (11, .t (iT (i : Nat))), (10, .t (iT a.length)), (9, .t (runT a)), (1, .t (runT b)), (0, .t (runT a))] (hpL [some (enO x)]) 1) (fun j => b.length - j.1) ⟨0, Nat.zero_le _, fun j hj => absurd hj (by omega)⟩ ?_
    rintro ⟨j, hj, hq⟩
    dsimp only
    by_cases hjl : j < b.length
    · have g1 : (j : Int) < (b.length : Int) := by omega
      have g2 := wrap_succ hjl hb
      obtain ⟨y, hy⟩ : ∃ e, b[j]? = some e := ⟨_, List.getElem?_eq_getElem hjl⟩
      cases c1 : decide (x.key = y.key)
      · have ho : older x y = false := by unfold older; simp [c1]
        repeat (first | apply Aw_seq | apply Aw_block | apply Aw_skip | apply Aw_exit | refine Aw_condt rfl ?_ | refine Aw_condf rfl ?_ | ((first | refine qr ?_ | refine qd (by kernel_rfl) (by kernel_rfl) ?_); simp only [go_sem, reduceEqDiff, reduceIte, reduceAdd, reduceMul, reduceSub, reduceLT, reduceLeDiff, Nat.reduceBEq, g1, hy, g2, c1]) | refine dk (by kernel_rfl) ?_)
        refine ⟨⟨j + 1, by omega, fun q hqj z hz => by rcases Nat.lt_succ_iff_lt_or_eq.1 hqj with h | rfl; exact hq q h z hz; rw [hy] at hz; rw [← Option.some.inj hz]; exact ho⟩, [0], ?_, rwL (by repeat (first | exact trivial | refine ⟨rfl, rfl, ?_⟩)) (by rfl) (by simp only [go_sem, reduceEqDiff, reduceIte, reduceAdd, reduceMul, reduceSub, reduceLT, reduceLeDiff, Nat.reduceBEq]; first | done | rfl) (by decide) (by intro m hm; first | omega | (rcases m with _ | _ | _ | _ | _ | _ | m <;> first | exact ⟨by decide, rfl⟩ | omega))⟩
        show b.length - (j + 1) < b.length - j; omega
      · cases c2 : decide (x.time ≤ y.time)
        · have ho : older x y = false := by unfold older; simp [c1, c2]
          repeat (first | apply Aw_seq | apply Aw_block | apply Aw_skip | apply Aw_exit | refine Aw_condt rfl ?_ | refine Aw_condf rfl ?_ | ((first | refine qr ?_ | refine qd (by kernel_rfl) (by kernel_rfl) ?_); simp only [go_sem, reduceEqDiff, reduceIte, reduceAdd, reduceMul, reduceSub, reduceLT, reduceLeDiff, Nat.reduceBEq, g1, hy, g2, c1, c2]) | refine dk (by kernel_rfl) ?_)
          refine ⟨⟨j + 1, by omega, fun q hqj z hz => by rcases Nat.lt_succ_iff_lt_or_eq.1 hqj with h | rfl; exact hq q h z hz; rw [hy] at hz; rw [← Option.some.inj hz]; exact ho⟩, [0], ?_, rwL (by repeat (first | exact trivial | refine ⟨rfl, rfl, ?_⟩)) (by rfl) (by simp only [go_sem, reduceEqDiff, reduceIte, reduceAdd, reduceMul, reduceSub, reduceLT, reduceLeDiff, Nat.reduceBEq]; first | done | rfl) (by decide) (by intro m hm; first | omega | (rcases m with _ | _ | _ | _ | _ | _ | m <;> first | exact ⟨by decide, rfl⟩ | omega))⟩
          show b.length - (j + 1) < b.length - j; omega
        · have ho : older x y = true := by unfold older; simp [c1, c2]
          repeat (first | apply Aw_seq | apply Aw_block | apply Aw_skip | apply Aw_exit | refine Aw_condt rfl ?_ | refine Aw_condf rfl ?_ | ((first | refine qr ?_ | refine qd (by kernel_rfl) (by kernel_rfl) ?_); simp only [go_sem, reduceEqDiff, reduceIte, reduceAdd, reduceMul, reduceSub, reduceLT, reduceLeDiff, Nat.reduceBEq, g1, hy, g2, c1, c2]) | refine dk (by kernel_rfl) ?_)
          exact Aw_ret (ret0 (.inl rfl) (by simp only [go_sem, reduceEqDiff, reduceIte, reduceAdd, reduceMul, reduceSub, reduceLT, reduceLeDiff, Nat.reduceBEq]; rfl) (by rw [newer_bad hx hy ho]) rfl)
    · have g1 : ¬ (j : Int) < (b.length : Int) := by omega
      obtain rfl : j = b.length := by omega
      repeat (first | apply Aw_seq | apply Aw_block | apply Aw_skip | apply Aw_exit | refine Aw_condt rfl ?_ | refine Aw_condf rfl ?_ | ((first | refine qr ?_ | refine qd (by kernel_rfl) (by kernel_rfl) ?_); simp only [go_sem, reduceEqDiff, reduceIte, reduceAdd, reduceMul, reduceSub, reduceLT, reduceLeDiff, Nat.reduceBEq, g1, h2]) | refine dk (by kernel_rfl) ?_)
      exact ⟨⟨i + 1, by omega, fun q hqj z hz => by rcases Nat.lt_succ_iff_lt_or_eq.1 hqj with h | rfl; exact hp q h z hz; rw [hx] at hz; rw [← Option.some.inj hz]; exact hq⟩, (by simp only []; omega), rw0 (by repeat (first | exact trivial | refine ⟨rfl, rfl, ?_⟩))⟩
  · have h1 : ¬ (i : Int) < (a.length : Int) := by omega
    have he : i = a.length := by omega
    subst he
    repeat (first | apply Aw_seq | apply Aw_block | apply Aw_skip | apply Aw_exit | refine Aw_condt rfl ?_ | refine Aw_condf rfl ?_ | ((first | refine qr ?_ | refine qd (by kernel_rfl) (by kernel_rfl) ?_); simp only [go_sem, reduceEqDiff, reduceIte, reduceAdd, reduceMul, reduceSub, reduceLT, reduceLeDiff, Nat.reduceBEq, h1]) | refine dk (by kernel_rfl) ?_)
    exact Aw_ret (ret0 (.inl rfl) (by simp only [go_sem, reduceEqDiff, reduceIte, reduceAdd, reduceMul, reduceSub, reduceLT, reduceLeDiff, Nat.reduceBEq]; rfl) (by rw [newer_end hp]) rfl)
def nwAt (b : List Ent) (now : Int) (e : Ent) : Bool := !decide (now < e.time) && (match atM b e.key 999 with
  | some q => !decide (e.time ≤ q.time)
  | none => true)
def newestM (a b : List Ent) (now : Int) : Bool := a.all (nwAt b now)
theorem newest_bad {a b : List Ent} {now : Int} {x : Ent} {i : Nat} (hx : a[i]? = some x) (h : nwAt b now x = false) : newestM a b now = false := by
  unfold newestM
  rw [List.all_eq_false]
  exact ⟨x, List.mem_of_getElem? hx, by simp [h]⟩
theorem newest_end {a b : List Ent} {now : Int} (h : ∀ i, i < a.length → ∀ x, a[i]? = some x → nwAt b now x = true) : newestM a b now = true := by
  unfold newestM
  rw [List.all_eq_true]
  intro x hx
  obtain ⟨i, hi⟩ := List.mem_iff_getElem?.1 hx
  exact h i (List.getElem?_eq_some_iff.1 hi).1 x hi
theorem l12Newest_ac (a b : List Ent) (now : Int) (ha : a.length ≤ 1099511627776) (hb : SmR b) : AC Tryz.prog 57 [runT a, runT b, iT now] noHp 0 ⟨.t (bT (newestM a b now)), noHp, 0⟩ := by
  refine AC_of Tryz.func57 rfl Tryz.ntmps57 Tryz.results57 (by kernel_rfl) rfl ?_
  simp only [List.zipIdx, List.map, Nat.zero_add, Nat.reduceAdd]
  repeat (first | apply Aw_seq | apply Aw_block | apply Aw_skip | apply Aw_exit | refine Aw_condt rfl ?_ | refine Aw_condf rfl ?_ | ((first | refine qr ?_ | refine qd (by kernel_rfl) (by kernel_rfl) ?_); simp only [go_sem, reduceEqDiff, reduceIte, reduceAdd, reduceMul, reduceSub, reduceLT, reduceLeDiff, Nat.reduceBEq]) | refine dk (by kernel_rfl) ?_)
  refine Aw.rw (rw0 (l' := [(7, .t (iT (0 : Nat))), (2, .t (iT now)), (1, .t (runT b)), (0, .t (runT a))]) (n' := 0) (by repeat (first | exact trivial | refine ⟨rfl, rfl, ?_⟩))) ?_
  refine Aw_loop0 (ι := { i : Nat // i ≤ a.length ∧ (∀ j, j < i → ∀ x, a[j]? = some x → nwAt b now x = true) }) (fun q => [(7, .t (iT (q.1 : Nat))), (2, .t (iT now)), (1, .t (runT b)), (0, .t (runT a))]) (fun q => a.length - q.1) ⟨0, Nat.zero_le _, fun j hj => absurd hj (by omega)⟩ ?_
  rintro ⟨i, hi, hp⟩
  dsimp only
  by_cases hlt : i < a.length
  · have h1 : (i : Int) < (a.length : Int) := by omega
    have h2 := wrap_succ hlt ha
    obtain ⟨x, hx⟩ : ∃ e, a[i]? = some e := ⟨_, List.getElem?_eq_getElem hlt⟩
    have nx : nwAt b now x = true → ∀ j, j < i + 1 → ∀ z, a[j]? = some z → nwAt b now z = true := fun ho q hqj z hz => by
      rcases Nat.lt_succ_iff_lt_or_eq.1 hqj with h | rfl
      · exact hp q h z hz
      · rw [hx] at hz; rw [← Option.some.inj hz]; exact ho
    cases hc : decide (now < x.time)
    case true =>
      repeat (first | apply Aw_seq | apply Aw_block | apply Aw_skip | apply Aw_exit | refine Aw_condt rfl ?_ | refine Aw_condf rfl ?_ | ((first | refine qr ?_ | refine qd (by kernel_rfl) (by kernel_rfl) ?_); simp only [go_sem, reduceEqDiff, reduceIte, reduceAdd, reduceMul, reduceSub, reduceLT, reduceLeDiff, Nat.reduceBEq, h1, hx, hc]) | refine dk (by kernel_rfl) ?_)
      exact Aw_ret (ret0 (.inl rfl) (by simp only [go_sem, reduceEqDiff, reduceIte, reduceAdd, reduceMul, reduceSub, reduceLT, reduceLeDiff, Nat.reduceBEq]; rfl) (by rw [newest_bad hx (by unfold nwAt; simp only [hc]; rfl)]) rfl)
    case false =>
      have c1 := hc
      have hat := sat_ac b x.key 999 hb
      cases c2 : atM b x.key 999 with
      | none =>
        rw [c2] at hat
        repeat (first | apply Aw_seq | apply Aw_block | apply Aw_skip | apply Aw_exit | refine Aw_condt rfl ?_ | refine Aw_condf rfl ?_ | ((first | refine qr ?_ | refine qd (by kernel_rfl) (by kernel_rfl) ?_); simp only [go_sem, reduceEqDiff, reduceIte, reduceAdd, reduceMul, reduceSub, reduceLT, reduceLeDiff, Nat.reduceBEq, h1, hx, c1, h2, Option.isSome_none, Option.getD_none]) | refine dk (by kernel_rfl) ?_ | (refine qp (hat) (by simp only [go_sem, reduceEqDiff, reduceIte, reduceAdd, reduceMul, reduceSub, reduceLT, reduceLeDiff, Nat.reduceBEq, h1, hx, c1, h2, Option.isSome_none, Option.getD_none]; first | done | rfl) rfl (by simp only [go_sem, Nat.reduceLT]) rfl rfl ?_; simp only [go_sem, reduceEqDiff, reduceIte, reduceAdd, reduceMul, reduceSub, reduceLT, reduceLeDiff, Nat.reduceBEq, h1, hx, c1, h2, Option.isSome_none, Option.getD_none]))
        exact ⟨⟨i + 1, by omega, nx (by unfold nwAt; simp only [c1, c2]; rfl)⟩, (by simp only []; omega), rw0 (by repeat (first | exact trivial | refine ⟨rfl, rfl, ?_⟩))⟩
      | some y =>
        rw [c2] at hat
        cases c3 : decide (x.time ≤ y.time)
        · repeat (first | apply Aw_seq | apply Aw_block | apply Aw_skip | apply Aw_exit | refine Aw_condt rfl ?_ | refine Aw_condf rfl ?_ | ((first | refine qr ?_ | refine qd (by kernel_rfl) (by kernel_rfl) ?_); simp only [go_sem, reduceEqDiff, reduceIte, reduceAdd, reduceMul, reduceSub, reduceLT, reduceLeDiff, Nat.reduceBEq, h1, hx, c1, h2, c3, Option.isSome_some, Option.getD_some]) | refine dk (by kernel_rfl) ?_ | (refine qp (hat) (by simp only [go_sem, reduceEqDiff, reduceIte, reduceAdd, reduceMul, reduceSub, reduceLT, reduceLeDiff, Nat.reduceBEq, h1, hx, c1, h2, c3, Option.isSome_some, Option.getD_some]; first | done | rfl) rfl (by simp only [go_sem, Nat.reduceLT]) rfl rfl ?_; simp only [go_sem, reduceEqDiff, reduceIte, reduceAdd, reduceMul, reduceSub, reduceLT, reduceLeDiff, Nat.reduceBEq, h1, hx, c1, h2, c3, Option.isSome_some, Option.getD_some]))
          exact ⟨⟨i + 1, by omega, nx (by unfold nwAt; simp only [c1, c2, c3]; rfl)⟩, (by simp only []; omega), rw0 (by repeat (first | exact trivial | refine ⟨rfl, rfl, ?_⟩))⟩
        · repeat (first | apply Aw_seq | apply Aw_block | apply Aw_skip | apply Aw_exit | refine Aw_condt rfl ?_ | refine Aw_condf rfl ?_ | ((first | refine qr ?_ | refine qd (by kernel_rfl) (by kernel_rfl) ?_); simp only [go_sem, reduceEqDiff, reduceIte, reduceAdd, reduceMul, reduceSub, reduceLT, reduceLeDiff, Nat.reduceBEq, h1, hx, c1, h2, c3, Option.isSome_some, Option.getD_some]) | refine dk (by kernel_rfl) ?_ | (refine qp (hat) (by simp only [go_sem, reduceEqDiff, reduceIte, reduceAdd, reduceMul, reduceSub, reduceLT, reduceLeDiff, Nat.reduceBEq, h1, hx, c1, h2, c3, Option.isSome_some, Option.getD_some]; first | done | rfl) rfl (by simp only [go_sem, Nat.reduceLT]) rfl rfl ?_; simp only [go_sem, reduceEqDiff, reduceIte, reduceAdd, reduceMul, reduceSub, reduceLT, reduceLeDiff, Nat.reduceBEq, h1, hx, c1, h2, c3, Option.isSome_some, Option.getD_some]))
          exact Aw_ret (ret0 (.inl rfl) (by simp only [go_sem, reduceEqDiff, reduceIte, reduceAdd, reduceMul, reduceSub, reduceLT, reduceLeDiff, Nat.reduceBEq]; rfl) (by rw [newest_bad hx (by unfold nwAt; simp only [c1, c2, c3]; rfl)]) rfl)
  · have h1 : ¬ (i : Int) < (a.length : Int) := by omega
    have he : i = a.length := by omega
    subst he
    repeat (first | apply Aw_seq | apply Aw_block | apply Aw_skip | apply Aw_exit | refine Aw_condt rfl ?_ | refine Aw_condf rfl ?_ | ((first | refine qr ?_ | refine qd (by kernel_rfl) (by kernel_rfl) ?_); simp only [go_sem, reduceEqDiff, reduceIte, reduceAdd, reduceMul, reduceSub, reduceLT, reduceLeDiff, Nat.reduceBEq, h1]) | refine dk (by kernel_rfl) ?_)
    exact Aw_ret (ret0 (.inl rfl) (by simp only [go_sem, reduceEqDiff, reduceIte, reduceAdd, reduceMul, reduceSub, reduceLT, reduceLeDiff, Nat.reduceBEq]; rfl) (by rw [newest_end hp]) rfl)
open Go
structure CallOkV (P : Program) (f : FuncId) (cap : List PV) (hp : Hp) (va : List AV) (n : Nat) (v : AV) (h1 : Hp) (n1 : Nat) (rd wr : List Nat) : Prop where
  out : ∃ (ta tb : List TV) (hb : Hp) (N' L : List Nat) (o : Out), va = ta.map AV.t ∧ All2 (Arg hp N' L) (ta ++ capT cap) tb ∧ Hands hp hb N' L ∧ (L = [] ∨ (o.r.flat = true ∧ ∀ j q, o.hp j = some q → q.flat = true)) ∧ AC P f tb hb N'.length o ∧
    v = o.r.ren (pout N' n) ∧ h1 = hpOut hp N' n (o.n - N'.length) o.hp ∧ n1 = n + (o.n - N'.length) ∧ rd = N' ++ L ∧ wr = N'
section
variable {dr : Bool} {P : Program} {N k : Nat} {ops : Array Oper} {Q : Exit → St → Prop} {r : List Oper} {l : List (Nat × AV)} {hp h1 : Hp} {n : Nat} {acc : List FP}
theorem ex_callv {d : Option Tmp} {f : FuncId} {cap : List PV} {x : Operand} {args : List Operand} {ts : Array TypeId} {ty : TypeId} {pos : String} {after : Array Edge} {gd : Option (Nat × Bool)} {n1 : Nat} {rd wr : List Nat} {v : AV} {va : List AV}
    (hx : evO (look l) x = .t (.c (.fn f cap))) (h : CallOkV P f cap hp va n v h1 n1 rd wr) (hva : args.map (evO (look l)) = va) (hw : wantA ops (look l) ⟨d, .call { callee := .value x, args := args.toArray, argTypes := ts }, ty, pos, after, gd⟩ = some true) (hd : dstE N d)
    (q : Ev dr P N ops Q r (putE l d v) h1 n1 (fpC dr ⟨n, n1 - n, rd, wr⟩ acc)) :
    Ex dr P N ops Q (⟨d, .call { callee := .value x, args := args.toArray, argTypes := ts }, ty, pos, after, gd⟩ :: r) (S l hp n) acc := by
  obtain ⟨ta, tb, hb, N', L, o, e, hB, hh, hf, hc, rfl, rfl, rfl, rfl, rfl⟩ := h.out
  have q' := ev_ex _ _ _ _ _ q
  rw [Nat.add_sub_cancel_left] at q'
  cases dr with
  | true => exact dx_callv hw (dst_ok hd) rfl hx (by simpa [hva] using e) hB hh hf hc (by rw [put_lookE]; exact q')
  | false => exact fun a => dx_callv hw (dst_ok hd) rfl hx (by simpa [hva] using e) hB hh hf hc (by rw [put_lookE]; exact q' _)
theorem all2_app {α β : Type} {R : α → β → Prop} {b d : List β} : ∀ {a c : List α}, All2 R a b → All2 R c d → All2 R (a ++ c) (b ++ d) := by
  intro a c h1 h2
  induction h1 with
  | nil => exact h2
  | cons h _ ih => exact .cons h ih
theorem arg_nm {N' L : List Nat} {x y : TV} (h : x = y.ren (pin N')) (hb : y.bd N'.length = true) : Arg hp N' L x y := by subst h; exact .nm hb
/-- A call of a function value that hands objects on; j: how many arguments stand in the call. -/
theorem call_V {f : FuncId} {cap : List PV} {va : List AV} {ta tb : List TV} {N' L : List Nat} {hs os : List (Option Obj)} {x : AV} {m : Nat} (j : Nat) (hc : AC P f tb (hpL hs) N'.length ⟨x, hpL os, m⟩) (hv : va = ta.map AV.t) (hB1 : All2 (Arg hp N' L) ta (tb.take j)) (hB2 : All2 (Arg hp N' L) (capT cap) (tb.drop j))
    (hd : N'.Nodup) (hlt : ∀ q ∈ N', q < n) (hap : ∀ q ∈ L, q ∉ N') (hh : HandL hp N' N' hs) (hf : L = [] ∨ (x.flat = true ∧ ∀ o ∈ os, ∀ q, o = some q → q.flat = true)) (hl : os.length = m) (hm : N'.length ≤ m) :
    CallOkV P f cap hp va n (x.ren (pout N' n)) (updL hp (N' ++ List.range' n (m - N'.length)) (os.map (·.map (Obj.ren (pout N' n))))) (n + (m - N'.length)) (N' ++ L) N' := by
  have hB : All2 (Arg hp N' L) (ta ++ capT cap) tb := by have := all2_app hB1 hB2; rwa [List.take_append_drop] at this
  obtain ⟨h1, h2⟩ := handL_get hh
  refine ⟨ta, tb, hpL hs, N', L, ⟨x, hpL os, m⟩, hv, hB, ⟨hd, hap, fun j o hj => ?_, fun j hj => ?_⟩, hf.imp id fun h => ⟨h.1, fun j q hq => ?_⟩, hc, rfl, ?_, rfl, rfl, rfl⟩
  · rcases Nat.lt_or_ge j N'.length with h | h
    · exact h
    · rw [hpL_none (by omega)] at hj; cases hj
  · obtain ⟨o, q1, q2, q3⟩ := h2 j hj
    exact ⟨o, by simp [hpL, q1], q2, q3⟩
  · simp only [hpL] at hq
    cases ho : os[j]? with
    | none => rw [ho] at hq; simp at hq
    | some o => rw [ho] at hq; simp at hq; exact h.2 o (List.mem_of_getElem? ho) q hq
  · exact (hpOut_L hd hlt (by omega)).symm
/-- A loop, told round by round. -/
def AwR (P : Program) (N k : Nat) (x : Code) (Q : Exit → St → Prop) : Nat → St → Prop
  | 0, _ => False
  | n + 1, s => Aw P N k x (thenQ (AwR P N k x Q n) Q) s
theorem AwR_succ {x : Code} {Q : Exit → St → Prop} {m : Nat} {s : St} (h : Aw P N k x (thenQ (AwR P N k x Q m) Q) s) : AwR P N k x Q (m + 1) s := h
theorem Aw_rounds {x : Code} {Q : Exit → St → Prop} {s : St} (m : Nat) (h : AwR P N k x Q m s) : Aw P N k (.loop x) Q s := fun c a r => by
  refine wp_loop_rounds m ?_
  have key : ∀ m s1 c1 a1, AwR P N k x Q m s1 → Rp N c1 a1 s1 → Tk k c s.hp c1 s1.hp → Code.rounds P x (AQ N k c s.hp Q) m a1 c1.w := by
    intro m
    induction m with
    | zero => intro s1 c1 a1 h _ _; exact h.elim
    | succ m ih =>
      intro s1 c1 a1 h r1 t1
      rw [rounds_succ]
      refine wp_mono (h c1 a1 r1) fun e a2 w2 hq => ?_
      obtain ⟨s2, c2, q, rfl, t2, r2⟩ := hq
      cases e with
      | normal => exact ih s2 c2 a2 q r2 (t1.trans t2)
      | _ => exact ⟨s2, c2, q, rfl, t1.trans t2, r2⟩
  exact key m s c a h r (Tk.refl _ _ _)
end
/-- What a function gives that makes one empty row. -/
theorem AC_row {P : Program} {f : FuncId} {args : List TV} {e k : Nat} (hf : ∃ fn, P.funcs[f]? = some fn ∧ fn.body.isNone = false ∧ (fn.name == "runtime.NumGoroutine") = false) (hk : 0 < k)
    (h : ∀ (c : Cx) (vs : List Value), Good c noHp → All2 (RepT c) args vs → Calls P f vs.toArray c.w fun en w' => ∃ v, en = .returned v ∧ ((v = .slice none 0 0 ∧ w' = c.w) ∨ ∃ cap xs d, v = .slice (some ⟨c.w.heap.size, 0, none⟩) 0 cap ∧ w' = { c.w with drawn := d }.alloc (.cells (List.toArray xs) e) ∧ cap ≤ maxLen ∧ xs.length = cap * k)) :
    AC P f args noHp 0 ⟨.t (.c (.h 0)), hpL [some (dRow e k [])], 1⟩ := by
  refine ⟨hf, fun c vs g hU hA => (h c vs g hA).mono fun en w' => ?_⟩
  have hn : ¬ c.U 0 := fun h => absurd (hU 0 h) (Nat.not_lt_zero _)
  have hhp : hpL [some (dRow e k [])] = upd noHp 0 (some ⟨e, k, true, []⟩) := (hp1_L _).symm
  rintro ⟨v, rfl, ⟨rfl, rfl⟩ | ⟨cap, xs, d, rfl, rfl, hc, hx⟩⟩
  · have hrep : ORep (c.name 0 0 (.slice none 0 0) k) 0 ⟨e, k, true, []⟩ := by
      refine ⟨by simp [Cx.name], hk, [], ⟨by simp, by simp, fun i j cs x hi => by simp at hi⟩, .inl ⟨rfl, ?_, fun b hb => ?_⟩⟩
      · simp only [Cx.name, upd_same, List.length_nil]
        exact ⟨by simp, .inl ⟨rfl, rfl⟩⟩
      · simp [Cx.name, Value.ownBlock] at hb
    have hb : ∀ y, blk (c.name 0 0 (.slice none 0 0) k) 0 ⟨e, k, true, []⟩ ≠ some y := fun y => by simp [blk, Cx.name, Value.ownBlock]
    have g2 := g.add hn hrep (fun y hy => absurd hy (hb y))
    have t2 := (Tr.refl c noHp).add g (fun m o h => g.dom m o h) hn (b := 0) (k := k) (v := .slice none 0 0) (o := ⟨e, k, true, []⟩) (fun _ h => h) (fun y hy => absurd hy (hb y))
    refine ⟨_, c.name 0 0 (.slice none 0 0) k, rfl, rfl, by rw [hhp]; exact t2, by rw [hhp]; exact g2, ⟨.inr rfl, by simp [Cx.name], rfl⟩, fun m hm => ?_⟩
    rcases hm with hm | rfl
    · have := hU m hm; omega
    · exact Nat.lt_succ_self 0
  · obtain ⟨g1, t1⟩ := g.world (w' := { c.w with drawn := d }) rfl rfl rfl (Nat.le_refl _) (fun b hb => rfl)
    have hown : World.ownsRow ({ c.w with drawn := d }.alloc (.cells xs.toArray e)) 0 e k (.slice (some ⟨c.w.heap.size, 0, none⟩) 0 cap) 0 [] :=
      ⟨by simp, .inr ⟨c.w.heap.size, cap, xs.toArray, rfl, Nat.zero_le _, Array.getElem?_push_size, Nat.zero_le _, hc, by simpa using hx, by simp⟩⟩
    obtain ⟨g2, t2⟩ := Good.alloc (c := c.at { c.w with drawn := d }) g1 (n := 0) (k := k) hn e xs (.slice (some ⟨c.w.heap.size, 0, none⟩) 0 cap) ⟨e, k, true, []⟩
      ⟨by simp [Cx.name], hk, [], ⟨by simp, by simp, fun i j cs x hi => by simp at hi⟩, .inl ⟨rfl, by simpa [Cx.name, Cx.at] using hown, fun b hb => by simp [Cx.name, Value.ownBlock, Cx.at] at hb ⊢; exact hb.symm⟩⟩ (fun x hx => by
        rw [blk_name] at hx; simpa [Value.ownBlock, Cx.at] using hx.symm)
    refine ⟨_, ((c.at { c.w with drawn := d }).at ({ c.w with drawn := d }.alloc (.cells xs.toArray e))).name 0 c.w.heap.size (.slice (some ⟨c.w.heap.size, 0, none⟩) 0 cap) k, rfl, rfl, by rw [hhp]; exact t1.trans t2, by rw [hhp]; exact g2, ⟨.inr rfl, by simp [Cx.name], rfl⟩, fun m hm => ?_⟩
    rcases hm with hm | rfl
    · have := hU m hm; omega
    · exact Nat.lt_succ_self 0
theorem grow_ac (n : Nat) (hn : n ≤ 1000) : AC Tryz.prog 113 [.c (.d (.s (.slice none 0 0))), iT n] noHp 0 ⟨.t (.c (.h 0)), hpL [some (dRow 53 4 [])], 1⟩ := by
  refine AC_row (by exact ⟨_, Tryz.func113, rfl, rfl⟩) (by decide) fun c vs g hA => ?_
  obtain ⟨v0, v1, rfl, rfl, rfl⟩ : ∃ v0 v1, vs = [v0, v1] ∧ v0 = .slice none 0 0 ∧ v1 = .int .i64 n := by
    cases hA with
    | cons h1 h2 => cases h2 with
      | cons h3 h4 => cases h4; exact ⟨_, _, rfl, repD_s h1, repD_s h3⟩
  generalize c.w = w
  obtain ⟨E⟩ := tf ti53
  have i1 := E.info; have i2 := E.zero; have i3 := E.sz; have i4 := E.bys
  have i5 : E.zv.cells.size = 4 := by have := congrArg List.length E.z; simpa using this
  simp only [] at i3 i4
  have c1 : decide ((n : Int) < 0) = false := by simp
  by_cases h0 : n = 0
  · subst h0
    go_enter Tryz.func113, Tryz.ntmps113
    go_wp2
    go_ret
    exact ⟨_, rfl, .inl ⟨rfl, rfl⟩⟩
  · have c2 : decide (0 < (n : Int)) = true := by simp; omega
    have c3 : IntKind.i64.wrap ((n : Int)) = n := wrap_nat (by omega)
    have hr := Lib.run_append_nil_zeros (P := Tryz.prog) w 30 3 30 53 _ _ .i64 .i64 Tryz.underlying30 Tryz.underlying3 i1 i2 n (by omega) (by omega) (by omega) (by rw [i4]; omega)
    have hcap := grownCap_le_maxLen w n 0 53 (by unfold maxLen; omega)
    have hge := grownCap_ge w n 0 53
    generalize grownCap w n 0 53 = cap at hr hcap hge
    obtain ⟨xs, hxs, hxl⟩ : ∃ xs : List Value, Builtin.zeroCells E.zv.cells n ++ Builtin.zeroCells E.zv.cells (cap - n) = xs.toArray ∧ xs.length = cap * 4 := by
      refine ⟨(Builtin.zeroCells E.zv.cells n ++ Builtin.zeroCells E.zv.cells (cap - n)).toList, by simp, ?_⟩
      simp [size_zeroCells, i5]
      rw [← Nat.add_mul]; congr 1; omega
    rw [hxs] at hr
    clear i2 i5 hxs
    go_enter Tryz.func113, Tryz.ntmps113
    go_wp2_with (first | (at_builtin; refine Lib.wpList_append_run _ rfl (.tmp 20) (.tmp 21) _ _ rfl _ _ rfl rfl _ _ hr ?_))
    go_ret
    exact ⟨_, rfl, .inr ⟨cap, xs, w.drawn + 1, rfl, rfl, hcap, hxl⟩⟩
def lvD (r : List Ent) : List D := [.rs 4 (r.map entD)]
@[go_sem] theorem r_lvD (r : List Ent) : lvD r = [.rs 4 (r.map entD)] := rfl
def eRow (r : List Ent) : Obj := dRow 53 4 (r.map entD)
@[go_sem] theorem r_eRow (r : List Ent) : eRow r = dRow 53 4 (r.map entD) := rfl
@[go_sem] theorem all_entD (q : List Ent) : (List.map (fun x => List.map CV.d x) (List.map entD q)).all (fun cs => cs.length == 4) = true := by simp [entD]
theorem concat_ac (a b : List Ent) (ha : a.length ≤ 400) (hb : b.length ≤ 400) : AC Tryz.prog 76 [.c (.h 0)] (hpL [some (dRow 30 1 [lvD a, lvD b])]) 1 ⟨.t (.c (.h 1)), hpL [none, some (eRow (a ++ b))], 2⟩ := by
  refine AC_of Tryz.func76 rfl Tryz.ntmps76 Tryz.results76 (by kernel_rfl) rfl ?_
  simp only [List.zipIdx, List.map, Nat.zero_add, Nat.reduceAdd]
  repeat (first | apply Aw_seq | apply Aw_block | apply Aw_skip | apply Aw_exit | refine Aw_condt rfl ?_ | refine Aw_condf rfl ?_ | ((first | refine qr ?_ | refine qd (by kernel_rfl) (by kernel_rfl) ?_); simp only [go_sem, reduceEqDiff, reduceIte, reduceAdd, reduceMul, reduceSub, reduceLT, reduceLeDiff, Nat.reduceBEq]) | refine dk (by kernel_rfl) ?_)
  refine Aw_rounds 3 ?_
  refine AwR_succ ?_
  have e0 : decide ((0 : Int) < 2) = true := rfl
  have e1 : decide ((1 : Int) < 2) = true := rfl
  have e2 : decide ((2 : Int) < 2) = false := rfl
  have w1 : IntKind.i64.wrap (0 + 1) = 1 := rfl
  have w2 : IntKind.i64.wrap (1 + 1) = 2 := rfl
  have l1 : IntKind.i64.wrap (0 + (a.length : Int)) = (a.length : Int) := by rw [Int.zero_add]; exact wrap_nat (by omega)
  have l2 : IntKind.i64.wrap ((a.length : Int) + (b.length : Int)) = ((a.length + b.length : Nat) : Int) := wrap_add (by omega)
  have g1 : decide ((a.length : Int) < 0) = false := decide_eq_false (by omega)
  have g2 : decide (((a.length + b.length : Nat) : Int) < 0) = false := decide_eq_false (by omega)
  repeat (first | apply Aw_seq | apply Aw_block | apply Aw_skip | apply Aw_exit | refine Aw_condt rfl ?_ | refine Aw_condf rfl ?_ | ((first | refine qr ?_ | refine qd (by kernel_rfl) (by kernel_rfl) ?_); simp only [go_sem, reduceEqDiff, reduceIte, reduceAdd, reduceMul, reduceSub, reduceLT, reduceLeDiff, Nat.reduceBEq, e0, e1, e2, w1, w2, l1, l2, g1, g2]) | refine dk (by kernel_rfl) ?_ | (refine qx (call_N (L := []) (grow_ac (a.length + b.length) (by omega)) rfl (.cons (.nm rfl) (.cons (.nm rfl) (.nil))) (.inl rfl) rfl) (by simp only [go_sem, reduceEqDiff, reduceIte, reduceAdd, reduceMul, reduceSub, reduceLT, reduceLeDiff, Nat.reduceBEq, e0, e1, e2, w1, w2, l1, l2, g1, g2]; first | done | rfl) rfl (by simp only [go_sem, Nat.reduceLT]) ?_; simp only [go_sem, reduceEqDiff, reduceIte, reduceAdd, reduceMul, reduceSub, reduceLT, reduceLeDiff, Nat.reduceBEq, e0, e1, e2, w1, w2, l1, l2, g1, g2]))
  refine Aw_rounds 3 ?_
  refine AwR_succ ?_
  have q1 : a.length * 40 ≤ 140737488355328 := by omega
  have q2 : (a.length + b.length) * 40 ≤ 140737488355328 := by omega
  repeat (first | apply Aw_seq | apply Aw_block | apply Aw_skip | apply Aw_exit | refine Aw_condt rfl ?_ | refine Aw_condf rfl ?_ | ((first | refine qr ?_ | refine qd (by kernel_rfl) (by kernel_rfl) ?_); simp only [go_sem, reduceEqDiff, reduceIte, reduceAdd, reduceMul, reduceSub, reduceLT, reduceLeDiff, Nat.reduceBEq, e0, e1, e2, w1, w2, q1, q2]) | refine dk (by kernel_rfl) ?_)
  exact Aw_ret (retL (M := [0, 55]) (.inl rfl) (by simp only [go_sem, reduceEqDiff, reduceIte, reduceAdd, reduceMul, reduceSub, reduceLT, reduceLeDiff, Nat.reduceBEq]; first | done | rfl) rfl rfl (by rfl) (by simp only [go_sem, reduceEqDiff, reduceIte, reduceAdd, reduceMul, reduceSub, reduceLT, reduceLeDiff, Nat.reduceBEq]; first | done | rfl | (and_intros <;> rfl)) (by decide) (by intro m hm; first | omega | (rcases m with _ | _ | _ | _ | _ | _ | m <;> first | exact ⟨by decide, rfl⟩ | omega)))
theorem hpL_no (os : List (Option Obj)) (h : os.all (·.isNone) = true) : hpL os = noHp := by
  funext m
  unfold hpL
  cases hm : os[m]? with
  | none => rfl
  | some o =>
    have := List.all_eq_true.1 h o (List.mem_of_getElem? hm)
    cases o with
    | none => rfl
    | some o => cases this
/-- All rows of a result, settled; one name was handed on. -/
theorem AC.settle1 {P : Program} {f : FuncId} {args : List TV} {hp hp1 : Hp} {x y : AV} {n : Nat} (L : List Nat) (h : AC P f args hp 1 ⟨x, hp1, n⟩) (hr : SetA hp1 L x y) (hy : y.bd 1 = true) : AC P f args hp 1 ⟨y, hpL [none], 1⟩ := by
  rw [hpL_no [none] rfl]
  have hk : ∀ m, m < 1 → pin [0] m = m := fun m hm => by
    cases m with
    | zero => rfl
    | succ m => omega
  have hx : y = y.ren (pin [0]) := (AV.ren_id (n := 1) hk hy).symm
  refine AC.sel (M := [0]) (AC.settle h hr (hp2 := noHp) (fun m o' hm => by simp [noHp] at hm) (Nat.le_refl n)) hx hy hpSel_none (Nat.le_refl _) fun m hm => ?_
  exact ⟨hm, hk m hm⟩
theorem concatS_ac (a b : List Ent) (ha : a.length ≤ 400) (hb : b.length ≤ 400) : AC Tryz.prog 76 [.c (.h 0)] (hpL [some (dRow 30 1 [lvD a, lvD b])]) 1 ⟨.t (runT (a ++ b)), hpL [none], 1⟩ :=
  AC.settle1 [1] (concat_ac a b ha hb) (SetC.row0 rfl rfl) rfl
/-- A store. -/
structure Sto where
  top : List Ent
  levels : List (List Ent)
  sieves : List Sve
  keep : Int
  time : Int
  times : List Int
def sveD (s : Sve) : List D := [.s (.string s.letters), .s (.string s.more), .s (.string s.first), .rs 1 (s.rests.map strD), .s (.int .i64 s.keep)]
@[go_sem] theorem r_sveD (s : Sve) : sveD s = [.s (.string s.letters), .s (.string s.more), .s (.string s.first), .rs 1 (s.rests.map strD), .s (.int .i64 s.keep)] := rfl
abbrev stT (s : Sto) : TV := .agg [.d (.rs 4 (s.top.map entD)), .d (.rs 1 (s.levels.map lvD)), .d (.rs 5 (s.sieves.map sveD)), .d (.s (.int .i64 s.keep)), .d (.s (.int .i64 s.time)), .d (.rs 1 (s.times.map intD))]
def stO (s : Sto) : Obj := ⟨34, 6, false, [[.d (.rs 4 (s.top.map entD)), .d (.rs 1 (s.levels.map lvD)), .d (.rs 5 (s.sieves.map sveD)), .d (.s (.int .i64 s.keep)), .d (.s (.int .i64 s.time)), .d (.rs 1 (s.times.map intD))]]⟩
@[go_sem] theorem r_stO (s : Sto) : stO s = ⟨34, 6, false, [[.d (.rs 4 (s.top.map entD)), .d (.rs 1 (s.levels.map lvD)), .d (.rs 5 (s.sieves.map sveD)), .d (.s (.int .i64 s.keep)), .d (.s (.int .i64 s.time)), .d (.rs 1 (s.times.map intD))]]⟩ := rfl
theorem late_ac (s : Sto) (e : Ent) : AC Tryz.prog 75 [entT e, .c (.ph 0 0 0)] (hpL [some (stO s)]) 1 ⟨.t (bT (decide (s.time < e.time))), hpL [some (stO s)], 1⟩ := by
  refine AC_of Tryz.func75 rfl Tryz.ntmps75 Tryz.results75 (by kernel_rfl) rfl ?_
  simp only [List.zipIdx, List.map, Nat.zero_add, Nat.reduceAdd]
  repeat (first | apply Aw_seq | apply Aw_block | apply Aw_skip | apply Aw_exit | refine Aw_condt rfl ?_ | refine Aw_condf rfl ?_ | ((first | refine qr ?_ | refine qd (by kernel_rfl) (by kernel_rfl) ?_); simp only [go_sem, reduceEqDiff, reduceIte, reduceAdd, reduceMul, reduceSub, reduceLT, reduceLeDiff, Nat.reduceBEq]) | refine dk (by kernel_rfl) ?_)
  exact Aw_ret (retL (M := [0]) (.inl rfl) (by simp only [go_sem, reduceEqDiff, reduceIte, reduceAdd, reduceMul, reduceSub, reduceLT, reduceLeDiff, Nat.reduceBEq]; first | done | rfl) rfl rfl (by rfl) (by simp only [go_sem, reduceEqDiff, reduceIte, reduceAdd, reduceMul, reduceSub, reduceLT, reduceLeDiff, Nat.reduceBEq]; first | done | rfl | (and_intros <;> rfl)) (by decide) (by intro m hm; first | omega | (rcases m with _ | _ | _ | _ | _ | _ | m <;> first | exact ⟨by decide, rfl⟩ | omega)))
def lateI (s : Sto) (r : List Ent) : Int := match r.findIdx? (fun e => decide (s.time < e.time)) with
  | some i => (i : Int)
  | none => -1
theorem late_hit {s : Sto} {r : List Ent} {i : Nat} {e : Ent} (hi : r[i]? = some e) (h : ∀ j, j < i → ∀ y, r[j]? = some y → decide (s.time < y.time) = false) (he : decide (s.time < e.time) = true) : lateI s r = i := by
  have hl := (List.getElem?_eq_some_iff.1 hi).1
  have : r.findIdx? (fun e => decide (s.time < e.time)) = some i := by
    rw [List.findIdx?_eq_some_iff_getElem]
    refine ⟨hl, ?_, fun j hj => ?_⟩
    · rw [List.getElem?_eq_getElem hl] at hi; rw [Option.some.inj hi]; exact he
    · have := h j hj _ (List.getElem?_eq_getElem (by omega)); simp only [this]; decide
  unfold lateI; rw [this]
theorem late_no {s : Sto} {r : List Ent} (h : ∀ j, j < r.length → ∀ y, r[j]? = some y → decide (s.time < y.time) = false) : lateI s r = -1 := by
  have : r.findIdx? (fun e => decide (s.time < e.time)) = none := by
    rw [List.findIdx?_eq_none_iff]
    intro x hx
    obtain ⟨i, hi⟩ := List.mem_iff_getElem?.1 hx
    exact h i (List.getElem?_eq_some_iff.1 hi).1 x hi
  unfold lateI; rw [this]
theorem indexLate_ac (s : Sto) (r : List Ent) (hl : r.length ≤ 1099511627776) : AC Tryz.prog 112 [runT r, .c (.fn 75 [.ph 0 0 0])] (hpL [some (stO s)]) 1 ⟨.t (iT (lateI s r)), hpL [some (stO s)], 1⟩ := by
  refine AC_of Tryz.func112 rfl Tryz.ntmps112 Tryz.results112 (by kernel_rfl) rfl ?_
  simp only [List.zipIdx, List.map, Nat.zero_add, Nat.reduceAdd]
  repeat (first | apply Aw_seq | apply Aw_block | apply Aw_skip | apply Aw_exit | refine Aw_condt rfl ?_ | refine Aw_condf rfl ?_ | ((first | refine qr ?_ | refine qd (by kernel_rfl) (by kernel_rfl) ?_); simp only [go_sem, reduceEqDiff, reduceIte, reduceAdd, reduceMul, reduceSub, reduceLT, reduceLeDiff, Nat.reduceBEq]) | refine dk (by kernel_rfl) ?_)
  refine Aw.rw (rwL (l' := [(8, .t (iT (0 : Nat))), (7, .t (iT r.length)), (1, .t (.c (.fn 75 [.ph 0 0 0]))), (0, .t (runT r))]) (os := [some (stO s)]) (M := [0]) (n' := 1) (by repeat (first | exact trivial | refine ⟨rfl, rfl, ?_⟩)) (by rfl) (by simp only [go_sem, reduceEqDiff, reduceIte, reduceAdd, reduceMul, reduceSub, reduceLT, reduceLeDiff, Nat.reduceBEq]; first | done | rfl) (by decide) (by intro m hm; first | omega | (rcases m with _ | _ | _ | _ | _ | _ | m <;> first | exact ⟨by decide, rfl⟩ | omega))) ?_
  refine Aw_loop_rw (ι := { j : Nat // j ≤ r.length ∧ ∀ q, q < j → ∀ y, r[q]? = some y → decide (s.time < y.time) = false }) (fun j => S [(8, .t (iT (j.1 : Nat))), (7, .t (iT r.length)), (1, .t (.c (.fn 75 [.ph 0 0 0]))), (0, .t (runT r))] (hpL [some (stO s)]) 1) (fun j => r.length - j.1) ⟨0, Nat.zero_le _, fun j hj => absurd hj (by omega)⟩ ?_
  rintro ⟨j, hj, hq⟩
  dsimp only
  by_cases hjl : j < r.length
  · have g1 : (j : Int) < (r.length : Int) := by omega
    have g2 := wrap_succ hjl hl
    obtain ⟨y, hy⟩ : ∃ e, r[j]? = some e := ⟨_, List.getElem?_eq_getElem hjl⟩
    have hv := late_ac s y
    cases c1 : decide (s.time < y.time)
    · rw [c1] at hv
      repeat (first | apply Aw_seq | apply Aw_block | apply Aw_skip | apply Aw_exit | refine Aw_condt rfl ?_ | refine Aw_condf rfl ?_ | ((first | refine qr ?_ | refine qd (by kernel_rfl) (by kernel_rfl) ?_); simp only [go_sem, reduceEqDiff, reduceIte, reduceAdd, reduceMul, reduceSub, reduceLT, reduceLeDiff, Nat.reduceBEq, g1, hy, g2]) | refine dk (by kernel_rfl) ?_ | (refine ex_callv (by simp only [go_sem, reduceEqDiff, reduceIte, reduceAdd, reduceMul, reduceSub, reduceLT, reduceLeDiff, Nat.reduceBEq, g1, hy, g2]; first | done | rfl) (call_V (N' := [0]) (L := []) 1 (hv) rfl (.cons (.nm rfl) (.nil)) (by first | exact .cons (arg_nm rfl rfl) (.nil) | (simp only [capT, List.map]; exact .cons (arg_nm rfl rfl) (.nil))) (by decide) (by decide) (by decide) (by simp only [go_sem, reduceEqDiff, reduceIte, reduceAdd, reduceMul, reduceSub, reduceLT, reduceLeDiff, Nat.reduceBEq, g1, hy, g2]; first | done | rfl) (.inl rfl) rfl (by decide)) (by simp only [go_sem, reduceEqDiff, reduceIte, reduceAdd, reduceMul, reduceSub, reduceLT, reduceLeDiff, Nat.reduceBEq, g1, hy, g2]; first | done | rfl) rfl (by simp only [go_sem, Nat.reduceLT]) ?_; simp only [go_sem, reduceEqDiff, reduceIte, reduceAdd, reduceMul, reduceSub, reduceLT, reduceLeDiff, Nat.reduceBEq, g1, hy, g2]))
      refine ⟨⟨j + 1, by omega, fun q hqj z hz => by rcases Nat.lt_succ_iff_lt_or_eq.1 hqj with h | rfl; exact hq q h z hz; rw [hy] at hz; rw [← Option.some.inj hz]; exact c1⟩, [0], ?_, rwL (by repeat (first | exact trivial | refine ⟨rfl, rfl, ?_⟩)) (by rfl) (by simp only [go_sem, reduceEqDiff, reduceIte, reduceAdd, reduceMul, reduceSub, reduceLT, reduceLeDiff, Nat.reduceBEq]; first | done | rfl) (by decide) (by intro m hm; first | omega | (rcases m with _ | _ | _ | _ | _ | _ | m <;> first | exact ⟨by decide, rfl⟩ | omega))⟩
      show r.length - (j + 1) < r.length - j; omega
    · rw [c1] at hv
      rw [late_hit hy hq c1]
      repeat (first | apply Aw_seq | apply Aw_block | apply Aw_skip | apply Aw_exit | refine Aw_condt rfl ?_ | refine Aw_condf rfl ?_ | ((first | refine qr ?_ | refine qd (by kernel_rfl) (by kernel_rfl) ?_); simp only [go_sem, reduceEqDiff, reduceIte, reduceAdd, reduceMul, reduceSub, reduceLT, reduceLeDiff, Nat.reduceBEq, g1, hy, g2]) | refine dk (by kernel_rfl) ?_ | (refine ex_callv (by simp only [go_sem, reduceEqDiff, reduceIte, reduceAdd, reduceMul, reduceSub, reduceLT, reduceLeDiff, Nat.reduceBEq, g1, hy, g2]; first | done | rfl) (call_V (N' := [0]) (L := []) 1 (hv) rfl (.cons (.nm rfl) (.nil)) (by first | exact .cons (arg_nm rfl rfl) (.nil) | (simp only [capT, List.map]; exact .cons (arg_nm rfl rfl) (.nil))) (by decide) (by decide) (by decide) (by simp only [go_sem, reduceEqDiff, reduceIte, reduceAdd, reduceMul, reduceSub, reduceLT, reduceLeDiff, Nat.reduceBEq, g1, hy, g2]; first | done | rfl) (.inl rfl) rfl (by decide)) (by simp only [go_sem, reduceEqDiff, reduceIte, reduceAdd, reduceMul, reduceSub, reduceLT, reduceLeDiff, Nat.reduceBEq, g1, hy, g2]; first | done | rfl) rfl (by simp only [go_sem, Nat.reduceLT]) ?_; simp only [go_sem, reduceEqDiff, reduceIte, reduceAdd, reduceMul, reduceSub, reduceLT, reduceLeDiff, Nat.reduceBEq, g1, hy, g2]))
      exact Aw_ret (retL (M := [0]) (.inl rfl) (by simp only [go_sem, reduceEqDiff, reduceIte, reduceAdd, reduceMul, reduceSub, reduceLT, reduceLeDiff, Nat.reduceBEq]; first | done | rfl) rfl rfl (by rfl) (by simp only [go_sem, reduceEqDiff, reduceIte, reduceAdd, reduceMul, reduceSub, reduceLT, reduceLeDiff, Nat.reduceBEq]; first | done | rfl | (and_intros <;> rfl)) (by decide) (by intro m hm; first | omega | (rcases m with _ | _ | _ | _ | _ | _ | m <;> first | exact ⟨by decide, rfl⟩ | omega)))
  · have g1 : ¬ (j : Int) < (r.length : Int) := by omega
    obtain rfl : j = r.length := by omega
    rw [late_no hq]
    repeat (first | apply Aw_seq | apply Aw_block | apply Aw_skip | apply Aw_exit | refine Aw_condt rfl ?_ | refine Aw_condf rfl ?_ | ((first | refine qr ?_ | refine qd (by kernel_rfl) (by kernel_rfl) ?_); simp only [go_sem, reduceEqDiff, reduceIte, reduceAdd, reduceMul, reduceSub, reduceLT, reduceLeDiff, Nat.reduceBEq, g1]) | refine dk (by kernel_rfl) ?_)
    exact Aw_ret (retL (M := [0]) (.inl rfl) (by simp only [go_sem, reduceEqDiff, reduceIte, reduceAdd, reduceMul, reduceSub, reduceLT, reduceLeDiff, Nat.reduceBEq]; first | done | rfl) rfl rfl (by rfl) (by simp only [go_sem, reduceEqDiff, reduceIte, reduceAdd, reduceMul, reduceSub, reduceLT, reduceLeDiff, Nat.reduceBEq]; first | done | rfl | (and_intros <;> rfl)) (by decide) (by intro m hm; first | omega | (rcases m with _ | _ | _ | _ | _ | _ | m <;> first | exact ⟨by decide, rfl⟩ | omega)))
theorem hasLate_ac (s : Sto) (r : List Ent) (hl : r.length ≤ 1099511627776) : AC Tryz.prog 74 [runT r, .c (.fn 75 [.ph 0 0 0])] (hpL [some (stO s)]) 1 ⟨.t (bT (decide (0 ≤ lateI s r))), hpL [some (stO s)], 1⟩ := by
  refine AC_of Tryz.func74 rfl Tryz.ntmps74 Tryz.results74 (by kernel_rfl) rfl ?_
  simp only [List.zipIdx, List.map, Nat.zero_add, Nat.reduceAdd]
  repeat (first | apply Aw_seq | apply Aw_block | apply Aw_skip | apply Aw_exit | refine Aw_condt rfl ?_ | refine Aw_condf rfl ?_ | ((first | refine qr ?_ | refine qd (by kernel_rfl) (by kernel_rfl) ?_); simp only [go_sem, reduceEqDiff, reduceIte, reduceAdd, reduceMul, reduceSub, reduceLT, reduceLeDiff, Nat.reduceBEq]) | refine dk (by kernel_rfl) ?_ | (refine qx (call_L (N' := [0]) (L := []) (indexLate_ac s r hl) rfl (.cons (.nm rfl) (.cons (.nm rfl) (.nil))) (by decide) (by decide) (by decide) (by simp only [go_sem, reduceEqDiff, reduceIte, reduceAdd, reduceMul, reduceSub, reduceLT, reduceLeDiff, Nat.reduceBEq]; first | done | rfl) (.inl rfl) rfl (by decide)) (by simp only [go_sem, reduceEqDiff, reduceIte, reduceAdd, reduceMul, reduceSub, reduceLT, reduceLeDiff, Nat.reduceBEq]; first | done | rfl) rfl (by simp only [go_sem, Nat.reduceLT]) ?_; simp only [go_sem, reduceEqDiff, reduceIte, reduceAdd, reduceMul, reduceSub, reduceLT, reduceLeDiff, Nat.reduceBEq]))
  exact Aw_ret (retL (M := [0]) (.inl rfl) (by simp only [go_sem, reduceEqDiff, reduceIte, reduceAdd, reduceMul, reduceSub, reduceLT, reduceLeDiff, Nat.reduceBEq]; first | done | rfl) rfl rfl (by rfl) (by simp only [go_sem, reduceEqDiff, reduceIte, reduceAdd, reduceMul, reduceSub, reduceLT, reduceLeDiff, Nat.reduceBEq]; first | done | rfl | (and_intros <;> rfl)) (by decide) (by intro m hm; first | omega | (rcases m with _ | _ | _ | _ | _ | _ | m <;> first | exact ⟨by decide, rfl⟩ | omega)))
set_option maxHeartbeats 8000000
@[go_sem] theorem d_l11 (e k : Nat) (a0 b0 : D) : (⟨e, k, true, [[.d a0], [.d b0]]⟩ : Obj) = dRow e k [[a0], [b0]] := rfl
structure SmSt (s : Sto) : Prop where
  top : SmR s.top
  lev : ∀ r ∈ s.levels, SmR r
  ll : s.levels.length ≤ 1099511627776
  sl : s.sieves.length ≤ 1099511627776
  rl : ∀ x ∈ s.sieves, x.rests.length ≤ 1099511627776
  tl : s.times.length ≤ 1099511627776
/-- A level, and its sieve. -/
def lvM (keep : Int) (i : Nat) (r : List Ent) (x : Sve) : Bool := runOk r && decide (r.length ≤ 8 * (i + 1)) && (sieveM (keysM r) keep).isSome && sveEq ((sieveM (keysM r) keep).getD zSve) x
theorem skeysOfS_ac (r : List Ent) (hs : SmR r) : AC Tryz.prog 82 [runT r] noHp 0 ⟨.t (strsT (keysM r)), noHp, 0⟩ := AC.settle0 [0] (skeysOf_ac r hs) (SetC.row0 rfl rfl) rfl
def headM (s : Sto) : Bool := decide (s.levels.length = 3) && decide (s.sieves.length = 3) && runOk s.top && decide (s.top.length ≤ 4) && inB 0 s.time 999 && timesM s.times s.time
theorem keysM_sub {r : List Ent} : ∀ k ∈ keysM r, ∃ e ∈ r, e.key = k := by
  intro k hk
  unfold keysM colI at hk
  obtain ⟨i, hi, hk⟩ := List.mem_flatMap.1 hk
  unfold keyAt at hk
  cases hr : r[i]? with
  | none => rw [hr] at hk; simp at hk
  | some e =>
    rw [hr] at hk
    refine ⟨e, List.mem_of_getElem? hr, ?_⟩
    simp only [] at hk
    split at hk
    · exact (List.mem_singleton.1 hk).symm
    · split at hk
      · split at hk
        · simp at hk
        · exact (List.mem_singleton.1 hk).symm
      · exact (List.mem_singleton.1 hk).symm
theorem smS_keys {r : List Ent} (hs : SmR r) : SmS (keysM r) := by
  refine ⟨?_, fun k hk => ?_⟩
  · have := colI_len (n := r.length) (keyAt_len r)
    have h2 := hs.len
    unfold keysM; omega
  · obtain ⟨e, he, rfl⟩ := keysM_sub k hk
    exact hs.key e he
theorem bfs_len {keep : Nat} : ∀ (n : Nat) (q : List (List ByteArray × Nat)), (∀ f ∈ q, Fork f) → (bfs keep n q).rests.length ≤ wts q
  | 0, q, _ => by simp [bfs, zPut]
  | n + 1, [], _ => by simp [bfs, zPut]
  | n + 1, f :: q, h => by
    have hff := h f (by simp)
    have ih := bfs_len (keep := keep) n (q ++ (node keep f).kids) fun g hg => by
      rcases List.mem_append.1 hg with hg | hg
      · exact h g (List.mem_cons_of_mem _ hg)
      · exact node_fork hff g hg
    have rb := runs_b keep f.2 hff.dep 49 (spl f.2 f.1)
    rw [spl_flat f.2 _ f.1 (Nat.le_refl _)] at rb
    have rl := (runs_len keep f.2 49 (spl f.2 f.1)).1
    have e1 : (node keep f).rests.length + wts (node keep f).kids < wt f := by unfold node wt; omega
    simp only [bfs, Put.add, List.length_append]
    rw [wts_app] at ih
    rw [wts_cons]
    omega
theorem sieveM_len {ks : List ByteArray} {keep : Int} {z : Sve} (h : sieveM ks keep = some z) : z.rests.length ≤ 1099511627776 := by
  unfold sieveM at h
  split at h
  · rename_i hc
    obtain ⟨hl, hf, _⟩ := ksOk_iff hc.1
    have h0 := rest0 (keep := keep.toNat) hf hl
    have e := Option.some.inj h
    rw [← e]
    show (bfsF keep.toNat [(ks, 0)]).rests.length ≤ _
    have hb := bfs_len (keep := keep.toNat) (wts [(ks, 0)]) [(ks, 0)] fun f hf' => by rw [List.mem_singleton.1 hf']; exact hf
    have e2 : wts [(ks, 0)] ≤ 200 := by rw [wts_one]; unfold wt; simp only []; omega
    unfold bfsF
    omega
  · cases h
theorem l12Level_ac (s : Sto) (i : Nat) (r : List Ent) (x : Sve) (hi : i ≤ 1000) (hr : s.levels[i]? = some r) (hx : s.sieves[i]? = some x) (hsr : SmR r) : AC Tryz.prog 56 [stT s, iT i] noHp 0 ⟨.t (bT (lvM s.keep i r x)), noHp, 0⟩ := by
  refine AC_of Tryz.func56 rfl Tryz.ntmps56 Tryz.results56 (by kernel_rfl) rfl ?_
  simp only [List.zipIdx, List.map, Nat.zero_add, Nat.reduceAdd]
  have k1 := skeysOfS_ac r hsr
  have k3 := srunOk_ac r hsr
  have k4 := l12Size_ac i hi
  cases a1 : runOk r
  · rw [a1] at k3
    have e : lvM s.keep i r x = false := by unfold lvM; rw [a1]; rfl
    rw [e]
    repeat (first | apply Aw_seq | apply Aw_block | apply Aw_skip | apply Aw_exit | refine Aw_condt rfl ?_ | refine Aw_condf rfl ?_ | ((first | refine qr ?_ | refine qd (by kernel_rfl) (by kernel_rfl) ?_); simp only [go_sem, reduceEqDiff, reduceIte, reduceAdd, reduceMul, reduceSub, reduceLT, reduceLeDiff, Nat.reduceBEq, hr]) | refine dk (by kernel_rfl) ?_ | (refine qp (k3) (by simp only [go_sem, reduceEqDiff, reduceIte, reduceAdd, reduceMul, reduceSub, reduceLT, reduceLeDiff, Nat.reduceBEq, hr]; first | done | rfl) rfl (by simp only [go_sem, Nat.reduceLT]) rfl rfl ?_; simp only [go_sem, reduceEqDiff, reduceIte, reduceAdd, reduceMul, reduceSub, reduceLT, reduceLeDiff, Nat.reduceBEq, hr]))
    exact Aw_ret (ret0 (.inl rfl) (by simp only [go_sem, reduceEqDiff, reduceIte, reduceAdd, reduceMul, reduceSub, reduceLT, reduceLeDiff, Nat.reduceBEq]; rfl) (by rfl) rfl)
  rw [a1] at k3
  cases a2 : decide (((8 * (i + 1) : Nat) : Int) < (r.length : Int))
  case true =>
    have e : lvM s.keep i r x = false := by unfold lvM; rw [decide_eq_false (by have := of_decide_eq_true a2; omega : ¬ r.length ≤ 8 * (i + 1))]; simp
    rw [e]
    repeat (first | apply Aw_seq | apply Aw_block | apply Aw_skip | apply Aw_exit | refine Aw_condt rfl ?_ | refine Aw_condf rfl ?_ | ((first | refine qr ?_ | refine qd (by kernel_rfl) (by kernel_rfl) ?_); simp only [go_sem, reduceEqDiff, reduceIte, reduceAdd, reduceMul, reduceSub, reduceLT, reduceLeDiff, Nat.reduceBEq, hr, a2]) | refine dk (by kernel_rfl) ?_ | (refine qp (k3) (by simp only [go_sem, reduceEqDiff, reduceIte, reduceAdd, reduceMul, reduceSub, reduceLT, reduceLeDiff, Nat.reduceBEq, hr, a2]; first | done | rfl) rfl (by simp only [go_sem, Nat.reduceLT]) rfl rfl ?_; simp only [go_sem, reduceEqDiff, reduceIte, reduceAdd, reduceMul, reduceSub, reduceLT, reduceLeDiff, Nat.reduceBEq, hr, a2]) | (refine qp (k4) (by simp only [go_sem, reduceEqDiff, reduceIte, reduceAdd, reduceMul, reduceSub, reduceLT, reduceLeDiff, Nat.reduceBEq, hr, a2]; first | done | rfl) rfl (by simp only [go_sem, Nat.reduceLT]) rfl rfl ?_; simp only [go_sem, reduceEqDiff, reduceIte, reduceAdd, reduceMul, reduceSub, reduceLT, reduceLeDiff, Nat.reduceBEq, hr, a2]))
    exact Aw_ret (ret0 (.inl rfl) (by simp only [go_sem, reduceEqDiff, reduceIte, reduceAdd, reduceMul, reduceSub, reduceLT, reduceLeDiff, Nat.reduceBEq]; rfl) (by rfl) rfl)
  have hrl : r.length ≤ 8 * (i + 1) := by have := of_decide_eq_false a2; omega
  have k2 := ssieveS_ac (keysM r) s.keep (smS_keys hsr)
  obtain ⟨y, hy⟩ : ∃ y, y = (sieveM (keysM r) s.keep).getD zSve := ⟨_, rfl⟩
  rw [← hy] at k2
  have hyl : y.rests.length ≤ 1099511627776 := by
    rw [hy]
    cases hm : sieveM (keysM r) s.keep with
    | none => simp [zSve]
    | some z => exact sieveM_len hm
  have k5 := l3Sames_ac y.rests x.rests hyl
  have e : lvM s.keep i r x = ((sieveM (keysM r) s.keep).isSome && sveEq y x) := by unfold lvM; rw [← hy, a1, decide_eq_true hrl]; rfl
  rw [e]
  cases a3 : (sieveM (keysM r) s.keep).isSome
  · rw [a3] at k2
    repeat (first | apply Aw_seq | apply Aw_block | apply Aw_skip | apply Aw_exit | refine Aw_condt rfl ?_ | refine Aw_condf rfl ?_ | ((first | refine qr ?_ | refine qd (by kernel_rfl) (by kernel_rfl) ?_); simp only [go_sem, reduceEqDiff, reduceIte, reduceAdd, reduceMul, reduceSub, reduceLT, reduceLeDiff, Nat.reduceBEq, hr, hx, a2]) | refine dk (by kernel_rfl) ?_ | (refine qp (k1) (by simp only [go_sem, reduceEqDiff, reduceIte, reduceAdd, reduceMul, reduceSub, reduceLT, reduceLeDiff, Nat.reduceBEq, hr, hx, a2]; first | done | rfl) rfl (by simp only [go_sem, Nat.reduceLT]) rfl rfl ?_; simp only [go_sem, reduceEqDiff, reduceIte, reduceAdd, reduceMul, reduceSub, reduceLT, reduceLeDiff, Nat.reduceBEq, hr, hx, a2]) | (refine qp (k2) (by simp only [go_sem, reduceEqDiff, reduceIte, reduceAdd, reduceMul, reduceSub, reduceLT, reduceLeDiff, Nat.reduceBEq, hr, hx, a2]; first | done | rfl) rfl (by simp only [go_sem, Nat.reduceLT]) rfl rfl ?_; simp only [go_sem, reduceEqDiff, reduceIte, reduceAdd, reduceMul, reduceSub, reduceLT, reduceLeDiff, Nat.reduceBEq, hr, hx, a2]) | (refine qp (k3) (by simp only [go_sem, reduceEqDiff, reduceIte, reduceAdd, reduceMul, reduceSub, reduceLT, reduceLeDiff, Nat.reduceBEq, hr, hx, a2]; first | done | rfl) rfl (by simp only [go_sem, Nat.reduceLT]) rfl rfl ?_; simp only [go_sem, reduceEqDiff, reduceIte, reduceAdd, reduceMul, reduceSub, reduceLT, reduceLeDiff, Nat.reduceBEq, hr, hx, a2]) | (refine qp (k4) (by simp only [go_sem, reduceEqDiff, reduceIte, reduceAdd, reduceMul, reduceSub, reduceLT, reduceLeDiff, Nat.reduceBEq, hr, hx, a2]; first | done | rfl) rfl (by simp only [go_sem, Nat.reduceLT]) rfl rfl ?_; simp only [go_sem, reduceEqDiff, reduceIte, reduceAdd, reduceMul, reduceSub, reduceLT, reduceLeDiff, Nat.reduceBEq, hr, hx, a2]))
    exact Aw_ret (ret0 (.inl rfl) (by simp only [go_sem, reduceEqDiff, reduceIte, reduceAdd, reduceMul, reduceSub, reduceLT, reduceLeDiff, Nat.reduceBEq]; rfl) (by rfl) rfl)
  rw [a3] at k2
  cases c1 : decide (y.letters = x.letters)
  · repeat (first | apply Aw_seq | apply Aw_block | apply Aw_skip | apply Aw_exit | refine Aw_condt rfl ?_ | refine Aw_condf rfl ?_ | ((first | refine qr ?_ | refine qd (by kernel_rfl) (by kernel_rfl) ?_); simp only [go_sem, reduceEqDiff, reduceIte, reduceAdd, reduceMul, reduceSub, reduceLT, reduceLeDiff, Nat.reduceBEq, hr, hx, a2, c1]) | refine dk (by kernel_rfl) ?_ | (refine qp (k1) (by simp only [go_sem, reduceEqDiff, reduceIte, reduceAdd, reduceMul, reduceSub, reduceLT, reduceLeDiff, Nat.reduceBEq, hr, hx, a2, c1]; first | done | rfl) rfl (by simp only [go_sem, Nat.reduceLT]) rfl rfl ?_; simp only [go_sem, reduceEqDiff, reduceIte, reduceAdd, reduceMul, reduceSub, reduceLT, reduceLeDiff, Nat.reduceBEq, hr, hx, a2, c1]) | (refine qp (k2) (by simp only [go_sem, reduceEqDiff, reduceIte, reduceAdd, reduceMul, reduceSub, reduceLT, reduceLeDiff, Nat.reduceBEq, hr, hx, a2, c1]; first | done | rfl) rfl (by simp only [go_sem, Nat.reduceLT]) rfl rfl ?_; simp only [go_sem, reduceEqDiff, reduceIte, reduceAdd, reduceMul, reduceSub, reduceLT, reduceLeDiff, Nat.reduceBEq, hr, hx, a2, c1]) | (refine qp (k3) (by simp only [go_sem, reduceEqDiff, reduceIte, reduceAdd, reduceMul, reduceSub, reduceLT, reduceLeDiff, Nat.reduceBEq, hr, hx, a2, c1]; first | done | rfl) rfl (by simp only [go_sem, Nat.reduceLT]) rfl rfl ?_; simp only [go_sem, reduceEqDiff, reduceIte, reduceAdd, reduceMul, reduceSub, reduceLT, reduceLeDiff, Nat.reduceBEq, hr, hx, a2, c1]) | (refine qp (k4) (by simp only [go_sem, reduceEqDiff, reduceIte, reduceAdd, reduceMul, reduceSub, reduceLT, reduceLeDiff, Nat.reduceBEq, hr, hx, a2, c1]; first | done | rfl) rfl (by simp only [go_sem, Nat.reduceLT]) rfl rfl ?_; simp only [go_sem, reduceEqDiff, reduceIte, reduceAdd, reduceMul, reduceSub, reduceLT, reduceLeDiff, Nat.reduceBEq, hr, hx, a2, c1]))
    exact Aw_ret (ret0 (.inl rfl) (by simp only [go_sem, reduceEqDiff, reduceIte, reduceAdd, reduceMul, reduceSub, reduceLT, reduceLeDiff, Nat.reduceBEq]; rfl) (by unfold sveEq; simp [c1]) rfl)
  cases c2 : decide (y.more = x.more)
  · repeat (first | apply Aw_seq | apply Aw_block | apply Aw_skip | apply Aw_exit | refine Aw_condt rfl ?_ | refine Aw_condf rfl ?_ | ((first | refine qr ?_ | refine qd (by kernel_rfl) (by kernel_rfl) ?_); simp only [go_sem, reduceEqDiff, reduceIte, reduceAdd, reduceMul, reduceSub, reduceLT, reduceLeDiff, Nat.reduceBEq, hr, hx, a2, c1, c2]) | refine dk (by kernel_rfl) ?_ | (refine qp (k1) (by simp only [go_sem, reduceEqDiff, reduceIte, reduceAdd, reduceMul, reduceSub, reduceLT, reduceLeDiff, Nat.reduceBEq, hr, hx, a2, c1, c2]; first | done | rfl) rfl (by simp only [go_sem, Nat.reduceLT]) rfl rfl ?_; simp only [go_sem, reduceEqDiff, reduceIte, reduceAdd, reduceMul, reduceSub, reduceLT, reduceLeDiff, Nat.reduceBEq, hr, hx, a2, c1, c2]) | (refine qp (k2) (by simp only [go_sem, reduceEqDiff, reduceIte, reduceAdd, reduceMul, reduceSub, reduceLT, reduceLeDiff, Nat.reduceBEq, hr, hx, a2, c1, c2]; first | done | rfl) rfl (by simp only [go_sem, Nat.reduceLT]) rfl rfl ?_; simp only [go_sem, reduceEqDiff, reduceIte, reduceAdd, reduceMul, reduceSub, reduceLT, reduceLeDiff, Nat.reduceBEq, hr, hx, a2, c1, c2]) | (refine qp (k3) (by simp only [go_sem, reduceEqDiff, reduceIte, reduceAdd, reduceMul, reduceSub, reduceLT, reduceLeDiff, Nat.reduceBEq, hr, hx, a2, c1, c2]; first | done | rfl) rfl (by simp only [go_sem, Nat.reduceLT]) rfl rfl ?_; simp only [go_sem, reduceEqDiff, reduceIte, reduceAdd, reduceMul, reduceSub, reduceLT, reduceLeDiff, Nat.reduceBEq, hr, hx, a2, c1, c2]) | (refine qp (k4) (by simp only [go_sem, reduceEqDiff, reduceIte, reduceAdd, reduceMul, reduceSub, reduceLT, reduceLeDiff, Nat.reduceBEq, hr, hx, a2, c1, c2]; first | done | rfl) rfl (by simp only [go_sem, Nat.reduceLT]) rfl rfl ?_; simp only [go_sem, reduceEqDiff, reduceIte, reduceAdd, reduceMul, reduceSub, reduceLT, reduceLeDiff, Nat.reduceBEq, hr, hx, a2, c1, c2]))
    exact Aw_ret (ret0 (.inl rfl) (by simp only [go_sem, reduceEqDiff, reduceIte, reduceAdd, reduceMul, reduceSub, reduceLT, reduceLeDiff, Nat.reduceBEq]; rfl) (by unfold sveEq; simp [c1, c2]) rfl)
  cases c3 : decide (y.first = x.first)
  · repeat (first | apply Aw_seq | apply Aw_block | apply Aw_skip | apply Aw_exit | refine Aw_condt rfl ?_ | refine Aw_condf rfl ?_ | ((first | refine qr ?_ | refine qd (by kernel_rfl) (by kernel_rfl) ?_); simp only [go_sem, reduceEqDiff, reduceIte, reduceAdd, reduceMul, reduceSub, reduceLT, reduceLeDiff, Nat.reduceBEq, hr, hx, a2, c1, c2, c3]) | refine dk (by kernel_rfl) ?_ | (refine qp (k1) (by simp only [go_sem, reduceEqDiff, reduceIte, reduceAdd, reduceMul, reduceSub, reduceLT, reduceLeDiff, Nat.reduceBEq, hr, hx, a2, c1, c2, c3]; first | done | rfl) rfl (by simp only [go_sem, Nat.reduceLT]) rfl rfl ?_; simp only [go_sem, reduceEqDiff, reduceIte, reduceAdd, reduceMul, reduceSub, reduceLT, reduceLeDiff, Nat.reduceBEq, hr, hx, a2, c1, c2, c3]) | (refine qp (k2) (by simp only [go_sem, reduceEqDiff, reduceIte, reduceAdd, reduceMul, reduceSub, reduceLT, reduceLeDiff, Nat.reduceBEq, hr, hx, a2, c1, c2, c3]; first | done | rfl) rfl (by simp only [go_sem, Nat.reduceLT]) rfl rfl ?_; simp only [go_sem, reduceEqDiff, reduceIte, reduceAdd, reduceMul, reduceSub, reduceLT, reduceLeDiff, Nat.reduceBEq, hr, hx, a2, c1, c2, c3]) | (refine qp (k3) (by simp only [go_sem, reduceEqDiff, reduceIte, reduceAdd, reduceMul, reduceSub, reduceLT, reduceLeDiff, Nat.reduceBEq, hr, hx, a2, c1, c2, c3]; first | done | rfl) rfl (by simp only [go_sem, Nat.reduceLT]) rfl rfl ?_; simp only [go_sem, reduceEqDiff, reduceIte, reduceAdd, reduceMul, reduceSub, reduceLT, reduceLeDiff, Nat.reduceBEq, hr, hx, a2, c1, c2, c3]) | (refine qp (k4) (by simp only [go_sem, reduceEqDiff, reduceIte, reduceAdd, reduceMul, reduceSub, reduceLT, reduceLeDiff, Nat.reduceBEq, hr, hx, a2, c1, c2, c3]; first | done | rfl) rfl (by simp only [go_sem, Nat.reduceLT]) rfl rfl ?_; simp only [go_sem, reduceEqDiff, reduceIte, reduceAdd, reduceMul, reduceSub, reduceLT, reduceLeDiff, Nat.reduceBEq, hr, hx, a2, c1, c2, c3]))
    exact Aw_ret (ret0 (.inl rfl) (by simp only [go_sem, reduceEqDiff, reduceIte, reduceAdd, reduceMul, reduceSub, reduceLT, reduceLeDiff, Nat.reduceBEq]; rfl) (by unfold sveEq; simp [c1, c2, c3]) rfl)
  cases c4 : decide (y.keep = x.keep)
  · repeat (first | apply Aw_seq | apply Aw_block | apply Aw_skip | apply Aw_exit | refine Aw_condt rfl ?_ | refine Aw_condf rfl ?_ | ((first | refine qr ?_ | refine qd (by kernel_rfl) (by kernel_rfl) ?_); simp only [go_sem, reduceEqDiff, reduceIte, reduceAdd, reduceMul, reduceSub, reduceLT, reduceLeDiff, Nat.reduceBEq, hr, hx, a2, c1, c2, c3, c4]) | refine dk (by kernel_rfl) ?_ | (refine qp (k1) (by simp only [go_sem, reduceEqDiff, reduceIte, reduceAdd, reduceMul, reduceSub, reduceLT, reduceLeDiff, Nat.reduceBEq, hr, hx, a2, c1, c2, c3, c4]; first | done | rfl) rfl (by simp only [go_sem, Nat.reduceLT]) rfl rfl ?_; simp only [go_sem, reduceEqDiff, reduceIte, reduceAdd, reduceMul, reduceSub, reduceLT, reduceLeDiff, Nat.reduceBEq, hr, hx, a2, c1, c2, c3, c4]) | (refine qp (k2) (by simp only [go_sem, reduceEqDiff, reduceIte, reduceAdd, reduceMul, reduceSub, reduceLT, reduceLeDiff, Nat.reduceBEq, hr, hx, a2, c1, c2, c3, c4]; first | done | rfl) rfl (by simp only [go_sem, Nat.reduceLT]) rfl rfl ?_; simp only [go_sem, reduceEqDiff, reduceIte, reduceAdd, reduceMul, reduceSub, reduceLT, reduceLeDiff, Nat.reduceBEq, hr, hx, a2, c1, c2, c3, c4]) | (refine qp (k3) (by simp only [go_sem, reduceEqDiff, reduceIte, reduceAdd, reduceMul, reduceSub, reduceLT, reduceLeDiff, Nat.reduceBEq, hr, hx, a2, c1, c2, c3, c4]; first | done | rfl) rfl (by simp only [go_sem, Nat.reduceLT]) rfl rfl ?_; simp only [go_sem, reduceEqDiff, reduceIte, reduceAdd, reduceMul, reduceSub, reduceLT, reduceLeDiff, Nat.reduceBEq, hr, hx, a2, c1, c2, c3, c4]) | (refine qp (k4) (by simp only [go_sem, reduceEqDiff, reduceIte, reduceAdd, reduceMul, reduceSub, reduceLT, reduceLeDiff, Nat.reduceBEq, hr, hx, a2, c1, c2, c3, c4]; first | done | rfl) rfl (by simp only [go_sem, Nat.reduceLT]) rfl rfl ?_; simp only [go_sem, reduceEqDiff, reduceIte, reduceAdd, reduceMul, reduceSub, reduceLT, reduceLeDiff, Nat.reduceBEq, hr, hx, a2, c1, c2, c3, c4]))
    exact Aw_ret (ret0 (.inl rfl) (by simp only [go_sem, reduceEqDiff, reduceIte, reduceAdd, reduceMul, reduceSub, reduceLT, reduceLeDiff, Nat.reduceBEq]; rfl) (by unfold sveEq; simp [c1, c2, c3, c4]) rfl)
  repeat (first | apply Aw_seq | apply Aw_block | apply Aw_skip | apply Aw_exit | refine Aw_condt rfl ?_ | refine Aw_condf rfl ?_ | ((first | refine qr ?_ | refine qd (by kernel_rfl) (by kernel_rfl) ?_); simp only [go_sem, reduceEqDiff, reduceIte, reduceAdd, reduceMul, reduceSub, reduceLT, reduceLeDiff, Nat.reduceBEq, hr, hx, a2, c1, c2, c3, c4]) | refine dk (by kernel_rfl) ?_ | (refine qp (k1) (by simp only [go_sem, reduceEqDiff, reduceIte, reduceAdd, reduceMul, reduceSub, reduceLT, reduceLeDiff, Nat.reduceBEq, hr, hx, a2, c1, c2, c3, c4]; first | done | rfl) rfl (by simp only [go_sem, Nat.reduceLT]) rfl rfl ?_; simp only [go_sem, reduceEqDiff, reduceIte, reduceAdd, reduceMul, reduceSub, reduceLT, reduceLeDiff, Nat.reduceBEq, hr, hx, a2, c1, c2, c3, c4]) | (refine qp (k2) (by simp only [go_sem, reduceEqDiff, reduceIte, reduceAdd, reduceMul, reduceSub, reduceLT, reduceLeDiff, Nat.reduceBEq, hr, hx, a2, c1, c2, c3, c4]; first | done | rfl) rfl (by simp only [go_sem, Nat.reduceLT]) rfl rfl ?_; simp only [go_sem, reduceEqDiff, reduceIte, reduceAdd, reduceMul, reduceSub, reduceLT, reduceLeDiff, Nat.reduceBEq, hr, hx, a2, c1, c2, c3, c4]) | (refine qp (k3) (by simp only [go_sem, reduceEqDiff, reduceIte, reduceAdd, reduceMul, reduceSub, reduceLT, reduceLeDiff, Nat.reduceBEq, hr, hx, a2, c1, c2, c3, c4]; first | done | rfl) rfl (by simp only [go_sem, Nat.reduceLT]) rfl rfl ?_; simp only [go_sem, reduceEqDiff, reduceIte, reduceAdd, reduceMul, reduceSub, reduceLT, reduceLeDiff, Nat.reduceBEq, hr, hx, a2, c1, c2, c3, c4]) | (refine qp (k4) (by simp only [go_sem, reduceEqDiff, reduceIte, reduceAdd, reduceMul, reduceSub, reduceLT, reduceLeDiff, Nat.reduceBEq, hr, hx, a2, c1, c2, c3, c4]; first | done | rfl) rfl (by simp only [go_sem, Nat.reduceLT]) rfl rfl ?_; simp only [go_sem, reduceEqDiff, reduceIte, reduceAdd, reduceMul, reduceSub, reduceLT, reduceLeDiff, Nat.reduceBEq, hr, hx, a2, c1, c2, c3, c4]) | (refine qp (k5) (by simp only [go_sem, reduceEqDiff, reduceIte, reduceAdd, reduceMul, reduceSub, reduceLT, reduceLeDiff, Nat.reduceBEq, hr, hx, a2, c1, c2, c3, c4]; first | done | rfl) rfl (by simp only [go_sem, Nat.reduceLT]) rfl rfl ?_; simp only [go_sem, reduceEqDiff, reduceIte, reduceAdd, reduceMul, reduceSub, reduceLT, reduceLeDiff, Nat.reduceBEq, hr, hx, a2, c1, c2, c3, c4]))
  exact Aw_ret (ret0 (.inl rfl) (by simp only [go_sem, reduceEqDiff, reduceIte, reduceAdd, reduceMul, reduceSub, reduceLT, reduceLeDiff, Nat.reduceBEq]; rfl) (by unfold sveEq; simp [c1, c2, c3, c4]) rfl)
def sPair (s : Sto) (i k : Nat) : Bool := match s.levels[i]?, s.levels[k]? with
  | some r, some b => newestM r b s.time
  | _, _ => true
def sAt (s : Sto) (i : Nat) : Bool := (match s.levels[i]?, s.sieves[i]? with
  | some r, some x => lvM s.keep i r x && newestM s.top r s.time
  | _, _ => true) && allI 3 (fun k => decide (k ≤ i) || sPair s i k)
def headS (s : Sto) : Bool := decide (s.levels.length = 3) && decide (s.sieves.length = 3) && inB 0 s.keep 5 && inB 0 s.time 999 && timesM s.times s.time && runOk s.top && decide (s.top.length ≤ 4)
def storeS (s : Sto) : Bool := headS s && allI 3 (sAt s)
theorem sstoreOk_ac (s : Sto) (hs : SmSt s) : AC Tryz.prog 19 [stT s] noHp 0 ⟨.t (bT (storeS s)), noHp, 0⟩ := by
  refine AC_of Tryz.func19 rfl Tryz.ntmps19 Tryz.results19 (by kernel_rfl) rfl ?_
  simp only [List.zipIdx, List.map, Nat.zero_add, Nat.reduceAdd]
  cases c1 : decide ((s.levels.length : Int) = 3)
  · repeat (first | apply Aw_seq | apply Aw_block | apply Aw_skip | apply Aw_exit | refine Aw_condt rfl ?_ | refine Aw_condf rfl ?_ | ((first | refine qr ?_ | refine qd (by kernel_rfl) (by kernel_rfl) ?_); simp only [go_sem, reduceEqDiff, reduceIte, reduceAdd, reduceMul, reduceSub, reduceLT, reduceLeDiff, Nat.reduceBEq, c1]) | refine dk (by kernel_rfl) ?_)
    exact Aw_ret (ret0 (.inl rfl) (by simp only [go_sem, reduceEqDiff, reduceIte, reduceAdd, reduceMul, reduceSub, reduceLT, reduceLeDiff, Nat.reduceBEq]; rfl) (by unfold storeS headS; rw [decide_eq_false (by have := of_decide_eq_false c1; omega : ¬ s.levels.length = 3)]; rfl) rfl)
  cases c2 : decide ((s.sieves.length : Int) = 3)
  · repeat (first | apply Aw_seq | apply Aw_block | apply Aw_skip | apply Aw_exit | refine Aw_condt rfl ?_ | refine Aw_condf rfl ?_ | ((first | refine qr ?_ | refine qd (by kernel_rfl) (by kernel_rfl) ?_); simp only [go_sem, reduceEqDiff, reduceIte, reduceAdd, reduceMul, reduceSub, reduceLT, reduceLeDiff, Nat.reduceBEq, c1, c2]) | refine dk (by kernel_rfl) ?_)
    exact Aw_ret (ret0 (.inl rfl) (by simp only [go_sem, reduceEqDiff, reduceIte, reduceAdd, reduceMul, reduceSub, reduceLT, reduceLeDiff, Nat.reduceBEq]; rfl) (by unfold storeS headS; rw [decide_eq_false (by have := of_decide_eq_false c2; omega : ¬ s.sieves.length = 3)]; simp) rfl)
  cases c0 : inB 0 s.keep 5
  · repeat (first | apply Aw_seq | apply Aw_block | apply Aw_skip | apply Aw_exit | refine Aw_condt rfl ?_ | refine Aw_condf rfl ?_ | ((first | refine qr ?_ | refine qd (by kernel_rfl) (by kernel_rfl) ?_); simp only [go_sem, reduceEqDiff, reduceIte, reduceAdd, reduceMul, reduceSub, reduceLT, reduceLeDiff, Nat.reduceBEq, c1, c2, c0]) | refine dk (by kernel_rfl) ?_ | (refine qp (l6In_ac _ _ _) (by simp only [go_sem, reduceEqDiff, reduceIte, reduceAdd, reduceMul, reduceSub, reduceLT, reduceLeDiff, Nat.reduceBEq, c1, c2, c0]; first | done | rfl) rfl (by simp only [go_sem, Nat.reduceLT]) rfl rfl ?_; simp only [go_sem, reduceEqDiff, reduceIte, reduceAdd, reduceMul, reduceSub, reduceLT, reduceLeDiff, Nat.reduceBEq, c1, c2, c0]))
    exact Aw_ret (ret0 (.inl rfl) (by simp only [go_sem, reduceEqDiff, reduceIte, reduceAdd, reduceMul, reduceSub, reduceLT, reduceLeDiff, Nat.reduceBEq]; rfl) (by unfold storeS headS; simp [c0]) rfl)
  cases c5 : inB 0 s.time 999
  · repeat (first | apply Aw_seq | apply Aw_block | apply Aw_skip | apply Aw_exit | refine Aw_condt rfl ?_ | refine Aw_condf rfl ?_ | ((first | refine qr ?_ | refine qd (by kernel_rfl) (by kernel_rfl) ?_); simp only [go_sem, reduceEqDiff, reduceIte, reduceAdd, reduceMul, reduceSub, reduceLT, reduceLeDiff, Nat.reduceBEq, c1, c2, c0, c5]) | refine dk (by kernel_rfl) ?_ | (refine qp (l6In_ac _ _ _) (by simp only [go_sem, reduceEqDiff, reduceIte, reduceAdd, reduceMul, reduceSub, reduceLT, reduceLeDiff, Nat.reduceBEq, c1, c2, c0, c5]; first | done | rfl) rfl (by simp only [go_sem, Nat.reduceLT]) rfl rfl ?_; simp only [go_sem, reduceEqDiff, reduceIte, reduceAdd, reduceMul, reduceSub, reduceLT, reduceLeDiff, Nat.reduceBEq, c1, c2, c0, c5]))
    exact Aw_ret (ret0 (.inl rfl) (by simp only [go_sem, reduceEqDiff, reduceIte, reduceAdd, reduceMul, reduceSub, reduceLT, reduceLeDiff, Nat.reduceBEq]; rfl) (by unfold storeS headS; simp [c5]) rfl)
  cases c6 : timesM s.times s.time
  · repeat (first | apply Aw_seq | apply Aw_block | apply Aw_skip | apply Aw_exit | refine Aw_condt rfl ?_ | refine Aw_condf rfl ?_ | ((first | refine qr ?_ | refine qd (by kernel_rfl) (by kernel_rfl) ?_); simp only [go_sem, reduceEqDiff, reduceIte, reduceAdd, reduceMul, reduceSub, reduceLT, reduceLeDiff, Nat.reduceBEq, c1, c2, c0, c5, c6]) | refine dk (by kernel_rfl) ?_ | (refine qp (l6In_ac _ _ _) (by simp only [go_sem, reduceEqDiff, reduceIte, reduceAdd, reduceMul, reduceSub, reduceLT, reduceLeDiff, Nat.reduceBEq, c1, c2, c0, c5, c6]; first | done | rfl) rfl (by simp only [go_sem, Nat.reduceLT]) rfl rfl ?_; simp only [go_sem, reduceEqDiff, reduceIte, reduceAdd, reduceMul, reduceSub, reduceLT, reduceLeDiff, Nat.reduceBEq, c1, c2, c0, c5, c6]) | (refine qp (l12Times_ac _ _ hs.tl) (by simp only [go_sem, reduceEqDiff, reduceIte, reduceAdd, reduceMul, reduceSub, reduceLT, reduceLeDiff, Nat.reduceBEq, c1, c2, c0, c5, c6]; first | done | rfl) rfl (by simp only [go_sem, Nat.reduceLT]) rfl rfl ?_; simp only [go_sem, reduceEqDiff, reduceIte, reduceAdd, reduceMul, reduceSub, reduceLT, reduceLeDiff, Nat.reduceBEq, c1, c2, c0, c5, c6]))
    exact Aw_ret (ret0 (.inl rfl) (by simp only [go_sem, reduceEqDiff, reduceIte, reduceAdd, reduceMul, reduceSub, reduceLT, reduceLeDiff, Nat.reduceBEq]; rfl) (by unfold storeS headS; simp [c6]) rfl)
  cases c3 : runOk s.top
  · repeat (first | apply Aw_seq | apply Aw_block | apply Aw_skip | apply Aw_exit | refine Aw_condt rfl ?_ | refine Aw_condf rfl ?_ | ((first | refine qr ?_ | refine qd (by kernel_rfl) (by kernel_rfl) ?_); simp only [go_sem, reduceEqDiff, reduceIte, reduceAdd, reduceMul, reduceSub, reduceLT, reduceLeDiff, Nat.reduceBEq, c1, c2, c0, c5, c6, c3]) | refine dk (by kernel_rfl) ?_ | (refine qp (l6In_ac _ _ _) (by simp only [go_sem, reduceEqDiff, reduceIte, reduceAdd, reduceMul, reduceSub, reduceLT, reduceLeDiff, Nat.reduceBEq, c1, c2, c0, c5, c6, c3]; first | done | rfl) rfl (by simp only [go_sem, Nat.reduceLT]) rfl rfl ?_; simp only [go_sem, reduceEqDiff, reduceIte, reduceAdd, reduceMul, reduceSub, reduceLT, reduceLeDiff, Nat.reduceBEq, c1, c2, c0, c5, c6, c3]) | (refine qp (l12Times_ac _ _ hs.tl) (by simp only [go_sem, reduceEqDiff, reduceIte, reduceAdd, reduceMul, reduceSub, reduceLT, reduceLeDiff, Nat.reduceBEq, c1, c2, c0, c5, c6, c3]; first | done | rfl) rfl (by simp only [go_sem, Nat.reduceLT]) rfl rfl ?_; simp only [go_sem, reduceEqDiff, reduceIte, reduceAdd, reduceMul, reduceSub, reduceLT, reduceLeDiff, Nat.reduceBEq, c1, c2, c0, c5, c6, c3]) | (refine qp (srunOk_ac _ hs.top) (by simp only [go_sem, reduceEqDiff, reduceIte, reduceAdd, reduceMul, reduceSub, reduceLT, reduceLeDiff, Nat.reduceBEq, c1, c2, c0, c5, c6, c3]; first | done | rfl) rfl (by simp only [go_sem, Nat.reduceLT]) rfl rfl ?_; simp only [go_sem, reduceEqDiff, reduceIte, reduceAdd, reduceMul, reduceSub, reduceLT, reduceLeDiff, Nat.reduceBEq, c1, c2, c0, c5, c6, c3]))
    exact Aw_ret (ret0 (.inl rfl) (by simp only [go_sem, reduceEqDiff, reduceIte, reduceAdd, reduceMul, reduceSub, reduceLT, reduceLeDiff, Nat.reduceBEq]; rfl) (by unfold storeS headS; simp [c3]) rfl)
  cases c4 : decide ((4 : Int) < (s.top.length : Int))
  case true =>
    repeat (first | apply Aw_seq | apply Aw_block | apply Aw_skip | apply Aw_exit | refine Aw_condt rfl ?_ | refine Aw_condf rfl ?_ | ((first | refine qr ?_ | refine qd (by kernel_rfl) (by kernel_rfl) ?_); simp only [go_sem, reduceEqDiff, reduceIte, reduceAdd, reduceMul, reduceSub, reduceLT, reduceLeDiff, Nat.reduceBEq, c1, c2, c0, c5, c6, c3, c4]) | refine dk (by kernel_rfl) ?_ | (refine qp (l6In_ac _ _ _) (by simp only [go_sem, reduceEqDiff, reduceIte, reduceAdd, reduceMul, reduceSub, reduceLT, reduceLeDiff, Nat.reduceBEq, c1, c2, c0, c5, c6, c3, c4]; first | done | rfl) rfl (by simp only [go_sem, Nat.reduceLT]) rfl rfl ?_; simp only [go_sem, reduceEqDiff, reduceIte, reduceAdd, reduceMul, reduceSub, reduceLT, reduceLeDiff, Nat.reduceBEq, c1, c2, c0, c5, c6, c3, c4]) | (refine qp (l12Times_ac _ _ hs.tl) (by simp only [go_sem, reduceEqDiff, reduceIte, reduceAdd, reduceMul, reduceSub, reduceLT, reduceLeDiff, Nat.reduceBEq, c1, c2, c0, c5, c6, c3, c4]; first | done | rfl) rfl (by simp only [go_sem, Nat.reduceLT]) rfl rfl ?_; simp only [go_sem, reduceEqDiff, reduceIte, reduceAdd, reduceMul, reduceSub, reduceLT, reduceLeDiff, Nat.reduceBEq, c1, c2, c0, c5, c6, c3, c4]) | (refine qp (srunOk_ac _ hs.top) (by simp only [go_sem, reduceEqDiff, reduceIte, reduceAdd, reduceMul, reduceSub, reduceLT, reduceLeDiff, Nat.reduceBEq, c1, c2, c0, c5, c6, c3, c4]; first | done | rfl) rfl (by simp only [go_sem, Nat.reduceLT]) rfl rfl ?_; simp only [go_sem, reduceEqDiff, reduceIte, reduceAdd, reduceMul, reduceSub, reduceLT, reduceLeDiff, Nat.reduceBEq, c1, c2, c0, c5, c6, c3, c4]))
    exact Aw_ret (ret0 (.inl rfl) (by simp only [go_sem, reduceEqDiff, reduceIte, reduceAdd, reduceMul, reduceSub, reduceLT, reduceLeDiff, Nat.reduceBEq]; rfl) (by unfold storeS headS; rw [decide_eq_false (by have := of_decide_eq_true c4; omega : ¬ s.top.length ≤ 4)]; simp) rfl)
  repeat (first | apply Aw_seq | apply Aw_block | apply Aw_skip | apply Aw_exit | refine Aw_condt rfl ?_ | refine Aw_condf rfl ?_ | ((first | refine qr ?_ | refine qd (by kernel_rfl) (by kernel_rfl) ?_); simp only [go_sem, reduceEqDiff, reduceIte, reduceAdd, reduceMul, reduceSub, reduceLT, reduceLeDiff, Nat.reduceBEq, c1, c2, c0, c5, c6, c3, c4]) | refine dk (by kernel_rfl) ?_ | (refine qp (l6In_ac _ _ _) (by simp only [go_sem, reduceEqDiff, reduceIte, reduceAdd, reduceMul, reduceSub, reduceLT, reduceLeDiff, Nat.reduceBEq, c1, c2, c0, c5, c6, c3, c4]; first | done | rfl) rfl (by simp only [go_sem, Nat.reduceLT]) rfl rfl ?_; simp only [go_sem, reduceEqDiff, reduceIte, reduceAdd, reduceMul, reduceSub, reduceLT, reduceLeDiff, Nat.reduceBEq, c1, c2, c0, c5, c6, c3, c4]) | (refine qp (l12Times_ac _ _ hs.tl) (by simp only [go_sem, reduceEqDiff, reduceIte, reduceAdd, reduceMul, reduceSub, reduceLT, reduceLeDiff, Nat.reduceBEq, c1, c2, c0, c5, c6, c3, c4]; first | done | rfl) rfl (by simp only [go_sem, Nat.reduceLT]) rfl rfl ?_; simp only [go_sem, reduceEqDiff, reduceIte, reduceAdd, reduceMul, reduceSub, reduceLT, reduceLeDiff, Nat.reduceBEq, c1, c2, c0, c5, c6, c3, c4]) | (refine qp (srunOk_ac _ hs.top) (by simp only [go_sem, reduceEqDiff, reduceIte, reduceAdd, reduceMul, reduceSub, reduceLT, reduceLeDiff, Nat.reduceBEq, c1, c2, c0, c5, c6, c3, c4]; first | done | rfl) rfl (by simp only [go_sem, Nat.reduceLT]) rfl rfl ?_; simp only [go_sem, reduceEqDiff, reduceIte, reduceAdd, reduceMul, reduceSub, reduceLT, reduceLeDiff, Nat.reduceBEq, c1, c2, c0, c5, c6, c3, c4]))
  have d1 : s.levels.length = 3 := by have := of_decide_eq_true c1; omega
  have d2 : s.sieves.length = 3 := by have := of_decide_eq_true c2; omega
  have d4 : s.top.length ≤ 4 := by have := of_decide_eq_false c4; omega
  have hh : headS s = true := by
    unfold headS
    rw [decide_eq_true d1, decide_eq_true d2, decide_eq_true d4, c0, c3, c5, c6]; rfl
  refine Aw.rw (rwL (l' := [(3, .t (iT (0 : Nat))), (1, .t (.c (.ph 0 0 0)))]) (os := [some (stO s)]) (M := [0]) (n' := 1) (by repeat (first | exact trivial | refine ⟨rfl, rfl, ?_⟩)) (by rfl) (by simp only [go_sem, reduceEqDiff, reduceIte, reduceAdd, reduceMul, reduceSub, reduceLT, reduceLeDiff, Nat.reduceBEq]; first | done | rfl) (by decide) (by intro m hm; first | omega | (rcases m with _ | _ | _ | _ | _ | _ | m <;> first | exact ⟨by decide, rfl⟩ | omega))) ?_
  refine Aw_loop_rw (ι := { i : Nat // i ≤ 3 ∧ ∀ j, j < i → sAt s j = true }) (fun i => S [(3, .t (iT (i.1 : Nat))), (1, .t (.c (.ph 0 0 0)))] (hpL [some (stO s)]) 1) (fun i => 3 - i.1) ⟨0, by omega, fun j hj => absurd hj (by omega)⟩ ?_
  rintro ⟨i, hi, hp⟩
  dsimp only
  by_cases hlt : i < 3
  · have h1 : decide ((i : Int) < 3) = true := decide_eq_true (by omega)
    have h2 := wrap_succ (m := 3) hlt (by omega)
    obtain ⟨r, hr⟩ : ∃ r, s.levels[i]? = some r := ⟨_, List.getElem?_eq_getElem (by omega)⟩
    obtain ⟨x, hx⟩ : ∃ x, s.sieves[i]? = some x := ⟨_, List.getElem?_eq_getElem (by omega)⟩
    have hsr := hs.lev r (List.mem_of_getElem? hr)
    have k1 := l12Level_ac s i r x (by omega) hr hx hsr
    have k2 := l12Newest_ac s.top r s.time hs.top.len hsr
    have bad : sAt s i = false → storeS s = false := fun h => by unfold storeS; rw [allI_f (i := i) hlt h, Bool.and_false]
    have hat : sAt s i = (lvM s.keep i r x && newestM s.top r s.time && allI 3 (fun k => decide (k ≤ i) || sPair s i k)) := by unfold sAt; rw [hr, hx]
    cases a1 : lvM s.keep i r x
    · rw [a1] at k1
      rw [bad (by rw [hat, a1]; rfl)]
      repeat (first | apply Aw_seq | apply Aw_block | apply Aw_skip | apply Aw_exit | refine Aw_condt rfl ?_ | refine Aw_condf rfl ?_ | ((first | refine qr ?_ | refine qd (by kernel_rfl) (by kernel_rfl) ?_); simp only [go_sem, reduceEqDiff, reduceIte, reduceAdd, reduceMul, reduceSub, reduceLT, reduceLeDiff, Nat.reduceBEq, h1, hr]) | refine dk (by kernel_rfl) ?_ | (refine qp (k1) (by simp only [go_sem, reduceEqDiff, reduceIte, reduceAdd, reduceMul, reduceSub, reduceLT, reduceLeDiff, Nat.reduceBEq, h1, hr]; first | done | rfl) rfl (by simp only [go_sem, Nat.reduceLT]) rfl rfl ?_; simp only [go_sem, reduceEqDiff, reduceIte, reduceAdd, reduceMul, reduceSub, reduceLT, reduceLeDiff, Nat.reduceBEq, h1, hr]))
      exact Aw_ret (ret0 (.inl rfl) (by simp only [go_sem, reduceEqDiff, reduceIte, reduceAdd, reduceMul, reduceSub, reduceLT, reduceLeDiff, Nat.reduceBEq]; rfl) (by rfl) rfl)
    rw [a1] at k1
    cases a2 : newestM s.top r s.time
    · rw [a2] at k2
      rw [bad (by rw [hat, a2]; simp)]
      repeat (first | apply Aw_seq | apply Aw_block | apply Aw_skip | apply Aw_exit | refine Aw_condt rfl ?_ | refine Aw_condf rfl ?_ | ((first | refine qr ?_ | refine qd (by kernel_rfl) (by kernel_rfl) ?_); simp only [go_sem, reduceEqDiff, reduceIte, reduceAdd, reduceMul, reduceSub, reduceLT, reduceLeDiff, Nat.reduceBEq, h1, hr]) | refine dk (by kernel_rfl) ?_ | (refine qp (k1) (by simp only [go_sem, reduceEqDiff, reduceIte, reduceAdd, reduceMul, reduceSub, reduceLT, reduceLeDiff, Nat.reduceBEq, h1, hr]; first | done | rfl) rfl (by simp only [go_sem, Nat.reduceLT]) rfl rfl ?_; simp only [go_sem, reduceEqDiff, reduceIte, reduceAdd, reduceMul, reduceSub, reduceLT, reduceLeDiff, Nat.reduceBEq, h1, hr]) | (refine qp (k2) (by simp only [go_sem, reduceEqDiff, reduceIte, reduceAdd, reduceMul, reduceSub, reduceLT, reduceLeDiff, Nat.reduceBEq, h1, hr]; first | done | rfl) rfl (by simp only [go_sem, Nat.reduceLT]) rfl rfl ?_; simp only [go_sem, reduceEqDiff, reduceIte, reduceAdd, reduceMul, reduceSub, reduceLT, reduceLeDiff, Nat.reduceBEq, h1, hr]))
      exact Aw_ret (ret0 (.inl rfl) (by simp only [go_sem, reduceEqDiff, reduceIte, reduceAdd, reduceMul, reduceSub, reduceLT, reduceLeDiff, Nat.reduceBEq]; rfl) (by rfl) rfl)
    rw [a2] at k2
    repeat (first | apply Aw_seq | apply Aw_block | apply Aw_skip | apply Aw_exit | refine Aw_condt rfl ?_ | refine Aw_condf rfl ?_ | ((first | refine qr ?_ | refine qd (by kernel_rfl) (by kernel_rfl) ?_); simp only [go_sem, reduceEqDiff, reduceIte, reduceAdd, reduceMul, reduceSub, reduceLT, reduceLeDiff, Nat.reduceBEq, h1, hr, h2]) | refine dk (by kernel_rfl) ?_ | (refine qp (k1) (by simp only [go_sem, reduceEqDiff, reduceIte, reduceAdd, reduceMul, reduceSub, reduceLT, reduceLeDiff, Nat.reduceBEq, h1, hr, h2]; first | done | rfl) rfl (by simp only [go_sem, Nat.reduceLT]) rfl rfl ?_; simp only [go_sem, reduceEqDiff, reduceIte, reduceAdd, reduceMul, reduceSub, reduceLT, reduceLeDiff, Nat.reduceBEq, h1, hr, h2]) | (refine qp (k2) (by simp only [go_sem, reduceEqDiff, reduceIte, reduceAdd, reduceMul, reduceSub, reduceLT, reduceLeDiff, Nat.reduceBEq, h1, hr, h2]; first | done | rfl) rfl (by simp only [go_sem, Nat.reduceLT]) rfl rfl ?_; simp only [go_sem, reduceEqDiff, reduceIte, reduceAdd, reduceMul, reduceSub, reduceLT, reduceLeDiff, Nat.reduceBEq, h1, hr, h2]))
    refine Aw.rw (rwL (l' := [(4, .t (iT ((i + 1 : Nat) : Int))), (3, .t (iT (i : Nat))), (1, .t (.c (.ph 0 0 0)))]) (os := [some (stO s)]) (M := [0]) (n' := 1) (by repeat (first | exact trivial | refine ⟨rfl, rfl, ?_⟩)) (by rfl) (by simp only [go_sem, reduceEqDiff, reduceIte, reduceAdd, reduceMul, reduceSub, reduceLT, reduceLeDiff, Nat.reduceBEq]; first | done | rfl) (by decide) (by intro m hm; first | omega | (rcases m with _ | _ | _ | _ | _ | _ | m <;> first | exact ⟨by decide, rfl⟩ | omega))) ?_
    refine Aw_loop_rw (ι := { k : Nat // k ≤ 3 ∧ i < k ∧ ∀ q, i < q → q < k → sPair s i q = true }) (fun k => S [(4, .t (iT (k.1 : Nat))), (3, .t (iT (i : Nat))), (1, .t (.c (.ph 0 0 0)))] (hpL [some (stO s)]) 1) (fun k => 3 - k.1) ⟨i + 1, by omega, by omega, fun q h1 h2 => absurd h1 (by omega)⟩ ?_
    rintro ⟨k, hk, hik, hq⟩
    dsimp only
    by_cases hkl : k < 3
    · have g1 : decide ((k : Int) < 3) = true := decide_eq_true (by omega)
      have g2 := wrap_succ (m := 3) hkl (by omega)
      obtain ⟨b, hb⟩ : ∃ b, s.levels[k]? = some b := ⟨_, List.getElem?_eq_getElem (by omega)⟩
      have k3 := l12Newest_ac r b s.time hsr.len (hs.lev b (List.mem_of_getElem? hb))
      have hpr : sPair s i k = newestM r b s.time := by unfold sPair; rw [hr, hb]
      cases a3 : newestM r b s.time
      · rw [a3] at k3
        rw [bad (by rw [hat, allI_f (i := k) hkl (by rw [hpr, a3, decide_eq_false (by omega)]; rfl), Bool.and_false])]
        repeat (first | apply Aw_seq | apply Aw_block | apply Aw_skip | apply Aw_exit | refine Aw_condt rfl ?_ | refine Aw_condf rfl ?_ | ((first | refine qr ?_ | refine qd (by kernel_rfl) (by kernel_rfl) ?_); simp only [go_sem, reduceEqDiff, reduceIte, reduceAdd, reduceMul, reduceSub, reduceLT, reduceLeDiff, Nat.reduceBEq, g1, hr, hb]) | refine dk (by kernel_rfl) ?_ | (refine qp (k3) (by simp only [go_sem, reduceEqDiff, reduceIte, reduceAdd, reduceMul, reduceSub, reduceLT, reduceLeDiff, Nat.reduceBEq, g1, hr, hb]; first | done | rfl) rfl (by simp only [go_sem, Nat.reduceLT]) rfl rfl ?_; simp only [go_sem, reduceEqDiff, reduceIte, reduceAdd, reduceMul, reduceSub, reduceLT, reduceLeDiff, Nat.reduceBEq, g1, hr, hb]))
        exact Aw_ret (ret0 (.inl rfl) (by simp only [go_sem, reduceEqDiff, reduceIte, reduceAdd, reduceMul, reduceSub, reduceLT, reduceLeDiff, Nat.reduceBEq]; rfl) (by rfl) rfl)
      · rw [a3] at k3
        repeat (first | apply Aw_seq | apply Aw_block | apply Aw_skip | apply Aw_exit | refine Aw_condt rfl ?_ | refine Aw_condf rfl ?_ | ((first | refine qr ?_ | refine qd (by kernel_rfl) (by kernel_rfl) ?_); simp only [go_sem, reduceEqDiff, reduceIte, reduceAdd, reduceMul, reduceSub, reduceLT, reduceLeDiff, Nat.reduceBEq, g1, hr, hb, g2]) | refine dk (by kernel_rfl) ?_ | (refine qp (k3) (by simp only [go_sem, reduceEqDiff, reduceIte, reduceAdd, reduceMul, reduceSub, reduceLT, reduceLeDiff, Nat.reduceBEq, g1, hr, hb, g2]; first | done | rfl) rfl (by simp only [go_sem, Nat.reduceLT]) rfl rfl ?_; simp only [go_sem, reduceEqDiff, reduceIte, reduceAdd, reduceMul, reduceSub, reduceLT, reduceLeDiff, Nat.reduceBEq, g1, hr, hb, g2]))
        refine ⟨⟨k + 1, by omega, by omega, fun q q1 q2 => by rcases Nat.lt_succ_iff_lt_or_eq.1 q2 with h | rfl; exact hq q q1 h; rw [hpr, a3]⟩, [0], ?_, rwL (by repeat (first | exact trivial | refine ⟨rfl, rfl, ?_⟩)) (by rfl) (by simp only [go_sem, reduceEqDiff, reduceIte, reduceAdd, reduceMul, reduceSub, reduceLT, reduceLeDiff, Nat.reduceBEq]; first | done | rfl) (by decide) (by intro m hm; first | omega | (rcases m with _ | _ | _ | _ | _ | _ | m <;> first | exact ⟨by decide, rfl⟩ | omega))⟩
        show 3 - (k + 1) < 3 - k; omega
    · obtain rfl : k = 3 := by omega
      have g1 : decide (((3 : Nat) : Int) < 3) = false := rfl
      have hok : sAt s i = true := by
        rw [hat, a1, a2, allI_t (fun q hq3 => by
          by_cases h : q ≤ i
          · rw [decide_eq_true h]; rfl
          · rw [hq q (by omega) hq3, Bool.or_true])]; rfl
      repeat (first | apply Aw_seq | apply Aw_block | apply Aw_skip | apply Aw_exit | refine Aw_condt rfl ?_ | refine Aw_condf rfl ?_ | ((first | refine qr ?_ | refine qd (by kernel_rfl) (by kernel_rfl) ?_); simp only [go_sem, reduceEqDiff, reduceIte, reduceAdd, reduceMul, reduceSub, reduceLT, reduceLeDiff, Nat.reduceBEq, g1, h2]) | refine dk (by kernel_rfl) ?_)
      refine ⟨⟨i + 1, by omega, fun j hj => by rcases Nat.lt_succ_iff_lt_or_eq.1 hj with h | rfl; exact hp j h; exact hok⟩, [0], ?_, rwL (by repeat (first | exact trivial | refine ⟨rfl, rfl, ?_⟩)) (by rfl) (by simp only [go_sem, reduceEqDiff, reduceIte, reduceAdd, reduceMul, reduceSub, reduceLT, reduceLeDiff, Nat.reduceBEq]; first | done | rfl) (by decide) (by intro m hm; first | omega | (rcases m with _ | _ | _ | _ | _ | _ | m <;> first | exact ⟨by decide, rfl⟩ | omega))⟩
      show 3 - (i + 1) < 3 - i; omega
  · obtain rfl : i = 3 := by omega
    have h1 : decide (((3 : Nat) : Int) < 3) = false := rfl
    have hall : storeS s = true := by unfold storeS; rw [hh, allI_t hp]; rfl
    rw [hall]
    repeat (first | apply Aw_seq | apply Aw_block | apply Aw_skip | apply Aw_exit | refine Aw_condt rfl ?_ | refine Aw_condf rfl ?_ | ((first | refine qr ?_ | refine qd (by kernel_rfl) (by kernel_rfl) ?_); simp only [go_sem, reduceEqDiff, reduceIte, reduceAdd, reduceMul, reduceSub, reduceLT, reduceLeDiff, Nat.reduceBEq, h1]) | refine dk (by kernel_rfl) ?_)
    exact Aw_ret (ret0 (.inl rfl) (by simp only [go_sem, reduceEqDiff, reduceIte, reduceAdd, reduceMul, reduceSub, reduceLT, reduceLeDiff, Nat.reduceBEq]; rfl) (by rfl) rfl)
theorem len3 {α : Type} {l : List α} (h : l.length = 3) : ∃ a b c, l = [a, b, c] := by
  match l, h with
  | [a, b, c], _ => exact ⟨a, b, c, rfl⟩
inductive NilD : D → D → Prop
  | refl (x : D) : NilD x x
  | nil (k : Nat) : NilD (.s (.slice none 0 0)) (.rs k [])
  | rs {k : Nat} {els els' : List (List D)} (hl : els.length = els'.length) (hk : ∀ (i : Nat) cs cs', els[i]? = some cs → els'[i]? = some cs' → cs.length = cs'.length) (h : ∀ (i j : Nat) cs cs' x y, els[i]? = some cs → els'[i]? = some cs' → cs[j]? = some x → cs'[j]? = some y → NilD x y) : NilD (.rs k els) (.rs k els')
theorem NilD.rep {w : World} {S : Nat → Prop} {x y : D} (h : NilD x y) : ∀ {v : Value}, RepD w S x v → RepD w S y v := by
  induction h with
  | refl x => exact fun h => h
  | nil k =>
    intro v h
    cases h
    exact .rs (A := none) (cap := 0) (fun _ _ => .bool false) (Nat.le_refl _) (Nat.zero_le _) (by simp) (fun i j hi => absurd hi (by simp)) (fun i j cs x hi => by simp at hi)
  | @rs k els els' hl hk h ih =>
    intro v hv
    cases hv with
    | rs vals l1 l2 l3 l4 l5 =>
      rw [hl] at l1 ⊢
      refine .rs vals l1 l2 (fun cs' hcs => ?_) (fun i j hi hj => l4 i j (by omega) hj) (fun i j cs' y hi hj => ?_)
      · obtain ⟨i, hi⟩ := List.mem_iff_getElem?.1 hcs
        have hil := (List.getElem?_eq_some_iff.1 hi).1
        have h1 : els[i]? = some els[i] := List.getElem?_eq_getElem (by omega)
        rw [← hk i _ _ h1 hi]; exact l3 _ (List.mem_of_getElem? h1)
      · have hil := (List.getElem?_eq_some_iff.1 hi).1
        have h1 : els[i]? = some els[i] := List.getElem?_eq_getElem (by omega)
        have hjl := (List.getElem?_eq_some_iff.1 hj).1
        have h2 := hk i _ _ h1 hi
        have h3 : els[i][j]? = some (els[i][j]'(by omega)) := List.getElem?_eq_getElem (by omega)
        exact ih i j _ _ _ _ h1 hi h3 hj (l5 i j _ _ h1 h3)
def NilC (x y : CV) : Prop := x = y ∨ ∃ a b, x = .d a ∧ y = .d b ∧ NilD a b
def NilT : TV → TV → Prop
  | .c x, .c y => NilC x y
  | .agg xs, .agg ys => All2 NilC xs ys
  | _, _ => False
def NilA : AV → AV → Prop
  | .t x, .t y => NilT x y
  | .tup xs, .tup ys => All2 NilT xs ys
  | _, _ => False
theorem NilC.rep {c : Cx} {x y : CV} (h : NilC x y) {v : Value} (hr : RepC c x v) : RepC c y v := by
  rcases h with rfl | ⟨a, b, rfl, rfl, h⟩
  · exact hr
  · exact h.rep hr
theorem NilT.rep {c : Cx} {x y : TV} (h : NilT x y) {v : Value} (hr : RepT c x v) : RepT c y v := by
  cases x with
  | c x => cases y with
    | c y => exact NilC.rep h hr
    | agg _ => exact h.elim
  | agg xs => cases y with
    | c _ => exact h.elim
    | agg ys =>
      obtain ⟨vs, e, hv⟩ := hr
      exact ⟨vs, e, all2_rep (R := NilC) (T' := RepC c) (fun _ _ _ h1 h2 => NilC.rep h1 h2) h hv⟩
theorem NilA.rep {c : Cx} {x y : AV} (h : NilA x y) {v : Value} (hr : RepA c x v) : RepA c y v := by
  cases x with
  | dead => cases y <;> exact h.elim
  | t x => cases y with
    | t y => exact NilT.rep h hr
    | _ => exact h.elim
  | tup xs => cases y with
    | tup ys =>
      obtain ⟨vs, e, hv⟩ := hr
      exact ⟨vs, e, all2_rep (R := NilT) (T' := RepT c) (fun _ _ _ h1 h2 => NilT.rep h1 h2) h hv⟩
    | _ => exact h.elim
theorem AC.nilR {P : Program} {f : FuncId} {args : List TV} {hp hp' : Hp} {k n : Nat} {x y : AV} (h : AC P f args hp k ⟨x, hp', n⟩) (hx : NilA x y) : AC P f args hp k ⟨y, hp', n⟩ :=
  ⟨h.1, fun c vs g hU hA => Calls.mono (h.2 c vs g hU hA) fun e w' ⟨v, c', h1, h2, h3, h4, h5, h6⟩ => ⟨v, c', h1, h2, h3, h4, hx.rep h5, h6⟩⟩
theorem NilT.refl (x : TV) : NilT x x := by
  cases x with
  | c x => exact .inl rfl
  | agg xs => exact All2.of_get rfl fun i a b ha hb => by rw [ha] at hb; exact .inl (Option.some.inj hb)
theorem NilC.nil (k : Nat) : NilC (.d (.s (.slice none 0 0))) (.d (.rs k [])) := .inr ⟨_, _, rfl, rfl, .nil k⟩
theorem iref (a : Int) : decide (a = a) = true := decide_eq_true rfl
theorem bref (a : Bool) : (a == a) = true := by cases a <;> rfl
def eSve (keep : Int) : Sve := ⟨zs, zs, zs, [], keep⟩
def eSto (keep : Int) : Sto := ⟨[], [[], [], []], [eSve keep, eSve keep, eSve keep], keep, 0, []⟩
def zSto : Sto := ⟨[], [], [], 0, 0, []⟩
theorem fork0 : Fork ([], 0) := ⟨by omega, .nil, by simp, by simp⟩
theorem subB {l L : List Nat} (h : l.all L.contains = true) : ∀ m ∈ l, m ∈ L := fun m hm => by simpa using List.all_eq_true.1 h m hm
theorem bfs0 (keep : Nat) : bfsF keep [([], 0)] = ⟨[], [], [], [], []⟩ := by
  have hn : node keep ([], 0) = zPut := by unfold node; rw [spl_nil]; rfl
  rw [bfsF_cons (by intro g hg; obtain rfl : g = ([], 0) := by simpa using hg
                    exact fork0), hn]
  rfl
theorem t3 : Int.toNat 3 = 3 := rfl
theorem c03 : ((0 : Int) ≤ 3) = True := eq_true (by omega)
theorem c3b : ((3 : Int) ≤ 140737488355328) = True := eq_true (by omega)
theorem rep3 (x : List CV) : List.replicate 3 x = [x, x, x] := rfl
theorem e03 : decide ((0 : Int) < 3) = true := rfl
theorem e13 : decide ((1 : Int) < 3) = true := rfl
theorem e23 : decide ((2 : Int) < 3) = true := rfl
theorem e33 : decide ((3 : Int) < 3) = false := rfl
theorem w01 : IntKind.i64.wrap (0 + 1) = 1 := rfl
theorem w12 : IntKind.i64.wrap (1 + 1) = 2 := rfl
theorem w23 : IntKind.i64.wrap (2 + 1) = 3 := rfl
theorem AC.setL {P : Program} {f : FuncId} {args : List TV} {hp : Hp} {k : Nat} {x y : AV} {os os' : List (Option Obj)} {n : Nat} (L : List Nat) (h : AC P f args hp k ⟨x, hpL os, n⟩) (hr : SetA (hpL os) L x y) (hs : SubL L 0 os os') : AC P f args hp k ⟨y, hpL os', n⟩ :=
  AC.settle h hr (fun m o' hm => by
    obtain ⟨h1, h2⟩ := subL_get hs m o' hm
    exact ⟨by simpa using h1, o', h2, .inl rfl⟩) (Nat.le_refl n)
def svRow (l : List Sve) : Obj := dRow 62 5 (l.map sveD)
@[go_sem] theorem r_svRow (l : List Sve) : svRow l = dRow 62 5 (l.map sveD) := rfl
theorem inKeep {keep : Nat} (hk : keep ≤ 5) : inB 0 keep 5 = true := by unfold inB; rw [decide_eq_true (by omega), decide_eq_true (by omega)]; rfl
theorem sstoreNewR_ac (keep : Nat) (hk : keep ≤ 5) : AC Tryz.prog 116 [iT keep] noHp 0 ⟨.tup [.agg [.h 0, .h 2, .h 3, .d (.s (.int .i64 keep)), .d (.s (.int .i64 0)), .h 1], bT true],
    hpL [some (eRow []), some (dRow 3 1 []), some ⟨30, 1, true, [[.h 4], [.h 5], [.h 6]]⟩, some ⟨62, 5, true, [[.d (.s (.string zs)), .d (.s (.string zs)), .d (.s (.string zs)), .h 7, .d (.s (.int .i64 keep))], [.d (.s (.string zs)), .d (.s (.string zs)), .d (.s (.string zs)), .h 8, .d (.s (.int .i64 keep))], [.d (.s (.string zs)), .d (.s (.string zs)), .d (.s (.string zs)), .h 9, .d (.s (.int .i64 keep))]]⟩,
      some (eRow []), some (eRow []), some (eRow []), some (kRow []), some (kRow []), some (kRow [])], 10⟩ := by
  refine AC_of Tryz.func116 rfl Tryz.ntmps116 Tryz.results116 (by kernel_rfl) rfl ?_
  simp only [List.zipIdx, List.map, Nat.zero_add, Nat.reduceAdd]
  have h5 := inKeep hk
  repeat (first | apply Aw_seq | apply Aw_block | apply Aw_skip | apply Aw_exit | refine Aw_condt rfl ?_ | refine Aw_condf rfl ?_ | ((first | refine qr ?_ | refine qd (by kernel_rfl) (by kernel_rfl) ?_); simp only [go_sem, reduceEqDiff, reduceIte, reduceAdd, reduceMul, reduceSub, reduceLT, reduceLeDiff, Nat.reduceBEq, h5, t3, c03, c3b, rep3]) | refine dk (by kernel_rfl) ?_ | (refine qp (l6In_ac _ _ _) (by simp only [go_sem, reduceEqDiff, reduceIte, reduceAdd, reduceMul, reduceSub, reduceLT, reduceLeDiff, Nat.reduceBEq, h5, t3, c03, c3b, rep3]; first | done | rfl) rfl (by simp only [go_sem, Nat.reduceLT]) rfl rfl ?_; simp only [go_sem, reduceEqDiff, reduceIte, reduceAdd, reduceMul, reduceSub, reduceLT, reduceLeDiff, Nat.reduceBEq, h5, t3, c03, c3b, rep3]))
  refine Aw_rounds 4 ?_
  refine AwR_succ ?_
  repeat (first | apply Aw_seq | apply Aw_block | apply Aw_skip | apply Aw_exit | refine Aw_condt rfl ?_ | refine Aw_condf rfl ?_ | ((first | refine qr ?_ | refine qd (by kernel_rfl) (by kernel_rfl) ?_); simp only [go_sem, reduceEqDiff, reduceIte, reduceAdd, reduceMul, reduceSub, reduceLT, reduceLeDiff, Nat.reduceBEq, e03, w01]) | refine dk (by kernel_rfl) ?_)
  exact Aw_ret (retL (M := [4, 6, 59, 68, 15, 36, 57, 22, 43, 64]) (.inl rfl) (by simp only [go_sem, reduceEqDiff, reduceIte, reduceAdd, reduceMul, reduceSub, reduceLT, reduceLeDiff, Nat.reduceBEq]; first | done | rfl) rfl rfl (by rfl) (by simp only [go_sem, reduceEqDiff, reduceIte, reduceAdd, reduceMul, reduceSub, reduceLT, reduceLeDiff, Nat.reduceBEq]; first | done | rfl | (and_intros <;> rfl)) (by decide) (by intro m hm; first | omega | (rcases m with _ | _ | _ | _ | _ | _ | m <;> first | exact ⟨by decide, rfl⟩ | omega)))
theorem sstoreNew_ok (keep : Nat) (hk : keep ≤ 5) : AC Tryz.prog 116 [iT keep] noHp 0 ⟨.tup [stT (eSto keep), bT true], noHp, 0⟩ := by
  refine AC.settle0 [0, 1, 2, 3, 4, 5, 6, 7, 8, 9] (sstoreNewR_ac keep hk) (.cons (.cons (SetC.row0 rfl rfl) (.cons (.inr ⟨3, _, rfl, rfl, subB rfl⟩) (.cons (.inr ⟨3, _, rfl, rfl, subB rfl⟩) (.cons (.inl rfl) (.cons (.inl rfl) (.cons (SetC.row0 rfl rfl) .nil)))))) (.cons (.inl rfl) .nil)) rfl
def entV (e : Ent) : List Value := [.string e.key, .int .i64 e.val, .bool e.gone, .int .i64 e.time]
@[simp] theorem flat_eRow (r : List Ent) : (eRow r).flat = true := by
  unfold eRow
  rw [show r.map entD = (r.map entV).map (·.map D.s) by rw [List.map_map]; rfl]
  exact dRow_flat _ _ _
theorem lnBB {hp : Hp} {n : Nat} {a : TV} {L : List Nat} (h : (a.cells.all fun z => (lendN hp n z).all L.contains) = true) : ∀ z ∈ a.cells, ∀ m ∈ lendN hp n z, m ∈ L := fun z hz m hm => by
  have := List.all_eq_true.1 (List.all_eq_true.1 h z hz) m hm
  simpa using this
@[simp] theorem flat_kRow (r : List ByteArray) : (kRow r).flat = true := by
  unfold kRow
  rw [show r.map strD = (r.map fun s => [Value.string s]).map (·.map D.s) by rw [List.map_map]; rfl]
  exact dRow_flat _ _ _
theorem AC.toL0 {P : Program} {f : FuncId} {args : List TV} {x : AV} (h : AC P f args noHp 0 ⟨x, noHp, 0⟩) : AC P f args noHp 0 ⟨x, hpL [], 0⟩ := by rw [hpL_nil]; exact h
def joinM (a b : List Ent) : List Ent := List.merge a b before
theorem joinM_nil (a : List Ent) : joinM a [] = a := by unfold joinM; exact List.merge_right a
theorem joinM_cc (x y : Ent) (a b : List Ent) : joinM (x :: a) (y :: b) = if before x y = true then x :: joinM a (y :: b) else y :: joinM (x :: a) b := by
  unfold joinM; rw [List.cons_merge_cons]
theorem joinM_nc (y : Ent) (b : List Ent) : joinM [] (y :: b) = y :: joinM [] b := by
  unfold joinM; simp
theorem joinM_len (a b : List Ent) : (joinM a b).length = a.length + b.length := by unfold joinM; rw [List.length_merge]
theorem mem_joinM {a b : List Ent} {e : Ent} (h : e ∈ joinM a b) : e ∈ a ∨ e ∈ b := by unfold joinM at h; exact List.mem_merge.1 h
structure JnI (a b : List Ent) where
  P : List Ent
  i : Nat
  k : Nat
  hi : i ≤ a.length
  hk : k ≤ b.length
  hl : P.length = i + k
  h : P ++ joinM (a.drop i) (b.drop k) = joinM a b
theorem l11Join_ac (a b : List Ent) (ha : a.length ≤ 100000) (hb : b.length ≤ 100000) : AC Tryz.prog 162 [runT a, runT b] noHp 0 ⟨.t (.c (.h 0)), hpL [some (eRow (joinM a b))], 1⟩ := by
  refine AC_of Tryz.func162 rfl Tryz.ntmps162 Tryz.results162 (by kernel_rfl) rfl ?_
  simp only [List.zipIdx, List.map, Nat.zero_add, Nat.reduceAdd]
  repeat (first | apply Aw_seq | apply Aw_block | apply Aw_skip | apply Aw_exit | refine Aw_condt rfl ?_ | refine Aw_condf rfl ?_ | ((first | refine qr ?_ | refine qd (by kernel_rfl) (by kernel_rfl) ?_); simp only [go_sem, reduceEqDiff, reduceIte, reduceAdd, reduceMul, reduceSub, reduceLT, reduceLeDiff, Nat.reduceBEq]) | refine dk (by kernel_rfl) ?_)
  refine Aw.rw (rwL (l' := [(7, .t (iT (0 : Nat))), (6, .t (iT (0 : Nat))), (5, .t (.c (.h 0))), (1, .t (runT b)), (0, .t (runT a))]) (os := [some (eRow [])]) (M := [1]) (n' := 1) (by repeat (first | exact trivial | refine ⟨rfl, rfl, ?_⟩)) (by rfl) (by simp only [go_sem, reduceEqDiff, reduceIte, reduceAdd, reduceMul, reduceSub, reduceLT, reduceLeDiff, Nat.reduceBEq]; first | done | rfl) (by decide) (by intro m hm; first | omega | (rcases m with _ | _ | _ | _ | _ | _ | m <;> first | exact ⟨by decide, rfl⟩ | omega))) ?_
  refine Aw_loop_rw (ι := JnI a b) (fun q => S [(7, .t (iT (q.k : Nat))), (6, .t (iT (q.i : Nat))), (5, .t (.c (.h 0))), (1, .t (runT b)), (0, .t (runT a))] (hpL [some (eRow q.P)]) 1) (fun q => b.length - q.k) ⟨[], 0, 0, Nat.zero_le _, Nat.zero_le _, rfl, rfl⟩ ?_
  rintro ⟨P, i, k, hi, hk, hl, h⟩
  dsimp only
  by_cases hlt : k < b.length
  · have h1 : (k : Int) < (b.length : Int) := by omega
    have w1 := wrap_succ hlt (by omega)
    obtain ⟨y, hy⟩ : ∃ e, b[k]? = some e := ⟨_, List.getElem?_eq_getElem hlt⟩
    have hbd : b.drop k = y :: b.drop (k + 1) := by rw [List.drop_eq_getElem_cons hlt]; congr 1; rw [List.getElem?_eq_getElem hlt] at hy; exact Option.some.inj hy
    repeat (first | apply Aw_seq | apply Aw_block | apply Aw_skip | apply Aw_exit | refine Aw_condt rfl ?_ | refine Aw_condf rfl ?_ | ((first | refine qr ?_ | refine qd (by kernel_rfl) (by kernel_rfl) ?_); simp only [go_sem, reduceEqDiff, reduceIte, reduceAdd, reduceMul, reduceSub, reduceLT, reduceLeDiff, Nat.reduceBEq, h1]) | refine dk (by kernel_rfl) ?_)
    refine Aw.rw (rwL (l' := [(7, .t (iT (k : Nat))), (6, .t (iT (i : Nat))), (5, .t (.c (.h 0))), (1, .t (runT b)), (0, .t (runT a))]) (os := [some (eRow P)]) (M := [0]) (n' := 1) (by repeat (first | exact trivial | refine ⟨rfl, rfl, ?_⟩)) (by rfl) (by simp only [go_sem, reduceEqDiff, reduceIte, reduceAdd, reduceMul, reduceSub, reduceLT, reduceLeDiff, Nat.reduceBEq]; first | done | rfl) (by decide) (by intro m hm; first | omega | (rcases m with _ | _ | _ | _ | _ | _ | m <;> first | exact ⟨by decide, rfl⟩ | omega))) ?_
    refine Aw_loop_rw (ι := { q : JnI a b // q.k = k }) (fun q => S [(7, .t (iT (k : Nat))), (6, .t (iT (q.1.i : Nat))), (5, .t (.c (.h 0))), (1, .t (runT b)), (0, .t (runT a))] (hpL [some (eRow q.1.P)]) 1) (fun q => a.length - q.1.i) ⟨⟨P, i, k, hi, hk, hl, h⟩, rfl⟩ ?_
    clear h hl hi P i
    rintro ⟨⟨P, i, k', hi, hk', hl, h⟩, hkk⟩
    dsimp only at hkk ⊢
    subst hkk
    have hap : (P.length + 1) * 40 ≤ 140737488355328 := by omega
    by_cases hia : i < a.length
    · have h2 : (i : Int) < (a.length : Int) := by omega
      have w2 := wrap_succ hia (by omega)
      obtain ⟨x, hx⟩ : ∃ e, a[i]? = some e := ⟨_, List.getElem?_eq_getElem hia⟩
      have had : a.drop i = x :: a.drop (i + 1) := by rw [List.drop_eq_getElem_cons hia]; congr 1; rw [List.getElem?_eq_getElem hia] at hx; exact Option.some.inj hx
      cases c : before x y
      · have hj : (P ++ [y]) ++ joinM (a.drop i) (b.drop (k' + 1)) = joinM a b := by
          rw [← h, hbd, had, joinM_cc, if_neg (by rw [c]; simp)]; simp
        repeat (first | apply Aw_seq | apply Aw_block | apply Aw_skip | apply Aw_exit | refine Aw_condt rfl ?_ | refine Aw_condf rfl ?_ | ((first | refine qr ?_ | refine qd (by kernel_rfl) (by kernel_rfl) ?_); simp only [go_sem, reduceEqDiff, reduceIte, reduceAdd, reduceMul, reduceSub, reduceLT, reduceLeDiff, Nat.reduceBEq, h2, hx, hy, c, w1, hap]) | refine dk (by kernel_rfl) ?_ | (refine qp (sbefore_ac _ _) (by simp only [go_sem, reduceEqDiff, reduceIte, reduceAdd, reduceMul, reduceSub, reduceLT, reduceLeDiff, Nat.reduceBEq, h2, hx, hy, c, w1, hap]; first | done | rfl) rfl (by simp only [go_sem, Nat.reduceLT]) rfl rfl ?_; simp only [go_sem, reduceEqDiff, reduceIte, reduceAdd, reduceMul, reduceSub, reduceLT, reduceLeDiff, Nat.reduceBEq, h2, hx, hy, c, w1, hap]))
        refine ⟨⟨P ++ [y], i, k' + 1, hi, hlt, by simp; omega, hj⟩, [21], ?_, rwL (by repeat (first | exact trivial | refine ⟨rfl, rfl, ?_⟩)) (by rfl) (by simp only [go_sem, reduceEqDiff, reduceIte, reduceAdd, reduceMul, reduceSub, reduceLT, reduceLeDiff, Nat.reduceBEq, List.map_append, List.map_cons, List.map_nil]; first | done | rfl) (by decide) (by intro m hm; first | omega | (rcases m with _ | _ | _ | _ | _ | _ | m <;> first | exact ⟨by decide, rfl⟩ | omega))⟩
        show b.length - (k' + 1) < b.length - k'; omega
      · have hj : (P ++ [x]) ++ joinM (a.drop (i + 1)) (b.drop k') = joinM a b := by
          rw [← h, hbd, had, joinM_cc, if_pos c]; simp
        repeat (first | apply Aw_seq | apply Aw_block | apply Aw_skip | apply Aw_exit | refine Aw_condt rfl ?_ | refine Aw_condf rfl ?_ | ((first | refine qr ?_ | refine qd (by kernel_rfl) (by kernel_rfl) ?_); simp only [go_sem, reduceEqDiff, reduceIte, reduceAdd, reduceMul, reduceSub, reduceLT, reduceLeDiff, Nat.reduceBEq, h2, hx, hy, c, w2, hap]) | refine dk (by kernel_rfl) ?_ | (refine qp (sbefore_ac _ _) (by simp only [go_sem, reduceEqDiff, reduceIte, reduceAdd, reduceMul, reduceSub, reduceLT, reduceLeDiff, Nat.reduceBEq, h2, hx, hy, c, w2, hap]; first | done | rfl) rfl (by simp only [go_sem, Nat.reduceLT]) rfl rfl ?_; simp only [go_sem, reduceEqDiff, reduceIte, reduceAdd, reduceMul, reduceSub, reduceLT, reduceLeDiff, Nat.reduceBEq, h2, hx, hy, c, w2, hap]))
        refine ⟨⟨⟨P ++ [x], i + 1, k', hia, hk, by simp; omega, hj⟩, rfl⟩, [21], ?_, rwL (by repeat (first | exact trivial | refine ⟨rfl, rfl, ?_⟩)) (by rfl) (by simp only [go_sem, reduceEqDiff, reduceIte, reduceAdd, reduceMul, reduceSub, reduceLT, reduceLeDiff, Nat.reduceBEq, List.map_append, List.map_cons, List.map_nil]; first | done | rfl) (by decide) (by intro m hm; first | omega | (rcases m with _ | _ | _ | _ | _ | _ | m <;> first | exact ⟨by decide, rfl⟩ | omega))⟩
        show a.length - (i + 1) < a.length - i; omega
    · have h2 : ¬ (i : Int) < (a.length : Int) := by omega
      have hj : (P ++ [y]) ++ joinM (a.drop i) (b.drop (k' + 1)) = joinM a b := by
        rw [← h, hbd, List.drop_eq_nil_of_le (by omega : a.length ≤ i), joinM_nc]; simp
      repeat (first | apply Aw_seq | apply Aw_block | apply Aw_skip | apply Aw_exit | refine Aw_condt rfl ?_ | refine Aw_condf rfl ?_ | ((first | refine qr ?_ | refine qd (by kernel_rfl) (by kernel_rfl) ?_); simp only [go_sem, reduceEqDiff, reduceIte, reduceAdd, reduceMul, reduceSub, reduceLT, reduceLeDiff, Nat.reduceBEq, h2, hy, w1, hap]) | refine dk (by kernel_rfl) ?_)
      refine ⟨⟨P ++ [y], i, k' + 1, hi, hlt, by simp; omega, hj⟩, [13], ?_, rwL (by repeat (first | exact trivial | refine ⟨rfl, rfl, ?_⟩)) (by rfl) (by simp only [go_sem, reduceEqDiff, reduceIte, reduceAdd, reduceMul, reduceSub, reduceLT, reduceLeDiff, Nat.reduceBEq, List.map_append, List.map_cons, List.map_nil]; first | done | rfl) (by decide) (by intro m hm; first | omega | (rcases m with _ | _ | _ | _ | _ | _ | m <;> first | exact ⟨by decide, rfl⟩ | omega))⟩
      show b.length - (k' + 1) < b.length - k'; omega
  · have h1 : ¬ (k : Int) < (b.length : Int) := by omega
    have hj : P ++ a.drop i = joinM a b := by rw [← h, List.drop_eq_nil_of_le (by omega : b.length ≤ k), joinM_nil]
    have hap : (P.length + (a.length - i)) * 40 ≤ 140737488355328 := by omega
    rw [← hj]
    have i0 : (0 : Int) ≤ (i : Int) := by omega
    have i1 : (i : Int) ≤ (a.length : Int) := by omega
    have tn : Int.toNat ((i : Nat) : Int) = i := rfl
    have tn2 : Int.toNat ((a.length : Nat) : Int) = a.length := rfl
    have tk : List.take a.length (List.map entD a) = List.map entD a := by rw [List.take_of_length_le (by simp)]
    have td : List.drop i (List.map entD a) = List.map entD (a.drop i) := by rw [List.map_drop]
    repeat (first | apply Aw_seq | apply Aw_block | apply Aw_skip | apply Aw_exit | refine Aw_condt rfl ?_ | refine Aw_condf rfl ?_ | ((first | refine qr ?_ | refine qd (by kernel_rfl) (by kernel_rfl) ?_); simp only [go_sem, reduceEqDiff, reduceIte, reduceAdd, reduceMul, reduceSub, reduceLT, reduceLeDiff, Nat.reduceBEq, h1, hap, i0, i1, tn, tn2, tk, td, List.length_drop]) | refine dk (by kernel_rfl) ?_)
    exact Aw_ret (retL (M := [9]) (.inl rfl) (by simp only [go_sem, reduceEqDiff, reduceIte, reduceAdd, reduceMul, reduceSub, reduceLT, reduceLeDiff, Nat.reduceBEq]; first | done | rfl) rfl rfl (by rfl) (by simp only [go_sem, reduceEqDiff, reduceIte, reduceAdd, reduceMul, reduceSub, reduceLT, reduceLeDiff, Nat.reduceBEq, List.map_append, List.map_cons, List.map_nil]; first | done | rfl | (and_intros <;> rfl)) (by decide) (by intro m hm; first | omega | (rcases m with _ | _ | _ | _ | _ | _ | m <;> first | exact ⟨by decide, rfl⟩ | omega)))
theorem l11JoinS_ac (a b : List Ent) (ha : a.length ≤ 100000) (hb : b.length ≤ 100000) : AC Tryz.prog 162 [runT a, runT b] noHp 0 ⟨.t (runT (joinM a b)), noHp, 0⟩ := AC.settle0 [0] (l11Join_ac a b ha hb) (SetC.row0 rfl rfl) rfl
/-- Whether an entry is seen, though one of its key stands ahead of it. -/
def gapM (ts : List Int) (e p : Ent) : Bool := ts.any fun t => decide (e.time ≤ t) && decide (t < p.time)
def seenAt (r : List Ent) (ts : List Int) (i : Nat) : Bool := match r[i]? with
  | some e => (match i with
    | 0 => true
    | j + 1 => match r[j]? with
      | some p => !decide (p.key = e.key) || gapM ts e p
      | none => true)
  | none => true
theorem any_hit {α : Type} {p : α → Bool} {xs : List α} {i : Nat} {x : α} (h : xs[i]? = some x) (hp : p x = true) : xs.any p = true := List.any_eq_true.2 ⟨x, List.mem_of_getElem? h, hp⟩
theorem any_none {α : Type} {p : α → Bool} {xs : List α} (h : ∀ j, j < xs.length → ∀ y, xs[j]? = some y → p y = false) : xs.any p = false := by
  rw [List.any_eq_false]
  intro x hx
  obtain ⟨i, hi⟩ := List.mem_iff_getElem?.1 hx
  rw [h i (List.getElem?_eq_some_iff.1 hi).1 x hi]; simp
theorem l11Seen_ac (r : List Ent) (i : Nat) (ts : List Int) (e : Ent) (he : r[i]? = some e) (hr : r.length ≤ 1099511627776) (ht : ts.length ≤ 1099511627776) : AC Tryz.prog 166 [runT r, iT i, intsT ts] noHp 0 ⟨.t (bT (seenAt r ts i)), noHp, 0⟩ := by
  refine AC_of Tryz.func166 rfl Tryz.ntmps166 Tryz.results166 (by kernel_rfl) rfl ?_
  simp only [List.zipIdx, List.map, Nat.zero_add, Nat.reduceAdd]
  have hil := (List.getElem?_eq_some_iff.1 he).1
  rcases i with _ | j
  · have h5 : decide (((0 : Nat) : Int) = 0) = true := rfl
    have hs : seenAt r ts 0 = true := by unfold seenAt; rw [he]
    rw [hs]
    repeat (first | apply Aw_seq | apply Aw_block | apply Aw_skip | apply Aw_exit | refine Aw_condt rfl ?_ | refine Aw_condf rfl ?_ | ((first | refine qr ?_ | refine qd (by kernel_rfl) (by kernel_rfl) ?_); simp only [go_sem, reduceEqDiff, reduceIte, reduceAdd, reduceMul, reduceSub, reduceLT, reduceLeDiff, Nat.reduceBEq, h5]) | refine dk (by kernel_rfl) ?_)
    exact Aw_ret (ret0 (.inl rfl) (by simp only [go_sem, reduceEqDiff, reduceIte, reduceAdd, reduceMul, reduceSub, reduceLT, reduceLeDiff, Nat.reduceBEq]; rfl) (by rfl) rfl)
  · have h5 : decide (((j + 1 : Nat) : Int) = 0) = false := decide_eq_false (by omega)
    have h6 := wrap_pred (i := j) (by omega) hr
    obtain ⟨p, hy⟩ : ∃ e, r[j]? = some e := ⟨_, List.getElem?_eq_getElem (by omega)⟩
    cases c : decide (p.key = e.key)
    · have hs : seenAt r ts (j + 1) = true := by unfold seenAt; rw [he]; simp only [hy, c]; rfl
      rw [hs]
      repeat (first | apply Aw_seq | apply Aw_block | apply Aw_skip | apply Aw_exit | refine Aw_condt rfl ?_ | refine Aw_condf rfl ?_ | ((first | refine qr ?_ | refine qd (by kernel_rfl) (by kernel_rfl) ?_); simp only [go_sem, reduceEqDiff, reduceIte, reduceAdd, reduceMul, reduceSub, reduceLT, reduceLeDiff, Nat.reduceBEq, h5, h6, he, hy, c]) | refine dk (by kernel_rfl) ?_)
      exact Aw_ret (ret0 (.inl rfl) (by simp only [go_sem, reduceEqDiff, reduceIte, reduceAdd, reduceMul, reduceSub, reduceLT, reduceLeDiff, Nat.reduceBEq]; rfl) (by rfl) rfl)
    · have hs : seenAt r ts (j + 1) = gapM ts e p := by unfold seenAt; rw [he]; simp only [hy, c]; rfl
      rw [hs]
      repeat (first | apply Aw_seq | apply Aw_block | apply Aw_skip | apply Aw_exit | refine Aw_condt rfl ?_ | refine Aw_condf rfl ?_ | ((first | refine qr ?_ | refine qd (by kernel_rfl) (by kernel_rfl) ?_); simp only [go_sem, reduceEqDiff, reduceIte, reduceAdd, reduceMul, reduceSub, reduceLT, reduceLeDiff, Nat.reduceBEq, h5, h6, he, hy, c]) | refine dk (by kernel_rfl) ?_)
      refine Aw.rw (rw0 (l' := [(7, .t (iT (0 : Nat))), (2, .t (intsT ts)), (1, .t (iT ((j + 1 : Nat) : Int))), (0, .t (runT r))]) (n' := 0) (by repeat (first | exact trivial | refine ⟨rfl, rfl, ?_⟩))) ?_
      refine Aw_loop0 (ι := { i : Nat // i ≤ ts.length ∧ (∀ q, q < i → ∀ t, ts[q]? = some t → (decide (e.time ≤ t) && decide (t < p.time)) = false) }) (fun q => [(7, .t (iT (q.1 : Nat))), (2, .t (intsT ts)), (1, .t (iT ((j + 1 : Nat) : Int))), (0, .t (runT r))]) (fun q => ts.length - q.1) ⟨0, Nat.zero_le _, fun q hq => absurd hq (by omega)⟩ ?_
      rintro ⟨i, hi, hp⟩
      dsimp only
      by_cases hlt : i < ts.length
      · have h1 : (i : Int) < (ts.length : Int) := by omega
        have h2 := wrap_succ hlt ht
        obtain ⟨t, hx⟩ : ∃ t, ts[i]? = some t := ⟨_, List.getElem?_eq_getElem hlt⟩
        cases c1 : decide (e.time ≤ t)
        · repeat (first | apply Aw_seq | apply Aw_block | apply Aw_skip | apply Aw_exit | refine Aw_condt rfl ?_ | refine Aw_condf rfl ?_ | ((first | refine qr ?_ | refine qd (by kernel_rfl) (by kernel_rfl) ?_); simp only [go_sem, reduceEqDiff, reduceIte, reduceAdd, reduceMul, reduceSub, reduceLT, reduceLeDiff, Nat.reduceBEq, h1, h2, hx, he, c1]) | refine dk (by kernel_rfl) ?_)
          exact ⟨⟨i + 1, by omega, no_succ hp hx (by rw [c1]; rfl)⟩, (by simp only []; omega), rw0 (by repeat (first | exact trivial | refine ⟨rfl, rfl, ?_⟩))⟩
        · cases c2 : decide (t < p.time)
          · repeat (first | apply Aw_seq | apply Aw_block | apply Aw_skip | apply Aw_exit | refine Aw_condt rfl ?_ | refine Aw_condf rfl ?_ | ((first | refine qr ?_ | refine qd (by kernel_rfl) (by kernel_rfl) ?_); simp only [go_sem, reduceEqDiff, reduceIte, reduceAdd, reduceMul, reduceSub, reduceLT, reduceLeDiff, Nat.reduceBEq, h1, h2, hx, he, hy, h6, c1, c2]) | refine dk (by kernel_rfl) ?_)
            exact ⟨⟨i + 1, by omega, no_succ hp hx (by rw [c2]; simp)⟩, (by simp only []; omega), rw0 (by repeat (first | exact trivial | refine ⟨rfl, rfl, ?_⟩))⟩
          · have hg : gapM ts e p = true := any_hit hx (by rw [c1, c2]; rfl)
            rw [hg]
            repeat (first | apply Aw_seq | apply Aw_block | apply Aw_skip | apply Aw_exit | refine Aw_condt rfl ?_ | refine Aw_condf rfl ?_ | ((first | refine qr ?_ | refine qd (by kernel_rfl) (by kernel_rfl) ?_); simp only [go_sem, reduceEqDiff, reduceIte, reduceAdd, reduceMul, reduceSub, reduceLT, reduceLeDiff, Nat.reduceBEq, h1, h2, hx, he, hy, h6, c1, c2]) | refine dk (by kernel_rfl) ?_)
            exact Aw_ret (ret0 (.inl rfl) (by simp only [go_sem, reduceEqDiff, reduceIte, reduceAdd, reduceMul, reduceSub, reduceLT, reduceLeDiff, Nat.reduceBEq]; rfl) (by rfl) rfl)
      · have h1 : ¬ (i : Int) < (ts.length : Int) := by omega
        obtain rfl : i = ts.length := by omega
        have hg : gapM ts e p = false := any_none hp
        rw [hg]
        repeat (first | apply Aw_seq | apply Aw_block | apply Aw_skip | apply Aw_exit | refine Aw_condt rfl ?_ | refine Aw_condf rfl ?_ | ((first | refine qr ?_ | refine qd (by kernel_rfl) (by kernel_rfl) ?_); simp only [go_sem, reduceEqDiff, reduceIte, reduceAdd, reduceMul, reduceSub, reduceLT, reduceLeDiff, Nat.reduceBEq, h1]) | refine dk (by kernel_rfl) ?_)
        exact Aw_ret (ret0 (.inl rfl) (by simp only [go_sem, reduceEqDiff, reduceIte, reduceAdd, reduceMul, reduceSub, reduceLT, reduceLeDiff, Nat.reduceBEq]; rfl) (by rfl) rfl)
def trimAt (r : List Ent) (ts : List Int) (i : Nat) : List Ent := match r[i]? with
  | some e => if seenAt r ts i = true then [e] else []
  | none => []
def trim1 (r : List Ent) (ts : List Int) : List Ent := colI r.length (trimAt r ts)
def lastAt (r : List Ent) (e : Ent) (i : Nat) : Bool := match r[i + 1]? with
  | some q => !decide (q.key = e.key)
  | none => true
def lowAt (r : List Ent) (i : Nat) : List Ent := match r[i]? with
  | some e => if (!e.gone || !lastAt r e i) = true then [e] else []
  | none => []
def trim2 (r : List Ent) : List Ent := colI r.length (lowAt r)
def trimM (r : List Ent) (ts : List Int) (bottom : Bool) : List Ent := if bottom = true then trim2 (trim1 r ts) else trim1 r ts
theorem trimAt_len (r : List Ent) (ts : List Int) (i : Nat) : (trimAt r ts i).length ≤ 1 := by unfold trimAt; split <;> (try split) <;> simp
theorem lowAt_len (r : List Ent) (i : Nat) : (lowAt r i).length ≤ 1 := by unfold lowAt; split <;> (try split) <;> simp
theorem trim1_len (r : List Ent) (ts : List Int) : (trim1 r ts).length ≤ r.length := colI_len (trimAt_len r ts)
theorem trim2_len (r : List Ent) : (trim2 r).length ≤ r.length := colI_len (lowAt_len r)
theorem trimM_len (r : List Ent) (ts : List Int) (b : Bool) : (trimM r ts b).length ≤ r.length := by
  unfold trimM; split
  · exact Nat.le_trans (trim2_len _) (trim1_len r ts)
  · exact trim1_len r ts
theorem mem_colI {β : Type} {n : Nat} {f : Nat → List β} {x : β} (h : x ∈ colI n f) : ∃ i, i < n ∧ x ∈ f i := by
  unfold colI at h
  obtain ⟨i, hi, hx⟩ := List.mem_flatMap.1 h
  exact ⟨i, List.mem_range.1 hi, hx⟩
theorem mem_trim1 {r : List Ent} {ts : List Int} {e : Ent} (h : e ∈ trim1 r ts) : e ∈ r := by
  obtain ⟨i, _, hx⟩ := mem_colI h
  unfold trimAt at hx
  split at hx
  · rename_i e' he
    split at hx
    · obtain rfl : e = e' := by simpa using hx
      exact List.mem_of_getElem? he
    · simp at hx
  · simp at hx
theorem mem_trim2 {r : List Ent} {e : Ent} (h : e ∈ trim2 r) : e ∈ r := by
  obtain ⟨i, _, hx⟩ := mem_colI h
  unfold lowAt at hx
  split at hx
  · rename_i e' he
    split at hx
    · obtain rfl : e = e' := by simpa using hx
      exact List.mem_of_getElem? he
    · simp at hx
  · simp at hx
theorem mem_trimM {r : List Ent} {ts : List Int} {b : Bool} {e : Ent} (h : e ∈ trimM r ts b) : e ∈ r := by
  unfold trimM at h; split at h
  · exact mem_trim1 (mem_trim2 h)
  · exact mem_trim1 h
theorem l11Trim_ac (r : List Ent) (ts : List Int) (b : Bool) (hr : r.length ≤ 100000) (ht : ts.length ≤ 100000) : AC Tryz.prog 163 [runT r, intsT ts, bT b] noHp 0 ⟨.t (.c (.h 0)), hpL [some (eRow (trimM r ts b))], 1⟩ := by
  refine AC_of Tryz.func163 rfl Tryz.ntmps163 Tryz.results163 (by kernel_rfl) rfl ?_
  simp only [List.zipIdx, List.map, Nat.zero_add, Nat.reduceAdd]
  repeat (first | apply Aw_seq | apply Aw_block | apply Aw_skip | apply Aw_exit | refine Aw_condt rfl ?_ | refine Aw_condf rfl ?_ | ((first | refine qr ?_ | refine qd (by kernel_rfl) (by kernel_rfl) ?_); simp only [go_sem, reduceEqDiff, reduceIte, reduceAdd, reduceMul, reduceSub, reduceLT, reduceLeDiff, Nat.reduceBEq]) | refine dk (by kernel_rfl) ?_)
  refine Aw.rw (rwL (l' := [(8, .t (iT (0 : Nat))), (7, .t (.c (.h 0))), (2, .t (bT b)), (1, .t (intsT ts)), (0, .t (runT r))]) (os := [some (eRow (colI 0 (trimAt r ts)))]) (M := [1]) (n' := 1) (by repeat (first | exact trivial | refine ⟨rfl, rfl, ?_⟩)) (by rfl) (by simp only [go_sem, reduceEqDiff, reduceIte, reduceAdd, reduceMul, reduceSub, reduceLT, reduceLeDiff, Nat.reduceBEq, colI_0, List.map_nil]; first | done | rfl) (by decide) (by intro m hm; first | omega | (rcases m with _ | _ | _ | _ | _ | _ | m <;> first | exact ⟨by decide, rfl⟩ | omega))) ?_
  refine Aw_loop_rw (ι := { i : Nat // i ≤ r.length }) (fun q => S [(8, .t (iT (q.1 : Nat))), (7, .t (.c (.h 0))), (2, .t (bT b)), (1, .t (intsT ts)), (0, .t (runT r))] (hpL [some (eRow (colI q.1 (trimAt r ts)))]) 1) (fun q => r.length - q.1) ⟨0, Nat.zero_le _⟩ ?_
  rintro ⟨i, hi⟩
  dsimp only
  by_cases hlt : i < r.length
  · have h1 : (i : Int) < (r.length : Int) := by omega
    have w1 := wrap_succ hlt (by omega)
    obtain ⟨e, hx⟩ : ∃ e, r[i]? = some e := ⟨_, List.getElem?_eq_getElem hlt⟩
    have hb : ((colI i (trimAt r ts)).length + 1) * 40 ≤ 140737488355328 := by have := colI_len (n := i) (trimAt_len r ts); omega
    have k1 := l11Seen_ac r i ts e hx (by omega) (by omega)
    cases c : seenAt r ts i
    · have hc : colI (i + 1) (trimAt r ts) = colI i (trimAt r ts) := by rw [colI_succ]; simp [trimAt, hx, c]
      rw [c] at k1
      repeat (first | apply Aw_seq | apply Aw_block | apply Aw_skip | apply Aw_exit | refine Aw_condt rfl ?_ | refine Aw_condf rfl ?_ | ((first | refine qr ?_ | refine qd (by kernel_rfl) (by kernel_rfl) ?_); simp only [go_sem, reduceEqDiff, reduceIte, reduceAdd, reduceMul, reduceSub, reduceLT, reduceLeDiff, Nat.reduceBEq, h1, w1, hx, c]) | refine dk (by kernel_rfl) ?_ | (refine qp (k1) (by simp only [go_sem, reduceEqDiff, reduceIte, reduceAdd, reduceMul, reduceSub, reduceLT, reduceLeDiff, Nat.reduceBEq, h1, w1, hx, c]; first | done | rfl) rfl (by simp only [go_sem, Nat.reduceLT]) rfl rfl ?_; simp only [go_sem, reduceEqDiff, reduceIte, reduceAdd, reduceMul, reduceSub, reduceLT, reduceLeDiff, Nat.reduceBEq, h1, w1, hx, c]))
      refine ⟨⟨i + 1, hlt⟩, [0], ?_, rwL (by repeat (first | exact trivial | refine ⟨rfl, rfl, ?_⟩)) (by rfl) (by simp only [go_sem, reduceEqDiff, reduceIte, reduceAdd, reduceMul, reduceSub, reduceLT, reduceLeDiff, Nat.reduceBEq, hc]; first | done | rfl) (by decide) (by intro m hm; first | omega | (rcases m with _ | _ | _ | _ | _ | _ | m <;> first | exact ⟨by decide, rfl⟩ | omega))⟩
      show r.length - (i + 1) < r.length - i; omega
    · have hc : colI (i + 1) (trimAt r ts) = colI i (trimAt r ts) ++ [e] := by rw [colI_succ]; simp [trimAt, hx, c]
      rw [c] at k1
      repeat (first | apply Aw_seq | apply Aw_block | apply Aw_skip | apply Aw_exit | refine Aw_condt rfl ?_ | refine Aw_condf rfl ?_ | ((first | refine qr ?_ | refine qd (by kernel_rfl) (by kernel_rfl) ?_); simp only [go_sem, reduceEqDiff, reduceIte, reduceAdd, reduceMul, reduceSub, reduceLT, reduceLeDiff, Nat.reduceBEq, h1, w1, hx, c, hb]) | refine dk (by kernel_rfl) ?_ | (refine qp (k1) (by simp only [go_sem, reduceEqDiff, reduceIte, reduceAdd, reduceMul, reduceSub, reduceLT, reduceLeDiff, Nat.reduceBEq, h1, w1, hx, c, hb]; first | done | rfl) rfl (by simp only [go_sem, Nat.reduceLT]) rfl rfl ?_; simp only [go_sem, reduceEqDiff, reduceIte, reduceAdd, reduceMul, reduceSub, reduceLT, reduceLeDiff, Nat.reduceBEq, h1, w1, hx, c, hb]))
      refine ⟨⟨i + 1, hlt⟩, [14], ?_, rwL (by repeat (first | exact trivial | refine ⟨rfl, rfl, ?_⟩)) (by rfl) (by simp only [go_sem, reduceEqDiff, reduceIte, reduceAdd, reduceMul, reduceSub, reduceLT, reduceLeDiff, Nat.reduceBEq, hc, List.map_append, List.map_cons, List.map_nil]; first | done | rfl) (by decide) (by intro m hm; first | omega | (rcases m with _ | _ | _ | _ | _ | _ | m <;> first | exact ⟨by decide, rfl⟩ | omega))⟩
      show r.length - (i + 1) < r.length - i; omega
  · have h1 : ¬ (i : Int) < (r.length : Int) := by omega
    obtain rfl : i = r.length := by omega
    have e1 : colI r.length (trimAt r ts) = trim1 r ts := rfl
    rw [e1]
    obtain ⟨o, ho⟩ : ∃ o, o = trim1 r ts := ⟨_, rfl⟩
    have hol : o.length ≤ r.length := by rw [ho]; exact trim1_len r ts
    rw [← ho]
    cases b
    · have e2 : trimM r ts false = o := by rw [ho]; rfl
      rw [e2]
      repeat (first | apply Aw_seq | apply Aw_block | apply Aw_skip | apply Aw_exit | refine Aw_condt rfl ?_ | refine Aw_condf rfl ?_ | ((first | refine qr ?_ | refine qd (by kernel_rfl) (by kernel_rfl) ?_); simp only [go_sem, reduceEqDiff, reduceIte, reduceAdd, reduceMul, reduceSub, reduceLT, reduceLeDiff, Nat.reduceBEq, h1]) | refine dk (by kernel_rfl) ?_)
      exact Aw_ret (retL (M := [0]) (.inl rfl) (by simp only [go_sem, reduceEqDiff, reduceIte, reduceAdd, reduceMul, reduceSub, reduceLT, reduceLeDiff, Nat.reduceBEq]; first | done | rfl) rfl rfl (by rfl) (by simp only [go_sem, reduceEqDiff, reduceIte, reduceAdd, reduceMul, reduceSub, reduceLT, reduceLeDiff, Nat.reduceBEq]; first | done | rfl | (and_intros <;> rfl)) (by decide) (by intro m hm; first | omega | (rcases m with _ | _ | _ | _ | _ | _ | m <;> first | exact ⟨by decide, rfl⟩ | omega)))
    · have e2 : trimM r ts true = trim2 o := by rw [ho]; rfl
      rw [e2]
      repeat (first | apply Aw_seq | apply Aw_block | apply Aw_skip | apply Aw_exit | refine Aw_condt rfl ?_ | refine Aw_condf rfl ?_ | ((first | refine qr ?_ | refine qd (by kernel_rfl) (by kernel_rfl) ?_); simp only [go_sem, reduceEqDiff, reduceIte, reduceAdd, reduceMul, reduceSub, reduceLT, reduceLeDiff, Nat.reduceBEq, h1]) | refine dk (by kernel_rfl) ?_)
      refine Aw.rw (rwL (l' := [(10, .t (iT (0 : Nat))), (9, .t (.c (.h 1))), (7, .t (.c (.h 0)))]) (os := [some (eRow o), some (eRow (colI 0 (lowAt o)))]) (M := [0, 7]) (n' := 2) (by repeat (first | exact trivial | refine ⟨rfl, rfl, ?_⟩)) (by rfl) (by simp only [go_sem, reduceEqDiff, reduceIte, reduceAdd, reduceMul, reduceSub, reduceLT, reduceLeDiff, Nat.reduceBEq, colI_0, List.map_nil]; first | done | rfl) (by decide) (by intro m hm; first | omega | (rcases m with _ | _ | _ | _ | _ | _ | m <;> first | exact ⟨by decide, rfl⟩ | omega))) ?_
      refine Aw.setL (l' := [(10, .t (iT (0 : Nat))), (9, .t (.c (.h 1))), (7, .t (runT o))]) (os' := [none, some (eRow (colI 0 (lowAt o)))]) (n' := 2) [0] (by repeat (first | exact trivial | refine ⟨SetA.same rfl, ?_⟩ | refine ⟨SetA.row rfl rfl (by decide), ?_⟩)) (by repeat (first | exact trivial | refine ⟨rfl, rfl, ?_⟩ | show SubL _ _ _ _)) (by decide) ?_
      refine Aw_loop_rw (ι := { i : Nat // i ≤ o.length }) (fun q => S [(10, .t (iT (q.1 : Nat))), (9, .t (.c (.h 1))), (7, .t (runT o))] (hpL [none, some (eRow (colI q.1 (lowAt o)))]) 2) (fun q => o.length - q.1) ⟨0, Nat.zero_le _⟩ ?_
      rintro ⟨i, hi⟩
      dsimp only
      by_cases hlt : i < o.length
      · have h1 : (i : Int) < (o.length : Int) := by omega
        have w1 := wrap_succ hlt (by omega)
        obtain ⟨e, hx⟩ : ∃ e, o[i]? = some e := ⟨_, List.getElem?_eq_getElem hlt⟩
        have hb : ((colI i (lowAt o)).length + 1) * 40 ≤ 140737488355328 := by have := colI_len (n := i) (lowAt_len o); omega
        have w2 : IntKind.i64.wrap ((i : Int) + 1) = ((i + 1 : Nat) : Int) := w1
        have end_ : ∀ c : List Ent, lowAt o i = c → colI (i + 1) (lowAt o) = colI i (lowAt o) ++ c := fun c h => by rw [colI_succ, h]
        by_cases hn : i + 1 < o.length
        · have h2 : decide (((o.length : Nat) : Int) ≤ ((i + 1 : Nat) : Int)) = false := decide_eq_false (by omega)
          obtain ⟨q, hq⟩ : ∃ e, o[i + 1]? = some e := ⟨_, List.getElem?_eq_getElem hn⟩
          cases c1 : decide (q.key = e.key)
          · cases c2 : e.gone
            · have hc := end_ [e] (by unfold lowAt lastAt; rw [hx]; simp only [hq, c1, c2]; rfl)
              repeat (first | apply Aw_seq | apply Aw_block | apply Aw_skip | apply Aw_exit | refine Aw_condt rfl ?_ | refine Aw_condf rfl ?_ | ((first | refine qr ?_ | refine qd (by kernel_rfl) (by kernel_rfl) ?_); simp only [go_sem, reduceEqDiff, reduceIte, reduceAdd, reduceMul, reduceSub, reduceLT, reduceLeDiff, Nat.reduceBEq, h1, w1, hx, h2, hq, c1, c2, hb]) | refine dk (by kernel_rfl) ?_)
              refine ⟨⟨i + 1, hlt⟩, [0, 40], ?_, rwL (by repeat (first | exact trivial | refine ⟨rfl, rfl, ?_⟩)) (by rfl) (by simp only [go_sem, reduceEqDiff, reduceIte, reduceAdd, reduceMul, reduceSub, reduceLT, reduceLeDiff, Nat.reduceBEq, hc, List.map_append, List.map_cons, List.map_nil, c2]; first | done | rfl) (by decide) (by intro m hm; first | omega | (rcases m with _ | _ | _ | _ | _ | _ | m <;> first | exact ⟨by decide, rfl⟩ | omega))⟩
              show o.length - (i + 1) < o.length - i; omega
            · have hc := end_ [] (by unfold lowAt lastAt; rw [hx]; simp only [hq, c1, c2]; rfl)
              repeat (first | apply Aw_seq | apply Aw_block | apply Aw_skip | apply Aw_exit | refine Aw_condt rfl ?_ | refine Aw_condf rfl ?_ | ((first | refine qr ?_ | refine qd (by kernel_rfl) (by kernel_rfl) ?_); simp only [go_sem, reduceEqDiff, reduceIte, reduceAdd, reduceMul, reduceSub, reduceLT, reduceLeDiff, Nat.reduceBEq, h1, w1, hx, h2, hq, c1, c2, hb]) | refine dk (by kernel_rfl) ?_)
              refine ⟨⟨i + 1, hlt⟩, [0, 1], ?_, rwL (by repeat (first | exact trivial | refine ⟨rfl, rfl, ?_⟩)) (by rfl) (by simp only [go_sem, reduceEqDiff, reduceIte, reduceAdd, reduceMul, reduceSub, reduceLT, reduceLeDiff, Nat.reduceBEq, hc, List.append_nil]; first | done | rfl) (by decide) (by intro m hm; first | omega | (rcases m with _ | _ | _ | _ | _ | _ | m <;> first | exact ⟨by decide, rfl⟩ | omega))⟩
              show o.length - (i + 1) < o.length - i; omega
          · cases c2 : e.gone
            · have hc := end_ [e] (by unfold lowAt lastAt; rw [hx]; simp only [hq, c1, c2]; rfl)
              repeat (first | apply Aw_seq | apply Aw_block | apply Aw_skip | apply Aw_exit | refine Aw_condt rfl ?_ | refine Aw_condf rfl ?_ | ((first | refine qr ?_ | refine qd (by kernel_rfl) (by kernel_rfl) ?_); simp only [go_sem, reduceEqDiff, reduceIte, reduceAdd, reduceMul, reduceSub, reduceLT, reduceLeDiff, Nat.reduceBEq, h1, w1, hx, h2, hq, c1, c2, hb]) | refine dk (by kernel_rfl) ?_)
              refine ⟨⟨i + 1, hlt⟩, [0, 40], ?_, rwL (by repeat (first | exact trivial | refine ⟨rfl, rfl, ?_⟩)) (by rfl) (by simp only [go_sem, reduceEqDiff, reduceIte, reduceAdd, reduceMul, reduceSub, reduceLT, reduceLeDiff, Nat.reduceBEq, hc, List.map_append, List.map_cons, List.map_nil, c2]; first | done | rfl) (by decide) (by intro m hm; first | omega | (rcases m with _ | _ | _ | _ | _ | _ | m <;> first | exact ⟨by decide, rfl⟩ | omega))⟩
              show o.length - (i + 1) < o.length - i; omega
            · have hc := end_ [e] (by unfold lowAt lastAt; rw [hx]; simp only [hq, c1, c2]; rfl)
              repeat (first | apply Aw_seq | apply Aw_block | apply Aw_skip | apply Aw_exit | refine Aw_condt rfl ?_ | refine Aw_condf rfl ?_ | ((first | refine qr ?_ | refine qd (by kernel_rfl) (by kernel_rfl) ?_); simp only [go_sem, reduceEqDiff, reduceIte, reduceAdd, reduceMul, reduceSub, reduceLT, reduceLeDiff, Nat.reduceBEq, h1, w1, hx, h2, hq, c1, c2, hb]) | refine dk (by kernel_rfl) ?_)
              refine ⟨⟨i + 1, hlt⟩, [0, 42], ?_, rwL (by repeat (first | exact trivial | refine ⟨rfl, rfl, ?_⟩)) (by rfl) (by simp only [go_sem, reduceEqDiff, reduceIte, reduceAdd, reduceMul, reduceSub, reduceLT, reduceLeDiff, Nat.reduceBEq, hc, List.map_append, List.map_cons, List.map_nil, c2]; first | done | rfl) (by decide) (by intro m hm; first | omega | (rcases m with _ | _ | _ | _ | _ | _ | m <;> first | exact ⟨by decide, rfl⟩ | omega))⟩
              show o.length - (i + 1) < o.length - i; omega
        · have h2 : decide (((o.length : Nat) : Int) ≤ ((i + 1 : Nat) : Int)) = true := decide_eq_true (by omega)
          have hn2 : o[i + 1]? = none := List.getElem?_eq_none (by omega)
          cases c2 : e.gone
          · have hc := end_ [e] (by unfold lowAt lastAt; rw [hx]; simp only [hn2, c2]; rfl)
            repeat (first | apply Aw_seq | apply Aw_block | apply Aw_skip | apply Aw_exit | refine Aw_condt rfl ?_ | refine Aw_condf rfl ?_ | ((first | refine qr ?_ | refine qd (by kernel_rfl) (by kernel_rfl) ?_); simp only [go_sem, reduceEqDiff, reduceIte, reduceAdd, reduceMul, reduceSub, reduceLT, reduceLeDiff, Nat.reduceBEq, h1, w1, hx, h2, hn, c2, hb]) | refine dk (by kernel_rfl) ?_)
            refine ⟨⟨i + 1, hlt⟩, [0, 28], ?_, rwL (by repeat (first | exact trivial | refine ⟨rfl, rfl, ?_⟩)) (by rfl) (by simp only [go_sem, reduceEqDiff, reduceIte, reduceAdd, reduceMul, reduceSub, reduceLT, reduceLeDiff, Nat.reduceBEq, hc, List.map_append, List.map_cons, List.map_nil, c2]; first | done | rfl) (by decide) (by intro m hm; first | omega | (rcases m with _ | _ | _ | _ | _ | _ | m <;> first | exact ⟨by decide, rfl⟩ | omega))⟩
            show o.length - (i + 1) < o.length - i; omega
          · have hc := end_ [] (by unfold lowAt lastAt; rw [hx]; simp only [hn2, c2]; rfl)
            repeat (first | apply Aw_seq | apply Aw_block | apply Aw_skip | apply Aw_exit | refine Aw_condt rfl ?_ | refine Aw_condf rfl ?_ | ((first | refine qr ?_ | refine qd (by kernel_rfl) (by kernel_rfl) ?_); simp only [go_sem, reduceEqDiff, reduceIte, reduceAdd, reduceMul, reduceSub, reduceLT, reduceLeDiff, Nat.reduceBEq, h1, w1, hx, h2, hn, c2, hb]) | refine dk (by kernel_rfl) ?_)
            refine ⟨⟨i + 1, hlt⟩, [0, 1], ?_, rwL (by repeat (first | exact trivial | refine ⟨rfl, rfl, ?_⟩)) (by rfl) (by simp only [go_sem, reduceEqDiff, reduceIte, reduceAdd, reduceMul, reduceSub, reduceLT, reduceLeDiff, Nat.reduceBEq, hc, List.append_nil]; first | done | rfl) (by decide) (by intro m hm; first | omega | (rcases m with _ | _ | _ | _ | _ | _ | m <;> first | exact ⟨by decide, rfl⟩ | omega))⟩
            show o.length - (i + 1) < o.length - i; omega
      · have h1 : ¬ (i : Int) < (o.length : Int) := by omega
        obtain rfl : i = o.length := by omega
        repeat (first | apply Aw_seq | apply Aw_block | apply Aw_skip | apply Aw_exit | refine Aw_condt rfl ?_ | refine Aw_condf rfl ?_ | ((first | refine qr ?_ | refine qd (by kernel_rfl) (by kernel_rfl) ?_); simp only [go_sem, reduceEqDiff, reduceIte, reduceAdd, reduceMul, reduceSub, reduceLT, reduceLeDiff, Nat.reduceBEq, h1]) | refine dk (by kernel_rfl) ?_)
        exact Aw_ret (retL (M := [1]) (.inl rfl) (by simp only [go_sem, reduceEqDiff, reduceIte, reduceAdd, reduceMul, reduceSub, reduceLT, reduceLeDiff, Nat.reduceBEq]; first | done | rfl) rfl rfl (by rfl) (by simp only [go_sem, reduceEqDiff, reduceIte, reduceAdd, reduceMul, reduceSub, reduceLT, reduceLeDiff, Nat.reduceBEq, trim2]; first | done | rfl | (and_intros <;> rfl)) (by decide) (by intro m hm; first | omega | (rcases m with _ | _ | _ | _ | _ | _ | m <;> first | exact ⟨by decide, rfl⟩ | omega)))
/-- What is left of a heap when some rows are settled; what held them holds their data. -/
def SubS (hp : Hp) (L : List Nat) (i : Nat) : List (Option Obj) → List (Option Obj) → Prop
  | some o :: s, some o' :: s' => (o' = o ∨ SetO hp L o o') ∧ L.contains i = false ∧ SubS hp L (i + 1) s s'
  | _ :: s, none :: s' => SubS hp L (i + 1) s s'
  | _, [] => True
  | _, _ => False
theorem subS_get {hp : Hp} {L : List Nat} : ∀ {i : Nat} {os os' : List (Option Obj)}, SubS hp L i os os' → ∀ m o', hpL os' m = some o' → L.contains (i + m) = false ∧ ∃ o, hpL os m = some o ∧ (o' = o ∨ SetO hp L o o')
  | i, some o :: s, some o' :: s', h, 0, q, hq => by
    rw [l_c0] at hq ⊢; obtain ⟨h1, h2, _⟩ := h; cases hq; exact ⟨h2, o, rfl, h1⟩
  | i, some o :: s, some o' :: s', h, m + 1, q, hq => by
    rw [l_c1] at hq ⊢; have := subS_get h.2.2 m q hq; rw [show i + (m + 1) = i + 1 + m by omega]; exact this
  | i, o :: s, none :: s', h, 0, q, hq => by rw [l_c0] at hq; cases hq
  | i, some o :: s, none :: s', h, m + 1, q, hq => by
    rw [l_c1] at hq ⊢; have := subS_get (os := s) (os' := s') h m q hq; rw [show i + (m + 1) = i + 1 + m by omega]; exact this
  | i, none :: s, none :: s', h, m + 1, q, hq => by
    rw [l_c1] at hq ⊢; have := subS_get (os := s) (os' := s') h m q hq; rw [show i + (m + 1) = i + 1 + m by omega]; exact this
  | _, _, [], _, m, q, hq => by rw [l_n] at hq; cases hq
  | _, [], none :: _, h, _, _, _ => h.elim
  | _, [], some _ :: _, h, _, _, _ => h.elim
  | _, none :: _, some _ :: _, h, _, _, _ => h.elim
theorem AC.setS {P : Program} {f : FuncId} {args : List TV} {hp : Hp} {k : Nat} {x y : AV} {os os' : List (Option Obj)} {n : Nat} (L : List Nat) (h : AC P f args hp k ⟨x, hpL os, n⟩) (hr : SetA (hpL os) L x y) (hs : SubS (hpL os) L 0 os os') : AC P f args hp k ⟨y, hpL os', n⟩ :=
  AC.settle h hr (fun m o' hm => by
    obtain ⟨h1, o, h2, h3⟩ := subS_get hs m o' hm
    exact ⟨by simpa using h1, o, h2, h3⟩) (Nat.le_refl n)
def lvRow (l : List (List Ent)) : Obj := dRow 30 1 (l.map lvD)
@[go_sem] theorem r_lvRow (l : List (List Ent)) : lvRow l = dRow 30 1 (l.map lvD) := rfl
abbrev hT (s : Sto) : TV := .agg [.h 2, .h 0, .h 1, .d (.s (.int .i64 s.keep)), .d (.s (.int .i64 s.time)), .h 3]
def tmRow (ts : List Int) : Obj := dRow 3 1 (ts.map intD)
@[go_sem] theorem r_tmRow (ts : List Int) : tmRow ts = dRow 3 1 (ts.map intD) := rfl
def hS (s : Sto) : List (Option Obj) := [some (lvRow s.levels), some (svRow s.sieves), some (eRow s.top), some (tmRow s.times)]
@[go_sem] theorem r_hS (s : Sto) : hS s = [some (dRow 30 1 (s.levels.map lvD)), some (dRow 62 5 (s.sieves.map sveD)), some (dRow 53 4 (s.top.map entD)), some (dRow 3 1 (s.times.map intD))] := rfl
/-- And a run. -/
def hR (s : Sto) (r : List Ent) : List (Option Obj) := [some (lvRow s.levels), some (svRow s.sieves), some (eRow s.top), some (tmRow s.times), some (eRow r)]
@[go_sem] theorem r_hR (s : Sto) (r : List Ent) : hR s r = [some (dRow 30 1 (s.levels.map lvD)), some (dRow 62 5 (s.sieves.map sveD)), some (dRow 53 4 (s.top.map entD)), some (dRow 3 1 (s.times.map intD)), some (dRow 53 4 (r.map entD))] := rfl
def hG (s : Sto) : List (Option Obj) := [some (lvRow s.levels), some (svRow s.sieves), some (eRow s.top), some (tmRow s.times), none]
@[go_sem] theorem r_hG (s : Sto) : hG s = [some (dRow 30 1 (s.levels.map lvD)), some (dRow 62 5 (s.sieves.map sveD)), some (dRow 53 4 (s.top.map entD)), some (dRow 3 1 (s.times.map intD)), none] := rfl
theorem Aw.setS {P : Program} {N k : Nat} {x : Code} {Q : Exit → St → Prop} {l l' : List (Nat × AV)} {os os' : List (Option Obj)} {n n' : Nat} (L : List Nat) (h : ChkS L (hpL os) l l') (hs : SubS (hpL os) L 0 os os') (hn : n ≤ n') (q : Aw P N k x Q (S l' (hpL os') n')) : Aw P N k x Q (S l (hpL os) n) :=
  Aw.settle (stl_look h (fun m o' hm => by
    obtain ⟨h1, o, h2, h3⟩ := subS_get hs m o' hm
    exact ⟨by simpa using h1, o, h2, h3⟩) hn) q
/-- A level that is set. -/
def setM (s : Sto) (i : Nat) (r : List Ent) : Option Sto := match sieveM (keysM r) s.keep with
  | some x => if r.length ≤ 8 * (i + 1) then some { s with levels := s.levels.set i r, sieves := s.sieves.set i x } else none
  | none => none
abbrev zA : TV := .agg [.d (.s (.slice none 0 0)), .d (.s (.slice none 0 0)), .d (.s (.slice none 0 0)), .d (.s (.int .i64 0)), .d (.s (.int .i64 0)), .d (.s (.slice none 0 0))]
theorem zA_nil : NilA (.tup [zA, bT false]) (.tup [stT zSto, bT false]) := .cons (.cons (NilC.nil _) (.cons (NilC.nil _) (.cons (NilC.nil _) (.cons (.inl rfl) (.cons (.inl rfl) (.cons (NilC.nil _) .nil)))))) (.cons (NilT.refl _) .nil)
theorem l12Set_no (s : Sto) (i : Nat) (r : List Ent) (hi : i ≤ 1000) (hr : SmR r) (h : setM s i r = none) : AC Tryz.prog 156 [hT s, iT i, .c (.h 4)] (hpL (hR s r)) 5 ⟨.tup [zA, bT false], hpL (hG s), 5⟩ := by
  refine AC_of Tryz.func156 rfl Tryz.ntmps156 Tryz.results156 (by kernel_rfl) rfl ?_
  simp only [List.zipIdx, List.map, Nat.zero_add, Nat.reduceAdd]
  refine Aw.setL (l' := [(0, .t (hT s)), (1, .t (iT i)), (2, .t (runT r))]) (os' := [some (lvRow s.levels), some (svRow s.sieves), some (eRow s.top), some (tmRow s.times), none]) (n' := 5) [4] (by repeat (first | exact trivial | refine ⟨SetA.same rfl, ?_⟩ | refine ⟨SetA.row rfl rfl (by decide), ?_⟩)) (by repeat (first | exact trivial | refine ⟨rfl, rfl, ?_⟩ | show SubL _ _ _ _)) (by decide) ?_
  have k1 := skeysOfS_ac r hr
  have k2 := ssieveS_ac (keysM r) s.keep (smS_keys hr)
  have k4 := l12Size_ac i hi
  cases hm : sieveM (keysM r) s.keep with
  | none =>
    rw [hm] at k2
    repeat (first | apply Aw_seq | apply Aw_block | apply Aw_skip | apply Aw_exit | refine Aw_condt rfl ?_ | refine Aw_condf rfl ?_ | ((first | refine qr ?_ | refine qd (by kernel_rfl) (by kernel_rfl) ?_); simp only [go_sem, reduceEqDiff, reduceIte, reduceAdd, reduceMul, reduceSub, reduceLT, reduceLeDiff, Nat.reduceBEq]) | refine dk (by kernel_rfl) ?_ | (refine qp (k1) (by simp only [go_sem, reduceEqDiff, reduceIte, reduceAdd, reduceMul, reduceSub, reduceLT, reduceLeDiff, Nat.reduceBEq]; first | done | rfl) rfl (by simp only [go_sem, Nat.reduceLT]) rfl rfl ?_; simp only [go_sem, reduceEqDiff, reduceIte, reduceAdd, reduceMul, reduceSub, reduceLT, reduceLeDiff, Nat.reduceBEq]) | (refine qp (k2) (by simp only [go_sem, reduceEqDiff, reduceIte, reduceAdd, reduceMul, reduceSub, reduceLT, reduceLeDiff, Nat.reduceBEq]; first | done | rfl) rfl (by simp only [go_sem, Nat.reduceLT]) rfl rfl ?_; simp only [go_sem, reduceEqDiff, reduceIte, reduceAdd, reduceMul, reduceSub, reduceLT, reduceLeDiff, Nat.reduceBEq]))
    exact Aw_ret (retL (M := [0, 1, 2, 3, 4]) (.inl rfl) (by simp only [go_sem, reduceEqDiff, reduceIte, reduceAdd, reduceMul, reduceSub, reduceLT, reduceLeDiff, Nat.reduceBEq]; first | done | rfl) rfl rfl (by rfl) (by simp only [go_sem, reduceEqDiff, reduceIte, reduceAdd, reduceMul, reduceSub, reduceLT, reduceLeDiff, Nat.reduceBEq]; first | done | rfl | (and_intros <;> rfl)) (by decide) (by intro m hm; first | omega | (rcases m with _ | _ | _ | _ | _ | _ | m <;> first | exact ⟨by decide, rfl⟩ | omega)))
  | some x =>
    rw [hm] at k2
    have h1 : decide (((8 * (i + 1) : Nat) : Int) < (r.length : Int)) = true := decide_eq_true (by unfold setM at h; rw [hm] at h; simp at h; omega)
    repeat (first | apply Aw_seq | apply Aw_block | apply Aw_skip | apply Aw_exit | refine Aw_condt rfl ?_ | refine Aw_condf rfl ?_ | ((first | refine qr ?_ | refine qd (by kernel_rfl) (by kernel_rfl) ?_); simp only [go_sem, reduceEqDiff, reduceIte, reduceAdd, reduceMul, reduceSub, reduceLT, reduceLeDiff, Nat.reduceBEq, h1]) | refine dk (by kernel_rfl) ?_ | (refine qp (k1) (by simp only [go_sem, reduceEqDiff, reduceIte, reduceAdd, reduceMul, reduceSub, reduceLT, reduceLeDiff, Nat.reduceBEq, h1]; first | done | rfl) rfl (by simp only [go_sem, Nat.reduceLT]) rfl rfl ?_; simp only [go_sem, reduceEqDiff, reduceIte, reduceAdd, reduceMul, reduceSub, reduceLT, reduceLeDiff, Nat.reduceBEq, h1]) | (refine qp (k2) (by simp only [go_sem, reduceEqDiff, reduceIte, reduceAdd, reduceMul, reduceSub, reduceLT, reduceLeDiff, Nat.reduceBEq, h1]; first | done | rfl) rfl (by simp only [go_sem, Nat.reduceLT]) rfl rfl ?_; simp only [go_sem, reduceEqDiff, reduceIte, reduceAdd, reduceMul, reduceSub, reduceLT, reduceLeDiff, Nat.reduceBEq, h1]) | (refine qp (k4) (by simp only [go_sem, reduceEqDiff, reduceIte, reduceAdd, reduceMul, reduceSub, reduceLT, reduceLeDiff, Nat.reduceBEq, h1]; first | done | rfl) rfl (by simp only [go_sem, Nat.reduceLT]) rfl rfl ?_; simp only [go_sem, reduceEqDiff, reduceIte, reduceAdd, reduceMul, reduceSub, reduceLT, reduceLeDiff, Nat.reduceBEq, h1]))
    exact Aw_ret (retL (M := [0, 1, 2, 3, 4]) (.inl rfl) (by simp only [go_sem, reduceEqDiff, reduceIte, reduceAdd, reduceMul, reduceSub, reduceLT, reduceLeDiff, Nat.reduceBEq]; first | done | rfl) rfl rfl (by rfl) (by simp only [go_sem, reduceEqDiff, reduceIte, reduceAdd, reduceMul, reduceSub, reduceLT, reduceLeDiff, Nat.reduceBEq]; first | done | rfl | (and_intros <;> rfl)) (by decide) (by intro m hm; first | omega | (rcases m with _ | _ | _ | _ | _ | _ | m <;> first | exact ⟨by decide, rfl⟩ | omega)))
theorem set_lv (l : List (List Ent)) (i : Nat) (r : List Ent) : ((l.map lvD).map (·.map CV.d)).set i [.d (.rs 4 (r.map entD))] = ((l.set i r).map lvD).map (·.map CV.d) := by
  rw [List.map_set, List.map_set]; rfl
theorem set_sv (l : List Sve) (i : Nat) (x : Sve) : ((l.map sveD).map (·.map CV.d)).set i [.d (.s (.string x.letters)), .d (.s (.string x.more)), .d (.s (.string x.first)), .d (.rs 1 (x.rests.map strD)), .d (.s (.int .i64 x.keep))] = ((l.set i x).map sveD).map (·.map CV.d) := by
  rw [List.map_set, List.map_set]; rfl
theorem l12Set_ok (s s' : Sto) (i : Nat) (r : List Ent) (hi : i ≤ 1000) (hl : i < s.levels.length) (hv : i < s.sieves.length) (hr : SmR r) (h : setM s i r = some s') : AC Tryz.prog 156 [hT s, iT i, .c (.h 4)] (hpL (hR s r)) 5 ⟨.tup [hT s', bT true], hpL (hG s'), 5⟩ := by
  refine AC_of Tryz.func156 rfl Tryz.ntmps156 Tryz.results156 (by kernel_rfl) rfl ?_
  simp only [List.zipIdx, List.map, Nat.zero_add, Nat.reduceAdd]
  refine Aw.setL (l' := [(0, .t (hT s)), (1, .t (iT i)), (2, .t (runT r))]) (os' := [some (lvRow s.levels), some (svRow s.sieves), some (eRow s.top), some (tmRow s.times), none]) (n' := 5) [4] (by repeat (first | exact trivial | refine ⟨SetA.same rfl, ?_⟩ | refine ⟨SetA.row rfl rfl (by decide), ?_⟩)) (by repeat (first | exact trivial | refine ⟨rfl, rfl, ?_⟩ | show SubL _ _ _ _)) (by decide) ?_
  have k1 := skeysOfS_ac r hr
  have k2 := ssieveS_ac (keysM r) s.keep (smS_keys hr)
  have k4 := l12Size_ac i hi
  unfold setM at h
  cases hm : sieveM (keysM r) s.keep with
  | none => rw [hm] at h; cases h
  | some x =>
    rw [hm] at h k2
    have hx : (some x).getD zSve = x := rfl
    rw [hx] at k2
    by_cases hc : r.length ≤ 8 * (i + 1)
    · simp only [if_pos hc, Option.some.injEq] at h
      subst h
      have h1 : decide (((8 * (i + 1) : Nat) : Int) < (r.length : Int)) = false := decide_eq_false (by omega)
      obtain ⟨e1, he1⟩ : ∃ e, s.levels[i]? = some e := ⟨_, List.getElem?_eq_getElem hl⟩
      obtain ⟨e2, he2⟩ : ∃ e, s.sieves[i]? = some e := ⟨_, List.getElem?_eq_getElem hv⟩
      repeat (first | apply Aw_seq | apply Aw_block | apply Aw_skip | apply Aw_exit | refine Aw_condt rfl ?_ | refine Aw_condf rfl ?_ | ((first | refine qr ?_ | refine qd (by kernel_rfl) (by kernel_rfl) ?_); simp only [go_sem, reduceEqDiff, reduceIte, reduceAdd, reduceMul, reduceSub, reduceLT, reduceLeDiff, Nat.reduceBEq, h1, hl, hv, he1, he2]) | refine dk (by kernel_rfl) ?_ | (refine qp (k1) (by simp only [go_sem, reduceEqDiff, reduceIte, reduceAdd, reduceMul, reduceSub, reduceLT, reduceLeDiff, Nat.reduceBEq, h1, hl, hv, he1, he2]; first | done | rfl) rfl (by simp only [go_sem, Nat.reduceLT]) rfl rfl ?_; simp only [go_sem, reduceEqDiff, reduceIte, reduceAdd, reduceMul, reduceSub, reduceLT, reduceLeDiff, Nat.reduceBEq, h1, hl, hv, he1, he2]) | (refine qp (k2) (by simp only [go_sem, reduceEqDiff, reduceIte, reduceAdd, reduceMul, reduceSub, reduceLT, reduceLeDiff, Nat.reduceBEq, h1, hl, hv, he1, he2]; first | done | rfl) rfl (by simp only [go_sem, Nat.reduceLT]) rfl rfl ?_; simp only [go_sem, reduceEqDiff, reduceIte, reduceAdd, reduceMul, reduceSub, reduceLT, reduceLeDiff, Nat.reduceBEq, h1, hl, hv, he1, he2]) | (refine qp (k4) (by simp only [go_sem, reduceEqDiff, reduceIte, reduceAdd, reduceMul, reduceSub, reduceLT, reduceLeDiff, Nat.reduceBEq, h1, hl, hv, he1, he2]; first | done | rfl) rfl (by simp only [go_sem, Nat.reduceLT]) rfl rfl ?_; simp only [go_sem, reduceEqDiff, reduceIte, reduceAdd, reduceMul, reduceSub, reduceLT, reduceLeDiff, Nat.reduceBEq, h1, hl, hv, he1, he2]))
      exact Aw_ret (retL (M := [0, 1, 2, 3, 4]) (.inl rfl) (by simp only [go_sem, reduceEqDiff, reduceIte, reduceAdd, reduceMul, reduceSub, reduceLT, reduceLeDiff, Nat.reduceBEq]; first | done | rfl) rfl rfl (by rfl) (by simp only [go_sem, reduceEqDiff, reduceIte, reduceAdd, reduceMul, reduceSub, reduceLT, reduceLeDiff, Nat.reduceBEq, set_lv, set_sv]; first | done | rfl | (and_intros <;> rfl)) (by decide) (by intro m hm; first | omega | (rcases m with _ | _ | _ | _ | _ | _ | m <;> first | exact ⟨by decide, rfl⟩ | omega)))
    · simp [hc] at h
@[go_sem] theorem all_intD (q : List Int) : (List.map (fun x => List.map CV.d x) (List.map intD q)).all (fun cs => cs.length == 1) = true := by simp [intD]
@[go_sem] theorem r_ixR1 {P : Program} {hp : Hp} (e k : Nat) (els : List (List D)) : ixR P hp e k els 1 = match tiOf P e with
    | some E => if E.sz = k ∧ 0 < k then (els[1]?).map fun cs => (.t (.c (.pr cs)), hp) else none
    | none => none := r_ixR (hp := hp) e k els 1
@[go_sem] theorem r_ixR2 {P : Program} {hp : Hp} (e k : Nat) (els : List (List D)) : ixR P hp e k els 2 = match tiOf P e with
    | some E => if E.sz = k ∧ 0 < k then (els[2]?).map fun cs => (.t (.c (.pr cs)), hp) else none
    | none => none := r_ixR (hp := hp) e k els 2
theorem l12Copy_ac (top a b c : List Ent) (x y z : Sve) (keep time : Int) (ts : List Int) (h0 : top.length ≤ 100000) (h1 : a.length ≤ 100000) (h2 : b.length ≤ 100000) (h3 : c.length ≤ 100000) (h4 : x.rests.length ≤ 1099511627776) (h5 : y.rests.length ≤ 1099511627776) (h6 : z.rests.length ≤ 1099511627776) (h7 : ts.length ≤ 100000) :
    AC Tryz.prog 134 [stT ⟨top, [a, b, c], [x, y, z], keep, time, ts⟩] noHp 0 ⟨.t (.agg [.h 0, .h 1, .h 2, .d (.s (.int .i64 keep)), .d (.s (.int .i64 time)), .h 3]),
      hpL [some (eRow top), some ⟨30, 1, true, [[.h 4], [.h 5], [.h 6]]⟩, some ⟨62, 5, true, [[.d (.s (.string x.letters)), .d (.s (.string x.more)), .d (.s (.string x.first)), .h 7, .d (.s (.int .i64 x.keep))], [.d (.s (.string y.letters)), .d (.s (.string y.more)), .d (.s (.string y.first)), .h 8, .d (.s (.int .i64 y.keep))], [.d (.s (.string z.letters)), .d (.s (.string z.more)), .d (.s (.string z.first)), .h 9, .d (.s (.int .i64 z.keep))]]⟩,
        some (dRow 3 1 (ts.map intD)), some (eRow a), some (eRow b), some (eRow c), some (kRow x.rests), some (kRow y.rests), some (kRow z.rests)], 10⟩ := by
  refine AC_of Tryz.func134 rfl Tryz.ntmps134 Tryz.results134 (by kernel_rfl) rfl ?_
  simp only [List.zipIdx, List.map, Nat.zero_add, Nat.reduceAdd]
  have q0 : top.length * 40 ≤ 140737488355328 := by omega
  have q1 : a.length * 40 ≤ 140737488355328 := by omega
  have q2 : b.length * 40 ≤ 140737488355328 := by omega
  have q3 : c.length * 40 ≤ 140737488355328 := by omega
  have q4 : x.rests.length * 16 ≤ 140737488355328 := by omega
  have q5 : y.rests.length * 16 ≤ 140737488355328 := by omega
  have q6 : z.rests.length * 16 ≤ 140737488355328 := by omega
  have q7 : ts.length * 8 ≤ 140737488355328 := by omega
  repeat (first | apply Aw_seq | apply Aw_block | apply Aw_skip | apply Aw_exit | refine Aw_condt rfl ?_ | refine Aw_condf rfl ?_ | ((first | refine qr ?_ | refine qd (by kernel_rfl) (by kernel_rfl) ?_); simp only [go_sem, reduceEqDiff, reduceIte, reduceAdd, reduceMul, reduceSub, reduceLT, reduceLeDiff, Nat.reduceBEq, q0, q7]) | refine dk (by kernel_rfl) ?_)
  refine Aw_rounds 4 ?_
  refine AwR_succ ?_
  repeat (first | apply Aw_seq | apply Aw_block | apply Aw_skip | apply Aw_exit | refine Aw_condt rfl ?_ | refine Aw_condf rfl ?_ | ((first | refine qr ?_ | refine qd (by kernel_rfl) (by kernel_rfl) ?_); simp only [go_sem, reduceEqDiff, reduceIte, reduceAdd, reduceMul, reduceSub, reduceLT, reduceLeDiff, Nat.reduceBEq, e03, w01, w12, w23, e13, e23, e33, q1, q2, q3, q4, q5, q6]) | refine dk (by kernel_rfl) ?_)
  exact Aw_ret (retL (M := [8, 121, 141, 14, 37, 78, 119, 52, 93, 134]) (.inl rfl) (by simp only [go_sem, reduceEqDiff, reduceIte, reduceAdd, reduceMul, reduceSub, reduceLT, reduceLeDiff, Nat.reduceBEq]; first | done | rfl) rfl rfl (by rfl) (by simp only [go_sem, reduceEqDiff, reduceIte, reduceAdd, reduceMul, reduceSub, reduceLT, reduceLeDiff, Nat.reduceBEq]; first | done | rfl | (and_intros <;> rfl)) (by decide) (by intro m hm; first | omega | (rcases m with _ | _ | _ | _ | _ | _ | m <;> first | exact ⟨by decide, rfl⟩ | omega)))
theorem l12CopyS_ac (top a b c : List Ent) (x y z : Sve) (keep time : Int) (ts : List Int) (h0 : top.length ≤ 100000) (h1 : a.length ≤ 100000) (h2 : b.length ≤ 100000) (h3 : c.length ≤ 100000) (h4 : x.rests.length ≤ 1099511627776) (h5 : y.rests.length ≤ 1099511627776) (h6 : z.rests.length ≤ 1099511627776) (h7 : ts.length ≤ 100000) :
    AC Tryz.prog 134 [stT ⟨top, [a, b, c], [x, y, z], keep, time, ts⟩] noHp 0 ⟨.t (hT ⟨top, [a, b, c], [x, y, z], keep, time, ts⟩), hpL (hS ⟨top, [a, b, c], [x, y, z], keep, time, ts⟩), 4⟩ := by
  have h := AC.setS [4, 5, 6, 7, 8, 9] (l12Copy_ac top a b c x y z keep time ts h0 h1 h2 h3 h4 h5 h6 h7) (y := .t (.agg [.h 0, .h 1, .h 2, .d (.s (.int .i64 keep)), .d (.s (.int .i64 time)), .h 3])) (os' := [some (eRow top), some (lvRow [a, b, c]), some (svRow [x, y, z]), some (tmRow ts)])
    (.cons (.inl rfl) (.cons (.inl rfl) (.cons (.inl rfl) (.cons (.inl rfl) (.cons (.inl rfl) (.cons (.inl rfl) .nil))))))
    ⟨.inl rfl, rfl, .inr ⟨rfl, rfl, rfl, .cons (.cons (SetC.row0 rfl rfl) .nil) (.cons (.cons (SetC.row0 rfl rfl) .nil) (.cons (.cons (SetC.row0 rfl rfl) .nil) .nil))⟩, rfl,
      .inr ⟨rfl, rfl, rfl, .cons (.cons (.inl rfl) (.cons (.inl rfl) (.cons (.inl rfl) (.cons (SetC.row0 rfl rfl) (.cons (.inl rfl) .nil))))) (.cons (.cons (.inl rfl) (.cons (.inl rfl) (.cons (.inl rfl) (.cons (SetC.row0 rfl rfl) (.cons (.inl rfl) .nil))))) (.cons (.cons (.inl rfl) (.cons (.inl rfl) (.cons (.inl rfl) (.cons (SetC.row0 rfl rfl) (.cons (.inl rfl) .nil))))) .nil))⟩, rfl, .inl rfl, rfl, trivial⟩
  refine AC.sel (M := [1, 2, 0, 3]) h rfl rfl (selL rfl ?_) (by decide) fun m hm => absurd hm (by omega)
  simp only [go_sem, LeftL]
structure SmH (s : Sto) : Prop where
  ll : s.levels.length = 3
  sl : s.sieves.length = 3
  lev : ∀ r ∈ s.levels, SmR r ∧ r.length ≤ 1000
  tl : s.times.length ≤ 1000
def intoM : Nat → Sto → Nat → List Ent → Option Sto
  | 0, s, i, r => setM s i (trimM (joinM r (s.levels.getD i [])) s.times true)
  | d + 1, s, i, r => match setM s i (trimM (joinM r (s.levels.getD i [])) s.times false) with
    | some x => some x
    | none => (intoM d s (i + 1) (s.levels.getD i [])).bind fun s1 => setM s1 i (trimM r s1.times false)
theorem smR_join {a b : List Ent} (ha : SmR a) (hb : SmR b) (h1 : a.length ≤ 1000) (h2 : b.length ≤ 1000) : SmR (joinM a b) := ⟨by rw [joinM_len]; omega, fun e he => (mem_joinM he).elim (ha.key e) (hb.key e)⟩
theorem smR_trim {a : List Ent} (ha : SmR a) (ts : List Int) (b : Bool) : SmR (trimM a ts b) := ⟨Nat.le_trans (trimM_len a ts b) ha.len, fun e he => ha.key e (mem_trimM he)⟩
theorem setM_ok {s s' : Sto} {i : Nat} {r : List Ent} (h : setM s i r = some s') : ∃ x, s' = { s with levels := s.levels.set i r, sieves := s.sieves.set i x } ∧ sieveM (keysM r) s.keep = some x ∧ r.length ≤ 8 * (i + 1) := by
  unfold setM at h
  cases hm : sieveM (keysM r) s.keep with
  | none => rw [hm] at h; cases h
  | some x =>
    rw [hm] at h
    simp only at h
    split at h
    · exact ⟨x, (Option.some.inj h).symm, rfl, by assumption⟩
    · cases h
theorem setM_sm {s s' : Sto} {i : Nat} {r : List Ent} (hs : SmH s) (hi : i ≤ 2) (hr : SmR r) (h : setM s i r = some s') : SmH s' := by
  obtain ⟨x, rfl, _, hl⟩ := setM_ok h
  refine ⟨by simp [hs.ll], by simp [hs.sl], fun q hq => ?_, hs.tl⟩
  rcases List.mem_or_eq_of_mem_set hq with h | rfl
  · exact hs.lev q h
  · exact ⟨hr, by omega⟩
theorem setM_times {s s' : Sto} {i : Nat} {r : List Ent} (h : setM s i r = some s') : s'.times = s.times ∧ s'.top = s.top ∧ s'.time = s.time ∧ s'.keep = s.keep := by
  obtain ⟨x, rfl, _, hl⟩ := setM_ok h
  exact ⟨rfl, rfl, rfl, rfl⟩
theorem intoM_sm : ∀ (d : Nat) {s s' : Sto} {i : Nat} {r : List Ent}, i + d = 2 → SmH s → SmR r → r.length ≤ 1000 → intoM d s i r = some s' → SmH s' ∧ s'.times = s.times ∧ s'.top = s.top ∧ s'.time = s.time ∧ s'.keep = s.keep
  | 0, s, s', i, r, hi, hs, hr, hl, h => by
    have hq : SmR (s.levels.getD i []) ∧ (s.levels.getD i []).length ≤ 1000 := by
      rw [List.getD_eq_getElem?_getD, List.getElem?_eq_getElem (by rw [hs.ll]; omega)]; exact hs.lev _ (List.getElem_mem _)
    exact ⟨setM_sm hs (by omega) (smR_trim (smR_join hr hq.1 hl hq.2) _ _) h, setM_times h⟩
  | d + 1, s, s', i, r, hi, hs, hr, hl, h => by
    have hq : SmR (s.levels.getD i []) ∧ (s.levels.getD i []).length ≤ 1000 := by
      rw [List.getD_eq_getElem?_getD, List.getElem?_eq_getElem (by rw [hs.ll]; omega)]; exact hs.lev _ (List.getElem_mem _)
    simp only [intoM] at h
    split at h
    · rename_i x hx
      obtain rfl := Option.some.inj h
      exact ⟨setM_sm hs (by omega) (smR_trim (smR_join hr hq.1 hl hq.2) _ _) hx, setM_times hx⟩
    · obtain ⟨s1, h1, h2⟩ := Option.bind_eq_some_iff.1 h
      obtain ⟨g1, g2⟩ := intoM_sm d (by omega) hs hq.1 hq.2 h1
      have g3 := setM_times h2
      exact ⟨setM_sm g1 (by omega) (smR_trim hr _ _) h2, by rw [g3.1, g2.1], by rw [g3.2.1, g2.2.1], by rw [g3.2.2.1, g2.2.2.1], by rw [g3.2.2.2, g2.2.2.2]⟩
theorem into_ac : ∀ (d : Nat) (s : Sto) (i : Nat) (r : List Ent), i + d = 2 → SmH s → SmR r → r.length ≤ 1000 →
    (∀ s', intoM d s i r = some s' → AC Tryz.prog 157 [hT s, iT i, runT r] (hpL (hS s)) 4 ⟨.tup [hT s', bT true], hpL (hS s'), 4⟩) ∧
    (intoM d s i r = none → AC Tryz.prog 157 [hT s, iT i, runT r] (hpL (hS s)) 4 ⟨.tup [zA, bT false], hpL [none, none, none, none], 4⟩) := by
  intro d
  induction d with
  | zero =>
    intro s i r hi hs hr hl
    obtain rfl : i = 2 := by omega
    obtain ⟨q, hq⟩ : ∃ q, s.levels[2]? = some q := ⟨_, List.getElem?_eq_getElem (by rw [hs.ll]; omega)⟩
    have hqd : s.levels.getD 2 [] = q := by simp [List.getD, hq]
    obtain ⟨hq1, hq2⟩ := hs.lev q (List.mem_of_getElem? hq)
    have k1 := l11JoinS_ac r q (by omega) (by omega)
    have k2 := l11Trim_ac (joinM r q) s.times true (by rw [joinM_len]; omega) (by have := hs.tl; omega)
    have hsm : SmR (trimM (joinM r q) s.times true) := smR_trim (smR_join hr hq1 hl hq2) _ _
    have hlt := (List.getElem?_eq_some_iff.1 hq).1
    have b1 : decide (((2 : Nat) : Int) = 2) = true := rfl
    constructor
    · intro s' h
      simp only [intoM, hqd] at h
      have k3 := l12Set_ok s s' 2 _ (by omega) (by rw [hs.ll]; omega) (by rw [hs.sl]; omega) hsm h
      refine AC_of Tryz.func157 rfl Tryz.ntmps157 Tryz.results157 (by kernel_rfl) rfl ?_
      simp only [List.zipIdx, List.map, Nat.zero_add, Nat.reduceAdd]
      repeat (first | apply Aw_seq | apply Aw_block | apply Aw_skip | apply Aw_exit | refine Aw_condt rfl ?_ | refine Aw_condf rfl ?_ | ((first | refine qr ?_ | refine qd (by kernel_rfl) (by kernel_rfl) ?_); simp only [go_sem, reduceEqDiff, reduceIte, reduceAdd, reduceMul, reduceSub, reduceLT, reduceLeDiff, Nat.reduceBEq, b1, hq, hlt]) | refine dk (by kernel_rfl) ?_ | (refine qp (k1) (by simp only [go_sem, reduceEqDiff, reduceIte, reduceAdd, reduceMul, reduceSub, reduceLT, reduceLeDiff, Nat.reduceBEq, b1, hq, hlt]; first | done | rfl) rfl (by simp only [go_sem, Nat.reduceLT]) rfl rfl ?_; simp only [go_sem, reduceEqDiff, reduceIte, reduceAdd, reduceMul, reduceSub, reduceLT, reduceLeDiff, Nat.reduceBEq, b1, hq, hlt]) | (refine qx (call_N (L := [3]) (k2) rfl (.cons (.nm rfl) (.cons (arg_lend (m := 3) rfl (by simp)) (.cons (.nm rfl) (.nil)))) (.inr ⟨rfl, by simp⟩) rfl) (by simp only [go_sem, reduceEqDiff, reduceIte, reduceAdd, reduceMul, reduceSub, reduceLT, reduceLeDiff, Nat.reduceBEq, b1, hq, hlt]; first | done | rfl) rfl (by simp only [go_sem, Nat.reduceLT]) ?_; simp only [go_sem, reduceEqDiff, reduceIte, reduceAdd, reduceMul, reduceSub, reduceLT, reduceLeDiff, Nat.reduceBEq, b1, hq, hlt]) | (refine qx (call_L (N' := [0, 1, 2, 3, 19]) (L := []) (k3) rfl (.cons (.nm rfl) (.cons (.nm rfl) (.cons (.nm rfl) (.nil)))) (by decide) (by decide) (by decide) (by simp only [go_sem, reduceEqDiff, reduceIte, reduceAdd, reduceMul, reduceSub, reduceLT, reduceLeDiff, Nat.reduceBEq, b1, hq, hlt]; first | done | rfl) (.inl rfl) rfl (by decide)) (by simp only [go_sem, reduceEqDiff, reduceIte, reduceAdd, reduceMul, reduceSub, reduceLT, reduceLeDiff, Nat.reduceBEq, b1, hq, hlt]; first | done | rfl) rfl (by simp only [go_sem, Nat.reduceLT]) ?_; simp only [go_sem, reduceEqDiff, reduceIte, reduceAdd, reduceMul, reduceSub, reduceLT, reduceLeDiff, Nat.reduceBEq, b1, hq, hlt]))
      exact Aw_ret (retL (M := [0, 1, 2, 3]) (.inl rfl) (by simp only [go_sem, reduceEqDiff, reduceIte, reduceAdd, reduceMul, reduceSub, reduceLT, reduceLeDiff, Nat.reduceBEq]; first | done | rfl) rfl rfl (by rfl) (by simp only [go_sem, reduceEqDiff, reduceIte, reduceAdd, reduceMul, reduceSub, reduceLT, reduceLeDiff, Nat.reduceBEq]; first | done | rfl | (and_intros <;> rfl)) (by decide) (by intro m hm; first | omega | (rcases m with _ | _ | _ | _ | _ | _ | m <;> first | exact ⟨by decide, rfl⟩ | omega)))
    · intro h
      simp only [intoM, hqd] at h
      have k3 := l12Set_no s 2 _ (by omega) hsm h
      refine AC_of Tryz.func157 rfl Tryz.ntmps157 Tryz.results157 (by kernel_rfl) rfl ?_
      simp only [List.zipIdx, List.map, Nat.zero_add, Nat.reduceAdd]
      repeat (first | apply Aw_seq | apply Aw_block | apply Aw_skip | apply Aw_exit | refine Aw_condt rfl ?_ | refine Aw_condf rfl ?_ | ((first | refine qr ?_ | refine qd (by kernel_rfl) (by kernel_rfl) ?_); simp only [go_sem, reduceEqDiff, reduceIte, reduceAdd, reduceMul, reduceSub, reduceLT, reduceLeDiff, Nat.reduceBEq, b1, hq, hlt]) | refine dk (by kernel_rfl) ?_ | (refine qp (k1) (by simp only [go_sem, reduceEqDiff, reduceIte, reduceAdd, reduceMul, reduceSub, reduceLT, reduceLeDiff, Nat.reduceBEq, b1, hq, hlt]; first | done | rfl) rfl (by simp only [go_sem, Nat.reduceLT]) rfl rfl ?_; simp only [go_sem, reduceEqDiff, reduceIte, reduceAdd, reduceMul, reduceSub, reduceLT, reduceLeDiff, Nat.reduceBEq, b1, hq, hlt]) | (refine qx (call_N (L := [3]) (k2) rfl (.cons (.nm rfl) (.cons (arg_lend (m := 3) rfl (by simp)) (.cons (.nm rfl) (.nil)))) (.inr ⟨rfl, by simp⟩) rfl) (by simp only [go_sem, reduceEqDiff, reduceIte, reduceAdd, reduceMul, reduceSub, reduceLT, reduceLeDiff, Nat.reduceBEq, b1, hq, hlt]; first | done | rfl) rfl (by simp only [go_sem, Nat.reduceLT]) ?_; simp only [go_sem, reduceEqDiff, reduceIte, reduceAdd, reduceMul, reduceSub, reduceLT, reduceLeDiff, Nat.reduceBEq, b1, hq, hlt]) | (refine qx (call_L (N' := [0, 1, 2, 3, 19]) (L := []) (k3) rfl (.cons (.nm rfl) (.cons (.nm rfl) (.cons (.nm rfl) (.nil)))) (by decide) (by decide) (by decide) (by simp only [go_sem, reduceEqDiff, reduceIte, reduceAdd, reduceMul, reduceSub, reduceLT, reduceLeDiff, Nat.reduceBEq, b1, hq, hlt]; first | done | rfl) (.inl rfl) rfl (by decide)) (by simp only [go_sem, reduceEqDiff, reduceIte, reduceAdd, reduceMul, reduceSub, reduceLT, reduceLeDiff, Nat.reduceBEq, b1, hq, hlt]; first | done | rfl) rfl (by simp only [go_sem, Nat.reduceLT]) ?_; simp only [go_sem, reduceEqDiff, reduceIte, reduceAdd, reduceMul, reduceSub, reduceLT, reduceLeDiff, Nat.reduceBEq, b1, hq, hlt]))
      exact Aw_ret (retL (M := [0, 1, 2, 3]) (.inl rfl) (by simp only [go_sem, reduceEqDiff, reduceIte, reduceAdd, reduceMul, reduceSub, reduceLT, reduceLeDiff, Nat.reduceBEq]; first | done | rfl) rfl rfl (by rfl) (by simp only [go_sem, reduceEqDiff, reduceIte, reduceAdd, reduceMul, reduceSub, reduceLT, reduceLeDiff, Nat.reduceBEq]; first | done | rfl | (and_intros <;> rfl)) (by decide) (by intro m hm; first | omega | (rcases m with _ | _ | _ | _ | _ | _ | m <;> first | exact ⟨by decide, rfl⟩ | omega)))
  | succ d ih =>
    intro s i r hi hs hr hl
    obtain ⟨q, hq⟩ : ∃ q, s.levels[i]? = some q := ⟨_, List.getElem?_eq_getElem (by rw [hs.ll]; omega)⟩
    have hqd : s.levels.getD i [] = q := by simp [List.getD, hq]
    obtain ⟨hq1, hq2⟩ := hs.lev q (List.mem_of_getElem? hq)
    have k1 := l11JoinS_ac r q (by omega) (by omega)
    have k2 := l11Trim_ac (joinM r q) s.times false (by rw [joinM_len]; omega) (by have := hs.tl; omega)
    have hsm : SmR (trimM (joinM r q) s.times false) := smR_trim (smR_join hr hq1 hl hq2) _ _
    have hlt := (List.getElem?_eq_some_iff.1 hq).1
    have b1 : decide (((i : Nat) : Int) = 2) = false := decide_eq_false (by omega)
    have w1 : IntKind.i64.wrap ((i : Int) + 1) = ((i + 1 : Nat) : Int) := wrap_succ (m := i + 1) (by omega) (by omega)
    obtain ⟨ih1, ih2⟩ := ih s (i + 1) q (by omega) hs hq1 hq2
    cases hset : setM s i (trimM (joinM r q) s.times false) with
    | some x =>
      have hM : intoM (d + 1) s i r = some x := by simp only [intoM, hqd, hset]
      rw [hM]
      refine ⟨fun s' h => ?_, fun h => by cases h⟩
      obtain rfl := Option.some.inj h
      have k3 := l12Set_ok s x i _ (by omega) (by rw [hs.ll]; omega) (by rw [hs.sl]; omega) hsm hset
      refine AC_of Tryz.func157 rfl Tryz.ntmps157 Tryz.results157 (by kernel_rfl) rfl ?_
      simp only [List.zipIdx, List.map, Nat.zero_add, Nat.reduceAdd]
      repeat (first | apply Aw_seq | apply Aw_block | apply Aw_skip | apply Aw_exit | refine Aw_condt rfl ?_ | refine Aw_condf rfl ?_ | ((first | refine qr ?_ | refine qd (by kernel_rfl) (by kernel_rfl) ?_); simp only [go_sem, reduceEqDiff, reduceIte, reduceAdd, reduceMul, reduceSub, reduceLT, reduceLeDiff, Nat.reduceBEq, b1, hq, hlt]) | refine dk (by kernel_rfl) ?_ | (refine qp (k1) (by simp only [go_sem, reduceEqDiff, reduceIte, reduceAdd, reduceMul, reduceSub, reduceLT, reduceLeDiff, Nat.reduceBEq, b1, hq, hlt]; first | done | rfl) rfl (by simp only [go_sem, Nat.reduceLT]) rfl rfl ?_; simp only [go_sem, reduceEqDiff, reduceIte, reduceAdd, reduceMul, reduceSub, reduceLT, reduceLeDiff, Nat.reduceBEq, b1, hq, hlt]) | (refine qx (call_N (L := [3]) (k2) rfl (.cons (.nm rfl) (.cons (arg_lend (m := 3) rfl (by simp)) (.cons (.nm rfl) (.nil)))) (.inr ⟨rfl, by simp⟩) rfl) (by simp only [go_sem, reduceEqDiff, reduceIte, reduceAdd, reduceMul, reduceSub, reduceLT, reduceLeDiff, Nat.reduceBEq, b1, hq, hlt]; first | done | rfl) rfl (by simp only [go_sem, Nat.reduceLT]) ?_; simp only [go_sem, reduceEqDiff, reduceIte, reduceAdd, reduceMul, reduceSub, reduceLT, reduceLeDiff, Nat.reduceBEq, b1, hq, hlt]) | (refine qx (call_L (N' := [0, 1, 2, 3, 19]) (L := []) (k3) rfl (.cons (.nm rfl) (.cons (.nm rfl) (.cons (.nm rfl) (.nil)))) (by decide) (by decide) (by decide) (by simp only [go_sem, reduceEqDiff, reduceIte, reduceAdd, reduceMul, reduceSub, reduceLT, reduceLeDiff, Nat.reduceBEq, b1, hq, hlt]; first | done | rfl) (.inl rfl) rfl (by decide)) (by simp only [go_sem, reduceEqDiff, reduceIte, reduceAdd, reduceMul, reduceSub, reduceLT, reduceLeDiff, Nat.reduceBEq, b1, hq, hlt]; first | done | rfl) rfl (by simp only [go_sem, Nat.reduceLT]) ?_; simp only [go_sem, reduceEqDiff, reduceIte, reduceAdd, reduceMul, reduceSub, reduceLT, reduceLeDiff, Nat.reduceBEq, b1, hq, hlt]))
      exact Aw_ret (retL (M := [0, 1, 2, 3]) (.inl rfl) (by simp only [go_sem, reduceEqDiff, reduceIte, reduceAdd, reduceMul, reduceSub, reduceLT, reduceLeDiff, Nat.reduceBEq]; first | done | rfl) rfl rfl (by rfl) (by simp only [go_sem, reduceEqDiff, reduceIte, reduceAdd, reduceMul, reduceSub, reduceLT, reduceLeDiff, Nat.reduceBEq]; first | done | rfl | (and_intros <;> rfl)) (by decide) (by intro m hm; first | omega | (rcases m with _ | _ | _ | _ | _ | _ | m <;> first | exact ⟨by decide, rfl⟩ | omega)))
    | none =>
      have hM : intoM (d + 1) s i r = (intoM d s (i + 1) q).bind fun s1 => setM s1 i (trimM r s1.times false) := by simp only [intoM, hqd, hset]
      rw [hM]
      have k3 := l12Set_no s i _ (by omega) hsm hset
      cases hin : intoM d s (i + 1) q with
      | none =>
        have k4 := ih2 hin
        refine ⟨fun s' h => by simp at h, fun _ => ?_⟩
        refine AC_of Tryz.func157 rfl Tryz.ntmps157 Tryz.results157 (by kernel_rfl) rfl ?_
        simp only [List.zipIdx, List.map, Nat.zero_add, Nat.reduceAdd]
        repeat (first | apply Aw_seq | apply Aw_block | apply Aw_skip | apply Aw_exit | refine Aw_condt rfl ?_ | refine Aw_condf rfl ?_ | ((first | refine qr ?_ | refine qd (by kernel_rfl) (by kernel_rfl) ?_); simp only [go_sem, reduceEqDiff, reduceIte, reduceAdd, reduceMul, reduceSub, reduceLT, reduceLeDiff, Nat.reduceBEq, b1, hq, hlt, w1]) | refine dk (by kernel_rfl) ?_ | (refine qp (k1) (by simp only [go_sem, reduceEqDiff, reduceIte, reduceAdd, reduceMul, reduceSub, reduceLT, reduceLeDiff, Nat.reduceBEq, b1, hq, hlt, w1]; first | done | rfl) rfl (by simp only [go_sem, Nat.reduceLT]) rfl rfl ?_; simp only [go_sem, reduceEqDiff, reduceIte, reduceAdd, reduceMul, reduceSub, reduceLT, reduceLeDiff, Nat.reduceBEq, b1, hq, hlt, w1]) | (refine qx (call_N (L := [3]) (k2) rfl (.cons (.nm rfl) (.cons (arg_lend (m := 3) rfl (by simp)) (.cons (.nm rfl) (.nil)))) (.inr ⟨rfl, by simp⟩) rfl) (by simp only [go_sem, reduceEqDiff, reduceIte, reduceAdd, reduceMul, reduceSub, reduceLT, reduceLeDiff, Nat.reduceBEq, b1, hq, hlt, w1]; first | done | rfl) rfl (by simp only [go_sem, Nat.reduceLT]) ?_; simp only [go_sem, reduceEqDiff, reduceIte, reduceAdd, reduceMul, reduceSub, reduceLT, reduceLeDiff, Nat.reduceBEq, b1, hq, hlt, w1]) | (refine qx (call_L (N' := [0, 1, 2, 3, 19]) (L := []) (k3) rfl (.cons (.nm rfl) (.cons (.nm rfl) (.cons (.nm rfl) (.nil)))) (by decide) (by decide) (by decide) (by simp only [go_sem, reduceEqDiff, reduceIte, reduceAdd, reduceMul, reduceSub, reduceLT, reduceLeDiff, Nat.reduceBEq, b1, hq, hlt, w1]; first | done | rfl) (.inl rfl) rfl (by decide)) (by simp only [go_sem, reduceEqDiff, reduceIte, reduceAdd, reduceMul, reduceSub, reduceLT, reduceLeDiff, Nat.reduceBEq, b1, hq, hlt, w1]; first | done | rfl) rfl (by simp only [go_sem, Nat.reduceLT]) ?_; simp only [go_sem, reduceEqDiff, reduceIte, reduceAdd, reduceMul, reduceSub, reduceLT, reduceLeDiff, Nat.reduceBEq, b1, hq, hlt, w1]) | (refine qx (call_L (N' := [0, 1, 2, 3]) (L := []) (k4) rfl (.cons (.nm rfl) (.cons (.nm rfl) (.cons (.nm rfl) (.nil)))) (by decide) (by decide) (by decide) (by simp only [go_sem, reduceEqDiff, reduceIte, reduceAdd, reduceMul, reduceSub, reduceLT, reduceLeDiff, Nat.reduceBEq, b1, hq, hlt, w1]; first | done | rfl) (.inl rfl) rfl (by decide)) (by simp only [go_sem, reduceEqDiff, reduceIte, reduceAdd, reduceMul, reduceSub, reduceLT, reduceLeDiff, Nat.reduceBEq, b1, hq, hlt, w1]; first | done | rfl) rfl (by simp only [go_sem, Nat.reduceLT]) ?_; simp only [go_sem, reduceEqDiff, reduceIte, reduceAdd, reduceMul, reduceSub, reduceLT, reduceLeDiff, Nat.reduceBEq, b1, hq, hlt, w1]))
        exact Aw_ret (retL (M := [0, 1, 2, 3]) (.inl rfl) (by simp only [go_sem, reduceEqDiff, reduceIte, reduceAdd, reduceMul, reduceSub, reduceLT, reduceLeDiff, Nat.reduceBEq]; first | done | rfl) rfl rfl (by rfl) (by simp only [go_sem, reduceEqDiff, reduceIte, reduceAdd, reduceMul, reduceSub, reduceLT, reduceLeDiff, Nat.reduceBEq]; first | done | rfl | (and_intros <;> rfl)) (by decide) (by intro m hm; first | omega | (rcases m with _ | _ | _ | _ | _ | _ | m <;> first | exact ⟨by decide, rfl⟩ | omega)))
      | some s1 =>
        have k4 := ih1 s1 hin
        obtain ⟨g1, g2, _⟩ := intoM_sm d (by omega) hs hq1 hq2 hin
        have k5 := l11Trim_ac r s1.times false (by omega) (by have := g1.tl; omega)
        have hsm2 : SmR (trimM r s1.times false) := smR_trim hr _ _
        rw [Option.bind_some]
        cases hs2 : setM s1 i (trimM r s1.times false) with
        | none =>
          have k6 := l12Set_no s1 i _ (by omega) hsm2 hs2
          refine ⟨fun s' h => by simp at h, fun _ => ?_⟩
          refine AC_of Tryz.func157 rfl Tryz.ntmps157 Tryz.results157 (by kernel_rfl) rfl ?_
          simp only [List.zipIdx, List.map, Nat.zero_add, Nat.reduceAdd]
          repeat (first | apply Aw_seq | apply Aw_block | apply Aw_skip | apply Aw_exit | refine Aw_condt rfl ?_ | refine Aw_condf rfl ?_ | ((first | refine qr ?_ | refine qd (by kernel_rfl) (by kernel_rfl) ?_); simp only [go_sem, reduceEqDiff, reduceIte, reduceAdd, reduceMul, reduceSub, reduceLT, reduceLeDiff, Nat.reduceBEq, b1, hq, hlt, w1]) | refine dk (by kernel_rfl) ?_ | (refine qp (k1) (by simp only [go_sem, reduceEqDiff, reduceIte, reduceAdd, reduceMul, reduceSub, reduceLT, reduceLeDiff, Nat.reduceBEq, b1, hq, hlt, w1]; first | done | rfl) rfl (by simp only [go_sem, Nat.reduceLT]) rfl rfl ?_; simp only [go_sem, reduceEqDiff, reduceIte, reduceAdd, reduceMul, reduceSub, reduceLT, reduceLeDiff, Nat.reduceBEq, b1, hq, hlt, w1]) | (refine qx (call_N (L := [3]) (k2) rfl (.cons (.nm rfl) (.cons (arg_lend (m := 3) rfl (by simp)) (.cons (.nm rfl) (.nil)))) (.inr ⟨rfl, by simp⟩) rfl) (by simp only [go_sem, reduceEqDiff, reduceIte, reduceAdd, reduceMul, reduceSub, reduceLT, reduceLeDiff, Nat.reduceBEq, b1, hq, hlt, w1]; first | done | rfl) rfl (by simp only [go_sem, Nat.reduceLT]) ?_; simp only [go_sem, reduceEqDiff, reduceIte, reduceAdd, reduceMul, reduceSub, reduceLT, reduceLeDiff, Nat.reduceBEq, b1, hq, hlt, w1]) | (refine qx (call_L (N' := [0, 1, 2, 3, 19]) (L := []) (k3) rfl (.cons (.nm rfl) (.cons (.nm rfl) (.cons (.nm rfl) (.nil)))) (by decide) (by decide) (by decide) (by simp only [go_sem, reduceEqDiff, reduceIte, reduceAdd, reduceMul, reduceSub, reduceLT, reduceLeDiff, Nat.reduceBEq, b1, hq, hlt, w1]; first | done | rfl) (.inl rfl) rfl (by decide)) (by simp only [go_sem, reduceEqDiff, reduceIte, reduceAdd, reduceMul, reduceSub, reduceLT, reduceLeDiff, Nat.reduceBEq, b1, hq, hlt, w1]; first | done | rfl) rfl (by simp only [go_sem, Nat.reduceLT]) ?_; simp only [go_sem, reduceEqDiff, reduceIte, reduceAdd, reduceMul, reduceSub, reduceLT, reduceLeDiff, Nat.reduceBEq, b1, hq, hlt, w1]) | (refine qx (call_L (N' := [0, 1, 2, 3]) (L := []) (k4) rfl (.cons (.nm rfl) (.cons (.nm rfl) (.cons (.nm rfl) (.nil)))) (by decide) (by decide) (by decide) (by simp only [go_sem, reduceEqDiff, reduceIte, reduceAdd, reduceMul, reduceSub, reduceLT, reduceLeDiff, Nat.reduceBEq, b1, hq, hlt, w1]; first | done | rfl) (.inl rfl) rfl (by decide)) (by simp only [go_sem, reduceEqDiff, reduceIte, reduceAdd, reduceMul, reduceSub, reduceLT, reduceLeDiff, Nat.reduceBEq, b1, hq, hlt, w1]; first | done | rfl) rfl (by simp only [go_sem, Nat.reduceLT]) ?_; simp only [go_sem, reduceEqDiff, reduceIte, reduceAdd, reduceMul, reduceSub, reduceLT, reduceLeDiff, Nat.reduceBEq, b1, hq, hlt, w1]) | (refine qx (call_N (L := [3]) (k5) rfl (.cons (.nm rfl) (.cons (arg_lend (m := 3) rfl (by simp)) (.cons (.nm rfl) (.nil)))) (.inr ⟨rfl, by simp⟩) rfl) (by simp only [go_sem, reduceEqDiff, reduceIte, reduceAdd, reduceMul, reduceSub, reduceLT, reduceLeDiff, Nat.reduceBEq, b1, hq, hlt, w1]; first | done | rfl) rfl (by simp only [go_sem, Nat.reduceLT]) ?_; simp only [go_sem, reduceEqDiff, reduceIte, reduceAdd, reduceMul, reduceSub, reduceLT, reduceLeDiff, Nat.reduceBEq, b1, hq, hlt, w1]) | (refine qx (call_L (N' := [0, 1, 2, 3, 56]) (L := []) (k6) rfl (.cons (.nm rfl) (.cons (.nm rfl) (.cons (.nm rfl) (.nil)))) (by decide) (by decide) (by decide) (by simp only [go_sem, reduceEqDiff, reduceIte, reduceAdd, reduceMul, reduceSub, reduceLT, reduceLeDiff, Nat.reduceBEq, b1, hq, hlt, w1]; first | done | rfl) (.inl rfl) rfl (by decide)) (by simp only [go_sem, reduceEqDiff, reduceIte, reduceAdd, reduceMul, reduceSub, reduceLT, reduceLeDiff, Nat.reduceBEq, b1, hq, hlt, w1]; first | done | rfl) rfl (by simp only [go_sem, Nat.reduceLT]) ?_; simp only [go_sem, reduceEqDiff, reduceIte, reduceAdd, reduceMul, reduceSub, reduceLT, reduceLeDiff, Nat.reduceBEq, b1, hq, hlt, w1]))
          exact Aw_ret (retL (M := [0, 1, 2, 3]) (.inl rfl) (by simp only [go_sem, reduceEqDiff, reduceIte, reduceAdd, reduceMul, reduceSub, reduceLT, reduceLeDiff, Nat.reduceBEq]; first | done | rfl) rfl rfl (by rfl) (by simp only [go_sem, reduceEqDiff, reduceIte, reduceAdd, reduceMul, reduceSub, reduceLT, reduceLeDiff, Nat.reduceBEq]; first | done | rfl | (and_intros <;> rfl)) (by decide) (by intro m hm; first | omega | (rcases m with _ | _ | _ | _ | _ | _ | m <;> first | exact ⟨by decide, rfl⟩ | omega)))
        | some s2 =>
          have k6 := l12Set_ok s1 s2 i _ (by omega) (by rw [g1.ll]; omega) (by rw [g1.sl]; omega) hsm2 hs2
          refine ⟨fun s' h => ?_, fun h => by cases h⟩
          obtain rfl := Option.some.inj h
          refine AC_of Tryz.func157 rfl Tryz.ntmps157 Tryz.results157 (by kernel_rfl) rfl ?_
          simp only [List.zipIdx, List.map, Nat.zero_add, Nat.reduceAdd]
          repeat (first | apply Aw_seq | apply Aw_block | apply Aw_skip | apply Aw_exit | refine Aw_condt rfl ?_ | refine Aw_condf rfl ?_ | ((first | refine qr ?_ | refine qd (by kernel_rfl) (by kernel_rfl) ?_); simp only [go_sem, reduceEqDiff, reduceIte, reduceAdd, reduceMul, reduceSub, reduceLT, reduceLeDiff, Nat.reduceBEq, b1, hq, hlt, w1]) | refine dk (by kernel_rfl) ?_ | (refine qp (k1) (by simp only [go_sem, reduceEqDiff, reduceIte, reduceAdd, reduceMul, reduceSub, reduceLT, reduceLeDiff, Nat.reduceBEq, b1, hq, hlt, w1]; first | done | rfl) rfl (by simp only [go_sem, Nat.reduceLT]) rfl rfl ?_; simp only [go_sem, reduceEqDiff, reduceIte, reduceAdd, reduceMul, reduceSub, reduceLT, reduceLeDiff, Nat.reduceBEq, b1, hq, hlt, w1]) | (refine qx (call_N (L := [3]) (k2) rfl (.cons (.nm rfl) (.cons (arg_lend (m := 3) rfl (by simp)) (.cons (.nm rfl) (.nil)))) (.inr ⟨rfl, by simp⟩) rfl) (by simp only [go_sem, reduceEqDiff, reduceIte, reduceAdd, reduceMul, reduceSub, reduceLT, reduceLeDiff, Nat.reduceBEq, b1, hq, hlt, w1]; first | done | rfl) rfl (by simp only [go_sem, Nat.reduceLT]) ?_; simp only [go_sem, reduceEqDiff, reduceIte, reduceAdd, reduceMul, reduceSub, reduceLT, reduceLeDiff, Nat.reduceBEq, b1, hq, hlt, w1]) | (refine qx (call_L (N' := [0, 1, 2, 3, 19]) (L := []) (k3) rfl (.cons (.nm rfl) (.cons (.nm rfl) (.cons (.nm rfl) (.nil)))) (by decide) (by decide) (by decide) (by simp only [go_sem, reduceEqDiff, reduceIte, reduceAdd, reduceMul, reduceSub, reduceLT, reduceLeDiff, Nat.reduceBEq, b1, hq, hlt, w1]; first | done | rfl) (.inl rfl) rfl (by decide)) (by simp only [go_sem, reduceEqDiff, reduceIte, reduceAdd, reduceMul, reduceSub, reduceLT, reduceLeDiff, Nat.reduceBEq, b1, hq, hlt, w1]; first | done | rfl) rfl (by simp only [go_sem, Nat.reduceLT]) ?_; simp only [go_sem, reduceEqDiff, reduceIte, reduceAdd, reduceMul, reduceSub, reduceLT, reduceLeDiff, Nat.reduceBEq, b1, hq, hlt, w1]) | (refine qx (call_L (N' := [0, 1, 2, 3]) (L := []) (k4) rfl (.cons (.nm rfl) (.cons (.nm rfl) (.cons (.nm rfl) (.nil)))) (by decide) (by decide) (by decide) (by simp only [go_sem, reduceEqDiff, reduceIte, reduceAdd, reduceMul, reduceSub, reduceLT, reduceLeDiff, Nat.reduceBEq, b1, hq, hlt, w1]; first | done | rfl) (.inl rfl) rfl (by decide)) (by simp only [go_sem, reduceEqDiff, reduceIte, reduceAdd, reduceMul, reduceSub, reduceLT, reduceLeDiff, Nat.reduceBEq, b1, hq, hlt, w1]; first | done | rfl) rfl (by simp only [go_sem, Nat.reduceLT]) ?_; simp only [go_sem, reduceEqDiff, reduceIte, reduceAdd, reduceMul, reduceSub, reduceLT, reduceLeDiff, Nat.reduceBEq, b1, hq, hlt, w1]) | (refine qx (call_N (L := [3]) (k5) rfl (.cons (.nm rfl) (.cons (arg_lend (m := 3) rfl (by simp)) (.cons (.nm rfl) (.nil)))) (.inr ⟨rfl, by simp⟩) rfl) (by simp only [go_sem, reduceEqDiff, reduceIte, reduceAdd, reduceMul, reduceSub, reduceLT, reduceLeDiff, Nat.reduceBEq, b1, hq, hlt, w1]; first | done | rfl) rfl (by simp only [go_sem, Nat.reduceLT]) ?_; simp only [go_sem, reduceEqDiff, reduceIte, reduceAdd, reduceMul, reduceSub, reduceLT, reduceLeDiff, Nat.reduceBEq, b1, hq, hlt, w1]) | (refine qx (call_L (N' := [0, 1, 2, 3, 56]) (L := []) (k6) rfl (.cons (.nm rfl) (.cons (.nm rfl) (.cons (.nm rfl) (.nil)))) (by decide) (by decide) (by decide) (by simp only [go_sem, reduceEqDiff, reduceIte, reduceAdd, reduceMul, reduceSub, reduceLT, reduceLeDiff, Nat.reduceBEq, b1, hq, hlt, w1]; first | done | rfl) (.inl rfl) rfl (by decide)) (by simp only [go_sem, reduceEqDiff, reduceIte, reduceAdd, reduceMul, reduceSub, reduceLT, reduceLeDiff, Nat.reduceBEq, b1, hq, hlt, w1]; first | done | rfl) rfl (by simp only [go_sem, Nat.reduceLT]) ?_; simp only [go_sem, reduceEqDiff, reduceIte, reduceAdd, reduceMul, reduceSub, reduceLT, reduceLeDiff, Nat.reduceBEq, b1, hq, hlt, w1]))
          exact Aw_ret (retL (M := [0, 1, 2, 3]) (.inl rfl) (by simp only [go_sem, reduceEqDiff, reduceIte, reduceAdd, reduceMul, reduceSub, reduceLT, reduceLeDiff, Nat.reduceBEq]; first | done | rfl) rfl rfl (by rfl) (by simp only [go_sem, reduceEqDiff, reduceIte, reduceAdd, reduceMul, reduceSub, reduceLT, reduceLeDiff, Nat.reduceBEq]; first | done | rfl | (and_intros <;> rfl)) (by decide) (by intro m hm; first | omega | (rcases m with _ | _ | _ | _ | _ | _ | m <;> first | exact ⟨by decide, rfl⟩ | omega)))
def downM (s : Sto) : Option Sto := intoM 2 { s with top := [] } 0 s.top
def noTop (s : Sto) : Sto := { s with top := [] }
def zO : Obj := ⟨34, 6, false, [[.d (.s (.slice none 0 0)), .d (.s (.slice none 0 0)), .d (.s (.slice none 0 0)), .d (.s (.int .i64 0)), .d (.s (.int .i64 0)), .d (.s (.slice none 0 0))]]⟩
@[go_sem] theorem r_zO : zO = ⟨34, 6, false, [[.d (.s (.slice none 0 0)), .d (.s (.slice none 0 0)), .d (.s (.slice none 0 0)), .d (.s (.int .i64 0)), .d (.s (.int .i64 0)), .d (.s (.slice none 0 0))]]⟩ := rfl
abbrev hT5 (s : Sto) : TV := .agg [.h 4, .h 0, .h 1, .d (.s (.int .i64 s.keep)), .d (.s (.int .i64 s.time)), .h 3]
def hS5 (s : Sto) : List (Option Obj) := [some (lvRow s.levels), some (svRow s.sieves), none, some (tmRow s.times), some (eRow s.top)]
@[go_sem] theorem r_hS5 (s : Sto) : hS5 s = [some (dRow 30 1 (s.levels.map lvD)), some (dRow 62 5 (s.sieves.map sveD)), none, some (dRow 3 1 (s.times.map intD)), some (dRow 53 4 (s.top.map entD))] := rfl
theorem l12Down_no (s : Sto) (hs : SmH s) (hr : SmR s.top) (hl : s.top.length ≤ 1000) (h : downM s = none) : AC Tryz.prog 155 [hT s] (hpL (hS s)) 4 ⟨.tup [zA, bT false], hpL [none, none, none, none], 4⟩ := by
  have k : AC Tryz.prog 157 [hT (noTop s), iT (0 : Nat), runT s.top] (hpL (hS (noTop s))) 4 ⟨.tup [zA, bT false], hpL [none, none, none, none], 4⟩ := (into_ac 2 (noTop s) 0 s.top rfl ⟨hs.ll, hs.sl, hs.lev, hs.tl⟩ hr hl).2 h
  rw [show ((0 : Nat) : Int) = 0 from rfl] at k
  refine AC_of Tryz.func155 rfl Tryz.ntmps155 Tryz.results155 (by kernel_rfl) rfl ?_
  simp only [List.zipIdx, List.map, Nat.zero_add, Nat.reduceAdd]
  refine Aw.setS (os := [some (lvRow s.levels), some (svRow s.sieves), some (eRow s.top), some (tmRow s.times)]) (l' := [(0, .t (.agg [.d (.rs 4 (s.top.map entD)), .h 0, .h 1, .d (.s (.int .i64 s.keep)), .d (.s (.int .i64 s.time)), .h 3]))]) (os' := [some (lvRow s.levels), some (svRow s.sieves), none, some (tmRow s.times)]) (n' := 4) [2] ⟨.cons (SetC.row0 rfl rfl) (.cons (.inl rfl) (.cons (.inl rfl) (.cons (.inl rfl) (.cons (.inl rfl) (.cons (.inl rfl) .nil))))), trivial⟩ ⟨.inl rfl, rfl, .inl rfl, rfl, .inl rfl, rfl, trivial⟩ (Nat.le_refl _) ?_
  repeat (first | apply Aw_seq | apply Aw_block | apply Aw_skip | apply Aw_exit | refine Aw_condt rfl ?_ | refine Aw_condf rfl ?_ | ((first | refine qr ?_ | refine qd (by kernel_rfl) (by kernel_rfl) ?_); simp only [go_sem, reduceEqDiff, reduceIte, reduceAdd, reduceMul, reduceSub, reduceLT, reduceLeDiff, Nat.reduceBEq, noTop]) | refine dk (by kernel_rfl) ?_ | (refine qx (call_L (N' := [0, 1, 10, 3]) (L := []) (k) rfl (.cons (.nm rfl) (.cons (.nm rfl) (.cons (.nm rfl) (.nil)))) (by decide) (by decide) (by decide) (by simp only [go_sem, reduceEqDiff, reduceIte, reduceAdd, reduceMul, reduceSub, reduceLT, reduceLeDiff, Nat.reduceBEq, noTop]; first | done | rfl) (.inl rfl) rfl (by decide)) (by simp only [go_sem, reduceEqDiff, reduceIte, reduceAdd, reduceMul, reduceSub, reduceLT, reduceLeDiff, Nat.reduceBEq, noTop]; first | done | rfl) rfl (by simp only [go_sem, Nat.reduceLT]) ?_; simp only [go_sem, reduceEqDiff, reduceIte, reduceAdd, reduceMul, reduceSub, reduceLT, reduceLeDiff, Nat.reduceBEq, noTop]))
  exact Aw_ret (retL (M := [0, 1, 2, 3]) (.inl rfl) (by simp only [go_sem, reduceEqDiff, reduceIte, reduceAdd, reduceMul, reduceSub, reduceLT, reduceLeDiff, Nat.reduceBEq]; first | done | rfl) rfl rfl (by rfl) (by simp only [go_sem, reduceEqDiff, reduceIte, reduceAdd, reduceMul, reduceSub, reduceLT, reduceLeDiff, Nat.reduceBEq]; first | done | rfl | (and_intros <;> rfl)) (by decide) (by intro m hm; first | omega | (rcases m with _ | _ | _ | _ | _ | _ | m <;> first | exact ⟨by decide, rfl⟩ | omega)))
theorem l12Down_ok (s s' : Sto) (hs : SmH s) (hr : SmR s.top) (hl : s.top.length ≤ 1000) (h : downM s = some s') : AC Tryz.prog 155 [hT s] (hpL (hS s)) 4 ⟨.tup [hT5 s', bT true], hpL (hS5 s'), 5⟩ := by
  have k : AC Tryz.prog 157 [hT (noTop s), iT (0 : Nat), runT s.top] (hpL (hS (noTop s))) 4 ⟨.tup [hT s', bT true], hpL (hS s'), 4⟩ := (into_ac 2 (noTop s) 0 s.top rfl ⟨hs.ll, hs.sl, hs.lev, hs.tl⟩ hr hl).1 s' h
  rw [show ((0 : Nat) : Int) = 0 from rfl] at k
  refine AC_of Tryz.func155 rfl Tryz.ntmps155 Tryz.results155 (by kernel_rfl) rfl ?_
  simp only [List.zipIdx, List.map, Nat.zero_add, Nat.reduceAdd]
  refine Aw.setS (os := [some (lvRow s.levels), some (svRow s.sieves), some (eRow s.top), some (tmRow s.times)]) (l' := [(0, .t (.agg [.d (.rs 4 (s.top.map entD)), .h 0, .h 1, .d (.s (.int .i64 s.keep)), .d (.s (.int .i64 s.time)), .h 3]))]) (os' := [some (lvRow s.levels), some (svRow s.sieves), none, some (tmRow s.times)]) (n' := 4) [2] ⟨.cons (SetC.row0 rfl rfl) (.cons (.inl rfl) (.cons (.inl rfl) (.cons (.inl rfl) (.cons (.inl rfl) (.cons (.inl rfl) .nil))))), trivial⟩ ⟨.inl rfl, rfl, .inl rfl, rfl, .inl rfl, rfl, trivial⟩ (Nat.le_refl _) ?_
  repeat (first | apply Aw_seq | apply Aw_block | apply Aw_skip | apply Aw_exit | refine Aw_condt rfl ?_ | refine Aw_condf rfl ?_ | ((first | refine qr ?_ | refine qd (by kernel_rfl) (by kernel_rfl) ?_); simp only [go_sem, reduceEqDiff, reduceIte, reduceAdd, reduceMul, reduceSub, reduceLT, reduceLeDiff, Nat.reduceBEq, noTop]) | refine dk (by kernel_rfl) ?_ | (refine qx (call_L (N' := [0, 1, 10, 3]) (L := []) (k) rfl (.cons (.nm rfl) (.cons (.nm rfl) (.cons (.nm rfl) (.nil)))) (by decide) (by decide) (by decide) (by simp only [go_sem, reduceEqDiff, reduceIte, reduceAdd, reduceMul, reduceSub, reduceLT, reduceLeDiff, Nat.reduceBEq, noTop]; first | done | rfl) (.inl rfl) rfl (by decide)) (by simp only [go_sem, reduceEqDiff, reduceIte, reduceAdd, reduceMul, reduceSub, reduceLT, reduceLeDiff, Nat.reduceBEq, noTop]; first | done | rfl) rfl (by simp only [go_sem, Nat.reduceLT]) ?_; simp only [go_sem, reduceEqDiff, reduceIte, reduceAdd, reduceMul, reduceSub, reduceLT, reduceLeDiff, Nat.reduceBEq, noTop]))
  exact Aw_ret (retL (M := [0, 1, 2, 3, 10]) (.inl rfl) (by simp only [go_sem, reduceEqDiff, reduceIte, reduceAdd, reduceMul, reduceSub, reduceLT, reduceLeDiff, Nat.reduceBEq]; first | done | rfl) rfl rfl (by rfl) (by simp only [go_sem, reduceEqDiff, reduceIte, reduceAdd, reduceMul, reduceSub, reduceLT, reduceLeDiff, Nat.reduceBEq]; first | done | rfl | (and_intros <;> rfl)) (by decide) (by intro m hm; first | omega | (rcases m with _ | _ | _ | _ | _ | _ | m <;> first | exact ⟨by decide, rfl⟩ | omega)))
theorem runOk_len {r : List Ent} (h : runOk r = true) : r.length ≤ 40 := by
  unfold runOk at h; rw [Bool.and_eq_true] at h; exact of_decide_eq_true h.2
theorem storeS_facts {s : Sto} (h : storeS s = true) : s.levels.length = 3 ∧ s.sieves.length = 3 ∧ s.top.length ≤ 4 ∧ s.times.length ≤ 3 ∧ (∀ r ∈ s.levels, r.length ≤ 40) ∧ inB 0 s.time 999 = true ∧ inB 0 s.keep 5 = true := by
  unfold storeS headS at h
  simp only [Bool.and_eq_true] at h
  obtain ⟨⟨⟨⟨⟨⟨⟨h1, h2⟩, h3⟩, h4⟩, h5⟩, h6⟩, h7⟩, h8⟩ := h
  have hl := of_decide_eq_true h1
  have hsl := of_decide_eq_true h2
  refine ⟨hl, hsl, of_decide_eq_true h7, ?_, ?_, h4, h3⟩
  · unfold timesM at h5; rw [Bool.and_eq_true] at h5; exact of_decide_eq_true h5.2
  · intro r hr
    obtain ⟨i, hi⟩ := List.mem_iff_getElem?.1 hr
    have hil := (List.getElem?_eq_some_iff.1 hi).1
    have := allI_iff.1 h8 i (by omega)
    unfold sAt at this
    obtain ⟨x, hx⟩ : ∃ x, s.sieves[i]? = some x := ⟨_, List.getElem?_eq_getElem (by omega)⟩
    rw [hi, hx] at this
    simp only [Bool.and_eq_true] at this
    have l := this.1.1
    unfold lvM at l
    simp only [Bool.and_eq_true] at l
    exact runOk_len l.1.1.1
theorem valid_sm {s : Sto} (hs : SmSt s) (h : storeS s = true) : SmH s := by
  obtain ⟨h1, h2, h3, h4, h5, _⟩ := storeS_facts h
  exact ⟨h1, h2, fun r hr => ⟨hs.lev r hr, by have := h5 r hr; omega⟩, by omega⟩
theorem copyV_ac (s : Sto) (hs : SmSt s) (hv : storeS s = true) : AC Tryz.prog 134 [stT s] noHp 0 ⟨.t (hT s), hpL (hS s), 4⟩ := by
  obtain ⟨h1, h2, h3, h4, h5, _⟩ := storeS_facts hv
  obtain ⟨top, levels, sieves, keep, time, times⟩ := s
  dsimp only at h1 h2 h3 h4 h5
  obtain ⟨a, b, c, rfl⟩ := len3 h1
  obtain ⟨x, y, z, rfl⟩ := len3 h2
  have q1 := h5 a (by simp); have q2 := h5 b (by simp); have q3 := h5 c (by simp)
  exact l12CopyS_ac top a b c x y z keep time times (by omega) (by omega) (by omega) (by omega) (hs.rl x (by simp)) (hs.rl y (by simp)) (hs.rl z (by simp)) (by omega)
def addM (s : Sto) (e : Ent) : Option Sto := if (storeS s && entOk e) = true then
  (if 4 ≤ s.top.length then (downM s).map fun x => { x with top := joinM [e] x.top, time := e.time } else some { s with top := joinM [e] s.top, time := e.time }) else none
theorem l12Add_no (s : Sto) (e : Ent) (hs : SmSt s) (he : smK e.key) (h : addM s e = none) : AC Tryz.prog 154 [stT s, entT e] noHp 0 ⟨.tup [zA, bT false], noHp, 0⟩ := by
  refine AC_of Tryz.func154 rfl Tryz.ntmps154 Tryz.results154 (by kernel_rfl) rfl ?_
  simp only [List.zipIdx, List.map, Nat.zero_add, Nat.reduceAdd]
  have k1 := sstoreOk_ac s hs
  have k2 := sentOk_ac e he
  cases c1 : storeS s
  · rw [c1] at k1
    repeat (first | apply Aw_seq | apply Aw_block | apply Aw_skip | apply Aw_exit | refine Aw_condt rfl ?_ | refine Aw_condf rfl ?_ | ((first | refine qr ?_ | refine qd (by kernel_rfl) (by kernel_rfl) ?_); simp only [go_sem, reduceEqDiff, reduceIte, reduceAdd, reduceMul, reduceSub, reduceLT, reduceLeDiff, Nat.reduceBEq]) | refine dk (by kernel_rfl) ?_ | (refine qp (k1) (by simp only [go_sem, reduceEqDiff, reduceIte, reduceAdd, reduceMul, reduceSub, reduceLT, reduceLeDiff, Nat.reduceBEq]; first | done | rfl) rfl (by simp only [go_sem, Nat.reduceLT]) rfl rfl ?_; simp only [go_sem, reduceEqDiff, reduceIte, reduceAdd, reduceMul, reduceSub, reduceLT, reduceLeDiff, Nat.reduceBEq]))
    exact Aw_ret (ret0 (.inl rfl) (by simp only [go_sem, reduceEqDiff, reduceIte, reduceAdd, reduceMul, reduceSub, reduceLT, reduceLeDiff, Nat.reduceBEq]; rfl) (by rfl) rfl)
  rw [c1] at k1
  cases c2 : entOk e
  · rw [c2] at k2
    repeat (first | apply Aw_seq | apply Aw_block | apply Aw_skip | apply Aw_exit | refine Aw_condt rfl ?_ | refine Aw_condf rfl ?_ | ((first | refine qr ?_ | refine qd (by kernel_rfl) (by kernel_rfl) ?_); simp only [go_sem, reduceEqDiff, reduceIte, reduceAdd, reduceMul, reduceSub, reduceLT, reduceLeDiff, Nat.reduceBEq]) | refine dk (by kernel_rfl) ?_ | (refine qp (k1) (by simp only [go_sem, reduceEqDiff, reduceIte, reduceAdd, reduceMul, reduceSub, reduceLT, reduceLeDiff, Nat.reduceBEq]; first | done | rfl) rfl (by simp only [go_sem, Nat.reduceLT]) rfl rfl ?_; simp only [go_sem, reduceEqDiff, reduceIte, reduceAdd, reduceMul, reduceSub, reduceLT, reduceLeDiff, Nat.reduceBEq]) | (refine qp (k2) (by simp only [go_sem, reduceEqDiff, reduceIte, reduceAdd, reduceMul, reduceSub, reduceLT, reduceLeDiff, Nat.reduceBEq]; first | done | rfl) rfl (by simp only [go_sem, Nat.reduceLT]) rfl rfl ?_; simp only [go_sem, reduceEqDiff, reduceIte, reduceAdd, reduceMul, reduceSub, reduceLT, reduceLeDiff, Nat.reduceBEq]))
    exact Aw_ret (ret0 (.inl rfl) (by simp only [go_sem, reduceEqDiff, reduceIte, reduceAdd, reduceMul, reduceSub, reduceLT, reduceLeDiff, Nat.reduceBEq]; rfl) (by rfl) rfl)
  rw [c2] at k2
  have k3 := copyV_ac s hs c1
  obtain ⟨h1, h2, h3, h4, h5, _⟩ := storeS_facts c1
  by_cases c3 : 4 ≤ s.top.length
  case neg => unfold addM at h; simp [c1, c2, c3] at h
  have g1 : decide ((4 : Int) ≤ (s.top.length : Int)) = true := decide_eq_true (by omega)
  have hd : downM s = none := by unfold addM at h; simpa [c1, c2, c3] using h
  have k4 := l12Down_no s (valid_sm hs c1) hs.top (by omega) hd
  repeat (first | apply Aw_seq | apply Aw_block | apply Aw_skip | apply Aw_exit | refine Aw_condt rfl ?_ | refine Aw_condf rfl ?_ | ((first | refine qr ?_ | refine qd (by kernel_rfl) (by kernel_rfl) ?_); simp only [go_sem, reduceEqDiff, reduceIte, reduceAdd, reduceMul, reduceSub, reduceLT, reduceLeDiff, Nat.reduceBEq, g1]) | refine dk (by kernel_rfl) ?_ | (refine qp (k1) (by simp only [go_sem, reduceEqDiff, reduceIte, reduceAdd, reduceMul, reduceSub, reduceLT, reduceLeDiff, Nat.reduceBEq, g1]; first | done | rfl) rfl (by simp only [go_sem, Nat.reduceLT]) rfl rfl ?_; simp only [go_sem, reduceEqDiff, reduceIte, reduceAdd, reduceMul, reduceSub, reduceLT, reduceLeDiff, Nat.reduceBEq, g1]) | (refine qp (k2) (by simp only [go_sem, reduceEqDiff, reduceIte, reduceAdd, reduceMul, reduceSub, reduceLT, reduceLeDiff, Nat.reduceBEq, g1]; first | done | rfl) rfl (by simp only [go_sem, Nat.reduceLT]) rfl rfl ?_; simp only [go_sem, reduceEqDiff, reduceIte, reduceAdd, reduceMul, reduceSub, reduceLT, reduceLeDiff, Nat.reduceBEq, g1]) | (refine qx (call_N (L := []) (k3) rfl (.cons (.nm rfl) (.nil)) (.inl rfl) rfl) (by simp only [go_sem, reduceEqDiff, reduceIte, reduceAdd, reduceMul, reduceSub, reduceLT, reduceLeDiff, Nat.reduceBEq, g1]; first | done | rfl) rfl (by simp only [go_sem, Nat.reduceLT]) ?_; simp only [go_sem, reduceEqDiff, reduceIte, reduceAdd, reduceMul, reduceSub, reduceLT, reduceLeDiff, Nat.reduceBEq, g1]) | (refine qx (call_L (N' := [11, 12, 13, 14]) (L := []) (k4) rfl (.cons (.nm rfl) (.nil)) (by decide) (by decide) (by decide) (by simp only [go_sem, reduceEqDiff, reduceIte, reduceAdd, reduceMul, reduceSub, reduceLT, reduceLeDiff, Nat.reduceBEq, g1]; first | done | rfl) (.inl rfl) rfl (by decide)) (by simp only [go_sem, reduceEqDiff, reduceIte, reduceAdd, reduceMul, reduceSub, reduceLT, reduceLeDiff, Nat.reduceBEq, g1]; first | done | rfl) rfl (by simp only [go_sem, Nat.reduceLT]) ?_; simp only [go_sem, reduceEqDiff, reduceIte, reduceAdd, reduceMul, reduceSub, reduceLT, reduceLeDiff, Nat.reduceBEq, g1]))
  exact Aw_ret (ret0 (.inl rfl) (by simp only [go_sem, reduceEqDiff, reduceIte, reduceAdd, reduceMul, reduceSub, reduceLT, reduceLeDiff, Nat.reduceBEq]; rfl) (by rfl) rfl)
theorem l12Add_okR (s s' : Sto) (e : Ent) (hs : SmSt s) (he : smK e.key) (h : addM s e = some s') : AC Tryz.prog 154 [stT s, entT e] noHp 0 ⟨.tup [hT s', bT true], hpL (hS s'), 4⟩ := by
  refine AC_of Tryz.func154 rfl Tryz.ntmps154 Tryz.results154 (by kernel_rfl) rfl ?_
  simp only [List.zipIdx, List.map, Nat.zero_add, Nat.reduceAdd]
  have k1 := sstoreOk_ac s hs
  have k2 := sentOk_ac e he
  cases c1 : storeS s
  · unfold addM at h; simp [c1] at h
  rw [c1] at k1
  cases c2 : entOk e
  · unfold addM at h; simp [c2] at h
  rw [c2] at k2
  have k3 := copyV_ac s hs c1
  obtain ⟨h1, h2, h3, h4, h5, _⟩ := storeS_facts c1
  have lb : (1 : Nat) * 40 ≤ 140737488355328 := by omega
  by_cases c3 : 4 ≤ s.top.length
  · have g1 : decide ((4 : Int) ≤ (s.top.length : Int)) = true := decide_eq_true (by omega)
    cases hd : downM s with
    | none => unfold addM at h; simp [c1, c2, c3, hd] at h
    | some x =>
      have k4 := l12Down_ok s x (valid_sm hs c1) hs.top (by omega) hd
      obtain ⟨g3, g4, g5, g6, g7⟩ := intoM_sm 2 (s := noTop s) (i := 0) rfl ⟨(valid_sm hs c1).ll, (valid_sm hs c1).sl, (valid_sm hs c1).lev, (valid_sm hs c1).tl⟩ hs.top (by omega) hd
      have e1 : s' = { x with top := joinM [e] x.top, time := e.time } := by unfold addM at h; simpa [c1, c2, c3, hd] using h.symm
      have k5 := l11Join_ac [e] x.top (by simp) (by rw [g5]; simp [noTop])
      subst e1
      repeat (first | apply Aw_seq | apply Aw_block | apply Aw_skip | apply Aw_exit | refine Aw_condt rfl ?_ | refine Aw_condf rfl ?_ | ((first | refine qr ?_ | refine qd (by kernel_rfl) (by kernel_rfl) ?_); simp only [go_sem, reduceEqDiff, reduceIte, reduceAdd, reduceMul, reduceSub, reduceLT, reduceLeDiff, Nat.reduceBEq, g1]) | refine dk (by kernel_rfl) ?_ | (refine qp (k1) (by simp only [go_sem, reduceEqDiff, reduceIte, reduceAdd, reduceMul, reduceSub, reduceLT, reduceLeDiff, Nat.reduceBEq, g1]; first | done | rfl) rfl (by simp only [go_sem, Nat.reduceLT]) rfl rfl ?_; simp only [go_sem, reduceEqDiff, reduceIte, reduceAdd, reduceMul, reduceSub, reduceLT, reduceLeDiff, Nat.reduceBEq, g1]) | (refine qp (k2) (by simp only [go_sem, reduceEqDiff, reduceIte, reduceAdd, reduceMul, reduceSub, reduceLT, reduceLeDiff, Nat.reduceBEq, g1]; first | done | rfl) rfl (by simp only [go_sem, Nat.reduceLT]) rfl rfl ?_; simp only [go_sem, reduceEqDiff, reduceIte, reduceAdd, reduceMul, reduceSub, reduceLT, reduceLeDiff, Nat.reduceBEq, g1]) | (refine qx (call_N (L := []) (k3) rfl (.cons (.nm rfl) (.nil)) (.inl rfl) rfl) (by simp only [go_sem, reduceEqDiff, reduceIte, reduceAdd, reduceMul, reduceSub, reduceLT, reduceLeDiff, Nat.reduceBEq, g1]; first | done | rfl) rfl (by simp only [go_sem, Nat.reduceLT]) ?_; simp only [go_sem, reduceEqDiff, reduceIte, reduceAdd, reduceMul, reduceSub, reduceLT, reduceLeDiff, Nat.reduceBEq, g1]) | (refine qx (call_L (N' := [11, 12, 13, 14]) (L := []) (k4) rfl (.cons (.nm rfl) (.nil)) (by decide) (by decide) (by decide) (by simp only [go_sem, reduceEqDiff, reduceIte, reduceAdd, reduceMul, reduceSub, reduceLT, reduceLeDiff, Nat.reduceBEq, g1]; first | done | rfl) (.inl rfl) rfl (by decide)) (by simp only [go_sem, reduceEqDiff, reduceIte, reduceAdd, reduceMul, reduceSub, reduceLT, reduceLeDiff, Nat.reduceBEq, g1]; first | done | rfl) rfl (by simp only [go_sem, Nat.reduceLT]) ?_; simp only [go_sem, reduceEqDiff, reduceIte, reduceAdd, reduceMul, reduceSub, reduceLT, reduceLeDiff, Nat.reduceBEq, g1]) | (refine qx (call_N (L := [21, 33]) (k5) rfl (.cons (.ln (n := 2) rfl (lnBB rfl)) (.cons (arg_lend (m := 21) rfl (by simp)) (.nil))) (.inr ⟨rfl, by simp⟩) rfl) (by simp only [go_sem, reduceEqDiff, reduceIte, reduceAdd, reduceMul, reduceSub, reduceLT, reduceLeDiff, Nat.reduceBEq, g1]; first | done | rfl) rfl (by simp only [go_sem, Nat.reduceLT]) ?_; simp only [go_sem, reduceEqDiff, reduceIte, reduceAdd, reduceMul, reduceSub, reduceLT, reduceLeDiff, Nat.reduceBEq, g1]))
      exact Aw_ret (retL (M := [11, 12, 36, 14]) (.inl rfl) (by simp only [go_sem, reduceEqDiff, reduceIte, reduceAdd, reduceMul, reduceSub, reduceLT, reduceLeDiff, Nat.reduceBEq]; first | done | rfl) rfl rfl (by rfl) (by simp only [go_sem, reduceEqDiff, reduceIte, reduceAdd, reduceMul, reduceSub, reduceLT, reduceLeDiff, Nat.reduceBEq]; first | done | rfl | (and_intros <;> rfl)) (by decide) (by intro m hm; first | omega | (rcases m with _ | _ | _ | _ | _ | _ | m <;> first | exact ⟨by decide, rfl⟩ | omega)))
  · have g1 : decide ((4 : Int) ≤ (s.top.length : Int)) = false := decide_eq_false (by omega)
    have e1 : s' = { s with top := joinM [e] s.top, time := e.time } := by unfold addM at h; simpa [c1, c2, c3] using h.symm
    have k5 := l11Join_ac [e] s.top (by simp) (by omega)
    subst e1
    repeat (first | apply Aw_seq | apply Aw_block | apply Aw_skip | apply Aw_exit | refine Aw_condt rfl ?_ | refine Aw_condf rfl ?_ | ((first | refine qr ?_ | refine qd (by kernel_rfl) (by kernel_rfl) ?_); simp only [go_sem, reduceEqDiff, reduceIte, reduceAdd, reduceMul, reduceSub, reduceLT, reduceLeDiff, Nat.reduceBEq, g1]) | refine dk (by kernel_rfl) ?_ | (refine qp (k1) (by simp only [go_sem, reduceEqDiff, reduceIte, reduceAdd, reduceMul, reduceSub, reduceLT, reduceLeDiff, Nat.reduceBEq, g1]; first | done | rfl) rfl (by simp only [go_sem, Nat.reduceLT]) rfl rfl ?_; simp only [go_sem, reduceEqDiff, reduceIte, reduceAdd, reduceMul, reduceSub, reduceLT, reduceLeDiff, Nat.reduceBEq, g1]) | (refine qp (k2) (by simp only [go_sem, reduceEqDiff, reduceIte, reduceAdd, reduceMul, reduceSub, reduceLT, reduceLeDiff, Nat.reduceBEq, g1]; first | done | rfl) rfl (by simp only [go_sem, Nat.reduceLT]) rfl rfl ?_; simp only [go_sem, reduceEqDiff, reduceIte, reduceAdd, reduceMul, reduceSub, reduceLT, reduceLeDiff, Nat.reduceBEq, g1]) | (refine qx (call_N (L := []) (k3) rfl (.cons (.nm rfl) (.nil)) (.inl rfl) rfl) (by simp only [go_sem, reduceEqDiff, reduceIte, reduceAdd, reduceMul, reduceSub, reduceLT, reduceLeDiff, Nat.reduceBEq, g1]; first | done | rfl) rfl (by simp only [go_sem, Nat.reduceLT]) ?_; simp only [go_sem, reduceEqDiff, reduceIte, reduceAdd, reduceMul, reduceSub, reduceLT, reduceLeDiff, Nat.reduceBEq, g1]) | (refine qx (call_N (L := [13, 21]) (k5) rfl (.cons (.ln (n := 2) rfl (lnBB rfl)) (.cons (arg_lend (m := 13) rfl (by simp)) (.nil))) (.inr ⟨rfl, by simp⟩) rfl) (by simp only [go_sem, reduceEqDiff, reduceIte, reduceAdd, reduceMul, reduceSub, reduceLT, reduceLeDiff, Nat.reduceBEq, g1]; first | done | rfl) rfl (by simp only [go_sem, Nat.reduceLT]) ?_; simp only [go_sem, reduceEqDiff, reduceIte, reduceAdd, reduceMul, reduceSub, reduceLT, reduceLeDiff, Nat.reduceBEq, g1]))
    exact Aw_ret (retL (M := [11, 12, 24, 14]) (.inl rfl) (by simp only [go_sem, reduceEqDiff, reduceIte, reduceAdd, reduceMul, reduceSub, reduceLT, reduceLeDiff, Nat.reduceBEq]; first | done | rfl) rfl rfl (by rfl) (by simp only [go_sem, reduceEqDiff, reduceIte, reduceAdd, reduceMul, reduceSub, reduceLT, reduceLeDiff, Nat.reduceBEq]; first | done | rfl | (and_intros <;> rfl)) (by decide) (by intro m hm; first | omega | (rcases m with _ | _ | _ | _ | _ | _ | m <;> first | exact ⟨by decide, rfl⟩ | omega)))
end Go.Proofs.YtjolcfkepcmjnabGreat.Ab
