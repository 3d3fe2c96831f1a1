/-
  Contracts: the reference's sieve, its parts. No condition.
  Contracts: the reference's sieve. No condition.
  Contracts: the reference's sieve of keys; both sieves, settled. No condition.
  Contracts: times, sizes of levels, texts and sieves that are the same. No condition.
  Contracts: sizes of levels, sieves that are the same, runs that are newer than others. No condition.
  Calls of function values. Definitions and lemmas. No condition.
  slices.Grow at nil: a row of our own. No condition.
  Contracts: slices.Concat at two runs, slices.ContainsFunc with a store's function. No condition.
  Contracts: the function that looks for entries behind a store's time; the store's check, the program's. No condition.
  Contracts: the store's check, both. No condition.
  Contracts: the store's check, the reference's. No condition.
  Contracts: the store's check, the reference's; both checks are one. No condition.
  Contracts: the store's check, both. No condition.
  The two checks of a store are one, in plain Lean. No condition.
  Contracts: the sizes of what a law is given. No condition.
  Contracts: what a law is given, laid out for the program; rows of our own that are read only from there on. No condition.
-/
import Derived.Test.YtimkdclalajadaaGreatTb
import Derived.LoopN
import Derived.WalkKit
import Derived.OwnWalk
import Derived.Lib.AppendZeros
namespace Go.Proofs.YtimkdclalajadaaGreat.Ab
open Nat renaming reduceEqDiff → jE, reduceAdd → jA, reduceMul → jM, reduceSub → jS, reduceLT → jL, reduceLeDiff → jD, reduceBEq → jB
set_option linter.deprecated false
set_option linter.unusedVariables false
set_option linter.unusedSimpArgs false
open Go Go.Proofs
set_option maxRecDepth 10000
theorem ext1 {k : ByteArray} {d : Nat} (h : d < k.size) : k.extract d (d + 1) = bs [lab k d] := by
  have h' : d < k.data.size := h
  have e : lab k d = k.data[d] := by
    unfold lab; rw [if_neg (by omega), Array.getD_eq_getD_getElem?, Array.getElem?_eq_getElem h']; rfl
  rw [e]
  unfold bs
  apply ByteArray.ext
  rw [ByteArray.data_extract]
  apply Array.ext'
  simp only [Array.toList_extract, List.extract_eq_drop_take]
  rw [List.drop_eq_getElem_cons (by simpa using h')]
  simp
theorem l3Letter_ac (k : ByteArray) (d : Nat) (h : d ≤ k.size) (h5 : k.size ≤ 5) : AC Tryz.prog 157 [sT k, iT d] noHp 0 ⟨.t (sT (labS k d)), noHp, 0⟩ := by
  refine AC_of Tryz.func157 rfl Tryz.ntmps157 Tryz.results157 (by kernel_rfl) rfl ?_
  simp only [List.zipIdx, List.map, Nat.zero_add, Nat.reduceAdd]
  by_cases e : k.size = d
  · have c : decide ((k.size : Int) ≤ (d : Int)) = true := decide_eq_true (by omega)
    repeat (first | apply Aw_seq | apply Aw_block | apply Aw_skip | apply Aw_exit | refine Aw_condt rfl ?_ | refine Aw_condf rfl ?_ | ((first | refine qr ?_ | refine qd (by kernel_rfl) (by kernel_rfl) ?_); simp only [go_sem, jE, reduceIte, jA, jM, jS, jL, jD, jB, c]) | refine dk (by kernel_rfl) ?_)
    exact Aw_ret (ret0 (.inl rfl) (by simp only [go_sem, jE, reduceIte, jA, jM, jS, jL, jD, jB]; rfl) (by unfold lab; rw [if_pos e]) rfl)
  · have c : decide ((k.size : Int) ≤ (d : Int)) = false := decide_eq_false (by omega)
    have hw := wrap_succ (i := d) (m := k.size) (by omega) (by omega)
    have c1 : ((d : Int) ≤ ((d + 1 : Nat) : Int)) = True := eq_true (by omega)
    have c2 : (((d + 1 : Nat) : Int) ≤ (k.size : Int)) = True := eq_true (by omega)
    have c3 := ext1 (k := k) (d := d) (by omega)
    repeat (first | apply Aw_seq | apply Aw_block | apply Aw_skip | apply Aw_exit | refine Aw_condt rfl ?_ | refine Aw_condf rfl ?_ | ((first | refine qr ?_ | refine qd (by kernel_rfl) (by kernel_rfl) ?_); simp only [go_sem, jE, reduceIte, jA, jM, jS, jL, jD, jB, c, hw, c1, c2, c3]) | refine dk (by kernel_rfl) ?_)
    exact Aw_ret (ret0 (.inl rfl) (by simp only [go_sem, jE, reduceIte, jA, jM, jS, jL, jD, jB]; rfl) (by rfl) rfl)
theorem cutT_nil {k : ByteArray} {d : Nat} (h : k.size ≤ d + 1) (keep : Nat) : cutT k d keep = zs := by
  unfold cutT
  apply ByteArray.ext
  rw [ByteArray.data_extract, ByteArray.data_extract]
  apply Array.ext'
  simp only [Array.toList_extract, List.extract_eq_drop_take]
  rw [Nat.min_eq_right h]
  simp; rfl
theorem cutT_def (k : ByteArray) (d keep : Nat) (h : d + 1 ≤ k.size) : cutT k d keep = (k.extract (d + 1) k.size).extract 0 (min (k.extract (d + 1) k.size).size keep) := by
  unfold cutT; rw [Nat.min_eq_left h, Nat.min_comm]
theorem l3Rest_ac (k : ByteArray) (d keep : Nat) (h5 : k.size ≤ 5) : AC Tryz.prog 158 [sT k, iT ((d + 1 : Nat) : Int), iT keep] noHp 0 ⟨.t (sT (cutT k d keep)), noHp, 0⟩ := by
  refine AC_of Tryz.func158 rfl Tryz.ntmps158 Tryz.results158 (by kernel_rfl) rfl ?_
  simp only [List.zipIdx, List.map, Nat.zero_add, Nat.reduceAdd]
  by_cases e : k.size ≤ d + 1
  · have c : decide ((k.size : Int) ≤ ((d + 1 : Nat) : Int)) = true := decide_eq_true (by omega)
    rw [cutT_nil e]
    repeat (first | apply Aw_seq | apply Aw_block | apply Aw_skip | apply Aw_exit | refine Aw_condt rfl ?_ | refine Aw_condf rfl ?_ | ((first | refine qr ?_ | refine qd (by kernel_rfl) (by kernel_rfl) ?_); simp only [go_sem, jE, reduceIte, jA, jM, jS, jL, jD, jB, c]) | refine dk (by kernel_rfl) ?_)
    exact Aw_ret (ret0 (.inl rfl) (by simp only [go_sem, jE, reduceIte, jA, jM, jS, jL, jD, jB]; rfl) (by rfl) rfl)
  · have c : decide ((k.size : Int) ≤ ((d + 1 : Nat) : Int)) = false := decide_eq_false (by omega)
    have c1 : (((d + 1 : Nat) : Int) ≤ (k.size : Int)) = True := eq_true (by omega)
    rw [cutT_def k d keep (by omega)]
    have c2 : ((((min (k.extract (d + 1) k.size).size keep) : Nat) : Int) ≤ ((k.extract (d + 1) k.size).size : Int)) = True := eq_true (by omega)
    repeat (first | apply Aw_seq | apply Aw_block | apply Aw_skip | apply Aw_exit | refine Aw_condt rfl ?_ | refine Aw_condf rfl ?_ | ((first | refine qr ?_ | refine qd (by kernel_rfl) (by kernel_rfl) ?_); simp only [go_sem, jE, reduceIte, jA, jM, jS, jL, jD, jB, c, c1, min_if, c2]) | refine dk (by kernel_rfl) ?_)
    exact Aw_ret (ret0 (.inl rfl) (by simp only [go_sem, jE, reduceIte, jA, jM, jS, jL, jD, jB]; rfl) (by rfl) rfl)
/-- A fork, as it lies in a variable. -/
def fkO (ks : List ByteArray) (d : Nat) : Obj := ⟨131, 2, false, [[.d (.rs 1 (ks.map strD)), .d (.s (.int .i64 (d : Int)))]]⟩
@[go_sem] theorem r_fkO (ks : List ByteArray) (d : Nat) : fkO ks d = ⟨131, 2, false, [[.d (.rs 1 (ks.map strD)), .d (.s (.int .i64 (d : Int)))]]⟩ := rfl
abbrev fkT (ks : List ByteArray) (d : Nat) : TV := .agg [.d (.rs 1 (ks.map strD)), .d (.s (.int .i64 (d : Int)))]
theorem l3Group_ac (x : ByteArray) (r : List ByteArray) (d : Nat) (hl : (x :: r).length ≤ 3000) (hk : ∀ k ∈ x :: r, d ≤ k.size ∧ k.size ≤ 5) : AC Tryz.prog 156 [fkT (x :: r) d] noHp 0 ⟨.t (strsT (colI (x :: r).length (grpAt (x :: r) d x))), noHp, 0⟩ := by
  refine AC.settle0 (x := .t (.c (.h 0))) (hp1 := hpL [some (kRow (colI (x :: r).length (grpAt (x :: r) d x)))]) (n := 1) [0] ?_ (SetC.row0 rfl rfl) rfl
  have hx0 : (x :: r)[0]? = some x := rfl
  have hx := hk x (by simp)
  generalize x :: r = ks at *
  refine AC_of Tryz.func156 rfl Tryz.ntmps156 Tryz.results156 (by kernel_rfl) rfl ?_
  simp only [List.zipIdx, List.map, Nat.zero_add, Nat.reduceAdd]
  repeat (first | apply Aw_seq | apply Aw_block | apply Aw_skip | apply Aw_exit | refine Aw_condt rfl ?_ | refine Aw_condf rfl ?_ | ((first | refine qr ?_ | refine qd (by kernel_rfl) (by kernel_rfl) ?_); simp only [go_sem, jE, reduceIte, jA, jM, jS, jL, jD, jB]) | refine dk (by kernel_rfl) ?_)
  refine Aw.rw (rwL (l' := [(4, .t (iT (0 : Nat))), (3, .t (.c (.h 1))), (1, .t (.c (.ph 0 0 0)))]) (os := [some (fkO ks d), some (kRow (colI 0 (grpAt ks d x)))]) (M := [0, 2]) (n' := 2) (by repeat (first | exact trivial | refine ⟨rfl, rfl, ?_⟩)) (by rfl) (by simp only [go_sem, jE, reduceIte, jA, jM, jS, jL, jD, jB]; first | done | rfl) (by decide) (by unfold idM; decide)) ?_
  refine Aw_loop_rw (ι := { i : Nat // i ≤ ks.length }) (fun i => S [(4, .t (iT (i.1 : Nat))), (3, .t (.c (.h 1))), (1, .t (.c (.ph 0 0 0)))] (hpL [some (fkO ks d), some (kRow (colI i.1 (grpAt ks d x)))]) 2) (fun i => ks.length - i.1) ⟨0, Nat.zero_le _⟩ ?_
  rintro ⟨i, hi⟩
  dsimp only
  by_cases hlt : i < ks.length
  · have h1 : decide ((i : Int) < (ks.length : Int)) = true := decide_eq_true (by omega)
    have h2 := wrap_succ hlt (by omega)
    obtain ⟨y, hy⟩ : ∃ y, ks[i]? = some y := ⟨_, List.getElem?_eq_getElem hlt⟩
    have hyk := hk y (List.mem_of_getElem? hy)
    have hb : ((colI i (grpAt ks d x)).length + 1) * 16 ≤ 140737488355328 := by have := colI_len (n := i) (grp_len ks d x); omega
    cases c1 : decide (lab y d = lab x d)
    · repeat (first | apply Aw_seq | apply Aw_block | apply Aw_skip | apply Aw_exit | refine Aw_condt rfl ?_ | refine Aw_condf rfl ?_ | ((first | refine qr ?_ | refine qd (by kernel_rfl) (by kernel_rfl) ?_); simp only [go_sem, jE, reduceIte, jA, jM, jS, jL, jD, jB, h1, h2, hy, hx0, c1]) | refine dk (by kernel_rfl) ?_ | (refine qp (l3Letter_ac y d hyk.1 hyk.2) (by simp only [go_sem, jE, reduceIte, jA, jM, jS, jL, jD, jB, h1, h2, hy, hx0, c1]; first | done | rfl) rfl (by simp only [go_sem, Nat.reduceLT]) rfl rfl ?_; simp only [go_sem, jE, reduceIte, jA, jM, jS, jL, jD, jB, h1, h2, hy, hx0, c1]) | (refine qp (l3Letter_ac x d hx.1 hx.2) (by simp only [go_sem, jE, reduceIte, jA, jM, jS, jL, jD, jB, h1, h2, hy, hx0, c1]; first | done | rfl) rfl (by simp only [go_sem, Nat.reduceLT]) rfl rfl ?_; simp only [go_sem, jE, reduceIte, jA, jM, jS, jL, jD, jB, h1, h2, hy, hx0, c1]))
      have hc : colI (i + 1) (grpAt ks d x) = colI i (grpAt ks d x) := by rw [colI_succ]; unfold grpAt; rw [hy]; simp only []; rw [if_neg (by simpa using c1)]; simp
      refine ⟨⟨i + 1, hlt⟩, [0, 1], ?_, rwL (by repeat (first | exact trivial | refine ⟨rfl, rfl, ?_⟩)) (by rfl) (by simp only [go_sem, jE, reduceIte, jA, jM, jS, jL, jD, jB, hc]; first | done | rfl) (by decide) (by unfold idM; decide)⟩
      show ks.length - (i + 1) < ks.length - i; omega
    · repeat (first | apply Aw_seq | apply Aw_block | apply Aw_skip | apply Aw_exit | refine Aw_condt rfl ?_ | refine Aw_condf rfl ?_ | ((first | refine qr ?_ | refine qd (by kernel_rfl) (by kernel_rfl) ?_); simp only [go_sem, jE, reduceIte, jA, jM, jS, jL, jD, jB, h1, h2, hy, hx0, c1, hb]) | refine dk (by kernel_rfl) ?_ | (refine qp (l3Letter_ac y d hyk.1 hyk.2) (by simp only [go_sem, jE, reduceIte, jA, jM, jS, jL, jD, jB, h1, h2, hy, hx0, c1, hb]; first | done | rfl) rfl (by simp only [go_sem, Nat.reduceLT]) rfl rfl ?_; simp only [go_sem, jE, reduceIte, jA, jM, jS, jL, jD, jB, h1, h2, hy, hx0, c1, hb]) | (refine qp (l3Letter_ac x d hx.1 hx.2) (by simp only [go_sem, jE, reduceIte, jA, jM, jS, jL, jD, jB, h1, h2, hy, hx0, c1, hb]; first | done | rfl) rfl (by simp only [go_sem, Nat.reduceLT]) rfl rfl ?_; simp only [go_sem, jE, reduceIte, jA, jM, jS, jL, jD, jB, h1, h2, hy, hx0, c1, hb]))
      have hc : colI (i + 1) (grpAt ks d x) = colI i (grpAt ks d x) ++ [y] := by rw [colI_succ]; unfold grpAt; rw [hy]; simp only []; rw [if_pos (by simpa using c1)]
      refine ⟨⟨i + 1, hlt⟩, [0, 28], ?_, rwL (by repeat (first | exact trivial | refine ⟨rfl, rfl, ?_⟩)) (by rfl) (by simp only [go_sem, jE, reduceIte, jA, jM, jS, jL, jD, jB, hc]; first | done | rfl) (by decide) (by unfold idM; decide)⟩
      show ks.length - (i + 1) < ks.length - i; omega
  · have h1 : decide ((i : Int) < (ks.length : Int)) = false := decide_eq_false (by omega)
    obtain rfl : i = ks.length := by omega
    repeat (first | apply Aw_seq | apply Aw_block | apply Aw_skip | apply Aw_exit | refine Aw_condt rfl ?_ | refine Aw_condf rfl ?_ | ((first | refine qr ?_ | refine qd (by kernel_rfl) (by kernel_rfl) ?_); simp only [go_sem, jE, reduceIte, jA, jM, jS, jL, jD, jB, h1]) | refine dk (by kernel_rfl) ?_)
    exact Aw_ret (retL (M := [1]) (.inl rfl) (by simp only [go_sem, jE, reduceIte, jA, jM, jS, jL, jD, jB]; first | done | rfl) rfl rfl (by rfl) (by simp only [go_sem, jE, reduceIte, jA, jM, jS, jL, jD, jB]; first | done | rfl | (and_intros <;> rfl)) (by decide) (by unfold idM; decide))
theorem grp_ex {x : ByteArray} {r : List ByteArray} {d : Nat} (hf : Fork (x :: r, d)) (hl : (x :: r).length ≤ 3000) : ∃ g, AC Tryz.prog 156 [fkT (x :: r) d] noHp 0 ⟨.t (strsT g), noHp, 0⟩ ∧ g[0]? = some x ∧ 1 ≤ g.length ∧ g.length ≤ (x :: r).length ∧ spl d (x :: r) = g :: spl d ((x :: r).drop g.length) := by
  refine ⟨grpF d (x :: r), ?_, rfl, by simp [grpF], ?_, spl_grp⟩
  · have h := l3Group_ac x r d hl (fun k hk => ⟨(hf.ok k hk).2, keyOk_size (hf.ok k hk).1⟩)
    rw [grp_fork hf rfl] at h
    exact h
  · unfold grpF
    simp only [List.length_cons]
    have := (List.takeWhile_sublist (fun y => lab y d == lab x d) (l := r)).length_le
    omega
structure PutI (keep d : Nat) (G : Put) where
  B : Put
  rest : List ByteArray
  m : UInt8
  eq : B.add (runs keep d m (spl d rest)) = G
  fork : Fork (rest, d)
  l1 : B.letters.length + rest.length ≤ 2000
  b4 : B.more.length = B.letters.length
  b5 : B.first.length = B.letters.length
  l2 : B.rests.length + rest.length ≤ 2000
  l3 : B.kids.length + rest.length ≤ 3000
@[go_sem] theorem bs_size (l : List UInt8) : (bs l).size = l.length := by simp [bs, ByteArray.size]
def puH (B : Put) (rest : List ByteArray) (d keep : Nat) : List (Option Obj) := [none, some (svO (bs B.letters) (bs B.more) (bs B.first) (.h 5) keep), some (fkO rest d), some (svO zs zs zs (.d (.s (.slice none 0 0))) 0), some (dRow 131 2 (B.kids.map grpD)), some (kRow B.rests)]
@[go_sem] theorem r_puH (B : Put) (rest : List ByteArray) (d keep : Nat) : puH B rest d keep = [none, some (svO (bs B.letters) (bs B.more) (bs B.first) (.h 5) keep), some (fkO rest d), some (svO zs zs zs (.d (.s (.slice none 0 0))) 0), some (dRow 131 2 (B.kids.map grpD)), some (kRow B.rests)] := rfl
abbrev puSl (m : UInt8) : List (Nat × AV) := [(7, .t (sT (bs [m]))), (6, .t (.c (.h 4))), (4, .t (.c (.ph 3 0 0))), (3, .t (.c (.ph 2 0 0))), (2, .t (.c (.ph 1 0 0)))]
abbrev pvT (A : Put) (keep : Nat) (r : CV) : TV := .agg [.d (.s (.string (bs A.letters))), .d (.s (.string (bs A.more))), .d (.s (.string (bs A.first))), r, .d (.s (.int .i64 (keep : Int)))]
theorem l3Put_ac (A : Put) (f : List ByteArray × Nat) (keep : Nat) (hf : Fork f) (hA : A.kids = []) (hl : f.1.length ≤ 1000) (hr : A.rests.length ≤ 1000) (ha : A.letters.length ≤ 1000) (ha4 : A.more.length = A.letters.length) (ha5 : A.first.length = A.letters.length) :
    AC Tryz.prog 129 [pvT A keep (.h 0), fkT f.1 f.2] (hpL [some (kRow A.rests)]) 1 ⟨.tup [pvT (A.add (node keep f)) keep (.h 1), .c (.h 2)], hpL [none, some (kRow (A.add (node keep f)).rests), some (dRow 131 2 ((A.add (node keep f)).kids.map grpD))], 3⟩ := by
  refine AC_of Tryz.func129 rfl Tryz.ntmps129 Tryz.results129 (by kernel_rfl) rfl ?_
  simp only [List.zipIdx, List.map, Nat.zero_add, Nat.reduceAdd]
  repeat (first | apply Aw_seq | apply Aw_block | apply Aw_skip | apply Aw_exit | refine Aw_condt rfl ?_ | refine Aw_condf rfl ?_ | ((first | refine qr ?_ | refine qd (by kernel_rfl) (by kernel_rfl) ?_); simp only [go_sem, jE, reduceIte, jA, jM, jS, jL, jD, jB]) | refine dk (by kernel_rfl) ?_)
  refine Aw.rw (rwL (l' := puSl 49) (os := puH A f.1 f.2 keep) (M := [0, 1, 2, 3, 5, 0]) (n' := 6) (by repeat (first | exact trivial | refine ⟨rfl, rfl, ?_⟩)) (by rfl) (by simp only [go_sem, jE, reduceIte, jA, jM, jS, jL, jD, jB, hA]; first | done | rfl) (by decide) (by unfold idM; decide)) ?_
  refine Aw_loop_rw (ι := PutI keep f.2 (A.add (node keep f))) (fun i => S (puSl i.m) (hpL (puH i.B i.rest f.2 keep)) 6) (fun i => i.rest.length) ⟨A, f.1, 49, rfl, hf, by omega, ha4, ha5, by omega, by rw [hA]; simp; omega⟩ ?_
  rintro ⟨B, rest, m, eq, fork, l1, b4, b5, l2, l3⟩
  dsimp only
  rcases hr : rest with _ | ⟨x, r⟩
  · subst hr
    have e : B = A.add (node keep f) := by rw [spl_nil] at eq; simpa [runs, Put.addz] using eq
    subst e
    repeat (first | apply Aw_seq | apply Aw_block | apply Aw_skip | apply Aw_exit | refine Aw_condt rfl ?_ | refine Aw_condf rfl ?_ | ((first | refine qr ?_ | refine qd (by kernel_rfl) (by kernel_rfl) ?_); simp only [go_sem, jE, reduceIte, jA, jM, jS, jL, jD, jB]) | refine dk (by kernel_rfl) ?_)
    exact Aw_ret (retL (M := [0, 5, 4]) (.inl rfl) (by simp only [go_sem, jE, reduceIte, jA, jM, jS, jL, jD, jB]; first | done | rfl) rfl rfl (by rfl) (by simp only [go_sem, jE, reduceIte, jA, jM, jS, jL, jD, jB]; first | done | rfl | (and_intros <;> rfl)) (by decide) (by unfold idM; decide))
  · rw [← hr]
    have hlen : 1 ≤ rest.length := by rw [hr]; simp
    obtain ⟨g, gac, g0, g1, g2, g3⟩ := grp_ex (by rw [← hr]; exact fork) (by rw [← hr]; omega)
    rw [← hr] at gac g2 g3
    have hpos : decide ((0 : Int) < (rest.length : Int)) = true := decide_eq_true (by omega)
    have hx := fork.ok x (by rw [hr]; simp)
    have hx5 := keyOk_size hx.1
    clear hr
    have q1 : (B.letters.length + 1 ≤ 9223372036854775807) = True := eq_true (by omega)
    have q2 : (B.first.length + 1 ≤ 9223372036854775807) = True := eq_true (by omega)
    have q3 : (B.more.length + 1 ≤ 9223372036854775807) = True := eq_true (by omega)
    repeat (first | apply Aw_seq | apply Aw_block | apply Aw_skip | apply Aw_exit | refine Aw_condt rfl ?_ | refine Aw_condf rfl ?_ | ((first | refine qr ?_ | refine qd (by kernel_rfl) (by kernel_rfl) ?_); simp only [go_sem, jE, reduceIte, jA, jM, jS, jL, jD, jB, hpos, g0, q1, q2]) | refine dk (by kernel_rfl) ?_ | (refine qp (gac) (by simp only [go_sem, jE, reduceIte, jA, jM, jS, jL, jD, jB, hpos, g0, q1, q2]; first | done | rfl) rfl (by simp only [go_sem, Nat.reduceLT]) rfl rfl ?_; simp only [go_sem, jE, reduceIte, jA, jM, jS, jL, jD, jB, hpos, g0, q1, q2]) | (refine qp (l3Letter_ac x f.2 hx.2 hx5) (by simp only [go_sem, jE, reduceIte, jA, jM, jS, jL, jD, jB, hpos, g0, q1, q2]; first | done | rfl) rfl (by simp only [go_sem, Nat.reduceLT]) rfl rfl ?_; simp only [go_sem, jE, reduceIte, jA, jM, jS, jL, jD, jB, hpos, g0, q1, q2]))
    have hg1 : g = x :: g.drop 1 := by
      match g, g0 with
      | y :: q, h => simp at h; subst h; rfl
    have hkm : (List.map strD rest).drop g.length = List.map strD (rest.drop g.length) := List.map_drop.symm
    have hnl : ((g.length : Int) ≤ (rest.length : Int)) = True := eq_true (by omega)
    have htd : List.drop g.length (List.take rest.length (List.map strD rest)) = List.map strD (rest.drop g.length) := by
      rw [List.take_of_length_le (by simp), ← List.map_drop]
    have wd : IntKind.i64.wrap ((f.2 : Int) + 1) = ((f.2 + 1 : Nat) : Int) := wrap_succ (m := 10) (by have := hf.dep; omega) (by omega)
    refine cut_seq (J := fun (_ : Unit) => S ((8, .t (strsT g)) :: puSl 48) (hpL (puH (B.add (run1 keep f.2 m g)) rest f.2 keep)) 6) ?_ ?_
    · by_cases hn : 1 < g.length
      · have c1 : decide ((1 : Int) < (g.length : Int)) = true := decide_eq_true (by omega)
        have hq : (B.kids.length + 1) * 32 ≤ 140737488355328 := by omega
        rw [c1]
        repeat (first | apply Aw_seq | apply Aw_block | apply Aw_skip | apply Aw_exit | refine Aw_condt rfl ?_ | refine Aw_condf rfl ?_ | ((first | refine qr ?_ | refine qd (by kernel_rfl) (by kernel_rfl) ?_); simp only [go_sem, jE, reduceIte, jA, jM, jS, jL, jD, jB, c1, q3, hq, wd]) | refine dk (by kernel_rfl) ?_)
        have hrun : run1 keep f.2 m g = ⟨[lab x f.2], [49], [m], [], [(g, f.2 + 1)]⟩ := by
          match g, hg1, hn with
          | y :: z :: q, hg1, _ => obtain ⟨rfl, _⟩ := List.cons.inj hg1; rfl
        exact ⟨(), [0, 1, 2, 3, 46, 5], rwL (by repeat (first | exact trivial | refine ⟨rfl, rfl, ?_⟩)) (by rfl) (by simp only [go_sem, jE, reduceIte, jA, jM, jS, jL, jD, jB, hrun, Put.add]; first | done | rfl) (by decide) (by unfold idM; decide)⟩
      · have c1 : decide ((1 : Int) < (g.length : Int)) = false := decide_eq_false (by omega)
        have hq : (B.rests.length + 1) * 16 ≤ 140737488355328 := by omega
        rw [c1]
        repeat (first | apply Aw_seq | apply Aw_block | apply Aw_skip | apply Aw_exit | refine Aw_condt rfl ?_ | refine Aw_condf rfl ?_ | ((first | refine qr ?_ | refine qd (by kernel_rfl) (by kernel_rfl) ?_); simp only [go_sem, jE, reduceIte, jA, jM, jS, jL, jD, jB, c1, g0, q3, hq, wd]) | refine dk (by kernel_rfl) ?_ | (refine qp (l3Rest_ac x f.2 keep hx5) (by simp only [go_sem, jE, reduceIte, jA, jM, jS, jL, jD, jB, c1, g0, q3, hq, wd]; first | done | rfl) rfl (by simp only [go_sem, Nat.reduceLT]) rfl rfl ?_; simp only [go_sem, jE, reduceIte, jA, jM, jS, jL, jD, jB, c1, g0, q3, hq, wd]))
        have hrun : run1 keep f.2 m g = ⟨[lab x f.2], [48], [m], [cutT x f.2 keep], []⟩ := by
          have hg2 : g = [x] := by rw [hg1, List.drop_eq_nil_of_le (by omega)]
          rw [hg2]; rfl
        exact ⟨(), [0, 1, 2, 3, 4, 50], rwL (by repeat (first | exact trivial | refine ⟨rfl, rfl, ?_⟩)) (by rfl) (by simp only [go_sem, jE, reduceIte, jA, jM, jS, jL, jD, jB, hrun, Put.add]; first | done | rfl) (by decide) (by unfold idM; decide)⟩
    · intro _
      repeat (first | apply Aw_seq | apply Aw_block | apply Aw_skip | apply Aw_exit | refine Aw_condt rfl ?_ | refine Aw_condf rfl ?_ | ((first | refine qr ?_ | refine qd (by kernel_rfl) (by kernel_rfl) ?_); simp only [go_sem, jE, reduceIte, jA, jM, jS, jL, jD, jB, hnl, htd]) | refine dk (by kernel_rfl) ?_)
      refine ⟨⟨B.add (run1 keep f.2 m g), rest.drop g.length, 48, by rw [← eq, g3]; simp only [runs, Put.add_assoc], fork.drop g.length, by rw [List.length_drop]; have := (run1_len keep f.2 m g).1; simp only [Put.add, List.length_append]; omega, by have := (run1_len keep f.2 m g).2.2.2.1; simp only [Put.add, List.length_append]; omega, by have := (run1_len keep f.2 m g).2.2.2.2; simp only [Put.add, List.length_append]; omega, by rw [List.length_drop]; have := (run1_len keep f.2 m g).2.1; simp only [Put.add, List.length_append]; omega, by rw [List.length_drop]; have := (run1_len keep f.2 m g).2.2.1; simp only [Put.add, List.length_append]; omega⟩, [0, 1, 2, 3, 4, 5], ?_, rwL (by repeat (first | exact trivial | refine ⟨rfl, rfl, ?_⟩)) (by rfl) (by simp only [go_sem, jE, reduceIte, jA, jM, jS, jL, jD, jB]; first | done | rfl) (by decide) (by unfold idM; decide)⟩
      show (rest.drop g.length).length < rest.length
      rw [List.length_drop]; omega
@[go_sem] theorem d_fm (e k : Nat) (a : List (List D)) : (⟨e, k, true, List.map (fun x => List.map CV.d x) a⟩ : Obj) = dRow e k a := rfl
@[go_sem] theorem d_ff (e k : Nat) (a b : List (List D)) : (⟨e, k, true, List.map (fun x => List.map CV.d x) a ++ List.map (fun x => List.map CV.d x) b⟩ : Obj) = dRow e k (a ++ b) := by simp [dRow]
@[go_sem] theorem all_grpD (q : List (List ByteArray × Nat)) : (List.map (fun x => List.map CV.d x) (List.map grpD q)).all (fun cs => cs.length == 2) = true := by simp [grpD]
@[go_sem] theorem all_strD (q : List ByteArray) : (List.map (fun x => List.map CV.d x) (List.map strD q)).all (fun cs => cs.length == 1) = true := by simp [strD]
theorem bs_nil : bs [] = zs := rfl
def ssH (A : Put) (k keep : Nat) : List (Option Obj) := [some (svO zs zs zs (.d (.s (.slice none 0 0))) 0), some (svO (bs A.letters) (bs A.more) (bs A.first) (.h 2) keep), some (kRow A.rests), some (dRow 131 2 ((A.kids.drop k).map grpD))]
@[go_sem] theorem r_ssH (A : Put) (k keep : Nat) : ssH A k keep = [some (svO zs zs zs (.d (.s (.slice none 0 0))) 0), some (svO (bs A.letters) (bs A.more) (bs A.first) (.h 2) keep), some (kRow A.rests), some (dRow 131 2 ((A.kids.drop k).map grpD))] := rfl
abbrev ssSl : List (Nat × AV) := [(7, .t (.c (.h 3))), (6, .t (.c (.ph 1 0 0))), (4, .t (.c (.ph 0 0 0)))]
structure SsI (keep : Nat) (T : Put) where
  A : Put
  k : Nat
  h : Rest keep T A k
theorem ssieve_ac (keys : List ByteArray) (keep : Int) (hs : SmS keys) : AC Tryz.prog 90 [strsT keys, iT keep] noHp 0 ⟨.tup [sveT ((sieveM keys keep).getD zSve) (.h 0), bT (sieveM keys keep).isSome], hpL [some (kRow ((sieveM keys keep).getD zSve).rests)], 1⟩ := by
  refine AC_of Tryz.func90 rfl Tryz.ntmps90 Tryz.results90 (by kernel_rfl) rfl ?_
  simp only [List.zipIdx, List.map, Nat.zero_add, Nat.reduceAdd]
  cases c1 : keysOkM keys
  · repeat (first | apply Aw_seq | apply Aw_block | apply Aw_skip | apply Aw_exit | refine Aw_condt rfl ?_ | refine Aw_condf rfl ?_ | ((first | refine qr ?_ | refine qd (by kernel_rfl) (by kernel_rfl) ?_); simp only [go_sem, jE, reduceIte, jA, jM, jS, jL, jD, jB, c1]) | refine dk (by kernel_rfl) ?_ | (refine qp (skeysOk_ac _ hs) (by simp only [go_sem, jE, reduceIte, jA, jM, jS, jL, jD, jB, c1]; first | done | rfl) rfl (by simp only [go_sem, Nat.reduceLT]) rfl rfl ?_; simp only [go_sem, jE, reduceIte, jA, jM, jS, jL, jD, jB, c1]))
    have e : sieveM keys keep = none := by unfold sieveM; simp [c1]
    rw [e]
    refine Aw.ownC (m := 0) (i := 3) (e := 9) (j := 1) rfl rfl (by decide) (by simp only [Nat.reduceAdd]; rfl) rfl ?_
    exact Aw_ret (retL (M := [9]) (.inl rfl) (by simp only [go_sem, jE, reduceIte, jA, jM, jS, jL, jD, jB]; first | done | rfl) rfl rfl (by rfl) (by simp only [go_sem, jE, reduceIte, jA, jM, jS, jL, jD, jB, zSve, Option.getD_none]; first | done | rfl | (and_intros <;> rfl)) (by decide) (by unfold idM; decide))
  · cases c2 : inB 0 keep 5
    · repeat (first | apply Aw_seq | apply Aw_block | apply Aw_skip | apply Aw_exit | refine Aw_condt rfl ?_ | refine Aw_condf rfl ?_ | ((first | refine qr ?_ | refine qd (by kernel_rfl) (by kernel_rfl) ?_); simp only [go_sem, jE, reduceIte, jA, jM, jS, jL, jD, jB, c1, c2]) | refine dk (by kernel_rfl) ?_ | (refine qp (skeysOk_ac _ hs) (by simp only [go_sem, jE, reduceIte, jA, jM, jS, jL, jD, jB, c1, c2]; first | done | rfl) rfl (by simp only [go_sem, Nat.reduceLT]) rfl rfl ?_; simp only [go_sem, jE, reduceIte, jA, jM, jS, jL, jD, jB, c1, c2]) | (refine qp (l6In_ac _ _ _) (by simp only [go_sem, jE, reduceIte, jA, jM, jS, jL, jD, jB, c1, c2]; first | done | rfl) rfl (by simp only [go_sem, Nat.reduceLT]) rfl rfl ?_; simp only [go_sem, jE, reduceIte, jA, jM, jS, jL, jD, jB, c1, c2]))
      have e : sieveM keys keep = none := by unfold sieveM; simp [c2]
      rw [e]
      refine Aw.ownC (m := 0) (i := 3) (e := 9) (j := 1) rfl rfl (by decide) (by simp only [Nat.reduceAdd]; rfl) rfl ?_
      exact Aw_ret (retL (M := [11]) (.inl rfl) (by simp only [go_sem, jE, reduceIte, jA, jM, jS, jL, jD, jB]; first | done | rfl) rfl rfl (by rfl) (by simp only [go_sem, jE, reduceIte, jA, jM, jS, jL, jD, jB, zSve, Option.getD_none]; first | done | rfl | (and_intros <;> rfl)) (by decide) (by unfold idM; decide))
    · obtain ⟨kp, rfl⟩ : ∃ n : Nat, keep = n := ⟨keep.toNat, by unfold inB at c2; simp at c2; omega⟩
      obtain ⟨hl, hf, _⟩ := ksOk_iff c1
      have hk5 : kp ≤ 5 := by unfold inB at c2; simp at c2; omega
      have e : sieveM keys kp = some ⟨⟨(bfsF kp [(keys, 0)]).letters.toArray⟩, ⟨(bfsF kp [(keys, 0)]).more.toArray⟩, ⟨(bfsF kp [(keys, 0)]).first.toArray⟩, (bfsF kp [(keys, 0)]).rests, kp⟩ := by unfold sieveM; rw [if_pos ⟨c1, c2⟩]; rfl
      rw [e]
      repeat (first | apply Aw_seq | apply Aw_block | apply Aw_skip | apply Aw_exit | refine Aw_condt rfl ?_ | refine Aw_condf rfl ?_ | ((first | refine qr ?_ | refine qd (by kernel_rfl) (by kernel_rfl) ?_); simp only [go_sem, jE, reduceIte, jA, jM, jS, jL, jD, jB, c1, c2]) | refine dk (by kernel_rfl) ?_ | (refine qp (skeysOk_ac _ hs) (by simp only [go_sem, jE, reduceIte, jA, jM, jS, jL, jD, jB, c1, c2]; first | done | rfl) rfl (by simp only [go_sem, Nat.reduceLT]) rfl rfl ?_; simp only [go_sem, jE, reduceIte, jA, jM, jS, jL, jD, jB, c1, c2]) | (refine qp (l6In_ac _ _ _) (by simp only [go_sem, jE, reduceIte, jA, jM, jS, jL, jD, jB, c1, c2]; first | done | rfl) rfl (by simp only [go_sem, Nat.reduceLT]) rfl rfl ?_; simp only [go_sem, jE, reduceIte, jA, jM, jS, jL, jD, jB, c1, c2]))
      refine Aw.rw (rwL (l' := ssSl) (os := ssH ⟨[], [], [], [], [(keys, 0)]⟩ 0 kp) (M := [0, 11, 8, 15]) (n' := 4) (by repeat (first | exact trivial | refine ⟨rfl, rfl, ?_⟩)) (by rfl) (by simp only [go_sem, jE, reduceIte, jA, jM, jS, jL, jD, jB, bs_nil]; first | done | rfl) (by decide) (by unfold idM; decide)) ?_
      refine Aw_loop_rw (ι := SsI kp (bfsF kp [(keys, 0)])) (fun i => S ssSl (hpL (ssH i.A i.k kp)) 4) (fun i => wts (i.A.kids.drop i.k)) ⟨_, 0, rest0 hf hl⟩ ?_
      rintro ⟨A, k, h⟩
      dsimp only
      have hb1 := h.b1; have hb2 := h.b2; have hb3 := h.b3; have hb4 := h.b4; have hb5 := h.b5
      by_cases hlt : k < A.kids.length
      · obtain ⟨f, hx⟩ : ∃ f, A.kids[k]? = some f := ⟨_, List.getElem?_eq_getElem hlt⟩
        have hd : A.kids.drop k = f :: A.kids.drop (k + 1) := by
          rw [List.drop_eq_getElem_cons hlt]; congr 1; rw [List.getElem?_eq_getElem hlt] at hx; exact Option.some.inj hx
        have hff := h.fork f (by rw [hd]; simp)
        have hwf : f.1.length ≤ 1000 := by
          rw [hd, wts_cons] at hb1
          have := hff.dep
          unfold wt at hb1
          have : f.1.length ≤ f.1.length * (8 - f.2) := Nat.le_mul_of_pos_right _ (by omega)
          omega
        refine Aw.setL (l' := [(7, .t (.c (.d (.rs 2 ((A.kids.drop k).map grpD))))), (6, .t (.c (.ph 1 0 0))), (4, .t (.c (.ph 0 0 0)))]) (os' := [some (svO zs zs zs (.d (.s (.slice none 0 0))) 0), some (svO (bs A.letters) (bs A.more) (bs A.first) (.h 2) kp), some (kRow A.rests), none]) (n' := 4) [3] (by repeat (first | exact trivial | refine ⟨SetA.same rfl, ?_⟩ | refine ⟨SetA.row rfl rfl (by decide), ?_⟩)) (by repeat (first | exact trivial | refine ⟨rfl, rfl, ?_⟩ | show SubL _ _ _ _)) (by decide) ?_
        have hpos : decide ((0 : Int) < (((A.kids.drop (k + 1)).length + 1 : Nat) : Int)) = true := decide_eq_true (by omega)
        have hput := l3Put_ac { A with kids := [] } f kp hff rfl hwf (by show A.rests.length ≤ 1000; omega) (by show A.letters.length ≤ 1000; omega) hb4 hb5
        have c01 : ((0 : Int) ≤ 1) = True := eq_true (by omega)
        have c1l : ((1 : Int) ≤ (((A.kids.drop (k + 1)).length + 1 : Nat) : Int)) = True := eq_true (by omega)
        have tn : Int.toNat 1 = 1 := rfl
        have tk : List.take (A.kids.drop (k + 1)).length (List.map grpD (A.kids.drop (k + 1))) = List.map grpD (A.kids.drop (k + 1)) := by rw [List.take_of_length_le (by simp)]
        have hdr2 : (A.kids ++ (node kp f).kids).drop (k + 1) = A.kids.drop (k + 1) ++ (node kp f).kids := by
          rw [List.drop_append_of_le_length (by omega)]
        have hnx := h.next hx
        have hdr : (A.add (node kp f)).kids.drop (k + 1) = A.kids.drop (k + 1) ++ (node kp f).kids := by
          simp only [Put.add]; rw [List.drop_append_of_le_length (by omega)]
        have hb6 := hnx.b3
        rw [hdr, wts_app] at hb6
        have w1 := wts_len (A.kids.drop (k + 1)); have w2 := wts_len (node kp f).kids
        have q1 : (A.kids.drop (k + 1)).length * 32 ≤ 140737488355328 := by omega
        have q2 : ((A.kids.drop (k + 1)).length + (node kp f).kids.length) * 32 ≤ 140737488355328 := by omega
        have hkd : (({ A with kids := [] } : Put).add (node kp f)).kids = (node kp f).kids := rfl
        repeat (first | apply Aw_seq | apply Aw_block | apply Aw_skip | apply Aw_exit | refine Aw_condt rfl ?_ | refine Aw_condf rfl ?_ | ((first | refine qr ?_ | refine qd (by kernel_rfl) (by kernel_rfl) ?_); simp only [go_sem, jE, reduceIte, jA, jM, jS, jL, jD, jB, hpos, hd, c01, c1l, tn, tk, q1, q2, hkd]) | refine dk (by kernel_rfl) ?_ | (refine qx (call_L (N' := [2]) (L := []) (hput) rfl (.cons (.nm rfl) (.cons (.nm rfl) (.nil))) (by decide) (by decide) (by decide) (by simp only [go_sem, jE, reduceIte, jA, jM, jS, jL, jD, jB, hpos, hd, c01, c1l, tn, tk, q1, q2, hkd]; first | done | rfl) (.inl rfl) rfl (by decide)) (by simp only [go_sem, jE, reduceIte, jA, jM, jS, jL, jD, jB, hpos, hd, c01, c1l, tn, tk, q1, q2, hkd]; first | done | rfl) rfl (by simp only [go_sem, Nat.reduceLT]) ?_; simp only [go_sem, jE, reduceIte, jA, jM, jS, jL, jD, jB, hpos, hd, c01, c1l, tn, tk, q1, q2, hkd]))
        refine ⟨⟨A.add (node kp f), k + 1, hnx⟩, [0, 1, 13, 25], ?_, rwL (by repeat (first | exact trivial | refine ⟨rfl, rfl, ?_⟩)) (by rfl) (by simp only [go_sem, jE, reduceIte, jA, jM, jS, jL, jD, jB, hdr2, Put.add]; first | done | rfl) (by decide) (by unfold idM; decide)⟩
        have hdc := h.dec hx
        rw [hd] at hdc
        exact hdc
      · have hk0 : A.kids.drop k = [] := by rw [List.drop_eq_nil_iff]; omega
        have e1 := h.letters; have e2 := h.more; have e3 := h.first; have e4 := h.rests
        rw [hk0, bfsF_nil] at e1 e2 e3 e4
        simp only [zPut, List.append_nil] at e1 e2 e3 e4
        have hpos : decide ((0 : Int) < ((0 : Nat) : Int)) = false := rfl
        repeat (first | apply Aw_seq | apply Aw_block | apply Aw_skip | apply Aw_exit | refine Aw_condt rfl ?_ | refine Aw_condf rfl ?_ | ((first | refine qr ?_ | refine qd (by kernel_rfl) (by kernel_rfl) ?_); simp only [go_sem, jE, reduceIte, jA, jM, jS, jL, jD, jB, hk0, hpos]) | refine dk (by kernel_rfl) ?_)
        rw [← e1, ← e2, ← e3, ← e4]
        exact Aw_ret (retL (M := [2]) (.inl rfl) (by simp only [go_sem, jE, reduceIte, jA, jM, jS, jL, jD, jB]; first | done | rfl) rfl rfl (by rfl) (by simp only [go_sem, jE, reduceIte, jA, jM, jS, jL, jD, jB, Option.getD_some]; first | done | rfl | (and_intros <;> rfl)) (by decide) (by unfold idM; decide))
theorem sieveS_ac (keys : List ByteArray) (keep : Int) (hs : SmS keys) : AC Tryz.prog 94 [strsT keys, iT keep] noHp 0 ⟨.tup [sveT ((sieveM keys keep).getD zSve) (.d (.rs 1 (((sieveM keys keep).getD zSve).rests.map strD))), bT (sieveM keys keep).isSome], noHp, 0⟩ :=
  AC.settle0 [0] (sieve_ac keys keep hs) (.cons (.cons (.inl rfl) (.cons (.inl rfl) (.cons (.inl rfl) (.cons (SetC.row0 rfl rfl) (.cons (.inl rfl) .nil))))) (.cons (.inl rfl) .nil)) rfl
theorem ssieveS_ac (keys : List ByteArray) (keep : Int) (hs : SmS keys) : AC Tryz.prog 90 [strsT keys, iT keep] noHp 0 ⟨.tup [sveT ((sieveM keys keep).getD zSve) (.d (.rs 1 (((sieveM keys keep).getD zSve).rests.map strD))), bT (sieveM keys keep).isSome], noHp, 0⟩ :=
  AC.settle0 [0] (ssieve_ac keys keep hs) (.cons (.cons (.inl rfl) (.cons (.inl rfl) (.cons (.inl rfl) (.cons (SetC.row0 rfl rfl) (.cons (.inl rfl) .nil))))) (.cons (.inl rfl) .nil)) rfl
def tmAt (ts : List Int) (now : Int) (i : Nat) : Bool := match ts[i]? with
  | some t => inB 0 t now && (match i with
    | 0 => true
    | j + 1 => match ts[j]? with
      | some p => !decide (t ≤ p)
      | none => true)
  | none => true
def timesM (ts : List Int) (now : Int) : Bool := allI ts.length (tmAt ts now) && decide (ts.length ≤ 3)
theorem tm_bad {ts : List Int} {now : Int} {i : Nat} (hi : i < ts.length) (h : tmAt ts now i = false) : timesM ts now = false := by unfold timesM; rw [allI_f hi h]; rfl
theorem tm_end {ts : List Int} {now : Int} (h : ∀ j, j < ts.length → tmAt ts now j = true) : timesM ts now = decide ((ts.length : Int) ≤ 3) := by
  unfold timesM; rw [allI_t h, Bool.true_and]; exact decide_eq_decide.2 (by omega)
theorem timesOk_ac (ts : List Int) (now : Int) (hl : ts.length ≤ 1099511627776) : AC Tryz.prog 104 [intsT ts, iT now] noHp 0 ⟨.t (bT (timesM ts now)), noHp, 0⟩ := by
  refine AC_of Tryz.func104 rfl Tryz.ntmps104 Tryz.results104 (by kernel_rfl) rfl ?_
  simp only [List.zipIdx, List.map, Nat.zero_add, Nat.reduceAdd]
  repeat (first | apply Aw_seq | apply Aw_block | apply Aw_skip | apply Aw_exit | refine Aw_condt rfl ?_ | refine Aw_condf rfl ?_ | ((first | refine qr ?_ | refine qd (by kernel_rfl) (by kernel_rfl) ?_); simp only [go_sem, jE, reduceIte, jA, jM, jS, jL, jD, jB]) | refine dk (by kernel_rfl) ?_)
  refine Aw.rw (rw0 (l' := [(9, .t (iT (0 : Nat))), (8, .t (iT ts.length)), (7, .t (intsT ts)), (1, .t (iT now)), (0, .t (intsT ts))]) (n' := 0) (by repeat (first | exact trivial | refine ⟨rfl, rfl, ?_⟩))) ?_
  refine Aw_loop0 (ι := { i : Nat // i ≤ ts.length ∧ (∀ j, j < i → tmAt ts now j = true) }) (fun q => [(9, .t (iT (q.1 : Nat))), (8, .t (iT ts.length)), (7, .t (intsT ts)), (1, .t (iT now)), (0, .t (intsT ts))]) (fun q => ts.length - q.1) ⟨0, Nat.zero_le _, fun j hj => absurd hj (by omega)⟩ ?_
  rintro ⟨i, hi, hp⟩
  dsimp only
  by_cases hlt : i < ts.length
  · have h1 : (i : Int) < (ts.length : Int) := by omega
    have h2 := wrap_succ hlt hl
    obtain ⟨t, hx⟩ : ∃ e, ts[i]? = some e := ⟨_, List.getElem?_eq_getElem hlt⟩
    cases c1 : inB 0 t now
    · repeat (first | apply Aw_seq | apply Aw_block | apply Aw_skip | apply Aw_exit | refine Aw_condt rfl ?_ | refine Aw_condf rfl ?_ | ((first | refine qr ?_ | refine qd (by kernel_rfl) (by kernel_rfl) ?_); simp only [go_sem, jE, reduceIte, jA, jM, jS, jL, jD, jB, h1, hx, c1]) | refine dk (by kernel_rfl) ?_ | (refine qp (in_ac _ _ _) (by simp only [go_sem, jE, reduceIte, jA, jM, jS, jL, jD, jB, h1, hx, c1]; first | done | rfl) rfl (by simp only [go_sem, Nat.reduceLT]) rfl rfl ?_; simp only [go_sem, jE, reduceIte, jA, jM, jS, jL, jD, jB, h1, hx, c1]))
      exact Aw_ret (ret0 (.inl rfl) (by simp only [go_sem, jE, reduceIte, jA, jM, jS, jL, jD, jB]; rfl) (by rw [tm_bad hlt (by simp [tmAt, hx, c1])]) rfl)
    · rcases i with _ | j
      · have h5 : decide ((0 : Int) < ((0 : Nat) : Int)) = false := rfl
        repeat (first | apply Aw_seq | apply Aw_block | apply Aw_skip | apply Aw_exit | refine Aw_condt rfl ?_ | refine Aw_condf rfl ?_ | ((first | refine qr ?_ | refine qd (by kernel_rfl) (by kernel_rfl) ?_); simp only [go_sem, jE, reduceIte, jA, jM, jS, jL, jD, jB, h1, hx, c1, h2, h5]) | refine dk (by kernel_rfl) ?_ | (refine qp (in_ac _ _ _) (by simp only [go_sem, jE, reduceIte, jA, jM, jS, jL, jD, jB, h1, hx, c1, h2, h5]; first | done | rfl) rfl (by simp only [go_sem, Nat.reduceLT]) rfl rfl ?_; simp only [go_sem, jE, reduceIte, jA, jM, jS, jL, jD, jB, h1, hx, c1, h2, h5]))
        exact ⟨⟨0 + 1, by omega, upto_succ hp (by simp [tmAt, hx, c1])⟩, (by simp only []; omega), rw0 (by repeat (first | exact trivial | refine ⟨rfl, rfl, ?_⟩))⟩
      · have h5 : decide ((0 : Int) < ((j + 1 : Nat) : Int)) = true := decide_eq_true (by omega)
        have h6 := wrap_pred (i := j) (by omega) hl
        obtain ⟨p, hy⟩ : ∃ e, ts[j]? = some e := ⟨_, List.getElem?_eq_getElem (by omega)⟩
        cases c2 : decide (t ≤ p)
        · repeat (first | apply Aw_seq | apply Aw_block | apply Aw_skip | apply Aw_exit | refine Aw_condt rfl ?_ | refine Aw_condf rfl ?_ | ((first | refine qr ?_ | refine qd (by kernel_rfl) (by kernel_rfl) ?_); simp only [go_sem, jE, reduceIte, jA, jM, jS, jL, jD, jB, h1, hx, c1, h2, h5, h6, hy, c2]) | refine dk (by kernel_rfl) ?_ | (refine qp (in_ac _ _ _) (by simp only [go_sem, jE, reduceIte, jA, jM, jS, jL, jD, jB, h1, hx, c1, h2, h5, h6, hy, c2]; first | done | rfl) rfl (by simp only [go_sem, Nat.reduceLT]) rfl rfl ?_; simp only [go_sem, jE, reduceIte, jA, jM, jS, jL, jD, jB, h1, hx, c1, h2, h5, h6, hy, c2]))
          exact ⟨⟨j + 1 + 1, by omega, upto_succ hp (by simp [tmAt, hx, hy, c1]; simpa using c2)⟩, (by simp only []; omega), rw0 (by repeat (first | exact trivial | refine ⟨rfl, rfl, ?_⟩))⟩
        · repeat (first | apply Aw_seq | apply Aw_block | apply Aw_skip | apply Aw_exit | refine Aw_condt rfl ?_ | refine Aw_condf rfl ?_ | ((first | refine qr ?_ | refine qd (by kernel_rfl) (by kernel_rfl) ?_); simp only [go_sem, jE, reduceIte, jA, jM, jS, jL, jD, jB, h1, hx, c1, h2, h5, h6, hy, c2]) | refine dk (by kernel_rfl) ?_ | (refine qp (in_ac _ _ _) (by simp only [go_sem, jE, reduceIte, jA, jM, jS, jL, jD, jB, h1, hx, c1, h2, h5, h6, hy, c2]; first | done | rfl) rfl (by simp only [go_sem, Nat.reduceLT]) rfl rfl ?_; simp only [go_sem, jE, reduceIte, jA, jM, jS, jL, jD, jB, h1, hx, c1, h2, h5, h6, hy, c2]))
          exact Aw_ret (ret0 (.inl rfl) (by simp only [go_sem, jE, reduceIte, jA, jM, jS, jL, jD, jB]; rfl) (by rw [tm_bad hlt (by simp [tmAt, hx, hy, c1]; simpa using c2)]) rfl)
  · have h1 : ¬ (i : Int) < (ts.length : Int) := by omega
    have he : i = ts.length := by omega
    subst he
    repeat (first | apply Aw_seq | apply Aw_block | apply Aw_skip | apply Aw_exit | refine Aw_condt rfl ?_ | refine Aw_condf rfl ?_ | ((first | refine qr ?_ | refine qd (by kernel_rfl) (by kernel_rfl) ?_); simp only [go_sem, jE, reduceIte, jA, jM, jS, jL, jD, jB, h1]) | refine dk (by kernel_rfl) ?_)
    exact Aw_ret (ret0 (.inl rfl) (by simp only [go_sem, jE, reduceIte, jA, jM, jS, jL, jD, jB]; rfl) (by rw [tm_end hp]) rfl)
theorem l12Times_ac (ts : List Int) (now : Int) (hl : ts.length ≤ 1099511627776) : AC Tryz.prog 86 [intsT ts, iT now] noHp 0 ⟨.t (bT (timesM ts now)), noHp, 0⟩ := by
  refine AC_of Tryz.func86 rfl Tryz.ntmps86 Tryz.results86 (by kernel_rfl) rfl ?_
  simp only [List.zipIdx, List.map, Nat.zero_add, Nat.reduceAdd]
  repeat (first | apply Aw_seq | apply Aw_block | apply Aw_skip | apply Aw_exit | refine Aw_condt rfl ?_ | refine Aw_condf rfl ?_ | ((first | refine qr ?_ | refine qd (by kernel_rfl) (by kernel_rfl) ?_); simp only [go_sem, jE, reduceIte, jA, jM, jS, jL, jD, jB]) | refine dk (by kernel_rfl) ?_)
  refine Aw.rw (rw0 (l' := [(5, .t (iT (0 : Nat))), (1, .t (iT now)), (0, .t (intsT ts))]) (n' := 0) (by repeat (first | exact trivial | refine ⟨rfl, rfl, ?_⟩))) ?_
  refine Aw_loop0 (ι := { i : Nat // i ≤ ts.length ∧ (∀ j, j < i → tmAt ts now j = true) }) (fun q => [(5, .t (iT (q.1 : Nat))), (1, .t (iT now)), (0, .t (intsT ts))]) (fun q => ts.length - q.1) ⟨0, Nat.zero_le _, fun j hj => absurd hj (by omega)⟩ ?_
  rintro ⟨i, hi, hp⟩
  dsimp only
  by_cases hlt : i < ts.length
  · have h1 : (i : Int) < (ts.length : Int) := by omega
    have h2 := wrap_succ hlt hl
    obtain ⟨t, hx⟩ : ∃ e, ts[i]? = some e := ⟨_, List.getElem?_eq_getElem hlt⟩
    cases c1 : inB 0 t now
    · repeat (first | apply Aw_seq | apply Aw_block | apply Aw_skip | apply Aw_exit | refine Aw_condt rfl ?_ | refine Aw_condf rfl ?_ | ((first | refine qr ?_ | refine qd (by kernel_rfl) (by kernel_rfl) ?_); simp only [go_sem, jE, reduceIte, jA, jM, jS, jL, jD, jB, h1, hx, c1]) | refine dk (by kernel_rfl) ?_ | (refine qp (l6In_ac _ _ _) (by simp only [go_sem, jE, reduceIte, jA, jM, jS, jL, jD, jB, h1, hx, c1]; first | done | rfl) rfl (by simp only [go_sem, Nat.reduceLT]) rfl rfl ?_; simp only [go_sem, jE, reduceIte, jA, jM, jS, jL, jD, jB, h1, hx, c1]))
      exact Aw_ret (ret0 (.inl rfl) (by simp only [go_sem, jE, reduceIte, jA, jM, jS, jL, jD, jB]; rfl) (by rw [tm_bad hlt (by simp [tmAt, hx, c1])]) rfl)
    · rcases i with _ | j
      · have h5 : decide ((0 : Int) < ((0 : Nat) : Int)) = false := rfl
        repeat (first | apply Aw_seq | apply Aw_block | apply Aw_skip | apply Aw_exit | refine Aw_condt rfl ?_ | refine Aw_condf rfl ?_ | ((first | refine qr ?_ | refine qd (by kernel_rfl) (by kernel_rfl) ?_); simp only [go_sem, jE, reduceIte, jA, jM, jS, jL, jD, jB, h1, hx, c1, h2, h5]) | refine dk (by kernel_rfl) ?_ | (refine qp (l6In_ac _ _ _) (by simp only [go_sem, jE, reduceIte, jA, jM, jS, jL, jD, jB, h1, hx, c1, h2, h5]; first | done | rfl) rfl (by simp only [go_sem, Nat.reduceLT]) rfl rfl ?_; simp only [go_sem, jE, reduceIte, jA, jM, jS, jL, jD, jB, h1, hx, c1, h2, h5]))
        exact ⟨⟨0 + 1, by omega, upto_succ hp (by simp [tmAt, hx, c1])⟩, (by simp only []; omega), rw0 (by repeat (first | exact trivial | refine ⟨rfl, rfl, ?_⟩))⟩
      · have h5 : decide ((0 : Int) < ((j + 1 : Nat) : Int)) = true := decide_eq_true (by omega)
        have h6 := wrap_pred (i := j) (by omega) hl
        obtain ⟨p, hy⟩ : ∃ e, ts[j]? = some e := ⟨_, List.getElem?_eq_getElem (by omega)⟩
        cases c2 : decide (t ≤ p)
        · repeat (first | apply Aw_seq | apply Aw_block | apply Aw_skip | apply Aw_exit | refine Aw_condt rfl ?_ | refine Aw_condf rfl ?_ | ((first | refine qr ?_ | refine qd (by kernel_rfl) (by kernel_rfl) ?_); simp only [go_sem, jE, reduceIte, jA, jM, jS, jL, jD, jB, h1, hx, c1, h2, h5, h6, hy, c2]) | refine dk (by kernel_rfl) ?_ | (refine qp (l6In_ac _ _ _) (by simp only [go_sem, jE, reduceIte, jA, jM, jS, jL, jD, jB, h1, hx, c1, h2, h5, h6, hy, c2]; first | done | rfl) rfl (by simp only [go_sem, Nat.reduceLT]) rfl rfl ?_; simp only [go_sem, jE, reduceIte, jA, jM, jS, jL, jD, jB, h1, hx, c1, h2, h5, h6, hy, c2]))
          exact ⟨⟨j + 1 + 1, by omega, upto_succ hp (by simp [tmAt, hx, hy, c1]; simpa using c2)⟩, (by simp only []; omega), rw0 (by repeat (first | exact trivial | refine ⟨rfl, rfl, ?_⟩))⟩
        · repeat (first | apply Aw_seq | apply Aw_block | apply Aw_skip | apply Aw_exit | refine Aw_condt rfl ?_ | refine Aw_condf rfl ?_ | ((first | refine qr ?_ | refine qd (by kernel_rfl) (by kernel_rfl) ?_); simp only [go_sem, jE, reduceIte, jA, jM, jS, jL, jD, jB, h1, hx, c1, h2, h5, h6, hy, c2]) | refine dk (by kernel_rfl) ?_ | (refine qp (l6In_ac _ _ _) (by simp only [go_sem, jE, reduceIte, jA, jM, jS, jL, jD, jB, h1, hx, c1, h2, h5, h6, hy, c2]; first | done | rfl) rfl (by simp only [go_sem, Nat.reduceLT]) rfl rfl ?_; simp only [go_sem, jE, reduceIte, jA, jM, jS, jL, jD, jB, h1, hx, c1, h2, h5, h6, hy, c2]))
          exact Aw_ret (ret0 (.inl rfl) (by simp only [go_sem, jE, reduceIte, jA, jM, jS, jL, jD, jB]; rfl) (by rw [tm_bad hlt (by simp [tmAt, hx, hy, c1]; simpa using c2)]) rfl)
  · have h1 : ¬ (i : Int) < (ts.length : Int) := by omega
    have he : i = ts.length := by omega
    subst he
    repeat (first | apply Aw_seq | apply Aw_block | apply Aw_skip | apply Aw_exit | refine Aw_condt rfl ?_ | refine Aw_condf rfl ?_ | ((first | refine qr ?_ | refine qd (by kernel_rfl) (by kernel_rfl) ?_); simp only [go_sem, jE, reduceIte, jA, jM, jS, jL, jD, jB, h1]) | refine dk (by kernel_rfl) ?_)
    exact Aw_ret (ret0 (.inl rfl) (by simp only [go_sem, jE, reduceIte, jA, jM, jS, jL, jD, jB]; rfl) (by rw [tm_end hp]) rfl)
theorem ls_eq {α : Type} {a b : List α} (hl : a.length = b.length) (h : ∀ j, j < a.length → a[j]? = b[j]?) : a = b := by
  apply List.ext_getElem? 
  intro i
  rcases Nat.lt_or_ge i a.length with hi | hi
  · exact h i hi
  · rw [List.getElem?_eq_none hi, List.getElem?_eq_none (by omega)]
theorem equal_ac (a b : List ByteArray) (ha : a.length ≤ 1099511627776) : AC Tryz.prog 142 [strsT a, strsT b] noHp 0 ⟨.t (bT (decide (a = b))), noHp, 0⟩ := by
  refine AC_of Tryz.func142 rfl Tryz.ntmps142 Tryz.results142 (by kernel_rfl) rfl ?_
  simp only [List.zipIdx, List.map, Nat.zero_add, Nat.reduceAdd]
  cases c0 : decide ((a.length : Int) = (b.length : Int))
  · repeat (first | apply Aw_seq | apply Aw_block | apply Aw_skip | apply Aw_exit | refine Aw_condt rfl ?_ | refine Aw_condf rfl ?_ | ((first | refine qr ?_ | refine qd (by kernel_rfl) (by kernel_rfl) ?_); simp only [go_sem, jE, reduceIte, jA, jM, jS, jL, jD, jB, c0]) | refine dk (by kernel_rfl) ?_)
    exact Aw_ret (ret0 (.inl rfl) (by simp only [go_sem, jE, reduceIte, jA, jM, jS, jL, jD, jB]; rfl) (by rw [decide_eq_false (fun e => by rw [e] at c0; simp at c0)]) rfl)
  · have hl : a.length = b.length := by have := of_decide_eq_true c0; omega
    repeat (first | apply Aw_seq | apply Aw_block | apply Aw_skip | apply Aw_exit | refine Aw_condt rfl ?_ | refine Aw_condf rfl ?_ | ((first | refine qr ?_ | refine qd (by kernel_rfl) (by kernel_rfl) ?_); simp only [go_sem, jE, reduceIte, jA, jM, jS, jL, jD, jB, c0]) | refine dk (by kernel_rfl) ?_)
    refine Aw.rw (rw0 (l' := [(13, .t (iT (0 : Nat))), (12, .t (iT a.length)), (1, .t (strsT b)), (0, .t (strsT a))]) (n' := 0) (by repeat (first | exact trivial | refine ⟨rfl, rfl, ?_⟩))) ?_
    refine Aw_loop0 (ι := { i : Nat // i ≤ a.length ∧ (∀ j, j < i → a[j]? = b[j]?) }) (fun q => [(13, .t (iT (q.1 : Nat))), (12, .t (iT a.length)), (1, .t (strsT b)), (0, .t (strsT a))]) (fun q => a.length - q.1) ⟨0, Nat.zero_le _, fun j hj => absurd hj (by omega)⟩ ?_
    rintro ⟨i, hi, hp⟩
    dsimp only
    by_cases hlt : i < a.length
    · have h1 : (i : Int) < (a.length : Int) := by omega
      have h2 := wrap_succ hlt ha
      obtain ⟨x, hx⟩ : ∃ e, a[i]? = some e := ⟨_, List.getElem?_eq_getElem hlt⟩
      obtain ⟨y, hy⟩ : ∃ e, b[i]? = some e := ⟨_, List.getElem?_eq_getElem (by omega)⟩
      cases c1 : decide (x = y)
      · repeat (first | apply Aw_seq | apply Aw_block | apply Aw_skip | apply Aw_exit | refine Aw_condt rfl ?_ | refine Aw_condf rfl ?_ | ((first | refine qr ?_ | refine qd (by kernel_rfl) (by kernel_rfl) ?_); simp only [go_sem, jE, reduceIte, jA, jM, jS, jL, jD, jB, h1, hx, hy, h2, c1]) | refine dk (by kernel_rfl) ?_)
        exact Aw_ret (ret0 (.inl rfl) (by simp only [go_sem, jE, reduceIte, jA, jM, jS, jL, jD, jB]; rfl) (by rw [decide_eq_false (fun e => by rw [e, hy] at hx; rw [Option.some.inj hx] at c1; simp at c1)]) rfl)
      · repeat (first | apply Aw_seq | apply Aw_block | apply Aw_skip | apply Aw_exit | refine Aw_condt rfl ?_ | refine Aw_condf rfl ?_ | ((first | refine qr ?_ | refine qd (by kernel_rfl) (by kernel_rfl) ?_); simp only [go_sem, jE, reduceIte, jA, jM, jS, jL, jD, jB, h1, hx, hy, h2, c1]) | refine dk (by kernel_rfl) ?_)
        exact ⟨⟨i + 1, by omega, fun j hj => by rcases Nat.lt_succ_iff_lt_or_eq.1 hj with h | rfl; exact hp j h; rw [hx, hy, of_decide_eq_true c1]⟩, (by simp only []; omega), rw0 (by repeat (first | exact trivial | refine ⟨rfl, rfl, ?_⟩))⟩
    · have h1 : ¬ (i : Int) < (a.length : Int) := by omega
      have he : i = a.length := by omega
      subst he
      repeat (first | apply Aw_seq | apply Aw_block | apply Aw_skip | apply Aw_exit | refine Aw_condt rfl ?_ | refine Aw_condf rfl ?_ | ((first | refine qr ?_ | refine qd (by kernel_rfl) (by kernel_rfl) ?_); simp only [go_sem, jE, reduceIte, jA, jM, jS, jL, jD, jB, h1]) | refine dk (by kernel_rfl) ?_)
      exact Aw_ret (ret0 (.inl rfl) (by simp only [go_sem, jE, reduceIte, jA, jM, jS, jL, jD, jB]; rfl) (by rw [decide_eq_true (ls_eq hl hp)]) rfl)
theorem l3Sames_ac (a b : List ByteArray) (ha : a.length ≤ 1099511627776) : AC Tryz.prog 127 [strsT a, strsT b] noHp 0 ⟨.t (bT (decide (a = b))), noHp, 0⟩ := by
  refine AC_of Tryz.func127 rfl Tryz.ntmps127 Tryz.results127 (by kernel_rfl) rfl ?_
  simp only [List.zipIdx, List.map, Nat.zero_add, Nat.reduceAdd]
  cases c0 : decide ((a.length : Int) = (b.length : Int))
  · repeat (first | apply Aw_seq | apply Aw_block | apply Aw_skip | apply Aw_exit | refine Aw_condt rfl ?_ | refine Aw_condf rfl ?_ | ((first | refine qr ?_ | refine qd (by kernel_rfl) (by kernel_rfl) ?_); simp only [go_sem, jE, reduceIte, jA, jM, jS, jL, jD, jB, c0]) | refine dk (by kernel_rfl) ?_)
    exact Aw_ret (ret0 (.inl rfl) (by simp only [go_sem, jE, reduceIte, jA, jM, jS, jL, jD, jB]; rfl) (by rw [decide_eq_false (fun e => by rw [e] at c0; simp at c0)]) rfl)
  · have hl : a.length = b.length := by have := of_decide_eq_true c0; omega
    repeat (first | apply Aw_seq | apply Aw_block | apply Aw_skip | apply Aw_exit | refine Aw_condt rfl ?_ | refine Aw_condf rfl ?_ | ((first | refine qr ?_ | refine qd (by kernel_rfl) (by kernel_rfl) ?_); simp only [go_sem, jE, reduceIte, jA, jM, jS, jL, jD, jB, c0]) | refine dk (by kernel_rfl) ?_)
    refine Aw.rw (rw0 (l' := [(5, .t (iT (0 : Nat))), (1, .t (strsT b)), (0, .t (strsT a))]) (n' := 0) (by repeat (first | exact trivial | refine ⟨rfl, rfl, ?_⟩))) ?_
    refine Aw_loop0 (ι := { i : Nat // i ≤ a.length ∧ (∀ j, j < i → a[j]? = b[j]?) }) (fun q => [(5, .t (iT (q.1 : Nat))), (1, .t (strsT b)), (0, .t (strsT a))]) (fun q => a.length - q.1) ⟨0, Nat.zero_le _, fun j hj => absurd hj (by omega)⟩ ?_
    rintro ⟨i, hi, hp⟩
    dsimp only
    by_cases hlt : i < a.length
    · have h1 : (i : Int) < (a.length : Int) := by omega
      have h2 := wrap_succ hlt ha
      obtain ⟨x, hx⟩ : ∃ e, a[i]? = some e := ⟨_, List.getElem?_eq_getElem hlt⟩
      obtain ⟨y, hy⟩ : ∃ e, b[i]? = some e := ⟨_, List.getElem?_eq_getElem (by omega)⟩
      cases c1 : decide (x = y)
      · repeat (first | apply Aw_seq | apply Aw_block | apply Aw_skip | apply Aw_exit | refine Aw_condt rfl ?_ | refine Aw_condf rfl ?_ | ((first | refine qr ?_ | refine qd (by kernel_rfl) (by kernel_rfl) ?_); simp only [go_sem, jE, reduceIte, jA, jM, jS, jL, jD, jB, h1, hx, hy, h2, c1]) | refine dk (by kernel_rfl) ?_)
        exact Aw_ret (ret0 (.inl rfl) (by simp only [go_sem, jE, reduceIte, jA, jM, jS, jL, jD, jB]; rfl) (by rw [decide_eq_false (fun e => by rw [e, hy] at hx; rw [Option.some.inj hx] at c1; simp at c1)]) rfl)
      · repeat (first | apply Aw_seq | apply Aw_block | apply Aw_skip | apply Aw_exit | refine Aw_condt rfl ?_ | refine Aw_condf rfl ?_ | ((first | refine qr ?_ | refine qd (by kernel_rfl) (by kernel_rfl) ?_); simp only [go_sem, jE, reduceIte, jA, jM, jS, jL, jD, jB, h1, hx, hy, h2, c1]) | refine dk (by kernel_rfl) ?_)
        exact ⟨⟨i + 1, by omega, fun j hj => by rcases Nat.lt_succ_iff_lt_or_eq.1 hj with h | rfl; exact hp j h; rw [hx, hy, of_decide_eq_true c1]⟩, (by simp only []; omega), rw0 (by repeat (first | exact trivial | refine ⟨rfl, rfl, ?_⟩))⟩
    · have h1 : ¬ (i : Int) < (a.length : Int) := by omega
      have he : i = a.length := by omega
      subst he
      repeat (first | apply Aw_seq | apply Aw_block | apply Aw_skip | apply Aw_exit | refine Aw_condt rfl ?_ | refine Aw_condf rfl ?_ | ((first | refine qr ?_ | refine qd (by kernel_rfl) (by kernel_rfl) ?_); simp only [go_sem, jE, reduceIte, jA, jM, jS, jL, jD, jB, h1]) | refine dk (by kernel_rfl) ?_)
      exact Aw_ret (ret0 (.inl rfl) (by simp only [go_sem, jE, reduceIte, jA, jM, jS, jL, jD, jB]; rfl) (by rw [decide_eq_true (ls_eq hl hp)]) rfl)
theorem wrap_room {l : Nat} (h : l ≤ 1000) : IntKind.i64.wrap (8 * ((l + 1 : Nat) : Int)) = ((8 * (l + 1) : Nat) : Int) := by
  rw [show 8 * ((l + 1 : Nat) : Int) = ((8 * (l + 1) : Nat) : Int) by omega]; exact wrap_nat (by omega)
theorem room_ac (l : Nat) (h : l ≤ 1000) : AC Tryz.prog 95 [iT l] noHp 0 ⟨.t (iT ((8 * (l + 1) : Nat) : Int)), noHp, 0⟩ := by
  have h1 := wrap_succ (i := l) (m := 2000) (by omega) (by omega)
  have h2 := wrap_room h
  refine AC_of Tryz.func95 rfl Tryz.ntmps95 Tryz.results95 (by kernel_rfl) rfl ?_
  simp only [List.zipIdx, List.map, Nat.zero_add, Nat.reduceAdd]
  repeat (first | apply Aw_seq | apply Aw_block | apply Aw_skip | apply Aw_exit | refine Aw_condt rfl ?_ | refine Aw_condf rfl ?_ | ((first | refine qr ?_ | refine qd (by kernel_rfl) (by kernel_rfl) ?_); simp only [go_sem, jE, reduceIte, jA, jM, jS, jL, jD, jB, h1, h2]) | refine dk (by kernel_rfl) ?_)
  exact Aw_ret (ret0 (.inl rfl) (by simp only [go_sem, jE, reduceIte, jA, jM, jS, jL, jD, jB]; rfl) (by rfl) rfl)
theorem l12Size_ac (l : Nat) (h : l ≤ 1000) : AC Tryz.prog 91 [iT l] noHp 0 ⟨.t (iT ((8 * (l + 1) : Nat) : Int)), noHp, 0⟩ := by
  have h1 := wrap_succ (i := l) (m := 2000) (by omega) (by omega)
  have h2 := wrap_room h
  refine AC_of Tryz.func91 rfl Tryz.ntmps91 Tryz.results91 (by kernel_rfl) rfl ?_
  simp only [List.zipIdx, List.map, Nat.zero_add, Nat.reduceAdd]
  repeat (first | apply Aw_seq | apply Aw_block | apply Aw_skip | apply Aw_exit | refine Aw_condt rfl ?_ | refine Aw_condf rfl ?_ | ((first | refine qr ?_ | refine qd (by kernel_rfl) (by kernel_rfl) ?_); simp only [go_sem, jE, reduceIte, jA, jM, jS, jL, jD, jB, h1, h2]) | refine dk (by kernel_rfl) ?_)
  exact Aw_ret (ret0 (.inl rfl) (by simp only [go_sem, jE, reduceIte, jA, jM, jS, jL, jD, jB]; rfl) (by rfl) rfl)
abbrev sveP (s : Sve) : TV := sveT s (.d (.rs 1 (s.rests.map strD)))
def sveEq (a b : Sve) : Bool := decide (a.letters = b.letters) && decide (a.more = b.more) && decide (a.first = b.first) && decide (a.keep = b.keep) && decide (a.rests = b.rests)
theorem sveEq_iff {a b : Sve} : sveEq a b = true ↔ a = b := by
  unfold sveEq
  cases a; cases b
  simp only [Bool.and_eq_true, decide_eq_true_eq, Sve.mk.injEq]
  constructor
  · rintro ⟨⟨⟨⟨h1, h2⟩, h3⟩, h4⟩, h5⟩; exact ⟨h1, h2, h3, h5, h4⟩
  · rintro ⟨h1, h2, h3, h5, h4⟩; exact ⟨⟨⟨⟨h1, h2⟩, h3⟩, h4⟩, h5⟩
theorem same_ac (a b : Sve) (hl : a.rests.length ≤ 1099511627776) : AC Tryz.prog 106 [sveP a, sveP b] noHp 0 ⟨.t (bT (sveEq a b)), noHp, 0⟩ := by
  refine AC_of Tryz.func106 rfl Tryz.ntmps106 Tryz.results106 (by kernel_rfl) rfl ?_
  simp only [List.zipIdx, List.map, Nat.zero_add, Nat.reduceAdd]
  cases c1 : decide (a.letters = b.letters)
  · repeat (first | apply Aw_seq | apply Aw_block | apply Aw_skip | apply Aw_exit | refine Aw_condt rfl ?_ | refine Aw_condf rfl ?_ | ((first | refine qr ?_ | refine qd (by kernel_rfl) (by kernel_rfl) ?_); simp only [go_sem, jE, reduceIte, jA, jM, jS, jL, jD, jB, c1]) | refine dk (by kernel_rfl) ?_)
    exact Aw_ret (ret0 (.inl rfl) (by simp only [go_sem, jE, reduceIte, jA, jM, jS, jL, jD, jB]; rfl) (by unfold sveEq; simp [c1]) rfl)
  cases c2 : decide (a.more = b.more)
  · repeat (first | apply Aw_seq | apply Aw_block | apply Aw_skip | apply Aw_exit | refine Aw_condt rfl ?_ | refine Aw_condf rfl ?_ | ((first | refine qr ?_ | refine qd (by kernel_rfl) (by kernel_rfl) ?_); simp only [go_sem, jE, reduceIte, jA, jM, jS, jL, jD, jB, c1, c2]) | refine dk (by kernel_rfl) ?_)
    exact Aw_ret (ret0 (.inl rfl) (by simp only [go_sem, jE, reduceIte, jA, jM, jS, jL, jD, jB]; rfl) (by unfold sveEq; simp [c1, c2]) rfl)
  cases c3 : decide (a.first = b.first)
  · repeat (first | apply Aw_seq | apply Aw_block | apply Aw_skip | apply Aw_exit | refine Aw_condt rfl ?_ | refine Aw_condf rfl ?_ | ((first | refine qr ?_ | refine qd (by kernel_rfl) (by kernel_rfl) ?_); simp only [go_sem, jE, reduceIte, jA, jM, jS, jL, jD, jB, c1, c2, c3]) | refine dk (by kernel_rfl) ?_)
    exact Aw_ret (ret0 (.inl rfl) (by simp only [go_sem, jE, reduceIte, jA, jM, jS, jL, jD, jB]; rfl) (by unfold sveEq; simp [c1, c2, c3]) rfl)
  cases c4 : decide (a.keep = b.keep)
  · repeat (first | apply Aw_seq | apply Aw_block | apply Aw_skip | apply Aw_exit | refine Aw_condt rfl ?_ | refine Aw_condf rfl ?_ | ((first | refine qr ?_ | refine qd (by kernel_rfl) (by kernel_rfl) ?_); simp only [go_sem, jE, reduceIte, jA, jM, jS, jL, jD, jB, c1, c2, c3, c4]) | refine dk (by kernel_rfl) ?_)
    exact Aw_ret (ret0 (.inl rfl) (by simp only [go_sem, jE, reduceIte, jA, jM, jS, jL, jD, jB]; rfl) (by unfold sveEq; simp [c1, c2, c3, c4]) rfl)
  repeat (first | apply Aw_seq | apply Aw_block | apply Aw_skip | apply Aw_exit | refine Aw_condt rfl ?_ | refine Aw_condf rfl ?_ | ((first | refine qr ?_ | refine qd (by kernel_rfl) (by kernel_rfl) ?_); simp only [go_sem, jE, reduceIte, jA, jM, jS, jL, jD, jB, c1, c2, c3, c4]) | refine dk (by kernel_rfl) ?_ | (refine qp (equal_ac a.rests b.rests hl) (by simp only [go_sem, jE, reduceIte, jA, jM, jS, jL, jD, jB, c1, c2, c3, c4]; first | done | rfl) rfl (by simp only [go_sem, Nat.reduceLT]) rfl rfl ?_; simp only [go_sem, jE, reduceIte, jA, jM, jS, jL, jD, jB, c1, c2, c3, c4]))
  exact Aw_ret (ret0 (.inl rfl) (by simp only [go_sem, jE, reduceIte, jA, jM, jS, jL, jD, jB]; rfl) (by unfold sveEq; simp [c1, c2, c3, c4]) rfl)
/-- An entry, as it lies in a variable. -/
def enO (e : Ent) : Obj := ⟨56, 4, false, [(entD e).map .d]⟩
@[go_sem] theorem r_enO (e : Ent) : enO e = ⟨56, 4, false, [[.d (.s (.string e.key)), .d (.s (.int .i64 e.val)), .d (.s (.bool e.gone)), .d (.s (.int .i64 e.time))]]⟩ := rfl
def older (x y : Ent) : Bool := decide (x.key = y.key) && decide (x.time ≤ y.time)
def newerM (a b : List Ent) : Bool := a.all fun x => b.all fun y => !older x y
theorem newer_bad {a b : List Ent} {x y : Ent} {i j : Nat} (hx : a[i]? = some x) (hy : b[j]? = some y) (h : older x y = true) : newerM a b = false := by
  unfold newerM
  rw [List.all_eq_false]
  refine ⟨x, List.mem_of_getElem? hx, ?_⟩
  rw [Bool.not_eq_true, List.all_eq_false]
  exact ⟨y, List.mem_of_getElem? hy, by simp [h]⟩
def noOld (x : Ent) (b : List Ent) (n : Nat) : Prop := ∀ j, j < n → ∀ y, b[j]? = some y → older x y = false
theorem newer_end {a b : List Ent} (h : ∀ i, i < a.length → ∀ x, a[i]? = some x → noOld x b b.length) : newerM a b = true := by
  unfold newerM
  rw [List.all_eq_true]
  intro x hx
  obtain ⟨i, hi⟩ := List.mem_iff_getElem?.1 hx
  rw [List.all_eq_true]
  intro y hy
  obtain ⟨j, hj⟩ := List.mem_iff_getElem?.1 hy
  rw [h i (List.getElem?_eq_some_iff.1 hi).1 x hi j (List.getElem?_eq_some_iff.1 hj).1 y hj]; rfl
theorem newer_ac (a b : List Ent) (ha : a.length ≤ 1099511627776) (hb : b.length ≤ 1099511627776) : AC Tryz.prog 107 [runT a, runT b] noHp 0 ⟨.t (bT (newerM a b)), noHp, 0⟩ := by
  refine AC_of Tryz.func107 rfl Tryz.ntmps107 Tryz.results107 (by kernel_rfl) rfl ?_
  simp only [List.zipIdx, List.map, Nat.zero_add, Nat.reduceAdd]
  repeat (first | apply Aw_seq | apply Aw_block | apply Aw_skip | apply Aw_exit | refine Aw_condt rfl ?_ | refine Aw_condf rfl ?_ | ((first | refine qr ?_ | refine qd (by kernel_rfl) (by kernel_rfl) ?_); simp only [go_sem, jE, reduceIte, jA, jM, jS, jL, jD, jB]) | refine dk (by kernel_rfl) ?_)
  refine Aw.rw (rw0 (l' := [(11, .t (iT (0 : Nat))), (10, .t (iT a.length)), (9, .t (runT a)), (1, .t (runT b)), (0, .t (runT a))]) (n' := 0) (by repeat (first | exact trivial | refine ⟨rfl, rfl, ?_⟩))) ?_
  refine Aw_loop0 (ι := { i : Nat // i ≤ a.length ∧ (∀ j, j < i → ∀ x, a[j]? = some x → noOld x b b.length) }) (fun q => [(11, .t (iT (q.1 : Nat))), (10, .t (iT a.length)), (9, .t (runT a)), (1, .t (runT b)), (0, .t (runT a))]) (fun q => a.length - q.1) ⟨0, Nat.zero_le _, fun j hj => absurd hj (by omega)⟩ ?_
  rintro ⟨i, hi, hp⟩
  dsimp only
  by_cases hlt : i < a.length
  · have h1 : (i : Int) < (a.length : Int) := by omega
    have h2 := wrap_succ hlt ha
    obtain ⟨x, hx⟩ : ∃ e, a[i]? = some e := ⟨_, List.getElem?_eq_getElem hlt⟩
    repeat (first | apply Aw_seq | apply Aw_block | apply Aw_skip | apply Aw_exit | refine Aw_condt rfl ?_ | refine Aw_condf rfl ?_ | ((first | refine qr ?_ | refine qd (by kernel_rfl) (by kernel_rfl) ?_); simp only [go_sem, jE, reduceIte, jA, jM, jS, jL, jD, jB, h1, hx]) | refine dk (by kernel_rfl) ?_)
    refine Aw.rw (rwL (l' := [(17, .t (iT (0 : Nat))), (16, .t (iT b.length)), (15, .t (runT b)), (6, .t (.c (.ph 0 0 0))), (11, .t (iT (i : Nat))), (10, .t (iT a.length)), (9, .t (runT a)), (1, .t (runT b)), (0, .t (runT a))]) (os := [some (enO x)]) (M := [3]) (n' := 1) (by repeat (first | exact trivial | refine ⟨rfl, rfl, ?_⟩)) (by rfl) (by simp only [go_sem, jE, reduceIte, jA, jM, jS, jL, jD, jB]; first | done | rfl) (by decide) (by unfold idM; decide)) ?_
    refine Aw_loop_rw (ι := { j : Nat // j ≤ b.length ∧ noOld x b j }) (fun j => S [(17, .t (iT (j.1 : Nat))), (16, .t (iT b.length)), (15, .t (runT b)), (6, .t (.c (.ph 0 0 0))), (11, .t (iT (i : Nat))), (10, .t (iT a.length)), (9, .t (runT a)), (1, .t (runT b)), (0, .t (runT a))] (hpL [some (enO x)]) 1) (fun j => b.length - j.1) ⟨0, Nat.zero_le _, fun j hj => absurd hj (by omega)⟩ ?_
    rintro ⟨j, hj, hq⟩
    dsimp only
    by_cases hjl : j < b.length
    · have g1 : (j : Int) < (b.length : Int) := by omega
      have g2 := wrap_succ hjl hb
      obtain ⟨y, hy⟩ : ∃ e, b[j]? = some e := ⟨_, List.getElem?_eq_getElem hjl⟩
      cases c1 : decide (x.key = y.key)
      · have ho : older x y = false := by unfold older; simp [c1]
        repeat (first | apply Aw_seq | apply Aw_block | apply Aw_skip | apply Aw_exit | refine Aw_condt rfl ?_ | refine Aw_condf rfl ?_ | ((first | refine qr ?_ | refine qd (by kernel_rfl) (by kernel_rfl) ?_); simp only [go_sem, jE, reduceIte, jA, jM, jS, jL, jD, jB, g1, hy, g2, c1]) | refine dk (by kernel_rfl) ?_)
        refine ⟨⟨j + 1, by omega, fun q hqj z hz => by rcases Nat.lt_succ_iff_lt_or_eq.1 hqj with h | rfl; exact hq q h z hz; rw [hy] at hz; rw [← Option.some.inj hz]; exact ho⟩, [0], ?_, rwL (by repeat (first | exact trivial | refine ⟨rfl, rfl, ?_⟩)) (by rfl) (by simp only [go_sem, jE, reduceIte, jA, jM, jS, jL, jD, jB]; first | done | rfl) (by decide) (by unfold idM; decide)⟩
        show b.length - (j + 1) < b.length - j; omega
      · cases c2 : decide (x.time ≤ y.time)
        · have ho : older x y = false := by unfold older; simp [c1, c2]
          repeat (first | apply Aw_seq | apply Aw_block | apply Aw_skip | apply Aw_exit | refine Aw_condt rfl ?_ | refine Aw_condf rfl ?_ | ((first | refine qr ?_ | refine qd (by kernel_rfl) (by kernel_rfl) ?_); simp only [go_sem, jE, reduceIte, jA, jM, jS, jL, jD, jB, g1, hy, g2, c1, c2]) | refine dk (by kernel_rfl) ?_)
          refine ⟨⟨j + 1, by omega, fun q hqj z hz => by rcases Nat.lt_succ_iff_lt_or_eq.1 hqj with h | rfl; exact hq q h z hz; rw [hy] at hz; rw [← Option.some.inj hz]; exact ho⟩, [0], ?_, rwL (by repeat (first | exact trivial | refine ⟨rfl, rfl, ?_⟩)) (by rfl) (by simp only [go_sem, jE, reduceIte, jA, jM, jS, jL, jD, jB]; first | done | rfl) (by decide) (by unfold idM; decide)⟩
          show b.length - (j + 1) < b.length - j; omega
        · have ho : older x y = true := by unfold older; simp [c1, c2]
          repeat (first | apply Aw_seq | apply Aw_block | apply Aw_skip | apply Aw_exit | refine Aw_condt rfl ?_ | refine Aw_condf rfl ?_ | ((first | refine qr ?_ | refine qd (by kernel_rfl) (by kernel_rfl) ?_); simp only [go_sem, jE, reduceIte, jA, jM, jS, jL, jD, jB, g1, hy, g2, c1, c2]) | refine dk (by kernel_rfl) ?_)
          exact Aw_ret (ret0 (.inl rfl) (by simp only [go_sem, jE, reduceIte, jA, jM, jS, jL, jD, jB]; rfl) (by rw [newer_bad hx hy ho]) rfl)
    · have g1 : ¬ (j : Int) < (b.length : Int) := by omega
      obtain rfl : j = b.length := by omega
      repeat (first | apply Aw_seq | apply Aw_block | apply Aw_skip | apply Aw_exit | refine Aw_condt rfl ?_ | refine Aw_condf rfl ?_ | ((first | refine qr ?_ | refine qd (by kernel_rfl) (by kernel_rfl) ?_); simp only [go_sem, jE, reduceIte, jA, jM, jS, jL, jD, jB, g1, h2]) | refine dk (by kernel_rfl) ?_)
      exact ⟨⟨i + 1, by omega, fun q hqj z hz => by rcases Nat.lt_succ_iff_lt_or_eq.1 hqj with h | rfl; exact hp q h z hz; rw [hx] at hz; rw [← Option.some.inj hz]; exact hq⟩, (by simp only []; omega), rw0 (by repeat (first | exact trivial | refine ⟨rfl, rfl, ?_⟩))⟩
  · have h1 : ¬ (i : Int) < (a.length : Int) := by omega
    have he : i = a.length := by omega
    subst he
    repeat (first | apply Aw_seq | apply Aw_block | apply Aw_skip | apply Aw_exit | refine Aw_condt rfl ?_ | refine Aw_condf rfl ?_ | ((first | refine qr ?_ | refine qd (by kernel_rfl) (by kernel_rfl) ?_); simp only [go_sem, jE, reduceIte, jA, jM, jS, jL, jD, jB, h1]) | refine dk (by kernel_rfl) ?_)
    exact Aw_ret (ret0 (.inl rfl) (by simp only [go_sem, jE, reduceIte, jA, jM, jS, jL, jD, jB]; rfl) (by rw [newer_end hp]) rfl)
def nwAt (b : List Ent) (now : Int) (e : Ent) : Bool := !decide (now < e.time) && (match atM b e.key 999 with
  | some q => !decide (e.time ≤ q.time)
  | none => true)
def newestM (a b : List Ent) (now : Int) : Bool := a.all (nwAt b now)
theorem newest_bad {a b : List Ent} {now : Int} {x : Ent} {i : Nat} (hx : a[i]? = some x) (h : nwAt b now x = false) : newestM a b now = false := by
  unfold newestM
  rw [List.all_eq_false]
  exact ⟨x, List.mem_of_getElem? hx, by simp [h]⟩
theorem newest_end {a b : List Ent} {now : Int} (h : ∀ i, i < a.length → ∀ x, a[i]? = some x → nwAt b now x = true) : newestM a b now = true := by
  unfold newestM
  rw [List.all_eq_true]
  intro x hx
  obtain ⟨i, hi⟩ := List.mem_iff_getElem?.1 hx
  exact h i (List.getElem?_eq_some_iff.1 hi).1 x hi
theorem l12Newest_ac (a b : List Ent) (now : Int) (ha : a.length ≤ 1099511627776) (hb : SmR b) : AC Tryz.prog 89 [runT a, runT b, iT now] noHp 0 ⟨.t (bT (newestM a b now)), noHp, 0⟩ := by
  refine AC_of Tryz.func89 rfl Tryz.ntmps89 Tryz.results89 (by kernel_rfl) rfl ?_
  simp only [List.zipIdx, List.map, Nat.zero_add, Nat.reduceAdd]
  repeat (first | apply Aw_seq | apply Aw_block | apply Aw_skip | apply Aw_exit | refine Aw_condt rfl ?_ | refine Aw_condf rfl ?_ | ((first | refine qr ?_ | refine qd (by kernel_rfl) (by kernel_rfl) ?_); simp only [go_sem, jE, reduceIte, jA, jM, jS, jL, jD, jB]) | refine dk (by kernel_rfl) ?_)
  refine Aw.rw (rw0 (l' := [(7, .t (iT (0 : Nat))), (2, .t (iT now)), (1, .t (runT b)), (0, .t (runT a))]) (n' := 0) (by repeat (first | exact trivial | refine ⟨rfl, rfl, ?_⟩))) ?_
  refine Aw_loop0 (ι := { i : Nat // i ≤ a.length ∧ (∀ j, j < i → ∀ x, a[j]? = some x → nwAt b now x = true) }) (fun q => [(7, .t (iT (q.1 : Nat))), (2, .t (iT now)), (1, .t (runT b)), (0, .t (runT a))]) (fun q => a.length - q.1) ⟨0, Nat.zero_le _, fun j hj => absurd hj (by omega)⟩ ?_
  rintro ⟨i, hi, hp⟩
  dsimp only
  by_cases hlt : i < a.length
  · have h1 : (i : Int) < (a.length : Int) := by omega
    have h2 := wrap_succ hlt ha
    obtain ⟨x, hx⟩ : ∃ e, a[i]? = some e := ⟨_, List.getElem?_eq_getElem hlt⟩
    have nx : nwAt b now x = true → ∀ j, j < i + 1 → ∀ z, a[j]? = some z → nwAt b now z = true := fun ho q hqj z hz => by
      rcases Nat.lt_succ_iff_lt_or_eq.1 hqj with h | rfl
      · exact hp q h z hz
      · rw [hx] at hz; rw [← Option.some.inj hz]; exact ho
    cases hc : decide (now < x.time)
    case true =>
      repeat (first | apply Aw_seq | apply Aw_block | apply Aw_skip | apply Aw_exit | refine Aw_condt rfl ?_ | refine Aw_condf rfl ?_ | ((first | refine qr ?_ | refine qd (by kernel_rfl) (by kernel_rfl) ?_); simp only [go_sem, jE, reduceIte, jA, jM, jS, jL, jD, jB, h1, hx, hc]) | refine dk (by kernel_rfl) ?_)
      exact Aw_ret (ret0 (.inl rfl) (by simp only [go_sem, jE, reduceIte, jA, jM, jS, jL, jD, jB]; rfl) (by rw [newest_bad hx (by unfold nwAt; simp only [hc]; rfl)]) rfl)
    case false =>
      have c1 := hc
      have hat := sat_ac b x.key 999 hb
      cases c2 : atM b x.key 999 with
      | none =>
        rw [c2] at hat
        repeat (first | apply Aw_seq | apply Aw_block | apply Aw_skip | apply Aw_exit | refine Aw_condt rfl ?_ | refine Aw_condf rfl ?_ | ((first | refine qr ?_ | refine qd (by kernel_rfl) (by kernel_rfl) ?_); simp only [go_sem, jE, reduceIte, jA, jM, jS, jL, jD, jB, h1, hx, c1, h2, Option.isSome_none, Option.getD_none]) | refine dk (by kernel_rfl) ?_ | (refine qp (hat) (by simp only [go_sem, jE, reduceIte, jA, jM, jS, jL, jD, jB, h1, hx, c1, h2, Option.isSome_none, Option.getD_none]; first | done | rfl) rfl (by simp only [go_sem, Nat.reduceLT]) rfl rfl ?_; simp only [go_sem, jE, reduceIte, jA, jM, jS, jL, jD, jB, h1, hx, c1, h2, Option.isSome_none, Option.getD_none]))
        exact ⟨⟨i + 1, by omega, nx (by unfold nwAt; simp only [c1, c2]; rfl)⟩, (by simp only []; omega), rw0 (by repeat (first | exact trivial | refine ⟨rfl, rfl, ?_⟩))⟩
      | some y =>
        rw [c2] at hat
        cases c3 : decide (x.time ≤ y.time)
        · repeat (first | apply Aw_seq | apply Aw_block | apply Aw_skip | apply Aw_exit | refine Aw_condt rfl ?_ | refine Aw_condf rfl ?_ | ((first | refine qr ?_ | refine qd (by kernel_rfl) (by kernel_rfl) ?_); simp only [go_sem, jE, reduceIte, jA, jM, jS, jL, jD, jB, h1, hx, c1, h2, c3, Option.isSome_some, Option.getD_some]) | refine dk (by kernel_rfl) ?_ | (refine qp (hat) (by simp only [go_sem, jE, reduceIte, jA, jM, jS, jL, jD, jB, h1, hx, c1, h2, c3, Option.isSome_some, Option.getD_some]; first | done | rfl) rfl (by simp only [go_sem, Nat.reduceLT]) rfl rfl ?_; simp only [go_sem, jE, reduceIte, jA, jM, jS, jL, jD, jB, h1, hx, c1, h2, c3, Option.isSome_some, Option.getD_some]))
          exact ⟨⟨i + 1, by omega, nx (by unfold nwAt; simp only [c1, c2, c3]; rfl)⟩, (by simp only []; omega), rw0 (by repeat (first | exact trivial | refine ⟨rfl, rfl, ?_⟩))⟩
        · repeat (first | apply Aw_seq | apply Aw_block | apply Aw_skip | apply Aw_exit | refine Aw_condt rfl ?_ | refine Aw_condf rfl ?_ | ((first | refine qr ?_ | refine qd (by kernel_rfl) (by kernel_rfl) ?_); simp only [go_sem, jE, reduceIte, jA, jM, jS, jL, jD, jB, h1, hx, c1, h2, c3, Option.isSome_some, Option.getD_some]) | refine dk (by kernel_rfl) ?_ | (refine qp (hat) (by simp only [go_sem, jE, reduceIte, jA, jM, jS, jL, jD, jB, h1, hx, c1, h2, c3, Option.isSome_some, Option.getD_some]; first | done | rfl) rfl (by simp only [go_sem, Nat.reduceLT]) rfl rfl ?_; simp only [go_sem, jE, reduceIte, jA, jM, jS, jL, jD, jB, h1, hx, c1, h2, c3, Option.isSome_some, Option.getD_some]))
          exact Aw_ret (ret0 (.inl rfl) (by simp only [go_sem, jE, reduceIte, jA, jM, jS, jL, jD, jB]; rfl) (by rw [newest_bad hx (by unfold nwAt; simp only [c1, c2, c3]; rfl)]) rfl)
  · have h1 : ¬ (i : Int) < (a.length : Int) := by omega
    have he : i = a.length := by omega
    subst he
    repeat (first | apply Aw_seq | apply Aw_block | apply Aw_skip | apply Aw_exit | refine Aw_condt rfl ?_ | refine Aw_condf rfl ?_ | ((first | refine qr ?_ | refine qd (by kernel_rfl) (by kernel_rfl) ?_); simp only [go_sem, jE, reduceIte, jA, jM, jS, jL, jD, jB, h1]) | refine dk (by kernel_rfl) ?_)
    exact Aw_ret (ret0 (.inl rfl) (by simp only [go_sem, jE, reduceIte, jA, jM, jS, jL, jD, jB]; rfl) (by rw [newest_end hp]) rfl)
open Go
structure CallOkV (P : Program) (f : FuncId) (cap : List PV) (hp : Hp) (va : List AV) (n : Nat) (v : AV) (h1 : Hp) (n1 : Nat) (rd wr : List Nat) : Prop where
  out : ∃ (ta tb : List TV) (hb : Hp) (N' L : List Nat) (o : Out), va = ta.map AV.t ∧ All2 (Arg hp N' L) (ta ++ capT cap) tb ∧ Hands hp hb N' L ∧ (L = [] ∨ (o.r.flat = true ∧ ∀ j q, o.hp j = some q → q.flat = true)) ∧ AC P f tb hb N'.length o ∧
    v = o.r.ren (pout N' n) ∧ h1 = hpOut hp N' n (o.n - N'.length) o.hp ∧ n1 = n + (o.n - N'.length) ∧ rd = N' ++ L ∧ wr = N'
section
variable {dr : Bool} {P : Program} {N k : Nat} {ops : Array Oper} {Q : Exit → St → Prop} {r : List Oper} {l : List (Nat × AV)} {hp h1 : Hp} {n : Nat} {acc : List FP}
theorem ex_callv {d : Option Tmp} {f : FuncId} {cap : List PV} {x : Operand} {args : List Operand} {ts : Array TypeId} {ty : TypeId} {pos : String} {after : Array Edge} {gd : Option (Nat × Bool)} {n1 : Nat} {rd wr : List Nat} {v : AV} {va : List AV}
    (hx : evO (look l) x = .t (.c (.fn f cap))) (h : CallOkV P f cap hp va n v h1 n1 rd wr) (hva : args.map (evO (look l)) = va) (hw : wantA ops (look l) ⟨d, .call { callee := .value x, args := args.toArray, argTypes := ts }, ty, pos, after, gd⟩ = some true) (hd : dstE N d)
    (q : Ev dr P N ops Q r (putE l d v) h1 n1 (fpC dr ⟨n, n1 - n, rd, wr⟩ acc)) :
    Ex dr P N ops Q (⟨d, .call { callee := .value x, args := args.toArray, argTypes := ts }, ty, pos, after, gd⟩ :: r) (S l hp n) acc := by
  obtain ⟨ta, tb, hb, N', L, o, e, hB, hh, hf, hc, rfl, rfl, rfl, rfl, rfl⟩ := h.out
  have q' := ev_ex _ _ _ _ _ q
  rw [Nat.add_sub_cancel_left] at q'
  cases dr with
  | true => exact dx_callv hw (dst_ok hd) rfl hx (by simpa [hva] using e) hB hh hf hc (by rw [put_lookE]; exact q')
  | false => exact fun a => dx_callv hw (dst_ok hd) rfl hx (by simpa [hva] using e) hB hh hf hc (by rw [put_lookE]; exact q' _)
theorem all2_app {α β : Type} {R : α → β → Prop} {b d : List β} : ∀ {a c : List α}, All2 R a b → All2 R c d → All2 R (a ++ c) (b ++ d) := by
  intro a c h1 h2
  induction h1 with
  | nil => exact h2
  | cons h _ ih => exact .cons h ih
theorem arg_nm {N' L : List Nat} {x y : TV} (h : x = y.ren (pin N')) (hb : y.bd N'.length = true) : Arg hp N' L x y := by subst h; exact .nm hb
/-- A call of a function value that hands objects on; j: how many arguments stand in the call. -/
theorem call_V {f : FuncId} {cap : List PV} {va : List AV} {ta tb : List TV} {N' L : List Nat} {hs os : List (Option Obj)} {x : AV} {m : Nat} (j : Nat) (hc : AC P f tb (hpL hs) N'.length ⟨x, hpL os, m⟩) (hv : va = ta.map AV.t) (hB1 : All2 (Arg hp N' L) ta (tb.take j)) (hB2 : All2 (Arg hp N' L) (capT cap) (tb.drop j))
    (hd : N'.Nodup) (hlt : ∀ q ∈ N', q < n) (hap : ∀ q ∈ L, q ∉ N') (hh : HandL hp N' N' hs) (hf : L = [] ∨ (x.flat = true ∧ ∀ o ∈ os, ∀ q, o = some q → q.flat = true)) (hl : os.length = m) (hm : N'.length ≤ m) :
    CallOkV P f cap hp va n (x.ren (pout N' n)) (updL hp (N' ++ List.range' n (m - N'.length)) (os.map (·.map (Obj.ren (pout N' n))))) (n + (m - N'.length)) (N' ++ L) N' := by
  have hB : All2 (Arg hp N' L) (ta ++ capT cap) tb := by have := all2_app hB1 hB2; rwa [List.take_append_drop] at this
  obtain ⟨h1, h2⟩ := handL_get hh
  refine ⟨ta, tb, hpL hs, N', L, ⟨x, hpL os, m⟩, hv, hB, ⟨hd, hap, fun j o hj => ?_, fun j hj => ?_⟩, hf.imp id fun h => ⟨h.1, fun j q hq => ?_⟩, hc, rfl, ?_, rfl, rfl, rfl⟩
  · rcases Nat.lt_or_ge j N'.length with h | h
    · exact h
    · rw [hpL_none (by omega)] at hj; cases hj
  · obtain ⟨o, q1, q2, q3⟩ := h2 j hj
    exact ⟨o, by simp [hpL, q1], q2, q3⟩
  · simp only [hpL] at hq
    cases ho : os[j]? with
    | none => rw [ho] at hq; simp at hq
    | some o => rw [ho] at hq; simp at hq; exact h.2 o (List.mem_of_getElem? ho) q hq
  · exact (hpOut_L hd hlt (by omega)).symm
/-- A loop, told round by round. -/
def AwR (P : Program) (N k : Nat) (x : Code) (Q : Exit → St → Prop) : Nat → St → Prop
  | 0, _ => False
  | n + 1, s => Aw P N k x (thenQ (AwR P N k x Q n) Q) s
theorem AwR_succ {x : Code} {Q : Exit → St → Prop} {m : Nat} {s : St} (h : Aw P N k x (thenQ (AwR P N k x Q m) Q) s) : AwR P N k x Q (m + 1) s := h
theorem Aw_rounds {x : Code} {Q : Exit → St → Prop} {s : St} (m : Nat) (h : AwR P N k x Q m s) : Aw P N k (.loop x) Q s := fun c a r => by
  refine wp_loop_rounds m ?_
  have key : ∀ m s1 c1 a1, AwR P N k x Q m s1 → Rp N c1 a1 s1 → Tk k c s.hp c1 s1.hp → Code.rounds P x (AQ N k c s.hp Q) m a1 c1.w := by
    intro m
    induction m with
    | zero => intro s1 c1 a1 h _ _; exact h.elim
    | succ m ih =>
      intro s1 c1 a1 h r1 t1
      rw [rounds_succ]
      refine wp_mono (h c1 a1 r1) fun e a2 w2 hq => ?_
      obtain ⟨s2, c2, q, rfl, t2, r2⟩ := hq
      cases e with
      | normal => exact ih s2 c2 a2 q r2 (t1.trans t2)
      | _ => exact ⟨s2, c2, q, rfl, t1.trans t2, r2⟩
  exact key m s c a h r (Tk.refl _ _ _)
end
/-- What a function gives that makes one empty row. -/
theorem AC_row {P : Program} {f : FuncId} {args : List TV} {e k : Nat} (hf : ∃ fn, P.funcs[f]? = some fn ∧ fn.body.isNone = false ∧ (fn.name == "runtime.NumGoroutine") = false) (hk : 0 < k)
    (h : ∀ (c : Cx) (vs : List Value), Good c noHp → All2 (RepT c) args vs → Calls P f vs.toArray c.w fun en w' => ∃ v, en = .returned v ∧ ((v = .slice none 0 0 ∧ w' = c.w) ∨ ∃ cap xs d, v = .slice (some ⟨c.w.heap.size, 0, none⟩) 0 cap ∧ w' = { c.w with drawn := d }.alloc (.cells (List.toArray xs) e) ∧ cap ≤ maxLen ∧ xs.length = cap * k)) :
    AC P f args noHp 0 ⟨.t (.c (.h 0)), hpL [some (dRow e k [])], 1⟩ := by
  refine ⟨hf, fun c vs g hU hA => (h c vs g hA).mono fun en w' => ?_⟩
  have hn : ¬ c.U 0 := fun h => absurd (hU 0 h) (Nat.not_lt_zero _)
  have hhp : hpL [some (dRow e k [])] = upd noHp 0 (some ⟨e, k, true, []⟩) := (hp1_L _).symm
  rintro ⟨v, rfl, ⟨rfl, rfl⟩ | ⟨cap, xs, d, rfl, rfl, hc, hx⟩⟩
  · have hrep : ORep (c.name 0 0 (.slice none 0 0) k) 0 ⟨e, k, true, []⟩ := by
      refine ⟨by simp [Cx.name], hk, [], ⟨by simp, by simp, fun i j cs x hi => by simp at hi⟩, .inl ⟨rfl, ?_, fun b hb => ?_⟩⟩
      · simp only [Cx.name, upd_same, List.length_nil]
        exact ⟨by simp, .inl ⟨rfl, rfl⟩⟩
      · simp [Cx.name, Value.ownBlock] at hb
    have hb : ∀ y, blk (c.name 0 0 (.slice none 0 0) k) 0 ⟨e, k, true, []⟩ ≠ some y := fun y => by simp [blk, Cx.name, Value.ownBlock]
    have g2 := g.add hn hrep (fun y hy => absurd hy (hb y))
    have t2 := (Tr.refl c noHp).add g (fun m o h => g.dom m o h) hn (b := 0) (k := k) (v := .slice none 0 0) (o := ⟨e, k, true, []⟩) (fun _ h => h) (fun y hy => absurd hy (hb y))
    refine ⟨_, c.name 0 0 (.slice none 0 0) k, rfl, rfl, by rw [hhp]; exact t2, by rw [hhp]; exact g2, ⟨.inr rfl, by simp [Cx.name], rfl⟩, fun m hm => ?_⟩
    rcases hm with hm | rfl
    · have := hU m hm; omega
    · exact Nat.lt_succ_self 0
  · obtain ⟨g1, t1⟩ := g.world (w' := { c.w with drawn := d }) rfl rfl rfl (Nat.le_refl _) (fun b hb => rfl)
    have hown : World.ownsRow ({ c.w with drawn := d }.alloc (.cells xs.toArray e)) 0 e k (.slice (some ⟨c.w.heap.size, 0, none⟩) 0 cap) 0 [] :=
      ⟨by simp, .inr ⟨c.w.heap.size, cap, xs.toArray, rfl, Nat.zero_le _, Array.getElem?_push_size, Nat.zero_le _, hc, by simpa using hx, by simp⟩⟩
    obtain ⟨g2, t2⟩ := Good.alloc (c := c.at { c.w with drawn := d }) g1 (n := 0) (k := k) hn e xs (.slice (some ⟨c.w.heap.size, 0, none⟩) 0 cap) ⟨e, k, true, []⟩
      ⟨by simp [Cx.name], hk, [], ⟨by simp, by simp, fun i j cs x hi => by simp at hi⟩, .inl ⟨rfl, by simpa [Cx.name, Cx.at] using hown, fun b hb => by simp [Cx.name, Value.ownBlock, Cx.at] at hb ⊢; exact hb.symm⟩⟩ (fun x hx => by
        rw [blk_name] at hx; simpa [Value.ownBlock, Cx.at] using hx.symm)
    refine ⟨_, ((c.at { c.w with drawn := d }).at ({ c.w with drawn := d }.alloc (.cells xs.toArray e))).name 0 c.w.heap.size (.slice (some ⟨c.w.heap.size, 0, none⟩) 0 cap) k, rfl, rfl, by rw [hhp]; exact t1.trans t2, by rw [hhp]; exact g2, ⟨.inr rfl, by simp [Cx.name], rfl⟩, fun m hm => ?_⟩
    rcases hm with hm | rfl
    · have := hU m hm; omega
    · exact Nat.lt_succ_self 0
theorem grow_ac (n : Nat) (hn : n ≤ 1000) : AC Tryz.prog 144 [.c (.d (.s (.slice none 0 0))), iT n] noHp 0 ⟨.t (.c (.h 0)), hpL [some (dRow 56 4 [])], 1⟩ := by
  refine AC_row (by exact ⟨_, Tryz.func144, rfl, rfl⟩) (by decide) fun c vs g hA => ?_
  obtain ⟨v0, v1, rfl, rfl, rfl⟩ : ∃ v0 v1, vs = [v0, v1] ∧ v0 = .slice none 0 0 ∧ v1 = .int .i64 n := by
    cases hA with
    | cons h1 h2 => cases h2 with
      | cons h3 h4 => cases h4; exact ⟨_, _, rfl, repD_s h1, repD_s h3⟩
  generalize c.w = w
  obtain ⟨E⟩ := tf ti56
  have i1 := E.info; have i2 := E.zero; have i3 := E.sz; have i4 := E.bys
  have i5 : E.zv.cells.size = 4 := by have := congrArg List.length E.z; simpa using this
  simp only [] at i3 i4
  have c1 : decide ((n : Int) < 0) = false := by simp
  by_cases h0 : n = 0
  · subst h0
    go_enter Tryz.func144, Tryz.ntmps144
    go_wp2
    go_ret
    exact ⟨_, rfl, .inl ⟨rfl, rfl⟩⟩
  · have c2 : decide (0 < (n : Int)) = true := by simp; omega
    have c3 : IntKind.i64.wrap ((n : Int)) = n := wrap_nat (by omega)
    have hr := Lib.run_append_nil_zeros (P := Tryz.prog) w 29 3 29 56 _ _ .i64 .i64 Tryz.underlying29 Tryz.underlying3 i1 i2 n (by omega) (by omega) (by omega) (by rw [i4]; omega)
    have hcap := grownCap_le_maxLen w n 0 56 (by unfold maxLen; omega)
    have hge := grownCap_ge w n 0 56
    generalize grownCap w n 0 56 = cap at hr hcap hge
    obtain ⟨xs, hxs, hxl⟩ : ∃ xs : List Value, Builtin.zeroCells E.zv.cells n ++ Builtin.zeroCells E.zv.cells (cap - n) = xs.toArray ∧ xs.length = cap * 4 := by
      refine ⟨(Builtin.zeroCells E.zv.cells n ++ Builtin.zeroCells E.zv.cells (cap - n)).toList, by simp, ?_⟩
      simp [size_zeroCells, i5]
      rw [← Nat.add_mul]; congr 1; omega
    rw [hxs] at hr
    clear i2 i5 hxs
    go_enter Tryz.func144, Tryz.ntmps144
    go_wp2_with (first | (at_builtin; refine Lib.wpList_append_run _ rfl (.tmp 20) (.tmp 21) _ _ rfl _ _ rfl rfl _ _ hr ?_))
    go_ret
    exact ⟨_, rfl, .inr ⟨cap, xs, w.drawn + 1, rfl, rfl, hcap, hxl⟩⟩
def lvD (r : List Ent) : List D := [.rs 4 (r.map entD)]
@[go_sem] theorem r_lvD (r : List Ent) : lvD r = [.rs 4 (r.map entD)] := rfl
def eRow (r : List Ent) : Obj := dRow 56 4 (r.map entD)
@[go_sem] theorem r_eRow (r : List Ent) : eRow r = dRow 56 4 (r.map entD) := rfl
@[go_sem] theorem all_entD (q : List Ent) : (List.map (fun x => List.map CV.d x) (List.map entD q)).all (fun cs => cs.length == 4) = true := by simp [entD]
theorem concat_ac (a b : List Ent) (ha : a.length ≤ 400) (hb : b.length ≤ 400) : AC Tryz.prog 110 [.c (.h 0)] (hpL [some (dRow 29 1 [lvD a, lvD b])]) 1 ⟨.t (.c (.h 1)), hpL [none, some (eRow (a ++ b))], 2⟩ := by
  refine AC_of Tryz.func110 rfl Tryz.ntmps110 Tryz.results110 (by kernel_rfl) rfl ?_
  simp only [List.zipIdx, List.map, Nat.zero_add, Nat.reduceAdd]
  repeat (first | apply Aw_seq | apply Aw_block | apply Aw_skip | apply Aw_exit | refine Aw_condt rfl ?_ | refine Aw_condf rfl ?_ | ((first | refine qr ?_ | refine qd (by kernel_rfl) (by kernel_rfl) ?_); simp only [go_sem, jE, reduceIte, jA, jM, jS, jL, jD, jB]) | refine dk (by kernel_rfl) ?_)
  refine Aw_rounds 3 ?_
  refine AwR_succ ?_
  have e0 : decide ((0 : Int) < 2) = true := rfl
  have e1 : decide ((1 : Int) < 2) = true := rfl
  have e2 : decide ((2 : Int) < 2) = false := rfl
  have w1 : IntKind.i64.wrap (0 + 1) = 1 := rfl
  have w2 : IntKind.i64.wrap (1 + 1) = 2 := rfl
  have l1 : IntKind.i64.wrap (0 + (a.length : Int)) = (a.length : Int) := by rw [Int.zero_add]; exact wrap_nat (by omega)
  have l2 : IntKind.i64.wrap ((a.length : Int) + (b.length : Int)) = ((a.length + b.length : Nat) : Int) := wrap_add (by omega)
  have g1 : decide ((a.length : Int) < 0) = false := decide_eq_false (by omega)
  have g2 : decide (((a.length + b.length : Nat) : Int) < 0) = false := decide_eq_false (by omega)
  repeat (first | apply Aw_seq | apply Aw_block | apply Aw_skip | apply Aw_exit | refine Aw_condt rfl ?_ | refine Aw_condf rfl ?_ | ((first | refine qr ?_ | refine qd (by kernel_rfl) (by kernel_rfl) ?_); simp only [go_sem, jE, reduceIte, jA, jM, jS, jL, jD, jB, e0, e1, e2, w1, w2, l1, l2, g1, g2]) | refine dk (by kernel_rfl) ?_ | (refine qx (call_N (L := []) (grow_ac (a.length + b.length) (by omega)) rfl (.cons (.nm rfl) (.cons (.nm rfl) (.nil))) (.inl rfl) rfl) (by simp only [go_sem, jE, reduceIte, jA, jM, jS, jL, jD, jB, e0, e1, e2, w1, w2, l1, l2, g1, g2]; first | done | rfl) rfl (by simp only [go_sem, Nat.reduceLT]) ?_; simp only [go_sem, jE, reduceIte, jA, jM, jS, jL, jD, jB, e0, e1, e2, w1, w2, l1, l2, g1, g2]))
  refine Aw_rounds 3 ?_
  refine AwR_succ ?_
  have q1 : a.length * 40 ≤ 140737488355328 := by omega
  have q2 : (a.length + b.length) * 40 ≤ 140737488355328 := by omega
  repeat (first | apply Aw_seq | apply Aw_block | apply Aw_skip | apply Aw_exit | refine Aw_condt rfl ?_ | refine Aw_condf rfl ?_ | ((first | refine qr ?_ | refine qd (by kernel_rfl) (by kernel_rfl) ?_); simp only [go_sem, jE, reduceIte, jA, jM, jS, jL, jD, jB, e0, e1, e2, w1, w2, q1, q2]) | refine dk (by kernel_rfl) ?_)
  exact Aw_ret (retL (M := [0, 55]) (.inl rfl) (by simp only [go_sem, jE, reduceIte, jA, jM, jS, jL, jD, jB]; first | done | rfl) rfl rfl (by rfl) (by simp only [go_sem, jE, reduceIte, jA, jM, jS, jL, jD, jB]; first | done | rfl | (and_intros <;> rfl)) (by decide) (by unfold idM; decide))
theorem hpL_no (os : List (Option Obj)) (h : os.all (·.isNone) = true) : hpL os = noHp := by
  funext m
  unfold hpL
  cases hm : os[m]? with
  | none => rfl
  | some o =>
    have := List.all_eq_true.1 h o (List.mem_of_getElem? hm)
    cases o with
    | none => rfl
    | some o => cases this
/-- All rows of a result, settled; one name was handed on. -/
theorem AC.settle1 {P : Program} {f : FuncId} {args : List TV} {hp hp1 : Hp} {x y : AV} {n : Nat} (L : List Nat) (h : AC P f args hp 1 ⟨x, hp1, n⟩) (hr : SetA hp1 L x y) (hy : y.bd 1 = true) : AC P f args hp 1 ⟨y, hpL [none], 1⟩ := by
  rw [hpL_no [none] rfl]
  have hk : ∀ m, m < 1 → pin [0] m = m := fun m hm => by
    cases m with
    | zero => rfl
    | succ m => omega
  have hx : y = y.ren (pin [0]) := (AV.ren_id (n := 1) hk hy).symm
  refine AC.sel (M := [0]) (AC.settle h hr (hp2 := noHp) (fun m o' hm => by simp [noHp] at hm) (Nat.le_refl n)) hx hy hpSel_none (Nat.le_refl _) fun m hm => ?_
  exact ⟨hm, hk m hm⟩
theorem concatS_ac (a b : List Ent) (ha : a.length ≤ 400) (hb : b.length ≤ 400) : AC Tryz.prog 110 [.c (.h 0)] (hpL [some (dRow 29 1 [lvD a, lvD b])]) 1 ⟨.t (runT (a ++ b)), hpL [none], 1⟩ :=
  AC.settle1 [1] (concat_ac a b ha hb) (SetC.row0 rfl rfl) rfl
/-- A store. -/
structure Sto where
  top : List Ent
  levels : List (List Ent)
  sieves : List Sve
  keep : Int
  time : Int
  times : List Int
def sveD (s : Sve) : List D := [.s (.string s.letters), .s (.string s.more), .s (.string s.first), .rs 1 (s.rests.map strD), .s (.int .i64 s.keep)]
@[go_sem] theorem r_sveD (s : Sve) : sveD s = [.s (.string s.letters), .s (.string s.more), .s (.string s.first), .rs 1 (s.rests.map strD), .s (.int .i64 s.keep)] := rfl
abbrev stT (s : Sto) : TV := .agg [.d (.rs 4 (s.top.map entD)), .d (.rs 1 (s.levels.map lvD)), .d (.rs 5 (s.sieves.map sveD)), .d (.s (.int .i64 s.keep)), .d (.s (.int .i64 s.time)), .d (.rs 1 (s.times.map intD))]
def stO (s : Sto) : Obj := ⟨33, 6, false, [[.d (.rs 4 (s.top.map entD)), .d (.rs 1 (s.levels.map lvD)), .d (.rs 5 (s.sieves.map sveD)), .d (.s (.int .i64 s.keep)), .d (.s (.int .i64 s.time)), .d (.rs 1 (s.times.map intD))]]⟩
@[go_sem] theorem r_stO (s : Sto) : stO s = ⟨33, 6, false, [[.d (.rs 4 (s.top.map entD)), .d (.rs 1 (s.levels.map lvD)), .d (.rs 5 (s.sieves.map sveD)), .d (.s (.int .i64 s.keep)), .d (.s (.int .i64 s.time)), .d (.rs 1 (s.times.map intD))]]⟩ := rfl
theorem late_ac (s : Sto) (e : Ent) : AC Tryz.prog 109 [entT e, .c (.ph 0 0 0)] (hpL [some (stO s)]) 1 ⟨.t (bT (decide (s.time < e.time))), hpL [some (stO s)], 1⟩ := by
  refine AC_of Tryz.func109 rfl Tryz.ntmps109 Tryz.results109 (by kernel_rfl) rfl ?_
  simp only [List.zipIdx, List.map, Nat.zero_add, Nat.reduceAdd]
  repeat (first | apply Aw_seq | apply Aw_block | apply Aw_skip | apply Aw_exit | refine Aw_condt rfl ?_ | refine Aw_condf rfl ?_ | ((first | refine qr ?_ | refine qd (by kernel_rfl) (by kernel_rfl) ?_); simp only [go_sem, jE, reduceIte, jA, jM, jS, jL, jD, jB]) | refine dk (by kernel_rfl) ?_)
  exact Aw_ret (retL (M := [0]) (.inl rfl) (by simp only [go_sem, jE, reduceIte, jA, jM, jS, jL, jD, jB]; first | done | rfl) rfl rfl (by rfl) (by simp only [go_sem, jE, reduceIte, jA, jM, jS, jL, jD, jB]; first | done | rfl | (and_intros <;> rfl)) (by decide) (by unfold idM; decide))
def lateI (s : Sto) (r : List Ent) : Int := match r.findIdx? (fun e => decide (s.time < e.time)) with
  | some i => (i : Int)
  | none => -1
theorem late_hit {s : Sto} {r : List Ent} {i : Nat} {e : Ent} (hi : r[i]? = some e) (h : ∀ j, j < i → ∀ y, r[j]? = some y → decide (s.time < y.time) = false) (he : decide (s.time < e.time) = true) : lateI s r = i := by
  have hl := (List.getElem?_eq_some_iff.1 hi).1
  have : r.findIdx? (fun e => decide (s.time < e.time)) = some i := by
    rw [List.findIdx?_eq_some_iff_getElem]
    refine ⟨hl, ?_, fun j hj => ?_⟩
    · rw [List.getElem?_eq_getElem hl] at hi; rw [Option.some.inj hi]; exact he
    · have := h j hj _ (List.getElem?_eq_getElem (by omega)); simp only [this]; decide
  unfold lateI; rw [this]
theorem late_no {s : Sto} {r : List Ent} (h : ∀ j, j < r.length → ∀ y, r[j]? = some y → decide (s.time < y.time) = false) : lateI s r = -1 := by
  have : r.findIdx? (fun e => decide (s.time < e.time)) = none := by
    rw [List.findIdx?_eq_none_iff]
    intro x hx
    obtain ⟨i, hi⟩ := List.mem_iff_getElem?.1 hx
    exact h i (List.getElem?_eq_some_iff.1 hi).1 x hi
  unfold lateI; rw [this]
theorem indexLate_ac (s : Sto) (r : List Ent) (hl : r.length ≤ 1099511627776) : AC Tryz.prog 143 [runT r, .c (.fn 109 [.ph 0 0 0])] (hpL [some (stO s)]) 1 ⟨.t (iT (lateI s r)), hpL [some (stO s)], 1⟩ := by
  refine AC_of Tryz.func143 rfl Tryz.ntmps143 Tryz.results143 (by kernel_rfl) rfl ?_
  simp only [List.zipIdx, List.map, Nat.zero_add, Nat.reduceAdd]
  repeat (first | apply Aw_seq | apply Aw_block | apply Aw_skip | apply Aw_exit | refine Aw_condt rfl ?_ | refine Aw_condf rfl ?_ | ((first | refine qr ?_ | refine qd (by kernel_rfl) (by kernel_rfl) ?_); simp only [go_sem, jE, reduceIte, jA, jM, jS, jL, jD, jB]) | refine dk (by kernel_rfl) ?_)
  refine Aw.rw (rwL (l' := [(8, .t (iT (0 : Nat))), (7, .t (iT r.length)), (1, .t (.c (.fn 109 [.ph 0 0 0]))), (0, .t (runT r))]) (os := [some (stO s)]) (M := [0]) (n' := 1) (by repeat (first | exact trivial | refine ⟨rfl, rfl, ?_⟩)) (by rfl) (by simp only [go_sem, jE, reduceIte, jA, jM, jS, jL, jD, jB]; first | done | rfl) (by decide) (by unfold idM; decide)) ?_
  refine Aw_loop_rw (ι := { j : Nat // j ≤ r.length ∧ ∀ q, q < j → ∀ y, r[q]? = some y → decide (s.time < y.time) = false }) (fun j => S [(8, .t (iT (j.1 : Nat))), (7, .t (iT r.length)), (1, .t (.c (.fn 109 [.ph 0 0 0]))), (0, .t (runT r))] (hpL [some (stO s)]) 1) (fun j => r.length - j.1) ⟨0, Nat.zero_le _, fun j hj => absurd hj (by omega)⟩ ?_
  rintro ⟨j, hj, hq⟩
  dsimp only
  by_cases hjl : j < r.length
  · have g1 : (j : Int) < (r.length : Int) := by omega
    have g2 := wrap_succ hjl hl
    obtain ⟨y, hy⟩ : ∃ e, r[j]? = some e := ⟨_, List.getElem?_eq_getElem hjl⟩
    have hv := late_ac s y
    cases c1 : decide (s.time < y.time)
    · rw [c1] at hv
      repeat (first | apply Aw_seq | apply Aw_block | apply Aw_skip | apply Aw_exit | refine Aw_condt rfl ?_ | refine Aw_condf rfl ?_ | ((first | refine qr ?_ | refine qd (by kernel_rfl) (by kernel_rfl) ?_); simp only [go_sem, jE, reduceIte, jA, jM, jS, jL, jD, jB, g1, hy, g2]) | refine dk (by kernel_rfl) ?_ | (refine ex_callv (by simp only [go_sem, jE, reduceIte, jA, jM, jS, jL, jD, jB, g1, hy, g2]; first | done | rfl) (call_V (N' := [0]) (L := []) 1 (hv) rfl (.cons (.nm rfl) (.nil)) (by first | exact .cons (arg_nm rfl rfl) (.nil) | (simp only [capT, List.map]; exact .cons (arg_nm rfl rfl) (.nil))) (by decide) (by decide) (by decide) (by simp only [go_sem, jE, reduceIte, jA, jM, jS, jL, jD, jB, g1, hy, g2]; first | done | rfl) (.inl rfl) rfl (by decide)) (by simp only [go_sem, jE, reduceIte, jA, jM, jS, jL, jD, jB, g1, hy, g2]; first | done | rfl) rfl (by simp only [go_sem, Nat.reduceLT]) ?_; simp only [go_sem, jE, reduceIte, jA, jM, jS, jL, jD, jB, g1, hy, g2]))
      refine ⟨⟨j + 1, by omega, fun q hqj z hz => by rcases Nat.lt_succ_iff_lt_or_eq.1 hqj with h | rfl; exact hq q h z hz; rw [hy] at hz; rw [← Option.some.inj hz]; exact c1⟩, [0], ?_, rwL (by repeat (first | exact trivial | refine ⟨rfl, rfl, ?_⟩)) (by rfl) (by simp only [go_sem, jE, reduceIte, jA, jM, jS, jL, jD, jB]; first | done | rfl) (by decide) (by unfold idM; decide)⟩
      show r.length - (j + 1) < r.length - j; omega
    · rw [c1] at hv
      rw [late_hit hy hq c1]
      repeat (first | apply Aw_seq | apply Aw_block | apply Aw_skip | apply Aw_exit | refine Aw_condt rfl ?_ | refine Aw_condf rfl ?_ | ((first | refine qr ?_ | refine qd (by kernel_rfl) (by kernel_rfl) ?_); simp only [go_sem, jE, reduceIte, jA, jM, jS, jL, jD, jB, g1, hy, g2]) | refine dk (by kernel_rfl) ?_ | (refine ex_callv (by simp only [go_sem, jE, reduceIte, jA, jM, jS, jL, jD, jB, g1, hy, g2]; first | done | rfl) (call_V (N' := [0]) (L := []) 1 (hv) rfl (.cons (.nm rfl) (.nil)) (by first | exact .cons (arg_nm rfl rfl) (.nil) | (simp only [capT, List.map]; exact .cons (arg_nm rfl rfl) (.nil))) (by decide) (by decide) (by decide) (by simp only [go_sem, jE, reduceIte, jA, jM, jS, jL, jD, jB, g1, hy, g2]; first | done | rfl) (.inl rfl) rfl (by decide)) (by simp only [go_sem, jE, reduceIte, jA, jM, jS, jL, jD, jB, g1, hy, g2]; first | done | rfl) rfl (by simp only [go_sem, Nat.reduceLT]) ?_; simp only [go_sem, jE, reduceIte, jA, jM, jS, jL, jD, jB, g1, hy, g2]))
      exact Aw_ret (retL (M := [0]) (.inl rfl) (by simp only [go_sem, jE, reduceIte, jA, jM, jS, jL, jD, jB]; first | done | rfl) rfl rfl (by rfl) (by simp only [go_sem, jE, reduceIte, jA, jM, jS, jL, jD, jB]; first | done | rfl | (and_intros <;> rfl)) (by decide) (by unfold idM; decide))
  · have g1 : ¬ (j : Int) < (r.length : Int) := by omega
    obtain rfl : j = r.length := by omega
    rw [late_no hq]
    repeat (first | apply Aw_seq | apply Aw_block | apply Aw_skip | apply Aw_exit | refine Aw_condt rfl ?_ | refine Aw_condf rfl ?_ | ((first | refine qr ?_ | refine qd (by kernel_rfl) (by kernel_rfl) ?_); simp only [go_sem, jE, reduceIte, jA, jM, jS, jL, jD, jB, g1]) | refine dk (by kernel_rfl) ?_)
    exact Aw_ret (retL (M := [0]) (.inl rfl) (by simp only [go_sem, jE, reduceIte, jA, jM, jS, jL, jD, jB]; first | done | rfl) rfl rfl (by rfl) (by simp only [go_sem, jE, reduceIte, jA, jM, jS, jL, jD, jB]; first | done | rfl | (and_intros <;> rfl)) (by decide) (by unfold idM; decide))
theorem hasLate_ac (s : Sto) (r : List Ent) (hl : r.length ≤ 1099511627776) : AC Tryz.prog 108 [runT r, .c (.fn 109 [.ph 0 0 0])] (hpL [some (stO s)]) 1 ⟨.t (bT (decide (0 ≤ lateI s r))), hpL [some (stO s)], 1⟩ := by
  refine AC_of Tryz.func108 rfl Tryz.ntmps108 Tryz.results108 (by kernel_rfl) rfl ?_
  simp only [List.zipIdx, List.map, Nat.zero_add, Nat.reduceAdd]
  repeat (first | apply Aw_seq | apply Aw_block | apply Aw_skip | apply Aw_exit | refine Aw_condt rfl ?_ | refine Aw_condf rfl ?_ | ((first | refine qr ?_ | refine qd (by kernel_rfl) (by kernel_rfl) ?_); simp only [go_sem, jE, reduceIte, jA, jM, jS, jL, jD, jB]) | refine dk (by kernel_rfl) ?_ | (refine qx (call_L (N' := [0]) (L := []) (indexLate_ac s r hl) rfl (.cons (.nm rfl) (.cons (.nm rfl) (.nil))) (by decide) (by decide) (by decide) (by simp only [go_sem, jE, reduceIte, jA, jM, jS, jL, jD, jB]; first | done | rfl) (.inl rfl) rfl (by decide)) (by simp only [go_sem, jE, reduceIte, jA, jM, jS, jL, jD, jB]; first | done | rfl) rfl (by simp only [go_sem, Nat.reduceLT]) ?_; simp only [go_sem, jE, reduceIte, jA, jM, jS, jL, jD, jB]))
  exact Aw_ret (retL (M := [0]) (.inl rfl) (by simp only [go_sem, jE, reduceIte, jA, jM, jS, jL, jD, jB]; first | done | rfl) rfl rfl (by rfl) (by simp only [go_sem, jE, reduceIte, jA, jM, jS, jL, jD, jB]; first | done | rfl | (and_intros <;> rfl)) (by decide) (by unfold idM; decide))
set_option maxHeartbeats 8000000
@[go_sem] theorem d_l11 (e k : Nat) (a0 b0 : D) : (⟨e, k, true, [[.d a0], [.d b0]]⟩ : Obj) = dRow e k [[a0], [b0]] := rfl
structure SmSt (s : Sto) : Prop where
  top : SmR s.top
  lev : ∀ r ∈ s.levels, SmR r
  ll : s.levels.length ≤ 1099511627776
  sl : s.sieves.length ≤ 1099511627776
  rl : ∀ x ∈ s.sieves, x.rests.length ≤ 1099511627776
  tl : s.times.length ≤ 1099511627776
/-- A level, and its sieve. -/
def lvM (keep : Int) (i : Nat) (r : List Ent) (x : Sve) : Bool := runOk r && decide (r.length ≤ 8 * (i + 1)) && (sieveM (keysM r) keep).isSome && sveEq ((sieveM (keysM r) keep).getD zSve) x
theorem skeysOfS_ac (r : List Ent) (hs : SmR r) : AC Tryz.prog 61 [runT r] noHp 0 ⟨.t (strsT (keysM r)), noHp, 0⟩ := AC.settle0 [0] (skeysOf_ac r hs) (SetC.row0 rfl rfl) rfl
def headM (s : Sto) : Bool := decide (s.levels.length = 3) && decide (s.sieves.length = 3) && runOk s.top && decide (s.top.length ≤ 4) && inB 0 s.time 999 && timesM s.times s.time
theorem keysM_sub {r : List Ent} : ∀ k ∈ keysM r, ∃ e ∈ r, e.key = k := by
  intro k hk
  unfold keysM colI at hk
  obtain ⟨i, hi, hk⟩ := List.mem_flatMap.1 hk
  unfold keyAt at hk
  cases hr : r[i]? with
  | none => rw [hr] at hk; simp at hk
  | some e =>
    rw [hr] at hk
    refine ⟨e, List.mem_of_getElem? hr, ?_⟩
    simp only [] at hk
    split at hk
    · exact (List.mem_singleton.1 hk).symm
    · split at hk
      · split at hk
        · simp at hk
        · exact (List.mem_singleton.1 hk).symm
      · exact (List.mem_singleton.1 hk).symm
theorem smS_keys {r : List Ent} (hs : SmR r) : SmS (keysM r) := by
  refine ⟨?_, fun k hk => ?_⟩
  · have := colI_len (n := r.length) (keyAt_len r)
    have h2 := hs.len
    unfold keysM; omega
  · obtain ⟨e, he, rfl⟩ := keysM_sub k hk
    exact hs.key e he
theorem bfs_len {keep : Nat} : ∀ (n : Nat) (q : List (List ByteArray × Nat)), (∀ f ∈ q, Fork f) → (bfs keep n q).rests.length ≤ wts q
  | 0, q, _ => by simp [bfs, zPut]
  | n + 1, [], _ => by simp [bfs, zPut]
  | n + 1, f :: q, h => by
    have hff := h f (by simp)
    have ih := bfs_len (keep := keep) n (q ++ (node keep f).kids) fun g hg => by
      rcases List.mem_append.1 hg with hg | hg
      · exact h g (List.mem_cons_of_mem _ hg)
      · exact node_fork hff g hg
    have rb := runs_b keep f.2 hff.dep 49 (spl f.2 f.1)
    rw [spl_flat f.2 _ f.1 (Nat.le_refl _)] at rb
    have rl := (runs_len keep f.2 49 (spl f.2 f.1)).1
    have e1 : (node keep f).rests.length + wts (node keep f).kids < wt f := by unfold node wt; omega
    simp only [bfs, Put.add, List.length_append]
    rw [wts_app] at ih
    rw [wts_cons]
    omega
theorem sieveM_len {ks : List ByteArray} {keep : Int} {z : Sve} (h : sieveM ks keep = some z) : z.rests.length ≤ 1099511627776 := by
  unfold sieveM at h
  split at h
  · rename_i hc
    obtain ⟨hl, hf, _⟩ := ksOk_iff hc.1
    have h0 := rest0 (keep := keep.toNat) hf hl
    have e := Option.some.inj h
    rw [← e]
    show (bfsF keep.toNat [(ks, 0)]).rests.length ≤ _
    have hb := bfs_len (keep := keep.toNat) (wts [(ks, 0)]) [(ks, 0)] fun f hf' => by rw [List.mem_singleton.1 hf']; exact hf
    have e2 : wts [(ks, 0)] ≤ 200 := by rw [wts_one]; unfold wt; simp only []; omega
    unfold bfsF
    omega
  · cases h
theorem l12Level_ac (s : Sto) (i : Nat) (r : List Ent) (x : Sve) (hi : i ≤ 1000) (hr : s.levels[i]? = some r) (hx : s.sieves[i]? = some x) (hsr : SmR r) : AC Tryz.prog 88 [stT s, iT i] noHp 0 ⟨.t (bT (lvM s.keep i r x)), noHp, 0⟩ := by
  refine AC_of Tryz.func88 rfl Tryz.ntmps88 Tryz.results88 (by kernel_rfl) rfl ?_
  simp only [List.zipIdx, List.map, Nat.zero_add, Nat.reduceAdd]
  have k1 := skeysOfS_ac r hsr
  have k3 := srunOk_ac r hsr
  have k4 := l12Size_ac i hi
  cases a1 : runOk r
  · rw [a1] at k3
    have e : lvM s.keep i r x = false := by unfold lvM; rw [a1]; rfl
    rw [e]
    repeat (first | apply Aw_seq | apply Aw_block | apply Aw_skip | apply Aw_exit | refine Aw_condt rfl ?_ | refine Aw_condf rfl ?_ | ((first | refine qr ?_ | refine qd (by kernel_rfl) (by kernel_rfl) ?_); simp only [go_sem, jE, reduceIte, jA, jM, jS, jL, jD, jB, hr]) | refine dk (by kernel_rfl) ?_ | (refine qp (k3) (by simp only [go_sem, jE, reduceIte, jA, jM, jS, jL, jD, jB, hr]; first | done | rfl) rfl (by simp only [go_sem, Nat.reduceLT]) rfl rfl ?_; simp only [go_sem, jE, reduceIte, jA, jM, jS, jL, jD, jB, hr]))
    exact Aw_ret (ret0 (.inl rfl) (by simp only [go_sem, jE, reduceIte, jA, jM, jS, jL, jD, jB]; rfl) (by rfl) rfl)
  rw [a1] at k3
  cases a2 : decide (((8 * (i + 1) : Nat) : Int) < (r.length : Int))
  case true =>
    have e : lvM s.keep i r x = false := by unfold lvM; rw [decide_eq_false (by have := of_decide_eq_true a2; omega : ¬ r.length ≤ 8 * (i + 1))]; simp
    rw [e]
    repeat (first | apply Aw_seq | apply Aw_block | apply Aw_skip | apply Aw_exit | refine Aw_condt rfl ?_ | refine Aw_condf rfl ?_ | ((first | refine qr ?_ | refine qd (by kernel_rfl) (by kernel_rfl) ?_); simp only [go_sem, jE, reduceIte, jA, jM, jS, jL, jD, jB, hr, a2]) | refine dk (by kernel_rfl) ?_ | (refine qp (k3) (by simp only [go_sem, jE, reduceIte, jA, jM, jS, jL, jD, jB, hr, a2]; first | done | rfl) rfl (by simp only [go_sem, Nat.reduceLT]) rfl rfl ?_; simp only [go_sem, jE, reduceIte, jA, jM, jS, jL, jD, jB, hr, a2]) | (refine qp (k4) (by simp only [go_sem, jE, reduceIte, jA, jM, jS, jL, jD, jB, hr, a2]; first | done | rfl) rfl (by simp only [go_sem, Nat.reduceLT]) rfl rfl ?_; simp only [go_sem, jE, reduceIte, jA, jM, jS, jL, jD, jB, hr, a2]))
    exact Aw_ret (ret0 (.inl rfl) (by simp only [go_sem, jE, reduceIte, jA, jM, jS, jL, jD, jB]; rfl) (by rfl) rfl)
  have hrl : r.length ≤ 8 * (i + 1) := by have := of_decide_eq_false a2; omega
  have k2 := ssieveS_ac (keysM r) s.keep (smS_keys hsr)
  obtain ⟨y, hy⟩ : ∃ y, y = (sieveM (keysM r) s.keep).getD zSve := ⟨_, rfl⟩
  rw [← hy] at k2
  have hyl : y.rests.length ≤ 1099511627776 := by
    rw [hy]
    cases hm : sieveM (keysM r) s.keep with
    | none => simp [zSve]
    | some z => exact sieveM_len hm
  have k5 := l3Sames_ac y.rests x.rests hyl
  have e : lvM s.keep i r x = ((sieveM (keysM r) s.keep).isSome && sveEq y x) := by unfold lvM; rw [← hy, a1, decide_eq_true hrl]; rfl
  rw [e]
  cases a3 : (sieveM (keysM r) s.keep).isSome
  · rw [a3] at k2
    repeat (first | apply Aw_seq | apply Aw_block | apply Aw_skip | apply Aw_exit | refine Aw_condt rfl ?_ | refine Aw_condf rfl ?_ | ((first | refine qr ?_ | refine qd (by kernel_rfl) (by kernel_rfl) ?_); simp only [go_sem, jE, reduceIte, jA, jM, jS, jL, jD, jB, hr, hx, a2]) | refine dk (by kernel_rfl) ?_ | (refine qp (k1) (by simp only [go_sem, jE, reduceIte, jA, jM, jS, jL, jD, jB, hr, hx, a2]; first | done | rfl) rfl (by simp only [go_sem, Nat.reduceLT]) rfl rfl ?_; simp only [go_sem, jE, reduceIte, jA, jM, jS, jL, jD, jB, hr, hx, a2]) | (refine qp (k2) (by simp only [go_sem, jE, reduceIte, jA, jM, jS, jL, jD, jB, hr, hx, a2]; first | done | rfl) rfl (by simp only [go_sem, Nat.reduceLT]) rfl rfl ?_; simp only [go_sem, jE, reduceIte, jA, jM, jS, jL, jD, jB, hr, hx, a2]) | (refine qp (k3) (by simp only [go_sem, jE, reduceIte, jA, jM, jS, jL, jD, jB, hr, hx, a2]; first | done | rfl) rfl (by simp only [go_sem, Nat.reduceLT]) rfl rfl ?_; simp only [go_sem, jE, reduceIte, jA, jM, jS, jL, jD, jB, hr, hx, a2]) | (refine qp (k4) (by simp only [go_sem, jE, reduceIte, jA, jM, jS, jL, jD, jB, hr, hx, a2]; first | done | rfl) rfl (by simp only [go_sem, Nat.reduceLT]) rfl rfl ?_; simp only [go_sem, jE, reduceIte, jA, jM, jS, jL, jD, jB, hr, hx, a2]))
    exact Aw_ret (ret0 (.inl rfl) (by simp only [go_sem, jE, reduceIte, jA, jM, jS, jL, jD, jB]; rfl) (by rfl) rfl)
  rw [a3] at k2
  cases c1 : decide (y.letters = x.letters)
  · repeat (first | apply Aw_seq | apply Aw_block | apply Aw_skip | apply Aw_exit | refine Aw_condt rfl ?_ | refine Aw_condf rfl ?_ | ((first | refine qr ?_ | refine qd (by kernel_rfl) (by kernel_rfl) ?_); simp only [go_sem, jE, reduceIte, jA, jM, jS, jL, jD, jB, hr, hx, a2, c1]) | refine dk (by kernel_rfl) ?_ | (refine qp (k1) (by simp only [go_sem, jE, reduceIte, jA, jM, jS, jL, jD, jB, hr, hx, a2, c1]; first | done | rfl) rfl (by simp only [go_sem, Nat.reduceLT]) rfl rfl ?_; simp only [go_sem, jE, reduceIte, jA, jM, jS, jL, jD, jB, hr, hx, a2, c1]) | (refine qp (k2) (by simp only [go_sem, jE, reduceIte, jA, jM, jS, jL, jD, jB, hr, hx, a2, c1]; first | done | rfl) rfl (by simp only [go_sem, Nat.reduceLT]) rfl rfl ?_; simp only [go_sem, jE, reduceIte, jA, jM, jS, jL, jD, jB, hr, hx, a2, c1]) | (refine qp (k3) (by simp only [go_sem, jE, reduceIte, jA, jM, jS, jL, jD, jB, hr, hx, a2, c1]; first | done | rfl) rfl (by simp only [go_sem, Nat.reduceLT]) rfl rfl ?_; simp only [go_sem, jE, reduceIte, jA, jM, jS, jL, jD, jB, hr, hx, a2, c1]) | (refine qp (k4) (by simp only [go_sem, jE, reduceIte, jA, jM, jS, jL, jD, jB, hr, hx, a2, c1]; first | done | rfl) rfl (by simp only [go_sem, Nat.reduceLT]) rfl rfl ?_; simp only [go_sem, jE, reduceIte, jA, jM, jS, jL, jD, jB, hr, hx, a2, c1]))
    exact Aw_ret (ret0 (.inl rfl) (by simp only [go_sem, jE, reduceIte, jA, jM, jS, jL, jD, jB]; rfl) (by unfold sveEq; simp [c1]) rfl)
  cases c2 : decide (y.more = x.more)
  · repeat (first | apply Aw_seq | apply Aw_block | apply Aw_skip | apply Aw_exit | refine Aw_condt rfl ?_ | refine Aw_condf rfl ?_ | ((first | refine qr ?_ | refine qd (by kernel_rfl) (by kernel_rfl) ?_); simp only [go_sem, jE, reduceIte, jA, jM, jS, jL, jD, jB, hr, hx, a2, c1, c2]) | refine dk (by kernel_rfl) ?_ | (refine qp (k1) (by simp only [go_sem, jE, reduceIte, jA, jM, jS, jL, jD, jB, hr, hx, a2, c1, c2]; first | done | rfl) rfl (by simp only [go_sem, Nat.reduceLT]) rfl rfl ?_; simp only [go_sem, jE, reduceIte, jA, jM, jS, jL, jD, jB, hr, hx, a2, c1, c2]) | (refine qp (k2) (by simp only [go_sem, jE, reduceIte, jA, jM, jS, jL, jD, jB, hr, hx, a2, c1, c2]; first | done | rfl) rfl (by simp only [go_sem, Nat.reduceLT]) rfl rfl ?_; simp only [go_sem, jE, reduceIte, jA, jM, jS, jL, jD, jB, hr, hx, a2, c1, c2]) | (refine qp (k3) (by simp only [go_sem, jE, reduceIte, jA, jM, jS, jL, jD, jB, hr, hx, a2, c1, c2]; first | done | rfl) rfl (by simp only [go_sem, Nat.reduceLT]) rfl rfl ?_; simp only [go_sem, jE, reduceIte, jA, jM, jS, jL, jD, jB, hr, hx, a2, c1, c2]) | (refine qp (k4) (by simp only [go_sem, jE, reduceIte, jA, jM, jS, jL, jD, jB, hr, hx, a2, c1, c2]; first | done | rfl) rfl (by simp only [go_sem, Nat.reduceLT]) rfl rfl ?_; simp only [go_sem, jE, reduceIte, jA, jM, jS, jL, jD, jB, hr, hx, a2, c1, c2]))
    exact Aw_ret (ret0 (.inl rfl) (by simp only [go_sem, jE, reduceIte, jA, jM, jS, jL, jD, jB]; rfl) (by unfold sveEq; simp [c1, c2]) rfl)
  cases c3 : decide (y.first = x.first)
  · repeat (first | apply Aw_seq | apply Aw_block | apply Aw_skip | apply Aw_exit | refine Aw_condt rfl ?_ | refine Aw_condf rfl ?_ | ((first | refine qr ?_ | refine qd (by kernel_rfl) (by kernel_rfl) ?_); simp only [go_sem, jE, reduceIte, jA, jM, jS, jL, jD, jB, hr, hx, a2, c1, c2, c3]) | refine dk (by kernel_rfl) ?_ | (refine qp (k1) (by simp only [go_sem, jE, reduceIte, jA, jM, jS, jL, jD, jB, hr, hx, a2, c1, c2, c3]; first | done | rfl) rfl (by simp only [go_sem, Nat.reduceLT]) rfl rfl ?_; simp only [go_sem, jE, reduceIte, jA, jM, jS, jL, jD, jB, hr, hx, a2, c1, c2, c3]) | (refine qp (k2) (by simp only [go_sem, jE, reduceIte, jA, jM, jS, jL, jD, jB, hr, hx, a2, c1, c2, c3]; first | done | rfl) rfl (by simp only [go_sem, Nat.reduceLT]) rfl rfl ?_; simp only [go_sem, jE, reduceIte, jA, jM, jS, jL, jD, jB, hr, hx, a2, c1, c2, c3]) | (refine qp (k3) (by simp only [go_sem, jE, reduceIte, jA, jM, jS, jL, jD, jB, hr, hx, a2, c1, c2, c3]; first | done | rfl) rfl (by simp only [go_sem, Nat.reduceLT]) rfl rfl ?_; simp only [go_sem, jE, reduceIte, jA, jM, jS, jL, jD, jB, hr, hx, a2, c1, c2, c3]) | (refine qp (k4) (by simp only [go_sem, jE, reduceIte, jA, jM, jS, jL, jD, jB, hr, hx, a2, c1, c2, c3]; first | done | rfl) rfl (by simp only [go_sem, Nat.reduceLT]) rfl rfl ?_; simp only [go_sem, jE, reduceIte, jA, jM, jS, jL, jD, jB, hr, hx, a2, c1, c2, c3]))
    exact Aw_ret (ret0 (.inl rfl) (by simp only [go_sem, jE, reduceIte, jA, jM, jS, jL, jD, jB]; rfl) (by unfold sveEq; simp [c1, c2, c3]) rfl)
  cases c4 : decide (y.keep = x.keep)
  · repeat (first | apply Aw_seq | apply Aw_block | apply Aw_skip | apply Aw_exit | refine Aw_condt rfl ?_ | refine Aw_condf rfl ?_ | ((first | refine qr ?_ | refine qd (by kernel_rfl) (by kernel_rfl) ?_); simp only [go_sem, jE, reduceIte, jA, jM, jS, jL, jD, jB, hr, hx, a2, c1, c2, c3, c4]) | refine dk (by kernel_rfl) ?_ | (refine qp (k1) (by simp only [go_sem, jE, reduceIte, jA, jM, jS, jL, jD, jB, hr, hx, a2, c1, c2, c3, c4]; first | done | rfl) rfl (by simp only [go_sem, Nat.reduceLT]) rfl rfl ?_; simp only [go_sem, jE, reduceIte, jA, jM, jS, jL, jD, jB, hr, hx, a2, c1, c2, c3, c4]) | (refine qp (k2) (by simp only [go_sem, jE, reduceIte, jA, jM, jS, jL, jD, jB, hr, hx, a2, c1, c2, c3, c4]; first | done | rfl) rfl (by simp only [go_sem, Nat.reduceLT]) rfl rfl ?_; simp only [go_sem, jE, reduceIte, jA, jM, jS, jL, jD, jB, hr, hx, a2, c1, c2, c3, c4]) | (refine qp (k3) (by simp only [go_sem, jE, reduceIte, jA, jM, jS, jL, jD, jB, hr, hx, a2, c1, c2, c3, c4]; first | done | rfl) rfl (by simp only [go_sem, Nat.reduceLT]) rfl rfl ?_; simp only [go_sem, jE, reduceIte, jA, jM, jS, jL, jD, jB, hr, hx, a2, c1, c2, c3, c4]) | (refine qp (k4) (by simp only [go_sem, jE, reduceIte, jA, jM, jS, jL, jD, jB, hr, hx, a2, c1, c2, c3, c4]; first | done | rfl) rfl (by simp only [go_sem, Nat.reduceLT]) rfl rfl ?_; simp only [go_sem, jE, reduceIte, jA, jM, jS, jL, jD, jB, hr, hx, a2, c1, c2, c3, c4]))
    exact Aw_ret (ret0 (.inl rfl) (by simp only [go_sem, jE, reduceIte, jA, jM, jS, jL, jD, jB]; rfl) (by unfold sveEq; simp [c1, c2, c3, c4]) rfl)
  repeat (first | apply Aw_seq | apply Aw_block | apply Aw_skip | apply Aw_exit | refine Aw_condt rfl ?_ | refine Aw_condf rfl ?_ | ((first | refine qr ?_ | refine qd (by kernel_rfl) (by kernel_rfl) ?_); simp only [go_sem, jE, reduceIte, jA, jM, jS, jL, jD, jB, hr, hx, a2, c1, c2, c3, c4]) | refine dk (by kernel_rfl) ?_ | (refine qp (k1) (by simp only [go_sem, jE, reduceIte, jA, jM, jS, jL, jD, jB, hr, hx, a2, c1, c2, c3, c4]; first | done | rfl) rfl (by simp only [go_sem, Nat.reduceLT]) rfl rfl ?_; simp only [go_sem, jE, reduceIte, jA, jM, jS, jL, jD, jB, hr, hx, a2, c1, c2, c3, c4]) | (refine qp (k2) (by simp only [go_sem, jE, reduceIte, jA, jM, jS, jL, jD, jB, hr, hx, a2, c1, c2, c3, c4]; first | done | rfl) rfl (by simp only [go_sem, Nat.reduceLT]) rfl rfl ?_; simp only [go_sem, jE, reduceIte, jA, jM, jS, jL, jD, jB, hr, hx, a2, c1, c2, c3, c4]) | (refine qp (k3) (by simp only [go_sem, jE, reduceIte, jA, jM, jS, jL, jD, jB, hr, hx, a2, c1, c2, c3, c4]; first | done | rfl) rfl (by simp only [go_sem, Nat.reduceLT]) rfl rfl ?_; simp only [go_sem, jE, reduceIte, jA, jM, jS, jL, jD, jB, hr, hx, a2, c1, c2, c3, c4]) | (refine qp (k4) (by simp only [go_sem, jE, reduceIte, jA, jM, jS, jL, jD, jB, hr, hx, a2, c1, c2, c3, c4]; first | done | rfl) rfl (by simp only [go_sem, Nat.reduceLT]) rfl rfl ?_; simp only [go_sem, jE, reduceIte, jA, jM, jS, jL, jD, jB, hr, hx, a2, c1, c2, c3, c4]) | (refine qp (k5) (by simp only [go_sem, jE, reduceIte, jA, jM, jS, jL, jD, jB, hr, hx, a2, c1, c2, c3, c4]; first | done | rfl) rfl (by simp only [go_sem, Nat.reduceLT]) rfl rfl ?_; simp only [go_sem, jE, reduceIte, jA, jM, jS, jL, jD, jB, hr, hx, a2, c1, c2, c3, c4]))
  exact Aw_ret (ret0 (.inl rfl) (by simp only [go_sem, jE, reduceIte, jA, jM, jS, jL, jD, jB]; rfl) (by unfold sveEq; simp [c1, c2, c3, c4]) rfl)
def sPair (s : Sto) (i k : Nat) : Bool := match s.levels[i]?, s.levels[k]? with
  | some r, some b => newestM r b s.time
  | _, _ => true
def sAt (s : Sto) (i : Nat) : Bool := (match s.levels[i]?, s.sieves[i]? with
  | some r, some x => lvM s.keep i r x && newestM s.top r s.time
  | _, _ => true) && allI 3 (fun k => decide (k ≤ i) || sPair s i k)
def headS (s : Sto) : Bool := decide (s.levels.length = 3) && decide (s.sieves.length = 3) && inB 0 s.keep 5 && inB 0 s.time 999 && timesM s.times s.time && runOk s.top && decide (s.top.length ≤ 4)
def storeS (s : Sto) : Bool := headS s && allI 3 (sAt s)
theorem sstoreOk_ac (s : Sto) (hs : SmSt s) : AC Tryz.prog 48 [stT s] noHp 0 ⟨.t (bT (storeS s)), noHp, 0⟩ := by
  refine AC_of Tryz.func48 rfl Tryz.ntmps48 Tryz.results48 (by kernel_rfl) rfl ?_
  simp only [List.zipIdx, List.map, Nat.zero_add, Nat.reduceAdd]
  cases c1 : decide ((s.levels.length : Int) = 3)
  · repeat (first | apply Aw_seq | apply Aw_block | apply Aw_skip | apply Aw_exit | refine Aw_condt rfl ?_ | refine Aw_condf rfl ?_ | ((first | refine qr ?_ | refine qd (by kernel_rfl) (by kernel_rfl) ?_); simp only [go_sem, jE, reduceIte, jA, jM, jS, jL, jD, jB, c1]) | refine dk (by kernel_rfl) ?_)
    exact Aw_ret (ret0 (.inl rfl) (by simp only [go_sem, jE, reduceIte, jA, jM, jS, jL, jD, jB]; rfl) (by unfold storeS headS; rw [decide_eq_false (by have := of_decide_eq_false c1; omega : ¬ s.levels.length = 3)]; rfl) rfl)
  cases c2 : decide ((s.sieves.length : Int) = 3)
  · repeat (first | apply Aw_seq | apply Aw_block | apply Aw_skip | apply Aw_exit | refine Aw_condt rfl ?_ | refine Aw_condf rfl ?_ | ((first | refine qr ?_ | refine qd (by kernel_rfl) (by kernel_rfl) ?_); simp only [go_sem, jE, reduceIte, jA, jM, jS, jL, jD, jB, c1, c2]) | refine dk (by kernel_rfl) ?_)
    exact Aw_ret (ret0 (.inl rfl) (by simp only [go_sem, jE, reduceIte, jA, jM, jS, jL, jD, jB]; rfl) (by unfold storeS headS; rw [decide_eq_false (by have := of_decide_eq_false c2; omega : ¬ s.sieves.length = 3)]; simp) rfl)
  cases c0 : inB 0 s.keep 5
  · repeat (first | apply Aw_seq | apply Aw_block | apply Aw_skip | apply Aw_exit | refine Aw_condt rfl ?_ | refine Aw_condf rfl ?_ | ((first | refine qr ?_ | refine qd (by kernel_rfl) (by kernel_rfl) ?_); simp only [go_sem, jE, reduceIte, jA, jM, jS, jL, jD, jB, c1, c2, c0]) | refine dk (by kernel_rfl) ?_ | (refine qp (l6In_ac _ _ _) (by simp only [go_sem, jE, reduceIte, jA, jM, jS, jL, jD, jB, c1, c2, c0]; first | done | rfl) rfl (by simp only [go_sem, Nat.reduceLT]) rfl rfl ?_; simp only [go_sem, jE, reduceIte, jA, jM, jS, jL, jD, jB, c1, c2, c0]))
    exact Aw_ret (ret0 (.inl rfl) (by simp only [go_sem, jE, reduceIte, jA, jM, jS, jL, jD, jB]; rfl) (by unfold storeS headS; simp [c0]) rfl)
  cases c5 : inB 0 s.time 999
  · repeat (first | apply Aw_seq | apply Aw_block | apply Aw_skip | apply Aw_exit | refine Aw_condt rfl ?_ | refine Aw_condf rfl ?_ | ((first | refine qr ?_ | refine qd (by kernel_rfl) (by kernel_rfl) ?_); simp only [go_sem, jE, reduceIte, jA, jM, jS, jL, jD, jB, c1, c2, c0, c5]) | refine dk (by kernel_rfl) ?_ | (refine qp (l6In_ac _ _ _) (by simp only [go_sem, jE, reduceIte, jA, jM, jS, jL, jD, jB, c1, c2, c0, c5]; first | done | rfl) rfl (by simp only [go_sem, Nat.reduceLT]) rfl rfl ?_; simp only [go_sem, jE, reduceIte, jA, jM, jS, jL, jD, jB, c1, c2, c0, c5]))
    exact Aw_ret (ret0 (.inl rfl) (by simp only [go_sem, jE, reduceIte, jA, jM, jS, jL, jD, jB]; rfl) (by unfold storeS headS; simp [c5]) rfl)
  cases c6 : timesM s.times s.time
  · repeat (first | apply Aw_seq | apply Aw_block | apply Aw_skip | apply Aw_exit | refine Aw_condt rfl ?_ | refine Aw_condf rfl ?_ | ((first | refine qr ?_ | refine qd (by kernel_rfl) (by kernel_rfl) ?_); simp only [go_sem, jE, reduceIte, jA, jM, jS, jL, jD, jB, c1, c2, c0, c5, c6]) | refine dk (by kernel_rfl) ?_ | (refine qp (l6In_ac _ _ _) (by simp only [go_sem, jE, reduceIte, jA, jM, jS, jL, jD, jB, c1, c2, c0, c5, c6]; first | done | rfl) rfl (by simp only [go_sem, Nat.reduceLT]) rfl rfl ?_; simp only [go_sem, jE, reduceIte, jA, jM, jS, jL, jD, jB, c1, c2, c0, c5, c6]) | (refine qp (l12Times_ac _ _ hs.tl) (by simp only [go_sem, jE, reduceIte, jA, jM, jS, jL, jD, jB, c1, c2, c0, c5, c6]; first | done | rfl) rfl (by simp only [go_sem, Nat.reduceLT]) rfl rfl ?_; simp only [go_sem, jE, reduceIte, jA, jM, jS, jL, jD, jB, c1, c2, c0, c5, c6]))
    exact Aw_ret (ret0 (.inl rfl) (by simp only [go_sem, jE, reduceIte, jA, jM, jS, jL, jD, jB]; rfl) (by unfold storeS headS; simp [c6]) rfl)
  cases c3 : runOk s.top
  · repeat (first | apply Aw_seq | apply Aw_block | apply Aw_skip | apply Aw_exit | refine Aw_condt rfl ?_ | refine Aw_condf rfl ?_ | ((first | refine qr ?_ | refine qd (by kernel_rfl) (by kernel_rfl) ?_); simp only [go_sem, jE, reduceIte, jA, jM, jS, jL, jD, jB, c1, c2, c0, c5, c6, c3]) | refine dk (by kernel_rfl) ?_ | (refine qp (l6In_ac _ _ _) (by simp only [go_sem, jE, reduceIte, jA, jM, jS, jL, jD, jB, c1, c2, c0, c5, c6, c3]; first | done | rfl) rfl (by simp only [go_sem, Nat.reduceLT]) rfl rfl ?_; simp only [go_sem, jE, reduceIte, jA, jM, jS, jL, jD, jB, c1, c2, c0, c5, c6, c3]) | (refine qp (l12Times_ac _ _ hs.tl) (by simp only [go_sem, jE, reduceIte, jA, jM, jS, jL, jD, jB, c1, c2, c0, c5, c6, c3]; first | done | rfl) rfl (by simp only [go_sem, Nat.reduceLT]) rfl rfl ?_; simp only [go_sem, jE, reduceIte, jA, jM, jS, jL, jD, jB, c1, c2, c0, c5, c6, c3]) | (refine qp (srunOk_ac _ hs.top) (by simp only [go_sem, jE, reduceIte, jA, jM, jS, jL, jD, jB, c1, c2, c0, c5, c6, c3]; first | done | rfl) rfl (by simp only [go_sem, Nat.reduceLT]) rfl rfl ?_; simp only [go_sem, jE, reduceIte, jA, jM, jS, jL, jD, jB, c1, c2, c0, c5, c6, c3]))
    exact Aw_ret (ret0 (.inl rfl) (by simp only [go_sem, jE, reduceIte, jA, jM, jS, jL, jD, jB]; rfl) (by unfold storeS headS; simp [c3]) rfl)
  cases c4 : decide ((4 : Int) < (s.top.length : Int))
  case true =>
    repeat (first | apply Aw_seq | apply Aw_block | apply Aw_skip | apply Aw_exit | refine Aw_condt rfl ?_ | refine Aw_condf rfl ?_ | ((first | refine qr ?_ | refine qd (by kernel_rfl) (by kernel_rfl) ?_); simp only [go_sem, jE, reduceIte, jA, jM, jS, jL, jD, jB, c1, c2, c0, c5, c6, c3, c4]) | refine dk (by kernel_rfl) ?_ | (refine qp (l6In_ac _ _ _) (by simp only [go_sem, jE, reduceIte, jA, jM, jS, jL, jD, jB, c1, c2, c0, c5, c6, c3, c4]; first | done | rfl) rfl (by simp only [go_sem, Nat.reduceLT]) rfl rfl ?_; simp only [go_sem, jE, reduceIte, jA, jM, jS, jL, jD, jB, c1, c2, c0, c5, c6, c3, c4]) | (refine qp (l12Times_ac _ _ hs.tl) (by simp only [go_sem, jE, reduceIte, jA, jM, jS, jL, jD, jB, c1, c2, c0, c5, c6, c3, c4]; first | done | rfl) rfl (by simp only [go_sem, Nat.reduceLT]) rfl rfl ?_; simp only [go_sem, jE, reduceIte, jA, jM, jS, jL, jD, jB, c1, c2, c0, c5, c6, c3, c4]) | (refine qp (srunOk_ac _ hs.top) (by simp only [go_sem, jE, reduceIte, jA, jM, jS, jL, jD, jB, c1, c2, c0, c5, c6, c3, c4]; first | done | rfl) rfl (by simp only [go_sem, Nat.reduceLT]) rfl rfl ?_; simp only [go_sem, jE, reduceIte, jA, jM, jS, jL, jD, jB, c1, c2, c0, c5, c6, c3, c4]))
    exact Aw_ret (ret0 (.inl rfl) (by simp only [go_sem, jE, reduceIte, jA, jM, jS, jL, jD, jB]; rfl) (by unfold storeS headS; rw [decide_eq_false (by have := of_decide_eq_true c4; omega : ¬ s.top.length ≤ 4)]; simp) rfl)
  repeat (first | apply Aw_seq | apply Aw_block | apply Aw_skip | apply Aw_exit | refine Aw_condt rfl ?_ | refine Aw_condf rfl ?_ | ((first | refine qr ?_ | refine qd (by kernel_rfl) (by kernel_rfl) ?_); simp only [go_sem, jE, reduceIte, jA, jM, jS, jL, jD, jB, c1, c2, c0, c5, c6, c3, c4]) | refine dk (by kernel_rfl) ?_ | (refine qp (l6In_ac _ _ _) (by simp only [go_sem, jE, reduceIte, jA, jM, jS, jL, jD, jB, c1, c2, c0, c5, c6, c3, c4]; first | done | rfl) rfl (by simp only [go_sem, Nat.reduceLT]) rfl rfl ?_; simp only [go_sem, jE, reduceIte, jA, jM, jS, jL, jD, jB, c1, c2, c0, c5, c6, c3, c4]) | (refine qp (l12Times_ac _ _ hs.tl) (by simp only [go_sem, jE, reduceIte, jA, jM, jS, jL, jD, jB, c1, c2, c0, c5, c6, c3, c4]; first | done | rfl) rfl (by simp only [go_sem, Nat.reduceLT]) rfl rfl ?_; simp only [go_sem, jE, reduceIte, jA, jM, jS, jL, jD, jB, c1, c2, c0, c5, c6, c3, c4]) | (refine qp (srunOk_ac _ hs.top) (by simp only [go_sem, jE, reduceIte, jA, jM, jS, jL, jD, jB, c1, c2, c0, c5, c6, c3, c4]; first | done | rfl) rfl (by simp only [go_sem, Nat.reduceLT]) rfl rfl ?_; simp only [go_sem, jE, reduceIte, jA, jM, jS, jL, jD, jB, c1, c2, c0, c5, c6, c3, c4]))
  have d1 : s.levels.length = 3 := by have := of_decide_eq_true c1; omega
  have d2 : s.sieves.length = 3 := by have := of_decide_eq_true c2; omega
  have d4 : s.top.length ≤ 4 := by have := of_decide_eq_false c4; omega
  have hh : headS s = true := by
    unfold headS
    rw [decide_eq_true d1, decide_eq_true d2, decide_eq_true d4, c0, c3, c5, c6]; rfl
  refine Aw.rw (rwL (l' := [(3, .t (iT (0 : Nat))), (1, .t (.c (.ph 0 0 0)))]) (os := [some (stO s)]) (M := [0]) (n' := 1) (by repeat (first | exact trivial | refine ⟨rfl, rfl, ?_⟩)) (by rfl) (by simp only [go_sem, jE, reduceIte, jA, jM, jS, jL, jD, jB]; first | done | rfl) (by decide) (by unfold idM; decide)) ?_
  refine Aw_loop_rw (ι := { i : Nat // i ≤ 3 ∧ ∀ j, j < i → sAt s j = true }) (fun i => S [(3, .t (iT (i.1 : Nat))), (1, .t (.c (.ph 0 0 0)))] (hpL [some (stO s)]) 1) (fun i => 3 - i.1) ⟨0, by omega, fun j hj => absurd hj (by omega)⟩ ?_
  rintro ⟨i, hi, hp⟩
  dsimp only
  by_cases hlt : i < 3
  · have h1 : decide ((i : Int) < 3) = true := decide_eq_true (by omega)
    have h2 := wrap_succ (m := 3) hlt (by omega)
    obtain ⟨r, hr⟩ : ∃ r, s.levels[i]? = some r := ⟨_, List.getElem?_eq_getElem (by omega)⟩
    obtain ⟨x, hx⟩ : ∃ x, s.sieves[i]? = some x := ⟨_, List.getElem?_eq_getElem (by omega)⟩
    have hsr := hs.lev r (List.mem_of_getElem? hr)
    have k1 := l12Level_ac s i r x (by omega) hr hx hsr
    have k2 := l12Newest_ac s.top r s.time hs.top.len hsr
    have bad : sAt s i = false → storeS s = false := fun h => by unfold storeS; rw [allI_f (i := i) hlt h, Bool.and_false]
    have hat : sAt s i = (lvM s.keep i r x && newestM s.top r s.time && allI 3 (fun k => decide (k ≤ i) || sPair s i k)) := by unfold sAt; rw [hr, hx]
    cases a1 : lvM s.keep i r x
    · rw [a1] at k1
      rw [bad (by rw [hat, a1]; rfl)]
      repeat (first | apply Aw_seq | apply Aw_block | apply Aw_skip | apply Aw_exit | refine Aw_condt rfl ?_ | refine Aw_condf rfl ?_ | ((first | refine qr ?_ | refine qd (by kernel_rfl) (by kernel_rfl) ?_); simp only [go_sem, jE, reduceIte, jA, jM, jS, jL, jD, jB, h1, hr]) | refine dk (by kernel_rfl) ?_ | (refine qp (k1) (by simp only [go_sem, jE, reduceIte, jA, jM, jS, jL, jD, jB, h1, hr]; first | done | rfl) rfl (by simp only [go_sem, Nat.reduceLT]) rfl rfl ?_; simp only [go_sem, jE, reduceIte, jA, jM, jS, jL, jD, jB, h1, hr]))
      exact Aw_ret (ret0 (.inl rfl) (by simp only [go_sem, jE, reduceIte, jA, jM, jS, jL, jD, jB]; rfl) (by rfl) rfl)
    rw [a1] at k1
    cases a2 : newestM s.top r s.time
    · rw [a2] at k2
      rw [bad (by rw [hat, a2]; simp)]
      repeat (first | apply Aw_seq | apply Aw_block | apply Aw_skip | apply Aw_exit | refine Aw_condt rfl ?_ | refine Aw_condf rfl ?_ | ((first | refine qr ?_ | refine qd (by kernel_rfl) (by kernel_rfl) ?_); simp only [go_sem, jE, reduceIte, jA, jM, jS, jL, jD, jB, h1, hr]) | refine dk (by kernel_rfl) ?_ | (refine qp (k1) (by simp only [go_sem, jE, reduceIte, jA, jM, jS, jL, jD, jB, h1, hr]; first | done | rfl) rfl (by simp only [go_sem, Nat.reduceLT]) rfl rfl ?_; simp only [go_sem, jE, reduceIte, jA, jM, jS, jL, jD, jB, h1, hr]) | (refine qp (k2) (by simp only [go_sem, jE, reduceIte, jA, jM, jS, jL, jD, jB, h1, hr]; first | done | rfl) rfl (by simp only [go_sem, Nat.reduceLT]) rfl rfl ?_; simp only [go_sem, jE, reduceIte, jA, jM, jS, jL, jD, jB, h1, hr]))
      exact Aw_ret (ret0 (.inl rfl) (by simp only [go_sem, jE, reduceIte, jA, jM, jS, jL, jD, jB]; rfl) (by rfl) rfl)
    rw [a2] at k2
    repeat (first | apply Aw_seq | apply Aw_block | apply Aw_skip | apply Aw_exit | refine Aw_condt rfl ?_ | refine Aw_condf rfl ?_ | ((first | refine qr ?_ | refine qd (by kernel_rfl) (by kernel_rfl) ?_); simp only [go_sem, jE, reduceIte, jA, jM, jS, jL, jD, jB, h1, hr, h2]) | refine dk (by kernel_rfl) ?_ | (refine qp (k1) (by simp only [go_sem, jE, reduceIte, jA, jM, jS, jL, jD, jB, h1, hr, h2]; first | done | rfl) rfl (by simp only [go_sem, Nat.reduceLT]) rfl rfl ?_; simp only [go_sem, jE, reduceIte, jA, jM, jS, jL, jD, jB, h1, hr, h2]) | (refine qp (k2) (by simp only [go_sem, jE, reduceIte, jA, jM, jS, jL, jD, jB, h1, hr, h2]; first | done | rfl) rfl (by simp only [go_sem, Nat.reduceLT]) rfl rfl ?_; simp only [go_sem, jE, reduceIte, jA, jM, jS, jL, jD, jB, h1, hr, h2]))
    refine Aw.rw (rwL (l' := [(4, .t (iT ((i + 1 : Nat) : Int))), (3, .t (iT (i : Nat))), (1, .t (.c (.ph 0 0 0)))]) (os := [some (stO s)]) (M := [0]) (n' := 1) (by repeat (first | exact trivial | refine ⟨rfl, rfl, ?_⟩)) (by rfl) (by simp only [go_sem, jE, reduceIte, jA, jM, jS, jL, jD, jB]; first | done | rfl) (by decide) (by unfold idM; decide)) ?_
    refine Aw_loop_rw (ι := { k : Nat // k ≤ 3 ∧ i < k ∧ ∀ q, i < q → q < k → sPair s i q = true }) (fun k => S [(4, .t (iT (k.1 : Nat))), (3, .t (iT (i : Nat))), (1, .t (.c (.ph 0 0 0)))] (hpL [some (stO s)]) 1) (fun k => 3 - k.1) ⟨i + 1, by omega, by omega, fun q h1 h2 => absurd h1 (by omega)⟩ ?_
    rintro ⟨k, hk, hik, hq⟩
    dsimp only
    by_cases hkl : k < 3
    · have g1 : decide ((k : Int) < 3) = true := decide_eq_true (by omega)
      have g2 := wrap_succ (m := 3) hkl (by omega)
      obtain ⟨b, hb⟩ : ∃ b, s.levels[k]? = some b := ⟨_, List.getElem?_eq_getElem (by omega)⟩
      have k3 := l12Newest_ac r b s.time hsr.len (hs.lev b (List.mem_of_getElem? hb))
      have hpr : sPair s i k = newestM r b s.time := by unfold sPair; rw [hr, hb]
      cases a3 : newestM r b s.time
      · rw [a3] at k3
        rw [bad (by rw [hat, allI_f (i := k) hkl (by rw [hpr, a3, decide_eq_false (by omega)]; rfl), Bool.and_false])]
        repeat (first | apply Aw_seq | apply Aw_block | apply Aw_skip | apply Aw_exit | refine Aw_condt rfl ?_ | refine Aw_condf rfl ?_ | ((first | refine qr ?_ | refine qd (by kernel_rfl) (by kernel_rfl) ?_); simp only [go_sem, jE, reduceIte, jA, jM, jS, jL, jD, jB, g1, hr, hb]) | refine dk (by kernel_rfl) ?_ | (refine qp (k3) (by simp only [go_sem, jE, reduceIte, jA, jM, jS, jL, jD, jB, g1, hr, hb]; first | done | rfl) rfl (by simp only [go_sem, Nat.reduceLT]) rfl rfl ?_; simp only [go_sem, jE, reduceIte, jA, jM, jS, jL, jD, jB, g1, hr, hb]))
        exact Aw_ret (ret0 (.inl rfl) (by simp only [go_sem, jE, reduceIte, jA, jM, jS, jL, jD, jB]; rfl) (by rfl) rfl)
      · rw [a3] at k3
        repeat (first | apply Aw_seq | apply Aw_block | apply Aw_skip | apply Aw_exit | refine Aw_condt rfl ?_ | refine Aw_condf rfl ?_ | ((first | refine qr ?_ | refine qd (by kernel_rfl) (by kernel_rfl) ?_); simp only [go_sem, jE, reduceIte, jA, jM, jS, jL, jD, jB, g1, hr, hb, g2]) | refine dk (by kernel_rfl) ?_ | (refine qp (k3) (by simp only [go_sem, jE, reduceIte, jA, jM, jS, jL, jD, jB, g1, hr, hb, g2]; first | done | rfl) rfl (by simp only [go_sem, Nat.reduceLT]) rfl rfl ?_; simp only [go_sem, jE, reduceIte, jA, jM, jS, jL, jD, jB, g1, hr, hb, g2]))
        refine ⟨⟨k + 1, by omega, by omega, fun q q1 q2 => by rcases Nat.lt_succ_iff_lt_or_eq.1 q2 with h | rfl; exact hq q q1 h; rw [hpr, a3]⟩, [0], ?_, rwL (by repeat (first | exact trivial | refine ⟨rfl, rfl, ?_⟩)) (by rfl) (by simp only [go_sem, jE, reduceIte, jA, jM, jS, jL, jD, jB]; first | done | rfl) (by decide) (by unfold idM; decide)⟩
        show 3 - (k + 1) < 3 - k; omega
    · obtain rfl : k = 3 := by omega
      have g1 : decide (((3 : Nat) : Int) < 3) = false := rfl
      have hok : sAt s i = true := by
        rw [hat, a1, a2, allI_t (fun q hq3 => by
          by_cases h : q ≤ i
          · rw [decide_eq_true h]; rfl
          · rw [hq q (by omega) hq3, Bool.or_true])]; rfl
      repeat (first | apply Aw_seq | apply Aw_block | apply Aw_skip | apply Aw_exit | refine Aw_condt rfl ?_ | refine Aw_condf rfl ?_ | ((first | refine qr ?_ | refine qd (by kernel_rfl) (by kernel_rfl) ?_); simp only [go_sem, jE, reduceIte, jA, jM, jS, jL, jD, jB, g1, h2]) | refine dk (by kernel_rfl) ?_)
      refine ⟨⟨i + 1, by omega, fun j hj => by rcases Nat.lt_succ_iff_lt_or_eq.1 hj with h | rfl; exact hp j h; exact hok⟩, [0], ?_, rwL (by repeat (first | exact trivial | refine ⟨rfl, rfl, ?_⟩)) (by rfl) (by simp only [go_sem, jE, reduceIte, jA, jM, jS, jL, jD, jB]; first | done | rfl) (by decide) (by unfold idM; decide)⟩
      show 3 - (i + 1) < 3 - i; omega
  · obtain rfl : i = 3 := by omega
    have h1 : decide (((3 : Nat) : Int) < 3) = false := rfl
    have hall : storeS s = true := by unfold storeS; rw [hh, allI_t hp]; rfl
    rw [hall]
    repeat (first | apply Aw_seq | apply Aw_block | apply Aw_skip | apply Aw_exit | refine Aw_condt rfl ?_ | refine Aw_condf rfl ?_ | ((first | refine qr ?_ | refine qd (by kernel_rfl) (by kernel_rfl) ?_); simp only [go_sem, jE, reduceIte, jA, jM, jS, jL, jD, jB, h1]) | refine dk (by kernel_rfl) ?_)
    exact Aw_ret (ret0 (.inl rfl) (by simp only [go_sem, jE, reduceIte, jA, jM, jS, jL, jD, jB]; rfl) (by rfl) rfl)
theorem len3 {α : Type} {l : List α} (h : l.length = 3) : ∃ a b c, l = [a, b, c] := by
  match l, h with
  | [a, b, c], _ => exact ⟨a, b, c, rfl⟩
theorem runKeysS_ac (r : List Ent) (hs : SmR r) : AC Tryz.prog 105 [runT r] noHp 0 ⟨.t (strsT (if runOk r = true then keysM r else [])), noHp, 0⟩ := AC.settle0 [0] (runKeys_ac r hs) (SetC.row0 rfl rfl) rfl
def upTo (s : Sto) (i : Nat) : List Ent := s.top ++ (s.levels.take i).flatten
def iAt (s : Sto) (i : Nat) : Bool := match s.levels[i]?, s.sieves[i]? with
  | some r, some x => lvM s.keep i r x && newerM (upTo s i) r && !decide (0 ≤ lateI s (upTo s i))
  | _, _ => true
def storeI (s : Sto) : Bool := headM s && allI 3 (iAt s)
abbrev stSl (s : Sto) (i : Nat) (up : List Ent) : List (Nat × AV) := [(49, .t (iT (i : Nat))), (48, .t (iT s.levels.length)), (47, .t (.c (.d (.rs 1 (s.levels.map lvD))))), (3, .t (runT up)), (1, .t (.c (.ph 0 0 0)))]
structure StI (s : Sto) where
  i : Nat
  up : List Ent
  hi : i ≤ 3
  hu : up = upTo s i
  hl : up.length ≤ 4 + 24 * i
  hp : ∀ j, j < i → iAt s j = true
theorem storeOk_ac (s : Sto) (hs : SmSt s) : AC Tryz.prog 65 [stT s] noHp 0 ⟨.t (bT (storeI s)), noHp, 0⟩ := by
  refine AC_of Tryz.func65 rfl Tryz.ntmps65 Tryz.results65 (by kernel_rfl) rfl ?_
  simp only [List.zipIdx, List.map, Nat.zero_add, Nat.reduceAdd]
  cases c1 : decide ((s.levels.length : Int) = 3)
  · repeat (first | apply Aw_seq | apply Aw_block | apply Aw_skip | apply Aw_exit | refine Aw_condt rfl ?_ | refine Aw_condf rfl ?_ | ((first | refine qr ?_ | refine qd (by kernel_rfl) (by kernel_rfl) ?_); simp only [go_sem, jE, reduceIte, jA, jM, jS, jL, jD, jB, c1]) | refine dk (by kernel_rfl) ?_)
    exact Aw_ret (ret0 (.inl rfl) (by simp only [go_sem, jE, reduceIte, jA, jM, jS, jL, jD, jB]; rfl) (by unfold storeI headM; rw [decide_eq_false (by have := of_decide_eq_false c1; omega : ¬ s.levels.length = 3)]; rfl) rfl)
  cases c2 : decide ((s.sieves.length : Int) = 3)
  · repeat (first | apply Aw_seq | apply Aw_block | apply Aw_skip | apply Aw_exit | refine Aw_condt rfl ?_ | refine Aw_condf rfl ?_ | ((first | refine qr ?_ | refine qd (by kernel_rfl) (by kernel_rfl) ?_); simp only [go_sem, jE, reduceIte, jA, jM, jS, jL, jD, jB, c1, c2]) | refine dk (by kernel_rfl) ?_)
    exact Aw_ret (ret0 (.inl rfl) (by simp only [go_sem, jE, reduceIte, jA, jM, jS, jL, jD, jB]; rfl) (by unfold storeI headM; rw [decide_eq_false (by have := of_decide_eq_false c2; omega : ¬ s.sieves.length = 3)]; simp) rfl)
  cases c3 : runOk s.top
  · repeat (first | apply Aw_seq | apply Aw_block | apply Aw_skip | apply Aw_exit | refine Aw_condt rfl ?_ | refine Aw_condf rfl ?_ | ((first | refine qr ?_ | refine qd (by kernel_rfl) (by kernel_rfl) ?_); simp only [go_sem, jE, reduceIte, jA, jM, jS, jL, jD, jB, c1, c2, c3]) | refine dk (by kernel_rfl) ?_ | (refine qp (runOk_ac _ hs.top) (by simp only [go_sem, jE, reduceIte, jA, jM, jS, jL, jD, jB, c1, c2, c3]; first | done | rfl) rfl (by simp only [go_sem, Nat.reduceLT]) rfl rfl ?_; simp only [go_sem, jE, reduceIte, jA, jM, jS, jL, jD, jB, c1, c2, c3]))
    exact Aw_ret (ret0 (.inl rfl) (by simp only [go_sem, jE, reduceIte, jA, jM, jS, jL, jD, jB]; rfl) (by unfold storeI headM; simp [c3]) rfl)
  cases c4 : decide ((4 : Int) < (s.top.length : Int))
  case true =>
    repeat (first | apply Aw_seq | apply Aw_block | apply Aw_skip | apply Aw_exit | refine Aw_condt rfl ?_ | refine Aw_condf rfl ?_ | ((first | refine qr ?_ | refine qd (by kernel_rfl) (by kernel_rfl) ?_); simp only [go_sem, jE, reduceIte, jA, jM, jS, jL, jD, jB, c1, c2, c3, c4]) | refine dk (by kernel_rfl) ?_ | (refine qp (runOk_ac _ hs.top) (by simp only [go_sem, jE, reduceIte, jA, jM, jS, jL, jD, jB, c1, c2, c3, c4]; first | done | rfl) rfl (by simp only [go_sem, Nat.reduceLT]) rfl rfl ?_; simp only [go_sem, jE, reduceIte, jA, jM, jS, jL, jD, jB, c1, c2, c3, c4]))
    exact Aw_ret (ret0 (.inl rfl) (by simp only [go_sem, jE, reduceIte, jA, jM, jS, jL, jD, jB]; rfl) (by unfold storeI headM; rw [decide_eq_false (by have := of_decide_eq_true c4; omega : ¬ s.top.length ≤ 4)]; simp) rfl)
  cases c5 : inB 0 s.time 999
  · repeat (first | apply Aw_seq | apply Aw_block | apply Aw_skip | apply Aw_exit | refine Aw_condt rfl ?_ | refine Aw_condf rfl ?_ | ((first | refine qr ?_ | refine qd (by kernel_rfl) (by kernel_rfl) ?_); simp only [go_sem, jE, reduceIte, jA, jM, jS, jL, jD, jB, c1, c2, c3, c4, c5]) | refine dk (by kernel_rfl) ?_ | (refine qp (runOk_ac _ hs.top) (by simp only [go_sem, jE, reduceIte, jA, jM, jS, jL, jD, jB, c1, c2, c3, c4, c5]; first | done | rfl) rfl (by simp only [go_sem, Nat.reduceLT]) rfl rfl ?_; simp only [go_sem, jE, reduceIte, jA, jM, jS, jL, jD, jB, c1, c2, c3, c4, c5]) | (refine qp (in_ac _ _ _) (by simp only [go_sem, jE, reduceIte, jA, jM, jS, jL, jD, jB, c1, c2, c3, c4, c5]; first | done | rfl) rfl (by simp only [go_sem, Nat.reduceLT]) rfl rfl ?_; simp only [go_sem, jE, reduceIte, jA, jM, jS, jL, jD, jB, c1, c2, c3, c4, c5]))
    exact Aw_ret (ret0 (.inl rfl) (by simp only [go_sem, jE, reduceIte, jA, jM, jS, jL, jD, jB]; rfl) (by unfold storeI headM; simp [c5]) rfl)
  cases c6 : timesM s.times s.time
  · repeat (first | apply Aw_seq | apply Aw_block | apply Aw_skip | apply Aw_exit | refine Aw_condt rfl ?_ | refine Aw_condf rfl ?_ | ((first | refine qr ?_ | refine qd (by kernel_rfl) (by kernel_rfl) ?_); simp only [go_sem, jE, reduceIte, jA, jM, jS, jL, jD, jB, c1, c2, c3, c4, c5, c6]) | refine dk (by kernel_rfl) ?_ | (refine qp (runOk_ac _ hs.top) (by simp only [go_sem, jE, reduceIte, jA, jM, jS, jL, jD, jB, c1, c2, c3, c4, c5, c6]; first | done | rfl) rfl (by simp only [go_sem, Nat.reduceLT]) rfl rfl ?_; simp only [go_sem, jE, reduceIte, jA, jM, jS, jL, jD, jB, c1, c2, c3, c4, c5, c6]) | (refine qp (in_ac _ _ _) (by simp only [go_sem, jE, reduceIte, jA, jM, jS, jL, jD, jB, c1, c2, c3, c4, c5, c6]; first | done | rfl) rfl (by simp only [go_sem, Nat.reduceLT]) rfl rfl ?_; simp only [go_sem, jE, reduceIte, jA, jM, jS, jL, jD, jB, c1, c2, c3, c4, c5, c6]) | (refine qp (timesOk_ac _ _ hs.tl) (by simp only [go_sem, jE, reduceIte, jA, jM, jS, jL, jD, jB, c1, c2, c3, c4, c5, c6]; first | done | rfl) rfl (by simp only [go_sem, Nat.reduceLT]) rfl rfl ?_; simp only [go_sem, jE, reduceIte, jA, jM, jS, jL, jD, jB, c1, c2, c3, c4, c5, c6]))
    exact Aw_ret (ret0 (.inl rfl) (by simp only [go_sem, jE, reduceIte, jA, jM, jS, jL, jD, jB]; rfl) (by unfold storeI headM; simp [c6]) rfl)
  have hh : headM s = true := by
    have d1 := of_decide_eq_true c1; have d2 := of_decide_eq_true c2; have d4 := of_decide_eq_false c4
    unfold headM
    rw [decide_eq_true (by omega : s.levels.length = 3), decide_eq_true (by omega : s.sieves.length = 3), decide_eq_true (by omega : s.top.length ≤ 4), c3, c5, c6]; rfl
  repeat (first | apply Aw_seq | apply Aw_block | apply Aw_skip | apply Aw_exit | refine Aw_condt rfl ?_ | refine Aw_condf rfl ?_ | ((first | refine qr ?_ | refine qd (by kernel_rfl) (by kernel_rfl) ?_); simp only [go_sem, jE, reduceIte, jA, jM, jS, jL, jD, jB, c1, c2, c3, c4, c5, c6]) | refine dk (by kernel_rfl) ?_ | (refine qp (runOk_ac _ hs.top) (by simp only [go_sem, jE, reduceIte, jA, jM, jS, jL, jD, jB, c1, c2, c3, c4, c5, c6]; first | done | rfl) rfl (by simp only [go_sem, Nat.reduceLT]) rfl rfl ?_; simp only [go_sem, jE, reduceIte, jA, jM, jS, jL, jD, jB, c1, c2, c3, c4, c5, c6]) | (refine qp (in_ac _ _ _) (by simp only [go_sem, jE, reduceIte, jA, jM, jS, jL, jD, jB, c1, c2, c3, c4, c5, c6]; first | done | rfl) rfl (by simp only [go_sem, Nat.reduceLT]) rfl rfl ?_; simp only [go_sem, jE, reduceIte, jA, jM, jS, jL, jD, jB, c1, c2, c3, c4, c5, c6]) | (refine qp (timesOk_ac _ _ hs.tl) (by simp only [go_sem, jE, reduceIte, jA, jM, jS, jL, jD, jB, c1, c2, c3, c4, c5, c6]; first | done | rfl) rfl (by simp only [go_sem, Nat.reduceLT]) rfl rfl ?_; simp only [go_sem, jE, reduceIte, jA, jM, jS, jL, jD, jB, c1, c2, c3, c4, c5, c6]))
  have d1 : s.levels.length = 3 := by have := of_decide_eq_true c1; omega
  have d2 : s.sieves.length = 3 := by have := of_decide_eq_true c2; omega
  have d4 : s.top.length ≤ 4 := by have := of_decide_eq_false c4; omega
  refine Aw.rw (rwL (l' := stSl s 0 s.top) (os := [some (stO s)]) (M := [0]) (n' := 1) (by repeat (first | exact trivial | refine ⟨rfl, rfl, ?_⟩)) (by rfl) (by simp only [go_sem, jE, reduceIte, jA, jM, jS, jL, jD, jB]; first | done | rfl) (by decide) (by unfold idM; decide)) ?_
  refine Aw_loop_rw (ι := StI s) (fun p => S (stSl s p.i p.up) (hpL [some (stO s)]) 1) (fun p => 3 - p.i) ⟨0, s.top, by omega, by simp [upTo], by omega, fun j hj => absurd hj (by omega)⟩ ?_
  rintro ⟨i, up, hi, hu, hl, hp⟩
  dsimp only
  by_cases hlt : i < 3
  · have h1 : (i : Int) < (s.levels.length : Int) := by omega
    have h2 := wrap_succ (m := 3) hlt (by omega)
    obtain ⟨r, hr⟩ : ∃ r, s.levels[i]? = some r := ⟨_, List.getElem?_eq_getElem (by omega)⟩
    obtain ⟨x, hx⟩ : ∃ x, s.sieves[i]? = some x := ⟨_, List.getElem?_eq_getElem (by omega)⟩
    have hsr := hs.lev r (List.mem_of_getElem? hr)
    have hsx := hs.rl x (List.mem_of_getElem? hx)
    have hat : iAt s i = (lvM s.keep i r x && newerM up r && !decide (0 ≤ lateI s up)) := by unfold iAt; rw [hr, hx, ← hu]
    have bad : iAt s i = false → storeI s = false := fun h => by unfold storeI; rw [allI_f (i := i) hlt h, Bool.and_false]
    have k1 := runKeysS_ac r hsr
    have k3 := runOk_ac r hsr
    have k4 := room_ac i (by omega)
    cases a1 : runOk r
    · rw [a1] at k1 k3
      rw [if_neg (by decide)] at k1
      have k2 := sieveS_ac [] s.keep ⟨by simp, by simp⟩
      rw [bad (by rw [hat]; unfold lvM; rw [a1]; rfl)]
      repeat (first | apply Aw_seq | apply Aw_block | apply Aw_skip | apply Aw_exit | refine Aw_condt rfl ?_ | refine Aw_condf rfl ?_ | ((first | refine qr ?_ | refine qd (by kernel_rfl) (by kernel_rfl) ?_); simp only [go_sem, jE, reduceIte, jA, jM, jS, jL, jD, jB, h1, hr]) | refine dk (by kernel_rfl) ?_ | (refine qp (k1) (by simp only [go_sem, jE, reduceIte, jA, jM, jS, jL, jD, jB, h1, hr]; first | done | rfl) rfl (by simp only [go_sem, Nat.reduceLT]) rfl rfl ?_; simp only [go_sem, jE, reduceIte, jA, jM, jS, jL, jD, jB, h1, hr]) | (refine qp (k2) (by simp only [go_sem, jE, reduceIte, jA, jM, jS, jL, jD, jB, h1, hr]; first | done | rfl) rfl (by simp only [go_sem, Nat.reduceLT]) rfl rfl ?_; simp only [go_sem, jE, reduceIte, jA, jM, jS, jL, jD, jB, h1, hr]) | (refine qp (k3) (by simp only [go_sem, jE, reduceIte, jA, jM, jS, jL, jD, jB, h1, hr]; first | done | rfl) rfl (by simp only [go_sem, Nat.reduceLT]) rfl rfl ?_; simp only [go_sem, jE, reduceIte, jA, jM, jS, jL, jD, jB, h1, hr]))
      exact Aw_ret (ret0 (.inl rfl) (by simp only [go_sem, jE, reduceIte, jA, jM, jS, jL, jD, jB]; rfl) (by rfl) rfl)
    rw [a1] at k1 k3
    rw [if_pos rfl] at k1
    have k2 := sieveS_ac (keysM r) s.keep (smS_keys hsr)
    cases a2 : decide (((8 * (i + 1) : Nat) : Int) < (r.length : Int))
    case true =>
      rw [bad (by rw [hat]; unfold lvM; rw [decide_eq_false (by have := of_decide_eq_true a2; omega : ¬ r.length ≤ 8 * (i + 1))]; simp)]
      repeat (first | apply Aw_seq | apply Aw_block | apply Aw_skip | apply Aw_exit | refine Aw_condt rfl ?_ | refine Aw_condf rfl ?_ | ((first | refine qr ?_ | refine qd (by kernel_rfl) (by kernel_rfl) ?_); simp only [go_sem, jE, reduceIte, jA, jM, jS, jL, jD, jB, h1, hr, a2]) | refine dk (by kernel_rfl) ?_ | (refine qp (k1) (by simp only [go_sem, jE, reduceIte, jA, jM, jS, jL, jD, jB, h1, hr, a2]; first | done | rfl) rfl (by simp only [go_sem, Nat.reduceLT]) rfl rfl ?_; simp only [go_sem, jE, reduceIte, jA, jM, jS, jL, jD, jB, h1, hr, a2]) | (refine qp (k2) (by simp only [go_sem, jE, reduceIte, jA, jM, jS, jL, jD, jB, h1, hr, a2]; first | done | rfl) rfl (by simp only [go_sem, Nat.reduceLT]) rfl rfl ?_; simp only [go_sem, jE, reduceIte, jA, jM, jS, jL, jD, jB, h1, hr, a2]) | (refine qp (k3) (by simp only [go_sem, jE, reduceIte, jA, jM, jS, jL, jD, jB, h1, hr, a2]; first | done | rfl) rfl (by simp only [go_sem, Nat.reduceLT]) rfl rfl ?_; simp only [go_sem, jE, reduceIte, jA, jM, jS, jL, jD, jB, h1, hr, a2]) | (refine qp (k4) (by simp only [go_sem, jE, reduceIte, jA, jM, jS, jL, jD, jB, h1, hr, a2]; first | done | rfl) rfl (by simp only [go_sem, Nat.reduceLT]) rfl rfl ?_; simp only [go_sem, jE, reduceIte, jA, jM, jS, jL, jD, jB, h1, hr, a2]))
      exact Aw_ret (ret0 (.inl rfl) (by simp only [go_sem, jE, reduceIte, jA, jM, jS, jL, jD, jB]; rfl) (by rfl) rfl)
    have hrl : r.length ≤ 8 * (i + 1) := by have := of_decide_eq_false a2; omega
    cases a3 : (sieveM (keysM r) s.keep).isSome
    · rw [a3] at k2
      rw [bad (by rw [hat]; unfold lvM; rw [a3]; simp)]
      repeat (first | apply Aw_seq | apply Aw_block | apply Aw_skip | apply Aw_exit | refine Aw_condt rfl ?_ | refine Aw_condf rfl ?_ | ((first | refine qr ?_ | refine qd (by kernel_rfl) (by kernel_rfl) ?_); simp only [go_sem, jE, reduceIte, jA, jM, jS, jL, jD, jB, h1, hr, a2]) | refine dk (by kernel_rfl) ?_ | (refine qp (k1) (by simp only [go_sem, jE, reduceIte, jA, jM, jS, jL, jD, jB, h1, hr, a2]; first | done | rfl) rfl (by simp only [go_sem, Nat.reduceLT]) rfl rfl ?_; simp only [go_sem, jE, reduceIte, jA, jM, jS, jL, jD, jB, h1, hr, a2]) | (refine qp (k2) (by simp only [go_sem, jE, reduceIte, jA, jM, jS, jL, jD, jB, h1, hr, a2]; first | done | rfl) rfl (by simp only [go_sem, Nat.reduceLT]) rfl rfl ?_; simp only [go_sem, jE, reduceIte, jA, jM, jS, jL, jD, jB, h1, hr, a2]) | (refine qp (k3) (by simp only [go_sem, jE, reduceIte, jA, jM, jS, jL, jD, jB, h1, hr, a2]; first | done | rfl) rfl (by simp only [go_sem, Nat.reduceLT]) rfl rfl ?_; simp only [go_sem, jE, reduceIte, jA, jM, jS, jL, jD, jB, h1, hr, a2]) | (refine qp (k4) (by simp only [go_sem, jE, reduceIte, jA, jM, jS, jL, jD, jB, h1, hr, a2]; first | done | rfl) rfl (by simp only [go_sem, Nat.reduceLT]) rfl rfl ?_; simp only [go_sem, jE, reduceIte, jA, jM, jS, jL, jD, jB, h1, hr, a2]))
      exact Aw_ret (ret0 (.inl rfl) (by simp only [go_sem, jE, reduceIte, jA, jM, jS, jL, jD, jB]; rfl) (by rfl) rfl)
    rw [a3] at k2
    obtain ⟨y, hy⟩ : ∃ y, y = (sieveM (keysM r) s.keep).getD zSve := ⟨_, rfl⟩
    rw [← hy] at k2
    have k5 := same_ac y x (by
      rw [hy]
      cases hm : sieveM (keysM r) s.keep with
      | none => simp [zSve]
      | some z => exact sieveM_len hm)
    cases a4 : sveEq y x
    · rw [a4] at k5
      rw [bad (by rw [hat]; unfold lvM; rw [← hy, a4]; simp)]
      repeat (first | apply Aw_seq | apply Aw_block | apply Aw_skip | apply Aw_exit | refine Aw_condt rfl ?_ | refine Aw_condf rfl ?_ | ((first | refine qr ?_ | refine qd (by kernel_rfl) (by kernel_rfl) ?_); simp only [go_sem, jE, reduceIte, jA, jM, jS, jL, jD, jB, h1, hr, hx, a2]) | refine dk (by kernel_rfl) ?_ | (refine qp (k1) (by simp only [go_sem, jE, reduceIte, jA, jM, jS, jL, jD, jB, h1, hr, hx, a2]; first | done | rfl) rfl (by simp only [go_sem, Nat.reduceLT]) rfl rfl ?_; simp only [go_sem, jE, reduceIte, jA, jM, jS, jL, jD, jB, h1, hr, hx, a2]) | (refine qp (k2) (by simp only [go_sem, jE, reduceIte, jA, jM, jS, jL, jD, jB, h1, hr, hx, a2]; first | done | rfl) rfl (by simp only [go_sem, Nat.reduceLT]) rfl rfl ?_; simp only [go_sem, jE, reduceIte, jA, jM, jS, jL, jD, jB, h1, hr, hx, a2]) | (refine qp (k3) (by simp only [go_sem, jE, reduceIte, jA, jM, jS, jL, jD, jB, h1, hr, hx, a2]; first | done | rfl) rfl (by simp only [go_sem, Nat.reduceLT]) rfl rfl ?_; simp only [go_sem, jE, reduceIte, jA, jM, jS, jL, jD, jB, h1, hr, hx, a2]) | (refine qp (k4) (by simp only [go_sem, jE, reduceIte, jA, jM, jS, jL, jD, jB, h1, hr, hx, a2]; first | done | rfl) rfl (by simp only [go_sem, Nat.reduceLT]) rfl rfl ?_; simp only [go_sem, jE, reduceIte, jA, jM, jS, jL, jD, jB, h1, hr, hx, a2]) | (refine qp (k5) (by simp only [go_sem, jE, reduceIte, jA, jM, jS, jL, jD, jB, h1, hr, hx, a2]; first | done | rfl) rfl (by simp only [go_sem, Nat.reduceLT]) rfl rfl ?_; simp only [go_sem, jE, reduceIte, jA, jM, jS, jL, jD, jB, h1, hr, hx, a2]))
      exact Aw_ret (ret0 (.inl rfl) (by simp only [go_sem, jE, reduceIte, jA, jM, jS, jL, jD, jB]; rfl) (by rfl) rfl)
    rw [a4] at k5
    have hlv : lvM s.keep i r x = true := by unfold lvM; rw [← hy, a1, a3, a4, decide_eq_true hrl]; rfl
    have k6 := newer_ac up r (by omega) hsr.len
    cases a5 : newerM up r
    · rw [a5] at k6
      rw [bad (by rw [hat, a5]; simp)]
      repeat (first | apply Aw_seq | apply Aw_block | apply Aw_skip | apply Aw_exit | refine Aw_condt rfl ?_ | refine Aw_condf rfl ?_ | ((first | refine qr ?_ | refine qd (by kernel_rfl) (by kernel_rfl) ?_); simp only [go_sem, jE, reduceIte, jA, jM, jS, jL, jD, jB, h1, hr, hx, a2]) | refine dk (by kernel_rfl) ?_ | (refine qp (k1) (by simp only [go_sem, jE, reduceIte, jA, jM, jS, jL, jD, jB, h1, hr, hx, a2]; first | done | rfl) rfl (by simp only [go_sem, Nat.reduceLT]) rfl rfl ?_; simp only [go_sem, jE, reduceIte, jA, jM, jS, jL, jD, jB, h1, hr, hx, a2]) | (refine qp (k2) (by simp only [go_sem, jE, reduceIte, jA, jM, jS, jL, jD, jB, h1, hr, hx, a2]; first | done | rfl) rfl (by simp only [go_sem, Nat.reduceLT]) rfl rfl ?_; simp only [go_sem, jE, reduceIte, jA, jM, jS, jL, jD, jB, h1, hr, hx, a2]) | (refine qp (k3) (by simp only [go_sem, jE, reduceIte, jA, jM, jS, jL, jD, jB, h1, hr, hx, a2]; first | done | rfl) rfl (by simp only [go_sem, Nat.reduceLT]) rfl rfl ?_; simp only [go_sem, jE, reduceIte, jA, jM, jS, jL, jD, jB, h1, hr, hx, a2]) | (refine qp (k4) (by simp only [go_sem, jE, reduceIte, jA, jM, jS, jL, jD, jB, h1, hr, hx, a2]; first | done | rfl) rfl (by simp only [go_sem, Nat.reduceLT]) rfl rfl ?_; simp only [go_sem, jE, reduceIte, jA, jM, jS, jL, jD, jB, h1, hr, hx, a2]) | (refine qp (k5) (by simp only [go_sem, jE, reduceIte, jA, jM, jS, jL, jD, jB, h1, hr, hx, a2]; first | done | rfl) rfl (by simp only [go_sem, Nat.reduceLT]) rfl rfl ?_; simp only [go_sem, jE, reduceIte, jA, jM, jS, jL, jD, jB, h1, hr, hx, a2]) | (refine qp (k6) (by simp only [go_sem, jE, reduceIte, jA, jM, jS, jL, jD, jB, h1, hr, hx, a2]; first | done | rfl) rfl (by simp only [go_sem, Nat.reduceLT]) rfl rfl ?_; simp only [go_sem, jE, reduceIte, jA, jM, jS, jL, jD, jB, h1, hr, hx, a2]))
      exact Aw_ret (ret0 (.inl rfl) (by simp only [go_sem, jE, reduceIte, jA, jM, jS, jL, jD, jB]; rfl) (by rfl) rfl)
    rw [a5] at k6
    have k7 := hasLate_ac s up (by omega)
    cases a6 : decide (0 ≤ lateI s up)
    case true =>
      rw [a6] at k7
      rw [bad (by rw [hat, a6]; simp)]
      repeat (first | apply Aw_seq | apply Aw_block | apply Aw_skip | apply Aw_exit | refine Aw_condt rfl ?_ | refine Aw_condf rfl ?_ | ((first | refine qr ?_ | refine qd (by kernel_rfl) (by kernel_rfl) ?_); simp only [go_sem, jE, reduceIte, jA, jM, jS, jL, jD, jB, h1, hr, hx, a2]) | refine dk (by kernel_rfl) ?_ | (refine qp (k1) (by simp only [go_sem, jE, reduceIte, jA, jM, jS, jL, jD, jB, h1, hr, hx, a2]; first | done | rfl) rfl (by simp only [go_sem, Nat.reduceLT]) rfl rfl ?_; simp only [go_sem, jE, reduceIte, jA, jM, jS, jL, jD, jB, h1, hr, hx, a2]) | (refine qp (k2) (by simp only [go_sem, jE, reduceIte, jA, jM, jS, jL, jD, jB, h1, hr, hx, a2]; first | done | rfl) rfl (by simp only [go_sem, Nat.reduceLT]) rfl rfl ?_; simp only [go_sem, jE, reduceIte, jA, jM, jS, jL, jD, jB, h1, hr, hx, a2]) | (refine qp (k3) (by simp only [go_sem, jE, reduceIte, jA, jM, jS, jL, jD, jB, h1, hr, hx, a2]; first | done | rfl) rfl (by simp only [go_sem, Nat.reduceLT]) rfl rfl ?_; simp only [go_sem, jE, reduceIte, jA, jM, jS, jL, jD, jB, h1, hr, hx, a2]) | (refine qp (k4) (by simp only [go_sem, jE, reduceIte, jA, jM, jS, jL, jD, jB, h1, hr, hx, a2]; first | done | rfl) rfl (by simp only [go_sem, Nat.reduceLT]) rfl rfl ?_; simp only [go_sem, jE, reduceIte, jA, jM, jS, jL, jD, jB, h1, hr, hx, a2]) | (refine qp (k5) (by simp only [go_sem, jE, reduceIte, jA, jM, jS, jL, jD, jB, h1, hr, hx, a2]; first | done | rfl) rfl (by simp only [go_sem, Nat.reduceLT]) rfl rfl ?_; simp only [go_sem, jE, reduceIte, jA, jM, jS, jL, jD, jB, h1, hr, hx, a2]) | (refine qp (k6) (by simp only [go_sem, jE, reduceIte, jA, jM, jS, jL, jD, jB, h1, hr, hx, a2]; first | done | rfl) rfl (by simp only [go_sem, Nat.reduceLT]) rfl rfl ?_; simp only [go_sem, jE, reduceIte, jA, jM, jS, jL, jD, jB, h1, hr, hx, a2]) | (refine qx (call_L (N' := [0]) (L := []) (k7) rfl (.cons (.nm rfl) (.cons (.nm rfl) (.nil))) (by decide) (by decide) (by decide) (by simp only [go_sem, jE, reduceIte, jA, jM, jS, jL, jD, jB, h1, hr, hx, a2]; first | done | rfl) (.inl rfl) rfl (by decide)) (by simp only [go_sem, jE, reduceIte, jA, jM, jS, jL, jD, jB, h1, hr, hx, a2]; first | done | rfl) rfl (by simp only [go_sem, Nat.reduceLT]) ?_; simp only [go_sem, jE, reduceIte, jA, jM, jS, jL, jD, jB, h1, hr, hx, a2]))
      exact Aw_ret (ret0 (.inl rfl) (by simp only [go_sem, jE, reduceIte, jA, jM, jS, jL, jD, jB]; rfl) (by rfl) rfl)
    rw [a6] at k7
    have hok : iAt s i = true := by rw [hat, hlv, a5, a6]; rfl
    have k8 := concatS_ac up r (by omega) (by omega)
    repeat (first | apply Aw_seq | apply Aw_block | apply Aw_skip | apply Aw_exit | refine Aw_condt rfl ?_ | refine Aw_condf rfl ?_ | ((first | refine qr ?_ | refine qd (by kernel_rfl) (by kernel_rfl) ?_); simp only [go_sem, jE, reduceIte, jA, jM, jS, jL, jD, jB, h1, hr, hx, a2, h2]) | refine dk (by kernel_rfl) ?_ | (refine qp (k1) (by simp only [go_sem, jE, reduceIte, jA, jM, jS, jL, jD, jB, h1, hr, hx, a2, h2]; first | done | rfl) rfl (by simp only [go_sem, Nat.reduceLT]) rfl rfl ?_; simp only [go_sem, jE, reduceIte, jA, jM, jS, jL, jD, jB, h1, hr, hx, a2, h2]) | (refine qp (k2) (by simp only [go_sem, jE, reduceIte, jA, jM, jS, jL, jD, jB, h1, hr, hx, a2, h2]; first | done | rfl) rfl (by simp only [go_sem, Nat.reduceLT]) rfl rfl ?_; simp only [go_sem, jE, reduceIte, jA, jM, jS, jL, jD, jB, h1, hr, hx, a2, h2]) | (refine qp (k3) (by simp only [go_sem, jE, reduceIte, jA, jM, jS, jL, jD, jB, h1, hr, hx, a2, h2]; first | done | rfl) rfl (by simp only [go_sem, Nat.reduceLT]) rfl rfl ?_; simp only [go_sem, jE, reduceIte, jA, jM, jS, jL, jD, jB, h1, hr, hx, a2, h2]) | (refine qp (k4) (by simp only [go_sem, jE, reduceIte, jA, jM, jS, jL, jD, jB, h1, hr, hx, a2, h2]; first | done | rfl) rfl (by simp only [go_sem, Nat.reduceLT]) rfl rfl ?_; simp only [go_sem, jE, reduceIte, jA, jM, jS, jL, jD, jB, h1, hr, hx, a2, h2]) | (refine qp (k5) (by simp only [go_sem, jE, reduceIte, jA, jM, jS, jL, jD, jB, h1, hr, hx, a2, h2]; first | done | rfl) rfl (by simp only [go_sem, Nat.reduceLT]) rfl rfl ?_; simp only [go_sem, jE, reduceIte, jA, jM, jS, jL, jD, jB, h1, hr, hx, a2, h2]) | (refine qp (k6) (by simp only [go_sem, jE, reduceIte, jA, jM, jS, jL, jD, jB, h1, hr, hx, a2, h2]; first | done | rfl) rfl (by simp only [go_sem, Nat.reduceLT]) rfl rfl ?_; simp only [go_sem, jE, reduceIte, jA, jM, jS, jL, jD, jB, h1, hr, hx, a2, h2]) | (refine qx (call_L (N' := [0]) (L := []) (k7) rfl (.cons (.nm rfl) (.cons (.nm rfl) (.nil))) (by decide) (by decide) (by decide) (by simp only [go_sem, jE, reduceIte, jA, jM, jS, jL, jD, jB, h1, hr, hx, a2, h2]; first | done | rfl) (.inl rfl) rfl (by decide)) (by simp only [go_sem, jE, reduceIte, jA, jM, jS, jL, jD, jB, h1, hr, hx, a2, h2]; first | done | rfl) rfl (by simp only [go_sem, Nat.reduceLT]) ?_; simp only [go_sem, jE, reduceIte, jA, jM, jS, jL, jD, jB, h1, hr, hx, a2, h2]) | (refine qx (call_L (N' := [46]) (L := []) (k8) rfl (.cons (.nm rfl) (.nil)) (by decide) (by decide) (by decide) (by simp only [go_sem, jE, reduceIte, jA, jM, jS, jL, jD, jB, h1, hr, hx, a2, h2]; first | done | rfl) (.inl rfl) rfl (by decide)) (by simp only [go_sem, jE, reduceIte, jA, jM, jS, jL, jD, jB, h1, hr, hx, a2, h2]; first | done | rfl) rfl (by simp only [go_sem, Nat.reduceLT]) ?_; simp only [go_sem, jE, reduceIte, jA, jM, jS, jL, jD, jB, h1, hr, hx, a2, h2]))
    simp only [← List.map_append]
    refine ⟨⟨i + 1, up ++ r, by omega, by rw [hu]; unfold upTo; rw [List.take_succ, hr, List.flatten_append, List.append_assoc]; simp, by rw [List.length_append]; omega, fun j hj => by rcases Nat.lt_succ_iff_lt_or_eq.1 hj with h | rfl; exact hp j h; exact hok⟩, [0], ?_, rwL (by repeat (first | exact trivial | refine ⟨rfl, rfl, ?_⟩)) (by rfl) (by simp only [go_sem, jE, reduceIte, jA, jM, jS, jL, jD, jB]; first | done | rfl) (by decide) (by unfold idM; decide)⟩
    show 3 - (i + 1) < 3 - i; omega
  · obtain rfl : i = 3 := by omega
    have h1 : ¬ ((3 : Nat) : Int) < (s.levels.length : Int) := by omega
    have hall : storeI s = true := by unfold storeI; rw [hh, allI_t hp]; rfl
    rw [hall]
    repeat (first | apply Aw_seq | apply Aw_block | apply Aw_skip | apply Aw_exit | refine Aw_condt rfl ?_ | refine Aw_condf rfl ?_ | ((first | refine qr ?_ | refine qd (by kernel_rfl) (by kernel_rfl) ?_); simp only [go_sem, jE, reduceIte, jA, jM, jS, jL, jD, jB, h1]) | refine dk (by kernel_rfl) ?_)
    exact Aw_ret (ret0 (.inl rfl) (by simp only [go_sem, jE, reduceIte, jA, jM, jS, jL, jD, jB]; rfl) (by rfl) rfl)
theorem before_trans {a b c : Ent} (h : before a b = true) (k : before b c = true) : before a c = true := by
  unfold before at *
  simp only [Bool.or_eq_true, Bool.and_eq_true, decide_eq_true_eq] at *
  rcases h with h | ⟨h1, h2⟩ <;> rcases k with k | ⟨k1, k2⟩
  · exact .inl (klt_trans h k)
  · exact .inl (k1 ▸ h)
  · exact .inl (h1 ▸ k)
  · exact .inr ⟨h1.trans k1, by omega⟩
theorem run_pw {r : List Ent} (h : runOk r = true) : r.Pairwise (fun a b => before a b = true) ∧ (∀ e ∈ r, entOk e = true) ∧ r.length ≤ 40 := by
  unfold runOk at h
  rw [Bool.and_eq_true] at h
  have h1 := allI_iff.1 h.1
  have hk : ∀ e ∈ r, entOk e = true := fun e he => by
    obtain ⟨i, hi⟩ := List.mem_iff_getElem?.1 he
    have := h1 i (List.getElem?_eq_some_iff.1 hi).1
    unfold okAt at this; rw [hi] at this; simp only [Bool.and_eq_true] at this; exact this.1
  have hadj : ∀ j p k, r[j]? = some p → r[j + 1]? = some k → before p k = true := fun j p k hp hk => by
    have := h1 (j + 1) (List.getElem?_eq_some_iff.1 hk).1
    unfold okAt at this; rw [hk] at this; simp only [hp, Bool.and_eq_true] at this; exact this.2
  refine ⟨?_, hk, by simpa using h.2⟩
  rw [List.pairwise_iff_getElem]
  intro i j hi hj hij
  have key : ∀ d i (h1 : i < r.length) (h2 : i + d + 1 < r.length), before r[i] r[i + d + 1] = true := by
    intro d
    induction d with
    | zero => intro i h1 h2; exact hadj i _ _ (List.getElem?_eq_getElem h1) (List.getElem?_eq_getElem h2)
    | succ d ih =>
      intro i h1 h2
      exact before_trans (ih i h1 (by omega)) (hadj (i + d + 1) _ _ (List.getElem?_eq_getElem (by omega)) (List.getElem?_eq_getElem h2))
  have := key (j - i - 1) i hi (by omega)
  simpa [show i + (j - i - 1) + 1 = j by omega] using this
theorem entOk_time {e : Ent} (h : entOk e = true) : 1 ≤ e.time ∧ e.time ≤ 999 := by
  unfold entOk inB at h
  simp only [Bool.and_eq_true, decide_eq_true_eq] at h
  exact h.2
/-- What is found at the last time is the newest of its key. -/
theorem at_newest : ∀ {b : List Ent}, b.Pairwise (fun a b => before a b = true) → (∀ e ∈ b, e.time ≤ 999) → ∀ x : Ent, (match atM b x.key 999 with
    | some q => !decide (x.time ≤ q.time)
    | none => true) = b.all fun y => !older x y
  | [], _, _, x => rfl
  | y :: b, hp, ht, x => by
    rw [List.pairwise_cons] at hp
    have hy := ht y (by simp)
    unfold atM
    by_cases e : y.key = x.key
    · rw [List.find?_cons_of_pos (by simp [hit, e, hy])]
      simp only [List.all_cons]
      have h1 : older x y = decide (x.time ≤ y.time) := by unfold older; simp [e]
      rw [h1]
      cases hd : decide (x.time ≤ y.time) with
      | true => rfl
      | false =>
        have hgt := of_decide_eq_false hd
        have : (b.all fun z => !older x z) = true := by
          rw [List.all_eq_true]
          intro z hz
          have hb := hp.1 z hz
          unfold older
          unfold before at hb
          simp only [Bool.or_eq_true, Bool.and_eq_true, decide_eq_true_eq] at hb
          rcases hb with hb | ⟨_, hb⟩
          · have : x.key ≠ z.key := fun e2 => by rw [e, e2, klt_irrefl] at hb; cases hb
            simp [this]
          · have : ¬ x.time ≤ z.time := by omega
            simp [this]
        rw [this]; rfl
    · rw [List.find?_cons_of_neg (by simp [hit, e])]
      have ih := at_newest hp.2 (fun e he => ht e (by simp [he])) x
      unfold atM at ih
      rw [ih, List.all_cons]
      have h1 : older x y = false := by unfold older; rw [decide_eq_false (fun h : x.key = y.key => e h.symm)]; rfl
      rw [h1]; rfl
theorem nwAt_eq {b : List Ent} {now : Int} (hp : b.Pairwise (fun a b => before a b = true)) (ht : ∀ e ∈ b, e.time ≤ 999) (x : Ent) : nwAt b now x = (!decide (now < x.time) && b.all fun y => !older x y) := by
  have h := at_newest hp ht x
  unfold nwAt
  cases hA : atM b x.key 999 with
  | none => rw [hA] at h; simp only [] at h ⊢; rw [← h]
  | some q => rw [hA] at h; simp only [] at h ⊢; rw [← h]
theorem newest_iff {a b : List Ent} {now : Int} (hb : runOk b = true) : newestM a b now = true ↔ (∀ x ∈ a, x.time ≤ now) ∧ newerM a b = true := by
  obtain ⟨h1, h2, _⟩ := run_pw hb
  unfold newestM newerM
  rw [List.all_eq_true, List.all_eq_true]
  constructor
  · intro h
    refine ⟨fun x hx => ?_, fun x hx => ?_⟩
    · have := h x hx; rw [nwAt_eq h1 (fun e he => (entOk_time (h2 e he)).2) x] at this; simp only [Bool.and_eq_true, Bool.not_eq_true', decide_eq_false_iff_not] at this; omega
    · have := h x hx
      rw [nwAt_eq h1 (fun e he => (entOk_time (h2 e he)).2) x, Bool.and_eq_true] at this
      exact this.2
  · rintro ⟨h, k⟩ x hx
    rw [nwAt_eq h1 (fun e he => (entOk_time (h2 e he)).2) x, k x hx, Bool.and_true, Bool.not_eq_true', decide_eq_false_iff_not]
    have := h x hx; omega
theorem newer_app {a b c : List Ent} : newerM (a ++ b) c = (newerM a c && newerM b c) := by unfold newerM; rw [List.all_append]
theorem late_iff {s : Sto} {r : List Ent} : decide (0 ≤ lateI s r) = false ↔ ∀ x ∈ r, x.time ≤ s.time := by
  rw [decide_eq_false_iff_not]
  unfold lateI
  cases h : r.findIdx? (fun e => decide (s.time < e.time)) with
  | none =>
    rw [List.findIdx?_eq_none_iff] at h
    simp only []
    exact ⟨fun _ x hx => by have := h x hx; simp at this; omega, fun _ => by omega⟩
  | some i =>
    simp only []
    rw [List.findIdx?_eq_some_iff_getElem] at h
    obtain ⟨hi, h1, _⟩ := h
    constructor
    · intro h; omega
    · intro h2
      have := h2 _ (List.getElem_mem hi)
      simp at h1; omega
theorem lv_run {keep : Int} {i : Nat} {r : List Ent} {x : Sve} (h : lvM keep i r x = true) : runOk r = true ∧ inB 0 keep 5 = true := by
  unfold lvM at h
  simp only [Bool.and_eq_true] at h
  refine ⟨h.1.1.1, ?_⟩
  have := h.1.2
  unfold sieveM at this
  split at this
  · rename_i hc; exact hc.2
  · cases this
theorem allI3 (p : Nat → Bool) : allI 3 p = (p 0 && (p 1 && p 2)) := by
  unfold allI
  show (List.range 3).all p = _
  rw [show List.range 3 = [0, 1, 2] from rfl]
  simp
theorem store_eq (s : Sto) : storeI s = storeS s := by
  by_cases hl : s.levels.length = 3
  case neg => unfold storeI storeS headM headS; rw [decide_eq_false hl]; rfl
  by_cases hx : s.sieves.length = 3
  case neg => unfold storeI storeS headM headS; rw [decide_eq_false hx]; simp
  obtain ⟨a, b, c, ea⟩ := len3 hl
  obtain ⟨x, y, z, ex⟩ := len3 hx
  have u0 : upTo s 0 = s.top := by simp [upTo]
  have u1 : upTo s 1 = s.top ++ a := by simp [upTo, ea]
  have u2 : upTo s 2 = s.top ++ (a ++ b) := by simp [upTo, ea]
  have i0 : iAt s 0 = (lvM s.keep 0 a x && newerM s.top a && !decide (0 ≤ lateI s s.top)) := by unfold iAt; rw [u0, ea, ex]; rfl
  have i1 : iAt s 1 = (lvM s.keep 1 b y && newerM (s.top ++ a) b && !decide (0 ≤ lateI s (s.top ++ a))) := by unfold iAt; rw [u1, ea, ex]; rfl
  have i2 : iAt s 2 = (lvM s.keep 2 c z && newerM (s.top ++ (a ++ b)) c && !decide (0 ≤ lateI s (s.top ++ (a ++ b)))) := by unfold iAt; rw [u2, ea, ex]; rfl
  have p01 : sPair s 0 1 = newestM a b s.time := by unfold sPair; rw [ea]; rfl
  have p02 : sPair s 0 2 = newestM a c s.time := by unfold sPair; rw [ea]; rfl
  have p12 : sPair s 1 2 = newestM b c s.time := by unfold sPair; rw [ea]; rfl
  have s0 : sAt s 0 = (lvM s.keep 0 a x && newestM s.top a s.time && (newestM a b s.time && newestM a c s.time)) := by
    unfold sAt; rw [allI3, p01, p02, ea, ex]; rfl
  have s1 : sAt s 1 = (lvM s.keep 1 b y && newestM s.top b s.time && newestM b c s.time) := by
    unfold sAt; rw [allI3, p12, ea, ex]; rfl
  have s2 : sAt s 2 = (lvM s.keep 2 c z && newestM s.top c s.time) := by
    unfold sAt; rw [allI3, ea, ex]; simp
  rw [Bool.eq_iff_iff]
  unfold storeI storeS headM headS
  rw [allI3, allI3, i0, i1, i2, s0, s1, s2]
  simp only [Bool.and_eq_true, Bool.not_eq_true', late_iff, newer_app, List.mem_append]
  constructor
  · rintro ⟨⟨⟨⟨⟨⟨h1, h2⟩, h3⟩, h4⟩, h5⟩, h6⟩, ⟨⟨l0, n0⟩, t0⟩, ⟨⟨l1, n1, n1'⟩, t1⟩, ⟨⟨l2, n2, n2', n2''⟩, t2⟩⟩
    obtain ⟨ra, hk⟩ := lv_run l0
    have rb := (lv_run l1).1
    have rc := (lv_run l2).1
    exact ⟨⟨⟨⟨⟨⟨⟨h1, h2⟩, hk⟩, h5⟩, h6⟩, h3⟩, h4⟩, ⟨⟨l0, (newest_iff ra).2 ⟨t0, n0⟩⟩, (newest_iff rb).2 ⟨fun e he => t1 e (.inr he), n1'⟩, (newest_iff rc).2 ⟨fun e he => t1 e (.inr he), n2'⟩⟩, ⟨⟨l1, (newest_iff rb).2 ⟨t0, n1⟩⟩, (newest_iff rc).2 ⟨fun e he => t2 e (.inr (.inr he)), n2''⟩⟩, l2, (newest_iff rc).2 ⟨t0, n2⟩⟩
  · rintro ⟨⟨⟨⟨⟨⟨⟨h1, h2⟩, hk⟩, h5⟩, h6⟩, h3⟩, h4⟩, ⟨⟨l0, n0⟩, n01, n02⟩, ⟨⟨l1, n1⟩, n12⟩, l2, n2⟩
    have ra := (lv_run l0).1
    have rb := (lv_run l1).1
    have rc := (lv_run l2).1
    rw [newest_iff ra] at n0
    rw [newest_iff rb] at n01 n1
    rw [newest_iff rc] at n02 n12 n2
    refine ⟨⟨⟨⟨⟨⟨h1, h2⟩, h3⟩, h4⟩, h5⟩, h6⟩, ⟨⟨l0, n0.2⟩, n0.1⟩, ⟨⟨l1, n1.2, n01.2⟩, fun e he => he.elim (n0.1 e) (n01.1 e)⟩, ⟨⟨l2, n2.2, n02.2, n12.2⟩, fun e he => ?_⟩⟩
    rcases he with he | he | he
    · exact n0.1 e he
    · exact n01.1 e he
    · exact n12.1 e he
theorem wrap_far {x : Int} (h0 : -9223372036854775808 ≤ x) (h1 : x ≤ 9223372036854775807) : IntKind.i64.wrap x = x := by
  simp only [IntKind.wrap, IntKind.bits, IntKind.signed]
  by_cases h : 0 ≤ x
  · have : x % 2 ^ 64 = x := by omega
    simp [this]; omega
  · have : x % 2 ^ 64 = x + 2 ^ 64 := by omega
    simp [this]; omega
def szM (w l : Nat) : Int := if w ≤ l then ((l - w : Nat) : Int) else -1
theorem szM_ok {w l : Nat} (h : w ≤ l) : szM w l = ((l - w : Nat) : Int) := if_pos h
theorem szM_no {w l : Nat} (h : ¬ w ≤ l) : szM w l = -1 := if_neg h
theorem wrap_sub {l n : Nat} (h : n ≤ l) (hl : l ≤ 1048576) : IntKind.i64.wrap ((l : Int) - (n : Int)) = ((l - n : Nat) : Int) := by
  rw [show (l : Int) - (n : Int) = ((l - n : Nat) : Int) by omega]; exact wrap_nat (by omega)
theorem wrap_neg {l n : Nat} (h : ¬ n ≤ l) (hl : l ≤ 1048576) (hn : n ≤ 9223372036854775807) : decide (IntKind.i64.wrap ((l : Int) - (n : Int)) < 0) = true := by
  rw [wrap_far (by omega) (by omega)]; exact decide_eq_true (by omega)
theorem nneg (n : Nat) : decide ((n : Int) < 0) = false := decide_eq_false (by omega)
theorem neg1 : decide ((-1 : Int) < 0) = true := rfl
def wS {α : Type} (f : α → Nat) (xs : List α) : Nat := xs.length + (xs.map f).sum
def wI {α : Type} (f : α → Nat) (xs : List α) (i : Nat) : Nat := xs.length + ((xs.take i).map f).sum
theorem wI_0 {α : Type} (f : α → Nat) (xs : List α) : wI f xs 0 = xs.length := rfl
theorem wI_succ {α : Type} {f : α → Nat} {xs : List α} {i : Nat} {x : α} (h : xs[i]? = some x) : wI f xs (i + 1) = wI f xs i + f x := by
  unfold wI
  rw [List.take_add_one, h]
  simp [List.sum_append]; omega
theorem wI_end {α : Type} (f : α → Nat) (xs : List α) : wI f xs xs.length = wS f xs := by unfold wI wS; rw [List.take_length]
theorem wI_le {α : Type} (f : α → Nat) (xs : List α) (i : Nat) : wI f xs i ≤ wS f xs := by
  unfold wI wS
  have : (xs.map f).sum = ((xs.take i).map f).sum + ((xs.drop i).map f).sum := by
    conv => lhs; rw [← List.take_append_drop i xs]
    rw [List.map_append, List.sum_append]
  omega
abbrev big (n : Nat) : Prop := n ≤ 9223372036854775807
def wEnt (e : Ent) : Nat := e.key.size
theorem szEntry_ac (e : Ent) (l : Nat) (hl : l ≤ 1048576) (he : big e.key.size) : AC Tryz.prog 74 [entT e, iT l] noHp 0 ⟨.t (iT (szM (wEnt e) l)), noHp, 0⟩ := by
  refine AC_of Tryz.func74 rfl Tryz.ntmps74 Tryz.results74 (by kernel_rfl) rfl ?_
  simp only [List.zipIdx, List.map, Nat.zero_add, Nat.reduceAdd]
  unfold wEnt
  by_cases h : e.key.size ≤ l
  · have w1 := wrap_sub h hl
    have h1 := nneg (l - e.key.size)
    rw [szM_ok h]
    repeat (first | apply Aw_seq | apply Aw_block | apply Aw_skip | apply Aw_exit | refine Aw_condt rfl ?_ | refine Aw_condf rfl ?_ | ((first | refine qr ?_ | refine qd (by kernel_rfl) (by kernel_rfl) ?_); simp only [go_sem, jE, reduceIte, jA, jM, jS, jL, jD, jB, w1, h1]) | refine dk (by kernel_rfl) ?_)
    exact Aw_ret (ret0 (.inl rfl) (by simp only [go_sem, jE, reduceIte, jA, jM, jS, jL, jD, jB]; rfl) (by rfl) rfl)
  · have w1 := wrap_neg h hl he
    rw [szM_no h]
    repeat (first | apply Aw_seq | apply Aw_block | apply Aw_skip | apply Aw_exit | refine Aw_condt rfl ?_ | refine Aw_condf rfl ?_ | ((first | refine qr ?_ | refine qd (by kernel_rfl) (by kernel_rfl) ?_); simp only [go_sem, jE, reduceIte, jA, jM, jS, jL, jD, jB, w1]) | refine dk (by kernel_rfl) ?_)
    exact Aw_ret (ret0 (.inl rfl) (by simp only [go_sem, jE, reduceIte, jA, jM, jS, jL, jD, jB]; rfl) (by rfl) rfl)
abbrev lvsT (r : List (List Ent)) : TV := .c (.d (.rs 1 (r.map lvD)))
abbrev svsT (r : List Sve) : TV := .c (.d (.rs 5 (r.map sveD)))
theorem szEntryS_ac (r : List Ent) (l : Nat) (hl : l ≤ 1048576) (hr : big r.length) (he : ∀ e ∈ r, big e.key.size) : AC Tryz.prog 26 [runT r, iT l] noHp 0 ⟨.t (iT (szM (wS wEnt r) l)), noHp, 0⟩ := by
  refine AC_of Tryz.func26 rfl Tryz.ntmps26 Tryz.results26 (by kernel_rfl) rfl ?_
  simp only [List.zipIdx, List.map, Nat.zero_add, Nat.reduceAdd]
  by_cases h : r.length ≤ l
  case neg =>
    have w1 := wrap_neg h hl hr
    rw [szM_no (by have := wI_le wEnt r 0; rw [wI_0] at this; omega)]
    repeat (first | apply Aw_seq | apply Aw_block | apply Aw_skip | apply Aw_exit | refine Aw_condt rfl ?_ | refine Aw_condf rfl ?_ | ((first | refine qr ?_ | refine qd (by kernel_rfl) (by kernel_rfl) ?_); simp only [go_sem, jE, reduceIte, jA, jM, jS, jL, jD, jB, w1]) | refine dk (by kernel_rfl) ?_)
    exact Aw_ret (ret0 (.inl rfl) (by simp only [go_sem, jE, reduceIte, jA, jM, jS, jL, jD, jB]; rfl) (by rfl) rfl)
  have w1 := wrap_sub h hl
  have h0 := nneg (l - r.length)
  repeat (first | apply Aw_seq | apply Aw_block | apply Aw_skip | apply Aw_exit | refine Aw_condt rfl ?_ | refine Aw_condf rfl ?_ | ((first | refine qr ?_ | refine qd (by kernel_rfl) (by kernel_rfl) ?_); simp only [go_sem, jE, reduceIte, jA, jM, jS, jL, jD, jB, w1, h0]) | refine dk (by kernel_rfl) ?_)
  refine Aw.rw (rw0 (l' := [(5, .t (iT (0 : Nat))), (1, .t (iT ((l - wI wEnt r 0 : Nat) : Int))), (0, .t (runT r))]) (n' := 0) (by repeat (first | exact trivial | refine ⟨rfl, rfl, ?_⟩))) ?_
  refine Aw_loop0 (ι := { i : Nat // i ≤ r.length ∧ (wI wEnt r i ≤ l) }) (fun q => [(5, .t (iT (q.1 : Nat))), (1, .t (iT ((l - wI wEnt r q.1 : Nat) : Int))), (0, .t (runT r))]) (fun q => r.length - q.1) ⟨0, Nat.zero_le _, h⟩ ?_
  rintro ⟨i, hi, hp⟩
  dsimp only
  by_cases hlt : i < r.length
  · have h1 : (i : Int) < (r.length : Int) := by omega
    have h2 := wrap_succ hlt (by omega)
    obtain ⟨e, hx⟩ : ∃ e, r[i]? = some e := ⟨_, List.getElem?_eq_getElem hlt⟩
    have k := szEntry_ac e (l - wI wEnt r i) (by omega) (he e (List.mem_of_getElem? hx))
    have e1 := wI_succ (f := wEnt) hx
    by_cases h3 : wEnt e ≤ l - wI wEnt r i
    · rw [szM_ok h3, show l - wI wEnt r i - wEnt e = l - wI wEnt r (i + 1) by omega] at k
      have h4 := nneg (l - wI wEnt r (i + 1))
      repeat (first | apply Aw_seq | apply Aw_block | apply Aw_skip | apply Aw_exit | refine Aw_condt rfl ?_ | refine Aw_condf rfl ?_ | ((first | refine qr ?_ | refine qd (by kernel_rfl) (by kernel_rfl) ?_); simp only [go_sem, jE, reduceIte, jA, jM, jS, jL, jD, jB, h1, h2, hx, h4]) | refine dk (by kernel_rfl) ?_ | (refine qp (k) (by simp only [go_sem, jE, reduceIte, jA, jM, jS, jL, jD, jB, h1, h2, hx, h4]; first | done | rfl) rfl (by simp only [go_sem, Nat.reduceLT]) rfl rfl ?_; simp only [go_sem, jE, reduceIte, jA, jM, jS, jL, jD, jB, h1, h2, hx, h4]))
      exact ⟨⟨i + 1, by omega, by omega⟩, (by simp only []; omega), rw0 (by repeat (first | exact trivial | refine ⟨rfl, rfl, ?_⟩))⟩
    · rw [szM_no h3] at k
      rw [szM_no (w := wS wEnt r) (by have := wI_le wEnt r (i + 1); omega)]
      repeat (first | apply Aw_seq | apply Aw_block | apply Aw_skip | apply Aw_exit | refine Aw_condt rfl ?_ | refine Aw_condf rfl ?_ | ((first | refine qr ?_ | refine qd (by kernel_rfl) (by kernel_rfl) ?_); simp only [go_sem, jE, reduceIte, jA, jM, jS, jL, jD, jB, h1, h2, hx, neg1]) | refine dk (by kernel_rfl) ?_ | (refine qp (k) (by simp only [go_sem, jE, reduceIte, jA, jM, jS, jL, jD, jB, h1, h2, hx, neg1]; first | done | rfl) rfl (by simp only [go_sem, Nat.reduceLT]) rfl rfl ?_; simp only [go_sem, jE, reduceIte, jA, jM, jS, jL, jD, jB, h1, h2, hx, neg1]))
      exact Aw_ret (ret0 (.inl rfl) (by simp only [go_sem, jE, reduceIte, jA, jM, jS, jL, jD, jB]; rfl) (by rfl) rfl)
  · have h1 : ¬ (i : Int) < (r.length : Int) := by omega
    obtain rfl : i = r.length := by omega
    rw [wI_end] at hp ⊢
    rw [szM_ok hp]
    repeat (first | apply Aw_seq | apply Aw_block | apply Aw_skip | apply Aw_exit | refine Aw_condt rfl ?_ | refine Aw_condf rfl ?_ | ((first | refine qr ?_ | refine qd (by kernel_rfl) (by kernel_rfl) ?_); simp only [go_sem, jE, reduceIte, jA, jM, jS, jL, jD, jB, h1]) | refine dk (by kernel_rfl) ?_)
    exact Aw_ret (ret0 (.inl rfl) (by simp only [go_sem, jE, reduceIte, jA, jM, jS, jL, jD, jB]; rfl) (by rfl) rfl)
def bigR (r : List Ent) : Prop := big r.length ∧ ∀ e ∈ r, big e.key.size
def wRun (r : List Ent) : Nat := wS wEnt r
theorem szEntrySS_ac (r : List (List Ent)) (l : Nat) (hl : l ≤ 1048576) (hr : big r.length) (he : ∀ e ∈ r, bigR e) : AC Tryz.prog 27 [lvsT r, iT l] noHp 0 ⟨.t (iT (szM (wS wRun r) l)), noHp, 0⟩ := by
  refine AC_of Tryz.func27 rfl Tryz.ntmps27 Tryz.results27 (by kernel_rfl) rfl ?_
  simp only [List.zipIdx, List.map, Nat.zero_add, Nat.reduceAdd]
  by_cases h : r.length ≤ l
  case neg =>
    have w1 := wrap_neg h hl hr
    rw [szM_no (by have := wI_le wRun r 0; rw [wI_0] at this; omega)]
    repeat (first | apply Aw_seq | apply Aw_block | apply Aw_skip | apply Aw_exit | refine Aw_condt rfl ?_ | refine Aw_condf rfl ?_ | ((first | refine qr ?_ | refine qd (by kernel_rfl) (by kernel_rfl) ?_); simp only [go_sem, jE, reduceIte, jA, jM, jS, jL, jD, jB, w1]) | refine dk (by kernel_rfl) ?_)
    exact Aw_ret (ret0 (.inl rfl) (by simp only [go_sem, jE, reduceIte, jA, jM, jS, jL, jD, jB]; rfl) (by rfl) rfl)
  have w1 := wrap_sub h hl
  have h0 := nneg (l - r.length)
  repeat (first | apply Aw_seq | apply Aw_block | apply Aw_skip | apply Aw_exit | refine Aw_condt rfl ?_ | refine Aw_condf rfl ?_ | ((first | refine qr ?_ | refine qd (by kernel_rfl) (by kernel_rfl) ?_); simp only [go_sem, jE, reduceIte, jA, jM, jS, jL, jD, jB, w1, h0]) | refine dk (by kernel_rfl) ?_)
  refine Aw.rw (rw0 (l' := [(5, .t (iT (0 : Nat))), (1, .t (iT ((l - wI wRun r 0 : Nat) : Int))), (0, .t (lvsT r))]) (n' := 0) (by repeat (first | exact trivial | refine ⟨rfl, rfl, ?_⟩))) ?_
  refine Aw_loop0 (ι := { i : Nat // i ≤ r.length ∧ (wI wRun r i ≤ l) }) (fun q => [(5, .t (iT (q.1 : Nat))), (1, .t (iT ((l - wI wRun r q.1 : Nat) : Int))), (0, .t (lvsT r))]) (fun q => r.length - q.1) ⟨0, Nat.zero_le _, h⟩ ?_
  rintro ⟨i, hi, hp⟩
  dsimp only
  by_cases hlt : i < r.length
  · have h1 : (i : Int) < (r.length : Int) := by omega
    have h2 := wrap_succ hlt (by omega)
    obtain ⟨e, hx⟩ : ∃ e, r[i]? = some e := ⟨_, List.getElem?_eq_getElem hlt⟩
    have k := szEntryS_ac e (l - wI wRun r i) (by omega) (he e (List.mem_of_getElem? hx)).1 (he e (List.mem_of_getElem? hx)).2
    rw [show wS wEnt e = wRun e from rfl] at k
    have e1 := wI_succ (f := wRun) hx
    by_cases h3 : wRun e ≤ l - wI wRun r i
    · rw [szM_ok h3, show l - wI wRun r i - wRun e = l - wI wRun r (i + 1) by omega] at k
      have h4 := nneg (l - wI wRun r (i + 1))
      repeat (first | apply Aw_seq | apply Aw_block | apply Aw_skip | apply Aw_exit | refine Aw_condt rfl ?_ | refine Aw_condf rfl ?_ | ((first | refine qr ?_ | refine qd (by kernel_rfl) (by kernel_rfl) ?_); simp only [go_sem, jE, reduceIte, jA, jM, jS, jL, jD, jB, h1, h2, hx, h4]) | refine dk (by kernel_rfl) ?_ | (refine qp (k) (by simp only [go_sem, jE, reduceIte, jA, jM, jS, jL, jD, jB, h1, h2, hx, h4]; first | done | rfl) rfl (by simp only [go_sem, Nat.reduceLT]) rfl rfl ?_; simp only [go_sem, jE, reduceIte, jA, jM, jS, jL, jD, jB, h1, h2, hx, h4]))
      exact ⟨⟨i + 1, by omega, by omega⟩, (by simp only []; omega), rw0 (by repeat (first | exact trivial | refine ⟨rfl, rfl, ?_⟩))⟩
    · rw [szM_no h3] at k
      rw [szM_no (w := wS wRun r) (by have := wI_le wRun r (i + 1); omega)]
      repeat (first | apply Aw_seq | apply Aw_block | apply Aw_skip | apply Aw_exit | refine Aw_condt rfl ?_ | refine Aw_condf rfl ?_ | ((first | refine qr ?_ | refine qd (by kernel_rfl) (by kernel_rfl) ?_); simp only [go_sem, jE, reduceIte, jA, jM, jS, jL, jD, jB, h1, h2, hx, neg1]) | refine dk (by kernel_rfl) ?_ | (refine qp (k) (by simp only [go_sem, jE, reduceIte, jA, jM, jS, jL, jD, jB, h1, h2, hx, neg1]; first | done | rfl) rfl (by simp only [go_sem, Nat.reduceLT]) rfl rfl ?_; simp only [go_sem, jE, reduceIte, jA, jM, jS, jL, jD, jB, h1, h2, hx, neg1]))
      exact Aw_ret (ret0 (.inl rfl) (by simp only [go_sem, jE, reduceIte, jA, jM, jS, jL, jD, jB]; rfl) (by rfl) rfl)
  · have h1 : ¬ (i : Int) < (r.length : Int) := by omega
    obtain rfl : i = r.length := by omega
    rw [wI_end] at hp ⊢
    rw [szM_ok hp]
    repeat (first | apply Aw_seq | apply Aw_block | apply Aw_skip | apply Aw_exit | refine Aw_condt rfl ?_ | refine Aw_condf rfl ?_ | ((first | refine qr ?_ | refine qd (by kernel_rfl) (by kernel_rfl) ?_); simp only [go_sem, jE, reduceIte, jA, jM, jS, jL, jD, jB, h1]) | refine dk (by kernel_rfl) ?_)
    exact Aw_ret (ret0 (.inl rfl) (by simp only [go_sem, jE, reduceIte, jA, jM, jS, jL, jD, jB]; rfl) (by rfl) rfl)
theorem szStringS_ac (r : List ByteArray) (l : Nat) (hl : l ≤ 1048576) (hr : big r.length) (he : ∀ e ∈ r, big e.size) : AC Tryz.prog 117 [strsT r, iT l] noHp 0 ⟨.t (iT (szM (wS ByteArray.size r) l)), noHp, 0⟩ := by
  refine AC_of Tryz.func117 rfl Tryz.ntmps117 Tryz.results117 (by kernel_rfl) rfl ?_
  simp only [List.zipIdx, List.map, Nat.zero_add, Nat.reduceAdd]
  by_cases h : r.length ≤ l
  case neg =>
    have w1 := wrap_neg h hl hr
    rw [szM_no (by have := wI_le ByteArray.size r 0; rw [wI_0] at this; omega)]
    repeat (first | apply Aw_seq | apply Aw_block | apply Aw_skip | apply Aw_exit | refine Aw_condt rfl ?_ | refine Aw_condf rfl ?_ | ((first | refine qr ?_ | refine qd (by kernel_rfl) (by kernel_rfl) ?_); simp only [go_sem, jE, reduceIte, jA, jM, jS, jL, jD, jB, w1]) | refine dk (by kernel_rfl) ?_)
    exact Aw_ret (ret0 (.inl rfl) (by simp only [go_sem, jE, reduceIte, jA, jM, jS, jL, jD, jB]; rfl) (by rfl) rfl)
  have w1 := wrap_sub h hl
  have h0 := nneg (l - r.length)
  repeat (first | apply Aw_seq | apply Aw_block | apply Aw_skip | apply Aw_exit | refine Aw_condt rfl ?_ | refine Aw_condf rfl ?_ | ((first | refine qr ?_ | refine qd (by kernel_rfl) (by kernel_rfl) ?_); simp only [go_sem, jE, reduceIte, jA, jM, jS, jL, jD, jB, w1, h0]) | refine dk (by kernel_rfl) ?_)
  refine Aw.rw (rw0 (l' := [(5, .t (iT (0 : Nat))), (1, .t (iT ((l - wI ByteArray.size r 0 : Nat) : Int))), (0, .t (strsT r))]) (n' := 0) (by repeat (first | exact trivial | refine ⟨rfl, rfl, ?_⟩))) ?_
  refine Aw_loop0 (ι := { i : Nat // i ≤ r.length ∧ (wI ByteArray.size r i ≤ l) }) (fun q => [(5, .t (iT (q.1 : Nat))), (1, .t (iT ((l - wI ByteArray.size r q.1 : Nat) : Int))), (0, .t (strsT r))]) (fun q => r.length - q.1) ⟨0, Nat.zero_le _, h⟩ ?_
  rintro ⟨i, hi, hp⟩
  dsimp only
  by_cases hlt : i < r.length
  · have h1 : (i : Int) < (r.length : Int) := by omega
    have h2 := wrap_succ hlt (by omega)
    obtain ⟨e, hx⟩ : ∃ e, r[i]? = some e := ⟨_, List.getElem?_eq_getElem hlt⟩
    have hk := he e (List.mem_of_getElem? hx)
    have e1 := wI_succ (f := ByteArray.size) hx
    by_cases h3 : ByteArray.size e ≤ l - wI ByteArray.size r i
    · have w2 := wrap_sub (n := e.size) h3 (by omega)
      rw [show l - wI ByteArray.size r i - e.size = l - wI ByteArray.size r (i + 1) by omega] at w2
      have h4 := nneg (l - wI ByteArray.size r (i + 1))
      repeat (first | apply Aw_seq | apply Aw_block | apply Aw_skip | apply Aw_exit | refine Aw_condt rfl ?_ | refine Aw_condf rfl ?_ | ((first | refine qr ?_ | refine qd (by kernel_rfl) (by kernel_rfl) ?_); simp only [go_sem, jE, reduceIte, jA, jM, jS, jL, jD, jB, h1, h2, hx, w2, h4]) | refine dk (by kernel_rfl) ?_)
      exact ⟨⟨i + 1, by omega, by omega⟩, (by simp only []; omega), rw0 (by repeat (first | exact trivial | refine ⟨rfl, rfl, ?_⟩))⟩
    · have w2 := wrap_neg (n := e.size) h3 (by omega) hk
      rw [szM_no (w := wS ByteArray.size r) (by have := wI_le ByteArray.size r (i + 1); omega)]
      repeat (first | apply Aw_seq | apply Aw_block | apply Aw_skip | apply Aw_exit | refine Aw_condt rfl ?_ | refine Aw_condf rfl ?_ | ((first | refine qr ?_ | refine qd (by kernel_rfl) (by kernel_rfl) ?_); simp only [go_sem, jE, reduceIte, jA, jM, jS, jL, jD, jB, h1, h2, hx, w2]) | refine dk (by kernel_rfl) ?_)
      exact Aw_ret (ret0 (.inl rfl) (by simp only [go_sem, jE, reduceIte, jA, jM, jS, jL, jD, jB]; rfl) (by rfl) rfl)
  · have h1 : ¬ (i : Int) < (r.length : Int) := by omega
    obtain rfl : i = r.length := by omega
    rw [wI_end] at hp ⊢
    rw [szM_ok hp]
    repeat (first | apply Aw_seq | apply Aw_block | apply Aw_skip | apply Aw_exit | refine Aw_condt rfl ?_ | refine Aw_condf rfl ?_ | ((first | refine qr ?_ | refine qd (by kernel_rfl) (by kernel_rfl) ?_); simp only [go_sem, jE, reduceIte, jA, jM, jS, jL, jD, jB, h1]) | refine dk (by kernel_rfl) ?_)
    exact Aw_ret (ret0 (.inl rfl) (by simp only [go_sem, jE, reduceIte, jA, jM, jS, jL, jD, jB]; rfl) (by rfl) rfl)
structure bigS (s : Sve) : Prop where
  letters : big s.letters.size
  more : big s.more.size
  first : big s.first.size
  rl : big s.rests.length
  rests : ∀ e ∈ s.rests, big e.size
def wSve (s : Sve) : Nat := s.letters.size + s.more.size + s.first.size + wS ByteArray.size s.rests
theorem szSieve_ac (s : Sve) (l : Nat) (hl : l ≤ 1048576) (hs : bigS s) : AC Tryz.prog 75 [sveP s, iT l] noHp 0 ⟨.t (iT (szM (wSve s) l)), noHp, 0⟩ := by
  refine AC_of Tryz.func75 rfl Tryz.ntmps75 Tryz.results75 (by kernel_rfl) rfl ?_
  simp only [List.zipIdx, List.map, Nat.zero_add, Nat.reduceAdd]
  by_cases h : s.letters.size ≤ l
  case neg =>
    have w1 := wrap_neg h hl hs.letters
    rw [szM_no (by unfold wSve; omega)]
    repeat (first | apply Aw_seq | apply Aw_block | apply Aw_skip | apply Aw_exit | refine Aw_condt rfl ?_ | refine Aw_condf rfl ?_ | ((first | refine qr ?_ | refine qd (by kernel_rfl) (by kernel_rfl) ?_); simp only [go_sem, jE, reduceIte, jA, jM, jS, jL, jD, jB, w1]) | refine dk (by kernel_rfl) ?_)
    exact Aw_ret (ret0 (.inl rfl) (by simp only [go_sem, jE, reduceIte, jA, jM, jS, jL, jD, jB]; rfl) (by rfl) rfl)
  have w1 := wrap_sub h hl
  have h0 := nneg (l - s.letters.size)
  obtain ⟨l1, e1⟩ : ∃ l1, l1 = l - s.letters.size := ⟨_, rfl⟩
  rw [← e1] at w1 h0
  by_cases h2 : s.more.size ≤ l1
  case neg =>
    have w2 := wrap_neg h2 (by omega) hs.more
    rw [szM_no (by unfold wSve; omega)]
    repeat (first | apply Aw_seq | apply Aw_block | apply Aw_skip | apply Aw_exit | refine Aw_condt rfl ?_ | refine Aw_condf rfl ?_ | ((first | refine qr ?_ | refine qd (by kernel_rfl) (by kernel_rfl) ?_); simp only [go_sem, jE, reduceIte, jA, jM, jS, jL, jD, jB, w1, h0, w2]) | refine dk (by kernel_rfl) ?_)
    exact Aw_ret (ret0 (.inl rfl) (by simp only [go_sem, jE, reduceIte, jA, jM, jS, jL, jD, jB]; rfl) (by rfl) rfl)
  have w2 := wrap_sub h2 (by omega)
  have h3 := nneg (l1 - s.more.size)
  obtain ⟨l2, e2⟩ : ∃ l2, l2 = l1 - s.more.size := ⟨_, rfl⟩
  rw [← e2] at w2 h3
  by_cases h4 : s.first.size ≤ l2
  case neg =>
    have w3 := wrap_neg h4 (by omega) hs.first
    rw [szM_no (by unfold wSve; omega)]
    repeat (first | apply Aw_seq | apply Aw_block | apply Aw_skip | apply Aw_exit | refine Aw_condt rfl ?_ | refine Aw_condf rfl ?_ | ((first | refine qr ?_ | refine qd (by kernel_rfl) (by kernel_rfl) ?_); simp only [go_sem, jE, reduceIte, jA, jM, jS, jL, jD, jB, w1, h0, w2, h3, w3]) | refine dk (by kernel_rfl) ?_)
    exact Aw_ret (ret0 (.inl rfl) (by simp only [go_sem, jE, reduceIte, jA, jM, jS, jL, jD, jB]; rfl) (by rfl) rfl)
  have w3 := wrap_sub h4 (by omega)
  have h5 := nneg (l2 - s.first.size)
  obtain ⟨l3, e3⟩ : ∃ l3, l3 = l2 - s.first.size := ⟨_, rfl⟩
  rw [← e3] at w3 h5
  have k := szStringS_ac s.rests l3 (by omega) hs.rl hs.rests
  by_cases h6 : wS ByteArray.size s.rests ≤ l3
  · rw [szM_ok h6] at k
    have h7 := nneg (l3 - wS ByteArray.size s.rests)
    rw [szM_ok (w := wSve s) (by unfold wSve; omega), show l - wSve s = l3 - wS ByteArray.size s.rests by unfold wSve; omega]
    repeat (first | apply Aw_seq | apply Aw_block | apply Aw_skip | apply Aw_exit | refine Aw_condt rfl ?_ | refine Aw_condf rfl ?_ | ((first | refine qr ?_ | refine qd (by kernel_rfl) (by kernel_rfl) ?_); simp only [go_sem, jE, reduceIte, jA, jM, jS, jL, jD, jB, w1, h0, w2, h3, w3, h5, h7]) | refine dk (by kernel_rfl) ?_ | (refine qp (k) (by simp only [go_sem, jE, reduceIte, jA, jM, jS, jL, jD, jB, w1, h0, w2, h3, w3, h5, h7]; first | done | rfl) rfl (by simp only [go_sem, Nat.reduceLT]) rfl rfl ?_; simp only [go_sem, jE, reduceIte, jA, jM, jS, jL, jD, jB, w1, h0, w2, h3, w3, h5, h7]))
    exact Aw_ret (ret0 (.inl rfl) (by simp only [go_sem, jE, reduceIte, jA, jM, jS, jL, jD, jB]; rfl) (by rfl) rfl)
  · rw [szM_no h6] at k
    rw [szM_no (by unfold wSve; omega)]
    repeat (first | apply Aw_seq | apply Aw_block | apply Aw_skip | apply Aw_exit | refine Aw_condt rfl ?_ | refine Aw_condf rfl ?_ | ((first | refine qr ?_ | refine qd (by kernel_rfl) (by kernel_rfl) ?_); simp only [go_sem, jE, reduceIte, jA, jM, jS, jL, jD, jB, w1, h0, w2, h3, w3, h5, neg1]) | refine dk (by kernel_rfl) ?_ | (refine qp (k) (by simp only [go_sem, jE, reduceIte, jA, jM, jS, jL, jD, jB, w1, h0, w2, h3, w3, h5, neg1]; first | done | rfl) rfl (by simp only [go_sem, Nat.reduceLT]) rfl rfl ?_; simp only [go_sem, jE, reduceIte, jA, jM, jS, jL, jD, jB, w1, h0, w2, h3, w3, h5, neg1]))
    exact Aw_ret (ret0 (.inl rfl) (by simp only [go_sem, jE, reduceIte, jA, jM, jS, jL, jD, jB]; rfl) (by rfl) rfl)
theorem szSieveS_ac (r : List Sve) (l : Nat) (hl : l ≤ 1048576) (hr : big r.length) (he : ∀ e ∈ r, bigS e) : AC Tryz.prog 28 [svsT r, iT l] noHp 0 ⟨.t (iT (szM (wS wSve r) l)), noHp, 0⟩ := by
  refine AC_of Tryz.func28 rfl Tryz.ntmps28 Tryz.results28 (by kernel_rfl) rfl ?_
  simp only [List.zipIdx, List.map, Nat.zero_add, Nat.reduceAdd]
  by_cases h : r.length ≤ l
  case neg =>
    have w1 := wrap_neg h hl hr
    rw [szM_no (by have := wI_le wSve r 0; rw [wI_0] at this; omega)]
    repeat (first | apply Aw_seq | apply Aw_block | apply Aw_skip | apply Aw_exit | refine Aw_condt rfl ?_ | refine Aw_condf rfl ?_ | ((first | refine qr ?_ | refine qd (by kernel_rfl) (by kernel_rfl) ?_); simp only [go_sem, jE, reduceIte, jA, jM, jS, jL, jD, jB, w1]) | refine dk (by kernel_rfl) ?_)
    exact Aw_ret (ret0 (.inl rfl) (by simp only [go_sem, jE, reduceIte, jA, jM, jS, jL, jD, jB]; rfl) (by rfl) rfl)
  have w1 := wrap_sub h hl
  have h0 := nneg (l - r.length)
  repeat (first | apply Aw_seq | apply Aw_block | apply Aw_skip | apply Aw_exit | refine Aw_condt rfl ?_ | refine Aw_condf rfl ?_ | ((first | refine qr ?_ | refine qd (by kernel_rfl) (by kernel_rfl) ?_); simp only [go_sem, jE, reduceIte, jA, jM, jS, jL, jD, jB, w1, h0]) | refine dk (by kernel_rfl) ?_)
  refine Aw.rw (rw0 (l' := [(5, .t (iT (0 : Nat))), (1, .t (iT ((l - wI wSve r 0 : Nat) : Int))), (0, .t (svsT r))]) (n' := 0) (by repeat (first | exact trivial | refine ⟨rfl, rfl, ?_⟩))) ?_
  refine Aw_loop0 (ι := { i : Nat // i ≤ r.length ∧ (wI wSve r i ≤ l) }) (fun q => [(5, .t (iT (q.1 : Nat))), (1, .t (iT ((l - wI wSve r q.1 : Nat) : Int))), (0, .t (svsT r))]) (fun q => r.length - q.1) ⟨0, Nat.zero_le _, h⟩ ?_
  rintro ⟨i, hi, hp⟩
  dsimp only
  by_cases hlt : i < r.length
  · have h1 : (i : Int) < (r.length : Int) := by omega
    have h2 := wrap_succ hlt (by omega)
    obtain ⟨e, hx⟩ : ∃ e, r[i]? = some e := ⟨_, List.getElem?_eq_getElem hlt⟩
    have k := szSieve_ac e (l - wI wSve r i) (by omega) (he e (List.mem_of_getElem? hx))
    have e1 := wI_succ (f := wSve) hx
    by_cases h3 : wSve e ≤ l - wI wSve r i
    · rw [szM_ok h3, show l - wI wSve r i - wSve e = l - wI wSve r (i + 1) by omega] at k
      have h4 := nneg (l - wI wSve r (i + 1))
      repeat (first | apply Aw_seq | apply Aw_block | apply Aw_skip | apply Aw_exit | refine Aw_condt rfl ?_ | refine Aw_condf rfl ?_ | ((first | refine qr ?_ | refine qd (by kernel_rfl) (by kernel_rfl) ?_); simp only [go_sem, jE, reduceIte, jA, jM, jS, jL, jD, jB, h1, h2, hx, h4]) | refine dk (by kernel_rfl) ?_ | (refine qp (k) (by simp only [go_sem, jE, reduceIte, jA, jM, jS, jL, jD, jB, h1, h2, hx, h4]; first | done | rfl) rfl (by simp only [go_sem, Nat.reduceLT]) rfl rfl ?_; simp only [go_sem, jE, reduceIte, jA, jM, jS, jL, jD, jB, h1, h2, hx, h4]))
      exact ⟨⟨i + 1, by omega, by omega⟩, (by simp only []; omega), rw0 (by repeat (first | exact trivial | refine ⟨rfl, rfl, ?_⟩))⟩
    · rw [szM_no h3] at k
      rw [szM_no (w := wS wSve r) (by have := wI_le wSve r (i + 1); omega)]
      repeat (first | apply Aw_seq | apply Aw_block | apply Aw_skip | apply Aw_exit | refine Aw_condt rfl ?_ | refine Aw_condf rfl ?_ | ((first | refine qr ?_ | refine qd (by kernel_rfl) (by kernel_rfl) ?_); simp only [go_sem, jE, reduceIte, jA, jM, jS, jL, jD, jB, h1, h2, hx, neg1]) | refine dk (by kernel_rfl) ?_ | (refine qp (k) (by simp only [go_sem, jE, reduceIte, jA, jM, jS, jL, jD, jB, h1, h2, hx, neg1]; first | done | rfl) rfl (by simp only [go_sem, Nat.reduceLT]) rfl rfl ?_; simp only [go_sem, jE, reduceIte, jA, jM, jS, jL, jD, jB, h1, h2, hx, neg1]))
      exact Aw_ret (ret0 (.inl rfl) (by simp only [go_sem, jE, reduceIte, jA, jM, jS, jL, jD, jB]; rfl) (by rfl) rfl)
  · have h1 : ¬ (i : Int) < (r.length : Int) := by omega
    obtain rfl : i = r.length := by omega
    rw [wI_end] at hp ⊢
    rw [szM_ok hp]
    repeat (first | apply Aw_seq | apply Aw_block | apply Aw_skip | apply Aw_exit | refine Aw_condt rfl ?_ | refine Aw_condf rfl ?_ | ((first | refine qr ?_ | refine qd (by kernel_rfl) (by kernel_rfl) ?_); simp only [go_sem, jE, reduceIte, jA, jM, jS, jL, jD, jB, h1]) | refine dk (by kernel_rfl) ?_)
    exact Aw_ret (ret0 (.inl rfl) (by simp only [go_sem, jE, reduceIte, jA, jM, jS, jL, jD, jB]; rfl) (by rfl) rfl)
theorem szIntS_ac (r : List Int) (l : Nat) (hl : l ≤ 1048576) (hr : big r.length) : AC Tryz.prog 29 [intsT r, iT l] noHp 0 ⟨.t (iT (szM r.length l)), noHp, 0⟩ := by
  refine AC_of Tryz.func29 rfl Tryz.ntmps29 Tryz.results29 (by kernel_rfl) rfl ?_
  simp only [List.zipIdx, List.map, Nat.zero_add, Nat.reduceAdd]
  by_cases h : r.length ≤ l
  · have w1 := wrap_sub h hl
    have h1 := nneg (l - r.length)
    rw [szM_ok h]
    repeat (first | apply Aw_seq | apply Aw_block | apply Aw_skip | apply Aw_exit | refine Aw_condt rfl ?_ | refine Aw_condf rfl ?_ | ((first | refine qr ?_ | refine qd (by kernel_rfl) (by kernel_rfl) ?_); simp only [go_sem, jE, reduceIte, jA, jM, jS, jL, jD, jB, w1, h1]) | refine dk (by kernel_rfl) ?_)
    exact Aw_ret (ret0 (.inl rfl) (by simp only [go_sem, jE, reduceIte, jA, jM, jS, jL, jD, jB]; rfl) (by rfl) rfl)
  · have w1 := wrap_neg h hl hr
    rw [szM_no h]
    repeat (first | apply Aw_seq | apply Aw_block | apply Aw_skip | apply Aw_exit | refine Aw_condt rfl ?_ | refine Aw_condf rfl ?_ | ((first | refine qr ?_ | refine qd (by kernel_rfl) (by kernel_rfl) ?_); simp only [go_sem, jE, reduceIte, jA, jM, jS, jL, jD, jB, w1]) | refine dk (by kernel_rfl) ?_)
    exact Aw_ret (ret0 (.inl rfl) (by simp only [go_sem, jE, reduceIte, jA, jM, jS, jL, jD, jB]; rfl) (by rfl) rfl)
structure bigT (s : Sto) : Prop where
  top : bigR s.top
  ll : big s.levels.length
  levels : ∀ e ∈ s.levels, bigR e
  sl : big s.sieves.length
  sieves : ∀ e ∈ s.sieves, bigS e
  times : big s.times.length
def wSto (s : Sto) : Nat := wRun s.top + wS wRun s.levels + wS wSve s.sieves + s.times.length
theorem szStore_ac (s : Sto) (l : Nat) (hl : l ≤ 1048576) (hs : bigT s) : AC Tryz.prog 8 [stT s, iT l] noHp 0 ⟨.t (iT (szM (wSto s) l)), noHp, 0⟩ := by
  refine AC_of Tryz.func8 rfl Tryz.ntmps8 Tryz.results8 (by kernel_rfl) rfl ?_
  simp only [List.zipIdx, List.map, Nat.zero_add, Nat.reduceAdd]
  have k1 := szEntryS_ac s.top l hl hs.top.1 hs.top.2
  rw [show wS wEnt s.top = wRun s.top from rfl] at k1
  by_cases h1 : wRun s.top ≤ l
  case neg =>
    rw [szM_no h1] at k1
    rw [szM_no (by unfold wSto; omega)]
    repeat (first | apply Aw_seq | apply Aw_block | apply Aw_skip | apply Aw_exit | refine Aw_condt rfl ?_ | refine Aw_condf rfl ?_ | ((first | refine qr ?_ | refine qd (by kernel_rfl) (by kernel_rfl) ?_); simp only [go_sem, jE, reduceIte, jA, jM, jS, jL, jD, jB, neg1]) | refine dk (by kernel_rfl) ?_ | (refine qp (k1) (by simp only [go_sem, jE, reduceIte, jA, jM, jS, jL, jD, jB, neg1]; first | done | rfl) rfl (by simp only [go_sem, Nat.reduceLT]) rfl rfl ?_; simp only [go_sem, jE, reduceIte, jA, jM, jS, jL, jD, jB, neg1]))
    exact Aw_ret (ret0 (.inl rfl) (by simp only [go_sem, jE, reduceIte, jA, jM, jS, jL, jD, jB]; rfl) (by rfl) rfl)
  obtain ⟨l1, e1⟩ : ∃ l1, l1 = l - wRun s.top := ⟨_, rfl⟩
  rw [szM_ok h1, ← e1] at k1
  have n1 := nneg l1
  have k2 := szEntrySS_ac s.levels l1 (by omega) hs.ll hs.levels
  by_cases h2 : wS wRun s.levels ≤ l1
  case neg =>
    rw [szM_no h2] at k2
    rw [szM_no (by unfold wSto; omega)]
    repeat (first | apply Aw_seq | apply Aw_block | apply Aw_skip | apply Aw_exit | refine Aw_condt rfl ?_ | refine Aw_condf rfl ?_ | ((first | refine qr ?_ | refine qd (by kernel_rfl) (by kernel_rfl) ?_); simp only [go_sem, jE, reduceIte, jA, jM, jS, jL, jD, jB, n1, neg1]) | refine dk (by kernel_rfl) ?_ | (refine qp (k1) (by simp only [go_sem, jE, reduceIte, jA, jM, jS, jL, jD, jB, n1, neg1]; first | done | rfl) rfl (by simp only [go_sem, Nat.reduceLT]) rfl rfl ?_; simp only [go_sem, jE, reduceIte, jA, jM, jS, jL, jD, jB, n1, neg1]) | (refine qp (k2) (by simp only [go_sem, jE, reduceIte, jA, jM, jS, jL, jD, jB, n1, neg1]; first | done | rfl) rfl (by simp only [go_sem, Nat.reduceLT]) rfl rfl ?_; simp only [go_sem, jE, reduceIte, jA, jM, jS, jL, jD, jB, n1, neg1]))
    exact Aw_ret (ret0 (.inl rfl) (by simp only [go_sem, jE, reduceIte, jA, jM, jS, jL, jD, jB]; rfl) (by rfl) rfl)
  obtain ⟨l2, e2⟩ : ∃ l2, l2 = l1 - wS wRun s.levels := ⟨_, rfl⟩
  rw [szM_ok h2, ← e2] at k2
  have n2 := nneg l2
  have k3 := szSieveS_ac s.sieves l2 (by omega) hs.sl hs.sieves
  by_cases h3 : wS wSve s.sieves ≤ l2
  case neg =>
    rw [szM_no h3] at k3
    rw [szM_no (by unfold wSto; omega)]
    repeat (first | apply Aw_seq | apply Aw_block | apply Aw_skip | apply Aw_exit | refine Aw_condt rfl ?_ | refine Aw_condf rfl ?_ | ((first | refine qr ?_ | refine qd (by kernel_rfl) (by kernel_rfl) ?_); simp only [go_sem, jE, reduceIte, jA, jM, jS, jL, jD, jB, n1, n2, neg1]) | refine dk (by kernel_rfl) ?_ | (refine qp (k1) (by simp only [go_sem, jE, reduceIte, jA, jM, jS, jL, jD, jB, n1, n2, neg1]; first | done | rfl) rfl (by simp only [go_sem, Nat.reduceLT]) rfl rfl ?_; simp only [go_sem, jE, reduceIte, jA, jM, jS, jL, jD, jB, n1, n2, neg1]) | (refine qp (k2) (by simp only [go_sem, jE, reduceIte, jA, jM, jS, jL, jD, jB, n1, n2, neg1]; first | done | rfl) rfl (by simp only [go_sem, Nat.reduceLT]) rfl rfl ?_; simp only [go_sem, jE, reduceIte, jA, jM, jS, jL, jD, jB, n1, n2, neg1]) | (refine qp (k3) (by simp only [go_sem, jE, reduceIte, jA, jM, jS, jL, jD, jB, n1, n2, neg1]; first | done | rfl) rfl (by simp only [go_sem, Nat.reduceLT]) rfl rfl ?_; simp only [go_sem, jE, reduceIte, jA, jM, jS, jL, jD, jB, n1, n2, neg1]))
    exact Aw_ret (ret0 (.inl rfl) (by simp only [go_sem, jE, reduceIte, jA, jM, jS, jL, jD, jB]; rfl) (by rfl) rfl)
  obtain ⟨l3, e3⟩ : ∃ l3, l3 = l2 - wS wSve s.sieves := ⟨_, rfl⟩
  rw [szM_ok h3, ← e3] at k3
  have n3 := nneg l3
  have k4 := szIntS_ac s.times l3 (by omega) hs.times
  by_cases h4 : s.times.length ≤ l3
  · rw [szM_ok h4] at k4
    have n4 := nneg (l3 - s.times.length)
    rw [szM_ok (w := wSto s) (by unfold wSto; omega), show l - wSto s = l3 - s.times.length by unfold wSto; omega]
    repeat (first | apply Aw_seq | apply Aw_block | apply Aw_skip | apply Aw_exit | refine Aw_condt rfl ?_ | refine Aw_condf rfl ?_ | ((first | refine qr ?_ | refine qd (by kernel_rfl) (by kernel_rfl) ?_); simp only [go_sem, jE, reduceIte, jA, jM, jS, jL, jD, jB, n1, n2, n3, n4]) | refine dk (by kernel_rfl) ?_ | (refine qp (k1) (by simp only [go_sem, jE, reduceIte, jA, jM, jS, jL, jD, jB, n1, n2, n3, n4]; first | done | rfl) rfl (by simp only [go_sem, Nat.reduceLT]) rfl rfl ?_; simp only [go_sem, jE, reduceIte, jA, jM, jS, jL, jD, jB, n1, n2, n3, n4]) | (refine qp (k2) (by simp only [go_sem, jE, reduceIte, jA, jM, jS, jL, jD, jB, n1, n2, n3, n4]; first | done | rfl) rfl (by simp only [go_sem, Nat.reduceLT]) rfl rfl ?_; simp only [go_sem, jE, reduceIte, jA, jM, jS, jL, jD, jB, n1, n2, n3, n4]) | (refine qp (k3) (by simp only [go_sem, jE, reduceIte, jA, jM, jS, jL, jD, jB, n1, n2, n3, n4]; first | done | rfl) rfl (by simp only [go_sem, Nat.reduceLT]) rfl rfl ?_; simp only [go_sem, jE, reduceIte, jA, jM, jS, jL, jD, jB, n1, n2, n3, n4]) | (refine qp (k4) (by simp only [go_sem, jE, reduceIte, jA, jM, jS, jL, jD, jB, n1, n2, n3, n4]; first | done | rfl) rfl (by simp only [go_sem, Nat.reduceLT]) rfl rfl ?_; simp only [go_sem, jE, reduceIte, jA, jM, jS, jL, jD, jB, n1, n2, n3, n4]))
    exact Aw_ret (ret0 (.inl rfl) (by simp only [go_sem, jE, reduceIte, jA, jM, jS, jL, jD, jB]; rfl) (by rfl) rfl)
  · rw [szM_no h4] at k4
    rw [szM_no (by unfold wSto; omega)]
    repeat (first | apply Aw_seq | apply Aw_block | apply Aw_skip | apply Aw_exit | refine Aw_condt rfl ?_ | refine Aw_condf rfl ?_ | ((first | refine qr ?_ | refine qd (by kernel_rfl) (by kernel_rfl) ?_); simp only [go_sem, jE, reduceIte, jA, jM, jS, jL, jD, jB, n1, n2, n3, neg1]) | refine dk (by kernel_rfl) ?_ | (refine qp (k1) (by simp only [go_sem, jE, reduceIte, jA, jM, jS, jL, jD, jB, n1, n2, n3, neg1]; first | done | rfl) rfl (by simp only [go_sem, Nat.reduceLT]) rfl rfl ?_; simp only [go_sem, jE, reduceIte, jA, jM, jS, jL, jD, jB, n1, n2, n3, neg1]) | (refine qp (k2) (by simp only [go_sem, jE, reduceIte, jA, jM, jS, jL, jD, jB, n1, n2, n3, neg1]; first | done | rfl) rfl (by simp only [go_sem, Nat.reduceLT]) rfl rfl ?_; simp only [go_sem, jE, reduceIte, jA, jM, jS, jL, jD, jB, n1, n2, n3, neg1]) | (refine qp (k3) (by simp only [go_sem, jE, reduceIte, jA, jM, jS, jL, jD, jB, n1, n2, n3, neg1]; first | done | rfl) rfl (by simp only [go_sem, Nat.reduceLT]) rfl rfl ?_; simp only [go_sem, jE, reduceIte, jA, jM, jS, jL, jD, jB, n1, n2, n3, neg1]) | (refine qp (k4) (by simp only [go_sem, jE, reduceIte, jA, jM, jS, jL, jD, jB, n1, n2, n3, neg1]; first | done | rfl) rfl (by simp only [go_sem, Nat.reduceLT]) rfl rfl ?_; simp only [go_sem, jE, reduceIte, jA, jM, jS, jL, jD, jB, n1, n2, n3, neg1]))
    exact Aw_ret (ret0 (.inl rfl) (by simp only [go_sem, jE, reduceIte, jA, jM, jS, jL, jD, jB]; rfl) (by rfl) rfl)
def tkD {α : Type} (f : α → List D) (z : List D) (xs : List α) (i : Nat) : List (List D) := (xs.take i).map f ++ List.replicate (xs.length - i) z
theorem tkD_0 {α : Type} (f : α → List D) (z : List D) (xs : List α) : List.replicate xs.length (z.map CV.d) = (tkD f z xs 0).map (·.map .d) := by simp [tkD]
theorem tkD_end {α : Type} (f : α → List D) (z : List D) (xs : List α) : tkD f z xs xs.length = xs.map f := by simp [tkD]
theorem tkD_len {α : Type} (f : α → List D) (z : List D) (xs : List α) {i : Nat} (h : i ≤ xs.length) : ((tkD f z xs i).map (·.map CV.d)).length = xs.length := by simp [tkD]; omega
theorem tkD_ln {α : Type} (f : α → List D) (z : List D) (xs : List α) {i : Nat} (h : i ≤ xs.length) : (tkD f z xs i).length = xs.length := by simp [tkD]; omega
theorem tkD_get {α : Type} (f : α → List D) (z : List D) {xs : List α} {i : Nat} (h : i < xs.length) : ((tkD f z xs i).map (·.map CV.d))[i]? = some (z.map .d) := by
  unfold tkD
  rw [List.getElem?_map, List.getElem?_append_right (by simp; omega), List.getElem?_replicate, if_pos (by simp; omega)]
  rfl
theorem tkD_set {α : Type} (f : α → List D) (z : List D) {xs : List α} {i : Nat} {x : α} (h : xs[i]? = some x) : ((tkD f z xs i).map (·.map CV.d)).set i ((f x).map .d) = (tkD f z xs (i + 1)).map (·.map .d) := by
  have hi : i < xs.length := (List.getElem?_eq_some_iff.1 h).1
  unfold tkD
  rw [List.take_add_one, h, show xs.length - i = (xs.length - (i + 1)) + 1 by omega, List.replicate_succ]
  simp only [List.map_append, List.map_cons, Option.toList_some, List.map_nil, List.append_assoc]
  rw [List.set_append_right _ _ (by simp; omega)]
  simp [Nat.min_eq_left (Nat.le_of_lt hi)]
theorem toEntry_ac (e : Ent) : AC Tryz.prog 78 [entT e] noHp 0 ⟨.t (entT e), noHp, 0⟩ := by
  refine AC_of Tryz.func78 rfl Tryz.ntmps78 Tryz.results78 (by kernel_rfl) rfl ?_
  simp only [List.zipIdx, List.map, Nat.zero_add, Nat.reduceAdd]
  repeat (first | apply Aw_seq | apply Aw_block | apply Aw_skip | apply Aw_exit | refine Aw_condt rfl ?_ | refine Aw_condf rfl ?_ | ((first | refine qr ?_ | refine qd (by kernel_rfl) (by kernel_rfl) ?_); simp only [go_sem, jE, reduceIte, jA, jM, jS, jL, jD, jB]) | refine dk (by kernel_rfl) ?_)
  exact Aw_ret (ret0 (.inl rfl) (by simp only [go_sem, jE, reduceIte, jA, jM, jS, jL, jD, jB]; rfl) (by rfl) rfl)
theorem toEntrySR_ac (r : List Ent) (hl : r.length ≤ 1048576) : AC Tryz.prog 31 [runT r] noHp 0 ⟨.t (.c (.h 0)), hpL [some (dRow 56 4 (r.map entD))], 1⟩ := by
  refine AC_of Tryz.func31 rfl Tryz.ntmps31 Tryz.results31 (by kernel_rfl) rfl ?_
  simp only [List.zipIdx, List.map, Nat.zero_add, Nat.reduceAdd]
  have t0 : ((r.length : Nat) : Int).toNat = r.length := rfl
  have t1 : (0 : Int) ≤ ((r.length : Nat) : Int) := by omega
  have t2 : ((r.length : Nat) : Int) ≤ 140737488355328 := by omega
  have t3 : decide (r.length * 40 ≤ 140737488355328) = true := decide_eq_true (by omega)
  have t4 := of_decide_eq_true t3
  have t5 := tkD_0 entD [.s (.string zs), .s (.int .i64 0), .s (.bool false), .s (.int .i64 0)] r
  simp only [List.map] at t5
  repeat (first | apply Aw_seq | apply Aw_block | apply Aw_skip | apply Aw_exit | refine Aw_condt rfl ?_ | refine Aw_condf rfl ?_ | ((first | refine qr ?_ | refine qd (by kernel_rfl) (by kernel_rfl) ?_); simp only [go_sem, jE, reduceIte, jA, jM, jS, jL, jD, jB, t0, t1, t2, t4]) | refine dk (by kernel_rfl) ?_)
  refine Aw.rw (rwL (l' := [(4, .t (iT (0 : Nat))), (3, .t (.c (.h 0))), (0, .t (runT r))]) (os := [some (dRow 56 4 (tkD entD [.s (.string zs), .s (.int .i64 0), .s (.bool false), .s (.int .i64 0)] r 0))]) (M := [3]) (n' := 1) (by repeat (first | exact trivial | refine ⟨rfl, rfl, ?_⟩)) (by rfl) (by simp only [go_sem, jE, reduceIte, jA, jM, jS, jL, jD, jB, t5]; first | done | rfl) (by decide) (by unfold idM; decide)) ?_
  refine Aw_loop_rw (ι := { j : Nat // j ≤ r.length }) (fun j => S [(4, .t (iT (j.1 : Nat))), (3, .t (.c (.h 0))), (0, .t (runT r))] (hpL [some (dRow 56 4 (tkD entD [.s (.string zs), .s (.int .i64 0), .s (.bool false), .s (.int .i64 0)] r j.1))]) 1) (fun j => r.length - j.1) ⟨0, Nat.zero_le _⟩ ?_
  rintro ⟨i, hi⟩
  dsimp only
  by_cases hlt : i < r.length
  · have h1 : (i : Int) < (r.length : Int) := by omega
    have h2 := wrap_succ hlt (by omega)
    obtain ⟨e, hx⟩ : ∃ e, r[i]? = some e := ⟨_, List.getElem?_eq_getElem hlt⟩
    have g1 := tkD_ln entD [.s (.string zs), .s (.int .i64 0), .s (.bool false), .s (.int .i64 0)] r hi
    have g2 := tkD_get entD [.s (.string zs), .s (.int .i64 0), .s (.bool false), .s (.int .i64 0)] hlt
    have g3 := tkD_set entD [.s (.string zs), .s (.int .i64 0), .s (.bool false), .s (.int .i64 0)] hx
    simp only [List.map] at g2
    rw [show ((entD e).map CV.d) = [.d (.s (.string e.key)), .d (.s (.int .i64 e.val)), .d (.s (.bool e.gone)), .d (.s (.int .i64 e.time))] from rfl] at g3
    repeat (first | apply Aw_seq | apply Aw_block | apply Aw_skip | apply Aw_exit | refine Aw_condt rfl ?_ | refine Aw_condf rfl ?_ | ((first | refine qr ?_ | refine qd (by kernel_rfl) (by kernel_rfl) ?_); simp only [go_sem, jE, reduceIte, jA, jM, jS, jL, jD, jB, h1, h2, hx, hlt, g1, g2, t0]) | refine dk (by kernel_rfl) ?_ | (refine qp (toEntry_ac e) (by simp only [go_sem, jE, reduceIte, jA, jM, jS, jL, jD, jB, h1, h2, hx, hlt, g1, g2, t0]; first | done | rfl) rfl (by simp only [go_sem, Nat.reduceLT]) rfl rfl ?_; simp only [go_sem, jE, reduceIte, jA, jM, jS, jL, jD, jB, h1, h2, hx, hlt, g1, g2, t0]))
    refine ⟨⟨i + 1, hlt⟩, [0], ?_, rwL (by repeat (first | exact trivial | refine ⟨rfl, rfl, ?_⟩)) (by rfl) (by simp only [go_sem, jE, reduceIte, jA, jM, jS, jL, jD, jB, g3]; first | done | rfl) (by decide) (by unfold idM; decide)⟩
    show r.length - (i + 1) < r.length - i; omega
  · have h1 : ¬ (i : Int) < (r.length : Int) := by omega
    obtain rfl : i = r.length := by omega
    repeat (first | apply Aw_seq | apply Aw_block | apply Aw_skip | apply Aw_exit | refine Aw_condt rfl ?_ | refine Aw_condf rfl ?_ | ((first | refine qr ?_ | refine qd (by kernel_rfl) (by kernel_rfl) ?_); simp only [go_sem, jE, reduceIte, jA, jM, jS, jL, jD, jB, h1]) | refine dk (by kernel_rfl) ?_)
    exact Aw_ret (retL (M := [0]) (.inl rfl) (by simp only [go_sem, jE, reduceIte, jA, jM, jS, jL, jD, jB]; first | done | rfl) rfl rfl (by rfl) (by simp only [go_sem, jE, reduceIte, jA, jM, jS, jL, jD, jB, tkD_end]; first | done | rfl | (and_intros <;> rfl)) (by decide) (by unfold idM; decide))
theorem toEntryS_ac (r : List Ent) (hl : r.length ≤ 1048576) : AC Tryz.prog 31 [runT r] noHp 0 ⟨.t (runT r), noHp, 0⟩ := AC.settle0 [0] (toEntrySR_ac r hl) (SetC.row0 rfl rfl) rfl
theorem toEntrySSR_ac (r : List (List Ent)) (hl : r.length ≤ 1048576) (he : ∀ e ∈ r, e.length ≤ 1048576) : AC Tryz.prog 32 [lvsT r] noHp 0 ⟨.t (.c (.h 0)), hpL [some (dRow 29 1 (r.map lvD))], 1⟩ := by
  refine AC_of Tryz.func32 rfl Tryz.ntmps32 Tryz.results32 (by kernel_rfl) rfl ?_
  simp only [List.zipIdx, List.map, Nat.zero_add, Nat.reduceAdd]
  have t0 : ((r.length : Nat) : Int).toNat = r.length := rfl
  have t1 : (0 : Int) ≤ ((r.length : Nat) : Int) := by omega
  have t2 : ((r.length : Nat) : Int) ≤ 140737488355328 := by omega
  have t3 : decide (r.length * 24 ≤ 140737488355328) = true := decide_eq_true (by omega)
  have t4 := of_decide_eq_true t3
  have t5 := tkD_0 lvD [.s (.slice none 0 0)] r
  simp only [List.map] at t5
  repeat (first | apply Aw_seq | apply Aw_block | apply Aw_skip | apply Aw_exit | refine Aw_condt rfl ?_ | refine Aw_condf rfl ?_ | ((first | refine qr ?_ | refine qd (by kernel_rfl) (by kernel_rfl) ?_); simp only [go_sem, jE, reduceIte, jA, jM, jS, jL, jD, jB, t0, t1, t2, t4]) | refine dk (by kernel_rfl) ?_)
  refine Aw.rw (rwL (l' := [(4, .t (iT (0 : Nat))), (3, .t (.c (.h 0))), (0, .t (lvsT r))]) (os := [some (dRow 29 1 (tkD lvD [.s (.slice none 0 0)] r 0))]) (M := [3]) (n' := 1) (by repeat (first | exact trivial | refine ⟨rfl, rfl, ?_⟩)) (by rfl) (by simp only [go_sem, jE, reduceIte, jA, jM, jS, jL, jD, jB, t5]; first | done | rfl) (by decide) (by unfold idM; decide)) ?_
  refine Aw_loop_rw (ι := { j : Nat // j ≤ r.length }) (fun j => S [(4, .t (iT (j.1 : Nat))), (3, .t (.c (.h 0))), (0, .t (lvsT r))] (hpL [some (dRow 29 1 (tkD lvD [.s (.slice none 0 0)] r j.1))]) 1) (fun j => r.length - j.1) ⟨0, Nat.zero_le _⟩ ?_
  rintro ⟨i, hi⟩
  dsimp only
  by_cases hlt : i < r.length
  · have h1 : (i : Int) < (r.length : Int) := by omega
    have h2 := wrap_succ hlt (by omega)
    obtain ⟨e, hx⟩ : ∃ e, r[i]? = some e := ⟨_, List.getElem?_eq_getElem hlt⟩
    have g1 := tkD_ln lvD [.s (.slice none 0 0)] r hi
    have g2 := tkD_get lvD [.s (.slice none 0 0)] hlt
    have g3 := tkD_set lvD [.s (.slice none 0 0)] hx
    simp only [List.map] at g2
    rw [show ((lvD e).map CV.d) = [.d (.rs 4 (e.map entD))] from rfl] at g3
    repeat (first | apply Aw_seq | apply Aw_block | apply Aw_skip | apply Aw_exit | refine Aw_condt rfl ?_ | refine Aw_condf rfl ?_ | ((first | refine qr ?_ | refine qd (by kernel_rfl) (by kernel_rfl) ?_); simp only [go_sem, jE, reduceIte, jA, jM, jS, jL, jD, jB, h1, h2, hx, hlt, g1, g2, t0]) | refine dk (by kernel_rfl) ?_ | (refine qp (toEntryS_ac e (he e (List.mem_of_getElem? hx))) (by simp only [go_sem, jE, reduceIte, jA, jM, jS, jL, jD, jB, h1, h2, hx, hlt, g1, g2, t0]; first | done | rfl) rfl (by simp only [go_sem, Nat.reduceLT]) rfl rfl ?_; simp only [go_sem, jE, reduceIte, jA, jM, jS, jL, jD, jB, h1, h2, hx, hlt, g1, g2, t0]))
    refine ⟨⟨i + 1, hlt⟩, [0], ?_, rwL (by repeat (first | exact trivial | refine ⟨rfl, rfl, ?_⟩)) (by rfl) (by simp only [go_sem, jE, reduceIte, jA, jM, jS, jL, jD, jB, g3]; first | done | rfl) (by decide) (by unfold idM; decide)⟩
    show r.length - (i + 1) < r.length - i; omega
  · have h1 : ¬ (i : Int) < (r.length : Int) := by omega
    obtain rfl : i = r.length := by omega
    repeat (first | apply Aw_seq | apply Aw_block | apply Aw_skip | apply Aw_exit | refine Aw_condt rfl ?_ | refine Aw_condf rfl ?_ | ((first | refine qr ?_ | refine qd (by kernel_rfl) (by kernel_rfl) ?_); simp only [go_sem, jE, reduceIte, jA, jM, jS, jL, jD, jB, h1]) | refine dk (by kernel_rfl) ?_)
    exact Aw_ret (retL (M := [0]) (.inl rfl) (by simp only [go_sem, jE, reduceIte, jA, jM, jS, jL, jD, jB]; first | done | rfl) rfl rfl (by rfl) (by simp only [go_sem, jE, reduceIte, jA, jM, jS, jL, jD, jB, tkD_end]; first | done | rfl | (and_intros <;> rfl)) (by decide) (by unfold idM; decide))
theorem toEntrySS_ac (r : List (List Ent)) (hl : r.length ≤ 1048576) (he : ∀ e ∈ r, e.length ≤ 1048576) : AC Tryz.prog 32 [lvsT r] noHp 0 ⟨.t (lvsT r), noHp, 0⟩ := AC.settle0 [0] (toEntrySSR_ac r hl he) (SetC.row0 rfl rfl) rfl
theorem toStringSR_ac (r : List ByteArray) (hl : r.length ≤ 1048576) : AC Tryz.prog 119 [strsT r] noHp 0 ⟨.t (.c (.h 0)), hpL [some (dRow 9 1 (r.map strD))], 1⟩ := by
  refine AC_of Tryz.func119 rfl Tryz.ntmps119 Tryz.results119 (by kernel_rfl) rfl ?_
  simp only [List.zipIdx, List.map, Nat.zero_add, Nat.reduceAdd]
  have t0 : ((r.length : Nat) : Int).toNat = r.length := rfl
  have t1 : (0 : Int) ≤ ((r.length : Nat) : Int) := by omega
  have t2 : ((r.length : Nat) : Int) ≤ 140737488355328 := by omega
  have t3 : decide (r.length * 16 ≤ 140737488355328) = true := decide_eq_true (by omega)
  have t4 := of_decide_eq_true t3
  have t5 := tkD_0 strD [.s (.string zs)] r
  simp only [List.map] at t5
  repeat (first | apply Aw_seq | apply Aw_block | apply Aw_skip | apply Aw_exit | refine Aw_condt rfl ?_ | refine Aw_condf rfl ?_ | ((first | refine qr ?_ | refine qd (by kernel_rfl) (by kernel_rfl) ?_); simp only [go_sem, jE, reduceIte, jA, jM, jS, jL, jD, jB, t0, t1, t2, t4]) | refine dk (by kernel_rfl) ?_)
  refine Aw.rw (rwL (l' := [(4, .t (iT (0 : Nat))), (3, .t (.c (.h 0))), (0, .t (strsT r))]) (os := [some (dRow 9 1 (tkD strD [.s (.string zs)] r 0))]) (M := [3]) (n' := 1) (by repeat (first | exact trivial | refine ⟨rfl, rfl, ?_⟩)) (by rfl) (by simp only [go_sem, jE, reduceIte, jA, jM, jS, jL, jD, jB, t5]; first | done | rfl) (by decide) (by unfold idM; decide)) ?_
  refine Aw_loop_rw (ι := { j : Nat // j ≤ r.length }) (fun j => S [(4, .t (iT (j.1 : Nat))), (3, .t (.c (.h 0))), (0, .t (strsT r))] (hpL [some (dRow 9 1 (tkD strD [.s (.string zs)] r j.1))]) 1) (fun j => r.length - j.1) ⟨0, Nat.zero_le _⟩ ?_
  rintro ⟨i, hi⟩
  dsimp only
  by_cases hlt : i < r.length
  · have h1 : (i : Int) < (r.length : Int) := by omega
    have h2 := wrap_succ hlt (by omega)
    obtain ⟨e, hx⟩ : ∃ e, r[i]? = some e := ⟨_, List.getElem?_eq_getElem hlt⟩
    have g1 := tkD_ln strD [.s (.string zs)] r hi
    have g2 := tkD_get strD [.s (.string zs)] hlt
    have g3 := tkD_set strD [.s (.string zs)] hx
    simp only [List.map] at g2
    rw [show ((strD e).map CV.d) = [.d (.s (.string e))] from rfl] at g3
    repeat (first | apply Aw_seq | apply Aw_block | apply Aw_skip | apply Aw_exit | refine Aw_condt rfl ?_ | refine Aw_condf rfl ?_ | ((first | refine qr ?_ | refine qd (by kernel_rfl) (by kernel_rfl) ?_); simp only [go_sem, jE, reduceIte, jA, jM, jS, jL, jD, jB, h1, h2, hx, hlt, g1, g2, t0]) | refine dk (by kernel_rfl) ?_)
    refine ⟨⟨i + 1, hlt⟩, [0], ?_, rwL (by repeat (first | exact trivial | refine ⟨rfl, rfl, ?_⟩)) (by rfl) (by simp only [go_sem, jE, reduceIte, jA, jM, jS, jL, jD, jB, g3]; first | done | rfl) (by decide) (by unfold idM; decide)⟩
    show r.length - (i + 1) < r.length - i; omega
  · have h1 : ¬ (i : Int) < (r.length : Int) := by omega
    obtain rfl : i = r.length := by omega
    repeat (first | apply Aw_seq | apply Aw_block | apply Aw_skip | apply Aw_exit | refine Aw_condt rfl ?_ | refine Aw_condf rfl ?_ | ((first | refine qr ?_ | refine qd (by kernel_rfl) (by kernel_rfl) ?_); simp only [go_sem, jE, reduceIte, jA, jM, jS, jL, jD, jB, h1]) | refine dk (by kernel_rfl) ?_)
    exact Aw_ret (retL (M := [0]) (.inl rfl) (by simp only [go_sem, jE, reduceIte, jA, jM, jS, jL, jD, jB]; first | done | rfl) rfl rfl (by rfl) (by simp only [go_sem, jE, reduceIte, jA, jM, jS, jL, jD, jB, tkD_end]; first | done | rfl | (and_intros <;> rfl)) (by decide) (by unfold idM; decide))
theorem toStringS_ac (r : List ByteArray) (hl : r.length ≤ 1048576) : AC Tryz.prog 119 [strsT r] noHp 0 ⟨.t (strsT r), noHp, 0⟩ := AC.settle0 [0] (toStringSR_ac r hl) (SetC.row0 rfl rfl) rfl
theorem toSieve_ac (s : Sve) (hl : s.rests.length ≤ 1048576) : AC Tryz.prog 79 [sveP s] noHp 0 ⟨.t (sveP s), noHp, 0⟩ := by
  refine AC_of Tryz.func79 rfl Tryz.ntmps79 Tryz.results79 (by kernel_rfl) rfl ?_
  simp only [List.zipIdx, List.map, Nat.zero_add, Nat.reduceAdd]
  repeat (first | apply Aw_seq | apply Aw_block | apply Aw_skip | apply Aw_exit | refine Aw_condt rfl ?_ | refine Aw_condf rfl ?_ | ((first | refine qr ?_ | refine qd (by kernel_rfl) (by kernel_rfl) ?_); simp only [go_sem, jE, reduceIte, jA, jM, jS, jL, jD, jB]) | refine dk (by kernel_rfl) ?_ | (refine qp (toStringS_ac s.rests hl) (by simp only [go_sem, jE, reduceIte, jA, jM, jS, jL, jD, jB]; first | done | rfl) rfl (by simp only [go_sem, Nat.reduceLT]) rfl rfl ?_; simp only [go_sem, jE, reduceIte, jA, jM, jS, jL, jD, jB]))
  exact Aw_ret (ret0 (.inl rfl) (by simp only [go_sem, jE, reduceIte, jA, jM, jS, jL, jD, jB]; rfl) (by rfl) rfl)
theorem toSieveSR_ac (r : List Sve) (hl : r.length ≤ 1048576) (he : ∀ e ∈ r, e.rests.length ≤ 1048576) : AC Tryz.prog 33 [svsT r] noHp 0 ⟨.t (.c (.h 0)), hpL [some (dRow 82 5 (r.map sveD))], 1⟩ := by
  refine AC_of Tryz.func33 rfl Tryz.ntmps33 Tryz.results33 (by kernel_rfl) rfl ?_
  simp only [List.zipIdx, List.map, Nat.zero_add, Nat.reduceAdd]
  have t0 : ((r.length : Nat) : Int).toNat = r.length := rfl
  have t1 : (0 : Int) ≤ ((r.length : Nat) : Int) := by omega
  have t2 : ((r.length : Nat) : Int) ≤ 140737488355328 := by omega
  have t3 : decide (r.length * 80 ≤ 140737488355328) = true := decide_eq_true (by omega)
  have t4 := of_decide_eq_true t3
  have t5 := tkD_0 sveD [.s (.string zs), .s (.string zs), .s (.string zs), .s (.slice none 0 0), .s (.int .i64 0)] r
  simp only [List.map] at t5
  repeat (first | apply Aw_seq | apply Aw_block | apply Aw_skip | apply Aw_exit | refine Aw_condt rfl ?_ | refine Aw_condf rfl ?_ | ((first | refine qr ?_ | refine qd (by kernel_rfl) (by kernel_rfl) ?_); simp only [go_sem, jE, reduceIte, jA, jM, jS, jL, jD, jB, t0, t1, t2, t4]) | refine dk (by kernel_rfl) ?_)
  refine Aw.rw (rwL (l' := [(4, .t (iT (0 : Nat))), (3, .t (.c (.h 0))), (0, .t (svsT r))]) (os := [some (dRow 82 5 (tkD sveD [.s (.string zs), .s (.string zs), .s (.string zs), .s (.slice none 0 0), .s (.int .i64 0)] r 0))]) (M := [3]) (n' := 1) (by repeat (first | exact trivial | refine ⟨rfl, rfl, ?_⟩)) (by rfl) (by simp only [go_sem, jE, reduceIte, jA, jM, jS, jL, jD, jB, t5]; first | done | rfl) (by decide) (by unfold idM; decide)) ?_
  refine Aw_loop_rw (ι := { j : Nat // j ≤ r.length }) (fun j => S [(4, .t (iT (j.1 : Nat))), (3, .t (.c (.h 0))), (0, .t (svsT r))] (hpL [some (dRow 82 5 (tkD sveD [.s (.string zs), .s (.string zs), .s (.string zs), .s (.slice none 0 0), .s (.int .i64 0)] r j.1))]) 1) (fun j => r.length - j.1) ⟨0, Nat.zero_le _⟩ ?_
  rintro ⟨i, hi⟩
  dsimp only
  by_cases hlt : i < r.length
  · have h1 : (i : Int) < (r.length : Int) := by omega
    have h2 := wrap_succ hlt (by omega)
    obtain ⟨e, hx⟩ : ∃ e, r[i]? = some e := ⟨_, List.getElem?_eq_getElem hlt⟩
    have g1 := tkD_ln sveD [.s (.string zs), .s (.string zs), .s (.string zs), .s (.slice none 0 0), .s (.int .i64 0)] r hi
    have g2 := tkD_get sveD [.s (.string zs), .s (.string zs), .s (.string zs), .s (.slice none 0 0), .s (.int .i64 0)] hlt
    have g3 := tkD_set sveD [.s (.string zs), .s (.string zs), .s (.string zs), .s (.slice none 0 0), .s (.int .i64 0)] hx
    simp only [List.map] at g2
    rw [show ((sveD e).map CV.d) = [.d (.s (.string e.letters)), .d (.s (.string e.more)), .d (.s (.string e.first)), .d (.rs 1 (e.rests.map strD)), .d (.s (.int .i64 e.keep))] from rfl] at g3
    repeat (first | apply Aw_seq | apply Aw_block | apply Aw_skip | apply Aw_exit | refine Aw_condt rfl ?_ | refine Aw_condf rfl ?_ | ((first | refine qr ?_ | refine qd (by kernel_rfl) (by kernel_rfl) ?_); simp only [go_sem, jE, reduceIte, jA, jM, jS, jL, jD, jB, h1, h2, hx, hlt, g1, g2, t0]) | refine dk (by kernel_rfl) ?_ | (refine qp (toSieve_ac e (he e (List.mem_of_getElem? hx))) (by simp only [go_sem, jE, reduceIte, jA, jM, jS, jL, jD, jB, h1, h2, hx, hlt, g1, g2, t0]; first | done | rfl) rfl (by simp only [go_sem, Nat.reduceLT]) rfl rfl ?_; simp only [go_sem, jE, reduceIte, jA, jM, jS, jL, jD, jB, h1, h2, hx, hlt, g1, g2, t0]))
    refine ⟨⟨i + 1, hlt⟩, [0], ?_, rwL (by repeat (first | exact trivial | refine ⟨rfl, rfl, ?_⟩)) (by rfl) (by simp only [go_sem, jE, reduceIte, jA, jM, jS, jL, jD, jB, g3]; first | done | rfl) (by decide) (by unfold idM; decide)⟩
    show r.length - (i + 1) < r.length - i; omega
  · have h1 : ¬ (i : Int) < (r.length : Int) := by omega
    obtain rfl : i = r.length := by omega
    repeat (first | apply Aw_seq | apply Aw_block | apply Aw_skip | apply Aw_exit | refine Aw_condt rfl ?_ | refine Aw_condf rfl ?_ | ((first | refine qr ?_ | refine qd (by kernel_rfl) (by kernel_rfl) ?_); simp only [go_sem, jE, reduceIte, jA, jM, jS, jL, jD, jB, h1]) | refine dk (by kernel_rfl) ?_)
    exact Aw_ret (retL (M := [0]) (.inl rfl) (by simp only [go_sem, jE, reduceIte, jA, jM, jS, jL, jD, jB]; first | done | rfl) rfl rfl (by rfl) (by simp only [go_sem, jE, reduceIte, jA, jM, jS, jL, jD, jB, tkD_end]; first | done | rfl | (and_intros <;> rfl)) (by decide) (by unfold idM; decide))
theorem toSieveS_ac (r : List Sve) (hl : r.length ≤ 1048576) (he : ∀ e ∈ r, e.rests.length ≤ 1048576) : AC Tryz.prog 33 [svsT r] noHp 0 ⟨.t (svsT r), noHp, 0⟩ := AC.settle0 [0] (toSieveSR_ac r hl he) (SetC.row0 rfl rfl) rfl
theorem toIntSR_ac (r : List Int) (hl : r.length ≤ 1048576) : AC Tryz.prog 34 [intsT r] noHp 0 ⟨.t (.c (.h 0)), hpL [some (dRow 3 1 (r.map intD))], 1⟩ := by
  refine AC_of Tryz.func34 rfl Tryz.ntmps34 Tryz.results34 (by kernel_rfl) rfl ?_
  simp only [List.zipIdx, List.map, Nat.zero_add, Nat.reduceAdd]
  have t0 : ((r.length : Nat) : Int).toNat = r.length := rfl
  have t1 : (0 : Int) ≤ ((r.length : Nat) : Int) := by omega
  have t2 : ((r.length : Nat) : Int) ≤ 140737488355328 := by omega
  have t3 : decide (r.length * 8 ≤ 140737488355328) = true := decide_eq_true (by omega)
  have t4 := of_decide_eq_true t3
  have t5 := tkD_0 intD [.s (.int .i64 0)] r
  simp only [List.map] at t5
  repeat (first | apply Aw_seq | apply Aw_block | apply Aw_skip | apply Aw_exit | refine Aw_condt rfl ?_ | refine Aw_condf rfl ?_ | ((first | refine qr ?_ | refine qd (by kernel_rfl) (by kernel_rfl) ?_); simp only [go_sem, jE, reduceIte, jA, jM, jS, jL, jD, jB, t0, t1, t2, t4]) | refine dk (by kernel_rfl) ?_)
  refine Aw.rw (rwL (l' := [(4, .t (iT (0 : Nat))), (3, .t (.c (.h 0))), (0, .t (intsT r))]) (os := [some (dRow 3 1 (tkD intD [.s (.int .i64 0)] r 0))]) (M := [3]) (n' := 1) (by repeat (first | exact trivial | refine ⟨rfl, rfl, ?_⟩)) (by rfl) (by simp only [go_sem, jE, reduceIte, jA, jM, jS, jL, jD, jB, t5]; first | done | rfl) (by decide) (by unfold idM; decide)) ?_
  refine Aw_loop_rw (ι := { j : Nat // j ≤ r.length }) (fun j => S [(4, .t (iT (j.1 : Nat))), (3, .t (.c (.h 0))), (0, .t (intsT r))] (hpL [some (dRow 3 1 (tkD intD [.s (.int .i64 0)] r j.1))]) 1) (fun j => r.length - j.1) ⟨0, Nat.zero_le _⟩ ?_
  rintro ⟨i, hi⟩
  dsimp only
  by_cases hlt : i < r.length
  · have h1 : (i : Int) < (r.length : Int) := by omega
    have h2 := wrap_succ hlt (by omega)
    obtain ⟨e, hx⟩ : ∃ e, r[i]? = some e := ⟨_, List.getElem?_eq_getElem hlt⟩
    have g1 := tkD_ln intD [.s (.int .i64 0)] r hi
    have g2 := tkD_get intD [.s (.int .i64 0)] hlt
    have g3 := tkD_set intD [.s (.int .i64 0)] hx
    simp only [List.map] at g2
    rw [show ((intD e).map CV.d) = [.d (.s (.int .i64 e))] from rfl] at g3
    repeat (first | apply Aw_seq | apply Aw_block | apply Aw_skip | apply Aw_exit | refine Aw_condt rfl ?_ | refine Aw_condf rfl ?_ | ((first | refine qr ?_ | refine qd (by kernel_rfl) (by kernel_rfl) ?_); simp only [go_sem, jE, reduceIte, jA, jM, jS, jL, jD, jB, h1, h2, hx, hlt, g1, g2, t0]) | refine dk (by kernel_rfl) ?_)
    refine ⟨⟨i + 1, hlt⟩, [0], ?_, rwL (by repeat (first | exact trivial | refine ⟨rfl, rfl, ?_⟩)) (by rfl) (by simp only [go_sem, jE, reduceIte, jA, jM, jS, jL, jD, jB, g3]; first | done | rfl) (by decide) (by unfold idM; decide)⟩
    show r.length - (i + 1) < r.length - i; omega
  · have h1 : ¬ (i : Int) < (r.length : Int) := by omega
    obtain rfl : i = r.length := by omega
    repeat (first | apply Aw_seq | apply Aw_block | apply Aw_skip | apply Aw_exit | refine Aw_condt rfl ?_ | refine Aw_condf rfl ?_ | ((first | refine qr ?_ | refine qd (by kernel_rfl) (by kernel_rfl) ?_); simp only [go_sem, jE, reduceIte, jA, jM, jS, jL, jD, jB, h1]) | refine dk (by kernel_rfl) ?_)
    exact Aw_ret (retL (M := [0]) (.inl rfl) (by simp only [go_sem, jE, reduceIte, jA, jM, jS, jL, jD, jB]; first | done | rfl) rfl rfl (by rfl) (by simp only [go_sem, jE, reduceIte, jA, jM, jS, jL, jD, jB, tkD_end]; first | done | rfl | (and_intros <;> rfl)) (by decide) (by unfold idM; decide))
theorem toIntS_ac (r : List Int) (hl : r.length ≤ 1048576) : AC Tryz.prog 34 [intsT r] noHp 0 ⟨.t (intsT r), noHp, 0⟩ := AC.settle0 [0] (toIntSR_ac r hl) (SetC.row0 rfl rfl) rfl
structure midT (s : Sto) : Prop where
  top : s.top.length ≤ 1048576
  ll : s.levels.length ≤ 1048576
  levels : ∀ e ∈ s.levels, e.length ≤ 1048576
  sl : s.sieves.length ≤ 1048576
  sieves : ∀ e ∈ s.sieves, e.rests.length ≤ 1048576
  times : s.times.length ≤ 1048576
theorem toStore_ac (s : Sto) (h : midT s) : AC Tryz.prog 10 [stT s] noHp 0 ⟨.t (stT s), noHp, 0⟩ := by
  refine AC_of Tryz.func10 rfl Tryz.ntmps10 Tryz.results10 (by kernel_rfl) rfl ?_
  simp only [List.zipIdx, List.map, Nat.zero_add, Nat.reduceAdd]
  repeat (first | apply Aw_seq | apply Aw_block | apply Aw_skip | apply Aw_exit | refine Aw_condt rfl ?_ | refine Aw_condf rfl ?_ | ((first | refine qr ?_ | refine qd (by kernel_rfl) (by kernel_rfl) ?_); simp only [go_sem, jE, reduceIte, jA, jM, jS, jL, jD, jB]) | refine dk (by kernel_rfl) ?_ | (refine qp (toEntryS_ac s.top h.top) (by simp only [go_sem, jE, reduceIte, jA, jM, jS, jL, jD, jB]; first | done | rfl) rfl (by simp only [go_sem, Nat.reduceLT]) rfl rfl ?_; simp only [go_sem, jE, reduceIte, jA, jM, jS, jL, jD, jB]) | (refine qp (toEntrySS_ac s.levels h.ll h.levels) (by simp only [go_sem, jE, reduceIte, jA, jM, jS, jL, jD, jB]; first | done | rfl) rfl (by simp only [go_sem, Nat.reduceLT]) rfl rfl ?_; simp only [go_sem, jE, reduceIte, jA, jM, jS, jL, jD, jB]) | (refine qp (toSieveS_ac s.sieves h.sl h.sieves) (by simp only [go_sem, jE, reduceIte, jA, jM, jS, jL, jD, jB]; first | done | rfl) rfl (by simp only [go_sem, Nat.reduceLT]) rfl rfl ?_; simp only [go_sem, jE, reduceIte, jA, jM, jS, jL, jD, jB]) | (refine qp (toIntS_ac s.times h.times) (by simp only [go_sem, jE, reduceIte, jA, jM, jS, jL, jD, jB]; first | done | rfl) rfl (by simp only [go_sem, Nat.reduceLT]) rfl rfl ?_; simp only [go_sem, jE, reduceIte, jA, jM, jS, jL, jD, jB]))
  exact Aw_ret (ret0 (.inl rfl) (by simp only [go_sem, jE, reduceIte, jA, jM, jS, jL, jD, jB]; rfl) (by rfl) rfl)
end Go.Proofs.YtimkdclalajadaaGreat.Ab
