/-
  Contracts: the order of entries as a number, two stretches of a run that change places. No condition.
  Contract: two stretches of a run, side by side, that change places. No condition.
  Contract: a stretch of a run that is sorted by insertion. No condition.
  Contract: one entry ahead of a sorted stretch is merged into it. No condition.
  Contract: one entry behind a sorted stretch is merged into it. No condition.
  Contract: two sorted stretches of a run, side by side, become one. No condition.
  Contract: two sorted stretches of a run, side by side, become one. No condition.
  Plain law: blocks that are sorted, and joined two by two. No condition.
  Contracts: the stable sort of entries. No condition.
  Contract: two runs that are joined, the program's. No condition.
  Contracts: a run that is trimmed, the reference's. No condition.
  Contracts: a store anew, a level that is set, the reference's. No condition.
  Contract: a store anew, the reference's. No condition.
  Contracts: a run that is let into a level, the reference's. No condition.
  Contracts: the top that goes down, an entry that is added, the reference's. No condition.
  Contracts: an entry that is put, or a key that is taken away, the reference's. No condition.
  Plain law: the levels of a store that is one are runs, each newer than those below. No condition.
  Plain law: runs that are newer join to a run; what the program pushes down is what the reference lets down. No condition.
-/
import Derived.Test.YtjolcfkepcmjnaaGreatZc
namespace Go.Proofs.YtjolcfkepcmjnaaGreat.Ab
open Nat renaming reduceEqDiff → jE, reduceAdd → jA, reduceMul → jM, reduceSub → jS, reduceLT → jL, reduceLeDiff → jD, reduceBEq → jB
set_option linter.deprecated false
set_option linter.unusedVariables false
set_option linter.unusedSimpArgs false
open Go Go.Proofs
set_option maxRecDepth 10000
set_option maxHeartbeats 8000000
abbrev cmpV : TV := .c (.fn 146 [])
def cmpM (a b : Ent) : Int := if before a b = true then -1 else if before b a = true then 1 else 0
theorem cmp_ac (a b : Ent) : AC Tryz.prog 146 [entT a, entT b] noHp 0 ⟨.t (iT (cmpM a b)), noHp, 0⟩ := by
  refine AC_of Tryz.func146 rfl Tryz.ntmps146 Tryz.results146 (by kernel_rfl) rfl ?_
  simp only [List.zipIdx, List.map, Nat.zero_add, Nat.reduceAdd]
  have k1 := before_ac a b
  have k2 := before_ac b a
  unfold cmpM
  cases c1 : before a b
  · cases c2 : before b a
    · rw [c1] at k1; rw [c2] at k2
      repeat (first | apply Aw_seq | apply Aw_block | apply Aw_skip | apply Aw_exit | refine Aw_condt rfl ?_ | refine Aw_condf rfl ?_ | ((first | refine qr ?_ | refine qd (by kernel_rfl) (by kernel_rfl) ?_); simp only [go_sem, jE, reduceIte, jA, jM, jS, jL, jD, jB]) | refine dk (by kernel_rfl) ?_ | (refine qp (k1) (by simp only [go_sem, jE, reduceIte, jA, jM, jS, jL, jD, jB]; first | done | rfl) rfl (by simp only [go_sem, Nat.reduceLT]) rfl rfl ?_; simp only [go_sem, jE, reduceIte, jA, jM, jS, jL, jD, jB]) | (refine qp (k2) (by simp only [go_sem, jE, reduceIte, jA, jM, jS, jL, jD, jB]; first | done | rfl) rfl (by simp only [go_sem, Nat.reduceLT]) rfl rfl ?_; simp only [go_sem, jE, reduceIte, jA, jM, jS, jL, jD, jB]))
      exact Aw_ret (ret0 (.inl rfl) (by simp only [go_sem, jE, reduceIte, jA, jM, jS, jL, jD, jB]; rfl) (by rfl) rfl)
    · rw [c1] at k1; rw [c2] at k2
      repeat (first | apply Aw_seq | apply Aw_block | apply Aw_skip | apply Aw_exit | refine Aw_condt rfl ?_ | refine Aw_condf rfl ?_ | ((first | refine qr ?_ | refine qd (by kernel_rfl) (by kernel_rfl) ?_); simp only [go_sem, jE, reduceIte, jA, jM, jS, jL, jD, jB]) | refine dk (by kernel_rfl) ?_ | (refine qp (k1) (by simp only [go_sem, jE, reduceIte, jA, jM, jS, jL, jD, jB]; first | done | rfl) rfl (by simp only [go_sem, Nat.reduceLT]) rfl rfl ?_; simp only [go_sem, jE, reduceIte, jA, jM, jS, jL, jD, jB]) | (refine qp (k2) (by simp only [go_sem, jE, reduceIte, jA, jM, jS, jL, jD, jB]; first | done | rfl) rfl (by simp only [go_sem, Nat.reduceLT]) rfl rfl ?_; simp only [go_sem, jE, reduceIte, jA, jM, jS, jL, jD, jB]))
      exact Aw_ret (ret0 (.inl rfl) (by simp only [go_sem, jE, reduceIte, jA, jM, jS, jL, jD, jB]; rfl) (by rfl) rfl)
  · rw [c1] at k1
    repeat (first | apply Aw_seq | apply Aw_block | apply Aw_skip | apply Aw_exit | refine Aw_condt rfl ?_ | refine Aw_condf rfl ?_ | ((first | refine qr ?_ | refine qd (by kernel_rfl) (by kernel_rfl) ?_); simp only [go_sem, jE, reduceIte, jA, jM, jS, jL, jD, jB]) | refine dk (by kernel_rfl) ?_ | (refine qp (k1) (by simp only [go_sem, jE, reduceIte, jA, jM, jS, jL, jD, jB]; first | done | rfl) rfl (by simp only [go_sem, Nat.reduceLT]) rfl rfl ?_; simp only [go_sem, jE, reduceIte, jA, jM, jS, jL, jD, jB]))
    exact Aw_ret (ret0 (.inl rfl) (by simp only [go_sem, jE, reduceIte, jA, jM, jS, jL, jD, jB]; rfl) (by rfl) rfl)
theorem AC.toLV {P : Program} {f : FuncId} {args : List TV} {x : AV} (h : AC P f args noHp 0 ⟨x, noHp, 0⟩) : AC P f args (hpL []) 0 ⟨x, hpL [], 0⟩ := by rw [hpL_nil]; exact h
theorem cmpM_neg (a b : Ent) : decide (cmpM a b < 0) = before a b := by
  unfold cmpM
  cases before a b
  · cases before b a <;> rfl
  · rfl
theorem set_en (xs : List Ent) (n : Nat) (e : Ent) : (List.map (fun x => List.map CV.d x) (List.map entD xs)).set n [.d (.s (.string e.key)), .d (.s (.int .i64 e.val)), .d (.s (.bool e.gone)), .d (.s (.int .i64 e.time))] = List.map (fun x => List.map CV.d x) (List.map entD (xs.set n e)) := by
  rw [List.map_set, List.map_set]; rfl
theorem d_en (xs : List Ent) : (⟨48, 4, true, List.map (fun x => List.map CV.d x) (List.map entD xs)⟩ : Obj) = dRow 48 4 (List.map entD xs) := rfl
def swp (a b : Nat) (xs : List Ent) : Nat → List Ent
  | 0 => xs
  | i + 1 => match (swp a b xs i)[a + i]?, (swp a b xs i)[b + i]? with
    | some p, some q => ((swp a b xs i).set (a + i) q).set (b + i) p
    | _, _ => swp a b xs i
theorem swp_len (a b : Nat) (xs : List Ent) : ∀ i, (swp a b xs i).length = xs.length
  | 0 => rfl
  | i + 1 => by
    unfold swp
    split
    · rw [List.length_set, List.length_set]; exact swp_len a b xs i
    · exact swp_len a b xs i
theorem swapRange_ac (xs : List Ent) (a b n : Nat) (hl : xs.length ≤ 1000) (ha : a + n ≤ xs.length) (hb : b + n ≤ xs.length) : AC Tryz.prog 198 [.c (.h 0), iT a, iT b, iT n, cmpV] (hpL [some (eRow xs)]) 1 ⟨.tup [], hpL [some (eRow (swp a b xs n))], 1⟩ := by
  refine AC_of Tryz.func198 rfl Tryz.ntmps198 Tryz.results198 (by kernel_rfl) rfl ?_
  simp only [List.zipIdx, List.map, Nat.zero_add, Nat.reduceAdd]
  repeat (first | apply Aw_seq | apply Aw_block | apply Aw_skip | apply Aw_exit | refine Aw_condt rfl ?_ | refine Aw_condf rfl ?_ | ((first | refine qr ?_ | refine qd (by kernel_rfl) (by kernel_rfl) ?_); simp only [go_sem, jE, reduceIte, jA, jM, jS, jL, jD, jB]) | refine dk (by kernel_rfl) ?_)
  refine Aw.rw (rwL (l' := [(10, .t (iT (0 : Nat))), (4, .t cmpV), (3, .t (iT n)), (2, .t (iT b)), (1, .t (iT a)), (0, .t (.c (.h 0)))]) (os := [some (eRow (swp a b xs 0))]) (M := [0]) (n' := 1) (by repeat (first | exact trivial | refine ⟨rfl, rfl, ?_⟩)) (by rfl) (by simp only [go_sem, jE, reduceIte, jA, jM, jS, jL, jD, jB, swp]; first | done | rfl) (by decide) (by unfold idM; decide)) ?_
  refine Aw_loop_rw (ι := { i : Nat // i ≤ n }) (fun q => S [(10, .t (iT (q.1 : Nat))), (4, .t cmpV), (3, .t (iT n)), (2, .t (iT b)), (1, .t (iT a)), (0, .t (.c (.h 0)))] (hpL [some (eRow (swp a b xs q.1))]) 1) (fun q => n - q.1) ⟨0, Nat.zero_le _⟩ ?_
  rintro ⟨i, hi⟩
  dsimp only
  by_cases hlt : i < n
  · have g1 : (i : Int) < (n : Int) := by omega
    have w1 := wrap_succ hlt (by omega)
    have hsl := swp_len a b xs i
    obtain ⟨p, hp⟩ : ∃ e, (swp a b xs i)[a + i]? = some e := ⟨_, List.getElem?_eq_getElem (by omega)⟩
    obtain ⟨q, hq⟩ : ∃ e, (swp a b xs i)[b + i]? = some e := ⟨_, List.getElem?_eq_getElem (by omega)⟩
    have e1 : swp a b xs (i + 1) = ((swp a b xs i).set (a + i) q).set (b + i) p := by rw [swp, hp, hq]
    have wa : IntKind.i64.wrap ((a : Int) + (i : Int)) = ((a + i : Nat) : Int) := by rw [show (a : Int) + (i : Int) = ((a + i : Nat) : Int) by omega]; exact wrap_nat (by omega)
    have wb : IntKind.i64.wrap ((b : Int) + (i : Int)) = ((b + i : Nat) : Int) := by rw [show (b : Int) + (i : Int) = ((b + i : Nat) : Int) by omega]; exact wrap_nat (by omega)
    generalize swp a b xs i = ys at hsl hp hq e1 ⊢
    have la : a + i < ys.length := by omega
    have lb : b + i < ys.length := by omega
    obtain ⟨q2, hq2⟩ : ∃ e, (ys.set (a + i) q)[b + i]? = some e := ⟨_, List.getElem?_eq_getElem (by rw [List.length_set]; exact lb)⟩
    repeat (first | apply Aw_seq | apply Aw_block | apply Aw_skip | apply Aw_exit | refine Aw_condt rfl ?_ | refine Aw_condf rfl ?_ | ((first | refine qr ?_ | refine qd (by kernel_rfl) (by kernel_rfl) ?_); simp only [go_sem, jE, reduceIte, jA, jM, jS, jL, jD, jB, g1, w1, wa, wb, hp, hq, la, lb, hq2, set_en, d_en, List.length_set]) | refine dk (by kernel_rfl) ?_)
    refine ⟨⟨i + 1, hlt⟩, [0], ?_, rwL (by repeat (first | exact trivial | refine ⟨rfl, rfl, ?_⟩)) (by rfl) (by simp only [go_sem, jE, reduceIte, jA, jM, jS, jL, jD, jB, e1]; first | done | rfl) (by decide) (by unfold idM; decide)⟩
    show n - (i + 1) < n - i; omega
  · have g1 : ¬ (i : Int) < (n : Int) := by omega
    obtain rfl : i = n := by omega
    repeat (first | apply Aw_seq | apply Aw_block | apply Aw_skip | apply Aw_exit | refine Aw_condt rfl ?_ | refine Aw_condf rfl ?_ | ((first | refine qr ?_ | refine qd (by kernel_rfl) (by kernel_rfl) ?_); simp only [go_sem, jE, reduceIte, jA, jM, jS, jL, jD, jB, g1]) | refine dk (by kernel_rfl) ?_)
    exact (retL (M := [0]) (.inr rfl) (by simp only [resA, go_sem, jE, reduceIte, jA, jM, jS, jL, jD, jB]; first | done | rfl) rfl rfl (by rfl) (by simp only [go_sem, jE, reduceIte, jA, jM, jS, jL, jD, jB]; first | done | rfl | (and_intros <;> rfl)) (by decide) (by unfold idM; decide))
theorem swp_get (a b n : Nat) (xs : List Ent) (hab : a + n ≤ b) (hb : b + n ≤ xs.length) : ∀ i, i ≤ n → ∀ j, (swp a b xs i)[j]? = if a ≤ j ∧ j < a + i then xs[j + (b - a)]? else if b ≤ j ∧ j < b + i then xs[j - (b - a)]? else xs[j]?
  | 0, _, j => by rw [if_neg (by omega), if_neg (by omega)]; rfl
  | i + 1, hi, j => by
    have ih := swp_get a b n xs hab hb i (by omega)
    have ha := ih (a + i)
    rw [if_neg (by omega), if_neg (by omega)] at ha
    have hbb := ih (b + i)
    rw [if_neg (by omega), if_neg (by omega)] at hbb
    have hl := swp_len a b xs i
    obtain ⟨p, hp⟩ : ∃ e, xs[a + i]? = some e := ⟨_, List.getElem?_eq_getElem (by omega)⟩
    obtain ⟨q, hq⟩ : ∃ e, xs[b + i]? = some e := ⟨_, List.getElem?_eq_getElem (by omega)⟩
    have e1 : swp a b xs (i + 1) = ((swp a b xs i).set (a + i) q).set (b + i) p := by rw [swp, ha, hbb, hp, hq]
    rw [e1, List.getElem?_set, List.getElem?_set, List.length_set]
    by_cases c1 : b + i = j
    · subst c1
      rw [if_pos rfl, if_pos (by omega), if_neg (by omega), if_pos (by omega), show b + i - (b - a) = a + i by omega, hp]
    · rw [if_neg c1]
      by_cases c2 : a + i = j
      · subst c2
        rw [if_pos rfl, if_pos (by omega), if_pos (by omega), show a + i + (b - a) = b + i by omega, hq]
      · rw [if_neg c2, ih]
        by_cases c3 : a ≤ j ∧ j < a + i
        · rw [if_pos c3, if_pos (by omega)]
        · have r1 : ¬ (a ≤ j ∧ j < a + (i + 1)) := by omega
          rw [if_neg c3, if_neg r1]
          by_cases c4 : b ≤ j ∧ j < b + i
          · rw [if_pos c4, if_pos (by omega)]
          · rw [if_neg c4, if_neg (by omega)]
theorem swp_seg (A U W V B : List Ent) (h : U.length = V.length) : swp A.length (A.length + U.length + W.length) (A ++ U ++ W ++ V ++ B) U.length = A ++ V ++ W ++ U ++ B := by
  apply List.ext_getElem?
  intro j
  rw [swp_get A.length (A.length + U.length + W.length) U.length _ (by omega) (by simp; omega) U.length (Nat.le_refl _)]
  simp only [List.append_assoc, List.getElem?_append]
  by_cases c1 : j < A.length
  · rw [if_neg (by omega), if_neg (by omega), if_pos c1, if_pos c1]
  by_cases c2 : j < A.length + U.length
  · rw [if_pos (by omega), if_neg (by omega), if_neg (by omega), if_neg (by omega), if_pos (by omega), if_neg c1, if_pos (by omega)]
    congr 1; omega
  by_cases c3 : j < A.length + U.length + W.length
  · rw [if_neg (by omega), if_neg (by omega), if_neg c1, if_neg (by omega), if_pos (by omega), if_neg c1, if_neg (by omega), if_pos (by omega)]
    congr 1; omega
  by_cases c4 : j < A.length + U.length + W.length + V.length
  · rw [if_neg (by omega), if_pos (by omega), if_neg (by omega), if_pos (by omega), if_neg c1, if_neg (by omega), if_neg (by omega), if_pos (by omega)]
    congr 1; omega
  · rw [if_neg (by omega), if_neg (by omega), if_neg c1, if_neg (by omega), if_neg (by omega), if_neg (by omega), if_neg c1, if_neg (by omega), if_neg (by omega), if_neg (by omega)]
    congr 1; omega
theorem swapSeg_ac (A U W V B : List Ent) (h : U.length = V.length) (hl : (A ++ U ++ W ++ V ++ B).length ≤ 1000) (a b n : Nat) (ea : a = A.length) (eb : b = A.length + U.length + W.length) (en : n = U.length) : AC Tryz.prog 198 [.c (.h 0), iT a, iT b, iT n, cmpV] (hpL [some (eRow (A ++ U ++ W ++ V ++ B))]) 1 ⟨.tup [], hpL [some (eRow (A ++ V ++ W ++ U ++ B))], 1⟩ := by
  subst ea eb en
  rw [← swp_seg A U W V B h]
  refine swapRange_ac _ _ _ _ hl ?_ ?_ <;> simp <;> omega
structure RotI (m : Nat) (R : List Ent) where
  A : List Ent
  X : List Ent
  Y : List Ent
  B : List Ent
  i : Nat
  j : Nat
  hi : X.length = i
  hj : Y.length = j
  hX : 0 < i
  hY : 0 < j
  hm : m = A.length + i
  hl : (A ++ X ++ Y ++ B).length ≤ 1000
  h : A ++ Y ++ X ++ B = R
theorem wsub {a i n : Nat} (h : n + i = a) (hn : a ≤ 1000000) : IntKind.i64.wrap ((a : Int) - (i : Int)) = (n : Int) := by rw [show (a : Int) - (i : Int) = (n : Int) by omega]; exact wrap_nat (by omega)
theorem wadd {a i n : Nat} (h : a + i = n) (hn : n ≤ 1000000) : IntKind.i64.wrap ((a : Int) + (i : Int)) = (n : Int) := by rw [show (a : Int) + (i : Int) = (n : Int) by omega]; exact wrap_nat (by omega)
theorem rotate_ac (A X Y B : List Ent) (hX : 0 < X.length) (hY : 0 < Y.length) (hl : (A ++ X ++ Y ++ B).length ≤ 1000) (a m b : Nat) (ea : a = A.length) (em : m = A.length + X.length) (eb : b = A.length + X.length + Y.length) : AC Tryz.prog 193 [.c (.h 0), iT a, iT m, iT b, cmpV] (hpL [some (eRow (A ++ X ++ Y ++ B))]) 1 ⟨.tup [], hpL [some (eRow (A ++ Y ++ X ++ B))], 1⟩ := by
  refine AC_of Tryz.func193 rfl Tryz.ntmps193 Tryz.results193 (by kernel_rfl) rfl ?_
  simp only [List.zipIdx, List.map, Nat.zero_add, Nat.reduceAdd]
  have hlen : A.length + X.length + Y.length + B.length ≤ 1000 := by simpa [Nat.add_assoc] using hl
  have w1 : IntKind.i64.wrap ((m : Int) - (a : Int)) = (X.length : Int) := wsub (by omega) (by omega)
  have w2 : IntKind.i64.wrap ((b : Int) - (m : Int)) = (Y.length : Int) := wsub (by omega) (by omega)
  obtain ⟨R, hR⟩ : ∃ R, R = A ++ Y ++ X ++ B := ⟨_, rfl⟩
  rw [← hR]
  repeat (first | apply Aw_seq | apply Aw_block | apply Aw_skip | apply Aw_exit | refine Aw_condt rfl ?_ | refine Aw_condf rfl ?_ | ((first | refine qr ?_ | refine qd (by kernel_rfl) (by kernel_rfl) ?_); simp only [go_sem, jE, reduceIte, jA, jM, jS, jL, jD, jB, w1, w2]) | refine dk (by kernel_rfl) ?_)
  refine Aw.rw (rwL (l' := [(11, .t (iT (Y.length : Nat))), (10, .t (iT (X.length : Nat))), (4, .t cmpV), (3, .t (iT b)), (2, .t (iT m)), (1, .t (iT a)), (0, .t (.c (.h 0)))]) (os := [some (eRow (A ++ X ++ Y ++ B))]) (M := [0]) (n' := 1) (by repeat (first | exact trivial | refine ⟨rfl, rfl, ?_⟩)) (by rfl) (by simp only [go_sem, jE, reduceIte, jA, jM, jS, jL, jD, jB]; first | done | rfl) (by decide) (by unfold idM; decide)) ?_
  refine Aw_loop_rw (ι := RotI m R) (fun q => S [(11, .t (iT (q.j : Nat))), (10, .t (iT (q.i : Nat))), (4, .t cmpV), (3, .t (iT b)), (2, .t (iT m)), (1, .t (iT a)), (0, .t (.c (.h 0)))] (hpL [some (eRow (q.A ++ q.X ++ q.Y ++ q.B))]) 1) (fun q => q.i + q.j) ⟨A, X, Y, B, X.length, Y.length, rfl, rfl, hX, hY, em, hl, hR.symm⟩ ?_
  clear hR hlen w1 w2 ea em eb hX hY hl
  clear A X Y B
  rintro ⟨A, X, Y, B, i, j, hi, hj, hX, hY, hm, hl, h⟩
  dsimp only
  have hlen : A.length + i + j + B.length ≤ 1000 := by rw [← hi, ← hj]; simpa [Nat.add_assoc] using hl
  have w1 : IntKind.i64.wrap ((m : Int) - (i : Int)) = (A.length : Int) := wsub (by omega) (by omega)
  by_cases c1 : i = j
  · have g1 : decide ((i : Int) = (j : Int)) = true := decide_eq_true (by omega)
    have k := swapSeg_ac A X [] Y B (by omega) (by simpa using hl) A.length m i rfl (by simp; omega) hi.symm
    simp only [List.append_nil] at k
    rw [h] at k
    repeat (first | apply Aw_seq | apply Aw_block | apply Aw_skip | apply Aw_exit | refine Aw_condt rfl ?_ | refine Aw_condf rfl ?_ | ((first | refine qr ?_ | refine qd (by kernel_rfl) (by kernel_rfl) ?_); simp only [go_sem, jE, reduceIte, jA, jM, jS, jL, jD, jB, g1, w1]) | refine dk (by kernel_rfl) ?_ | (refine qx (call_L (N' := [0]) (L := []) (k) rfl (.cons (.nm rfl) (.cons (.nm rfl) (.cons (.nm rfl) (.cons (.nm rfl) (.cons (.nm rfl) (.nil)))))) (by decide) (by decide) (by decide) (by simp only [go_sem, jE, reduceIte, jA, jM, jS, jL, jD, jB, g1, w1]; first | done | rfl) (.inl rfl) rfl (by decide)) (by simp only [go_sem, jE, reduceIte, jA, jM, jS, jL, jD, jB, g1, w1]; first | done | rfl) rfl (by simp only [go_sem, Nat.reduceLT]) ?_; simp only [go_sem, jE, reduceIte, jA, jM, jS, jL, jD, jB, g1, w1]))
    exact (retL (M := [0]) (.inr rfl) (by simp only [resA, go_sem, jE, reduceIte, jA, jM, jS, jL, jD, jB]; first | done | rfl) rfl rfl (by rfl) (by simp only [go_sem, jE, reduceIte, jA, jM, jS, jL, jD, jB]; first | done | rfl | (and_intros <;> rfl)) (by decide) (by unfold idM; decide))
  · have g1 : decide ((i : Int) = (j : Int)) = false := decide_eq_false (by omega)
    by_cases c2 : j < i
    · have g2 : decide ((j : Int) < (i : Int)) = true := decide_eq_true (by omega)
      obtain ⟨X1, X2, rfl, hx⟩ : ∃ X1 X2, X = X1 ++ X2 ∧ X1.length = j := ⟨X.take j, X.drop j, (List.take_append_drop _ _).symm, by rw [List.length_take]; omega⟩
      rw [List.length_append] at hi
      have w2 : IntKind.i64.wrap ((i : Int) - (j : Int)) = ((i - j : Nat) : Int) := wsub (by omega) (by omega)
      have k := swapSeg_ac A X1 X2 Y B (by omega) (by simpa [Nat.add_assoc] using hl) A.length m j rfl (by omega) hx.symm
      repeat (first | apply Aw_seq | apply Aw_block | apply Aw_skip | apply Aw_exit | refine Aw_condt rfl ?_ | refine Aw_condf rfl ?_ | ((first | refine qr ?_ | refine qd (by kernel_rfl) (by kernel_rfl) ?_); simp only [go_sem, jE, reduceIte, jA, jM, jS, jL, jD, jB, g1, g2, w1, w2, List.append_assoc]) | refine dk (by kernel_rfl) ?_ | (refine qx (call_L (N' := [0]) (L := []) (k) rfl (.cons (.nm rfl) (.cons (.nm rfl) (.cons (.nm rfl) (.cons (.nm rfl) (.cons (.nm rfl) (.nil)))))) (by decide) (by decide) (by decide) (by simp only [go_sem, jE, reduceIte, jA, jM, jS, jL, jD, jB, g1, g2, w1, w2, List.append_assoc]; first | done | rfl) (.inl rfl) rfl (by decide)) (by simp only [go_sem, jE, reduceIte, jA, jM, jS, jL, jD, jB, g1, g2, w1, w2, List.append_assoc]; first | done | rfl) rfl (by simp only [go_sem, Nat.reduceLT]) ?_; simp only [go_sem, jE, reduceIte, jA, jM, jS, jL, jD, jB, g1, g2, w1, w2, List.append_assoc]))
      refine ⟨⟨A ++ Y, X2, X1, B, i - j, j, by omega, hx, by omega, hY, by rw [List.length_append]; omega, by simp only [List.length_append] at hl ⊢; omega, by rw [← h]; simp⟩, [0], ?_, rwL (by repeat (first | exact trivial | refine ⟨rfl, rfl, ?_⟩)) (by rfl) (by simp only [go_sem, jE, reduceIte, jA, jM, jS, jL, jD, jB, List.append_assoc, List.map_append]; first | done | rfl) (by decide) (by unfold idM; decide)⟩
      show i - j + j < i + j; omega
    · have g2 : decide ((j : Int) < (i : Int)) = false := decide_eq_false (by omega)
      obtain ⟨Y1, Y2, rfl, hy⟩ : ∃ Y1 Y2, Y = Y1 ++ Y2 ∧ Y2.length = i := ⟨Y.take (j - i), Y.drop (j - i), (List.take_append_drop _ _).symm, by rw [List.length_drop]; omega⟩
      rw [List.length_append] at hj
      have w2 : IntKind.i64.wrap ((j : Int) - (i : Int)) = ((j - i : Nat) : Int) := wsub (by omega) (by omega)
      have w3 : IntKind.i64.wrap ((m : Int) + (j : Int)) = ((m + j : Nat) : Int) := wadd rfl (by omega)
      have w4 : IntKind.i64.wrap (((m + j : Nat) : Int) - (i : Int)) = ((m + j - i : Nat) : Int) := wsub (by omega) (by omega)
      have k := swapSeg_ac A X Y1 Y2 B (by omega) (by simpa [Nat.add_assoc] using hl) A.length (m + j - i) i rfl (by omega) hi.symm
      repeat (first | apply Aw_seq | apply Aw_block | apply Aw_skip | apply Aw_exit | refine Aw_condt rfl ?_ | refine Aw_condf rfl ?_ | ((first | refine qr ?_ | refine qd (by kernel_rfl) (by kernel_rfl) ?_); simp only [go_sem, jE, reduceIte, jA, jM, jS, jL, jD, jB, g1, g2, w1, w2, w3, w4, List.append_assoc]) | refine dk (by kernel_rfl) ?_ | (refine qx (call_L (N' := [0]) (L := []) (k) rfl (.cons (.nm rfl) (.cons (.nm rfl) (.cons (.nm rfl) (.cons (.nm rfl) (.cons (.nm rfl) (.nil)))))) (by decide) (by decide) (by decide) (by simp only [go_sem, jE, reduceIte, jA, jM, jS, jL, jD, jB, g1, g2, w1, w2, w3, w4, List.append_assoc]; first | done | rfl) (.inl rfl) rfl (by decide)) (by simp only [go_sem, jE, reduceIte, jA, jM, jS, jL, jD, jB, g1, g2, w1, w2, w3, w4, List.append_assoc]; first | done | rfl) rfl (by simp only [go_sem, Nat.reduceLT]) ?_; simp only [go_sem, jE, reduceIte, jA, jM, jS, jL, jD, jB, g1, g2, w1, w2, w3, w4, List.append_assoc]))
      refine ⟨⟨A, Y2, Y1, X ++ B, i, j - i, hy, by omega, hX, by omega, hm, by simp only [List.length_append] at hl ⊢; omega, by rw [← h]; simp⟩, [0], ?_, rwL (by repeat (first | exact trivial | refine ⟨rfl, rfl, ?_⟩)) (by rfl) (by simp only [go_sem, jE, reduceIte, jA, jM, jS, jL, jD, jB, List.append_assoc, List.map_append]; first | done | rfl) (by decide) (by unfold idM; decide)⟩
      show i + (j - i) < i + j; omega
abbrev LeE (x y : Ent) : Prop := before y x = false
abbrev Sd (l : List Ent) : Prop := l.Pairwise LeE
theorem bef_iff (a b : Ent) : before a b = true ↔ klt a.key b.key = true ∨ (a.key = b.key ∧ b.time < a.time) := by
  unfold before
  simp only [Bool.or_eq_true, Bool.and_eq_true, decide_eq_true_eq]
theorem bef_asym {a b : Ent} (h : before a b = true) : before b a = false := by
  cases h' : before b a
  · rfl
  · exfalso
    rw [bef_iff] at h h'
    rcases h with h | ⟨h, h2⟩
    · rcases h' with k | ⟨k, _⟩
      · have := klt_trans h k; rw [klt_irrefl] at this; cases this
      · rw [k, klt_irrefl] at h; cases h
    · rcases h' with k | ⟨_, k⟩
      · rw [h, klt_irrefl] at k; cases k
      · omega
theorem leE_iff (x y : Ent) : LeE x y ↔ klt x.key y.key = true ∨ (x.key = y.key ∧ y.time ≤ x.time) := by
  unfold LeE
  constructor
  · intro h
    by_cases e : x.key = y.key
    · refine .inr ⟨e, ?_⟩
      rcases Int.lt_or_le x.time y.time with h2 | h2
      · have : before y x = true := (bef_iff y x).2 (.inr ⟨e.symm, h2⟩)
        rw [h] at this; cases this
      · exact h2
    · refine .inl ?_
      cases c : klt x.key y.key
      · have : klt y.key x.key = true := klt_total c e
        have : before y x = true := (bef_iff y x).2 (.inl this)
        rw [h] at this; cases this
      · rfl
  · intro h
    cases c : before y x
    · rfl
    · exfalso
      rw [bef_iff] at c
      rcases h with h | ⟨h, h2⟩
      · rcases c with k | ⟨k, _⟩
        · have := klt_trans h k; rw [klt_irrefl] at this; cases this
        · rw [k, klt_irrefl] at h; cases h
      · rcases c with k | ⟨_, k⟩
        · rw [h, klt_irrefl] at k; cases k
        · omega
theorem leE_trans {a b c : Ent} (h : LeE a b) (h' : LeE b c) : LeE a c := by
  rw [leE_iff] at *
  rcases h with h | ⟨h, h2⟩
  · rcases h' with k | ⟨k, _⟩
    · exact .inl (klt_trans h k)
    · exact .inl (k ▸ h)
  · rcases h' with k | ⟨k, k2⟩
    · exact .inl (h ▸ k)
    · exact .inr ⟨h.trans k, by omega⟩
def rI (y : Ent) : List Ent → List Ent
  | [] => [y]
  | z :: zs => if before y z = true then z :: rI y zs else y :: z :: zs
theorem rI_perm (y : Ent) (R : List Ent) : (rI y R).Perm (y :: R) := by
  induction R with
  | nil => exact .refl _
  | cons z R ih =>
    simp only [rI]
    split
    · exact (ih.cons z).trans (.swap y z R)
    · exact .refl _
theorem rI_len (y : Ent) (R : List Ent) : (rI y R).length = R.length + 1 := by simpa using (rI_perm y R).length_eq
theorem rI_sorted (y : Ent) (R : List Ent) (h : R.Pairwise fun a b => LeE b a) : (rI y R).Pairwise fun a b => LeE b a := by
  induction R with
  | nil => simp [rI]
  | cons z R ih =>
    obtain ⟨h1, h2⟩ := List.pairwise_cons.1 h
    simp only [rI]
    split
    · rename_i c
      refine List.pairwise_cons.2 ⟨fun w hw => ?_, ih h2⟩
      rcases List.mem_cons.1 ((rI_perm y R).mem_iff.1 hw) with rfl | hw
      · exact bef_asym c
      · exact h1 w hw
    · rename_i c
      have c : LeE z y := by simpa using c
      refine List.pairwise_cons.2 ⟨fun w hw => ?_, h⟩
      rcases List.mem_cons.1 hw with rfl | hw
      · exact c
      · exact leE_trans (h1 w hw) c
def insAll (R T : List Ent) : List Ent := T.foldl (fun R y => rI y R) R
theorem insAll_perm (T : List Ent) : ∀ R, (insAll R T).Perm (R ++ T) := by
  induction T with
  | nil => intro R; simp [insAll]
  | cons y T ih =>
    intro R
    have := ih (rI y R)
    refine (show (insAll (rI y R) T).Perm _ from this).trans ?_
    exact ((rI_perm y R).append_right T).trans List.perm_middle.symm
theorem insAll_sorted (T : List Ent) : ∀ R, (R.Pairwise fun a b => LeE b a) → (insAll R T).Pairwise fun a b => LeE b a := by
  induction T with
  | nil => intro R h; exact h
  | cons y T ih => intro R h; exact ih _ (rI_sorted y R h)
def isort (R : List Ent) : List Ent := (insAll [] R).reverse
theorem isort_perm (R : List Ent) : (isort R).Perm R := (List.reverse_perm _).trans (by simpa using insAll_perm R [])
theorem isort_sorted (R : List Ent) : Sd (isort R) := List.pairwise_reverse.2 (insAll_sorted R [] .nil)
theorem get_mid (P Q : List Ent) (p : Ent) (n : Nat) (h : n = P.length) : (P ++ p :: Q)[n]? = some p := by subst h; simp
theorem set_mid (P Q : List Ent) (p v : Ent) (n : Nat) (h : n = P.length) : (P ++ p :: Q).set n v = P ++ v :: Q := by
  subst h
  rw [List.set_append_right _ _ (Nat.le_refl _)]; simp
structure OuI (A B Z : List Ent) (b : Nat) where
  R : List Ent
  T : List Ent
  xs : List Ent
  i : Nat
  hi : i = A.length + max R.length 1
  hb : b = A.length + R.length + T.length
  hT : R = [] → T = []
  hx : xs = A ++ R.reverse ++ (T ++ B)
  h : A ++ (insAll R T).reverse ++ B = Z
structure InsI (A C Z : List Ent) (y : Ent) where
  R : List Ent
  T : List Ent
  xs : List Ent
  j : Nat
  hj : j = A.length + R.length
  hj2 : j ≤ 1000
  hx : xs = A ++ R.reverse ++ y :: T
  h : A ++ (rI y R).reverse ++ T = Z
theorem insertion_ac (A R B : List Ent) (hl : (A ++ R ++ B).length ≤ 1000) (a b : Nat) (ea : a = A.length) (eb : b = A.length + R.length) : AC Tryz.prog 186 [.c (.h 0), iT a, iT b, cmpV] (hpL [some (eRow (A ++ R ++ B))]) 1 ⟨.tup [], hpL [some (eRow (A ++ isort R ++ B))], 1⟩ := by
  have hlen : A.length + R.length + B.length ≤ 1000 := by simpa [Nat.add_assoc] using hl
  have w0 : IntKind.i64.wrap ((a : Int) + 1) = ((a + 1 : Nat) : Int) := wrap_succ (m := a + 1) (by omega) (by omega)
  obtain ⟨Z, hZ⟩ : ∃ Z, Z = A ++ isort R ++ B := ⟨_, rfl⟩
  rw [← hZ]
  obtain ⟨xs, hxs⟩ : ∃ xs, xs = A ++ R ++ B := ⟨_, rfl⟩
  rw [← hxs]
  obtain ⟨q0, q1, q2⟩ : ∃ q : OuI A B Z b, q.xs = xs ∧ q.i = a + 1 := by
    cases R with
    | nil => exact ⟨⟨[], [], xs, a + 1, by simp; omega, by simpa using eb, fun _ => rfl, by rw [hxs]; simp, by rw [hZ]; rfl⟩, rfl, rfl⟩
    | cons x T => exact ⟨⟨[x], T, xs, a + 1, by simp; omega, by simp at eb ⊢; omega, fun h => (by cases h), by rw [hxs]; simp, by rw [hZ]; rfl⟩, rfl, rfl⟩
  have hB : A.length + B.length ≤ 1000 := by omega
  have hb : b ≤ 1000 := by omega
  clear hZ hxs hl hlen eb
  refine AC_of Tryz.func186 rfl Tryz.ntmps186 Tryz.results186 (by kernel_rfl) rfl ?_
  simp only [List.zipIdx, List.map, Nat.zero_add, Nat.reduceAdd]
  repeat (first | apply Aw_seq | apply Aw_block | apply Aw_skip | apply Aw_exit | refine Aw_condt rfl ?_ | refine Aw_condf rfl ?_ | ((first | refine qr ?_ | refine qd (by kernel_rfl) (by kernel_rfl) ?_); simp only [go_sem, jE, reduceIte, jA, jM, jS, jL, jD, jB, w0]) | refine dk (by kernel_rfl) ?_)
  clear w0
  rw [← q1, ← q2]
  refine Aw.rw (rwL (l' := [(8, .t (iT (q0.i : Nat))), (3, .t cmpV), (2, .t (iT b)), (1, .t (iT a)), (0, .t (.c (.h 0)))]) (os := [some (eRow q0.xs)]) (M := [0]) (n' := 1) (by repeat (first | exact trivial | refine ⟨rfl, rfl, ?_⟩)) (by rfl) (by simp only [go_sem, jE, reduceIte, jA, jM, jS, jL, jD, jB]; first | done | rfl) (by decide) (by unfold idM; decide)) ?_
  refine Aw_loop_rw (ι := OuI A B Z b) (fun q => S [(8, .t (iT (q.i : Nat))), (3, .t cmpV), (2, .t (iT b)), (1, .t (iT a)), (0, .t (.c (.h 0)))] (hpL [some (eRow q.xs)]) 1) (fun q => q.T.length) q0 ?_
  clear q1 q2 q0 xs R
  rintro ⟨R, T, xs, i, hi, hbb, hT, hx, h⟩
  dsimp only
  cases T with
  | nil =>
    have g1 : decide ((i : Int) < (b : Int)) = false := decide_eq_false (by simp at hbb; omega)
    have e1 : xs = Z := by rw [hx, ← h]; simp [insAll]
    rw [e1]
    repeat (first | apply Aw_seq | apply Aw_block | apply Aw_skip | apply Aw_exit | refine Aw_condt rfl ?_ | refine Aw_condf rfl ?_ | ((first | refine qr ?_ | refine qd (by kernel_rfl) (by kernel_rfl) ?_); simp only [go_sem, jE, reduceIte, jA, jM, jS, jL, jD, jB, g1]) | refine dk (by kernel_rfl) ?_)
    exact (retL (M := [0]) (.inr rfl) (by simp only [resA, go_sem, jE, reduceIte, jA, jM, jS, jL, jD, jB]; first | done | rfl) rfl rfl (by rfl) (by simp only [go_sem, jE, reduceIte, jA, jM, jS, jL, jD, jB]; first | done | rfl | (and_intros <;> rfl)) (by decide) (by unfold idM; decide))
  | cons y T =>
    have hR : 0 < R.length := by
      cases R with
      | nil => exact absurd (hT rfl) (by simp)
      | cons _ _ => simp
    simp only [List.length_cons] at hbb
    have g1 : decide ((i : Int) < (b : Int)) = true := decide_eq_true (by omega)
    have wi : IntKind.i64.wrap ((i : Int) + 1) = ((i + 1 : Nat) : Int) := wrap_succ (m := i + 1) (by omega) (by omega)
    obtain ⟨ZI, hZI⟩ : ∃ ZI, ZI = A ++ (rI y R).reverse ++ (T ++ B) := ⟨_, rfl⟩
    repeat (first | apply Aw_seq | apply Aw_block | apply Aw_skip | apply Aw_exit | refine Aw_condt rfl ?_ | refine Aw_condf rfl ?_ | ((first | refine qr ?_ | refine qd (by kernel_rfl) (by kernel_rfl) ?_); simp only [go_sem, jE, reduceIte, jA, jM, jS, jL, jD, jB, g1]) | refine dk (by kernel_rfl) ?_)
    refine Aw.rw (rwL (l' := [(9, .t (iT (i : Nat))), (8, .t (iT (i : Nat))), (3, .t cmpV), (2, .t (iT b)), (1, .t (iT a)), (0, .t (.c (.h 0)))]) (os := [some (eRow xs)]) (M := [0]) (n' := 1) (by repeat (first | exact trivial | refine ⟨rfl, rfl, ?_⟩)) (by rfl) (by simp only [go_sem, jE, reduceIte, jA, jM, jS, jL, jD, jB]; first | done | rfl) (by decide) (by unfold idM; decide)) ?_
    refine Aw_loop_rw (ι := InsI A (T ++ B) ZI y) (fun q => S [(9, .t (iT (q.j : Nat))), (8, .t (iT (i : Nat))), (3, .t cmpV), (2, .t (iT b)), (1, .t (iT a)), (0, .t (.c (.h 0)))] (hpL [some (eRow q.xs)]) 1) (fun q => q.R.length) ⟨R, T ++ B, xs, i, by omega, by omega, by rw [hx]; simp, hZI.symm⟩ ?_
    have hiR : A.length + R.length ≤ i := by omega
    have hib : i < b := by omega
    have e9 : A ++ (insAll (rI y R) T).reverse ++ B = Z := h
    have rl := rI_len y R
    have hin : i + 1 = A.length + max (rI y R).length 1 := by rw [rl]; omega
    have hbn : b = A.length + (rI y R).length + T.length := by rw [rl]; omega
    have hxn : ZI = A ++ (rI y R).reverse ++ (T ++ B) := hZI
    generalize rI y R = R2 at e9 hin hbn hxn
    clear rl hx h hT hZI
    rintro ⟨R', T', ys, j, hj, hj2, hy, h⟩
    dsimp only
    have hR2 : R2 = [] → T = [] := fun h => by subst h; simp at hin hbn; omega
    cases R' with
    | nil =>
      have g2 : decide ((a : Int) < (j : Int)) = false := decide_eq_false (by simp at hj; omega)
      have e8 : ys = ZI := by rw [hy, ← h]; simp [rI]
      rw [e8]
      repeat (first | apply Aw_seq | apply Aw_block | apply Aw_skip | apply Aw_exit | refine Aw_condt rfl ?_ | refine Aw_condf rfl ?_ | ((first | refine qr ?_ | refine qd (by kernel_rfl) (by kernel_rfl) ?_); simp only [go_sem, jE, reduceIte, jA, jM, jS, jL, jD, jB, g2, wi]) | refine dk (by kernel_rfl) ?_)
      refine ⟨⟨R2, T, ZI, i + 1, hin, hbn, hR2, hxn, e9⟩, [0], ?_, rwL (by repeat (first | exact trivial | refine ⟨rfl, rfl, ?_⟩)) (by rfl) (by simp only [go_sem, jE, reduceIte, jA, jM, jS, jL, jD, jB]; first | done | rfl) (by decide) (by unfold idM; decide)⟩
      show T.length < T.length + 1; omega
    | cons r R' =>
      simp only [List.length_cons] at hj
      have g2 : decide ((a : Int) < (j : Int)) = true := decide_eq_true (by omega)
      have w2 : IntKind.i64.wrap ((j : Int) - 1) = ((j - 1 : Nat) : Int) := wsub (i := 1) (by omega) (by omega)
      have y1 : ys[j]? = some y := by rw [hy]; exact get_mid _ _ _ _ (by simp; omega)
      have hy2 : ys = (A ++ R'.reverse) ++ r :: (y :: T') := by rw [hy]; simp
      have y2 : ys[j - 1]? = some r := by rw [hy2]; exact get_mid _ _ _ _ (by simp; omega)
      have hyl : ys.length = j + 1 + T'.length := by rw [hy2]; simp; omega
      have l1 : j < ys.length := by omega
      have l2 : j - 1 < ys.length := by omega
      have kc := (cmp_ac y r).toLV
      have cn := cmpM_neg y r
      cases c : before y r
      · rw [c] at cn
        have e8 : ys = ZI := by rw [hy, ← h]; simp [rI, c]
        repeat (first | apply Aw_seq | apply Aw_block | apply Aw_skip | apply Aw_exit | refine Aw_condt rfl ?_ | refine Aw_condf rfl ?_ | ((first | refine qr ?_ | refine qd (by kernel_rfl) (by kernel_rfl) ?_); simp only [go_sem, jE, reduceIte, jA, jM, jS, jL, jD, jB, g2, w2, y1, y2, l1, l2, cn, wi]) | refine dk (by kernel_rfl) ?_ | (refine ex_callv (by simp only [go_sem, jE, reduceIte, jA, jM, jS, jL, jD, jB, g2, w2, y1, y2, l1, l2, cn, wi]; first | done | rfl) (call_V (N' := []) (L := []) 2 (kc) rfl (.cons (.nm rfl) (.cons (.nm rfl) (.nil))) (by first | exact .nil | (simp only [capT, List.map]; exact .nil)) (by decide) (by decide) (by decide) (by simp only [go_sem, jE, reduceIte, jA, jM, jS, jL, jD, jB, g2, w2, y1, y2, l1, l2, cn, wi]; first | done | rfl) (.inl rfl) rfl (by decide)) (by simp only [go_sem, jE, reduceIte, jA, jM, jS, jL, jD, jB, g2, w2, y1, y2, l1, l2, cn, wi]; first | done | rfl) rfl (by simp only [go_sem, Nat.reduceLT]) ?_; simp only [go_sem, jE, reduceIte, jA, jM, jS, jL, jD, jB, g2, w2, y1, y2, l1, l2, cn, wi]))
        rw [e8]
        refine ⟨⟨R2, T, ZI, i + 1, hin, hbn, hR2, hxn, e9⟩, [0], ?_, rwL (by repeat (first | exact trivial | refine ⟨rfl, rfl, ?_⟩)) (by rfl) (by simp only [go_sem, jE, reduceIte, jA, jM, jS, jL, jD, jB]; first | done | rfl) (by decide) (by unfold idM; decide)⟩
        show T.length < T.length + 1; omega
      · rw [c] at cn
        obtain ⟨y3, hy3⟩ : ∃ e, (ys.set j r)[j - 1]? = some e := ⟨_, List.getElem?_eq_getElem (by rw [List.length_set]; exact l2)⟩
        have e1 : (ys.set j r).set (j - 1) y = A ++ R'.reverse ++ y :: (r :: T') := by
          have s1 : ys.set j r = A ++ R'.reverse ++ r :: (r :: T') := by
            rw [hy2, show A ++ R'.reverse ++ r :: y :: T' = (A ++ R'.reverse ++ [r]) ++ y :: T' by simp, set_mid _ _ _ _ _ (by simp; omega)]; simp
          rw [s1, set_mid _ _ _ _ _ (by simp; omega)]
        repeat (first | apply Aw_seq | apply Aw_block | apply Aw_skip | apply Aw_exit | refine Aw_condt rfl ?_ | refine Aw_condf rfl ?_ | ((first | refine qr ?_ | refine qd (by kernel_rfl) (by kernel_rfl) ?_); simp only [go_sem, jE, reduceIte, jA, jM, jS, jL, jD, jB, g2, w2, y1, y2, l1, l2, cn, hy3, set_en, d_en, List.length_set]) | refine dk (by kernel_rfl) ?_ | (refine ex_callv (by simp only [go_sem, jE, reduceIte, jA, jM, jS, jL, jD, jB, g2, w2, y1, y2, l1, l2, cn, hy3, set_en, d_en, List.length_set]; first | done | rfl) (call_V (N' := []) (L := []) 2 (kc) rfl (.cons (.nm rfl) (.cons (.nm rfl) (.nil))) (by first | exact .nil | (simp only [capT, List.map]; exact .nil)) (by decide) (by decide) (by decide) (by simp only [go_sem, jE, reduceIte, jA, jM, jS, jL, jD, jB, g2, w2, y1, y2, l1, l2, cn, hy3, set_en, d_en, List.length_set]; first | done | rfl) (.inl rfl) rfl (by decide)) (by simp only [go_sem, jE, reduceIte, jA, jM, jS, jL, jD, jB, g2, w2, y1, y2, l1, l2, cn, hy3, set_en, d_en, List.length_set]; first | done | rfl) rfl (by simp only [go_sem, Nat.reduceLT]) ?_; simp only [go_sem, jE, reduceIte, jA, jM, jS, jL, jD, jB, g2, w2, y1, y2, l1, l2, cn, hy3, set_en, d_en, List.length_set]))
        refine ⟨⟨R', r :: T', A ++ R'.reverse ++ y :: (r :: T'), j - 1, by omega, by omega, rfl, by rw [← h]; simp [rI, c]⟩, [0], ?_, rwL (by repeat (first | exact trivial | refine ⟨rfl, rfl, ?_⟩)) (by rfl) (by simp only [go_sem, jE, reduceIte, jA, jM, jS, jL, jD, jB, e1]; first | done | rfl) (by decide) (by unfold idM; decide)⟩
        show R'.length < R'.length + 1; omega
@[go_sem] theorem r_shr1 {T : Option TI} {k k' : IntKind} {a : Int} : bop T .shr (.int k a) (.int k' 1) = some (.int k (a.fdiv 2)) := by
  unfold bop; cases k <;> simp [IntKind.bits]
def bsF (P : Nat → Bool) (i j : Nat) : Nat := if h : i < j then (if P ((i + j) / 2) = true then bsF P ((i + j) / 2 + 1) j else bsF P i ((i + j) / 2)) else i
termination_by j - i
theorem bsF_spec (P : Nat → Bool) (lo hi : Nat) (i j : Nat) (h1 : i ≤ j) (h2 : lo ≤ i) (h3 : j ≤ hi) (h4 : i = lo ∨ P (i - 1) = true) (h5 : j = hi ∨ P j = false) : lo ≤ bsF P i j ∧ bsF P i j ≤ hi ∧ (bsF P i j = lo ∨ P (bsF P i j - 1) = true) ∧ (bsF P i j = hi ∨ P (bsF P i j) = false) := by
  unfold bsF
  by_cases c : i < j
  · rw [dif_pos c]
    cases p : P ((i + j) / 2)
    · simp only [Bool.false_eq_true, if_false]
      exact bsF_spec P lo hi i ((i + j) / 2) (by omega) h2 (by omega) h4 (.inr p)
    · simp only [if_true]
      exact bsF_spec P lo hi ((i + j) / 2 + 1) j (by omega) (by omega) h3 (.inr (by simpa using p)) h5
  · rw [dif_neg c]
    obtain rfl : i = j := by omega
    exact ⟨h2, h3, h4, h5⟩
termination_by j - i
structure BsI (P : Nat → Bool) (lo hi r : Nat) where
  i : Nat
  j : Nat
  hij : i ≤ j
  hlo : lo ≤ i
  hhi : j ≤ hi
  h : bsF P i j = r
theorem half_w (i j : Nat) (h : i + j ≤ 1000000) : IntKind.i64.wrap ((i : Int) + (j : Int)) = ((i + j : Nat) : Int) ∧ IntKind.u64.wrap ((i + j : Nat) : Int) = ((i + j : Nat) : Int) ∧ ((i + j : Nat) : Int).fdiv 2 = (((i + j) / 2 : Nat) : Int) ∧ IntKind.i64.wrap (((i + j) / 2 : Nat) : Int) = (((i + j) / 2 : Nat) : Int) := by
  refine ⟨wadd rfl (by omega), ?_, by rw [Int.fdiv_eq_ediv_of_nonneg _ (by decide)]; omega, wrap_nat (by omega)⟩
  simp [IntKind.wrap, IntKind.bits, IntKind.signed]; omega
theorem sd_head {h : Ent} {T : List Ent} (s : Sd (h :: T)) : ∀ v ∈ h :: T, LeE h v := fun v hv => by
  rcases List.mem_cons.1 hv with rfl | hv
  · exact (leE_iff _ _).2 (.inr ⟨rfl, Int.le_refl _⟩)
  · exact (List.pairwise_cons.1 s).1 v hv
theorem sd_last {T : List Ent} {l : Ent} (s : Sd (T ++ [l])) : ∀ v ∈ T ++ [l], LeE v l := fun v hv => by
  rcases List.mem_append.1 hv with hv | hv
  · exact (List.pairwise_append.1 s).2.2 v hv l (by simp)
  · simp at hv; subst hv; exact (leE_iff _ _).2 (.inr ⟨rfl, Int.le_refl _⟩)
theorem sd_cross {T1 T2 : List Ent} (s1 : Sd T1) (s2 : Sd T2) (h : ∀ X l z Y, T1 = X ++ [l] → T2 = z :: Y → LeE l z) : ∀ x ∈ T1, ∀ y ∈ T2, LeE x y := fun x hx y hy => by
  rcases List.eq_nil_or_concat T1 with rfl | ⟨X, l, e1⟩
  · simp at hx
  · cases T2 with
    | nil => simp at hy
    | cons z Y =>
      rw [List.concat_eq_append] at e1
      subst e1
      exact leE_trans (sd_last s1 x hx) (leE_trans (h X l z Y rfl rfl) (sd_head s2 y hy))
structure MvI (A C Z : List Ent) (x : Ent) (n : Nat) where
  W1 : List Ent
  W2 : List Ent
  xs : List Ent
  k : Nat
  hk : k = A.length + W1.length
  hn : W1.length + W2.length = n
  hx : xs = A ++ W1 ++ x :: (W2 ++ C)
  hl : A.length + W1.length + W2.length + C.length ≤ 1000
  h : A ++ (W1 ++ W2) ++ x :: C = Z
theorem symOne_ac (A V B : List Ent) (x : Ent) (hV : 0 < V.length) (hl : A.length + 1 + V.length + B.length ≤ 1000) (a m b : Nat) (ea : a = A.length) (em : m = A.length + 1) (eb : b = A.length + 1 + V.length) :
    ∃ R, AC Tryz.prog 187 [.c (.h 0), iT a, iT m, iT b, cmpV] (hpL [some (eRow (A ++ [x] ++ V ++ B))]) 1 ⟨.tup [], hpL [some (eRow (A ++ R ++ B))], 1⟩ ∧ R.Perm ([x] ++ V) ∧ (Sd V → Sd R) := by
  obtain ⟨xs, hxs⟩ : ∃ xs, xs = A ++ [x] ++ V ++ B := ⟨_, rfl⟩
  have hxl : xs.length = A.length + 1 + V.length + B.length := by rw [hxs]; simp; omega
  obtain ⟨P, hP⟩ : ∃ P : Nat → Bool, P = fun h => match xs[h]? with | some y => before y x | none => false := ⟨_, rfl⟩
  obtain ⟨r, hr⟩ : ∃ r, r = bsF P m b := ⟨_, rfl⟩
  obtain ⟨s1, s2, s3, s4⟩ := bsF_spec P m b m b (by omega) (Nat.le_refl _) (Nat.le_refl _) (.inl rfl) (.inl rfl)
  rw [← hr] at s1 s2 s3 s4
  obtain ⟨V1, V2, rfl, hv⟩ : ∃ V1 V2, V = V1 ++ V2 ∧ V1.length = r - m := ⟨V.take (r - m), V.drop (r - m), (List.take_append_drop _ _).symm, by rw [List.length_take]; omega⟩
  rw [List.length_append] at hl hV eb hxl
  have hxa : xs[a]? = some x := by rw [hxs, show A ++ [x] ++ (V1 ++ V2) ++ B = A ++ x :: (V1 ++ V2 ++ B) by simp]; exact get_mid _ _ _ _ ea
  refine ⟨V1 ++ [x] ++ V2, ?_, by first | (simp; done) | simpa using (List.perm_middle (l₁ := V1) (l₂ := V2) (a := x)), fun sv => ?_⟩
  case refine_2 =>
    obtain ⟨sv1, sv2, sv3⟩ := List.pairwise_append.1 sv
    have c1 : ∀ v ∈ V1, ∀ y ∈ [x], LeE v y := sd_cross sv1 (by simp) fun X l z Y e1 e2 => by
      obtain ⟨rfl, _⟩ := List.cons.inj e2
      have hp : P (r - 1) = true := by
        rcases s3 with h | h
        · rw [e1] at hv; simp at hv; omega
        · exact h
      have hxl : xs[r - 1]? = some l := by
        rw [hxs, e1, show A ++ [x] ++ (X ++ [l] ++ V2) ++ B = (A ++ [x] ++ X) ++ l :: (V2 ++ B) by simp]
        exact get_mid _ _ _ _ (by rw [e1] at hv; simp at hv ⊢; omega)
      rw [hP] at hp
      dsimp only at hp
      rw [hxl] at hp
      exact bef_asym hp
    have c2 : ∀ y ∈ [x], ∀ v ∈ V2, LeE y v := sd_cross (by simp) sv2 fun X l z Y e1 e2 => by
      obtain rfl : l = x := by
        have := congrArg List.getLast? e1
        simpa using this.symm
      have hp : P r = false := by
        rcases s4 with h | h
        · rw [e2] at eb; simp at eb; omega
        · exact h
      have hxl : xs[r]? = some z := by
        rw [hxs, e2, show A ++ [l] ++ (V1 ++ z :: Y) ++ B = (A ++ [l] ++ V1) ++ z :: (Y ++ B) by simp]
        exact get_mid _ _ _ _ (by simp; omega)
      rw [hP] at hp
      dsimp only at hp
      rw [hxl] at hp
      exact hp
    refine List.pairwise_append.2 ⟨List.pairwise_append.2 ⟨sv1, by simp, c1⟩, sv2, fun v hvv w hw => ?_⟩
    rcases List.mem_append.1 hvv with h | h
    · exact sv3 v h w hw
    · exact c2 v h w hw
  rw [← hxs]
  obtain ⟨Z, hZ⟩ : ∃ Z, Z = A ++ (V1 ++ [x] ++ V2) ++ B := ⟨_, rfl⟩
  rw [← hZ]
  have w0 : IntKind.i64.wrap ((m : Int) - (a : Int)) = 1 := by rw [show (m : Int) - (a : Int) = 1 by omega]; rfl
  have g0 : decide ((1 : Int) = 1) = true := rfl
  refine AC_of Tryz.func187 rfl Tryz.ntmps187 Tryz.results187 (by kernel_rfl) rfl ?_
  simp only [List.zipIdx, List.map, Nat.zero_add, Nat.reduceAdd]
  repeat (first | apply Aw_seq | apply Aw_block | apply Aw_skip | apply Aw_exit | refine Aw_condt rfl ?_ | refine Aw_condf rfl ?_ | ((first | refine qr ?_ | refine qd (by kernel_rfl) (by kernel_rfl) ?_); simp only [go_sem, jE, reduceIte, jA, jM, jS, jL, jD, jB, w0, g0]) | refine dk (by kernel_rfl) ?_)
  refine Aw.rw (rwL (l' := [(11, .t (iT (b : Nat))), (10, .t (iT (m : Nat))), (4, .t cmpV), (3, .t (iT b)), (2, .t (iT m)), (1, .t (iT a)), (0, .t (.c (.h 0)))]) (os := [some (eRow xs)]) (M := [0]) (n' := 1) (by repeat (first | exact trivial | refine ⟨rfl, rfl, ?_⟩)) (by rfl) (by simp only [go_sem, jE, reduceIte, jA, jM, jS, jL, jD, jB]; first | done | rfl) (by decide) (by unfold idM; decide)) ?_
  refine Aw_loop_rw (ι := BsI P m b r) (fun q => S [(11, .t (iT (q.j : Nat))), (10, .t (iT (q.i : Nat))), (4, .t cmpV), (3, .t (iT b)), (2, .t (iT m)), (1, .t (iT a)), (0, .t (.c (.h 0)))] (hpL [some (eRow xs)]) 1) (fun q => q.j - q.i) ⟨m, b, by omega, Nat.le_refl _, Nat.le_refl _, hr.symm⟩ ?_
  rintro ⟨i, j, hij, hlo, hhi, hb⟩
  dsimp only
  by_cases c : i < j
  · have g1 : decide ((i : Int) < (j : Int)) = true := decide_eq_true (by omega)
    obtain ⟨h1, h2, h3, h4⟩ := half_w i j (by omega)
    have hu : bsF P i j = if P ((i + j) / 2) = true then bsF P ((i + j) / 2 + 1) j else bsF P i ((i + j) / 2) := by rw [bsF, dif_pos c]
    obtain ⟨h, hh⟩ : ∃ h, h = (i + j) / 2 := ⟨_, rfl⟩
    rw [← hh] at h3 h4 hu
    have w1 : IntKind.i64.wrap ((h : Int) + 1) = ((h + 1 : Nat) : Int) := wrap_succ (m := h + 1) (by omega) (by omega)
    obtain ⟨y, hy⟩ : ∃ y, xs[h]? = some y := ⟨_, List.getElem?_eq_getElem (by omega)⟩
    have l1 : h < xs.length := by omega
    have l2 : a < xs.length := by omega
    have kc := (cmp_ac y x).toLV
    have cn := cmpM_neg y x
    have pe : P h = before y x := by rw [hP]; dsimp only; rw [hy]
    rw [pe] at hu
    cases c2 : before y x
    · rw [c2] at cn hu
      rw [hu] at hb
      repeat (first | apply Aw_seq | apply Aw_block | apply Aw_skip | apply Aw_exit | refine Aw_condt rfl ?_ | refine Aw_condf rfl ?_ | ((first | refine qr ?_ | refine qd (by kernel_rfl) (by kernel_rfl) ?_); simp only [go_sem, jE, reduceIte, jA, jM, jS, jL, jD, jB, g1, h1, h2, h3, h4, hy, hxa, l1, l2, cn]) | refine dk (by kernel_rfl) ?_ | (refine ex_callv (by simp only [go_sem, jE, reduceIte, jA, jM, jS, jL, jD, jB, g1, h1, h2, h3, h4, hy, hxa, l1, l2, cn]; first | done | rfl) (call_V (N' := []) (L := []) 2 (kc) rfl (.cons (.nm rfl) (.cons (.nm rfl) (.nil))) (by first | exact .nil | (simp only [capT, List.map]; exact .nil)) (by decide) (by decide) (by decide) (by simp only [go_sem, jE, reduceIte, jA, jM, jS, jL, jD, jB, g1, h1, h2, h3, h4, hy, hxa, l1, l2, cn]; first | done | rfl) (.inl rfl) rfl (by decide)) (by simp only [go_sem, jE, reduceIte, jA, jM, jS, jL, jD, jB, g1, h1, h2, h3, h4, hy, hxa, l1, l2, cn]; first | done | rfl) rfl (by simp only [go_sem, Nat.reduceLT]) ?_; simp only [go_sem, jE, reduceIte, jA, jM, jS, jL, jD, jB, g1, h1, h2, h3, h4, hy, hxa, l1, l2, cn]))
      refine ⟨⟨i, h, by omega, hlo, by omega, hb⟩, [0], ?_, rwL (by repeat (first | exact trivial | refine ⟨rfl, rfl, ?_⟩)) (by rfl) (by simp only [go_sem, jE, reduceIte, jA, jM, jS, jL, jD, jB]; first | done | rfl) (by decide) (by unfold idM; decide)⟩
      show h - i < j - i; omega
    · rw [c2] at cn hu
      rw [hu] at hb
      repeat (first | apply Aw_seq | apply Aw_block | apply Aw_skip | apply Aw_exit | refine Aw_condt rfl ?_ | refine Aw_condf rfl ?_ | ((first | refine qr ?_ | refine qd (by kernel_rfl) (by kernel_rfl) ?_); simp only [go_sem, jE, reduceIte, jA, jM, jS, jL, jD, jB, g1, h1, h2, h3, h4, w1, hy, hxa, l1, l2, cn]) | refine dk (by kernel_rfl) ?_ | (refine ex_callv (by simp only [go_sem, jE, reduceIte, jA, jM, jS, jL, jD, jB, g1, h1, h2, h3, h4, w1, hy, hxa, l1, l2, cn]; first | done | rfl) (call_V (N' := []) (L := []) 2 (kc) rfl (.cons (.nm rfl) (.cons (.nm rfl) (.nil))) (by first | exact .nil | (simp only [capT, List.map]; exact .nil)) (by decide) (by decide) (by decide) (by simp only [go_sem, jE, reduceIte, jA, jM, jS, jL, jD, jB, g1, h1, h2, h3, h4, w1, hy, hxa, l1, l2, cn]; first | done | rfl) (.inl rfl) rfl (by decide)) (by simp only [go_sem, jE, reduceIte, jA, jM, jS, jL, jD, jB, g1, h1, h2, h3, h4, w1, hy, hxa, l1, l2, cn]; first | done | rfl) rfl (by simp only [go_sem, Nat.reduceLT]) ?_; simp only [go_sem, jE, reduceIte, jA, jM, jS, jL, jD, jB, g1, h1, h2, h3, h4, w1, hy, hxa, l1, l2, cn]))
      refine ⟨⟨h + 1, j, by omega, by omega, hhi, hb⟩, [0], ?_, rwL (by repeat (first | exact trivial | refine ⟨rfl, rfl, ?_⟩)) (by rfl) (by simp only [go_sem, jE, reduceIte, jA, jM, jS, jL, jD, jB]; first | done | rfl) (by decide) (by unfold idM; decide)⟩
      show j - (h + 1) < j - i; omega
  · have g1 : decide ((i : Int) < (j : Int)) = false := decide_eq_false (by omega)
    have er : i = r := by rw [← hb, bsF, dif_neg c]
    subst er
    repeat (first | apply Aw_seq | apply Aw_block | apply Aw_skip | apply Aw_exit | refine Aw_condt rfl ?_ | refine Aw_condf rfl ?_ | ((first | refine qr ?_ | refine qd (by kernel_rfl) (by kernel_rfl) ?_); simp only [go_sem, jE, reduceIte, jA, jM, jS, jL, jD, jB, g1]) | refine dk (by kernel_rfl) ?_)
    refine Aw.rw (rwL (l' := [(13, .t (iT (a : Nat))), (10, .t (iT (i : Nat))), (4, .t cmpV), (3, .t (iT b)), (2, .t (iT m)), (1, .t (iT a)), (0, .t (.c (.h 0)))]) (os := [some (eRow xs)]) (M := [0]) (n' := 1) (by repeat (first | exact trivial | refine ⟨rfl, rfl, ?_⟩)) (by rfl) (by simp only [go_sem, jE, reduceIte, jA, jM, jS, jL, jD, jB]; first | done | rfl) (by decide) (by unfold idM; decide)) ?_
    refine Aw_loop_rw (ι := MvI A (V2 ++ B) Z x V1.length) (fun q => S [(13, .t (iT (q.k : Nat))), (10, .t (iT (i : Nat))), (4, .t cmpV), (3, .t (iT b)), (2, .t (iT m)), (1, .t (iT a)), (0, .t (.c (.h 0)))] (hpL [some (eRow q.xs)]) 1) (fun q => q.W2.length) ⟨[], V1, xs, a, by simpa using ea, by simp, by rw [hxs]; simp, by simp; omega, by rw [hZ]; simp⟩ ?_
    have wi : IntKind.i64.wrap ((i : Int) - 1) = ((i - 1 : Nat) : Int) := wsub (i := 1) (by omega) (by omega)
    rintro ⟨W1, W2, ys, k, hk, hn, hy, hyl, hz⟩
    dsimp only
    cases W2 with
    | nil =>
      have g2 : decide ((k : Int) < ((i - 1 : Nat) : Int)) = false := decide_eq_false (by simp at hn; omega)
      have e8 : ys = Z := by rw [hy, ← hz]; simp
      rw [e8]
      repeat (first | apply Aw_seq | apply Aw_block | apply Aw_skip | apply Aw_exit | refine Aw_condt rfl ?_ | refine Aw_condf rfl ?_ | ((first | refine qr ?_ | refine qd (by kernel_rfl) (by kernel_rfl) ?_); simp only [go_sem, jE, reduceIte, jA, jM, jS, jL, jD, jB, g2, wi]) | refine dk (by kernel_rfl) ?_)
      exact Aw_ret (retL (M := [0]) (.inl rfl) (by simp only [go_sem, jE, reduceIte, jA, jM, jS, jL, jD, jB]; first | done | rfl) rfl rfl (by rfl) (by simp only [go_sem, jE, reduceIte, jA, jM, jS, jL, jD, jB]; first | done | rfl | (and_intros <;> rfl)) (by decide) (by unfold idM; decide))
    | cons w W2 =>
      simp only [List.length_cons] at hn hyl
      have g2 : decide ((k : Int) < ((i - 1 : Nat) : Int)) = true := decide_eq_true (by omega)
      have wk : IntKind.i64.wrap ((k : Int) + 1) = ((k + 1 : Nat) : Int) := wrap_succ (m := k + 1) (by omega) (by omega)
      have hy2 : ys = (A ++ W1 ++ [x]) ++ w :: (W2 ++ (V2 ++ B)) := by rw [hy]; simp
      have y1 : ys[k]? = some x := by rw [hy]; exact get_mid _ _ _ _ (by simp; omega)
      have y2 : ys[k + 1]? = some w := by rw [hy2]; exact get_mid _ _ _ _ (by simp; omega)
      have hyL : ys.length = k + 2 + W2.length + V2.length + B.length := by rw [hy2]; simp; omega
      have l1 : k < ys.length := by omega
      have l2 : k + 1 < ys.length := by omega
      obtain ⟨y3, hy3⟩ : ∃ e, (ys.set k w)[k + 1]? = some e := ⟨_, List.getElem?_eq_getElem (by rw [List.length_set]; exact l2)⟩
      have e1 : (ys.set k w).set (k + 1) x = A ++ (W1 ++ [w]) ++ x :: (W2 ++ (V2 ++ B)) := by
        have q1 : ys.set k w = (A ++ W1 ++ [w]) ++ w :: (W2 ++ (V2 ++ B)) := by
          rw [hy, set_mid _ _ _ _ _ (by simp; omega)]; simp
        rw [q1, set_mid _ _ _ _ _ (by simp; omega)]; simp
      repeat (first | apply Aw_seq | apply Aw_block | apply Aw_skip | apply Aw_exit | refine Aw_condt rfl ?_ | refine Aw_condf rfl ?_ | ((first | refine qr ?_ | refine qd (by kernel_rfl) (by kernel_rfl) ?_); simp only [go_sem, jE, reduceIte, jA, jM, jS, jL, jD, jB, g2, wi, wk, y1, y2, l1, l2, hy3, set_en, d_en, List.length_set]) | refine dk (by kernel_rfl) ?_)
      refine ⟨⟨W1 ++ [w], W2, A ++ (W1 ++ [w]) ++ x :: (W2 ++ (V2 ++ B)), k + 1, by simp; omega, by simp; omega, rfl, by simp at hyl ⊢; omega, by rw [← hz]; simp⟩, [0], ?_, rwL (by repeat (first | exact trivial | refine ⟨rfl, rfl, ?_⟩)) (by rfl) (by simp only [go_sem, jE, reduceIte, jA, jM, jS, jL, jD, jB, e1]; first | done | rfl) (by decide) (by unfold idM; decide)⟩
      show W2.length < W2.length + 1; omega
structure MbI (A C Z : List Ent) (y : Ent) (n : Nat) where
  R : List Ent
  T : List Ent
  xs : List Ent
  k : Nat
  hk : k = A.length + R.length
  hn : R.length + T.length = n
  hx : xs = A ++ R.reverse ++ y :: (T ++ C)
  hl : A.length + R.length + T.length + C.length ≤ 1000
  h : A ++ y :: (R.reverse ++ T ++ C) = Z
theorem symTwo_ac (A U B : List Ent) (y : Ent) (hU : 2 ≤ U.length) (hl : A.length + U.length + 1 + B.length ≤ 1000) (a m b : Nat) (ea : a = A.length) (em : m = A.length + U.length) (eb : b = A.length + U.length + 1) :
    ∃ R, AC Tryz.prog 187 [.c (.h 0), iT a, iT m, iT b, cmpV] (hpL [some (eRow (A ++ U ++ [y] ++ B))]) 1 ⟨.tup [], hpL [some (eRow (A ++ R ++ B))], 1⟩ ∧ R.Perm (U ++ [y]) ∧ (Sd U → Sd R) := by
  obtain ⟨xs, hxs⟩ : ∃ xs, xs = A ++ U ++ [y] ++ B := ⟨_, rfl⟩
  have hxl : xs.length = A.length + U.length + 1 + B.length := by rw [hxs]; simp; omega
  obtain ⟨P, hP⟩ : ∃ P : Nat → Bool, P = fun h => match xs[h]? with | some x => !before y x | none => false := ⟨_, rfl⟩
  obtain ⟨r, hr⟩ : ∃ r, r = bsF P a m := ⟨_, rfl⟩
  obtain ⟨s1, s2, s3, s4⟩ := bsF_spec P a m a m (by omega) (Nat.le_refl _) (Nat.le_refl _) (.inl rfl) (.inl rfl)
  rw [← hr] at s1 s2 s3 s4
  obtain ⟨U1, U2, rfl, hv⟩ : ∃ U1 U2, U = U1 ++ U2 ∧ U1.length = r - a := ⟨U.take (r - a), U.drop (r - a), (List.take_append_drop _ _).symm, by rw [List.length_take]; omega⟩
  rw [List.length_append] at hl hU em eb hxl
  have hxa : xs[m]? = some y := by rw [hxs, show A ++ (U1 ++ U2) ++ [y] ++ B = (A ++ (U1 ++ U2)) ++ y :: B by simp]; exact get_mid _ _ _ _ (by simp; omega)
  refine ⟨U1 ++ [y] ++ U2, ?_, ?_, fun sv => ?_⟩
  case refine_2 =>
    have h1 : (U1 ++ [y] ++ U2).Perm (y :: (U1 ++ U2)) := by first | (simp; done) | simpa using (List.perm_middle (l₁ := U1) (l₂ := U2) (a := y))
    exact h1.trans (by simpa using (List.perm_append_comm (l₁ := [y]) (l₂ := U1 ++ U2)))
  case refine_3 =>
    obtain ⟨sv1, sv2, sv3⟩ := List.pairwise_append.1 sv
    have c1 : ∀ v ∈ U1, ∀ w ∈ [y], LeE v w := sd_cross sv1 (by simp) fun X l z Y e1 e2 => by
      obtain ⟨rfl, _⟩ := List.cons.inj e2
      have hp : P (r - 1) = true := by
        rcases s3 with h | h
        · rw [e1] at hv; simp at hv; omega
        · exact h
      have hxl : xs[r - 1]? = some l := by
        rw [hxs, e1, show A ++ (X ++ [l] ++ U2) ++ [y] ++ B = (A ++ X) ++ l :: (U2 ++ [y] ++ B) by simp]
        exact get_mid _ _ _ _ (by rw [e1] at hv; simp at hv ⊢; omega)
      rw [hP] at hp
      dsimp only at hp
      rw [hxl] at hp
      simpa using hp
    have c2 : ∀ w ∈ [y], ∀ v ∈ U2, LeE w v := sd_cross (by simp) sv2 fun X l z Y e1 e2 => by
      obtain rfl : l = y := by
        have := congrArg List.getLast? e1
        simpa using this.symm
      have hp : P r = false := by
        rcases s4 with h | h
        · rw [e2] at em; simp at em; omega
        · exact h
      have hxl : xs[r]? = some z := by
        rw [hxs, e2, show A ++ (U1 ++ z :: Y) ++ [l] ++ B = (A ++ U1) ++ z :: (Y ++ [l] ++ B) by simp]
        exact get_mid _ _ _ _ (by simp; omega)
      rw [hP] at hp
      dsimp only at hp
      rw [hxl] at hp
      exact bef_asym (by simpa using hp)
    refine List.pairwise_append.2 ⟨List.pairwise_append.2 ⟨sv1, by simp, c1⟩, sv2, fun v hvv w hw => ?_⟩
    rcases List.mem_append.1 hvv with h | h
    · exact sv3 v h w hw
    · exact c2 v h w hw
  rw [← hxs]
  obtain ⟨Z, hZ⟩ : ∃ Z, Z = A ++ (U1 ++ [y] ++ U2) ++ B := ⟨_, rfl⟩
  rw [← hZ]
  have w0 : IntKind.i64.wrap ((m : Int) - (a : Int)) = ((m - a : Nat) : Int) := wsub (by omega) (by omega)
  have g0 : decide (((m - a : Nat) : Int) = 1) = false := decide_eq_false (by omega)
  have w5 : IntKind.i64.wrap ((b : Int) - (m : Int)) = 1 := by rw [show (b : Int) - (m : Int) = 1 by omega]; rfl
  have g5 : decide ((1 : Int) = 1) = true := rfl
  refine AC_of Tryz.func187 rfl Tryz.ntmps187 Tryz.results187 (by kernel_rfl) rfl ?_
  simp only [List.zipIdx, List.map, Nat.zero_add, Nat.reduceAdd]
  repeat (first | apply Aw_seq | apply Aw_block | apply Aw_skip | apply Aw_exit | refine Aw_condt rfl ?_ | refine Aw_condf rfl ?_ | ((first | refine qr ?_ | refine qd (by kernel_rfl) (by kernel_rfl) ?_); simp only [go_sem, jE, reduceIte, jA, jM, jS, jL, jD, jB, w0, g0, w5, g5]) | refine dk (by kernel_rfl) ?_)
  refine Aw.rw (rwL (l' := [(15, .t (iT (m : Nat))), (14, .t (iT (a : Nat))), (4, .t cmpV), (3, .t (iT b)), (2, .t (iT m)), (1, .t (iT a)), (0, .t (.c (.h 0)))]) (os := [some (eRow xs)]) (M := [0]) (n' := 1) (by repeat (first | exact trivial | refine ⟨rfl, rfl, ?_⟩)) (by rfl) (by simp only [go_sem, jE, reduceIte, jA, jM, jS, jL, jD, jB]; first | done | rfl) (by decide) (by unfold idM; decide)) ?_
  refine Aw_loop_rw (ι := BsI P a m r) (fun q => S [(15, .t (iT (q.j : Nat))), (14, .t (iT (q.i : Nat))), (4, .t cmpV), (3, .t (iT b)), (2, .t (iT m)), (1, .t (iT a)), (0, .t (.c (.h 0)))] (hpL [some (eRow xs)]) 1) (fun q => q.j - q.i) ⟨a, m, by omega, Nat.le_refl _, Nat.le_refl _, hr.symm⟩ ?_
  rintro ⟨i, j, hij, hlo, hhi, hb⟩
  dsimp only
  by_cases c : i < j
  · have g1 : decide ((i : Int) < (j : Int)) = true := decide_eq_true (by omega)
    obtain ⟨h1, h2, h3, h4⟩ := half_w i j (by omega)
    have hu : bsF P i j = if P ((i + j) / 2) = true then bsF P ((i + j) / 2 + 1) j else bsF P i ((i + j) / 2) := by rw [bsF, dif_pos c]
    obtain ⟨h, hh⟩ : ∃ h, h = (i + j) / 2 := ⟨_, rfl⟩
    rw [← hh] at h3 h4 hu
    have w1 : IntKind.i64.wrap ((h : Int) + 1) = ((h + 1 : Nat) : Int) := wrap_succ (m := h + 1) (by omega) (by omega)
    obtain ⟨x, hy⟩ : ∃ y, xs[h]? = some y := ⟨_, List.getElem?_eq_getElem (by omega)⟩
    have l1 : h < xs.length := by omega
    have l2 : m < xs.length := by omega
    have kc := (cmp_ac y x).toLV
    have cn := cmpM_neg y x
    have pe : P h = !before y x := by rw [hP]; dsimp only; rw [hy]
    rw [pe] at hu
    cases c2 : before y x
    · rw [c2] at cn hu
      rw [hu] at hb
      repeat (first | apply Aw_seq | apply Aw_block | apply Aw_skip | apply Aw_exit | refine Aw_condt rfl ?_ | refine Aw_condf rfl ?_ | ((first | refine qr ?_ | refine qd (by kernel_rfl) (by kernel_rfl) ?_); simp only [go_sem, jE, reduceIte, jA, jM, jS, jL, jD, jB, g1, h1, h2, h3, h4, w1, hy, hxa, l1, l2, cn]) | refine dk (by kernel_rfl) ?_ | (refine ex_callv (by simp only [go_sem, jE, reduceIte, jA, jM, jS, jL, jD, jB, g1, h1, h2, h3, h4, w1, hy, hxa, l1, l2, cn]; first | done | rfl) (call_V (N' := []) (L := []) 2 (kc) rfl (.cons (.nm rfl) (.cons (.nm rfl) (.nil))) (by first | exact .nil | (simp only [capT, List.map]; exact .nil)) (by decide) (by decide) (by decide) (by simp only [go_sem, jE, reduceIte, jA, jM, jS, jL, jD, jB, g1, h1, h2, h3, h4, w1, hy, hxa, l1, l2, cn]; first | done | rfl) (.inl rfl) rfl (by decide)) (by simp only [go_sem, jE, reduceIte, jA, jM, jS, jL, jD, jB, g1, h1, h2, h3, h4, w1, hy, hxa, l1, l2, cn]; first | done | rfl) rfl (by simp only [go_sem, Nat.reduceLT]) ?_; simp only [go_sem, jE, reduceIte, jA, jM, jS, jL, jD, jB, g1, h1, h2, h3, h4, w1, hy, hxa, l1, l2, cn]))
      refine ⟨⟨h + 1, j, by omega, by omega, hhi, hb⟩, [0], ?_, rwL (by repeat (first | exact trivial | refine ⟨rfl, rfl, ?_⟩)) (by rfl) (by simp only [go_sem, jE, reduceIte, jA, jM, jS, jL, jD, jB]; first | done | rfl) (by decide) (by unfold idM; decide)⟩
      show j - (h + 1) < j - i; omega
    · rw [c2] at cn hu
      rw [hu] at hb
      repeat (first | apply Aw_seq | apply Aw_block | apply Aw_skip | apply Aw_exit | refine Aw_condt rfl ?_ | refine Aw_condf rfl ?_ | ((first | refine qr ?_ | refine qd (by kernel_rfl) (by kernel_rfl) ?_); simp only [go_sem, jE, reduceIte, jA, jM, jS, jL, jD, jB, g1, h1, h2, h3, h4, hy, hxa, l1, l2, cn]) | refine dk (by kernel_rfl) ?_ | (refine ex_callv (by simp only [go_sem, jE, reduceIte, jA, jM, jS, jL, jD, jB, g1, h1, h2, h3, h4, hy, hxa, l1, l2, cn]; first | done | rfl) (call_V (N' := []) (L := []) 2 (kc) rfl (.cons (.nm rfl) (.cons (.nm rfl) (.nil))) (by first | exact .nil | (simp only [capT, List.map]; exact .nil)) (by decide) (by decide) (by decide) (by simp only [go_sem, jE, reduceIte, jA, jM, jS, jL, jD, jB, g1, h1, h2, h3, h4, hy, hxa, l1, l2, cn]; first | done | rfl) (.inl rfl) rfl (by decide)) (by simp only [go_sem, jE, reduceIte, jA, jM, jS, jL, jD, jB, g1, h1, h2, h3, h4, hy, hxa, l1, l2, cn]; first | done | rfl) rfl (by simp only [go_sem, Nat.reduceLT]) ?_; simp only [go_sem, jE, reduceIte, jA, jM, jS, jL, jD, jB, g1, h1, h2, h3, h4, hy, hxa, l1, l2, cn]))
      refine ⟨⟨i, h, by omega, hlo, by omega, hb⟩, [0], ?_, rwL (by repeat (first | exact trivial | refine ⟨rfl, rfl, ?_⟩)) (by rfl) (by simp only [go_sem, jE, reduceIte, jA, jM, jS, jL, jD, jB]; first | done | rfl) (by decide) (by unfold idM; decide)⟩
      show h - i < j - i; omega
  · have g1 : decide ((i : Int) < (j : Int)) = false := decide_eq_false (by omega)
    have er : i = r := by rw [← hb, bsF, dif_neg c]
    subst er
    repeat (first | apply Aw_seq | apply Aw_block | apply Aw_skip | apply Aw_exit | refine Aw_condt rfl ?_ | refine Aw_condf rfl ?_ | ((first | refine qr ?_ | refine qd (by kernel_rfl) (by kernel_rfl) ?_); simp only [go_sem, jE, reduceIte, jA, jM, jS, jL, jD, jB, g1]) | refine dk (by kernel_rfl) ?_)
    refine Aw.rw (rwL (l' := [(17, .t (iT (m : Nat))), (14, .t (iT (i : Nat))), (4, .t cmpV), (3, .t (iT b)), (2, .t (iT m)), (1, .t (iT a)), (0, .t (.c (.h 0)))]) (os := [some (eRow xs)]) (M := [0]) (n' := 1) (by repeat (first | exact trivial | refine ⟨rfl, rfl, ?_⟩)) (by rfl) (by simp only [go_sem, jE, reduceIte, jA, jM, jS, jL, jD, jB]; first | done | rfl) (by decide) (by unfold idM; decide)) ?_
    refine Aw_loop_rw (ι := MbI (A ++ U1) B Z y U2.length) (fun q => S [(17, .t (iT (q.k : Nat))), (14, .t (iT (i : Nat))), (4, .t cmpV), (3, .t (iT b)), (2, .t (iT m)), (1, .t (iT a)), (0, .t (.c (.h 0)))] (hpL [some (eRow q.xs)]) 1) (fun q => q.R.length) ⟨U2.reverse, [], xs, m, by simp; omega, by simp, by rw [hxs]; simp, by simp; omega, by rw [hZ]; simp⟩ ?_
    have hA : (A ++ U1).length = i := by simp; omega
    rintro ⟨R, T, ys, k, hk, hn, hy, hyl, hz⟩
    dsimp only
    rw [hA] at hk hyl
    cases R with
    | nil =>
      have g2 : decide ((i : Int) < (k : Int)) = false := decide_eq_false (by simp at hk; omega)
      have e8 : ys = Z := by rw [hy, ← hz]; simp
      rw [e8]
      repeat (first | apply Aw_seq | apply Aw_block | apply Aw_skip | apply Aw_exit | refine Aw_condt rfl ?_ | refine Aw_condf rfl ?_ | ((first | refine qr ?_ | refine qd (by kernel_rfl) (by kernel_rfl) ?_); simp only [go_sem, jE, reduceIte, jA, jM, jS, jL, jD, jB, g2]) | refine dk (by kernel_rfl) ?_)
      exact Aw_ret (retL (M := [0]) (.inl rfl) (by simp only [go_sem, jE, reduceIte, jA, jM, jS, jL, jD, jB]; first | done | rfl) rfl rfl (by rfl) (by simp only [go_sem, jE, reduceIte, jA, jM, jS, jL, jD, jB]; first | done | rfl | (and_intros <;> rfl)) (by decide) (by unfold idM; decide))
    | cons w R =>
      simp only [List.length_cons] at hk hn hyl
      have g2 : decide ((i : Int) < (k : Int)) = true := decide_eq_true (by omega)
      have wk : IntKind.i64.wrap ((k : Int) - 1) = ((k - 1 : Nat) : Int) := wsub (i := 1) (by omega) (by omega)
      have hy2 : ys = (A ++ U1 ++ R.reverse) ++ w :: (y :: (T ++ B)) := by rw [hy]; simp
      have y1 : ys[k]? = some y := by rw [hy]; exact get_mid _ _ _ _ (by rw [List.length_append, hA]; simp; omega)
      have y2 : ys[k - 1]? = some w := by rw [hy2]; exact get_mid _ _ _ _ (by rw [List.length_append, hA]; simp; omega)
      have hyL : ys.length = k + 1 + T.length + B.length := by rw [hy2, List.length_append, List.length_append, hA]; simp; omega
      have l1 : k < ys.length := by omega
      have l2 : k - 1 < ys.length := by omega
      obtain ⟨y3, hy3⟩ : ∃ e, (ys.set k w)[k - 1]? = some e := ⟨_, List.getElem?_eq_getElem (by rw [List.length_set]; exact l2)⟩
      have e1 : (ys.set k w).set (k - 1) y = (A ++ U1) ++ R.reverse ++ y :: ((w :: T) ++ B) := by
        have q1 : ys.set k w = (A ++ U1 ++ R.reverse) ++ w :: (w :: (T ++ B)) := by
          rw [hy, show (A ++ U1) ++ (w :: R).reverse ++ y :: (T ++ B) = ((A ++ U1) ++ R.reverse ++ [w]) ++ y :: (T ++ B) by simp, set_mid _ _ _ _ _ (by rw [List.length_append, List.length_append, hA]; simp; omega)]; simp
        rw [q1, set_mid _ _ _ _ _ (by rw [List.length_append, hA]; simp; omega)]; simp
      repeat (first | apply Aw_seq | apply Aw_block | apply Aw_skip | apply Aw_exit | refine Aw_condt rfl ?_ | refine Aw_condf rfl ?_ | ((first | refine qr ?_ | refine qd (by kernel_rfl) (by kernel_rfl) ?_); simp only [go_sem, jE, reduceIte, jA, jM, jS, jL, jD, jB, g2, wk, y1, y2, l1, l2, hy3, set_en, d_en, List.length_set]) | refine dk (by kernel_rfl) ?_)
      refine ⟨⟨R, w :: T, (A ++ U1) ++ R.reverse ++ y :: ((w :: T) ++ B), k - 1, by rw [hA]; omega, by simp; omega, rfl, by rw [hA]; simp at hyl ⊢; omega, by rw [← hz]; simp⟩, [0], ?_, rwL (by repeat (first | exact trivial | refine ⟨rfl, rfl, ?_⟩)) (by rfl) (by simp only [go_sem, jE, reduceIte, jA, jM, jS, jL, jD, jB, e1]; first | done | rfl) (by decide) (by unfold idM; decide)⟩
      show R.length < R.length + 1; omega
def SymOk (n : Nat) : Prop := ∀ (A U V B : List Ent) (a m b : Nat), U.length + V.length ≤ n → 0 < U.length → 0 < V.length → A.length + U.length + V.length + B.length ≤ 1000 → a = A.length → m = A.length + U.length → b = A.length + U.length + V.length →
  ∃ R, AC Tryz.prog 187 [.c (.h 0), iT a, iT m, iT b, cmpV] (hpL [some (eRow (A ++ U ++ V ++ B))]) 1 ⟨.tup [], hpL [some (eRow (A ++ R ++ B))], 1⟩ ∧ R.Perm (U ++ V) ∧ (Sd U → Sd V → Sd R)
theorem sym_half {n : Nat} (H : SymOk n) (A U V B : List Ent) (h : U.length + V.length ≤ n) (hb : A.length + U.length + V.length + B.length ≤ 1000) (a m b : Nat) (ea : a = A.length) (em : m = A.length + U.length) (eb : b = A.length + U.length + V.length) :
    ∃ R, (0 < U.length → 0 < V.length → AC Tryz.prog 187 [.c (.h 0), iT a, iT m, iT b, cmpV] (hpL [some (eRow (A ++ U ++ V ++ B))]) 1 ⟨.tup [], hpL [some (eRow (A ++ R ++ B))], 1⟩) ∧ ((U = [] ∨ V = []) → R = U ++ V) ∧ R.Perm (U ++ V) ∧ (Sd U → Sd V → Sd R) := by
  by_cases h1 : U = []
  · subst h1; exact ⟨[] ++ V, fun h => absurd h (by simp), fun _ => rfl, .refl _, fun _ s => s⟩
  · by_cases h2 : V = []
    · subst h2; exact ⟨U ++ [], fun _ h => absurd h (by simp), fun _ => rfl, .refl _, fun s _ => by simpa using s⟩
    · obtain ⟨R, e, p, s⟩ := H A U V B a m b h (List.length_pos_iff.2 h1) (List.length_pos_iff.2 h2) hb ea em eb
      exact ⟨R, fun _ _ => e, fun h => by rcases h with h | h <;> contradiction, p, s⟩
theorem sym_ar {a u v mid N lo hi B : Nat} (hm : mid = (a + (a + u + v)) / 2) (hN : N = mid + (a + u)) (hU : 2 ≤ u) (hV : 2 ≤ v) (hb : a + u + v + B ≤ 1000) (hl : (a + u > mid ∧ lo + (a + u + v) = N ∧ hi = mid) ∨ (a + u ≤ mid ∧ lo = a ∧ hi = a + u)) :
    lo ≤ hi ∧ a ≤ lo ∧ hi ≤ a + u ∧ hi ≤ mid ∧ N ≤ lo + (a + u + v) ∧ a < mid ∧ mid < a + u + v ∧ N ≤ 2000 := by omega
theorem sym_ar2 {a u v mid N lo hi r n : Nat} (hN : N = mid + (a + u)) (h1 : lo ≤ hi) (h2 : a ≤ lo) (h3 : hi ≤ a + u) (h4 : hi ≤ mid) (h5 : N ≤ lo + (a + u + v)) (h6 : a < mid) (h7 : mid < a + u + v) (g1 : lo ≤ r) (g2 : r ≤ hi) (hn : u + v ≤ n + 1) :
    r - a ≤ u ∧ mid - r ≤ v ∧ a + (r - a) = r ∧ (r - a) + (u - (r - a)) = u ∧ a + (r - a) + (mid - r) = mid ∧ a + (r - a) + (mid - r) + (u - (r - a)) = N - r ∧ a + (r - a) + (mid - r) + (u - (r - a)) + (v - (mid - r)) = a + u + v ∧ (r - a) + (mid - r) ≤ n ∧ (u - (r - a)) + (v - (mid - r)) ≤ n ∧ a + (r - a) + (u - (r - a)) = a + u ∧ (N - r) + r = N ∧ (r < a + u ↔ 0 < u - (r - a)) ∧ (a + u < N - r ↔ 0 < mid - r) := by omega
theorem sym_plan {n : Nat} (H : SymOk n) (A U V B : List Ent) (hn : U.length + V.length ≤ n + 1) (hU : 2 ≤ U.length) (hV : 2 ≤ V.length) (hb : A.length + U.length + V.length + B.length ≤ 1000) (a m b mid N lo hi : Nat) (ea : a = A.length) (em : m = A.length + U.length) (eb : b = A.length + U.length + V.length)
    (hm : mid = (a + b) / 2) (hN : N = mid + m) (hl : (m > mid ∧ lo + b = N ∧ hi = mid) ∨ (m ≤ mid ∧ lo = a ∧ hi = m)) (P : Nat → Bool) (hP : P = fun c => match (A ++ U ++ V ++ B)[N - 1 - c]?, (A ++ U ++ V ++ B)[c]? with | some x, some y => !before x y | _, _ => false) (r : Nat) (hr : r = bsF P lo hi) :
    ∃ U1 U2 V1 V2 M1 M2, U = U1 ++ U2 ∧ V = V1 ++ V2 ∧ A.length + U1.length = r ∧ A.length + U1.length + V1.length = mid ∧ A.length + U1.length + V1.length + U2.length = N - r ∧ lo ≤ r ∧ r ≤ hi ∧ hi ≤ mid ∧ N ≤ lo + b ∧ mid < b ∧ lo ≤ hi ∧
      (0 < U1.length → 0 < V1.length → AC Tryz.prog 187 [.c (.h 0), iT a, iT r, iT mid, cmpV] (hpL [some (eRow (A ++ U1 ++ V1 ++ (U2 ++ V2 ++ B)))]) 1 ⟨.tup [], hpL [some (eRow (A ++ M1 ++ (U2 ++ V2 ++ B)))], 1⟩) ∧ ((U1 = [] ∨ V1 = []) → M1 = U1 ++ V1) ∧
      (0 < U2.length → 0 < V2.length → AC Tryz.prog 187 [.c (.h 0), iT mid, iT (N - r : Nat), iT b, cmpV] (hpL [some (eRow (A ++ M1 ++ U2 ++ V2 ++ B))]) 1 ⟨.tup [], hpL [some (eRow (A ++ M1 ++ M2 ++ B))], 1⟩) ∧ ((U2 = [] ∨ V2 = []) → M2 = U2 ++ V2) ∧
      (M1 ++ M2).Perm (U ++ V) ∧ (Sd U → Sd V → Sd (M1 ++ M2)) := by
  subst ea em eb
  obtain ⟨h1, h2, h3, h4, h5, h6, h7, h8⟩ := sym_ar hm hN hU hV hb hl
  obtain ⟨g1, g2, g3, g4⟩ := bsF_spec P lo hi lo hi h1 (Nat.le_refl _) (Nat.le_refl _) (.inl rfl) (.inl rfl)
  rw [← hr] at g1 g2 g3 g4
  obtain ⟨a1, a2, a3, a4, a5, a6, a7, a8, a9, a10, a11, a12, a13⟩ := sym_ar2 hN h1 h2 h3 h4 h5 h6 h7 g1 g2 hn
  obtain ⟨U1, U2, rfl, t1⟩ : ∃ U1 U2, U = U1 ++ U2 ∧ U1.length = r - A.length := ⟨U.take (r - A.length), U.drop (r - A.length), (List.take_append_drop _ _).symm, by rw [List.length_take]; omega⟩
  obtain ⟨V1, V2, rfl, u1⟩ : ∃ V1 V2, V = V1 ++ V2 ∧ V1.length = mid - r := ⟨V.take (mid - r), V.drop (mid - r), (List.take_append_drop _ _).symm, by rw [List.length_take]; omega⟩
  simp only [List.length_append] at *
  obtain ⟨M1, e1, n1, p1, s1⟩ := sym_half H A U1 V1 (U2 ++ V2 ++ B) (by omega) (by simp; omega) A.length r mid rfl (by omega) (by omega)
  have l1 : M1.length = U1.length + V1.length := by simpa using p1.length_eq
  obtain ⟨M2, e2, n2, p2, s2⟩ := sym_half H (A ++ M1) U2 V2 B (by omega) (by simp; omega) mid (N - r) (A.length + (U1.length + U2.length) + (V1.length + V2.length)) (by simp; omega) (by simp; omega) (by simp; omega)
  refine ⟨U1, U2, V1, V2, M1, M2, rfl, rfl, by omega, by omega, by omega, g1, g2, h4, by omega, by omega, h1, e1, n1, e2, n2, ?_, fun sU sV => ?_⟩
  · have q : (M1 ++ M2).Perm ((U1 ++ V1) ++ (U2 ++ V2)) := p1.append p2
    refine q.trans ?_
    rw [List.append_assoc, List.append_assoc]
    refine List.Perm.append_left _ ?_
    rw [← List.append_assoc, ← List.append_assoc]
    exact (List.perm_append_comm).append_right _
  · obtain ⟨x1, x2, x3⟩ := List.pairwise_append.1 sU
    obtain ⟨y1, y2, y3⟩ := List.pairwise_append.1 sV
    have z1 : ∀ x ∈ U1, ∀ y ∈ V2, LeE x y := sd_cross x1 y2 fun X l z Y e1 e2 => by
      rcases g3 with g3 | g3
      · exfalso
        have q1 : 0 < U1.length := by rw [e1]; simp
        have q2 : 0 < V2.length := by rw [e2]; simp
        rcases hl with ⟨_, q, _⟩ | ⟨_, q, _⟩ <;> omega
      · have rl : (A ++ (U1 ++ U2) ++ (V1 ++ V2) ++ B)[r - 1]? = some l := by
          rw [show A ++ (U1 ++ U2) ++ (V1 ++ V2) ++ B = (A ++ X) ++ l :: (U2 ++ (V1 ++ V2) ++ B) by rw [e1]; simp]
          exact get_mid _ _ _ _ (by rw [e1] at t1; simp at t1 ⊢; omega)
        have rz : (A ++ (U1 ++ U2) ++ (V1 ++ V2) ++ B)[N - 1 - (r - 1)]? = some z := by
          rw [show A ++ (U1 ++ U2) ++ (V1 ++ V2) ++ B = (A ++ (U1 ++ U2) ++ V1) ++ z :: (Y ++ B) by rw [e2]; simp]
          exact get_mid _ _ _ _ (by rw [e1] at t1; simp at t1 ⊢; omega)
        rw [hP] at g3
        dsimp only at g3
        rw [rl, rz] at g3
        simpa using g3
    have z2 : ∀ x ∈ V1, ∀ y ∈ U2, LeE x y := sd_cross y1 x2 fun X l z Y e1 e2 => by
      rcases g4 with g4 | g4
      · exfalso
        have q1 : 0 < V1.length := by rw [e1]; simp
        have q2 : 0 < U2.length := by rw [e2]; simp
        rcases hl with ⟨_, _, q⟩ | ⟨_, _, q⟩ <;> omega
      · have rl : (A ++ (U1 ++ U2) ++ (V1 ++ V2) ++ B)[N - 1 - r]? = some l := by
          rw [show A ++ (U1 ++ U2) ++ (V1 ++ V2) ++ B = (A ++ (U1 ++ U2) ++ X) ++ l :: (V2 ++ B) by rw [e1]; simp]
          exact get_mid _ _ _ _ (by rw [e1] at u1; simp at u1 ⊢; omega)
        have rz : (A ++ (U1 ++ U2) ++ (V1 ++ V2) ++ B)[r]? = some z := by
          rw [show A ++ (U1 ++ U2) ++ (V1 ++ V2) ++ B = (A ++ U1) ++ z :: (Y ++ (V1 ++ V2) ++ B) by rw [e2]; simp]
          exact get_mid _ _ _ _ (by simp; omega)
        rw [hP] at g4
        dsimp only at g4
        rw [rl, rz] at g4
        exact bef_asym (by simpa using g4)
    refine List.pairwise_append.2 ⟨s1 x1 y1, s2 x2 y2, fun x hx y hy => ?_⟩
    rcases List.mem_append.1 (p1.mem_iff.1 hx) with hx | hx <;> rcases List.mem_append.1 (p2.mem_iff.1 hy) with hy | hy
    · exact x3 x hx y hy
    · exact z1 x hx y hy
    · exact z2 x hx y hy
    · exact y3 x hx y hy
abbrev smSl (a m b : Nat) : List (Nat × AV) := [(4, .t cmpV), (3, .t (iT b)), (2, .t (iT m)), (1, .t (iT a)), (0, .t (.c (.h 0)))]
theorem symMain {n : Nat} (H : SymOk n) (A U V B : List Ent) (hn : U.length + V.length ≤ n + 1) (hU : 2 ≤ U.length) (hV : 2 ≤ V.length) (hb : A.length + U.length + V.length + B.length ≤ 1000) (a m b : Nat) (ea : a = A.length) (em : m = A.length + U.length) (eb : b = A.length + U.length + V.length) :
    ∃ R, AC Tryz.prog 187 [.c (.h 0), iT a, iT m, iT b, cmpV] (hpL [some (eRow (A ++ U ++ V ++ B))]) 1 ⟨.tup [], hpL [some (eRow (A ++ R ++ B))], 1⟩ ∧ R.Perm (U ++ V) ∧ (Sd U → Sd V → Sd R) := by
  obtain ⟨mid, hm⟩ : ∃ mid, mid = (a + b) / 2 := ⟨_, rfl⟩
  obtain ⟨N, hN⟩ : ∃ N, N = mid + m := ⟨_, rfl⟩
  obtain ⟨lo, hi, hl⟩ : ∃ lo hi, (m > mid ∧ lo + b = N ∧ hi = mid) ∨ (m ≤ mid ∧ lo = a ∧ hi = m) := by
    by_cases c : m > mid
    · exact ⟨N - b, mid, .inl ⟨c, by omega, rfl⟩⟩
    · exact ⟨a, m, .inr ⟨by omega, rfl, rfl⟩⟩
  obtain ⟨xs, hxs⟩ : ∃ xs, xs = A ++ U ++ V ++ B := ⟨_, rfl⟩
  have hxl : xs.length = A.length + U.length + V.length + B.length := by rw [hxs]; simp; omega
  obtain ⟨P, hP⟩ : ∃ P : Nat → Bool, P = fun c => match xs[N - 1 - c]?, xs[c]? with | some x, some y => !before x y | _, _ => false := ⟨_, rfl⟩
  obtain ⟨r, hr⟩ : ∃ r, r = bsF P lo hi := ⟨_, rfl⟩
  obtain ⟨U1, U2, V1, V2, M1, M2, rfl, rfl, b1, b2, b3, b4, b5, b6, b7, b8, b9, e1, n1, e2, n2, p, s⟩ := sym_plan H A U V B hn hU hV hb a m b mid N lo hi ea em eb hm hN hl P (by rw [hP, hxs] <;> rfl) r hr
  refine ⟨M1 ++ M2, ?_, p, s⟩
  rw [← hxs]
  obtain ⟨Z, hZ⟩ : ∃ Z, Z = A ++ (M1 ++ M2) ++ B := ⟨_, rfl⟩
  rw [← hZ]
  simp only [List.length_append] at hn hU hV hb em eb hxl
  have w0 : IntKind.i64.wrap ((m : Int) - (a : Int)) = ((m - a : Nat) : Int) := wsub (by omega) (by omega)
  have g0 : decide (((m - a : Nat) : Int) = 1) = false := decide_eq_false (by omega)
  have w5 : IntKind.i64.wrap ((b : Int) - (m : Int)) = ((b - m : Nat) : Int) := wsub (by omega) (by omega)
  have g5 : decide (((b - m : Nat) : Int) = 1) = false := decide_eq_false (by omega)
  obtain ⟨h1, h2, h3, h4⟩ := half_w a b (by omega)
  rw [← hm] at h3 h4
  have w6 : IntKind.i64.wrap ((mid : Int) + (m : Int)) = (N : Int) := wadd hN.symm (by omega)
  have w7 : IntKind.i64.wrap ((N : Int) - 1) = ((N - 1 : Nat) : Int) := wsub (i := 1) (by omega) (by omega)
  refine AC_of Tryz.func187 rfl Tryz.ntmps187 Tryz.results187 (by kernel_rfl) rfl ?_
  simp only [List.zipIdx, List.map, Nat.zero_add, Nat.reduceAdd]
  repeat (first | apply Aw_seq | apply Aw_block | apply Aw_skip | apply Aw_exit | refine Aw_condt rfl ?_ | refine Aw_condf rfl ?_ | ((first | refine qr ?_ | refine qd (by kernel_rfl) (by kernel_rfl) ?_); simp only [go_sem, jE, reduceIte, jA, jM, jS, jL, jD, jB, w0, g0, w5, g5, h1, h2, h3, h4, w6]) | refine dk (by kernel_rfl) ?_)
  refine cut_seq (J := fun (_ : Unit) => S ((21, .t (iT (hi : Nat))) :: (20, .t (iT (lo : Nat))) :: (19, .t (iT (N : Nat))) :: (18, .t (iT (mid : Nat))) :: smSl a m b) (hpL [some (eRow xs)]) 1) ?_ ?_
  · by_cases c : mid < m
    · have c1 : decide ((mid : Int) < (m : Int)) = true := decide_eq_true (by omega)
      obtain ⟨q1, q2⟩ : lo + b = N ∧ hi = mid := by rcases hl with ⟨_, q⟩ | ⟨q, _⟩; exact q; omega
      have w8 : IntKind.i64.wrap ((N : Int) - (b : Int)) = (lo : Int) := wsub (by omega) (by omega)
      subst q2
      rw [c1]
      repeat (first | apply Aw_seq | apply Aw_block | apply Aw_skip | apply Aw_exit | refine Aw_condt rfl ?_ | refine Aw_condf rfl ?_ | ((first | refine qr ?_ | refine qd (by kernel_rfl) (by kernel_rfl) ?_); simp only [go_sem, jE, reduceIte, jA, jM, jS, jL, jD, jB, w8]) | refine dk (by kernel_rfl) ?_)
      exact ⟨(), [0], rwL (by repeat (first | exact trivial | refine ⟨rfl, rfl, ?_⟩)) (by rfl) (by simp only [go_sem, jE, reduceIte, jA, jM, jS, jL, jD, jB]; first | done | rfl) (by decide) (by unfold idM; decide)⟩
    · have c1 : decide ((mid : Int) < (m : Int)) = false := decide_eq_false (by omega)
      obtain ⟨q1, q2⟩ : lo = a ∧ hi = m := by rcases hl with ⟨q, _⟩ | ⟨_, q⟩; omega; exact q
      subst q1 q2
      rw [c1]
      repeat (first | apply Aw_seq | apply Aw_block | apply Aw_skip | apply Aw_exit | refine Aw_condt rfl ?_ | refine Aw_condf rfl ?_ | ((first | refine qr ?_ | refine qd (by kernel_rfl) (by kernel_rfl) ?_); simp only [go_sem, jE, reduceIte, jA, jM, jS, jL, jD, jB]) | refine dk (by kernel_rfl) ?_)
      exact ⟨(), [0], rwL (by repeat (first | exact trivial | refine ⟨rfl, rfl, ?_⟩)) (by rfl) (by simp only [go_sem, jE, reduceIte, jA, jM, jS, jL, jD, jB]; first | done | rfl) (by decide) (by unfold idM; decide)⟩
  intro _
  repeat (first | apply Aw_seq | apply Aw_block | apply Aw_skip | apply Aw_exit | refine Aw_condt rfl ?_ | refine Aw_condf rfl ?_ | ((first | refine qr ?_ | refine qd (by kernel_rfl) (by kernel_rfl) ?_); simp only [go_sem, jE, reduceIte, jA, jM, jS, jL, jD, jB, w7]) | refine dk (by kernel_rfl) ?_)
  refine Aw.rw (rwL (l' := (22, .t (iT (N - 1 : Nat))) :: (21, .t (iT (hi : Nat))) :: (20, .t (iT (lo : Nat))) :: (19, .t (iT (N : Nat))) :: (18, .t (iT (mid : Nat))) :: smSl a m b) (os := [some (eRow xs)]) (M := [0]) (n' := 1) (by repeat (first | exact trivial | refine ⟨rfl, rfl, ?_⟩)) (by rfl) (by simp only [go_sem, jE, reduceIte, jA, jM, jS, jL, jD, jB]; first | done | rfl) (by decide) (by unfold idM; decide)) ?_
  refine Aw_loop_rw (ι := BsI P lo hi r) (fun q => S ((22, .t (iT (N - 1 : Nat))) :: (21, .t (iT (q.j : Nat))) :: (20, .t (iT (q.i : Nat))) :: (19, .t (iT (N : Nat))) :: (18, .t (iT (mid : Nat))) :: smSl a m b) (hpL [some (eRow xs)]) 1) (fun q => q.j - q.i) ⟨lo, hi, b9, Nat.le_refl _, Nat.le_refl _, hr.symm⟩ ?_
  rintro ⟨i, j, hij, hlo, hhi, hbs⟩
  dsimp only
  by_cases c : i < j
  · have g1 : decide ((i : Int) < (j : Int)) = true := decide_eq_true (by omega)
    obtain ⟨h1, h2, h3, h4⟩ := half_w i j (by omega)
    have hu : bsF P i j = if P ((i + j) / 2) = true then bsF P ((i + j) / 2 + 1) j else bsF P i ((i + j) / 2) := by rw [bsF, dif_pos c]
    obtain ⟨h, hh⟩ : ∃ h, h = (i + j) / 2 := ⟨_, rfl⟩
    rw [← hh] at h3 h4 hu
    have w1 : IntKind.i64.wrap ((h : Int) + 1) = ((h + 1 : Nat) : Int) := wrap_succ (m := h + 1) (by omega) (by omega)
    have w2 : IntKind.i64.wrap (((N - 1 : Nat) : Int) - (h : Int)) = ((N - 1 - h : Nat) : Int) := wsub (by omega) (by omega)
    have l1 : h < xs.length := by omega
    have l2 : N - 1 - h < xs.length := by omega
    obtain ⟨x, hx⟩ : ∃ y, xs[N - 1 - h]? = some y := ⟨_, List.getElem?_eq_getElem l2⟩
    obtain ⟨y, hy⟩ : ∃ y, xs[h]? = some y := ⟨_, List.getElem?_eq_getElem l1⟩
    have kc := (cmp_ac x y).toLV
    have cn := cmpM_neg x y
    have pe : P h = !before x y := by rw [hP]; dsimp only; rw [hx, hy]
    rw [pe] at hu
    cases c2 : before x y
    · rw [c2] at cn hu
      rw [hu] at hbs
      repeat (first | apply Aw_seq | apply Aw_block | apply Aw_skip | apply Aw_exit | refine Aw_condt rfl ?_ | refine Aw_condf rfl ?_ | ((first | refine qr ?_ | refine qd (by kernel_rfl) (by kernel_rfl) ?_); simp only [go_sem, jE, reduceIte, jA, jM, jS, jL, jD, jB, g1, h1, h2, h3, h4, w1, w2, hx, hy, l1, l2, cn]) | refine dk (by kernel_rfl) ?_ | (refine ex_callv (by simp only [go_sem, jE, reduceIte, jA, jM, jS, jL, jD, jB, g1, h1, h2, h3, h4, w1, w2, hx, hy, l1, l2, cn]; first | done | rfl) (call_V (N' := []) (L := []) 2 (kc) rfl (.cons (.nm rfl) (.cons (.nm rfl) (.nil))) (by first | exact .nil | (simp only [capT, List.map]; exact .nil)) (by decide) (by decide) (by decide) (by simp only [go_sem, jE, reduceIte, jA, jM, jS, jL, jD, jB, g1, h1, h2, h3, h4, w1, w2, hx, hy, l1, l2, cn]; first | done | rfl) (.inl rfl) rfl (by decide)) (by simp only [go_sem, jE, reduceIte, jA, jM, jS, jL, jD, jB, g1, h1, h2, h3, h4, w1, w2, hx, hy, l1, l2, cn]; first | done | rfl) rfl (by simp only [go_sem, Nat.reduceLT]) ?_; simp only [go_sem, jE, reduceIte, jA, jM, jS, jL, jD, jB, g1, h1, h2, h3, h4, w1, w2, hx, hy, l1, l2, cn]))
      refine ⟨⟨h + 1, j, by omega, by omega, hhi, hbs⟩, [0], ?_, rwL (by repeat (first | exact trivial | refine ⟨rfl, rfl, ?_⟩)) (by rfl) (by simp only [go_sem, jE, reduceIte, jA, jM, jS, jL, jD, jB]; first | done | rfl) (by decide) (by unfold idM; decide)⟩
      show j - (h + 1) < j - i; omega
    · rw [c2] at cn hu
      rw [hu] at hbs
      repeat (first | apply Aw_seq | apply Aw_block | apply Aw_skip | apply Aw_exit | refine Aw_condt rfl ?_ | refine Aw_condf rfl ?_ | ((first | refine qr ?_ | refine qd (by kernel_rfl) (by kernel_rfl) ?_); simp only [go_sem, jE, reduceIte, jA, jM, jS, jL, jD, jB, g1, h1, h2, h3, h4, w2, hx, hy, l1, l2, cn]) | refine dk (by kernel_rfl) ?_ | (refine ex_callv (by simp only [go_sem, jE, reduceIte, jA, jM, jS, jL, jD, jB, g1, h1, h2, h3, h4, w2, hx, hy, l1, l2, cn]; first | done | rfl) (call_V (N' := []) (L := []) 2 (kc) rfl (.cons (.nm rfl) (.cons (.nm rfl) (.nil))) (by first | exact .nil | (simp only [capT, List.map]; exact .nil)) (by decide) (by decide) (by decide) (by simp only [go_sem, jE, reduceIte, jA, jM, jS, jL, jD, jB, g1, h1, h2, h3, h4, w2, hx, hy, l1, l2, cn]; first | done | rfl) (.inl rfl) rfl (by decide)) (by simp only [go_sem, jE, reduceIte, jA, jM, jS, jL, jD, jB, g1, h1, h2, h3, h4, w2, hx, hy, l1, l2, cn]; first | done | rfl) rfl (by simp only [go_sem, Nat.reduceLT]) ?_; simp only [go_sem, jE, reduceIte, jA, jM, jS, jL, jD, jB, g1, h1, h2, h3, h4, w2, hx, hy, l1, l2, cn]))
      refine ⟨⟨i, h, by omega, hlo, by omega, hbs⟩, [0], ?_, rwL (by repeat (first | exact trivial | refine ⟨rfl, rfl, ?_⟩)) (by rfl) (by simp only [go_sem, jE, reduceIte, jA, jM, jS, jL, jD, jB]; first | done | rfl) (by decide) (by unfold idM; decide)⟩
      show h - i < j - i; omega
  · have g1 : decide ((i : Int) < (j : Int)) = false := decide_eq_false (by omega)
    have er : i = r := by rw [← hbs, bsF, dif_neg c]
    subst er
    have w9 : IntKind.i64.wrap ((N : Int) - (i : Int)) = ((N - i : Nat) : Int) := wsub (by omega) (by omega)
    obtain ⟨Y1, hY1⟩ : ∃ Y1, Y1 = A ++ U1 ++ V1 ++ U2 ++ V2 ++ B := ⟨_, rfl⟩
    obtain ⟨Y2, hY2⟩ : ∃ Y2, Y2 = A ++ M1 ++ U2 ++ V2 ++ B := ⟨_, rfl⟩
    have l0 : ∀ L : List Ent, L = [] ↔ ¬ 0 < L.length := fun L => by rw [List.length_pos_iff]; simp
    iterate 8 (first | apply Aw_seq | apply Aw_block | apply Aw_skip | apply Aw_exit | refine Aw_condt rfl ?_ | refine Aw_condf rfl ?_ | ((first | refine qr ?_ | refine qd (by kernel_rfl) (by kernel_rfl) ?_); simp only [go_sem, jE, reduceIte, jA, jM, jS, jL, jD, jB, g1, w9]) | refine dk (by kernel_rfl) ?_)
    refine cut_seq (J := fun (_ : Unit) => S ((24, .t (iT (N - i : Nat))) :: (20, .t (iT (i : Nat))) :: (18, .t (iT (mid : Nat))) :: smSl a m b) (hpL [some (eRow Y1)]) 1) ?_ ?_
    · by_cases q1 : 0 < U2.length
      · have d1 : decide ((i : Int) < (m : Int)) = true := decide_eq_true (by omega)
        by_cases q2 : 0 < V1.length
        · have d2 : decide ((m : Int) < ((N - i : Nat) : Int)) = true := decide_eq_true (by omega)
          have k := rotate_ac (A ++ U1) U2 V1 (V2 ++ B) q1 q2 (by simp; omega) i m (N - i) (by simp; omega) (by simp; omega) (by simp; omega)
          rw [show (A ++ U1) ++ U2 ++ V1 ++ (V2 ++ B) = xs by rw [hxs]; simp, show (A ++ U1) ++ V1 ++ U2 ++ (V2 ++ B) = Y1 by rw [hY1]; simp] at k
          repeat (first | apply Aw_seq | apply Aw_block | apply Aw_skip | apply Aw_exit | refine Aw_condt rfl ?_ | refine Aw_condf rfl ?_ | ((first | refine qr ?_ | refine qd (by kernel_rfl) (by kernel_rfl) ?_); simp only [go_sem, jE, reduceIte, jA, jM, jS, jL, jD, jB, d1, d2]) | refine dk (by kernel_rfl) ?_ | (refine qx (call_L (N' := [0]) (L := []) (k) rfl (.cons (.nm rfl) (.cons (.nm rfl) (.cons (.nm rfl) (.cons (.nm rfl) (.cons (.nm rfl) (.nil)))))) (by decide) (by decide) (by decide) (by simp only [go_sem, jE, reduceIte, jA, jM, jS, jL, jD, jB, d1, d2]; first | done | rfl) (.inl rfl) rfl (by decide)) (by simp only [go_sem, jE, reduceIte, jA, jM, jS, jL, jD, jB, d1, d2]; first | done | rfl) rfl (by simp only [go_sem, Nat.reduceLT]) ?_; simp only [go_sem, jE, reduceIte, jA, jM, jS, jL, jD, jB, d1, d2]))
          exact ⟨(), [0], rwL (by repeat (first | exact trivial | refine ⟨rfl, rfl, ?_⟩)) (by rfl) (by simp only [go_sem, jE, reduceIte, jA, jM, jS, jL, jD, jB]; first | done | rfl) (by decide) (by unfold idM; decide)⟩
        · have d2 : decide ((m : Int) < ((N - i : Nat) : Int)) = false := decide_eq_false (by omega)
          rw [show xs = Y1 by rw [hxs, hY1, (l0 V1).2 q2]; simp]
          repeat (first | apply Aw_seq | apply Aw_block | apply Aw_skip | apply Aw_exit | refine Aw_condt rfl ?_ | refine Aw_condf rfl ?_ | ((first | refine qr ?_ | refine qd (by kernel_rfl) (by kernel_rfl) ?_); simp only [go_sem, jE, reduceIte, jA, jM, jS, jL, jD, jB, d1, d2]) | refine dk (by kernel_rfl) ?_)
          exact ⟨rfl, (), [0], rwL (by repeat (first | exact trivial | refine ⟨rfl, rfl, ?_⟩)) (by rfl) (by simp only [go_sem, jE, reduceIte, jA, jM, jS, jL, jD, jB]; first | done | rfl) (by decide) (by unfold idM; decide)⟩
      · have d1 : decide ((i : Int) < (m : Int)) = false := decide_eq_false (by omega)
        rw [show xs = Y1 by rw [hxs, hY1, (l0 U2).2 q1]; simp]
        repeat (first | apply Aw_seq | apply Aw_block | apply Aw_skip | apply Aw_exit | refine Aw_condt rfl ?_ | refine Aw_condf rfl ?_ | ((first | refine qr ?_ | refine qd (by kernel_rfl) (by kernel_rfl) ?_); simp only [go_sem, jE, reduceIte, jA, jM, jS, jL, jD, jB, d1]) | refine dk (by kernel_rfl) ?_)
        exact ⟨rfl, (), [0], rwL (by repeat (first | exact trivial | refine ⟨rfl, rfl, ?_⟩)) (by rfl) (by simp only [go_sem, jE, reduceIte, jA, jM, jS, jL, jD, jB]; first | done | rfl) (by decide) (by unfold idM; decide)⟩
    intro _
    iterate 1 (first | apply Aw_seq | apply Aw_block | apply Aw_skip | apply Aw_exit | refine Aw_condt rfl ?_ | refine Aw_condf rfl ?_ | ((first | refine qr ?_ | refine qd (by kernel_rfl) (by kernel_rfl) ?_); simp only [go_sem, jE, reduceIte, jA, jM, jS, jL, jD, jB, g1]) | refine dk (by kernel_rfl) ?_)
    refine cut_seq (J := fun (_ : Unit) => S ((24, .t (iT (N - i : Nat))) :: (18, .t (iT (mid : Nat))) :: smSl a m b) (hpL [some (eRow Y2)]) 1) ?_ ?_
    · by_cases q1 : 0 < U1.length
      · have d1 : decide ((a : Int) < (i : Int)) = true := decide_eq_true (by omega)
        by_cases q2 : 0 < V1.length
        · have d2 : decide ((i : Int) < (mid : Int)) = true := decide_eq_true (by omega)
          have k := e1 q1 q2
          rw [show A ++ U1 ++ V1 ++ (U2 ++ V2 ++ B) = Y1 by rw [hY1]; simp, show A ++ M1 ++ (U2 ++ V2 ++ B) = Y2 by rw [hY2]; simp] at k
          repeat (first | apply Aw_seq | apply Aw_block | apply Aw_skip | apply Aw_exit | refine Aw_condt rfl ?_ | refine Aw_condf rfl ?_ | ((first | refine qr ?_ | refine qd (by kernel_rfl) (by kernel_rfl) ?_); simp only [go_sem, jE, reduceIte, jA, jM, jS, jL, jD, jB, d1, d2]) | refine dk (by kernel_rfl) ?_ | (refine qx (call_L (N' := [0]) (L := []) (k) rfl (.cons (.nm rfl) (.cons (.nm rfl) (.cons (.nm rfl) (.cons (.nm rfl) (.cons (.nm rfl) (.nil)))))) (by decide) (by decide) (by decide) (by simp only [go_sem, jE, reduceIte, jA, jM, jS, jL, jD, jB, d1, d2]; first | done | rfl) (.inl rfl) rfl (by decide)) (by simp only [go_sem, jE, reduceIte, jA, jM, jS, jL, jD, jB, d1, d2]; first | done | rfl) rfl (by simp only [go_sem, Nat.reduceLT]) ?_; simp only [go_sem, jE, reduceIte, jA, jM, jS, jL, jD, jB, d1, d2]))
          exact ⟨(), [0], rwL (by repeat (first | exact trivial | refine ⟨rfl, rfl, ?_⟩)) (by rfl) (by simp only [go_sem, jE, reduceIte, jA, jM, jS, jL, jD, jB]; first | done | rfl) (by decide) (by unfold idM; decide)⟩
        · have d2 : decide ((i : Int) < (mid : Int)) = false := decide_eq_false (by omega)
          rw [show Y1 = Y2 by rw [hY1, hY2, n1 (.inr ((l0 V1).2 q2))]; simp]
          repeat (first | apply Aw_seq | apply Aw_block | apply Aw_skip | apply Aw_exit | refine Aw_condt rfl ?_ | refine Aw_condf rfl ?_ | ((first | refine qr ?_ | refine qd (by kernel_rfl) (by kernel_rfl) ?_); simp only [go_sem, jE, reduceIte, jA, jM, jS, jL, jD, jB, d1, d2]) | refine dk (by kernel_rfl) ?_)
          exact ⟨rfl, (), [0], rwL (by repeat (first | exact trivial | refine ⟨rfl, rfl, ?_⟩)) (by rfl) (by simp only [go_sem, jE, reduceIte, jA, jM, jS, jL, jD, jB]; first | done | rfl) (by decide) (by unfold idM; decide)⟩
      · have d1 : decide ((a : Int) < (i : Int)) = false := decide_eq_false (by omega)
        rw [show Y1 = Y2 by rw [hY1, hY2, n1 (.inl ((l0 U1).2 q1))]; simp]
        repeat (first | apply Aw_seq | apply Aw_block | apply Aw_skip | apply Aw_exit | refine Aw_condt rfl ?_ | refine Aw_condf rfl ?_ | ((first | refine qr ?_ | refine qd (by kernel_rfl) (by kernel_rfl) ?_); simp only [go_sem, jE, reduceIte, jA, jM, jS, jL, jD, jB, d1]) | refine dk (by kernel_rfl) ?_)
        exact ⟨rfl, (), [0], rwL (by repeat (first | exact trivial | refine ⟨rfl, rfl, ?_⟩)) (by rfl) (by simp only [go_sem, jE, reduceIte, jA, jM, jS, jL, jD, jB]; first | done | rfl) (by decide) (by unfold idM; decide)⟩
    intro _
    by_cases q1 : 0 < U2.length
    · have d1 : decide ((mid : Int) < ((N - i : Nat) : Int)) = true := decide_eq_true (by omega)
      by_cases q2 : 0 < V2.length
      · have d2 : decide (((N - i : Nat) : Int) < (b : Int)) = true := decide_eq_true (by omega)
        have k := e2 q1 q2
        rw [show A ++ M1 ++ U2 ++ V2 ++ B = Y2 by rw [hY2], show A ++ M1 ++ M2 ++ B = Z by rw [hZ]; simp] at k
        repeat (first | apply Aw_seq | apply Aw_block | apply Aw_skip | apply Aw_exit | refine Aw_condt rfl ?_ | refine Aw_condf rfl ?_ | ((first | refine qr ?_ | refine qd (by kernel_rfl) (by kernel_rfl) ?_); simp only [go_sem, jE, reduceIte, jA, jM, jS, jL, jD, jB, d1, d2]) | refine dk (by kernel_rfl) ?_ | (refine qx (call_L (N' := [0]) (L := []) (k) rfl (.cons (.nm rfl) (.cons (.nm rfl) (.cons (.nm rfl) (.cons (.nm rfl) (.cons (.nm rfl) (.nil)))))) (by decide) (by decide) (by decide) (by simp only [go_sem, jE, reduceIte, jA, jM, jS, jL, jD, jB, d1, d2]; first | done | rfl) (.inl rfl) rfl (by decide)) (by simp only [go_sem, jE, reduceIte, jA, jM, jS, jL, jD, jB, d1, d2]; first | done | rfl) rfl (by simp only [go_sem, Nat.reduceLT]) ?_; simp only [go_sem, jE, reduceIte, jA, jM, jS, jL, jD, jB, d1, d2]))
        exact (retL (M := [0]) (.inr rfl) (by simp only [resA, go_sem, jE, reduceIte, jA, jM, jS, jL, jD, jB]; first | done | rfl) rfl rfl (by rfl) (by simp only [go_sem, jE, reduceIte, jA, jM, jS, jL, jD, jB]; first | done | rfl | (and_intros <;> rfl)) (by decide) (by unfold idM; decide))
      · have d2 : decide (((N - i : Nat) : Int) < (b : Int)) = false := decide_eq_false (by omega)
        rw [show Y2 = Z by rw [hY2, hZ, n2 (.inr ((l0 V2).2 q2))]; simp]
        repeat (first | apply Aw_seq | apply Aw_block | apply Aw_skip | apply Aw_exit | refine Aw_condt rfl ?_ | refine Aw_condf rfl ?_ | ((first | refine qr ?_ | refine qd (by kernel_rfl) (by kernel_rfl) ?_); simp only [go_sem, jE, reduceIte, jA, jM, jS, jL, jD, jB, d1, d2]) | refine dk (by kernel_rfl) ?_)
        exact (retL (M := [0]) (.inr rfl) (by simp only [resA, go_sem, jE, reduceIte, jA, jM, jS, jL, jD, jB]; first | done | rfl) rfl rfl (by rfl) (by simp only [go_sem, jE, reduceIte, jA, jM, jS, jL, jD, jB]; first | done | rfl | (and_intros <;> rfl)) (by decide) (by unfold idM; decide))
    · have d1 : decide ((mid : Int) < ((N - i : Nat) : Int)) = false := decide_eq_false (by omega)
      rw [show Y2 = Z by rw [hY2, hZ, n2 (.inl ((l0 U2).2 q1))]; simp]
      repeat (first | apply Aw_seq | apply Aw_block | apply Aw_skip | apply Aw_exit | refine Aw_condt rfl ?_ | refine Aw_condf rfl ?_ | ((first | refine qr ?_ | refine qd (by kernel_rfl) (by kernel_rfl) ?_); simp only [go_sem, jE, reduceIte, jA, jM, jS, jL, jD, jB, d1]) | refine dk (by kernel_rfl) ?_)
      exact (retL (M := [0]) (.inr rfl) (by simp only [resA, go_sem, jE, reduceIte, jA, jM, jS, jL, jD, jB]; first | done | rfl) rfl rfl (by rfl) (by simp only [go_sem, jE, reduceIte, jA, jM, jS, jL, jD, jB]; first | done | rfl | (and_intros <;> rfl)) (by decide) (by unfold idM; decide))
theorem symOk : ∀ n, SymOk n
  | 0 => fun A U V B a m b h hU => by omega
  | n + 1 => fun A U V B a m b h hU hV hb ea em eb => by
    by_cases c1 : U.length = 1
    · obtain ⟨x, rfl⟩ := List.length_eq_one_iff.1 c1
      obtain ⟨R, e, p, s⟩ := symOne_ac A V B x hV (by simpa using hb) a m b ea (by simpa using em) (by simpa using eb)
      exact ⟨R, e, p, fun _ => s⟩
    · by_cases c2 : V.length = 1
      · obtain ⟨y, rfl⟩ := List.length_eq_one_iff.1 c2
        obtain ⟨R, e, p, s⟩ := symTwo_ac A U B y (by omega) (by simpa using hb) a m b ea em (by simpa using eb)
        exact ⟨R, e, p, fun h _ => s h⟩
      · exact symMain (symOk n) A U V B h (by omega) (by omega) hb a m b ea em eb
def MgH (A U V B : List Ent) : Prop := 0 < U.length ∧ 0 < V.length ∧ A.length + U.length + V.length + B.length ≤ 1000
theorem mg_ex {A U V B : List Ent} (h : MgH A U V B) : ∃ R, AC Tryz.prog 187 [.c (.h 0), iT (A.length : Nat), iT (A.length + U.length : Nat), iT (A.length + U.length + V.length : Nat), cmpV] (hpL [some (eRow (A ++ U ++ V ++ B))]) 1 ⟨.tup [], hpL [some (eRow (A ++ R ++ B))], 1⟩ ∧ R.Perm (U ++ V) ∧ (Sd U → Sd V → Sd R) :=
  symOk (U.length + V.length) A U V B _ _ _ (Nat.le_refl _) h.1 h.2.1 h.2.2 rfl rfl rfl
open Classical in
noncomputable def mgV (A U V B : List Ent) : List Ent := if h : MgH A U V B then Classical.choose (mg_ex h) else U ++ V
theorem mgV_ac {A U V B : List Ent} (h : MgH A U V B) (a m b : Nat) (ea : a = A.length) (em : m = A.length + U.length) (eb : b = A.length + U.length + V.length) : AC Tryz.prog 187 [.c (.h 0), iT a, iT m, iT b, cmpV] (hpL [some (eRow (A ++ U ++ V ++ B))]) 1 ⟨.tup [], hpL [some (eRow (A ++ mgV A U V B ++ B))], 1⟩ := by
  subst ea em eb
  unfold mgV; rw [dif_pos h]; exact (Classical.choose_spec (mg_ex h)).1
theorem mgV_perm (A U V B : List Ent) : (mgV A U V B).Perm (U ++ V) := by
  unfold mgV
  split
  · rename_i h; exact (Classical.choose_spec (mg_ex h)).2.1
  · exact .refl _
theorem mgV_sd {A U V B : List Ent} (h : MgH A U V B) (hu : Sd U) (hv : Sd V) : Sd (mgV A U V B) := by
  unfold mgV; rw [dif_pos h]; exact (Classical.choose_spec (mg_ex h)).2.2 hu hv
def Ch (s : Nat) : List (List Ent) → Prop
  | [] => True
  | c :: cs => (c.length = s ∨ (c.length ≤ s ∧ cs = [])) ∧ Sd c ∧ Ch s cs
def c0 (T : List Ent) : List (List Ent) := if h : 20 ≤ T.length then isort (T.take 20) :: c0 (T.drop 20) else [isort T]
termination_by T.length
decreasing_by rw [List.length_drop]; omega
theorem c0_ch (T : List Ent) : Ch 20 (c0 T) ∧ (c0 T).flatten.Perm T := by
  unfold c0
  by_cases h : 20 ≤ T.length
  · rw [dif_pos h]
    obtain ⟨h1, h2⟩ := c0_ch (T.drop 20)
    refine ⟨⟨.inl (by rw [(isort_perm _).length_eq, List.length_take]; omega), isort_sorted _, h1⟩, ?_⟩
    rw [List.flatten_cons]
    have := (isort_perm (T.take 20)).append h2
    rwa [List.take_append_drop] at this
  · rw [dif_neg h]
    exact ⟨⟨.inr ⟨by rw [(isort_perm _).length_eq]; omega, rfl⟩, isort_sorted _, trivial⟩, by simpa using isort_perm T⟩
termination_by T.length
decreasing_by rw [List.length_drop]; omega
noncomputable def m2 : List Ent → List (List Ent) → List (List Ent)
  | A, c1 :: c2 :: cs => (if 0 < c2.length then mgV A c1 c2 cs.flatten else c1) :: m2 (A ++ (if 0 < c2.length then mgV A c1 c2 cs.flatten else c1)) cs
  | _, [c1] => [c1]
  | _, [] => []
theorem m2_ch {s : Nat} (hs : 0 < s) : ∀ (cs : List (List Ent)) (A : List Ent), Ch s cs → A.length + cs.flatten.length ≤ 1000 → Ch (2 * s) (m2 A cs) ∧ (m2 A cs).flatten.Perm cs.flatten
  | [], A, _, _ => ⟨trivial, .refl _⟩
  | [c1], A, h, _ => by
    obtain ⟨q1, q2, _⟩ := h
    exact ⟨⟨.inr ⟨by rcases q1 with q | q <;> omega, rfl⟩, q2, trivial⟩, .refl _⟩
  | c1 :: c2 :: cs, A, h, hl => by
    obtain ⟨q1, q2, r1, r2, r3⟩ := h
    have l1 : c1.length = s := by
      rcases q1 with q | q
      · exact q
      · exact absurd q.2 (by simp)
    simp only [List.flatten_cons, List.length_append] at hl
    have e0 : c2.length = s → (0 < c2.length) := fun h => by omega
    simp only [m2]
    by_cases p2 : 0 < c2.length
    · rw [if_pos p2]
      have hm : MgH A c1 c2 cs.flatten := ⟨by omega, p2, by omega⟩
      have pm := mgV_perm A c1 c2 cs.flatten
      have lm : (mgV A c1 c2 cs.flatten).length = c1.length + c2.length := by simpa using pm.length_eq
      obtain ⟨g1, g2⟩ := m2_ch hs cs (A ++ mgV A c1 c2 cs.flatten) r3 (by rw [List.length_append, lm]; omega)
      refine ⟨⟨?_, mgV_sd hm q2 r2, g1⟩, ?_⟩
      · rcases r1 with r | ⟨r, rfl⟩
        · exact .inl (by omega)
        · exact .inr ⟨by omega, rfl⟩
      · rw [List.flatten_cons, List.flatten_cons, List.flatten_cons, ← List.append_assoc]
        exact pm.append g2
    · rw [if_neg p2]
      have e2 : c2 = [] := List.eq_nil_of_length_eq_zero (by omega)
      rcases r1 with r | ⟨r, rfl⟩
      · exact absurd (e0 r) p2
      · refine ⟨⟨.inr ⟨by omega, rfl⟩, q2, trivial⟩, ?_⟩
        rw [e2]; simp [m2]
noncomputable def l1Z (n : Nat) : Nat → Nat → List (List Ent) → List (List Ent)
  | 0, _, cs => cs
  | d + 1, s, cs => if s < n then l1Z n d (2 * s) (m2 [] cs) else cs
theorem ch_sorted {s : Nat} : ∀ {cs : List (List Ent)}, Ch s cs → cs.flatten.length ≤ s → 0 < s → Sd cs.flatten := by
  intro cs
  cases cs with
  | nil => intro _ _ _; exact .nil
  | cons c cs =>
    intro h hl hs
    obtain ⟨q1, q2, q3⟩ := h
    rw [List.flatten_cons] at hl ⊢
    rw [List.length_append] at hl
    have : cs.flatten = [] := by
      rcases q1 with q1 | q1
      · exact List.eq_nil_of_length_eq_zero (by omega)
      · rw [q1.2]; rfl
    rw [this, List.append_nil]; exact q2
theorem l1Z_ok (n : Nat) (hn : n ≤ 1000) : ∀ (d s : Nat) (cs : List (List Ent)), n ≤ s + d → 0 < s → Ch s cs → cs.flatten.length = n → Sd (l1Z n d s cs).flatten ∧ (l1Z n d s cs).flatten.Perm cs.flatten
  | 0, s, cs, h1, h2, hc, hl => (show Sd cs.flatten ∧ cs.flatten.Perm cs.flatten from ⟨ch_sorted hc (by omega) h2, .refl _⟩)
  | d + 1, s, cs, h1, h2, hc, hl => by
    unfold l1Z
    by_cases c : s < n
    · rw [if_pos c]
      obtain ⟨g1, g2⟩ := m2_ch h2 cs [] hc (by rw [List.length_nil]; omega)
      obtain ⟨k1, k2⟩ := l1Z_ok n hn d (2 * s) (m2 [] cs) (by omega) (by omega) g1 (by rw [g2.length_eq]; exact hl)
      exact ⟨k1, k2.trans g2⟩
    · rw [if_neg c]
      exact ⟨ch_sorted hc (by omega) h2, .refl _⟩
noncomputable def sortE (xs : List Ent) : List Ent := (l1Z xs.length xs.length 20 (c0 xs)).flatten
theorem sortE_ok (xs : List Ent) (h : xs.length ≤ 1000) : Sd (sortE xs) ∧ (sortE xs).Perm xs := by
  obtain ⟨g1, g2⟩ := c0_ch xs
  obtain ⟨k1, k2⟩ := l1Z_ok xs.length h xs.length 20 (c0 xs) (by omega) (by omega) g1 g2.length_eq
  exact ⟨k1, k2.trans g2⟩
structure S0I (CS : List (List Ent)) (n : Nat) where
  cs : List (List Ent)
  T : List Ent
  xs : List Ent
  a : Nat
  b : Nat
  hb : b = a + 20
  ha : a = cs.flatten.length
  hn : n = a + T.length
  hx : xs = cs.flatten ++ T
  h : cs ++ c0 T = CS
structure S1I (CZ : List (List Ent)) (n : Nat) where
  s : Nat
  d : Nat
  cs : List (List Ent)
  xs : List Ent
  hd : n ≤ s + d
  hs : 0 < s
  hs2 : s ≤ 2000
  hc : Ch s cs
  hl : cs.flatten.length = n
  hx : xs = cs.flatten
  h : l1Z n d s cs = CZ
structure S2I (CS : List (List Ent)) (n s : Nat) where
  D : List (List Ent)
  cs : List (List Ent)
  xs : List Ent
  a : Nat
  b : Nat
  ha : a = D.flatten.length
  hb : b = a + 2 * s
  hc : Ch s cs
  hn : n = a + cs.flatten.length
  hx : xs = D.flatten ++ cs.flatten
  h : D ++ m2 D.flatten cs = CS
theorem ch_pair {s : Nat} {cs : List (List Ent)} (hs : 0 < s) (h : Ch s cs) (hl : 2 * s ≤ cs.flatten.length) : ∃ c1 c2 cs', cs = c1 :: c2 :: cs' ∧ c1.length = s ∧ c2.length = s := by
  match cs, h with
  | [], _ => simp at hl; omega
  | [c1], h =>
    obtain ⟨q, _⟩ := h
    rw [List.flatten_cons, List.flatten_nil, List.append_nil] at hl
    rcases q with q | q <;> omega
  | c1 :: c2 :: cs', h =>
    obtain ⟨q1, _, q2, _⟩ := h
    have l1 : c1.length = s := by
      rcases q1 with q | q
      · exact q
      · exact absurd q.2 (by simp)
    refine ⟨c1, c2, cs', rfl, l1, ?_⟩
    rcases q2 with q | ⟨q, rfl⟩
    · exact q
    · simp only [List.flatten_cons, List.flatten_nil, List.append_nil, List.length_append] at hl; omega
theorem ch_tail {s : Nat} {cs : List (List Ent)} (A : List Ent) (hs : 0 < s) (h : Ch s cs) (hl : cs.flatten.length < 2 * s) : (∃ c1 c2, cs = [c1, c2] ∧ c1.length = s ∧ 0 < c2.length) ∨ (cs.flatten.length ≤ s ∧ (m2 A cs).flatten = cs.flatten) := by
  match cs, h with
  | [], _ => exact .inr ⟨by simp, rfl⟩
  | [c1], h =>
    obtain ⟨q, _⟩ := h
    refine .inr ⟨?_, rfl⟩
    rw [List.flatten_cons, List.flatten_nil, List.append_nil]
    rcases q with q | q <;> omega
  | c1 :: c2 :: cs', h =>
    obtain ⟨q1, _, q2, _⟩ := h
    have l1 : c1.length = s := by
      rcases q1 with q | q
      · exact q
      · exact absurd q.2 (by simp)
    simp only [List.flatten_cons, List.length_append] at hl
    rcases q2 with q | ⟨q, rfl⟩
    · omega
    · by_cases p : 0 < c2.length
      · exact .inl ⟨c1, c2, rfl, l1, p⟩
      · have e : c2 = [] := List.eq_nil_of_length_eq_zero (by omega)
        subst e
        exact .inr ⟨by simp [l1], by simp [m2]⟩
abbrev stSlo (n : Nat) : List (Nat × AV) := [(2, .t cmpV), (1, .t (iT n)), (0, .t (.c (.h 0)))]
theorem stable_ac (xs : List Ent) (n : Nat) (hn : n = xs.length) (hl : n ≤ 1000) : AC Tryz.prog 170 [.c (.h 0), iT n, cmpV] (hpL [some (eRow xs)]) 1 ⟨.tup [], hpL [some (eRow (sortE xs))], 1⟩ := by
  obtain ⟨Z, hZ⟩ : ∃ Z, Z = sortE xs := ⟨_, rfl⟩
  rw [← hZ]
  obtain ⟨CS, hCS⟩ : ∃ CS, CS = c0 xs := ⟨_, rfl⟩
  obtain ⟨CZ, hCZ⟩ : ∃ CZ, CZ = l1Z n n 20 CS := ⟨_, rfl⟩
  have hZ2 : Z = CZ.flatten := by rw [hZ, hCZ, hCS, hn]; rfl
  obtain ⟨ch1, ch2⟩ := c0_ch xs
  rw [← hCS] at ch1 ch2
  have chl : CS.flatten.length = n := by rw [ch2.length_eq, hn]
  refine AC_of Tryz.func170 rfl Tryz.ntmps170 Tryz.results170 (by kernel_rfl) rfl ?_
  simp only [List.zipIdx, List.map, Nat.zero_add, Nat.reduceAdd]
  repeat (first | apply Aw_seq | apply Aw_block | apply Aw_skip | apply Aw_exit | refine Aw_condt rfl ?_ | refine Aw_condf rfl ?_ | ((first | refine qr ?_ | refine qd (by kernel_rfl) (by kernel_rfl) ?_); simp only [go_sem, jE, reduceIte, jA, jM, jS, jL, jD, jB]) | refine dk (by kernel_rfl) ?_)
  refine Aw.rw (rwL (l' := (8, .t (iT (20 : Nat))) :: (7, .t (iT (0 : Nat))) :: (6, .t (iT (20 : Nat))) :: stSlo n) (os := [some (eRow xs)]) (M := [0]) (n' := 1) (by repeat (first | exact trivial | refine ⟨rfl, rfl, ?_⟩)) (by rfl) (by simp only [go_sem, jE, reduceIte, jA, jM, jS, jL, jD, jB]; first | done | rfl) (by decide) (by unfold idM; decide)) ?_
  refine Aw_loop_rw (ι := S0I CS n) (fun q => S ((8, .t (iT (q.b : Nat))) :: (7, .t (iT (q.a : Nat))) :: (6, .t (iT (20 : Nat))) :: stSlo n) (hpL [some (eRow q.xs)]) 1) (fun q => q.T.length) ⟨[], xs, xs, 0, 20, rfl, rfl, by omega, by simp, by rw [hCS]; rfl⟩ ?_
  rintro ⟨cs, T, ys, a, b, hb, ha, hna, hx, h⟩
  dsimp only
  by_cases c : 20 ≤ T.length
  · have g1 : decide ((b : Int) ≤ (n : Int)) = true := decide_eq_true (by omega)
    have wb : IntKind.i64.wrap ((b : Int) + ((20 : Nat) : Int)) = ((b + 20 : Nat) : Int) := wadd rfl (by omega)
    have k := insertion_ac cs.flatten (T.take 20) (T.drop 20) (by rw [List.append_assoc, List.take_append_drop, List.length_append]; omega) a b ha (by rw [List.length_take]; omega)
    rw [List.append_assoc, List.take_append_drop, ← hx] at k
    have e0 : c0 T = isort (T.take 20) :: c0 (T.drop 20) := by rw [c0, dif_pos c]
    have il : (isort (T.take 20)).length = 20 := by rw [(isort_perm _).length_eq, List.length_take]; omega
    obtain ⟨ys2, hy2⟩ : ∃ y, y = cs.flatten ++ isort (T.take 20) ++ T.drop 20 := ⟨_, rfl⟩
    rw [← hy2] at k
    repeat (first | apply Aw_seq | apply Aw_block | apply Aw_skip | apply Aw_exit | refine Aw_condt rfl ?_ | refine Aw_condf rfl ?_ | ((first | refine qr ?_ | refine qd (by kernel_rfl) (by kernel_rfl) ?_); simp only [go_sem, jE, reduceIte, jA, jM, jS, jL, jD, jB, g1, wb]) | refine dk (by kernel_rfl) ?_ | (refine qx (call_L (N' := [0]) (L := []) (k) rfl (.cons (.nm rfl) (.cons (.nm rfl) (.cons (.nm rfl) (.cons (.nm rfl) (.nil))))) (by decide) (by decide) (by decide) (by simp only [go_sem, jE, reduceIte, jA, jM, jS, jL, jD, jB, g1, wb]; first | done | rfl) (.inl rfl) rfl (by decide)) (by simp only [go_sem, jE, reduceIte, jA, jM, jS, jL, jD, jB, g1, wb]; first | done | rfl) rfl (by simp only [go_sem, Nat.reduceLT]) ?_; simp only [go_sem, jE, reduceIte, jA, jM, jS, jL, jD, jB, g1, wb]))
    refine ⟨⟨cs ++ [isort (T.take 20)], T.drop 20, ys2, b, b + 20, rfl, by rw [List.flatten_append, List.flatten_cons, List.flatten_nil, List.append_nil, List.length_append, il]; omega, by rw [List.length_drop]; omega, by rw [hy2]; simp, by rw [← h, e0]; simp⟩, [0], ?_, rwL (by repeat (first | exact trivial | refine ⟨rfl, rfl, ?_⟩)) (by rfl) (by simp only [go_sem, jE, reduceIte, jA, jM, jS, jL, jD, jB]; first | done | rfl) (by decide) (by unfold idM; decide)⟩
    show (T.drop 20).length < T.length; rw [List.length_drop]; omega
  · have g1 : decide ((b : Int) ≤ (n : Int)) = false := decide_eq_false (by omega)
    have e0 : c0 T = [isort T] := by rw [c0, dif_neg c]
    have k := insertion_ac cs.flatten T [] (by rw [List.append_nil, List.length_append]; omega) a n ha (by omega)
    rw [List.append_nil, List.append_nil, ← hx] at k
    have e1 : cs.flatten ++ isort T = CS.flatten := by rw [← h, e0]; simp
    rw [e1] at k
    obtain ⟨ys2, hy2⟩ : ∃ y, y = CS.flatten := ⟨_, rfl⟩
    rw [← hy2] at k
    repeat (first | apply Aw_seq | apply Aw_block | apply Aw_skip | apply Aw_exit | refine Aw_condt rfl ?_ | refine Aw_condf rfl ?_ | ((first | refine qr ?_ | refine qd (by kernel_rfl) (by kernel_rfl) ?_); simp only [go_sem, jE, reduceIte, jA, jM, jS, jL, jD, jB, g1]) | refine dk (by kernel_rfl) ?_ | (refine qx (call_L (N' := [0]) (L := []) (k) rfl (.cons (.nm rfl) (.cons (.nm rfl) (.cons (.nm rfl) (.cons (.nm rfl) (.nil))))) (by decide) (by decide) (by decide) (by simp only [go_sem, jE, reduceIte, jA, jM, jS, jL, jD, jB, g1]; first | done | rfl) (.inl rfl) rfl (by decide)) (by simp only [go_sem, jE, reduceIte, jA, jM, jS, jL, jD, jB, g1]; first | done | rfl) rfl (by simp only [go_sem, Nat.reduceLT]) ?_; simp only [go_sem, jE, reduceIte, jA, jM, jS, jL, jD, jB, g1]))
    refine Aw.rw (rwL (l' := (6, .t (iT (20 : Nat))) :: stSlo n) (os := [some (eRow ys2)]) (M := [0]) (n' := 1) (by repeat (first | exact trivial | refine ⟨rfl, rfl, ?_⟩)) (by rfl) (by simp only [go_sem, jE, reduceIte, jA, jM, jS, jL, jD, jB]; first | done | rfl) (by decide) (by unfold idM; decide)) ?_
    refine Aw_loop_rw (ι := S1I CZ n) (fun q => S ((6, .t (iT (q.s : Nat))) :: stSlo n) (hpL [some (eRow q.xs)]) 1) (fun q => n - q.s) ⟨20, n, CS, ys2, by omega, by omega, by omega, ch1, chl, hy2, hCZ.symm⟩ ?_
    clear k e1 e0 g1 c hx h hna ha hb hy2 chl ch2 ch1 hCZ hCS hZ
    clear cs T ys a b ys2
    rintro ⟨s, d, cs, ys, hd, hs, hs2, hc, hcl, hx, h⟩
    dsimp only
    by_cases c : s < n
    · have g1 : decide ((s : Int) < (n : Int)) = true := decide_eq_true (by omega)
      have w1 : IntKind.i64.wrap (2 * (s : Int)) = ((2 * s : Nat) : Int) := by rw [show (2 : Int) * (s : Int) = ((2 * s : Nat) : Int) by omega]; exact wrap_nat (by omega)
      have w2 : IntKind.i64.wrap ((s : Int) * 2) = ((2 * s : Nat) : Int) := by rw [show (s : Int) * 2 = ((2 * s : Nat) : Int) by omega]; exact wrap_nat (by omega)
      obtain ⟨d, rfl⟩ : ∃ d', d = d' + 1 := ⟨d - 1, by omega⟩
      have h2 : l1Z n d (2 * s) (m2 [] cs) = CZ := by rw [← h]; simp only [l1Z]; rw [if_pos c]
      obtain ⟨g2, g3⟩ := m2_ch hs cs [] hc (by rw [List.length_nil]; omega)
      obtain ⟨C2, hC2⟩ : ∃ C2, C2 = m2 [] cs := ⟨_, rfl⟩
      rw [← hC2] at h2 g2 g3
      have c2l : C2.flatten.length = n := by rw [g3.length_eq, hcl]
      repeat (first | apply Aw_seq | apply Aw_block | apply Aw_skip | apply Aw_exit | refine Aw_condt rfl ?_ | refine Aw_condf rfl ?_ | ((first | refine qr ?_ | refine qd (by kernel_rfl) (by kernel_rfl) ?_); simp only [go_sem, jE, reduceIte, jA, jM, jS, jL, jD, jB, g1, w1]) | refine dk (by kernel_rfl) ?_)
      refine Aw.rw (rwL (l' := (8, .t (iT (2 * s : Nat))) :: (7, .t (iT (0 : Nat))) :: (6, .t (iT (s : Nat))) :: stSlo n) (os := [some (eRow ys)]) (M := [0]) (n' := 1) (by repeat (first | exact trivial | refine ⟨rfl, rfl, ?_⟩)) (by rfl) (by simp only [go_sem, jE, reduceIte, jA, jM, jS, jL, jD, jB]; first | done | rfl) (by decide) (by unfold idM; decide)) ?_
      refine Aw_loop_rw (ι := S2I C2 n s) (fun q => S ((8, .t (iT (q.b : Nat))) :: (7, .t (iT (q.a : Nat))) :: (6, .t (iT (s : Nat))) :: stSlo n) (hpL [some (eRow q.xs)]) 1) (fun q => q.cs.length) ⟨[], cs, ys, 0, 2 * s, rfl, by omega, hc, by omega, by rw [hx]; rfl, by rw [hC2]; rfl⟩ ?_
      clear hcl hx hC2 g3 hc h
      clear cs ys
      rintro ⟨D, cs, ys, a, b, ha, hb, hc, hna, hx, h⟩
      dsimp only
      by_cases cc : b ≤ n
      · have g4 : decide ((b : Int) ≤ (n : Int)) = true := decide_eq_true (by omega)
        obtain ⟨c1, c2, cs', rfl, l1, l2⟩ := ch_pair hs hc (by omega)
        obtain ⟨_, _, _, _, r3⟩ := hc
        have lf : (c1 :: c2 :: cs').flatten.length = s + s + cs'.flatten.length := by simp only [List.flatten_cons, List.length_append]; omega
        have wm : IntKind.i64.wrap ((a : Int) + (s : Int)) = ((a + s : Nat) : Int) := wadd rfl (by omega)
        have wb : IntKind.i64.wrap ((b : Int) + ((2 * s : Nat) : Int)) = ((b + 2 * s : Nat) : Int) := wadd rfl (by omega)
        have hm : MgH D.flatten c1 c2 cs'.flatten := ⟨by omega, by omega, by omega⟩
        have k := mgV_ac hm a (a + s) b ha (by omega) (by omega)
        have lm : (mgV D.flatten c1 c2 cs'.flatten).length = s + s := by have := (mgV_perm D.flatten c1 c2 cs'.flatten).length_eq; rw [List.length_append] at this; omega
        have hR : m2 D.flatten (c1 :: c2 :: cs') = mgV D.flatten c1 c2 cs'.flatten :: m2 (D.flatten ++ mgV D.flatten c1 c2 cs'.flatten) cs' := by simp only [m2]; rw [if_pos (by omega)]
        rw [hR] at h
        generalize mgV D.flatten c1 c2 cs'.flatten = R at k lm h hR
        rw [show D.flatten ++ c1 ++ c2 ++ cs'.flatten = ys by rw [hx]; simp only [List.flatten_cons, List.append_assoc]] at k
        obtain ⟨ys2, hy2⟩ : ∃ y, y = D.flatten ++ R ++ cs'.flatten := ⟨_, rfl⟩
        rw [← hy2] at k
        have eD : (D ++ [R]).flatten = D.flatten ++ R := by rw [List.flatten_append, List.flatten_cons, List.flatten_nil, List.append_nil]
        repeat (first | apply Aw_seq | apply Aw_block | apply Aw_skip | apply Aw_exit | refine Aw_condt rfl ?_ | refine Aw_condf rfl ?_ | ((first | refine qr ?_ | refine qd (by kernel_rfl) (by kernel_rfl) ?_); simp only [go_sem, jE, reduceIte, jA, jM, jS, jL, jD, jB, g4, wm, w1, wb]) | refine dk (by kernel_rfl) ?_ | (refine qx (call_L (N' := [0]) (L := []) (k) rfl (.cons (.nm rfl) (.cons (.nm rfl) (.cons (.nm rfl) (.cons (.nm rfl) (.cons (.nm rfl) (.nil)))))) (by decide) (by decide) (by decide) (by simp only [go_sem, jE, reduceIte, jA, jM, jS, jL, jD, jB, g4, wm, w1, wb]; first | done | rfl) (.inl rfl) rfl (by decide)) (by simp only [go_sem, jE, reduceIte, jA, jM, jS, jL, jD, jB, g4, wm, w1, wb]; first | done | rfl) rfl (by simp only [go_sem, Nat.reduceLT]) ?_; simp only [go_sem, jE, reduceIte, jA, jM, jS, jL, jD, jB, g4, wm, w1, wb]))
        refine ⟨⟨D ++ [R], cs', ys2, b, b + 2 * s, by rw [eD, List.length_append, lm]; omega, rfl, r3, by omega, by rw [eD, hy2], by rw [eD, ← h]; simp⟩, [0], ?_, rwL (by repeat (first | exact trivial | refine ⟨rfl, rfl, ?_⟩)) (by rfl) (by simp only [go_sem, jE, reduceIte, jA, jM, jS, jL, jD, jB]; first | done | rfl) (by decide) (by unfold idM; decide)⟩
        show cs'.length < cs'.length + 1 + 1; omega
      · have g4 : decide ((b : Int) ≤ (n : Int)) = false := decide_eq_false (by omega)
        have wm : IntKind.i64.wrap ((a : Int) + (s : Int)) = ((a + s : Nat) : Int) := wadd rfl (by omega)
        rcases ch_tail D.flatten hs hc (by omega) with ⟨c1, c2, rfl, l1, l2⟩ | ⟨t1, t2⟩
        · have lf : [c1, c2].flatten.length = s + c2.length := by simp only [List.flatten_cons, List.flatten_nil, List.append_nil, List.length_append]; omega
          have g5 : decide (((a + s : Nat) : Int) < (n : Int)) = true := decide_eq_true (by omega)
          have hm : MgH D.flatten c1 c2 ([] : List (List Ent)).flatten := ⟨by omega, l2, by rw [List.flatten_nil, List.length_nil]; omega⟩
          have k := mgV_ac hm a (a + s) n ha (by omega) (by omega)
          have hR : m2 D.flatten [c1, c2] = [mgV D.flatten c1 c2 ([] : List (List Ent)).flatten] := by simp only [m2]; rw [if_pos l2]
          rw [hR] at h
          generalize mgV D.flatten c1 c2 ([] : List (List Ent)).flatten = R at k h hR
          rw [show D.flatten ++ c1 ++ c2 ++ ([] : List (List Ent)).flatten = ys by rw [hx]; simp only [List.flatten_cons, List.flatten_nil, List.append_assoc]] at k
          obtain ⟨ys2, hy2⟩ : ∃ y, y = D.flatten ++ R ++ ([] : List (List Ent)).flatten := ⟨_, rfl⟩
          rw [← hy2] at k
          have e2 : ys2 = C2.flatten := by rw [hy2, ← h]; simp
          repeat (first | apply Aw_seq | apply Aw_block | apply Aw_skip | apply Aw_exit | refine Aw_condt rfl ?_ | refine Aw_condf rfl ?_ | ((first | refine qr ?_ | refine qd (by kernel_rfl) (by kernel_rfl) ?_); simp only [go_sem, jE, reduceIte, jA, jM, jS, jL, jD, jB, g4, g5, wm, w2]) | refine dk (by kernel_rfl) ?_ | (refine qx (call_L (N' := [0]) (L := []) (k) rfl (.cons (.nm rfl) (.cons (.nm rfl) (.cons (.nm rfl) (.cons (.nm rfl) (.cons (.nm rfl) (.nil)))))) (by decide) (by decide) (by decide) (by simp only [go_sem, jE, reduceIte, jA, jM, jS, jL, jD, jB, g4, g5, wm, w2]; first | done | rfl) (.inl rfl) rfl (by decide)) (by simp only [go_sem, jE, reduceIte, jA, jM, jS, jL, jD, jB, g4, g5, wm, w2]; first | done | rfl) rfl (by simp only [go_sem, Nat.reduceLT]) ?_; simp only [go_sem, jE, reduceIte, jA, jM, jS, jL, jD, jB, g4, g5, wm, w2]))
          refine ⟨⟨2 * s, d, C2, ys2, by omega, by omega, by omega, g2, c2l, e2, h2⟩, [0], ?_, rwL (by repeat (first | exact trivial | refine ⟨rfl, rfl, ?_⟩)) (by rfl) (by simp only [go_sem, jE, reduceIte, jA, jM, jS, jL, jD, jB]; first | done | rfl) (by decide) (by unfold idM; decide)⟩
          show n - 2 * s < n - s; omega
        · have g5 : decide (((a + s : Nat) : Int) < (n : Int)) = false := decide_eq_false (by omega)
          have e2 : ys = C2.flatten := by rw [hx, ← h, List.flatten_append, t2]
          repeat (first | apply Aw_seq | apply Aw_block | apply Aw_skip | apply Aw_exit | refine Aw_condt rfl ?_ | refine Aw_condf rfl ?_ | ((first | refine qr ?_ | refine qd (by kernel_rfl) (by kernel_rfl) ?_); simp only [go_sem, jE, reduceIte, jA, jM, jS, jL, jD, jB, g4, g5, wm, w2]) | refine dk (by kernel_rfl) ?_)
          refine ⟨⟨2 * s, d, C2, ys, by omega, by omega, by omega, g2, c2l, e2, h2⟩, [0], ?_, rwL (by repeat (first | exact trivial | refine ⟨rfl, rfl, ?_⟩)) (by rfl) (by simp only [go_sem, jE, reduceIte, jA, jM, jS, jL, jD, jB]; first | done | rfl) (by decide) (by unfold idM; decide)⟩
          show n - 2 * s < n - s; omega
    · have g1 : decide ((s : Int) < (n : Int)) = false := decide_eq_false (by omega)
      have e1 : ys = Z := by
        rw [hZ2, ← h, hx]
        cases d with
        | zero => rfl
        | succ d => simp only [l1Z]; rw [if_neg c]
      rw [e1]
      repeat (first | apply Aw_seq | apply Aw_block | apply Aw_skip | apply Aw_exit | refine Aw_condt rfl ?_ | refine Aw_condf rfl ?_ | ((first | refine qr ?_ | refine qd (by kernel_rfl) (by kernel_rfl) ?_); simp only [go_sem, jE, reduceIte, jA, jM, jS, jL, jD, jB, g1]) | refine dk (by kernel_rfl) ?_)
      exact (retL (M := [0]) (.inr rfl) (by simp only [resA, go_sem, jE, reduceIte, jA, jM, jS, jL, jD, jB]; first | done | rfl) rfl rfl (by rfl) (by simp only [go_sem, jE, reduceIte, jA, jM, jS, jL, jD, jB]; first | done | rfl | (and_intros <;> rfl)) (by decide) (by unfold idM; decide))
theorem sortStable_ac (xs : List Ent) (hl : xs.length ≤ 1000) : AC Tryz.prog 145 [.c (.h 0), cmpV] (hpL [some (eRow xs)]) 1 ⟨.tup [], hpL [some (eRow (sortE xs))], 1⟩ := by
  refine AC_of Tryz.func145 rfl Tryz.ntmps145 Tryz.results145 (by kernel_rfl) rfl ?_
  simp only [List.zipIdx, List.map, Nat.zero_add, Nat.reduceAdd]
  have k := stable_ac xs xs.length rfl hl
  repeat (first | apply Aw_seq | apply Aw_block | apply Aw_skip | apply Aw_exit | refine Aw_condt rfl ?_ | refine Aw_condf rfl ?_ | ((first | refine qr ?_ | refine qd (by kernel_rfl) (by kernel_rfl) ?_); simp only [go_sem, jE, reduceIte, jA, jM, jS, jL, jD, jB]) | refine dk (by kernel_rfl) ?_ | (refine qx (call_L (N' := [0]) (L := []) (k) rfl (.cons (.nm rfl) (.cons (.nm rfl) (.cons (.nm rfl) (.nil)))) (by decide) (by decide) (by decide) (by simp only [go_sem, jE, reduceIte, jA, jM, jS, jL, jD, jB]; first | done | rfl) (.inl rfl) rfl (by decide)) (by simp only [go_sem, jE, reduceIte, jA, jM, jS, jL, jD, jB]; first | done | rfl) rfl (by simp only [go_sem, Nat.reduceLT]) ?_; simp only [go_sem, jE, reduceIte, jA, jM, jS, jL, jD, jB]))
  exact (retL (M := [0]) (.inr rfl) (by simp only [resA, go_sem, jE, reduceIte, jA, jM, jS, jL, jD, jB]; first | done | rfl) rfl rfl (by rfl) (by simp only [go_sem, jE, reduceIte, jA, jM, jS, jL, jD, jB]; first | done | rfl | (and_intros <;> rfl)) (by decide) (by unfold idM; decide))
theorem joinM_perm (a b : List Ent) : (joinM a b).Perm (a ++ b) := List.merge_perm_append before
theorem joinM_sd : ∀ {a b : List Ent}, Sd a → Sd b → Sd (joinM a b)
  | [], b, _, hb => by unfold joinM; rw [List.nil_merge]; exact hb
  | x :: a, [], ha, _ => by rw [joinM_nil]; exact ha
  | x :: a, y :: b, ha, hb => by
    rw [joinM_cc]
    obtain ⟨a1, a2⟩ := List.pairwise_cons.1 ha
    obtain ⟨b1, b2⟩ := List.pairwise_cons.1 hb
    cases c : before x y
    · simp only [Bool.false_eq_true, if_false]
      refine List.pairwise_cons.2 ⟨fun z hz => ?_, joinM_sd ha b2⟩
      rcases List.mem_append.1 ((joinM_perm _ _).mem_iff.1 hz) with h | h
      · rcases List.mem_cons.1 h with rfl | h
        · exact c
        · exact leE_trans c (a1 z h)
      · exact b1 z h
    · simp only [if_true]
      refine List.pairwise_cons.2 ⟨fun z hz => ?_, joinM_sd a2 hb⟩
      rcases List.mem_append.1 ((joinM_perm _ _).mem_iff.1 hz) with h | h
      · exact a1 z h
      · rcases List.mem_cons.1 h with rfl | h
        · exact bef_asym c
        · exact leE_trans (bef_asym c) (b1 z h)
termination_by a b => a.length + b.length
theorem run_sd {r : List Ent} (h : runOk r = true) : Sd r := (run_pw h).1.imp fun h => bef_asym h
theorem sd_run {xs ys : List Ent} (hx : Sd xs) (hy : runOk ys = true) (hp : xs.Perm ys) : xs = ys := by
  refine List.Perm.eq_of_pairwise (le := LeE) (fun a b ha hb h1 h2 => ?_) hx (run_sd hy) hp
  have ha := hp.mem_iff.1 ha
  obtain ⟨i, hi, rfl⟩ := List.getElem_of_mem ha
  obtain ⟨j, hj, rfl⟩ := List.getElem_of_mem hb
  have hpw := List.pairwise_iff_getElem.1 (run_pw hy).1
  rcases Nat.lt_trichotomy i j with h | h | h
  · have := hpw i j hi hj h
    have h2 : before ys[i] ys[j] = false := h2
    rw [this] at h2; cases h2
  · subst h; rfl
  · have := hpw j i hj hi h
    have h1 : before ys[j] ys[i] = false := h1
    rw [this] at h1; cases h1
theorem join_sort {a b : List Ent} (ha : runOk a = true) (hb : runOk b = true) (hl : (a ++ b).length ≤ 1000) : runOk (sortE (a ++ b)) = runOk (joinM a b) ∧ (runOk (joinM a b) = true → sortE (a ++ b) = joinM a b) := by
  obtain ⟨s1, s2⟩ := sortE_ok (a ++ b) hl
  have j1 := joinM_sd (run_sd ha) (run_sd hb)
  have p : (sortE (a ++ b)).Perm (joinM a b) := s2.trans (joinM_perm a b).symm
  cases c : runOk (joinM a b)
  · cases c2 : runOk (sortE (a ++ b))
    · exact ⟨rfl, fun h => by cases h⟩
    · have := sd_run j1 c2 p.symm
      rw [this, c2] at c; cases c
  · have := sd_run s1 c p
    exact ⟨by rw [this, c], fun _ => this⟩
theorem cloneRun_ac (r : List Ent) (hl : r.length ≤ 100000) : AC Tryz.prog 142 [runT r] noHp 0 ⟨.t (.c (.h 0)), hpL [some (eRow r)], 1⟩ := by
  refine AC_of Tryz.func142 rfl Tryz.ntmps142 Tryz.results142 (by kernel_rfl) rfl ?_
  simp only [List.zipIdx, List.map, Nat.zero_add, Nat.reduceAdd]
  have hb : r.length * 40 ≤ 140737488355328 := by omega
  repeat (first | apply Aw_seq | apply Aw_block | apply Aw_skip | apply Aw_exit | refine Aw_condt rfl ?_ | refine Aw_condf rfl ?_ | ((first | refine qr ?_ | refine qd (by kernel_rfl) (by kernel_rfl) ?_); simp only [go_sem, jE, reduceIte, jA, jM, jS, jL, jD, jB, hb]) | refine dk (by kernel_rfl) ?_)
  exact Aw_ret (retL (M := [2]) (.inl rfl) (by simp only [go_sem, jE, reduceIte, jA, jM, jS, jL, jD, jB]; first | done | rfl) rfl rfl (by rfl) (by simp only [go_sem, jE, reduceIte, jA, jM, jS, jL, jD, jB]; first | done | rfl | (and_intros <;> rfl)) (by decide) (by unfold idM; decide))
def joinI (a b : List Ent) : Option (List Ent) := if (runOk a && runOk b && runOk (joinM a b)) = true then some (joinM a b) else none
theorem runJoin_no (a b : List Ent) (ha : SmR a) (hb : SmR b) (h : joinI a b = none) : AC Tryz.prog 96 [runT a, runT b] noHp 0 ⟨.tup [.c (.d (.s (.slice none 0 0))), bT false], noHp, 0⟩ := by
  have k1 := runOk_ac a ha
  have k2 := runOk_ac b hb
  cases c1 : runOk a
  · rw [c1] at k1
    refine AC_of Tryz.func96 rfl Tryz.ntmps96 Tryz.results96 (by kernel_rfl) rfl ?_
    simp only [List.zipIdx, List.map, Nat.zero_add, Nat.reduceAdd]
    repeat (first | apply Aw_seq | apply Aw_block | apply Aw_skip | apply Aw_exit | refine Aw_condt rfl ?_ | refine Aw_condf rfl ?_ | ((first | refine qr ?_ | refine qd (by kernel_rfl) (by kernel_rfl) ?_); simp only [go_sem, jE, reduceIte, jA, jM, jS, jL, jD, jB]) | refine dk (by kernel_rfl) ?_ | (refine qp (k1) (by simp only [go_sem, jE, reduceIte, jA, jM, jS, jL, jD, jB]; first | done | rfl) rfl (by simp only [go_sem, Nat.reduceLT]) rfl rfl ?_; simp only [go_sem, jE, reduceIte, jA, jM, jS, jL, jD, jB]))
    exact Aw_ret (ret0 (.inl rfl) (by simp only [go_sem, jE, reduceIte, jA, jM, jS, jL, jD, jB]; rfl) (by rfl) rfl)
  rw [c1] at k1
  cases c2 : runOk b
  · rw [c2] at k2
    refine AC_of Tryz.func96 rfl Tryz.ntmps96 Tryz.results96 (by kernel_rfl) rfl ?_
    simp only [List.zipIdx, List.map, Nat.zero_add, Nat.reduceAdd]
    repeat (first | apply Aw_seq | apply Aw_block | apply Aw_skip | apply Aw_exit | refine Aw_condt rfl ?_ | refine Aw_condf rfl ?_ | ((first | refine qr ?_ | refine qd (by kernel_rfl) (by kernel_rfl) ?_); simp only [go_sem, jE, reduceIte, jA, jM, jS, jL, jD, jB]) | refine dk (by kernel_rfl) ?_ | (refine qp (k1) (by simp only [go_sem, jE, reduceIte, jA, jM, jS, jL, jD, jB]; first | done | rfl) rfl (by simp only [go_sem, Nat.reduceLT]) rfl rfl ?_; simp only [go_sem, jE, reduceIte, jA, jM, jS, jL, jD, jB]) | (refine qp (k2) (by simp only [go_sem, jE, reduceIte, jA, jM, jS, jL, jD, jB]; first | done | rfl) rfl (by simp only [go_sem, Nat.reduceLT]) rfl rfl ?_; simp only [go_sem, jE, reduceIte, jA, jM, jS, jL, jD, jB]))
    exact Aw_ret (ret0 (.inl rfl) (by simp only [go_sem, jE, reduceIte, jA, jM, jS, jL, jD, jB]; rfl) (by rfl) rfl)
  rw [c2] at k2
  have la := (run_pw c1).2.2
  have lb := (run_pw c2).2.2
  obtain ⟨j1, j2⟩ := join_sort c1 c2 (by rw [List.length_append]; omega)
  have c3 : runOk (joinM a b) = false := by
    unfold joinI at h; rw [c1, c2] at h
    cases c3 : runOk (joinM a b)
    · rfl
    · rw [c3] at h; simp at h
  have k3 := concat_ac a b (by omega) (by omega)
  have k4 := sortStable_ac (a ++ b) (by rw [List.length_append]; omega)
  have ls : (sortE (a ++ b)).length = a.length + b.length := by rw [(sortE_ok _ (by rw [List.length_append]; omega)).2.length_eq, List.length_append]
  have k5 := (runOk_ac (sortE (a ++ b)) ⟨by omega, fun e he => by
    rcases List.mem_append.1 ((sortE_ok _ (by rw [List.length_append]; omega)).2.mem_iff.1 he) with h | h
    · exact ha.key e h
    · exact hb.key e h⟩).toL0
  rw [j1, c3] at k5
  generalize sortE (a ++ b) = zs at k4 k5
  refine AC_of Tryz.func96 rfl Tryz.ntmps96 Tryz.results96 (by kernel_rfl) rfl ?_
  simp only [List.zipIdx, List.map, Nat.zero_add, Nat.reduceAdd]
  repeat (first | apply Aw_seq | apply Aw_block | apply Aw_skip | apply Aw_exit | refine Aw_condt rfl ?_ | refine Aw_condf rfl ?_ | ((first | refine qr ?_ | refine qd (by kernel_rfl) (by kernel_rfl) ?_); simp only [go_sem, jE, reduceIte, jA, jM, jS, jL, jD, jB]) | refine dk (by kernel_rfl) ?_ | (refine qp (k1) (by simp only [go_sem, jE, reduceIte, jA, jM, jS, jL, jD, jB]; first | done | rfl) rfl (by simp only [go_sem, Nat.reduceLT]) rfl rfl ?_; simp only [go_sem, jE, reduceIte, jA, jM, jS, jL, jD, jB]) | (refine qp (k2) (by simp only [go_sem, jE, reduceIte, jA, jM, jS, jL, jD, jB]; first | done | rfl) rfl (by simp only [go_sem, Nat.reduceLT]) rfl rfl ?_; simp only [go_sem, jE, reduceIte, jA, jM, jS, jL, jD, jB]) | (refine qx (call_L (N' := [10]) (L := []) (k3) rfl (.cons (.nm rfl) (.nil)) (by decide) (by decide) (by decide) (by simp only [go_sem, jE, reduceIte, jA, jM, jS, jL, jD, jB]; first | done | rfl) (.inl rfl) rfl (by decide)) (by simp only [go_sem, jE, reduceIte, jA, jM, jS, jL, jD, jB]; first | done | rfl) rfl (by simp only [go_sem, Nat.reduceLT]) ?_; simp only [go_sem, jE, reduceIte, jA, jM, jS, jL, jD, jB]) | (refine qx (call_L (N' := [11]) (L := []) (k4) rfl (.cons (.nm rfl) (.cons (.nm rfl) (.nil))) (by decide) (by decide) (by decide) (by simp only [go_sem, jE, reduceIte, jA, jM, jS, jL, jD, jB]; first | done | rfl) (.inl rfl) rfl (by decide)) (by simp only [go_sem, jE, reduceIte, jA, jM, jS, jL, jD, jB]; first | done | rfl) rfl (by simp only [go_sem, Nat.reduceLT]) ?_; simp only [go_sem, jE, reduceIte, jA, jM, jS, jL, jD, jB]) | (refine qx (call_N (L := [11]) (k5) rfl (.cons (arg_lend (m := 11) rfl (by simp)) (.nil)) (.inr ⟨rfl, by simp⟩) rfl) (by simp only [go_sem, jE, reduceIte, jA, jM, jS, jL, jD, jB]; first | done | rfl) rfl (by simp only [go_sem, Nat.reduceLT]) ?_; simp only [go_sem, jE, reduceIte, jA, jM, jS, jL, jD, jB]))
  exact Aw_ret (ret0 (.inl rfl) (by simp only [go_sem, jE, reduceIte, jA, jM, jS, jL, jD, jB]; rfl) (by rfl) rfl)
theorem runJoin_ok (a b : List Ent) (ha : SmR a) (hb : SmR b) (c1 : runOk a = true) (c2 : runOk b = true) (c3 : runOk (joinM a b) = true) : AC Tryz.prog 96 [runT a, runT b] noHp 0 ⟨.tup [.c (.h 0), bT true], hpL [some (eRow (joinM a b))], 1⟩ := by
  have k1 := runOk_ac a ha
  have k2 := runOk_ac b hb
  rw [c1] at k1
  rw [c2] at k2
  have la := (run_pw c1).2.2
  have lb := (run_pw c2).2.2
  obtain ⟨j1, j2⟩ := join_sort c1 c2 (by rw [List.length_append]; omega)
  have k3 := concat_ac a b (by omega) (by omega)
  have k4 := sortStable_ac (a ++ b) (by rw [List.length_append]; omega)
  have k5 := (runOk_ac (joinM a b) ⟨by have := (run_pw c3).2.2; omega, fun e he => by
    rcases List.mem_append.1 ((joinM_perm a b).mem_iff.1 he) with h | h
    · exact ha.key e h
    · exact hb.key e h⟩).toL0
  rw [c3] at k5
  rw [j2 c3] at k4
  have k6 := cloneRun_ac (joinM a b) (by have := (run_pw c3).2.2; omega)
  generalize joinM a b = zs at k4 k5 k6 ⊢
  refine AC_of Tryz.func96 rfl Tryz.ntmps96 Tryz.results96 (by kernel_rfl) rfl ?_
  simp only [List.zipIdx, List.map, Nat.zero_add, Nat.reduceAdd]
  repeat (first | apply Aw_seq | apply Aw_block | apply Aw_skip | apply Aw_exit | refine Aw_condt rfl ?_ | refine Aw_condf rfl ?_ | ((first | refine qr ?_ | refine qd (by kernel_rfl) (by kernel_rfl) ?_); simp only [go_sem, jE, reduceIte, jA, jM, jS, jL, jD, jB]) | refine dk (by kernel_rfl) ?_ | (refine qp (k1) (by simp only [go_sem, jE, reduceIte, jA, jM, jS, jL, jD, jB]; first | done | rfl) rfl (by simp only [go_sem, Nat.reduceLT]) rfl rfl ?_; simp only [go_sem, jE, reduceIte, jA, jM, jS, jL, jD, jB]) | (refine qp (k2) (by simp only [go_sem, jE, reduceIte, jA, jM, jS, jL, jD, jB]; first | done | rfl) rfl (by simp only [go_sem, Nat.reduceLT]) rfl rfl ?_; simp only [go_sem, jE, reduceIte, jA, jM, jS, jL, jD, jB]) | (refine qx (call_L (N' := [10]) (L := []) (k3) rfl (.cons (.nm rfl) (.nil)) (by decide) (by decide) (by decide) (by simp only [go_sem, jE, reduceIte, jA, jM, jS, jL, jD, jB]; first | done | rfl) (.inl rfl) rfl (by decide)) (by simp only [go_sem, jE, reduceIte, jA, jM, jS, jL, jD, jB]; first | done | rfl) rfl (by simp only [go_sem, Nat.reduceLT]) ?_; simp only [go_sem, jE, reduceIte, jA, jM, jS, jL, jD, jB]) | (refine qx (call_L (N' := [11]) (L := []) (k4) rfl (.cons (.nm rfl) (.cons (.nm rfl) (.nil))) (by decide) (by decide) (by decide) (by simp only [go_sem, jE, reduceIte, jA, jM, jS, jL, jD, jB]; first | done | rfl) (.inl rfl) rfl (by decide)) (by simp only [go_sem, jE, reduceIte, jA, jM, jS, jL, jD, jB]; first | done | rfl) rfl (by simp only [go_sem, Nat.reduceLT]) ?_; simp only [go_sem, jE, reduceIte, jA, jM, jS, jL, jD, jB]) | (refine qx (call_N (L := [11]) (k5) rfl (.cons (arg_lend (m := 11) rfl (by simp)) (.nil)) (.inr ⟨rfl, by simp⟩) rfl) (by simp only [go_sem, jE, reduceIte, jA, jM, jS, jL, jD, jB]; first | done | rfl) rfl (by simp only [go_sem, Nat.reduceLT]) ?_; simp only [go_sem, jE, reduceIte, jA, jM, jS, jL, jD, jB]) | (refine qx (call_N (L := [11]) (k6) rfl (.cons (arg_lend (m := 11) rfl (by simp)) (.nil)) (.inr ⟨rfl, by simp⟩) rfl) (by simp only [go_sem, jE, reduceIte, jA, jM, jS, jL, jD, jB]; first | done | rfl) rfl (by simp only [go_sem, Nat.reduceLT]) ?_; simp only [go_sem, jE, reduceIte, jA, jM, jS, jL, jD, jB]))
  exact Aw_ret (retL (M := [17]) (.inl rfl) (by simp only [go_sem, jE, reduceIte, jA, jM, jS, jL, jD, jB]; first | done | rfl) rfl rfl (by rfl) (by simp only [go_sem, jE, reduceIte, jA, jM, jS, jL, jD, jB]; first | done | rfl | (and_intros <;> rfl)) (by decide) (by unfold idM; decide))
theorem runJoinS_ac (a b : List Ent) (ha : SmR a) (hb : SmR b) : AC Tryz.prog 96 [runT a, runT b] noHp 0 ⟨.tup [runT ((joinI a b).getD []), bT (joinI a b).isSome], noHp, 0⟩ := by
  cases h : joinI a b with
  | none => exact AC.nilR (runJoin_no a b ha hb h) (.cons (NilC.nil _) (.cons (NilT.refl _) .nil))
  | some z =>
    unfold joinI at h
    split at h
    · rename_i hc
      simp only [Bool.and_eq_true] at hc
      obtain rfl := Option.some.inj h
      exact AC.settle0 [0] (runJoin_ok a b ha hb hc.1.1 hc.1.2 hc.2) (.cons (SetC.row0 rfl rfl) (.cons (.inl rfl) .nil)) rfl
    · cases h
theorem l11Trim_ac (r : List Ent) (ts : List Int) (b : Bool) (hr : r.length ≤ 100000) (ht : ts.length ≤ 100000) : AC Tryz.prog 169 [runT r, intsT ts, bT b] noHp 0 ⟨.t (.c (.h 0)), hpL [some (eRow (trimM r ts b))], 1⟩ := by
  refine AC_of Tryz.func169 rfl Tryz.ntmps169 Tryz.results169 (by kernel_rfl) rfl ?_
  simp only [List.zipIdx, List.map, Nat.zero_add, Nat.reduceAdd]
  repeat (first | apply Aw_seq | apply Aw_block | apply Aw_skip | apply Aw_exit | refine Aw_condt rfl ?_ | refine Aw_condf rfl ?_ | ((first | refine qr ?_ | refine qd (by kernel_rfl) (by kernel_rfl) ?_); simp only [go_sem, jE, reduceIte, jA, jM, jS, jL, jD, jB]) | refine dk (by kernel_rfl) ?_)
  refine Aw.rw (rwL (l' := [(8, .t (iT (0 : Nat))), (7, .t (.c (.h 0))), (2, .t (bT b)), (1, .t (intsT ts)), (0, .t (runT r))]) (os := [some (eRow (colI 0 (trimAt r ts)))]) (M := [1]) (n' := 1) (by repeat (first | exact trivial | refine ⟨rfl, rfl, ?_⟩)) (by rfl) (by simp only [go_sem, jE, reduceIte, jA, jM, jS, jL, jD, jB, colI_0, List.map_nil]; first | done | rfl) (by decide) (by unfold idM; decide)) ?_
  refine Aw_loop_rw (ι := { i : Nat // i ≤ r.length }) (fun q => S [(8, .t (iT (q.1 : Nat))), (7, .t (.c (.h 0))), (2, .t (bT b)), (1, .t (intsT ts)), (0, .t (runT r))] (hpL [some (eRow (colI q.1 (trimAt r ts)))]) 1) (fun q => r.length - q.1) ⟨0, Nat.zero_le _⟩ ?_
  rintro ⟨i, hi⟩
  dsimp only
  by_cases hlt : i < r.length
  · have h1 : (i : Int) < (r.length : Int) := by omega
    have w1 := wrap_succ hlt (by omega)
    obtain ⟨e, hx⟩ : ∃ e, r[i]? = some e := ⟨_, List.getElem?_eq_getElem hlt⟩
    have hb : ((colI i (trimAt r ts)).length + 1) * 40 ≤ 140737488355328 := by have := colI_len (n := i) (trimAt_len r ts); omega
    have k1 := l11Seen_ac r i ts e hx (by omega) (by omega)
    cases c : seenAt r ts i
    · have hc : colI (i + 1) (trimAt r ts) = colI i (trimAt r ts) := by rw [colI_succ]; simp [trimAt, hx, c]
      rw [c] at k1
      repeat (first | apply Aw_seq | apply Aw_block | apply Aw_skip | apply Aw_exit | refine Aw_condt rfl ?_ | refine Aw_condf rfl ?_ | ((first | refine qr ?_ | refine qd (by kernel_rfl) (by kernel_rfl) ?_); simp only [go_sem, jE, reduceIte, jA, jM, jS, jL, jD, jB, h1, w1, hx, c]) | refine dk (by kernel_rfl) ?_ | (refine qp (k1) (by simp only [go_sem, jE, reduceIte, jA, jM, jS, jL, jD, jB, h1, w1, hx, c]; first | done | rfl) rfl (by simp only [go_sem, Nat.reduceLT]) rfl rfl ?_; simp only [go_sem, jE, reduceIte, jA, jM, jS, jL, jD, jB, h1, w1, hx, c]))
      refine ⟨⟨i + 1, hlt⟩, [0], ?_, rwL (by repeat (first | exact trivial | refine ⟨rfl, rfl, ?_⟩)) (by rfl) (by simp only [go_sem, jE, reduceIte, jA, jM, jS, jL, jD, jB, hc]; first | done | rfl) (by decide) (by unfold idM; decide)⟩
      show r.length - (i + 1) < r.length - i; omega
    · have hc : colI (i + 1) (trimAt r ts) = colI i (trimAt r ts) ++ [e] := by rw [colI_succ]; simp [trimAt, hx, c]
      rw [c] at k1
      repeat (first | apply Aw_seq | apply Aw_block | apply Aw_skip | apply Aw_exit | refine Aw_condt rfl ?_ | refine Aw_condf rfl ?_ | ((first | refine qr ?_ | refine qd (by kernel_rfl) (by kernel_rfl) ?_); simp only [go_sem, jE, reduceIte, jA, jM, jS, jL, jD, jB, h1, w1, hx, c, hb]) | refine dk (by kernel_rfl) ?_ | (refine qp (k1) (by simp only [go_sem, jE, reduceIte, jA, jM, jS, jL, jD, jB, h1, w1, hx, c, hb]; first | done | rfl) rfl (by simp only [go_sem, Nat.reduceLT]) rfl rfl ?_; simp only [go_sem, jE, reduceIte, jA, jM, jS, jL, jD, jB, h1, w1, hx, c, hb]))
      refine ⟨⟨i + 1, hlt⟩, [14], ?_, rwL (by repeat (first | exact trivial | refine ⟨rfl, rfl, ?_⟩)) (by rfl) (by simp only [go_sem, jE, reduceIte, jA, jM, jS, jL, jD, jB, hc, List.map_append, List.map_cons, List.map_nil]; first | done | rfl) (by decide) (by unfold idM; decide)⟩
      show r.length - (i + 1) < r.length - i; omega
  · have h1 : ¬ (i : Int) < (r.length : Int) := by omega
    obtain rfl : i = r.length := by omega
    have e1 : colI r.length (trimAt r ts) = trim1 r ts := rfl
    rw [e1]
    obtain ⟨o, ho⟩ : ∃ o, o = trim1 r ts := ⟨_, rfl⟩
    have hol : o.length ≤ r.length := by rw [ho]; exact trim1_len r ts
    rw [← ho]
    cases b
    · have e2 : trimM r ts false = o := by rw [ho]; rfl
      rw [e2]
      repeat (first | apply Aw_seq | apply Aw_block | apply Aw_skip | apply Aw_exit | refine Aw_condt rfl ?_ | refine Aw_condf rfl ?_ | ((first | refine qr ?_ | refine qd (by kernel_rfl) (by kernel_rfl) ?_); simp only [go_sem, jE, reduceIte, jA, jM, jS, jL, jD, jB, h1]) | refine dk (by kernel_rfl) ?_)
      exact Aw_ret (retL (M := [0]) (.inl rfl) (by simp only [go_sem, jE, reduceIte, jA, jM, jS, jL, jD, jB]; first | done | rfl) rfl rfl (by rfl) (by simp only [go_sem, jE, reduceIte, jA, jM, jS, jL, jD, jB]; first | done | rfl | (and_intros <;> rfl)) (by decide) (by unfold idM; decide))
    · have e2 : trimM r ts true = trim2 o := by rw [ho]; rfl
      rw [e2]
      repeat (first | apply Aw_seq | apply Aw_block | apply Aw_skip | apply Aw_exit | refine Aw_condt rfl ?_ | refine Aw_condf rfl ?_ | ((first | refine qr ?_ | refine qd (by kernel_rfl) (by kernel_rfl) ?_); simp only [go_sem, jE, reduceIte, jA, jM, jS, jL, jD, jB, h1]) | refine dk (by kernel_rfl) ?_)
      refine Aw.rw (rwL (l' := [(10, .t (iT (0 : Nat))), (9, .t (.c (.h 1))), (7, .t (.c (.h 0)))]) (os := [some (eRow o), some (eRow (colI 0 (lowAt o)))]) (M := [0, 7]) (n' := 2) (by repeat (first | exact trivial | refine ⟨rfl, rfl, ?_⟩)) (by rfl) (by simp only [go_sem, jE, reduceIte, jA, jM, jS, jL, jD, jB, colI_0, List.map_nil]; first | done | rfl) (by decide) (by unfold idM; decide)) ?_
      refine Aw.setL (l' := [(10, .t (iT (0 : Nat))), (9, .t (.c (.h 1))), (7, .t (runT o))]) (os' := [none, some (eRow (colI 0 (lowAt o)))]) (n' := 2) [0] (by repeat (first | exact trivial | refine ⟨SetA.same rfl, ?_⟩ | refine ⟨SetA.row rfl rfl (by decide), ?_⟩)) (by repeat (first | exact trivial | refine ⟨rfl, rfl, ?_⟩ | show SubL _ _ _ _)) (by decide) ?_
      refine Aw_loop_rw (ι := { i : Nat // i ≤ o.length }) (fun q => S [(10, .t (iT (q.1 : Nat))), (9, .t (.c (.h 1))), (7, .t (runT o))] (hpL [none, some (eRow (colI q.1 (lowAt o)))]) 2) (fun q => o.length - q.1) ⟨0, Nat.zero_le _⟩ ?_
      rintro ⟨i, hi⟩
      dsimp only
      by_cases hlt : i < o.length
      · have h1 : (i : Int) < (o.length : Int) := by omega
        have w1 := wrap_succ hlt (by omega)
        obtain ⟨e, hx⟩ : ∃ e, o[i]? = some e := ⟨_, List.getElem?_eq_getElem hlt⟩
        have hb : ((colI i (lowAt o)).length + 1) * 40 ≤ 140737488355328 := by have := colI_len (n := i) (lowAt_len o); omega
        have w2 : IntKind.i64.wrap ((i : Int) + 1) = ((i + 1 : Nat) : Int) := w1
        have end_ : ∀ c : List Ent, lowAt o i = c → colI (i + 1) (lowAt o) = colI i (lowAt o) ++ c := fun c h => by rw [colI_succ, h]
        by_cases hn : i + 1 < o.length
        · have h2 : decide (((o.length : Nat) : Int) ≤ ((i + 1 : Nat) : Int)) = false := decide_eq_false (by omega)
          obtain ⟨q, hq⟩ : ∃ e, o[i + 1]? = some e := ⟨_, List.getElem?_eq_getElem hn⟩
          cases c1 : decide (q.key = e.key)
          · cases c2 : e.gone
            · have hc := end_ [e] (by unfold lowAt lastAt; rw [hx]; simp only [hq, c1, c2]; rfl)
              repeat (first | apply Aw_seq | apply Aw_block | apply Aw_skip | apply Aw_exit | refine Aw_condt rfl ?_ | refine Aw_condf rfl ?_ | ((first | refine qr ?_ | refine qd (by kernel_rfl) (by kernel_rfl) ?_); simp only [go_sem, jE, reduceIte, jA, jM, jS, jL, jD, jB, h1, w1, hx, h2, hq, c1, c2, hb]) | refine dk (by kernel_rfl) ?_)
              refine ⟨⟨i + 1, hlt⟩, [0, 40], ?_, rwL (by repeat (first | exact trivial | refine ⟨rfl, rfl, ?_⟩)) (by rfl) (by simp only [go_sem, jE, reduceIte, jA, jM, jS, jL, jD, jB, hc, List.map_append, List.map_cons, List.map_nil, c2]; first | done | rfl) (by decide) (by unfold idM; decide)⟩
              show o.length - (i + 1) < o.length - i; omega
            · have hc := end_ [] (by unfold lowAt lastAt; rw [hx]; simp only [hq, c1, c2]; rfl)
              repeat (first | apply Aw_seq | apply Aw_block | apply Aw_skip | apply Aw_exit | refine Aw_condt rfl ?_ | refine Aw_condf rfl ?_ | ((first | refine qr ?_ | refine qd (by kernel_rfl) (by kernel_rfl) ?_); simp only [go_sem, jE, reduceIte, jA, jM, jS, jL, jD, jB, h1, w1, hx, h2, hq, c1, c2, hb]) | refine dk (by kernel_rfl) ?_)
              refine ⟨⟨i + 1, hlt⟩, [0, 1], ?_, rwL (by repeat (first | exact trivial | refine ⟨rfl, rfl, ?_⟩)) (by rfl) (by simp only [go_sem, jE, reduceIte, jA, jM, jS, jL, jD, jB, hc, List.append_nil]; first | done | rfl) (by decide) (by unfold idM; decide)⟩
              show o.length - (i + 1) < o.length - i; omega
          · cases c2 : e.gone
            · have hc := end_ [e] (by unfold lowAt lastAt; rw [hx]; simp only [hq, c1, c2]; rfl)
              repeat (first | apply Aw_seq | apply Aw_block | apply Aw_skip | apply Aw_exit | refine Aw_condt rfl ?_ | refine Aw_condf rfl ?_ | ((first | refine qr ?_ | refine qd (by kernel_rfl) (by kernel_rfl) ?_); simp only [go_sem, jE, reduceIte, jA, jM, jS, jL, jD, jB, h1, w1, hx, h2, hq, c1, c2, hb]) | refine dk (by kernel_rfl) ?_)
              refine ⟨⟨i + 1, hlt⟩, [0, 40], ?_, rwL (by repeat (first | exact trivial | refine ⟨rfl, rfl, ?_⟩)) (by rfl) (by simp only [go_sem, jE, reduceIte, jA, jM, jS, jL, jD, jB, hc, List.map_append, List.map_cons, List.map_nil, c2]; first | done | rfl) (by decide) (by unfold idM; decide)⟩
              show o.length - (i + 1) < o.length - i; omega
            · have hc := end_ [e] (by unfold lowAt lastAt; rw [hx]; simp only [hq, c1, c2]; rfl)
              repeat (first | apply Aw_seq | apply Aw_block | apply Aw_skip | apply Aw_exit | refine Aw_condt rfl ?_ | refine Aw_condf rfl ?_ | ((first | refine qr ?_ | refine qd (by kernel_rfl) (by kernel_rfl) ?_); simp only [go_sem, jE, reduceIte, jA, jM, jS, jL, jD, jB, h1, w1, hx, h2, hq, c1, c2, hb]) | refine dk (by kernel_rfl) ?_)
              refine ⟨⟨i + 1, hlt⟩, [0, 42], ?_, rwL (by repeat (first | exact trivial | refine ⟨rfl, rfl, ?_⟩)) (by rfl) (by simp only [go_sem, jE, reduceIte, jA, jM, jS, jL, jD, jB, hc, List.map_append, List.map_cons, List.map_nil, c2]; first | done | rfl) (by decide) (by unfold idM; decide)⟩
              show o.length - (i + 1) < o.length - i; omega
        · have h2 : decide (((o.length : Nat) : Int) ≤ ((i + 1 : Nat) : Int)) = true := decide_eq_true (by omega)
          have hn2 : o[i + 1]? = none := List.getElem?_eq_none (by omega)
          cases c2 : e.gone
          · have hc := end_ [e] (by unfold lowAt lastAt; rw [hx]; simp only [hn2, c2]; rfl)
            repeat (first | apply Aw_seq | apply Aw_block | apply Aw_skip | apply Aw_exit | refine Aw_condt rfl ?_ | refine Aw_condf rfl ?_ | ((first | refine qr ?_ | refine qd (by kernel_rfl) (by kernel_rfl) ?_); simp only [go_sem, jE, reduceIte, jA, jM, jS, jL, jD, jB, h1, w1, hx, h2, hn, c2, hb]) | refine dk (by kernel_rfl) ?_)
            refine ⟨⟨i + 1, hlt⟩, [0, 28], ?_, rwL (by repeat (first | exact trivial | refine ⟨rfl, rfl, ?_⟩)) (by rfl) (by simp only [go_sem, jE, reduceIte, jA, jM, jS, jL, jD, jB, hc, List.map_append, List.map_cons, List.map_nil, c2]; first | done | rfl) (by decide) (by unfold idM; decide)⟩
            show o.length - (i + 1) < o.length - i; omega
          · have hc := end_ [] (by unfold lowAt lastAt; rw [hx]; simp only [hn2, c2]; rfl)
            repeat (first | apply Aw_seq | apply Aw_block | apply Aw_skip | apply Aw_exit | refine Aw_condt rfl ?_ | refine Aw_condf rfl ?_ | ((first | refine qr ?_ | refine qd (by kernel_rfl) (by kernel_rfl) ?_); simp only [go_sem, jE, reduceIte, jA, jM, jS, jL, jD, jB, h1, w1, hx, h2, hn, c2, hb]) | refine dk (by kernel_rfl) ?_)
            refine ⟨⟨i + 1, hlt⟩, [0, 1], ?_, rwL (by repeat (first | exact trivial | refine ⟨rfl, rfl, ?_⟩)) (by rfl) (by simp only [go_sem, jE, reduceIte, jA, jM, jS, jL, jD, jB, hc, List.append_nil]; first | done | rfl) (by decide) (by unfold idM; decide)⟩
            show o.length - (i + 1) < o.length - i; omega
      · have h1 : ¬ (i : Int) < (o.length : Int) := by omega
        obtain rfl : i = o.length := by omega
        repeat (first | apply Aw_seq | apply Aw_block | apply Aw_skip | apply Aw_exit | refine Aw_condt rfl ?_ | refine Aw_condf rfl ?_ | ((first | refine qr ?_ | refine qd (by kernel_rfl) (by kernel_rfl) ?_); simp only [go_sem, jE, reduceIte, jA, jM, jS, jL, jD, jB, h1]) | refine dk (by kernel_rfl) ?_)
        exact Aw_ret (retL (M := [1]) (.inl rfl) (by simp only [go_sem, jE, reduceIte, jA, jM, jS, jL, jD, jB]; first | done | rfl) rfl rfl (by rfl) (by simp only [go_sem, jE, reduceIte, jA, jM, jS, jL, jD, jB, trim2]; first | done | rfl | (and_intros <;> rfl)) (by decide) (by unfold idM; decide))
def SubS (hp : Hp) (L : List Nat) (i : Nat) : List (Option Obj) → List (Option Obj) → Prop
  | some o :: s, some o' :: s' => (o' = o ∨ SetO hp L o o') ∧ L.contains i = false ∧ SubS hp L (i + 1) s s'
  | _ :: s, none :: s' => SubS hp L (i + 1) s s'
  | _, [] => True
  | _, _ => False
theorem subS_get {hp : Hp} {L : List Nat} : ∀ {i : Nat} {os os' : List (Option Obj)}, SubS hp L i os os' → ∀ m o', hpL os' m = some o' → L.contains (i + m) = false ∧ ∃ o, hpL os m = some o ∧ (o' = o ∨ SetO hp L o o')
  | i, some o :: s, some o' :: s', h, 0, q, hq => by
    rw [l_c0] at hq ⊢; obtain ⟨h1, h2, _⟩ := h; cases hq; exact ⟨h2, o, rfl, h1⟩
  | i, some o :: s, some o' :: s', h, m + 1, q, hq => by
    rw [l_c1] at hq ⊢; have := subS_get h.2.2 m q hq; rw [show i + (m + 1) = i + 1 + m by omega]; exact this
  | i, o :: s, none :: s', h, 0, q, hq => by rw [l_c0] at hq; cases hq
  | i, some o :: s, none :: s', h, m + 1, q, hq => by
    rw [l_c1] at hq ⊢; have := subS_get (os := s) (os' := s') h m q hq; rw [show i + (m + 1) = i + 1 + m by omega]; exact this
  | i, none :: s, none :: s', h, m + 1, q, hq => by
    rw [l_c1] at hq ⊢; have := subS_get (os := s) (os' := s') h m q hq; rw [show i + (m + 1) = i + 1 + m by omega]; exact this
  | _, _, [], _, m, q, hq => by rw [l_n] at hq; cases hq
  | _, [], none :: _, h, _, _, _ => h.elim
  | _, [], some _ :: _, h, _, _, _ => h.elim
  | _, none :: _, some _ :: _, h, _, _, _ => h.elim
theorem AC.setS {P : Program} {f : FuncId} {args : List TV} {hp : Hp} {k : Nat} {x y : AV} {os os' : List (Option Obj)} {n : Nat} (L : List Nat) (h : AC P f args hp k ⟨x, hpL os, n⟩) (hr : SetA (hpL os) L x y) (hs : SubS (hpL os) L 0 os os') : AC P f args hp k ⟨y, hpL os', n⟩ :=
  AC.settle h hr (fun m o' hm => by
    obtain ⟨h1, o, h2, h3⟩ := subS_get hs m o' hm
    exact ⟨by simpa using h1, o, h2, h3⟩) (Nat.le_refl n)
def lvRow (l : List (List Ent)) : Obj := dRow 23 1 (l.map lvD)
@[go_sem] theorem r_lvRow (l : List (List Ent)) : lvRow l = dRow 23 1 (l.map lvD) := rfl
abbrev hT (s : Sto) : TV := .agg [.h 2, .h 0, .h 1, .d (.s (.int .i64 s.keep)), .d (.s (.int .i64 s.time)), .h 3]
def tmRow (ts : List Int) : Obj := dRow 3 1 (ts.map intD)
@[go_sem] theorem r_tmRow (ts : List Int) : tmRow ts = dRow 3 1 (ts.map intD) := rfl
def hS (s : Sto) : List (Option Obj) := [some (lvRow s.levels), some (svRow s.sieves), some (eRow s.top), some (tmRow s.times)]
@[go_sem] theorem r_hS (s : Sto) : hS s = [some (dRow 23 1 (s.levels.map lvD)), some (dRow 76 5 (s.sieves.map sveD)), some (dRow 48 4 (s.top.map entD)), some (dRow 3 1 (s.times.map intD))] := rfl
def hR (s : Sto) (r : List Ent) : List (Option Obj) := [some (lvRow s.levels), some (svRow s.sieves), some (eRow s.top), some (tmRow s.times), some (eRow r)]
@[go_sem] theorem r_hR (s : Sto) (r : List Ent) : hR s r = [some (dRow 23 1 (s.levels.map lvD)), some (dRow 76 5 (s.sieves.map sveD)), some (dRow 48 4 (s.top.map entD)), some (dRow 3 1 (s.times.map intD)), some (dRow 48 4 (r.map entD))] := rfl
def hG (s : Sto) : List (Option Obj) := [some (lvRow s.levels), some (svRow s.sieves), some (eRow s.top), some (tmRow s.times), none]
@[go_sem] theorem r_hG (s : Sto) : hG s = [some (dRow 23 1 (s.levels.map lvD)), some (dRow 76 5 (s.sieves.map sveD)), some (dRow 48 4 (s.top.map entD)), some (dRow 3 1 (s.times.map intD)), none] := rfl
theorem Aw.setS {P : Program} {N k : Nat} {x : Code} {Q : Exit → St → Prop} {l l' : List (Nat × AV)} {os os' : List (Option Obj)} {n n' : Nat} (L : List Nat) (h : ChkS L (hpL os) l l') (hs : SubS (hpL os) L 0 os os') (hn : n ≤ n') (q : Aw P N k x Q (S l' (hpL os') n')) : Aw P N k x Q (S l (hpL os) n) :=
  Aw.settle (stl_look h (fun m o' hm => by
    obtain ⟨h1, o, h2, h3⟩ := subS_get hs m o' hm
    exact ⟨by simpa using h1, o, h2, h3⟩) hn) q
def setM (s : Sto) (i : Nat) (r : List Ent) : Option Sto := match sieveM (keysM r) s.keep with
  | some x => if r.length ≤ 8 * (i + 1) then some { s with levels := s.levels.set i r, sieves := s.sieves.set i x } else none
  | none => none
abbrev zA : TV := .agg [.d (.s (.slice none 0 0)), .d (.s (.slice none 0 0)), .d (.s (.slice none 0 0)), .d (.s (.int .i64 0)), .d (.s (.int .i64 0)), .d (.s (.slice none 0 0))]
theorem zA_nil : NilA (.tup [zA, bT false]) (.tup [stT zSto, bT false]) := .cons (.cons (NilC.nil _) (.cons (NilC.nil _) (.cons (NilC.nil _) (.cons (.inl rfl) (.cons (.inl rfl) (.cons (NilC.nil _) .nil)))))) (.cons (NilT.refl _) .nil)
theorem l12Set_no (s : Sto) (i : Nat) (r : List Ent) (hi : i ≤ 1000) (hr : SmR r) (h : setM s i r = none) : AC Tryz.prog 155 [hT s, iT i, .c (.h 4)] (hpL (hR s r)) 5 ⟨.tup [zA, bT false], hpL (hG s), 5⟩ := by
  refine AC_of Tryz.func155 rfl Tryz.ntmps155 Tryz.results155 (by kernel_rfl) rfl ?_
  simp only [List.zipIdx, List.map, Nat.zero_add, Nat.reduceAdd]
  refine Aw.setL (l' := [(0, .t (hT s)), (1, .t (iT i)), (2, .t (runT r))]) (os' := [some (lvRow s.levels), some (svRow s.sieves), some (eRow s.top), some (tmRow s.times), none]) (n' := 5) [4] (by repeat (first | exact trivial | refine ⟨SetA.same rfl, ?_⟩ | refine ⟨SetA.row rfl rfl (by decide), ?_⟩)) (by repeat (first | exact trivial | refine ⟨rfl, rfl, ?_⟩ | show SubL _ _ _ _)) (by decide) ?_
  have k1 := skeysOfS_ac r hr
  have k2 := ssieveS_ac (keysM r) s.keep (smS_keys hr)
  have k4 := l12Size_ac i hi
  cases hm : sieveM (keysM r) s.keep with
  | none =>
    rw [hm] at k2
    repeat (first | apply Aw_seq | apply Aw_block | apply Aw_skip | apply Aw_exit | refine Aw_condt rfl ?_ | refine Aw_condf rfl ?_ | ((first | refine qr ?_ | refine qd (by kernel_rfl) (by kernel_rfl) ?_); simp only [go_sem, jE, reduceIte, jA, jM, jS, jL, jD, jB]) | refine dk (by kernel_rfl) ?_ | (refine qp (k1) (by simp only [go_sem, jE, reduceIte, jA, jM, jS, jL, jD, jB]; first | done | rfl) rfl (by simp only [go_sem, Nat.reduceLT]) rfl rfl ?_; simp only [go_sem, jE, reduceIte, jA, jM, jS, jL, jD, jB]) | (refine qp (k2) (by simp only [go_sem, jE, reduceIte, jA, jM, jS, jL, jD, jB]; first | done | rfl) rfl (by simp only [go_sem, Nat.reduceLT]) rfl rfl ?_; simp only [go_sem, jE, reduceIte, jA, jM, jS, jL, jD, jB]))
    exact Aw_ret (retL (M := [0, 1, 2, 3, 4]) (.inl rfl) (by simp only [go_sem, jE, reduceIte, jA, jM, jS, jL, jD, jB]; first | done | rfl) rfl rfl (by rfl) (by simp only [go_sem, jE, reduceIte, jA, jM, jS, jL, jD, jB]; first | done | rfl | (and_intros <;> rfl)) (by decide) (by unfold idM; decide))
  | some x =>
    rw [hm] at k2
    have h1 : decide (((8 * (i + 1) : Nat) : Int) < (r.length : Int)) = true := decide_eq_true (by unfold setM at h; rw [hm] at h; simp at h; omega)
    repeat (first | apply Aw_seq | apply Aw_block | apply Aw_skip | apply Aw_exit | refine Aw_condt rfl ?_ | refine Aw_condf rfl ?_ | ((first | refine qr ?_ | refine qd (by kernel_rfl) (by kernel_rfl) ?_); simp only [go_sem, jE, reduceIte, jA, jM, jS, jL, jD, jB, h1]) | refine dk (by kernel_rfl) ?_ | (refine qp (k1) (by simp only [go_sem, jE, reduceIte, jA, jM, jS, jL, jD, jB, h1]; first | done | rfl) rfl (by simp only [go_sem, Nat.reduceLT]) rfl rfl ?_; simp only [go_sem, jE, reduceIte, jA, jM, jS, jL, jD, jB, h1]) | (refine qp (k2) (by simp only [go_sem, jE, reduceIte, jA, jM, jS, jL, jD, jB, h1]; first | done | rfl) rfl (by simp only [go_sem, Nat.reduceLT]) rfl rfl ?_; simp only [go_sem, jE, reduceIte, jA, jM, jS, jL, jD, jB, h1]) | (refine qp (k4) (by simp only [go_sem, jE, reduceIte, jA, jM, jS, jL, jD, jB, h1]; first | done | rfl) rfl (by simp only [go_sem, Nat.reduceLT]) rfl rfl ?_; simp only [go_sem, jE, reduceIte, jA, jM, jS, jL, jD, jB, h1]))
    exact Aw_ret (retL (M := [0, 1, 2, 3, 4]) (.inl rfl) (by simp only [go_sem, jE, reduceIte, jA, jM, jS, jL, jD, jB]; first | done | rfl) rfl rfl (by rfl) (by simp only [go_sem, jE, reduceIte, jA, jM, jS, jL, jD, jB]; first | done | rfl | (and_intros <;> rfl)) (by decide) (by unfold idM; decide))
theorem set_lv (l : List (List Ent)) (i : Nat) (r : List Ent) : ((l.map lvD).map (·.map CV.d)).set i [.d (.rs 4 (r.map entD))] = ((l.set i r).map lvD).map (·.map CV.d) := by
  rw [List.map_set, List.map_set]; rfl
theorem set_sv (l : List Sve) (i : Nat) (x : Sve) : ((l.map sveD).map (·.map CV.d)).set i [.d (.s (.string x.letters)), .d (.s (.string x.more)), .d (.s (.string x.first)), .d (.rs 1 (x.rests.map strD)), .d (.s (.int .i64 x.keep))] = ((l.set i x).map sveD).map (·.map CV.d) := by
  rw [List.map_set, List.map_set]; rfl
theorem l12Set_ok (s s' : Sto) (i : Nat) (r : List Ent) (hi : i ≤ 1000) (hl : i < s.levels.length) (hv : i < s.sieves.length) (hr : SmR r) (h : setM s i r = some s') : AC Tryz.prog 155 [hT s, iT i, .c (.h 4)] (hpL (hR s r)) 5 ⟨.tup [hT s', bT true], hpL (hG s'), 5⟩ := by
  refine AC_of Tryz.func155 rfl Tryz.ntmps155 Tryz.results155 (by kernel_rfl) rfl ?_
  simp only [List.zipIdx, List.map, Nat.zero_add, Nat.reduceAdd]
  refine Aw.setL (l' := [(0, .t (hT s)), (1, .t (iT i)), (2, .t (runT r))]) (os' := [some (lvRow s.levels), some (svRow s.sieves), some (eRow s.top), some (tmRow s.times), none]) (n' := 5) [4] (by repeat (first | exact trivial | refine ⟨SetA.same rfl, ?_⟩ | refine ⟨SetA.row rfl rfl (by decide), ?_⟩)) (by repeat (first | exact trivial | refine ⟨rfl, rfl, ?_⟩ | show SubL _ _ _ _)) (by decide) ?_
  have k1 := skeysOfS_ac r hr
  have k2 := ssieveS_ac (keysM r) s.keep (smS_keys hr)
  have k4 := l12Size_ac i hi
  unfold setM at h
  cases hm : sieveM (keysM r) s.keep with
  | none => rw [hm] at h; cases h
  | some x =>
    rw [hm] at h k2
    have hx : (some x).getD zSve = x := rfl
    rw [hx] at k2
    by_cases hc : r.length ≤ 8 * (i + 1)
    · simp only [if_pos hc, Option.some.injEq] at h
      subst h
      have h1 : decide (((8 * (i + 1) : Nat) : Int) < (r.length : Int)) = false := decide_eq_false (by omega)
      obtain ⟨e1, he1⟩ : ∃ e, s.levels[i]? = some e := ⟨_, List.getElem?_eq_getElem hl⟩
      obtain ⟨e2, he2⟩ : ∃ e, s.sieves[i]? = some e := ⟨_, List.getElem?_eq_getElem hv⟩
      repeat (first | apply Aw_seq | apply Aw_block | apply Aw_skip | apply Aw_exit | refine Aw_condt rfl ?_ | refine Aw_condf rfl ?_ | ((first | refine qr ?_ | refine qd (by kernel_rfl) (by kernel_rfl) ?_); simp only [go_sem, jE, reduceIte, jA, jM, jS, jL, jD, jB, h1, hl, hv, he1, he2]) | refine dk (by kernel_rfl) ?_ | (refine qp (k1) (by simp only [go_sem, jE, reduceIte, jA, jM, jS, jL, jD, jB, h1, hl, hv, he1, he2]; first | done | rfl) rfl (by simp only [go_sem, Nat.reduceLT]) rfl rfl ?_; simp only [go_sem, jE, reduceIte, jA, jM, jS, jL, jD, jB, h1, hl, hv, he1, he2]) | (refine qp (k2) (by simp only [go_sem, jE, reduceIte, jA, jM, jS, jL, jD, jB, h1, hl, hv, he1, he2]; first | done | rfl) rfl (by simp only [go_sem, Nat.reduceLT]) rfl rfl ?_; simp only [go_sem, jE, reduceIte, jA, jM, jS, jL, jD, jB, h1, hl, hv, he1, he2]) | (refine qp (k4) (by simp only [go_sem, jE, reduceIte, jA, jM, jS, jL, jD, jB, h1, hl, hv, he1, he2]; first | done | rfl) rfl (by simp only [go_sem, Nat.reduceLT]) rfl rfl ?_; simp only [go_sem, jE, reduceIte, jA, jM, jS, jL, jD, jB, h1, hl, hv, he1, he2]))
      exact Aw_ret (retL (M := [0, 1, 2, 3, 4]) (.inl rfl) (by simp only [go_sem, jE, reduceIte, jA, jM, jS, jL, jD, jB]; first | done | rfl) rfl rfl (by rfl) (by simp only [go_sem, jE, reduceIte, jA, jM, jS, jL, jD, jB, set_lv, set_sv]; first | done | rfl | (and_intros <;> rfl)) (by decide) (by unfold idM; decide))
    · simp [hc] at h
@[go_sem] theorem all_intD (q : List Int) : (List.map (fun x => List.map CV.d x) (List.map intD q)).all (fun cs => cs.length == 1) = true := by simp [intD]
@[go_sem] theorem r_ixR1 {P : Program} {hp : Hp} (e k : Nat) (els : List (List D)) : ixR P hp e k els 1 = match tiOf P e with
    | some E => if E.sz = k ∧ 0 < k then (els[1]?).map fun cs => (.t (.c (.pr cs)), hp) else none
    | none => none := r_ixR (hp := hp) e k els 1
@[go_sem] theorem r_ixR2 {P : Program} {hp : Hp} (e k : Nat) (els : List (List D)) : ixR P hp e k els 2 = match tiOf P e with
    | some E => if E.sz = k ∧ 0 < k then (els[2]?).map fun cs => (.t (.c (.pr cs)), hp) else none
    | none => none := r_ixR (hp := hp) e k els 2
theorem l12Copy_ac (top a b c : List Ent) (x y z : Sve) (keep time : Int) (ts : List Int) (h0 : top.length ≤ 100000) (h1 : a.length ≤ 100000) (h2 : b.length ≤ 100000) (h3 : c.length ≤ 100000) (h4 : x.rests.length ≤ 1099511627776) (h5 : y.rests.length ≤ 1099511627776) (h6 : z.rests.length ≤ 1099511627776) (h7 : ts.length ≤ 100000) :
    AC Tryz.prog 55 [stT ⟨top, [a, b, c], [x, y, z], keep, time, ts⟩] noHp 0 ⟨.t (.agg [.h 0, .h 1, .h 2, .d (.s (.int .i64 keep)), .d (.s (.int .i64 time)), .h 3]),
      hpL [some (eRow top), some ⟨23, 1, true, [[.h 4], [.h 5], [.h 6]]⟩, some ⟨76, 5, true, [[.d (.s (.string x.letters)), .d (.s (.string x.more)), .d (.s (.string x.first)), .h 7, .d (.s (.int .i64 x.keep))], [.d (.s (.string y.letters)), .d (.s (.string y.more)), .d (.s (.string y.first)), .h 8, .d (.s (.int .i64 y.keep))], [.d (.s (.string z.letters)), .d (.s (.string z.more)), .d (.s (.string z.first)), .h 9, .d (.s (.int .i64 z.keep))]]⟩,
        some (dRow 3 1 (ts.map intD)), some (eRow a), some (eRow b), some (eRow c), some (kRow x.rests), some (kRow y.rests), some (kRow z.rests)], 10⟩ := by
  refine AC_of Tryz.func55 rfl Tryz.ntmps55 Tryz.results55 (by kernel_rfl) rfl ?_
  simp only [List.zipIdx, List.map, Nat.zero_add, Nat.reduceAdd]
  have q0 : top.length * 40 ≤ 140737488355328 := by omega
  have q1 : a.length * 40 ≤ 140737488355328 := by omega
  have q2 : b.length * 40 ≤ 140737488355328 := by omega
  have q3 : c.length * 40 ≤ 140737488355328 := by omega
  have q4 : x.rests.length * 16 ≤ 140737488355328 := by omega
  have q5 : y.rests.length * 16 ≤ 140737488355328 := by omega
  have q6 : z.rests.length * 16 ≤ 140737488355328 := by omega
  have q7 : ts.length * 8 ≤ 140737488355328 := by omega
  repeat (first | apply Aw_seq | apply Aw_block | apply Aw_skip | apply Aw_exit | refine Aw_condt rfl ?_ | refine Aw_condf rfl ?_ | ((first | refine qr ?_ | refine qd (by kernel_rfl) (by kernel_rfl) ?_); simp only [go_sem, jE, reduceIte, jA, jM, jS, jL, jD, jB, q0, q7]) | refine dk (by kernel_rfl) ?_)
  refine Aw_rounds 4 ?_
  refine AwR_succ ?_
  repeat (first | apply Aw_seq | apply Aw_block | apply Aw_skip | apply Aw_exit | refine Aw_condt rfl ?_ | refine Aw_condf rfl ?_ | ((first | refine qr ?_ | refine qd (by kernel_rfl) (by kernel_rfl) ?_); simp only [go_sem, jE, reduceIte, jA, jM, jS, jL, jD, jB, e03, w01, w12, w23, e13, e23, e33, q1, q2, q3, q4, q5, q6]) | refine dk (by kernel_rfl) ?_)
  exact Aw_ret (retL (M := [8, 121, 141, 14, 37, 78, 119, 52, 93, 134]) (.inl rfl) (by simp only [go_sem, jE, reduceIte, jA, jM, jS, jL, jD, jB]; first | done | rfl) rfl rfl (by rfl) (by simp only [go_sem, jE, reduceIte, jA, jM, jS, jL, jD, jB]; first | done | rfl | (and_intros <;> rfl)) (by decide) (by unfold idM; decide))
theorem l12CopyS_ac (top a b c : List Ent) (x y z : Sve) (keep time : Int) (ts : List Int) (h0 : top.length ≤ 100000) (h1 : a.length ≤ 100000) (h2 : b.length ≤ 100000) (h3 : c.length ≤ 100000) (h4 : x.rests.length ≤ 1099511627776) (h5 : y.rests.length ≤ 1099511627776) (h6 : z.rests.length ≤ 1099511627776) (h7 : ts.length ≤ 100000) :
    AC Tryz.prog 55 [stT ⟨top, [a, b, c], [x, y, z], keep, time, ts⟩] noHp 0 ⟨.t (hT ⟨top, [a, b, c], [x, y, z], keep, time, ts⟩), hpL (hS ⟨top, [a, b, c], [x, y, z], keep, time, ts⟩), 4⟩ := by
  have h := AC.setS [4, 5, 6, 7, 8, 9] (l12Copy_ac top a b c x y z keep time ts h0 h1 h2 h3 h4 h5 h6 h7) (y := .t (.agg [.h 0, .h 1, .h 2, .d (.s (.int .i64 keep)), .d (.s (.int .i64 time)), .h 3])) (os' := [some (eRow top), some (lvRow [a, b, c]), some (svRow [x, y, z]), some (tmRow ts)])
    (.cons (.inl rfl) (.cons (.inl rfl) (.cons (.inl rfl) (.cons (.inl rfl) (.cons (.inl rfl) (.cons (.inl rfl) .nil))))))
    ⟨.inl rfl, rfl, .inr ⟨rfl, rfl, rfl, .cons (.cons (SetC.row0 rfl rfl) .nil) (.cons (.cons (SetC.row0 rfl rfl) .nil) (.cons (.cons (SetC.row0 rfl rfl) .nil) .nil))⟩, rfl,
      .inr ⟨rfl, rfl, rfl, .cons (.cons (.inl rfl) (.cons (.inl rfl) (.cons (.inl rfl) (.cons (SetC.row0 rfl rfl) (.cons (.inl rfl) .nil))))) (.cons (.cons (.inl rfl) (.cons (.inl rfl) (.cons (.inl rfl) (.cons (SetC.row0 rfl rfl) (.cons (.inl rfl) .nil))))) (.cons (.cons (.inl rfl) (.cons (.inl rfl) (.cons (.inl rfl) (.cons (SetC.row0 rfl rfl) (.cons (.inl rfl) .nil))))) .nil))⟩, rfl, .inl rfl, rfl, trivial⟩
  refine AC.sel (M := [1, 2, 0, 3]) h rfl rfl (selL rfl ?_) (by decide) fun m hm => absurd hm (by omega)
  simp only [go_sem, LeftL]
structure SmH (s : Sto) : Prop where
  ll : s.levels.length = 3
  sl : s.sieves.length = 3
  lev : ∀ r ∈ s.levels, SmR r ∧ r.length ≤ 1000
  tl : s.times.length ≤ 1000
def intoM : Nat → Sto → Nat → List Ent → Option Sto
  | 0, s, i, r => setM s i (trimM (joinM r (s.levels.getD i [])) s.times true)
  | d + 1, s, i, r => match setM s i (trimM (joinM r (s.levels.getD i [])) s.times false) with
    | some x => some x
    | none => (intoM d s (i + 1) (s.levels.getD i [])).bind fun s1 => setM s1 i (trimM r s1.times false)
theorem smR_join {a b : List Ent} (ha : SmR a) (hb : SmR b) (h1 : a.length ≤ 1000) (h2 : b.length ≤ 1000) : SmR (joinM a b) := ⟨by rw [joinM_len]; omega, fun e he => (mem_joinM he).elim (ha.key e) (hb.key e)⟩
theorem smR_trim {a : List Ent} (ha : SmR a) (ts : List Int) (b : Bool) : SmR (trimM a ts b) := ⟨Nat.le_trans (trimM_len a ts b) ha.len, fun e he => ha.key e (mem_trimM he)⟩
theorem setM_ok {s s' : Sto} {i : Nat} {r : List Ent} (h : setM s i r = some s') : ∃ x, s' = { s with levels := s.levels.set i r, sieves := s.sieves.set i x } ∧ sieveM (keysM r) s.keep = some x ∧ r.length ≤ 8 * (i + 1) := by
  unfold setM at h
  cases hm : sieveM (keysM r) s.keep with
  | none => rw [hm] at h; cases h
  | some x =>
    rw [hm] at h
    simp only at h
    split at h
    · exact ⟨x, (Option.some.inj h).symm, rfl, by assumption⟩
    · cases h
theorem setM_sm {s s' : Sto} {i : Nat} {r : List Ent} (hs : SmH s) (hi : i ≤ 2) (hr : SmR r) (h : setM s i r = some s') : SmH s' := by
  obtain ⟨x, rfl, _, hl⟩ := setM_ok h
  refine ⟨by simp [hs.ll], by simp [hs.sl], fun q hq => ?_, hs.tl⟩
  rcases List.mem_or_eq_of_mem_set hq with h | rfl
  · exact hs.lev q h
  · exact ⟨hr, by omega⟩
theorem setM_times {s s' : Sto} {i : Nat} {r : List Ent} (h : setM s i r = some s') : s'.times = s.times ∧ s'.top = s.top ∧ s'.time = s.time ∧ s'.keep = s.keep := by
  obtain ⟨x, rfl, _, hl⟩ := setM_ok h
  exact ⟨rfl, rfl, rfl, rfl⟩
theorem intoM_sm : ∀ (d : Nat) {s s' : Sto} {i : Nat} {r : List Ent}, i + d = 2 → SmH s → SmR r → r.length ≤ 1000 → intoM d s i r = some s' → SmH s' ∧ s'.times = s.times ∧ s'.top = s.top ∧ s'.time = s.time ∧ s'.keep = s.keep
  | 0, s, s', i, r, hi, hs, hr, hl, h => by
    have hq : SmR (s.levels.getD i []) ∧ (s.levels.getD i []).length ≤ 1000 := by
      rw [List.getD_eq_getElem?_getD, List.getElem?_eq_getElem (by rw [hs.ll]; omega)]; exact hs.lev _ (List.getElem_mem _)
    exact ⟨setM_sm hs (by omega) (smR_trim (smR_join hr hq.1 hl hq.2) _ _) h, setM_times h⟩
  | d + 1, s, s', i, r, hi, hs, hr, hl, h => by
    have hq : SmR (s.levels.getD i []) ∧ (s.levels.getD i []).length ≤ 1000 := by
      rw [List.getD_eq_getElem?_getD, List.getElem?_eq_getElem (by rw [hs.ll]; omega)]; exact hs.lev _ (List.getElem_mem _)
    simp only [intoM] at h
    split at h
    · rename_i x hx
      obtain rfl := Option.some.inj h
      exact ⟨setM_sm hs (by omega) (smR_trim (smR_join hr hq.1 hl hq.2) _ _) hx, setM_times hx⟩
    · obtain ⟨s1, h1, h2⟩ := Option.bind_eq_some_iff.1 h
      obtain ⟨g1, g2⟩ := intoM_sm d (by omega) hs hq.1 hq.2 h1
      have g3 := setM_times h2
      exact ⟨setM_sm g1 (by omega) (smR_trim hr _ _) h2, by rw [g3.1, g2.1], by rw [g3.2.1, g2.2.1], by rw [g3.2.2.1, g2.2.2.1], by rw [g3.2.2.2, g2.2.2.2]⟩
theorem into_ac : ∀ (d : Nat) (s : Sto) (i : Nat) (r : List Ent), i + d = 2 → SmH s → SmR r → r.length ≤ 1000 →
    (∀ s', intoM d s i r = some s' → AC Tryz.prog 141 [hT s, iT i, runT r] (hpL (hS s)) 4 ⟨.tup [hT s', bT true], hpL (hS s'), 4⟩) ∧
    (intoM d s i r = none → AC Tryz.prog 141 [hT s, iT i, runT r] (hpL (hS s)) 4 ⟨.tup [zA, bT false], hpL [none, none, none, none], 4⟩) := by
  intro d
  induction d with
  | zero =>
    intro s i r hi hs hr hl
    obtain rfl : i = 2 := by omega
    obtain ⟨q, hq⟩ : ∃ q, s.levels[2]? = some q := ⟨_, List.getElem?_eq_getElem (by rw [hs.ll]; omega)⟩
    have hqd : s.levels.getD 2 [] = q := by simp [List.getD, hq]
    obtain ⟨hq1, hq2⟩ := hs.lev q (List.mem_of_getElem? hq)
    have k1 := l11JoinS_ac r q (by omega) (by omega)
    have k2 := l11Trim_ac (joinM r q) s.times true (by rw [joinM_len]; omega) (by have := hs.tl; omega)
    have hsm : SmR (trimM (joinM r q) s.times true) := smR_trim (smR_join hr hq1 hl hq2) _ _
    have hlt := (List.getElem?_eq_some_iff.1 hq).1
    have b1 : decide (((2 : Nat) : Int) = 2) = true := rfl
    constructor
    · intro s' h
      simp only [intoM, hqd] at h
      have k3 := l12Set_ok s s' 2 _ (by omega) (by rw [hs.ll]; omega) (by rw [hs.sl]; omega) hsm h
      refine AC_of Tryz.func141 rfl Tryz.ntmps141 Tryz.results141 (by kernel_rfl) rfl ?_
      simp only [List.zipIdx, List.map, Nat.zero_add, Nat.reduceAdd]
      repeat (first | apply Aw_seq | apply Aw_block | apply Aw_skip | apply Aw_exit | refine Aw_condt rfl ?_ | refine Aw_condf rfl ?_ | ((first | refine qr ?_ | refine qd (by kernel_rfl) (by kernel_rfl) ?_); simp only [go_sem, jE, reduceIte, jA, jM, jS, jL, jD, jB, b1, hq, hlt]) | refine dk (by kernel_rfl) ?_ | (refine qp (k1) (by simp only [go_sem, jE, reduceIte, jA, jM, jS, jL, jD, jB, b1, hq, hlt]; first | done | rfl) rfl (by simp only [go_sem, Nat.reduceLT]) rfl rfl ?_; simp only [go_sem, jE, reduceIte, jA, jM, jS, jL, jD, jB, b1, hq, hlt]) | (refine qx (call_N (L := [3]) (k2) rfl (.cons (.nm rfl) (.cons (arg_lend (m := 3) rfl (by simp)) (.cons (.nm rfl) (.nil)))) (.inr ⟨rfl, by simp⟩) rfl) (by simp only [go_sem, jE, reduceIte, jA, jM, jS, jL, jD, jB, b1, hq, hlt]; first | done | rfl) rfl (by simp only [go_sem, Nat.reduceLT]) ?_; simp only [go_sem, jE, reduceIte, jA, jM, jS, jL, jD, jB, b1, hq, hlt]) | (refine qx (call_L (N' := [0, 1, 2, 3, 19]) (L := []) (k3) rfl (.cons (.nm rfl) (.cons (.nm rfl) (.cons (.nm rfl) (.nil)))) (by decide) (by decide) (by decide) (by simp only [go_sem, jE, reduceIte, jA, jM, jS, jL, jD, jB, b1, hq, hlt]; first | done | rfl) (.inl rfl) rfl (by decide)) (by simp only [go_sem, jE, reduceIte, jA, jM, jS, jL, jD, jB, b1, hq, hlt]; first | done | rfl) rfl (by simp only [go_sem, Nat.reduceLT]) ?_; simp only [go_sem, jE, reduceIte, jA, jM, jS, jL, jD, jB, b1, hq, hlt]))
      exact Aw_ret (retL (M := [0, 1, 2, 3]) (.inl rfl) (by simp only [go_sem, jE, reduceIte, jA, jM, jS, jL, jD, jB]; first | done | rfl) rfl rfl (by rfl) (by simp only [go_sem, jE, reduceIte, jA, jM, jS, jL, jD, jB]; first | done | rfl | (and_intros <;> rfl)) (by decide) (by unfold idM; decide))
    · intro h
      simp only [intoM, hqd] at h
      have k3 := l12Set_no s 2 _ (by omega) hsm h
      refine AC_of Tryz.func141 rfl Tryz.ntmps141 Tryz.results141 (by kernel_rfl) rfl ?_
      simp only [List.zipIdx, List.map, Nat.zero_add, Nat.reduceAdd]
      repeat (first | apply Aw_seq | apply Aw_block | apply Aw_skip | apply Aw_exit | refine Aw_condt rfl ?_ | refine Aw_condf rfl ?_ | ((first | refine qr ?_ | refine qd (by kernel_rfl) (by kernel_rfl) ?_); simp only [go_sem, jE, reduceIte, jA, jM, jS, jL, jD, jB, b1, hq, hlt]) | refine dk (by kernel_rfl) ?_ | (refine qp (k1) (by simp only [go_sem, jE, reduceIte, jA, jM, jS, jL, jD, jB, b1, hq, hlt]; first | done | rfl) rfl (by simp only [go_sem, Nat.reduceLT]) rfl rfl ?_; simp only [go_sem, jE, reduceIte, jA, jM, jS, jL, jD, jB, b1, hq, hlt]) | (refine qx (call_N (L := [3]) (k2) rfl (.cons (.nm rfl) (.cons (arg_lend (m := 3) rfl (by simp)) (.cons (.nm rfl) (.nil)))) (.inr ⟨rfl, by simp⟩) rfl) (by simp only [go_sem, jE, reduceIte, jA, jM, jS, jL, jD, jB, b1, hq, hlt]; first | done | rfl) rfl (by simp only [go_sem, Nat.reduceLT]) ?_; simp only [go_sem, jE, reduceIte, jA, jM, jS, jL, jD, jB, b1, hq, hlt]) | (refine qx (call_L (N' := [0, 1, 2, 3, 19]) (L := []) (k3) rfl (.cons (.nm rfl) (.cons (.nm rfl) (.cons (.nm rfl) (.nil)))) (by decide) (by decide) (by decide) (by simp only [go_sem, jE, reduceIte, jA, jM, jS, jL, jD, jB, b1, hq, hlt]; first | done | rfl) (.inl rfl) rfl (by decide)) (by simp only [go_sem, jE, reduceIte, jA, jM, jS, jL, jD, jB, b1, hq, hlt]; first | done | rfl) rfl (by simp only [go_sem, Nat.reduceLT]) ?_; simp only [go_sem, jE, reduceIte, jA, jM, jS, jL, jD, jB, b1, hq, hlt]))
      exact Aw_ret (retL (M := [0, 1, 2, 3]) (.inl rfl) (by simp only [go_sem, jE, reduceIte, jA, jM, jS, jL, jD, jB]; first | done | rfl) rfl rfl (by rfl) (by simp only [go_sem, jE, reduceIte, jA, jM, jS, jL, jD, jB]; first | done | rfl | (and_intros <;> rfl)) (by decide) (by unfold idM; decide))
  | succ d ih =>
    intro s i r hi hs hr hl
    obtain ⟨q, hq⟩ : ∃ q, s.levels[i]? = some q := ⟨_, List.getElem?_eq_getElem (by rw [hs.ll]; omega)⟩
    have hqd : s.levels.getD i [] = q := by simp [List.getD, hq]
    obtain ⟨hq1, hq2⟩ := hs.lev q (List.mem_of_getElem? hq)
    have k1 := l11JoinS_ac r q (by omega) (by omega)
    have k2 := l11Trim_ac (joinM r q) s.times false (by rw [joinM_len]; omega) (by have := hs.tl; omega)
    have hsm : SmR (trimM (joinM r q) s.times false) := smR_trim (smR_join hr hq1 hl hq2) _ _
    have hlt := (List.getElem?_eq_some_iff.1 hq).1
    have b1 : decide (((i : Nat) : Int) = 2) = false := decide_eq_false (by omega)
    have w1 : IntKind.i64.wrap ((i : Int) + 1) = ((i + 1 : Nat) : Int) := wrap_succ (m := i + 1) (by omega) (by omega)
    obtain ⟨ih1, ih2⟩ := ih s (i + 1) q (by omega) hs hq1 hq2
    cases hset : setM s i (trimM (joinM r q) s.times false) with
    | some x =>
      have hM : intoM (d + 1) s i r = some x := by simp only [intoM, hqd, hset]
      rw [hM]
      refine ⟨fun s' h => ?_, fun h => by cases h⟩
      obtain rfl := Option.some.inj h
      have k3 := l12Set_ok s x i _ (by omega) (by rw [hs.ll]; omega) (by rw [hs.sl]; omega) hsm hset
      refine AC_of Tryz.func141 rfl Tryz.ntmps141 Tryz.results141 (by kernel_rfl) rfl ?_
      simp only [List.zipIdx, List.map, Nat.zero_add, Nat.reduceAdd]
      repeat (first | apply Aw_seq | apply Aw_block | apply Aw_skip | apply Aw_exit | refine Aw_condt rfl ?_ | refine Aw_condf rfl ?_ | ((first | refine qr ?_ | refine qd (by kernel_rfl) (by kernel_rfl) ?_); simp only [go_sem, jE, reduceIte, jA, jM, jS, jL, jD, jB, b1, hq, hlt]) | refine dk (by kernel_rfl) ?_ | (refine qp (k1) (by simp only [go_sem, jE, reduceIte, jA, jM, jS, jL, jD, jB, b1, hq, hlt]; first | done | rfl) rfl (by simp only [go_sem, Nat.reduceLT]) rfl rfl ?_; simp only [go_sem, jE, reduceIte, jA, jM, jS, jL, jD, jB, b1, hq, hlt]) | (refine qx (call_N (L := [3]) (k2) rfl (.cons (.nm rfl) (.cons (arg_lend (m := 3) rfl (by simp)) (.cons (.nm rfl) (.nil)))) (.inr ⟨rfl, by simp⟩) rfl) (by simp only [go_sem, jE, reduceIte, jA, jM, jS, jL, jD, jB, b1, hq, hlt]; first | done | rfl) rfl (by simp only [go_sem, Nat.reduceLT]) ?_; simp only [go_sem, jE, reduceIte, jA, jM, jS, jL, jD, jB, b1, hq, hlt]) | (refine qx (call_L (N' := [0, 1, 2, 3, 19]) (L := []) (k3) rfl (.cons (.nm rfl) (.cons (.nm rfl) (.cons (.nm rfl) (.nil)))) (by decide) (by decide) (by decide) (by simp only [go_sem, jE, reduceIte, jA, jM, jS, jL, jD, jB, b1, hq, hlt]; first | done | rfl) (.inl rfl) rfl (by decide)) (by simp only [go_sem, jE, reduceIte, jA, jM, jS, jL, jD, jB, b1, hq, hlt]; first | done | rfl) rfl (by simp only [go_sem, Nat.reduceLT]) ?_; simp only [go_sem, jE, reduceIte, jA, jM, jS, jL, jD, jB, b1, hq, hlt]))
      exact Aw_ret (retL (M := [0, 1, 2, 3]) (.inl rfl) (by simp only [go_sem, jE, reduceIte, jA, jM, jS, jL, jD, jB]; first | done | rfl) rfl rfl (by rfl) (by simp only [go_sem, jE, reduceIte, jA, jM, jS, jL, jD, jB]; first | done | rfl | (and_intros <;> rfl)) (by decide) (by unfold idM; decide))
    | none =>
      have hM : intoM (d + 1) s i r = (intoM d s (i + 1) q).bind fun s1 => setM s1 i (trimM r s1.times false) := by simp only [intoM, hqd, hset]
      rw [hM]
      have k3 := l12Set_no s i _ (by omega) hsm hset
      cases hin : intoM d s (i + 1) q with
      | none =>
        have k4 := ih2 hin
        refine ⟨fun s' h => by simp at h, fun _ => ?_⟩
        refine AC_of Tryz.func141 rfl Tryz.ntmps141 Tryz.results141 (by kernel_rfl) rfl ?_
        simp only [List.zipIdx, List.map, Nat.zero_add, Nat.reduceAdd]
        repeat (first | apply Aw_seq | apply Aw_block | apply Aw_skip | apply Aw_exit | refine Aw_condt rfl ?_ | refine Aw_condf rfl ?_ | ((first | refine qr ?_ | refine qd (by kernel_rfl) (by kernel_rfl) ?_); simp only [go_sem, jE, reduceIte, jA, jM, jS, jL, jD, jB, b1, hq, hlt, w1]) | refine dk (by kernel_rfl) ?_ | (refine qp (k1) (by simp only [go_sem, jE, reduceIte, jA, jM, jS, jL, jD, jB, b1, hq, hlt, w1]; first | done | rfl) rfl (by simp only [go_sem, Nat.reduceLT]) rfl rfl ?_; simp only [go_sem, jE, reduceIte, jA, jM, jS, jL, jD, jB, b1, hq, hlt, w1]) | (refine qx (call_N (L := [3]) (k2) rfl (.cons (.nm rfl) (.cons (arg_lend (m := 3) rfl (by simp)) (.cons (.nm rfl) (.nil)))) (.inr ⟨rfl, by simp⟩) rfl) (by simp only [go_sem, jE, reduceIte, jA, jM, jS, jL, jD, jB, b1, hq, hlt, w1]; first | done | rfl) rfl (by simp only [go_sem, Nat.reduceLT]) ?_; simp only [go_sem, jE, reduceIte, jA, jM, jS, jL, jD, jB, b1, hq, hlt, w1]) | (refine qx (call_L (N' := [0, 1, 2, 3, 19]) (L := []) (k3) rfl (.cons (.nm rfl) (.cons (.nm rfl) (.cons (.nm rfl) (.nil)))) (by decide) (by decide) (by decide) (by simp only [go_sem, jE, reduceIte, jA, jM, jS, jL, jD, jB, b1, hq, hlt, w1]; first | done | rfl) (.inl rfl) rfl (by decide)) (by simp only [go_sem, jE, reduceIte, jA, jM, jS, jL, jD, jB, b1, hq, hlt, w1]; first | done | rfl) rfl (by simp only [go_sem, Nat.reduceLT]) ?_; simp only [go_sem, jE, reduceIte, jA, jM, jS, jL, jD, jB, b1, hq, hlt, w1]) | (refine qx (call_L (N' := [0, 1, 2, 3]) (L := []) (k4) rfl (.cons (.nm rfl) (.cons (.nm rfl) (.cons (.nm rfl) (.nil)))) (by decide) (by decide) (by decide) (by simp only [go_sem, jE, reduceIte, jA, jM, jS, jL, jD, jB, b1, hq, hlt, w1]; first | done | rfl) (.inl rfl) rfl (by decide)) (by simp only [go_sem, jE, reduceIte, jA, jM, jS, jL, jD, jB, b1, hq, hlt, w1]; first | done | rfl) rfl (by simp only [go_sem, Nat.reduceLT]) ?_; simp only [go_sem, jE, reduceIte, jA, jM, jS, jL, jD, jB, b1, hq, hlt, w1]))
        exact Aw_ret (retL (M := [0, 1, 2, 3]) (.inl rfl) (by simp only [go_sem, jE, reduceIte, jA, jM, jS, jL, jD, jB]; first | done | rfl) rfl rfl (by rfl) (by simp only [go_sem, jE, reduceIte, jA, jM, jS, jL, jD, jB]; first | done | rfl | (and_intros <;> rfl)) (by decide) (by unfold idM; decide))
      | some s1 =>
        have k4 := ih1 s1 hin
        obtain ⟨g1, g2, _⟩ := intoM_sm d (by omega) hs hq1 hq2 hin
        have k5 := l11Trim_ac r s1.times false (by omega) (by have := g1.tl; omega)
        have hsm2 : SmR (trimM r s1.times false) := smR_trim hr _ _
        rw [Option.bind_some]
        cases hs2 : setM s1 i (trimM r s1.times false) with
        | none =>
          have k6 := l12Set_no s1 i _ (by omega) hsm2 hs2
          refine ⟨fun s' h => by simp at h, fun _ => ?_⟩
          refine AC_of Tryz.func141 rfl Tryz.ntmps141 Tryz.results141 (by kernel_rfl) rfl ?_
          simp only [List.zipIdx, List.map, Nat.zero_add, Nat.reduceAdd]
          repeat (first | apply Aw_seq | apply Aw_block | apply Aw_skip | apply Aw_exit | refine Aw_condt rfl ?_ | refine Aw_condf rfl ?_ | ((first | refine qr ?_ | refine qd (by kernel_rfl) (by kernel_rfl) ?_); simp only [go_sem, jE, reduceIte, jA, jM, jS, jL, jD, jB, b1, hq, hlt, w1]) | refine dk (by kernel_rfl) ?_ | (refine qp (k1) (by simp only [go_sem, jE, reduceIte, jA, jM, jS, jL, jD, jB, b1, hq, hlt, w1]; first | done | rfl) rfl (by simp only [go_sem, Nat.reduceLT]) rfl rfl ?_; simp only [go_sem, jE, reduceIte, jA, jM, jS, jL, jD, jB, b1, hq, hlt, w1]) | (refine qx (call_N (L := [3]) (k2) rfl (.cons (.nm rfl) (.cons (arg_lend (m := 3) rfl (by simp)) (.cons (.nm rfl) (.nil)))) (.inr ⟨rfl, by simp⟩) rfl) (by simp only [go_sem, jE, reduceIte, jA, jM, jS, jL, jD, jB, b1, hq, hlt, w1]; first | done | rfl) rfl (by simp only [go_sem, Nat.reduceLT]) ?_; simp only [go_sem, jE, reduceIte, jA, jM, jS, jL, jD, jB, b1, hq, hlt, w1]) | (refine qx (call_L (N' := [0, 1, 2, 3, 19]) (L := []) (k3) rfl (.cons (.nm rfl) (.cons (.nm rfl) (.cons (.nm rfl) (.nil)))) (by decide) (by decide) (by decide) (by simp only [go_sem, jE, reduceIte, jA, jM, jS, jL, jD, jB, b1, hq, hlt, w1]; first | done | rfl) (.inl rfl) rfl (by decide)) (by simp only [go_sem, jE, reduceIte, jA, jM, jS, jL, jD, jB, b1, hq, hlt, w1]; first | done | rfl) rfl (by simp only [go_sem, Nat.reduceLT]) ?_; simp only [go_sem, jE, reduceIte, jA, jM, jS, jL, jD, jB, b1, hq, hlt, w1]) | (refine qx (call_L (N' := [0, 1, 2, 3]) (L := []) (k4) rfl (.cons (.nm rfl) (.cons (.nm rfl) (.cons (.nm rfl) (.nil)))) (by decide) (by decide) (by decide) (by simp only [go_sem, jE, reduceIte, jA, jM, jS, jL, jD, jB, b1, hq, hlt, w1]; first | done | rfl) (.inl rfl) rfl (by decide)) (by simp only [go_sem, jE, reduceIte, jA, jM, jS, jL, jD, jB, b1, hq, hlt, w1]; first | done | rfl) rfl (by simp only [go_sem, Nat.reduceLT]) ?_; simp only [go_sem, jE, reduceIte, jA, jM, jS, jL, jD, jB, b1, hq, hlt, w1]) | (refine qx (call_N (L := [3]) (k5) rfl (.cons (.nm rfl) (.cons (arg_lend (m := 3) rfl (by simp)) (.cons (.nm rfl) (.nil)))) (.inr ⟨rfl, by simp⟩) rfl) (by simp only [go_sem, jE, reduceIte, jA, jM, jS, jL, jD, jB, b1, hq, hlt, w1]; first | done | rfl) rfl (by simp only [go_sem, Nat.reduceLT]) ?_; simp only [go_sem, jE, reduceIte, jA, jM, jS, jL, jD, jB, b1, hq, hlt, w1]) | (refine qx (call_L (N' := [0, 1, 2, 3, 56]) (L := []) (k6) rfl (.cons (.nm rfl) (.cons (.nm rfl) (.cons (.nm rfl) (.nil)))) (by decide) (by decide) (by decide) (by simp only [go_sem, jE, reduceIte, jA, jM, jS, jL, jD, jB, b1, hq, hlt, w1]; first | done | rfl) (.inl rfl) rfl (by decide)) (by simp only [go_sem, jE, reduceIte, jA, jM, jS, jL, jD, jB, b1, hq, hlt, w1]; first | done | rfl) rfl (by simp only [go_sem, Nat.reduceLT]) ?_; simp only [go_sem, jE, reduceIte, jA, jM, jS, jL, jD, jB, b1, hq, hlt, w1]))
          exact Aw_ret (retL (M := [0, 1, 2, 3]) (.inl rfl) (by simp only [go_sem, jE, reduceIte, jA, jM, jS, jL, jD, jB]; first | done | rfl) rfl rfl (by rfl) (by simp only [go_sem, jE, reduceIte, jA, jM, jS, jL, jD, jB]; first | done | rfl | (and_intros <;> rfl)) (by decide) (by unfold idM; decide))
        | some s2 =>
          have k6 := l12Set_ok s1 s2 i _ (by omega) (by rw [g1.ll]; omega) (by rw [g1.sl]; omega) hsm2 hs2
          refine ⟨fun s' h => ?_, fun h => by cases h⟩
          obtain rfl := Option.some.inj h
          refine AC_of Tryz.func141 rfl Tryz.ntmps141 Tryz.results141 (by kernel_rfl) rfl ?_
          simp only [List.zipIdx, List.map, Nat.zero_add, Nat.reduceAdd]
          repeat (first | apply Aw_seq | apply Aw_block | apply Aw_skip | apply Aw_exit | refine Aw_condt rfl ?_ | refine Aw_condf rfl ?_ | ((first | refine qr ?_ | refine qd (by kernel_rfl) (by kernel_rfl) ?_); simp only [go_sem, jE, reduceIte, jA, jM, jS, jL, jD, jB, b1, hq, hlt, w1]) | refine dk (by kernel_rfl) ?_ | (refine qp (k1) (by simp only [go_sem, jE, reduceIte, jA, jM, jS, jL, jD, jB, b1, hq, hlt, w1]; first | done | rfl) rfl (by simp only [go_sem, Nat.reduceLT]) rfl rfl ?_; simp only [go_sem, jE, reduceIte, jA, jM, jS, jL, jD, jB, b1, hq, hlt, w1]) | (refine qx (call_N (L := [3]) (k2) rfl (.cons (.nm rfl) (.cons (arg_lend (m := 3) rfl (by simp)) (.cons (.nm rfl) (.nil)))) (.inr ⟨rfl, by simp⟩) rfl) (by simp only [go_sem, jE, reduceIte, jA, jM, jS, jL, jD, jB, b1, hq, hlt, w1]; first | done | rfl) rfl (by simp only [go_sem, Nat.reduceLT]) ?_; simp only [go_sem, jE, reduceIte, jA, jM, jS, jL, jD, jB, b1, hq, hlt, w1]) | (refine qx (call_L (N' := [0, 1, 2, 3, 19]) (L := []) (k3) rfl (.cons (.nm rfl) (.cons (.nm rfl) (.cons (.nm rfl) (.nil)))) (by decide) (by decide) (by decide) (by simp only [go_sem, jE, reduceIte, jA, jM, jS, jL, jD, jB, b1, hq, hlt, w1]; first | done | rfl) (.inl rfl) rfl (by decide)) (by simp only [go_sem, jE, reduceIte, jA, jM, jS, jL, jD, jB, b1, hq, hlt, w1]; first | done | rfl) rfl (by simp only [go_sem, Nat.reduceLT]) ?_; simp only [go_sem, jE, reduceIte, jA, jM, jS, jL, jD, jB, b1, hq, hlt, w1]) | (refine qx (call_L (N' := [0, 1, 2, 3]) (L := []) (k4) rfl (.cons (.nm rfl) (.cons (.nm rfl) (.cons (.nm rfl) (.nil)))) (by decide) (by decide) (by decide) (by simp only [go_sem, jE, reduceIte, jA, jM, jS, jL, jD, jB, b1, hq, hlt, w1]; first | done | rfl) (.inl rfl) rfl (by decide)) (by simp only [go_sem, jE, reduceIte, jA, jM, jS, jL, jD, jB, b1, hq, hlt, w1]; first | done | rfl) rfl (by simp only [go_sem, Nat.reduceLT]) ?_; simp only [go_sem, jE, reduceIte, jA, jM, jS, jL, jD, jB, b1, hq, hlt, w1]) | (refine qx (call_N (L := [3]) (k5) rfl (.cons (.nm rfl) (.cons (arg_lend (m := 3) rfl (by simp)) (.cons (.nm rfl) (.nil)))) (.inr ⟨rfl, by simp⟩) rfl) (by simp only [go_sem, jE, reduceIte, jA, jM, jS, jL, jD, jB, b1, hq, hlt, w1]; first | done | rfl) rfl (by simp only [go_sem, Nat.reduceLT]) ?_; simp only [go_sem, jE, reduceIte, jA, jM, jS, jL, jD, jB, b1, hq, hlt, w1]) | (refine qx (call_L (N' := [0, 1, 2, 3, 56]) (L := []) (k6) rfl (.cons (.nm rfl) (.cons (.nm rfl) (.cons (.nm rfl) (.nil)))) (by decide) (by decide) (by decide) (by simp only [go_sem, jE, reduceIte, jA, jM, jS, jL, jD, jB, b1, hq, hlt, w1]; first | done | rfl) (.inl rfl) rfl (by decide)) (by simp only [go_sem, jE, reduceIte, jA, jM, jS, jL, jD, jB, b1, hq, hlt, w1]; first | done | rfl) rfl (by simp only [go_sem, Nat.reduceLT]) ?_; simp only [go_sem, jE, reduceIte, jA, jM, jS, jL, jD, jB, b1, hq, hlt, w1]))
          exact Aw_ret (retL (M := [0, 1, 2, 3]) (.inl rfl) (by simp only [go_sem, jE, reduceIte, jA, jM, jS, jL, jD, jB]; first | done | rfl) rfl rfl (by rfl) (by simp only [go_sem, jE, reduceIte, jA, jM, jS, jL, jD, jB]; first | done | rfl | (and_intros <;> rfl)) (by decide) (by unfold idM; decide))
def downM (s : Sto) : Option Sto := intoM 2 { s with top := [] } 0 s.top
def noTop (s : Sto) : Sto := { s with top := [] }
def zO : Obj := ⟨28, 6, false, [[.d (.s (.slice none 0 0)), .d (.s (.slice none 0 0)), .d (.s (.slice none 0 0)), .d (.s (.int .i64 0)), .d (.s (.int .i64 0)), .d (.s (.slice none 0 0))]]⟩
@[go_sem] theorem r_zO : zO = ⟨28, 6, false, [[.d (.s (.slice none 0 0)), .d (.s (.slice none 0 0)), .d (.s (.slice none 0 0)), .d (.s (.int .i64 0)), .d (.s (.int .i64 0)), .d (.s (.slice none 0 0))]]⟩ := rfl
abbrev hT5 (s : Sto) : TV := .agg [.h 4, .h 0, .h 1, .d (.s (.int .i64 s.keep)), .d (.s (.int .i64 s.time)), .h 3]
def hS5 (s : Sto) : List (Option Obj) := [some (lvRow s.levels), some (svRow s.sieves), none, some (tmRow s.times), some (eRow s.top)]
@[go_sem] theorem r_hS5 (s : Sto) : hS5 s = [some (dRow 23 1 (s.levels.map lvD)), some (dRow 76 5 (s.sieves.map sveD)), none, some (dRow 3 1 (s.times.map intD)), some (dRow 48 4 (s.top.map entD))] := rfl
theorem l12Down_no (s : Sto) (hs : SmH s) (hr : SmR s.top) (hl : s.top.length ≤ 1000) (h : downM s = none) : AC Tryz.prog 92 [hT s] (hpL (hS s)) 4 ⟨.tup [zA, bT false], hpL [none, none, none, none], 4⟩ := by
  have k : AC Tryz.prog 141 [hT (noTop s), iT (0 : Nat), runT s.top] (hpL (hS (noTop s))) 4 ⟨.tup [zA, bT false], hpL [none, none, none, none], 4⟩ := (into_ac 2 (noTop s) 0 s.top rfl ⟨hs.ll, hs.sl, hs.lev, hs.tl⟩ hr hl).2 h
  rw [show ((0 : Nat) : Int) = 0 from rfl] at k
  refine AC_of Tryz.func92 rfl Tryz.ntmps92 Tryz.results92 (by kernel_rfl) rfl ?_
  simp only [List.zipIdx, List.map, Nat.zero_add, Nat.reduceAdd]
  refine Aw.setS (os := [some (lvRow s.levels), some (svRow s.sieves), some (eRow s.top), some (tmRow s.times)]) (l' := [(0, .t (.agg [.d (.rs 4 (s.top.map entD)), .h 0, .h 1, .d (.s (.int .i64 s.keep)), .d (.s (.int .i64 s.time)), .h 3]))]) (os' := [some (lvRow s.levels), some (svRow s.sieves), none, some (tmRow s.times)]) (n' := 4) [2] ⟨.cons (SetC.row0 rfl rfl) (.cons (.inl rfl) (.cons (.inl rfl) (.cons (.inl rfl) (.cons (.inl rfl) (.cons (.inl rfl) .nil))))), trivial⟩ ⟨.inl rfl, rfl, .inl rfl, rfl, .inl rfl, rfl, trivial⟩ (Nat.le_refl _) ?_
  repeat (first | apply Aw_seq | apply Aw_block | apply Aw_skip | apply Aw_exit | refine Aw_condt rfl ?_ | refine Aw_condf rfl ?_ | ((first | refine qr ?_ | refine qd (by kernel_rfl) (by kernel_rfl) ?_); simp only [go_sem, jE, reduceIte, jA, jM, jS, jL, jD, jB, noTop]) | refine dk (by kernel_rfl) ?_ | (refine qx (call_L (N' := [0, 1, 10, 3]) (L := []) (k) rfl (.cons (.nm rfl) (.cons (.nm rfl) (.cons (.nm rfl) (.nil)))) (by decide) (by decide) (by decide) (by simp only [go_sem, jE, reduceIte, jA, jM, jS, jL, jD, jB, noTop]; first | done | rfl) (.inl rfl) rfl (by decide)) (by simp only [go_sem, jE, reduceIte, jA, jM, jS, jL, jD, jB, noTop]; first | done | rfl) rfl (by simp only [go_sem, Nat.reduceLT]) ?_; simp only [go_sem, jE, reduceIte, jA, jM, jS, jL, jD, jB, noTop]))
  exact Aw_ret (retL (M := [0, 1, 2, 3]) (.inl rfl) (by simp only [go_sem, jE, reduceIte, jA, jM, jS, jL, jD, jB]; first | done | rfl) rfl rfl (by rfl) (by simp only [go_sem, jE, reduceIte, jA, jM, jS, jL, jD, jB]; first | done | rfl | (and_intros <;> rfl)) (by decide) (by unfold idM; decide))
theorem l12Down_ok (s s' : Sto) (hs : SmH s) (hr : SmR s.top) (hl : s.top.length ≤ 1000) (h : downM s = some s') : AC Tryz.prog 92 [hT s] (hpL (hS s)) 4 ⟨.tup [hT5 s', bT true], hpL (hS5 s'), 5⟩ := by
  have k : AC Tryz.prog 141 [hT (noTop s), iT (0 : Nat), runT s.top] (hpL (hS (noTop s))) 4 ⟨.tup [hT s', bT true], hpL (hS s'), 4⟩ := (into_ac 2 (noTop s) 0 s.top rfl ⟨hs.ll, hs.sl, hs.lev, hs.tl⟩ hr hl).1 s' h
  rw [show ((0 : Nat) : Int) = 0 from rfl] at k
  refine AC_of Tryz.func92 rfl Tryz.ntmps92 Tryz.results92 (by kernel_rfl) rfl ?_
  simp only [List.zipIdx, List.map, Nat.zero_add, Nat.reduceAdd]
  refine Aw.setS (os := [some (lvRow s.levels), some (svRow s.sieves), some (eRow s.top), some (tmRow s.times)]) (l' := [(0, .t (.agg [.d (.rs 4 (s.top.map entD)), .h 0, .h 1, .d (.s (.int .i64 s.keep)), .d (.s (.int .i64 s.time)), .h 3]))]) (os' := [some (lvRow s.levels), some (svRow s.sieves), none, some (tmRow s.times)]) (n' := 4) [2] ⟨.cons (SetC.row0 rfl rfl) (.cons (.inl rfl) (.cons (.inl rfl) (.cons (.inl rfl) (.cons (.inl rfl) (.cons (.inl rfl) .nil))))), trivial⟩ ⟨.inl rfl, rfl, .inl rfl, rfl, .inl rfl, rfl, trivial⟩ (Nat.le_refl _) ?_
  repeat (first | apply Aw_seq | apply Aw_block | apply Aw_skip | apply Aw_exit | refine Aw_condt rfl ?_ | refine Aw_condf rfl ?_ | ((first | refine qr ?_ | refine qd (by kernel_rfl) (by kernel_rfl) ?_); simp only [go_sem, jE, reduceIte, jA, jM, jS, jL, jD, jB, noTop]) | refine dk (by kernel_rfl) ?_ | (refine qx (call_L (N' := [0, 1, 10, 3]) (L := []) (k) rfl (.cons (.nm rfl) (.cons (.nm rfl) (.cons (.nm rfl) (.nil)))) (by decide) (by decide) (by decide) (by simp only [go_sem, jE, reduceIte, jA, jM, jS, jL, jD, jB, noTop]; first | done | rfl) (.inl rfl) rfl (by decide)) (by simp only [go_sem, jE, reduceIte, jA, jM, jS, jL, jD, jB, noTop]; first | done | rfl) rfl (by simp only [go_sem, Nat.reduceLT]) ?_; simp only [go_sem, jE, reduceIte, jA, jM, jS, jL, jD, jB, noTop]))
  exact Aw_ret (retL (M := [0, 1, 2, 3, 10]) (.inl rfl) (by simp only [go_sem, jE, reduceIte, jA, jM, jS, jL, jD, jB]; first | done | rfl) rfl rfl (by rfl) (by simp only [go_sem, jE, reduceIte, jA, jM, jS, jL, jD, jB]; first | done | rfl | (and_intros <;> rfl)) (by decide) (by unfold idM; decide))
theorem runOk_len {r : List Ent} (h : runOk r = true) : r.length ≤ 40 := by
  unfold runOk at h; rw [Bool.and_eq_true] at h; exact of_decide_eq_true h.2
theorem storeS_facts {s : Sto} (h : storeS s = true) : s.levels.length = 3 ∧ s.sieves.length = 3 ∧ s.top.length ≤ 4 ∧ s.times.length ≤ 3 ∧ (∀ r ∈ s.levels, r.length ≤ 40) ∧ inB 0 s.time 999 = true ∧ inB 0 s.keep 5 = true := by
  unfold storeS headS at h
  simp only [Bool.and_eq_true] at h
  obtain ⟨⟨⟨⟨⟨⟨⟨h1, h2⟩, h3⟩, h4⟩, h5⟩, h6⟩, h7⟩, h8⟩ := h
  have hl := of_decide_eq_true h1
  have hsl := of_decide_eq_true h2
  refine ⟨hl, hsl, of_decide_eq_true h7, ?_, ?_, h4, h3⟩
  · unfold timesM at h5; rw [Bool.and_eq_true] at h5; exact of_decide_eq_true h5.2
  · intro r hr
    obtain ⟨i, hi⟩ := List.mem_iff_getElem?.1 hr
    have hil := (List.getElem?_eq_some_iff.1 hi).1
    have := allI_iff.1 h8 i (by omega)
    unfold sAt at this
    obtain ⟨x, hx⟩ : ∃ x, s.sieves[i]? = some x := ⟨_, List.getElem?_eq_getElem (by omega)⟩
    rw [hi, hx] at this
    simp only [Bool.and_eq_true] at this
    have l := this.1.1
    unfold lvM at l
    simp only [Bool.and_eq_true] at l
    exact runOk_len l.1.1.1
theorem valid_sm {s : Sto} (hs : SmSt s) (h : storeS s = true) : SmH s := by
  obtain ⟨h1, h2, h3, h4, h5, _⟩ := storeS_facts h
  exact ⟨h1, h2, fun r hr => ⟨hs.lev r hr, by have := h5 r hr; omega⟩, by omega⟩
theorem copyV_ac (s : Sto) (hs : SmSt s) (hv : storeS s = true) : AC Tryz.prog 55 [stT s] noHp 0 ⟨.t (hT s), hpL (hS s), 4⟩ := by
  obtain ⟨h1, h2, h3, h4, h5, _⟩ := storeS_facts hv
  obtain ⟨top, levels, sieves, keep, time, times⟩ := s
  dsimp only at h1 h2 h3 h4 h5
  obtain ⟨a, b, c, rfl⟩ := len3 h1
  obtain ⟨x, y, z, rfl⟩ := len3 h2
  have q1 := h5 a (by simp); have q2 := h5 b (by simp); have q3 := h5 c (by simp)
  exact l12CopyS_ac top a b c x y z keep time times (by omega) (by omega) (by omega) (by omega) (hs.rl x (by simp)) (hs.rl y (by simp)) (hs.rl z (by simp)) (by omega)
def addM (s : Sto) (e : Ent) : Option Sto := if (storeS s && entOk e) = true then
  (if 4 ≤ s.top.length then (downM s).map fun x => { x with top := joinM [e] x.top, time := e.time } else some { s with top := joinM [e] s.top, time := e.time }) else none
theorem l12Add_no (s : Sto) (e : Ent) (hs : SmSt s) (he : smK e.key) (h : addM s e = none) : AC Tryz.prog 37 [stT s, entT e] noHp 0 ⟨.tup [zA, bT false], noHp, 0⟩ := by
  refine AC_of Tryz.func37 rfl Tryz.ntmps37 Tryz.results37 (by kernel_rfl) rfl ?_
  simp only [List.zipIdx, List.map, Nat.zero_add, Nat.reduceAdd]
  have k1 := sstoreOk_ac s hs
  have k2 := sentOk_ac e he
  cases c1 : storeS s
  · rw [c1] at k1
    repeat (first | apply Aw_seq | apply Aw_block | apply Aw_skip | apply Aw_exit | refine Aw_condt rfl ?_ | refine Aw_condf rfl ?_ | ((first | refine qr ?_ | refine qd (by kernel_rfl) (by kernel_rfl) ?_); simp only [go_sem, jE, reduceIte, jA, jM, jS, jL, jD, jB]) | refine dk (by kernel_rfl) ?_ | (refine qp (k1) (by simp only [go_sem, jE, reduceIte, jA, jM, jS, jL, jD, jB]; first | done | rfl) rfl (by simp only [go_sem, Nat.reduceLT]) rfl rfl ?_; simp only [go_sem, jE, reduceIte, jA, jM, jS, jL, jD, jB]))
    exact Aw_ret (ret0 (.inl rfl) (by simp only [go_sem, jE, reduceIte, jA, jM, jS, jL, jD, jB]; rfl) (by rfl) rfl)
  rw [c1] at k1
  cases c2 : entOk e
  · rw [c2] at k2
    repeat (first | apply Aw_seq | apply Aw_block | apply Aw_skip | apply Aw_exit | refine Aw_condt rfl ?_ | refine Aw_condf rfl ?_ | ((first | refine qr ?_ | refine qd (by kernel_rfl) (by kernel_rfl) ?_); simp only [go_sem, jE, reduceIte, jA, jM, jS, jL, jD, jB]) | refine dk (by kernel_rfl) ?_ | (refine qp (k1) (by simp only [go_sem, jE, reduceIte, jA, jM, jS, jL, jD, jB]; first | done | rfl) rfl (by simp only [go_sem, Nat.reduceLT]) rfl rfl ?_; simp only [go_sem, jE, reduceIte, jA, jM, jS, jL, jD, jB]) | (refine qp (k2) (by simp only [go_sem, jE, reduceIte, jA, jM, jS, jL, jD, jB]; first | done | rfl) rfl (by simp only [go_sem, Nat.reduceLT]) rfl rfl ?_; simp only [go_sem, jE, reduceIte, jA, jM, jS, jL, jD, jB]))
    exact Aw_ret (ret0 (.inl rfl) (by simp only [go_sem, jE, reduceIte, jA, jM, jS, jL, jD, jB]; rfl) (by rfl) rfl)
  rw [c2] at k2
  have k3 := copyV_ac s hs c1
  obtain ⟨h1, h2, h3, h4, h5, _⟩ := storeS_facts c1
  by_cases c3 : 4 ≤ s.top.length
  case neg => unfold addM at h; simp [c1, c2, c3] at h
  have g1 : decide ((4 : Int) ≤ (s.top.length : Int)) = true := decide_eq_true (by omega)
  have hd : downM s = none := by unfold addM at h; simpa [c1, c2, c3] using h
  have k4 := l12Down_no s (valid_sm hs c1) hs.top (by omega) hd
  repeat (first | apply Aw_seq | apply Aw_block | apply Aw_skip | apply Aw_exit | refine Aw_condt rfl ?_ | refine Aw_condf rfl ?_ | ((first | refine qr ?_ | refine qd (by kernel_rfl) (by kernel_rfl) ?_); simp only [go_sem, jE, reduceIte, jA, jM, jS, jL, jD, jB, g1]) | refine dk (by kernel_rfl) ?_ | (refine qp (k1) (by simp only [go_sem, jE, reduceIte, jA, jM, jS, jL, jD, jB, g1]; first | done | rfl) rfl (by simp only [go_sem, Nat.reduceLT]) rfl rfl ?_; simp only [go_sem, jE, reduceIte, jA, jM, jS, jL, jD, jB, g1]) | (refine qp (k2) (by simp only [go_sem, jE, reduceIte, jA, jM, jS, jL, jD, jB, g1]; first | done | rfl) rfl (by simp only [go_sem, Nat.reduceLT]) rfl rfl ?_; simp only [go_sem, jE, reduceIte, jA, jM, jS, jL, jD, jB, g1]) | (refine qx (call_N (L := []) (k3) rfl (.cons (.nm rfl) (.nil)) (.inl rfl) rfl) (by simp only [go_sem, jE, reduceIte, jA, jM, jS, jL, jD, jB, g1]; first | done | rfl) rfl (by simp only [go_sem, Nat.reduceLT]) ?_; simp only [go_sem, jE, reduceIte, jA, jM, jS, jL, jD, jB, g1]) | (refine qx (call_L (N' := [11, 12, 13, 14]) (L := []) (k4) rfl (.cons (.nm rfl) (.nil)) (by decide) (by decide) (by decide) (by simp only [go_sem, jE, reduceIte, jA, jM, jS, jL, jD, jB, g1]; first | done | rfl) (.inl rfl) rfl (by decide)) (by simp only [go_sem, jE, reduceIte, jA, jM, jS, jL, jD, jB, g1]; first | done | rfl) rfl (by simp only [go_sem, Nat.reduceLT]) ?_; simp only [go_sem, jE, reduceIte, jA, jM, jS, jL, jD, jB, g1]))
  exact Aw_ret (ret0 (.inl rfl) (by simp only [go_sem, jE, reduceIte, jA, jM, jS, jL, jD, jB]; rfl) (by rfl) rfl)
theorem l12Add_okR (s s' : Sto) (e : Ent) (hs : SmSt s) (he : smK e.key) (h : addM s e = some s') : AC Tryz.prog 37 [stT s, entT e] noHp 0 ⟨.tup [hT s', bT true], hpL (hS s'), 4⟩ := by
  refine AC_of Tryz.func37 rfl Tryz.ntmps37 Tryz.results37 (by kernel_rfl) rfl ?_
  simp only [List.zipIdx, List.map, Nat.zero_add, Nat.reduceAdd]
  have k1 := sstoreOk_ac s hs
  have k2 := sentOk_ac e he
  cases c1 : storeS s
  · unfold addM at h; simp [c1] at h
  rw [c1] at k1
  cases c2 : entOk e
  · unfold addM at h; simp [c2] at h
  rw [c2] at k2
  have k3 := copyV_ac s hs c1
  obtain ⟨h1, h2, h3, h4, h5, _⟩ := storeS_facts c1
  have lb : (1 : Nat) * 40 ≤ 140737488355328 := by omega
  by_cases c3 : 4 ≤ s.top.length
  · have g1 : decide ((4 : Int) ≤ (s.top.length : Int)) = true := decide_eq_true (by omega)
    cases hd : downM s with
    | none => unfold addM at h; simp [c1, c2, c3, hd] at h
    | some x =>
      have k4 := l12Down_ok s x (valid_sm hs c1) hs.top (by omega) hd
      obtain ⟨g3, g4, g5, g6, g7⟩ := intoM_sm 2 (s := noTop s) (i := 0) rfl ⟨(valid_sm hs c1).ll, (valid_sm hs c1).sl, (valid_sm hs c1).lev, (valid_sm hs c1).tl⟩ hs.top (by omega) hd
      have e1 : s' = { x with top := joinM [e] x.top, time := e.time } := by unfold addM at h; simpa [c1, c2, c3, hd] using h.symm
      have k5 := l11Join_ac [e] x.top (by simp) (by rw [g5]; simp [noTop])
      subst e1
      repeat (first | apply Aw_seq | apply Aw_block | apply Aw_skip | apply Aw_exit | refine Aw_condt rfl ?_ | refine Aw_condf rfl ?_ | ((first | refine qr ?_ | refine qd (by kernel_rfl) (by kernel_rfl) ?_); simp only [go_sem, jE, reduceIte, jA, jM, jS, jL, jD, jB, g1]) | refine dk (by kernel_rfl) ?_ | (refine qp (k1) (by simp only [go_sem, jE, reduceIte, jA, jM, jS, jL, jD, jB, g1]; first | done | rfl) rfl (by simp only [go_sem, Nat.reduceLT]) rfl rfl ?_; simp only [go_sem, jE, reduceIte, jA, jM, jS, jL, jD, jB, g1]) | (refine qp (k2) (by simp only [go_sem, jE, reduceIte, jA, jM, jS, jL, jD, jB, g1]; first | done | rfl) rfl (by simp only [go_sem, Nat.reduceLT]) rfl rfl ?_; simp only [go_sem, jE, reduceIte, jA, jM, jS, jL, jD, jB, g1]) | (refine qx (call_N (L := []) (k3) rfl (.cons (.nm rfl) (.nil)) (.inl rfl) rfl) (by simp only [go_sem, jE, reduceIte, jA, jM, jS, jL, jD, jB, g1]; first | done | rfl) rfl (by simp only [go_sem, Nat.reduceLT]) ?_; simp only [go_sem, jE, reduceIte, jA, jM, jS, jL, jD, jB, g1]) | (refine qx (call_L (N' := [11, 12, 13, 14]) (L := []) (k4) rfl (.cons (.nm rfl) (.nil)) (by decide) (by decide) (by decide) (by simp only [go_sem, jE, reduceIte, jA, jM, jS, jL, jD, jB, g1]; first | done | rfl) (.inl rfl) rfl (by decide)) (by simp only [go_sem, jE, reduceIte, jA, jM, jS, jL, jD, jB, g1]; first | done | rfl) rfl (by simp only [go_sem, Nat.reduceLT]) ?_; simp only [go_sem, jE, reduceIte, jA, jM, jS, jL, jD, jB, g1]) | (refine qx (call_N (L := [21, 33]) (k5) rfl (.cons (.ln (n := 2) rfl (lnBB rfl)) (.cons (arg_lend (m := 21) rfl (by simp)) (.nil))) (.inr ⟨rfl, by simp⟩) rfl) (by simp only [go_sem, jE, reduceIte, jA, jM, jS, jL, jD, jB, g1]; first | done | rfl) rfl (by simp only [go_sem, Nat.reduceLT]) ?_; simp only [go_sem, jE, reduceIte, jA, jM, jS, jL, jD, jB, g1]))
      exact Aw_ret (retL (M := [11, 12, 36, 14]) (.inl rfl) (by simp only [go_sem, jE, reduceIte, jA, jM, jS, jL, jD, jB]; first | done | rfl) rfl rfl (by rfl) (by simp only [go_sem, jE, reduceIte, jA, jM, jS, jL, jD, jB]; first | done | rfl | (and_intros <;> rfl)) (by decide) (by unfold idM; decide))
  · have g1 : decide ((4 : Int) ≤ (s.top.length : Int)) = false := decide_eq_false (by omega)
    have e1 : s' = { s with top := joinM [e] s.top, time := e.time } := by unfold addM at h; simpa [c1, c2, c3] using h.symm
    have k5 := l11Join_ac [e] s.top (by simp) (by omega)
    subst e1
    repeat (first | apply Aw_seq | apply Aw_block | apply Aw_skip | apply Aw_exit | refine Aw_condt rfl ?_ | refine Aw_condf rfl ?_ | ((first | refine qr ?_ | refine qd (by kernel_rfl) (by kernel_rfl) ?_); simp only [go_sem, jE, reduceIte, jA, jM, jS, jL, jD, jB, g1]) | refine dk (by kernel_rfl) ?_ | (refine qp (k1) (by simp only [go_sem, jE, reduceIte, jA, jM, jS, jL, jD, jB, g1]; first | done | rfl) rfl (by simp only [go_sem, Nat.reduceLT]) rfl rfl ?_; simp only [go_sem, jE, reduceIte, jA, jM, jS, jL, jD, jB, g1]) | (refine qp (k2) (by simp only [go_sem, jE, reduceIte, jA, jM, jS, jL, jD, jB, g1]; first | done | rfl) rfl (by simp only [go_sem, Nat.reduceLT]) rfl rfl ?_; simp only [go_sem, jE, reduceIte, jA, jM, jS, jL, jD, jB, g1]) | (refine qx (call_N (L := []) (k3) rfl (.cons (.nm rfl) (.nil)) (.inl rfl) rfl) (by simp only [go_sem, jE, reduceIte, jA, jM, jS, jL, jD, jB, g1]; first | done | rfl) rfl (by simp only [go_sem, Nat.reduceLT]) ?_; simp only [go_sem, jE, reduceIte, jA, jM, jS, jL, jD, jB, g1]) | (refine qx (call_N (L := [13, 21]) (k5) rfl (.cons (.ln (n := 2) rfl (lnBB rfl)) (.cons (arg_lend (m := 13) rfl (by simp)) (.nil))) (.inr ⟨rfl, by simp⟩) rfl) (by simp only [go_sem, jE, reduceIte, jA, jM, jS, jL, jD, jB, g1]; first | done | rfl) rfl (by simp only [go_sem, Nat.reduceLT]) ?_; simp only [go_sem, jE, reduceIte, jA, jM, jS, jL, jD, jB, g1]))
    exact Aw_ret (retL (M := [11, 12, 24, 14]) (.inl rfl) (by simp only [go_sem, jE, reduceIte, jA, jM, jS, jL, jD, jB]; first | done | rfl) rfl rfl (by rfl) (by simp only [go_sem, jE, reduceIte, jA, jM, jS, jL, jD, jB]; first | done | rfl | (and_intros <;> rfl)) (by decide) (by unfold idM; decide))
theorem newer_iff {a b : List Ent} : newerM a b = true ↔ ∀ x ∈ a, ∀ y ∈ b, x.key = y.key → y.time < x.time := by
  unfold newerM
  rw [List.all_eq_true]
  constructor
  · intro h x hx y hy hk
    have := List.all_eq_true.1 (h x hx) y hy
    unfold older at this
    simp [hk] at this
    exact this
  · intro h x hx
    rw [List.all_eq_true]
    intro y hy
    unfold older
    by_cases hk : x.key = y.key
    · have := h x hx y hy hk
      simp [hk]; omega
    · simp [hk]
structure LvOk (s : Sto) : Prop where
  run : ∀ i, i < 3 → runOk (s.levels.getD i []) = true ∧ (s.levels.getD i []).length ≤ 8 * (i + 1)
  newer : ∀ i k, i < k → k < 3 → newerM (s.levels.getD i []) (s.levels.getD k []) = true
theorem lv_of {s : Sto} (h : storeS s = true) : LvOk s ∧ runOk s.top = true ∧ s.top.length ≤ 4 ∧ (∀ i, i < 3 → newerM s.top (s.levels.getD i []) = true) ∧ (∀ e ∈ s.top, e.time ≤ s.time) := by
  unfold storeS headS at h
  simp only [Bool.and_eq_true] at h
  obtain ⟨⟨⟨⟨⟨⟨⟨h1, h2⟩, h3⟩, h4⟩, h5⟩, h6⟩, h7⟩, h8⟩ := h
  have hl := of_decide_eq_true h1
  have hsl := of_decide_eq_true h2
  have key : ∀ i, i < 3 → runOk (s.levels.getD i []) = true ∧ (s.levels.getD i []).length ≤ 8 * (i + 1) ∧ newestM s.top (s.levels.getD i []) s.time = true ∧ ∀ k, i < k → k < 3 → newestM (s.levels.getD i []) (s.levels.getD k []) s.time = true := by
    intro i hi
    have := allI_iff.1 h8 i hi
    unfold sAt at this
    obtain ⟨r, hr⟩ : ∃ r, s.levels[i]? = some r := ⟨_, List.getElem?_eq_getElem (by omega)⟩
    obtain ⟨x, hx⟩ : ∃ x, s.sieves[i]? = some x := ⟨_, List.getElem?_eq_getElem (by omega)⟩
    have e : s.levels.getD i [] = r := by simp [List.getD, hr]
    rw [hr, hx] at this
    simp only [Bool.and_eq_true] at this
    have hlv := this.1.1
    unfold lvM at hlv
    simp only [Bool.and_eq_true] at hlv
    rw [e]
    refine ⟨hlv.1.1.1, of_decide_eq_true hlv.1.1.2, this.1.2, fun k hk hk3 => ?_⟩
    have hp := allI_iff.1 this.2 k hk3
    rw [decide_eq_false (by omega : ¬ k ≤ i), Bool.false_or] at hp
    unfold sPair at hp
    obtain ⟨q, hq⟩ : ∃ q, s.levels[k]? = some q := ⟨_, List.getElem?_eq_getElem (by omega)⟩
    have e2 : s.levels.getD k [] = q := by simp [List.getD, hq]
    rw [hr, hq] at hp
    rw [e2]; exact hp
  refine ⟨⟨fun i hi => ⟨(key i hi).1, (key i hi).2.1⟩, fun i k hik hk => ?_⟩, h6, of_decide_eq_true h7, fun i hi => ?_, ?_⟩
  · exact ((newest_iff (key k hk).1).1 ((key i (by omega)).2.2.2 k hik hk)).2
  · exact ((newest_iff (key i hi).1).1 (key i hi).2.2.1).2
  · exact ((newest_iff (key 0 (by omega)).1).1 (key 0 (by omega)).2.2.1).1
theorem run_mk {r : List Ent} (h : r.Pairwise fun a b => before a b = true) (hk : ∀ e ∈ r, entOk e = true) (hl : r.length ≤ 40) : runOk r = true := by
  rw [runOk_end, decide_eq_true (by omega)]
  intro j hj
  unfold okAt
  rw [List.getElem?_eq_getElem hj]
  simp only [Bool.and_eq_true]
  refine ⟨hk _ (List.getElem_mem hj), ?_⟩
  cases j with
  | zero => rfl
  | succ j =>
    simp only
    rw [List.getElem?_eq_getElem (by omega)]
    exact List.pairwise_iff_getElem.1 h j (j + 1) (by omega) hj (by omega)
theorem before_of {x y : Ent} (h : before x y = false) (hn : x.key = y.key → y.time < x.time) : before y x = true := by
  rw [bef_iff]
  by_cases e : x.key = y.key
  · have := (bef_iff x y).2 (.inr ⟨e, hn e⟩)
    rw [h] at this; cases this
  · refine .inl ?_
    cases c : klt x.key y.key
    · exact klt_total c e
    · have := (bef_iff x y).2 (.inl c)
      rw [h] at this; cases this
theorem join_pw : ∀ {a b : List Ent}, a.Pairwise (fun x y => before x y = true) → b.Pairwise (fun x y => before x y = true) → (∀ x ∈ a, ∀ y ∈ b, x.key = y.key → y.time < x.time) → (joinM a b).Pairwise (fun x y => before x y = true)
  | [], b, _, hb, _ => by unfold joinM; rw [List.nil_merge]; exact hb
  | x :: a, [], ha, _, _ => by rw [joinM_nil]; exact ha
  | x :: a, y :: b, ha, hb, h => by
    rw [joinM_cc]
    obtain ⟨a1, a2⟩ := List.pairwise_cons.1 ha
    obtain ⟨b1, b2⟩ := List.pairwise_cons.1 hb
    cases c : before x y
    · have d := before_of c (h x (by simp) y (by simp))
      simp only [Bool.false_eq_true, if_false]
      refine List.pairwise_cons.2 ⟨fun z hz => ?_, join_pw ha b2 fun p hp q hq => h p hp q (List.mem_cons_of_mem _ hq)⟩
      rcases mem_joinM hz with h | h
      · rcases List.mem_cons.1 h with rfl | h
        · exact d
        · exact before_trans d (a1 z h)
      · exact b1 z h
    · simp only [if_true]
      refine List.pairwise_cons.2 ⟨fun z hz => ?_, join_pw a2 hb fun p hp q hq => h p (List.mem_cons_of_mem _ hp) q hq⟩
      rcases mem_joinM hz with h | h
      · exact a1 z h
      · rcases List.mem_cons.1 h with rfl | h
        · exact c
        · exact before_trans c (b1 z h)
termination_by a b => a.length + b.length
theorem join_run {a b : List Ent} (ha : runOk a = true) (hb : runOk b = true) (h : newerM a b = true) (hl : a.length + b.length ≤ 40) : runOk (joinM a b) = true := by
  obtain ⟨a1, a2, _⟩ := run_pw ha
  obtain ⟨b1, b2, _⟩ := run_pw hb
  refine run_mk (join_pw a1 b1 (newer_iff.1 h)) (fun e he => ?_) (by rw [joinM_len]; exact hl)
  exact (mem_joinM he).elim (a2 e) (b2 e)
theorem join_swap {a b : List Ent} (ha : runOk a = true) (hb : runOk b = true) (h : runOk (joinM a b) = true) : joinM b a = joinM a b :=
  sd_run (joinM_sd (run_sd hb) (run_sd ha)) h ((joinM_perm b a).trans (List.perm_append_comm.trans (joinM_perm a b).symm))
def putTop (t : List Ent) (s : Sto) : Sto := { s with top := t }
theorem setM_top (t : List Ent) (s : Sto) (i : Nat) (r : List Ent) : setM (putTop t s) i r = (setM s i r).map (putTop t) := by
  unfold setM putTop
  cases sieveM (keysM r) s.keep with
  | none => rfl
  | some x =>
    simp only
    split <;> rfl
theorem into_top (t : List Ent) : ∀ (d : Nat) (s : Sto) (i : Nat) (r : List Ent), intoM d (putTop t s) i r = (intoM d s i r).map (putTop t)
  | 0, s, i, r => setM_top t s i _
  | d + 1, s, i, r => by
    have e1 : (putTop t s).levels = s.levels := rfl
    have e2 : (putTop t s).times = s.times := rfl
    simp only [intoM, e1, e2, setM_top]
    cases setM s i (trimM (joinM r (s.levels.getD i [])) s.times false) with
    | some x => rfl
    | none =>
      simp only [Option.map_none]
      rw [into_top t d s (i + 1)]
      cases intoM d s (i + 1) (s.levels.getD i []) with
      | none => rfl
      | some x =>
        simp only [Option.map_some, Option.bind_some]
        exact setM_top t x i _
end Go.Proofs.YtjolcfkepcmjnaaGreat.Ab
