/-
  Contracts: what is left out of a run, the program's. No condition.
  Contracts: the order of entries as a number, two stretches of a run that change places. No condition.
  Contract: two stretches of a run, side by side, that change places. No condition.
  Contract: a stretch of a run that is sorted by insertion. No condition.
  Contract: one entry ahead of a sorted stretch is merged into it. No condition.
  Contract: one entry behind a sorted stretch is merged into it. No condition.
  Contract: two sorted stretches of a run, side by side, become one. No condition.
  Contract: two sorted stretches of a run, side by side, become one. No condition.
  Plain law: blocks that are sorted, and joined two by two. No condition.
  Contracts: the stable sort of entries. No condition.
  Contract: two runs that are joined, the program's. No condition.
  Contracts: a run that is trimmed, the reference's. No condition.
  Contracts: a store anew, a level that is set, the reference's. No condition.
  Contract: a store anew, the reference's. No condition.
  Contracts: a run that is let into a level, the reference's. No condition.
  Contracts: the top that goes down, an entry that is added, the reference's. No condition.
  Contracts: an entry that is put, or a key that is taken away, the reference's. No condition.
  Plain law: the levels of a store that is one are runs, each newer than those below. No condition.
-/
import Derived.Test.YtimkdclalajadaaGreatZe
import Derived.Test.YtimkdclalajadaaGreatZd
import Derived.Test.YtimkdclalajadaaGreatZc
namespace Go.Proofs.YtimkdclalajadaaGreat.Ab
open Nat renaming reduceEqDiff → jE, reduceAdd → jA, reduceMul → jM, reduceSub → jS, reduceLT → jL, reduceLeDiff → jD, reduceBEq → jB
set_option linter.deprecated false
set_option linter.unusedVariables false
set_option linter.unusedSimpArgs false
open Go Go.Proofs
set_option maxRecDepth 10000
set_option maxHeartbeats 8000000
abbrev cmpV : TV := .c (.fn 124 [])
def cmpM (a b : Ent) : Int := if before a b = true then -1 else if before b a = true then 1 else 0
theorem cmp_ac (a b : Ent) : AC Tryz.prog 124 [entT a, entT b] noHp 0 ⟨.t (iT (cmpM a b)), noHp, 0⟩ := by
  refine AC_of Tryz.func124 rfl Tryz.ntmps124 Tryz.results124 (by kernel_rfl) rfl ?_
  simp only [List.zipIdx, List.map, Nat.zero_add, Nat.reduceAdd]
  have k1 := before_ac a b
  have k2 := before_ac b a
  unfold cmpM
  cases c1 : before a b
  · cases c2 : before b a
    · rw [c1] at k1; rw [c2] at k2
      repeat (first | apply Aw_seq | apply Aw_block | apply Aw_skip | apply Aw_exit | refine Aw_condt rfl ?_ | refine Aw_condf rfl ?_ | ((first | refine qr ?_ | refine qd (by kernel_rfl) (by kernel_rfl) ?_); simp only [go_sem, jE, reduceIte, jA, jM, jS, jL, jD, jB]) | refine dk (by kernel_rfl) ?_ | (refine qp (k1) (by simp only [go_sem, jE, reduceIte, jA, jM, jS, jL, jD, jB]; first | done | rfl) rfl (by simp only [go_sem, Nat.reduceLT]) rfl rfl ?_; simp only [go_sem, jE, reduceIte, jA, jM, jS, jL, jD, jB]) | (refine qp (k2) (by simp only [go_sem, jE, reduceIte, jA, jM, jS, jL, jD, jB]; first | done | rfl) rfl (by simp only [go_sem, Nat.reduceLT]) rfl rfl ?_; simp only [go_sem, jE, reduceIte, jA, jM, jS, jL, jD, jB]))
      exact Aw_ret (ret0 (.inl rfl) (by simp only [go_sem, jE, reduceIte, jA, jM, jS, jL, jD, jB]; rfl) (by rfl) rfl)
    · rw [c1] at k1; rw [c2] at k2
      repeat (first | apply Aw_seq | apply Aw_block | apply Aw_skip | apply Aw_exit | refine Aw_condt rfl ?_ | refine Aw_condf rfl ?_ | ((first | refine qr ?_ | refine qd (by kernel_rfl) (by kernel_rfl) ?_); simp only [go_sem, jE, reduceIte, jA, jM, jS, jL, jD, jB]) | refine dk (by kernel_rfl) ?_ | (refine qp (k1) (by simp only [go_sem, jE, reduceIte, jA, jM, jS, jL, jD, jB]; first | done | rfl) rfl (by simp only [go_sem, Nat.reduceLT]) rfl rfl ?_; simp only [go_sem, jE, reduceIte, jA, jM, jS, jL, jD, jB]) | (refine qp (k2) (by simp only [go_sem, jE, reduceIte, jA, jM, jS, jL, jD, jB]; first | done | rfl) rfl (by simp only [go_sem, Nat.reduceLT]) rfl rfl ?_; simp only [go_sem, jE, reduceIte, jA, jM, jS, jL, jD, jB]))
      exact Aw_ret (ret0 (.inl rfl) (by simp only [go_sem, jE, reduceIte, jA, jM, jS, jL, jD, jB]; rfl) (by rfl) rfl)
  · rw [c1] at k1
    repeat (first | apply Aw_seq | apply Aw_block | apply Aw_skip | apply Aw_exit | refine Aw_condt rfl ?_ | refine Aw_condf rfl ?_ | ((first | refine qr ?_ | refine qd (by kernel_rfl) (by kernel_rfl) ?_); simp only [go_sem, jE, reduceIte, jA, jM, jS, jL, jD, jB]) | refine dk (by kernel_rfl) ?_ | (refine qp (k1) (by simp only [go_sem, jE, reduceIte, jA, jM, jS, jL, jD, jB]; first | done | rfl) rfl (by simp only [go_sem, Nat.reduceLT]) rfl rfl ?_; simp only [go_sem, jE, reduceIte, jA, jM, jS, jL, jD, jB]))
    exact Aw_ret (ret0 (.inl rfl) (by simp only [go_sem, jE, reduceIte, jA, jM, jS, jL, jD, jB]; rfl) (by rfl) rfl)
theorem AC.toLV {P : Program} {f : FuncId} {args : List TV} {x : AV} (h : AC P f args noHp 0 ⟨x, noHp, 0⟩) : AC P f args (hpL []) 0 ⟨x, hpL [], 0⟩ := by rw [hpL_nil]; exact h
theorem cmpM_neg (a b : Ent) : decide (cmpM a b < 0) = before a b := by
  unfold cmpM
  cases before a b
  · cases before b a <;> rfl
  · rfl
/-- The cells of an entry. -/
theorem set_en (xs : List Ent) (n : Nat) (e : Ent) : (List.map (fun x => List.map CV.d x) (List.map entD xs)).set n [.d (.s (.string e.key)), .d (.s (.int .i64 e.val)), .d (.s (.bool e.gone)), .d (.s (.int .i64 e.time))] = List.map (fun x => List.map CV.d x) (List.map entD (xs.set n e)) := by
  rw [List.map_set, List.map_set]; rfl
theorem d_en (xs : List Ent) : (⟨56, 4, true, List.map (fun x => List.map CV.d x) (List.map entD xs)⟩ : Obj) = dRow 56 4 (List.map entD xs) := rfl
def swp (a b : Nat) (xs : List Ent) : Nat → List Ent
  | 0 => xs
  | i + 1 => match (swp a b xs i)[a + i]?, (swp a b xs i)[b + i]? with
    | some p, some q => ((swp a b xs i).set (a + i) q).set (b + i) p
    | _, _ => swp a b xs i
theorem swp_len (a b : Nat) (xs : List Ent) : ∀ i, (swp a b xs i).length = xs.length
  | 0 => rfl
  | i + 1 => by
    unfold swp
    split
    · rw [List.length_set, List.length_set]; exact swp_len a b xs i
    · exact swp_len a b xs i
theorem swapRange_ac (xs : List Ent) (a b n : Nat) (hl : xs.length ≤ 1000) (ha : a + n ≤ xs.length) (hb : b + n ≤ xs.length) : AC Tryz.prog 199 [.c (.h 0), iT a, iT b, iT n, cmpV] (hpL [some (eRow xs)]) 1 ⟨.tup [], hpL [some (eRow (swp a b xs n))], 1⟩ := by
  refine AC_of Tryz.func199 rfl Tryz.ntmps199 Tryz.results199 (by kernel_rfl) rfl ?_
  simp only [List.zipIdx, List.map, Nat.zero_add, Nat.reduceAdd]
  repeat (first | apply Aw_seq | apply Aw_block | apply Aw_skip | apply Aw_exit | refine Aw_condt rfl ?_ | refine Aw_condf rfl ?_ | ((first | refine qr ?_ | refine qd (by kernel_rfl) (by kernel_rfl) ?_); simp only [go_sem, jE, reduceIte, jA, jM, jS, jL, jD, jB]) | refine dk (by kernel_rfl) ?_)
  refine Aw.rw (rwL (l' := [(10, .t (iT (0 : Nat))), (4, .t cmpV), (3, .t (iT n)), (2, .t (iT b)), (1, .t (iT a)), (0, .t (.c (.h 0)))]) (os := [some (eRow (swp a b xs 0))]) (M := [0]) (n' := 1) (by repeat (first | exact trivial | refine ⟨rfl, rfl, ?_⟩)) (by rfl) (by simp only [go_sem, jE, reduceIte, jA, jM, jS, jL, jD, jB, swp]; first | done | rfl) (by decide) (by unfold idM; decide)) ?_
  refine Aw_loop_rw (ι := { i : Nat // i ≤ n }) (fun q => S [(10, .t (iT (q.1 : Nat))), (4, .t cmpV), (3, .t (iT n)), (2, .t (iT b)), (1, .t (iT a)), (0, .t (.c (.h 0)))] (hpL [some (eRow (swp a b xs q.1))]) 1) (fun q => n - q.1) ⟨0, Nat.zero_le _⟩ ?_
  rintro ⟨i, hi⟩
  dsimp only
  by_cases hlt : i < n
  · have g1 : (i : Int) < (n : Int) := by omega
    have w1 := wrap_succ hlt (by omega)
    have hsl := swp_len a b xs i
    obtain ⟨p, hp⟩ : ∃ e, (swp a b xs i)[a + i]? = some e := ⟨_, List.getElem?_eq_getElem (by omega)⟩
    obtain ⟨q, hq⟩ : ∃ e, (swp a b xs i)[b + i]? = some e := ⟨_, List.getElem?_eq_getElem (by omega)⟩
    have e1 : swp a b xs (i + 1) = ((swp a b xs i).set (a + i) q).set (b + i) p := by rw [swp, hp, hq]
    have wa : IntKind.i64.wrap ((a : Int) + (i : Int)) = ((a + i : Nat) : Int) := by rw [show (a : Int) + (i : Int) = ((a + i : Nat) : Int) by omega]; exact wrap_nat (by omega)
    have wb : IntKind.i64.wrap ((b : Int) + (i : Int)) = ((b + i : Nat) : Int) := by rw [show (b : Int) + (i : Int) = ((b + i : Nat) : Int) by omega]; exact wrap_nat (by omega)
    generalize swp a b xs i = ys at hsl hp hq e1 ⊢
    have la : a + i < ys.length := by omega
    have lb : b + i < ys.length := by omega
    obtain ⟨q2, hq2⟩ : ∃ e, (ys.set (a + i) q)[b + i]? = some e := ⟨_, List.getElem?_eq_getElem (by rw [List.length_set]; exact lb)⟩
    repeat (first | apply Aw_seq | apply Aw_block | apply Aw_skip | apply Aw_exit | refine Aw_condt rfl ?_ | refine Aw_condf rfl ?_ | ((first | refine qr ?_ | refine qd (by kernel_rfl) (by kernel_rfl) ?_); simp only [go_sem, jE, reduceIte, jA, jM, jS, jL, jD, jB, g1, w1, wa, wb, hp, hq, la, lb, hq2, set_en, d_en, List.length_set]) | refine dk (by kernel_rfl) ?_)
    refine ⟨⟨i + 1, hlt⟩, [0], ?_, rwL (by repeat (first | exact trivial | refine ⟨rfl, rfl, ?_⟩)) (by rfl) (by simp only [go_sem, jE, reduceIte, jA, jM, jS, jL, jD, jB, e1]; first | done | rfl) (by decide) (by unfold idM; decide)⟩
    show n - (i + 1) < n - i; omega
  · have g1 : ¬ (i : Int) < (n : Int) := by omega
    obtain rfl : i = n := by omega
    repeat (first | apply Aw_seq | apply Aw_block | apply Aw_skip | apply Aw_exit | refine Aw_condt rfl ?_ | refine Aw_condf rfl ?_ | ((first | refine qr ?_ | refine qd (by kernel_rfl) (by kernel_rfl) ?_); simp only [go_sem, jE, reduceIte, jA, jM, jS, jL, jD, jB, g1]) | refine dk (by kernel_rfl) ?_)
    exact (retL (M := [0]) (.inr rfl) (by simp only [resA, go_sem, jE, reduceIte, jA, jM, jS, jL, jD, jB]; first | done | rfl) rfl rfl (by rfl) (by simp only [go_sem, jE, reduceIte, jA, jM, jS, jL, jD, jB]; first | done | rfl | (and_intros <;> rfl)) (by decide) (by unfold idM; decide))
theorem swp_get (a b n : Nat) (xs : List Ent) (hab : a + n ≤ b) (hb : b + n ≤ xs.length) : ∀ i, i ≤ n → ∀ j, (swp a b xs i)[j]? = if a ≤ j ∧ j < a + i then xs[j + (b - a)]? else if b ≤ j ∧ j < b + i then xs[j - (b - a)]? else xs[j]?
  | 0, _, j => by rw [if_neg (by omega), if_neg (by omega)]; rfl
  | i + 1, hi, j => by
    have ih := swp_get a b n xs hab hb i (by omega)
    have ha := ih (a + i)
    rw [if_neg (by omega), if_neg (by omega)] at ha
    have hbb := ih (b + i)
    rw [if_neg (by omega), if_neg (by omega)] at hbb
    have hl := swp_len a b xs i
    obtain ⟨p, hp⟩ : ∃ e, xs[a + i]? = some e := ⟨_, List.getElem?_eq_getElem (by omega)⟩
    obtain ⟨q, hq⟩ : ∃ e, xs[b + i]? = some e := ⟨_, List.getElem?_eq_getElem (by omega)⟩
    have e1 : swp a b xs (i + 1) = ((swp a b xs i).set (a + i) q).set (b + i) p := by rw [swp, ha, hbb, hp, hq]
    rw [e1, List.getElem?_set, List.getElem?_set, List.length_set]
    by_cases c1 : b + i = j
    · subst c1
      rw [if_pos rfl, if_pos (by omega), if_neg (by omega), if_pos (by omega), show b + i - (b - a) = a + i by omega, hp]
    · rw [if_neg c1]
      by_cases c2 : a + i = j
      · subst c2
        rw [if_pos rfl, if_pos (by omega), if_pos (by omega), show a + i + (b - a) = b + i by omega, hq]
      · rw [if_neg c2, ih]
        by_cases c3 : a ≤ j ∧ j < a + i
        · rw [if_pos c3, if_pos (by omega)]
        · have r1 : ¬ (a ≤ j ∧ j < a + (i + 1)) := by omega
          rw [if_neg c3, if_neg r1]
          by_cases c4 : b ≤ j ∧ j < b + i
          · rw [if_pos c4, if_pos (by omega)]
          · rw [if_neg c4, if_neg (by omega)]
theorem swp_seg (A U W V B : List Ent) (h : U.length = V.length) : swp A.length (A.length + U.length + W.length) (A ++ U ++ W ++ V ++ B) U.length = A ++ V ++ W ++ U ++ B := by
  apply List.ext_getElem?
  intro j
  rw [swp_get A.length (A.length + U.length + W.length) U.length _ (by omega) (by simp; omega) U.length (Nat.le_refl _)]
  simp only [List.append_assoc, List.getElem?_append]
  by_cases c1 : j < A.length
  · rw [if_neg (by omega), if_neg (by omega), if_pos c1, if_pos c1]
  by_cases c2 : j < A.length + U.length
  · rw [if_pos (by omega), if_neg (by omega), if_neg (by omega), if_neg (by omega), if_pos (by omega), if_neg c1, if_pos (by omega)]
    congr 1; omega
  by_cases c3 : j < A.length + U.length + W.length
  · rw [if_neg (by omega), if_neg (by omega), if_neg c1, if_neg (by omega), if_pos (by omega), if_neg c1, if_neg (by omega), if_pos (by omega)]
    congr 1; omega
  by_cases c4 : j < A.length + U.length + W.length + V.length
  · rw [if_neg (by omega), if_pos (by omega), if_neg (by omega), if_pos (by omega), if_neg c1, if_neg (by omega), if_neg (by omega), if_pos (by omega)]
    congr 1; omega
  · rw [if_neg (by omega), if_neg (by omega), if_neg c1, if_neg (by omega), if_neg (by omega), if_neg (by omega), if_neg c1, if_neg (by omega), if_neg (by omega), if_neg (by omega)]
    congr 1; omega
/-- Two stretches of the same length change places. -/
theorem swapSeg_ac (A U W V B : List Ent) (h : U.length = V.length) (hl : (A ++ U ++ W ++ V ++ B).length ≤ 1000) (a b n : Nat) (ea : a = A.length) (eb : b = A.length + U.length + W.length) (en : n = U.length) : AC Tryz.prog 199 [.c (.h 0), iT a, iT b, iT n, cmpV] (hpL [some (eRow (A ++ U ++ W ++ V ++ B))]) 1 ⟨.tup [], hpL [some (eRow (A ++ V ++ W ++ U ++ B))], 1⟩ := by
  subst ea eb en
  rw [← swp_seg A U W V B h]
  refine swapRange_ac _ _ _ _ hl ?_ ?_ <;> simp <;> omega
structure RotI (m : Nat) (R : List Ent) where
  A : List Ent
  X : List Ent
  Y : List Ent
  B : List Ent
  i : Nat
  j : Nat
  hi : X.length = i
  hj : Y.length = j
  hX : 0 < i
  hY : 0 < j
  hm : m = A.length + i
  hl : (A ++ X ++ Y ++ B).length ≤ 1000
  h : A ++ Y ++ X ++ B = R
theorem wsub {a i n : Nat} (h : n + i = a) (hn : a ≤ 1000000) : IntKind.i64.wrap ((a : Int) - (i : Int)) = (n : Int) := by rw [show (a : Int) - (i : Int) = (n : Int) by omega]; exact wrap_nat (by omega)
theorem wadd {a i n : Nat} (h : a + i = n) (hn : n ≤ 1000000) : IntKind.i64.wrap ((a : Int) + (i : Int)) = (n : Int) := by rw [show (a : Int) + (i : Int) = (n : Int) by omega]; exact wrap_nat (by omega)
theorem rotate_ac (A X Y B : List Ent) (hX : 0 < X.length) (hY : 0 < Y.length) (hl : (A ++ X ++ Y ++ B).length ≤ 1000) (a m b : Nat) (ea : a = A.length) (em : m = A.length + X.length) (eb : b = A.length + X.length + Y.length) : AC Tryz.prog 195 [.c (.h 0), iT a, iT m, iT b, cmpV] (hpL [some (eRow (A ++ X ++ Y ++ B))]) 1 ⟨.tup [], hpL [some (eRow (A ++ Y ++ X ++ B))], 1⟩ := by
  refine AC_of Tryz.func195 rfl Tryz.ntmps195 Tryz.results195 (by kernel_rfl) rfl ?_
  simp only [List.zipIdx, List.map, Nat.zero_add, Nat.reduceAdd]
  have hlen : A.length + X.length + Y.length + B.length ≤ 1000 := by simpa [Nat.add_assoc] using hl
  have w1 : IntKind.i64.wrap ((m : Int) - (a : Int)) = (X.length : Int) := wsub (by omega) (by omega)
  have w2 : IntKind.i64.wrap ((b : Int) - (m : Int)) = (Y.length : Int) := wsub (by omega) (by omega)
  obtain ⟨R, hR⟩ : ∃ R, R = A ++ Y ++ X ++ B := ⟨_, rfl⟩
  rw [← hR]
  repeat (first | apply Aw_seq | apply Aw_block | apply Aw_skip | apply Aw_exit | refine Aw_condt rfl ?_ | refine Aw_condf rfl ?_ | ((first | refine qr ?_ | refine qd (by kernel_rfl) (by kernel_rfl) ?_); simp only [go_sem, jE, reduceIte, jA, jM, jS, jL, jD, jB, w1, w2]) | refine dk (by kernel_rfl) ?_)
  refine Aw.rw (rwL (l' := [(11, .t (iT (Y.length : Nat))), (10, .t (iT (X.length : Nat))), (4, .t cmpV), (3, .t (iT b)), (2, .t (iT m)), (1, .t (iT a)), (0, .t (.c (.h 0)))]) (os := [some (eRow (A ++ X ++ Y ++ B))]) (M := [0]) (n' := 1) (by repeat (first | exact trivial | refine ⟨rfl, rfl, ?_⟩)) (by rfl) (by simp only [go_sem, jE, reduceIte, jA, jM, jS, jL, jD, jB]; first | done | rfl) (by decide) (by unfold idM; decide)) ?_
  refine Aw_loop_rw (ι := RotI m R) (fun q => S [(11, .t (iT (q.j : Nat))), (10, .t (iT (q.i : Nat))), (4, .t cmpV), (3, .t (iT b)), (2, .t (iT m)), (1, .t (iT a)), (0, .t (.c (.h 0)))] (hpL [some (eRow (q.A ++ q.X ++ q.Y ++ q.B))]) 1) (fun q => q.i + q.j) ⟨A, X, Y, B, X.length, Y.length, rfl, rfl, hX, hY, em, hl, hR.symm⟩ ?_
  clear hR hlen w1 w2 ea em eb hX hY hl
  clear A X Y B
  rintro ⟨A, X, Y, B, i, j, hi, hj, hX, hY, hm, hl, h⟩
  dsimp only
  have hlen : A.length + i + j + B.length ≤ 1000 := by rw [← hi, ← hj]; simpa [Nat.add_assoc] using hl
  have w1 : IntKind.i64.wrap ((m : Int) - (i : Int)) = (A.length : Int) := wsub (by omega) (by omega)
  by_cases c1 : i = j
  · have g1 : decide ((i : Int) = (j : Int)) = true := decide_eq_true (by omega)
    have k := swapSeg_ac A X [] Y B (by omega) (by simpa using hl) A.length m i rfl (by simp; omega) hi.symm
    simp only [List.append_nil] at k
    rw [h] at k
    repeat (first | apply Aw_seq | apply Aw_block | apply Aw_skip | apply Aw_exit | refine Aw_condt rfl ?_ | refine Aw_condf rfl ?_ | ((first | refine qr ?_ | refine qd (by kernel_rfl) (by kernel_rfl) ?_); simp only [go_sem, jE, reduceIte, jA, jM, jS, jL, jD, jB, g1, w1]) | refine dk (by kernel_rfl) ?_ | (refine qx (call_L (N' := [0]) (L := []) (k) rfl (.cons (.nm rfl) (.cons (.nm rfl) (.cons (.nm rfl) (.cons (.nm rfl) (.cons (.nm rfl) (.nil)))))) (by decide) (by decide) (by decide) (by simp only [go_sem, jE, reduceIte, jA, jM, jS, jL, jD, jB, g1, w1]; first | done | rfl) (.inl rfl) rfl (by decide)) (by simp only [go_sem, jE, reduceIte, jA, jM, jS, jL, jD, jB, g1, w1]; first | done | rfl) rfl (by simp only [go_sem, Nat.reduceLT]) ?_; simp only [go_sem, jE, reduceIte, jA, jM, jS, jL, jD, jB, g1, w1]))
    exact (retL (M := [0]) (.inr rfl) (by simp only [resA, go_sem, jE, reduceIte, jA, jM, jS, jL, jD, jB]; first | done | rfl) rfl rfl (by rfl) (by simp only [go_sem, jE, reduceIte, jA, jM, jS, jL, jD, jB]; first | done | rfl | (and_intros <;> rfl)) (by decide) (by unfold idM; decide))
  · have g1 : decide ((i : Int) = (j : Int)) = false := decide_eq_false (by omega)
    by_cases c2 : j < i
    · have g2 : decide ((j : Int) < (i : Int)) = true := decide_eq_true (by omega)
      obtain ⟨X1, X2, rfl, hx⟩ : ∃ X1 X2, X = X1 ++ X2 ∧ X1.length = j := ⟨X.take j, X.drop j, (List.take_append_drop _ _).symm, by rw [List.length_take]; omega⟩
      rw [List.length_append] at hi
      have w2 : IntKind.i64.wrap ((i : Int) - (j : Int)) = ((i - j : Nat) : Int) := wsub (by omega) (by omega)
      have k := swapSeg_ac A X1 X2 Y B (by omega) (by simpa [Nat.add_assoc] using hl) A.length m j rfl (by omega) hx.symm
      repeat (first | apply Aw_seq | apply Aw_block | apply Aw_skip | apply Aw_exit | refine Aw_condt rfl ?_ | refine Aw_condf rfl ?_ | ((first | refine qr ?_ | refine qd (by kernel_rfl) (by kernel_rfl) ?_); simp only [go_sem, jE, reduceIte, jA, jM, jS, jL, jD, jB, g1, g2, w1, w2, List.append_assoc]) | refine dk (by kernel_rfl) ?_ | (refine qx (call_L (N' := [0]) (L := []) (k) rfl (.cons (.nm rfl) (.cons (.nm rfl) (.cons (.nm rfl) (.cons (.nm rfl) (.cons (.nm rfl) (.nil)))))) (by decide) (by decide) (by decide) (by simp only [go_sem, jE, reduceIte, jA, jM, jS, jL, jD, jB, g1, g2, w1, w2, List.append_assoc]; first | done | rfl) (.inl rfl) rfl (by decide)) (by simp only [go_sem, jE, reduceIte, jA, jM, jS, jL, jD, jB, g1, g2, w1, w2, List.append_assoc]; first | done | rfl) rfl (by simp only [go_sem, Nat.reduceLT]) ?_; simp only [go_sem, jE, reduceIte, jA, jM, jS, jL, jD, jB, g1, g2, w1, w2, List.append_assoc]))
      refine ⟨⟨A ++ Y, X2, X1, B, i - j, j, by omega, hx, by omega, hY, by rw [List.length_append]; omega, by simp only [List.length_append] at hl ⊢; omega, by rw [← h]; simp⟩, [0], ?_, rwL (by repeat (first | exact trivial | refine ⟨rfl, rfl, ?_⟩)) (by rfl) (by simp only [go_sem, jE, reduceIte, jA, jM, jS, jL, jD, jB, List.append_assoc, List.map_append]; first | done | rfl) (by decide) (by unfold idM; decide)⟩
      show i - j + j < i + j; omega
    · have g2 : decide ((j : Int) < (i : Int)) = false := decide_eq_false (by omega)
      obtain ⟨Y1, Y2, rfl, hy⟩ : ∃ Y1 Y2, Y = Y1 ++ Y2 ∧ Y2.length = i := ⟨Y.take (j - i), Y.drop (j - i), (List.take_append_drop _ _).symm, by rw [List.length_drop]; omega⟩
      rw [List.length_append] at hj
      have w2 : IntKind.i64.wrap ((j : Int) - (i : Int)) = ((j - i : Nat) : Int) := wsub (by omega) (by omega)
      have w3 : IntKind.i64.wrap ((m : Int) + (j : Int)) = ((m + j : Nat) : Int) := wadd rfl (by omega)
      have w4 : IntKind.i64.wrap (((m + j : Nat) : Int) - (i : Int)) = ((m + j - i : Nat) : Int) := wsub (by omega) (by omega)
      have k := swapSeg_ac A X Y1 Y2 B (by omega) (by simpa [Nat.add_assoc] using hl) A.length (m + j - i) i rfl (by omega) hi.symm
      repeat (first | apply Aw_seq | apply Aw_block | apply Aw_skip | apply Aw_exit | refine Aw_condt rfl ?_ | refine Aw_condf rfl ?_ | ((first | refine qr ?_ | refine qd (by kernel_rfl) (by kernel_rfl) ?_); simp only [go_sem, jE, reduceIte, jA, jM, jS, jL, jD, jB, g1, g2, w1, w2, w3, w4, List.append_assoc]) | refine dk (by kernel_rfl) ?_ | (refine qx (call_L (N' := [0]) (L := []) (k) rfl (.cons (.nm rfl) (.cons (.nm rfl) (.cons (.nm rfl) (.cons (.nm rfl) (.cons (.nm rfl) (.nil)))))) (by decide) (by decide) (by decide) (by simp only [go_sem, jE, reduceIte, jA, jM, jS, jL, jD, jB, g1, g2, w1, w2, w3, w4, List.append_assoc]; first | done | rfl) (.inl rfl) rfl (by decide)) (by simp only [go_sem, jE, reduceIte, jA, jM, jS, jL, jD, jB, g1, g2, w1, w2, w3, w4, List.append_assoc]; first | done | rfl) rfl (by simp only [go_sem, Nat.reduceLT]) ?_; simp only [go_sem, jE, reduceIte, jA, jM, jS, jL, jD, jB, g1, g2, w1, w2, w3, w4, List.append_assoc]))
      refine ⟨⟨A, Y2, Y1, X ++ B, i, j - i, hy, by omega, hX, by omega, hm, by simp only [List.length_append] at hl ⊢; omega, by rw [← h]; simp⟩, [0], ?_, rwL (by repeat (first | exact trivial | refine ⟨rfl, rfl, ?_⟩)) (by rfl) (by simp only [go_sem, jE, reduceIte, jA, jM, jS, jL, jD, jB, List.append_assoc, List.map_append]; first | done | rfl) (by decide) (by unfold idM; decide)⟩
      show i + (j - i) < i + j; omega
abbrev LeE (x y : Ent) : Prop := before y x = false
abbrev Sd (l : List Ent) : Prop := l.Pairwise LeE
theorem bef_iff (a b : Ent) : before a b = true ↔ klt a.key b.key = true ∨ (a.key = b.key ∧ b.time < a.time) := by
  unfold before
  simp only [Bool.or_eq_true, Bool.and_eq_true, decide_eq_true_eq]
theorem bef_asym {a b : Ent} (h : before a b = true) : before b a = false := by
  cases h' : before b a
  · rfl
  · exfalso
    rw [bef_iff] at h h'
    rcases h with h | ⟨h, h2⟩
    · rcases h' with k | ⟨k, _⟩
      · have := klt_trans h k; rw [klt_irrefl] at this; cases this
      · rw [k, klt_irrefl] at h; cases h
    · rcases h' with k | ⟨_, k⟩
      · rw [h, klt_irrefl] at k; cases k
      · omega
theorem leE_iff (x y : Ent) : LeE x y ↔ klt x.key y.key = true ∨ (x.key = y.key ∧ y.time ≤ x.time) := by
  unfold LeE
  constructor
  · intro h
    by_cases e : x.key = y.key
    · refine .inr ⟨e, ?_⟩
      rcases Int.lt_or_le x.time y.time with h2 | h2
      · have : before y x = true := (bef_iff y x).2 (.inr ⟨e.symm, h2⟩)
        rw [h] at this; cases this
      · exact h2
    · refine .inl ?_
      cases c : klt x.key y.key
      · have : klt y.key x.key = true := klt_total c e
        have : before y x = true := (bef_iff y x).2 (.inl this)
        rw [h] at this; cases this
      · rfl
  · intro h
    cases c : before y x
    · rfl
    · exfalso
      rw [bef_iff] at c
      rcases h with h | ⟨h, h2⟩
      · rcases c with k | ⟨k, _⟩
        · have := klt_trans h k; rw [klt_irrefl] at this; cases this
        · rw [k, klt_irrefl] at h; cases h
      · rcases c with k | ⟨_, k⟩
        · rw [h, klt_irrefl] at k; cases k
        · omega
theorem leE_trans {a b c : Ent} (h : LeE a b) (h' : LeE b c) : LeE a c := by
  rw [leE_iff] at *
  rcases h with h | ⟨h, h2⟩
  · rcases h' with k | ⟨k, _⟩
    · exact .inl (klt_trans h k)
    · exact .inl (k ▸ h)
  · rcases h' with k | ⟨k, k2⟩
    · exact .inl (h ▸ k)
    · exact .inr ⟨h.trans k, by omega⟩
/-- Into a run that is turned round. -/
def rI (y : Ent) : List Ent → List Ent
  | [] => [y]
  | z :: zs => if before y z = true then z :: rI y zs else y :: z :: zs
def insAll (R T : List Ent) : List Ent := T.foldl (fun R y => rI y R) R
def isort (R : List Ent) : List Ent := (insAll [] R).reverse
theorem get_mid (P Q : List Ent) (p : Ent) (n : Nat) (h : n = P.length) : (P ++ p :: Q)[n]? = some p := by subst h; simp
theorem set_mid (P Q : List Ent) (p v : Ent) (n : Nat) (h : n = P.length) : (P ++ p :: Q).set n v = P ++ v :: Q := by
  subst h
  rw [List.set_append_right _ _ (Nat.le_refl _)]; simp
/-- The outer rounds. -/
structure OuI (A B Z : List Ent) (b : Nat) where
  R : List Ent
  T : List Ent
  xs : List Ent
  i : Nat
  hi : i = A.length + max R.length 1
  hb : b = A.length + R.length + T.length
  hT : R = [] → T = []
  hx : xs = A ++ R.reverse ++ (T ++ B)
  h : A ++ (insAll R T).reverse ++ B = Z
/-- The inner ones. -/
structure InsI (A C Z : List Ent) (y : Ent) where
  R : List Ent
  T : List Ent
  xs : List Ent
  j : Nat
  hj : j = A.length + R.length
  hj2 : j ≤ 1000
  hx : xs = A ++ R.reverse ++ y :: T
  h : A ++ (rI y R).reverse ++ T = Z
@[go_sem] theorem r_shr1 {T : Option TI} {k k' : IntKind} {a : Int} : bop T .shr (.int k a) (.int k' 1) = some (.int k (a.fdiv 2)) := by
  unfold bop; cases k <;> simp [IntKind.bits]
/-- Halving: the first place for which it does not hold. -/
def bsF (P : Nat → Bool) (i j : Nat) : Nat := if h : i < j then (if P ((i + j) / 2) = true then bsF P ((i + j) / 2 + 1) j else bsF P i ((i + j) / 2)) else i
termination_by j - i
theorem bsF_spec (P : Nat → Bool) (lo hi : Nat) (i j : Nat) (h1 : i ≤ j) (h2 : lo ≤ i) (h3 : j ≤ hi) (h4 : i = lo ∨ P (i - 1) = true) (h5 : j = hi ∨ P j = false) : lo ≤ bsF P i j ∧ bsF P i j ≤ hi ∧ (bsF P i j = lo ∨ P (bsF P i j - 1) = true) ∧ (bsF P i j = hi ∨ P (bsF P i j) = false) := by
  unfold bsF
  by_cases c : i < j
  · rw [dif_pos c]
    cases p : P ((i + j) / 2)
    · simp only [Bool.false_eq_true, if_false]
      exact bsF_spec P lo hi i ((i + j) / 2) (by omega) h2 (by omega) h4 (.inr p)
    · simp only [if_true]
      exact bsF_spec P lo hi ((i + j) / 2 + 1) j (by omega) (by omega) h3 (.inr (by simpa using p)) h5
  · rw [dif_neg c]
    obtain rfl : i = j := by omega
    exact ⟨h2, h3, h4, h5⟩
termination_by j - i
structure BsI (P : Nat → Bool) (lo hi r : Nat) where
  i : Nat
  j : Nat
  hij : i ≤ j
  hlo : lo ≤ i
  hhi : j ≤ hi
  h : bsF P i j = r
theorem half_w (i j : Nat) (h : i + j ≤ 1000000) : IntKind.i64.wrap ((i : Int) + (j : Int)) = ((i + j : Nat) : Int) ∧ IntKind.u64.wrap ((i + j : Nat) : Int) = ((i + j : Nat) : Int) ∧ ((i + j : Nat) : Int).fdiv 2 = (((i + j) / 2 : Nat) : Int) ∧ IntKind.i64.wrap (((i + j) / 2 : Nat) : Int) = (((i + j) / 2 : Nat) : Int) := by
  refine ⟨wadd rfl (by omega), ?_, by rw [Int.fdiv_eq_ediv_of_nonneg _ (by decide)]; omega, wrap_nat (by omega)⟩
  simp [IntKind.wrap, IntKind.bits, IntKind.signed]; omega
theorem sd_head {h : Ent} {T : List Ent} (s : Sd (h :: T)) : ∀ v ∈ h :: T, LeE h v := fun v hv => by
  rcases List.mem_cons.1 hv with rfl | hv
  · exact (leE_iff _ _).2 (.inr ⟨rfl, Int.le_refl _⟩)
  · exact (List.pairwise_cons.1 s).1 v hv
theorem sd_last {T : List Ent} {l : Ent} (s : Sd (T ++ [l])) : ∀ v ∈ T ++ [l], LeE v l := fun v hv => by
  rcases List.mem_append.1 hv with hv | hv
  · exact (List.pairwise_append.1 s).2.2 v hv l (by simp)
  · simp at hv; subst hv; exact (leE_iff _ _).2 (.inr ⟨rfl, Int.le_refl _⟩)
/-- All of one list up to all of another, if the first's last is up to the second's first. -/
theorem sd_cross {T1 T2 : List Ent} (s1 : Sd T1) (s2 : Sd T2) (h : ∀ X l z Y, T1 = X ++ [l] → T2 = z :: Y → LeE l z) : ∀ x ∈ T1, ∀ y ∈ T2, LeE x y := fun x hx y hy => by
  rcases List.eq_nil_or_concat T1 with rfl | ⟨X, l, e1⟩
  · simp at hx
  · cases T2 with
    | nil => simp at hy
    | cons z Y =>
      rw [List.concat_eq_append] at e1
      subst e1
      exact leE_trans (sd_last s1 x hx) (leE_trans (h X l z Y rfl rfl) (sd_head s2 y hy))
/-- An entry that is carried behind a stretch. -/
structure MvI (A C Z : List Ent) (x : Ent) (n : Nat) where
  W1 : List Ent
  W2 : List Ent
  xs : List Ent
  k : Nat
  hk : k = A.length + W1.length
  hn : W1.length + W2.length = n
  hx : xs = A ++ W1 ++ x :: (W2 ++ C)
  hl : A.length + W1.length + W2.length + C.length ≤ 1000
  h : A ++ (W1 ++ W2) ++ x :: C = Z
theorem symOne_ac (A V B : List Ent) (x : Ent) (hV : 0 < V.length) (hl : A.length + 1 + V.length + B.length ≤ 1000) (a m b : Nat) (ea : a = A.length) (em : m = A.length + 1) (eb : b = A.length + 1 + V.length) :
    ∃ R, AC Tryz.prog 182 [.c (.h 0), iT a, iT m, iT b, cmpV] (hpL [some (eRow (A ++ [x] ++ V ++ B))]) 1 ⟨.tup [], hpL [some (eRow (A ++ R ++ B))], 1⟩ ∧ R.Perm ([x] ++ V) ∧ (Sd V → Sd R) := by
  obtain ⟨xs, hxs⟩ : ∃ xs, xs = A ++ [x] ++ V ++ B := ⟨_, rfl⟩
  have hxl : xs.length = A.length + 1 + V.length + B.length := by rw [hxs]; simp; omega
  obtain ⟨P, hP⟩ : ∃ P : Nat → Bool, P = fun h => match xs[h]? with | some y => before y x | none => false := ⟨_, rfl⟩
  obtain ⟨r, hr⟩ : ∃ r, r = bsF P m b := ⟨_, rfl⟩
  obtain ⟨s1, s2, s3, s4⟩ := bsF_spec P m b m b (by omega) (Nat.le_refl _) (Nat.le_refl _) (.inl rfl) (.inl rfl)
  rw [← hr] at s1 s2 s3 s4
  obtain ⟨V1, V2, rfl, hv⟩ : ∃ V1 V2, V = V1 ++ V2 ∧ V1.length = r - m := ⟨V.take (r - m), V.drop (r - m), (List.take_append_drop _ _).symm, by rw [List.length_take]; omega⟩
  rw [List.length_append] at hl hV eb hxl
  have hxa : xs[a]? = some x := by rw [hxs, show A ++ [x] ++ (V1 ++ V2) ++ B = A ++ x :: (V1 ++ V2 ++ B) by simp]; exact get_mid _ _ _ _ ea
  refine ⟨V1 ++ [x] ++ V2, ?_, by first | (simp; done) | simpa using (List.perm_middle (l₁ := V1) (l₂ := V2) (a := x)), fun sv => ?_⟩
  case refine_2 =>
    obtain ⟨sv1, sv2, sv3⟩ := List.pairwise_append.1 sv
    have c1 : ∀ v ∈ V1, ∀ y ∈ [x], LeE v y := sd_cross sv1 (by simp) fun X l z Y e1 e2 => by
      obtain ⟨rfl, _⟩ := List.cons.inj e2
      have hp : P (r - 1) = true := by
        rcases s3 with h | h
        · rw [e1] at hv; simp at hv; omega
        · exact h
      have hxl : xs[r - 1]? = some l := by
        rw [hxs, e1, show A ++ [x] ++ (X ++ [l] ++ V2) ++ B = (A ++ [x] ++ X) ++ l :: (V2 ++ B) by simp]
        exact get_mid _ _ _ _ (by rw [e1] at hv; simp at hv ⊢; omega)
      rw [hP] at hp
      dsimp only at hp
      rw [hxl] at hp
      exact bef_asym hp
    have c2 : ∀ y ∈ [x], ∀ v ∈ V2, LeE y v := sd_cross (by simp) sv2 fun X l z Y e1 e2 => by
      obtain rfl : l = x := by
        have := congrArg List.getLast? e1
        simpa using this.symm
      have hp : P r = false := by
        rcases s4 with h | h
        · rw [e2] at eb; simp at eb; omega
        · exact h
      have hxl : xs[r]? = some z := by
        rw [hxs, e2, show A ++ [l] ++ (V1 ++ z :: Y) ++ B = (A ++ [l] ++ V1) ++ z :: (Y ++ B) by simp]
        exact get_mid _ _ _ _ (by simp; omega)
      rw [hP] at hp
      dsimp only at hp
      rw [hxl] at hp
      exact hp
    refine List.pairwise_append.2 ⟨List.pairwise_append.2 ⟨sv1, by simp, c1⟩, sv2, fun v hvv w hw => ?_⟩
    rcases List.mem_append.1 hvv with h | h
    · exact sv3 v h w hw
    · exact c2 v h w hw
  rw [← hxs]
  obtain ⟨Z, hZ⟩ : ∃ Z, Z = A ++ (V1 ++ [x] ++ V2) ++ B := ⟨_, rfl⟩
  rw [← hZ]
  have w0 : IntKind.i64.wrap ((m : Int) - (a : Int)) = 1 := by rw [show (m : Int) - (a : Int) = 1 by omega]; rfl
  have g0 : decide ((1 : Int) = 1) = true := rfl
  refine AC_of Tryz.func182 rfl Tryz.ntmps182 Tryz.results182 (by kernel_rfl) rfl ?_
  simp only [List.zipIdx, List.map, Nat.zero_add, Nat.reduceAdd]
  repeat (first | apply Aw_seq | apply Aw_block | apply Aw_skip | apply Aw_exit | refine Aw_condt rfl ?_ | refine Aw_condf rfl ?_ | ((first | refine qr ?_ | refine qd (by kernel_rfl) (by kernel_rfl) ?_); simp only [go_sem, jE, reduceIte, jA, jM, jS, jL, jD, jB, w0, g0]) | refine dk (by kernel_rfl) ?_)
  refine Aw.rw (rwL (l' := [(11, .t (iT (b : Nat))), (10, .t (iT (m : Nat))), (4, .t cmpV), (3, .t (iT b)), (2, .t (iT m)), (1, .t (iT a)), (0, .t (.c (.h 0)))]) (os := [some (eRow xs)]) (M := [0]) (n' := 1) (by repeat (first | exact trivial | refine ⟨rfl, rfl, ?_⟩)) (by rfl) (by simp only [go_sem, jE, reduceIte, jA, jM, jS, jL, jD, jB]; first | done | rfl) (by decide) (by unfold idM; decide)) ?_
  refine Aw_loop_rw (ι := BsI P m b r) (fun q => S [(11, .t (iT (q.j : Nat))), (10, .t (iT (q.i : Nat))), (4, .t cmpV), (3, .t (iT b)), (2, .t (iT m)), (1, .t (iT a)), (0, .t (.c (.h 0)))] (hpL [some (eRow xs)]) 1) (fun q => q.j - q.i) ⟨m, b, by omega, Nat.le_refl _, Nat.le_refl _, hr.symm⟩ ?_
  rintro ⟨i, j, hij, hlo, hhi, hb⟩
  dsimp only
  by_cases c : i < j
  · have g1 : decide ((i : Int) < (j : Int)) = true := decide_eq_true (by omega)
    obtain ⟨h1, h2, h3, h4⟩ := half_w i j (by omega)
    have hu : bsF P i j = if P ((i + j) / 2) = true then bsF P ((i + j) / 2 + 1) j else bsF P i ((i + j) / 2) := by rw [bsF, dif_pos c]
    obtain ⟨h, hh⟩ : ∃ h, h = (i + j) / 2 := ⟨_, rfl⟩
    rw [← hh] at h3 h4 hu
    have w1 : IntKind.i64.wrap ((h : Int) + 1) = ((h + 1 : Nat) : Int) := wrap_succ (m := h + 1) (by omega) (by omega)
    obtain ⟨y, hy⟩ : ∃ y, xs[h]? = some y := ⟨_, List.getElem?_eq_getElem (by omega)⟩
    have l1 : h < xs.length := by omega
    have l2 : a < xs.length := by omega
    have kc := (cmp_ac y x).toLV
    have cn := cmpM_neg y x
    have pe : P h = before y x := by rw [hP]; dsimp only; rw [hy]
    rw [pe] at hu
    cases c2 : before y x
    · rw [c2] at cn hu
      rw [hu] at hb
      repeat (first | apply Aw_seq | apply Aw_block | apply Aw_skip | apply Aw_exit | refine Aw_condt rfl ?_ | refine Aw_condf rfl ?_ | ((first | refine qr ?_ | refine qd (by kernel_rfl) (by kernel_rfl) ?_); simp only [go_sem, jE, reduceIte, jA, jM, jS, jL, jD, jB, g1, h1, h2, h3, h4, hy, hxa, l1, l2, cn]) | refine dk (by kernel_rfl) ?_ | (refine ex_callv (by simp only [go_sem, jE, reduceIte, jA, jM, jS, jL, jD, jB, g1, h1, h2, h3, h4, hy, hxa, l1, l2, cn]; first | done | rfl) (call_V (N' := []) (L := []) 2 (kc) rfl (.cons (.nm rfl) (.cons (.nm rfl) (.nil))) (by first | exact .nil | (simp only [capT, List.map]; exact .nil)) (by decide) (by decide) (by decide) (by simp only [go_sem, jE, reduceIte, jA, jM, jS, jL, jD, jB, g1, h1, h2, h3, h4, hy, hxa, l1, l2, cn]; first | done | rfl) (.inl rfl) rfl (by decide)) (by simp only [go_sem, jE, reduceIte, jA, jM, jS, jL, jD, jB, g1, h1, h2, h3, h4, hy, hxa, l1, l2, cn]; first | done | rfl) rfl (by simp only [go_sem, Nat.reduceLT]) ?_; simp only [go_sem, jE, reduceIte, jA, jM, jS, jL, jD, jB, g1, h1, h2, h3, h4, hy, hxa, l1, l2, cn]))
      refine ⟨⟨i, h, by omega, hlo, by omega, hb⟩, [0], ?_, rwL (by repeat (first | exact trivial | refine ⟨rfl, rfl, ?_⟩)) (by rfl) (by simp only [go_sem, jE, reduceIte, jA, jM, jS, jL, jD, jB]; first | done | rfl) (by decide) (by unfold idM; decide)⟩
      show h - i < j - i; omega
    · rw [c2] at cn hu
      rw [hu] at hb
      repeat (first | apply Aw_seq | apply Aw_block | apply Aw_skip | apply Aw_exit | refine Aw_condt rfl ?_ | refine Aw_condf rfl ?_ | ((first | refine qr ?_ | refine qd (by kernel_rfl) (by kernel_rfl) ?_); simp only [go_sem, jE, reduceIte, jA, jM, jS, jL, jD, jB, g1, h1, h2, h3, h4, w1, hy, hxa, l1, l2, cn]) | refine dk (by kernel_rfl) ?_ | (refine ex_callv (by simp only [go_sem, jE, reduceIte, jA, jM, jS, jL, jD, jB, g1, h1, h2, h3, h4, w1, hy, hxa, l1, l2, cn]; first | done | rfl) (call_V (N' := []) (L := []) 2 (kc) rfl (.cons (.nm rfl) (.cons (.nm rfl) (.nil))) (by first | exact .nil | (simp only [capT, List.map]; exact .nil)) (by decide) (by decide) (by decide) (by simp only [go_sem, jE, reduceIte, jA, jM, jS, jL, jD, jB, g1, h1, h2, h3, h4, w1, hy, hxa, l1, l2, cn]; first | done | rfl) (.inl rfl) rfl (by decide)) (by simp only [go_sem, jE, reduceIte, jA, jM, jS, jL, jD, jB, g1, h1, h2, h3, h4, w1, hy, hxa, l1, l2, cn]; first | done | rfl) rfl (by simp only [go_sem, Nat.reduceLT]) ?_; simp only [go_sem, jE, reduceIte, jA, jM, jS, jL, jD, jB, g1, h1, h2, h3, h4, w1, hy, hxa, l1, l2, cn]))
      refine ⟨⟨h + 1, j, by omega, by omega, hhi, hb⟩, [0], ?_, rwL (by repeat (first | exact trivial | refine ⟨rfl, rfl, ?_⟩)) (by rfl) (by simp only [go_sem, jE, reduceIte, jA, jM, jS, jL, jD, jB]; first | done | rfl) (by decide) (by unfold idM; decide)⟩
      show j - (h + 1) < j - i; omega
  · have g1 : decide ((i : Int) < (j : Int)) = false := decide_eq_false (by omega)
    have er : i = r := by rw [← hb, bsF, dif_neg c]
    subst er
    repeat (first | apply Aw_seq | apply Aw_block | apply Aw_skip | apply Aw_exit | refine Aw_condt rfl ?_ | refine Aw_condf rfl ?_ | ((first | refine qr ?_ | refine qd (by kernel_rfl) (by kernel_rfl) ?_); simp only [go_sem, jE, reduceIte, jA, jM, jS, jL, jD, jB, g1]) | refine dk (by kernel_rfl) ?_)
    refine Aw.rw (rwL (l' := [(13, .t (iT (a : Nat))), (10, .t (iT (i : Nat))), (4, .t cmpV), (3, .t (iT b)), (2, .t (iT m)), (1, .t (iT a)), (0, .t (.c (.h 0)))]) (os := [some (eRow xs)]) (M := [0]) (n' := 1) (by repeat (first | exact trivial | refine ⟨rfl, rfl, ?_⟩)) (by rfl) (by simp only [go_sem, jE, reduceIte, jA, jM, jS, jL, jD, jB]; first | done | rfl) (by decide) (by unfold idM; decide)) ?_
    refine Aw_loop_rw (ι := MvI A (V2 ++ B) Z x V1.length) (fun q => S [(13, .t (iT (q.k : Nat))), (10, .t (iT (i : Nat))), (4, .t cmpV), (3, .t (iT b)), (2, .t (iT m)), (1, .t (iT a)), (0, .t (.c (.h 0)))] (hpL [some (eRow q.xs)]) 1) (fun q => q.W2.length) ⟨[], V1, xs, a, by simpa using ea, by simp, by rw [hxs]; simp, by simp; omega, by rw [hZ]; simp⟩ ?_
    have wi : IntKind.i64.wrap ((i : Int) - 1) = ((i - 1 : Nat) : Int) := wsub (i := 1) (by omega) (by omega)
    rintro ⟨W1, W2, ys, k, hk, hn, hy, hyl, hz⟩
    dsimp only
    cases W2 with
    | nil =>
      have g2 : decide ((k : Int) < ((i - 1 : Nat) : Int)) = false := decide_eq_false (by simp at hn; omega)
      have e8 : ys = Z := by rw [hy, ← hz]; simp
      rw [e8]
      repeat (first | apply Aw_seq | apply Aw_block | apply Aw_skip | apply Aw_exit | refine Aw_condt rfl ?_ | refine Aw_condf rfl ?_ | ((first | refine qr ?_ | refine qd (by kernel_rfl) (by kernel_rfl) ?_); simp only [go_sem, jE, reduceIte, jA, jM, jS, jL, jD, jB, g2, wi]) | refine dk (by kernel_rfl) ?_)
      exact Aw_ret (retL (M := [0]) (.inl rfl) (by simp only [go_sem, jE, reduceIte, jA, jM, jS, jL, jD, jB]; first | done | rfl) rfl rfl (by rfl) (by simp only [go_sem, jE, reduceIte, jA, jM, jS, jL, jD, jB]; first | done | rfl | (and_intros <;> rfl)) (by decide) (by unfold idM; decide))
    | cons w W2 =>
      simp only [List.length_cons] at hn hyl
      have g2 : decide ((k : Int) < ((i - 1 : Nat) : Int)) = true := decide_eq_true (by omega)
      have wk : IntKind.i64.wrap ((k : Int) + 1) = ((k + 1 : Nat) : Int) := wrap_succ (m := k + 1) (by omega) (by omega)
      have hy2 : ys = (A ++ W1 ++ [x]) ++ w :: (W2 ++ (V2 ++ B)) := by rw [hy]; simp
      have y1 : ys[k]? = some x := by rw [hy]; exact get_mid _ _ _ _ (by simp; omega)
      have y2 : ys[k + 1]? = some w := by rw [hy2]; exact get_mid _ _ _ _ (by simp; omega)
      have hyL : ys.length = k + 2 + W2.length + V2.length + B.length := by rw [hy2]; simp; omega
      have l1 : k < ys.length := by omega
      have l2 : k + 1 < ys.length := by omega
      obtain ⟨y3, hy3⟩ : ∃ e, (ys.set k w)[k + 1]? = some e := ⟨_, List.getElem?_eq_getElem (by rw [List.length_set]; exact l2)⟩
      have e1 : (ys.set k w).set (k + 1) x = A ++ (W1 ++ [w]) ++ x :: (W2 ++ (V2 ++ B)) := by
        have q1 : ys.set k w = (A ++ W1 ++ [w]) ++ w :: (W2 ++ (V2 ++ B)) := by
          rw [hy, set_mid _ _ _ _ _ (by simp; omega)]; simp
        rw [q1, set_mid _ _ _ _ _ (by simp; omega)]; simp
      repeat (first | apply Aw_seq | apply Aw_block | apply Aw_skip | apply Aw_exit | refine Aw_condt rfl ?_ | refine Aw_condf rfl ?_ | ((first | refine qr ?_ | refine qd (by kernel_rfl) (by kernel_rfl) ?_); simp only [go_sem, jE, reduceIte, jA, jM, jS, jL, jD, jB, g2, wi, wk, y1, y2, l1, l2, hy3, set_en, d_en, List.length_set]) | refine dk (by kernel_rfl) ?_)
      refine ⟨⟨W1 ++ [w], W2, A ++ (W1 ++ [w]) ++ x :: (W2 ++ (V2 ++ B)), k + 1, by simp; omega, by simp; omega, rfl, by simp at hyl ⊢; omega, by rw [← hz]; simp⟩, [0], ?_, rwL (by repeat (first | exact trivial | refine ⟨rfl, rfl, ?_⟩)) (by rfl) (by simp only [go_sem, jE, reduceIte, jA, jM, jS, jL, jD, jB, e1]; first | done | rfl) (by decide) (by unfold idM; decide)⟩
      show W2.length < W2.length + 1; omega
/-- An entry that is carried ahead of a stretch. -/
structure MbI (A C Z : List Ent) (y : Ent) (n : Nat) where
  R : List Ent
  T : List Ent
  xs : List Ent
  k : Nat
  hk : k = A.length + R.length
  hn : R.length + T.length = n
  hx : xs = A ++ R.reverse ++ y :: (T ++ C)
  hl : A.length + R.length + T.length + C.length ≤ 1000
  h : A ++ y :: (R.reverse ++ T ++ C) = Z
theorem symTwo_ac (A U B : List Ent) (y : Ent) (hU : 2 ≤ U.length) (hl : A.length + U.length + 1 + B.length ≤ 1000) (a m b : Nat) (ea : a = A.length) (em : m = A.length + U.length) (eb : b = A.length + U.length + 1) :
    ∃ R, AC Tryz.prog 182 [.c (.h 0), iT a, iT m, iT b, cmpV] (hpL [some (eRow (A ++ U ++ [y] ++ B))]) 1 ⟨.tup [], hpL [some (eRow (A ++ R ++ B))], 1⟩ ∧ R.Perm (U ++ [y]) ∧ (Sd U → Sd R) := by
  obtain ⟨xs, hxs⟩ : ∃ xs, xs = A ++ U ++ [y] ++ B := ⟨_, rfl⟩
  have hxl : xs.length = A.length + U.length + 1 + B.length := by rw [hxs]; simp; omega
  obtain ⟨P, hP⟩ : ∃ P : Nat → Bool, P = fun h => match xs[h]? with | some x => !before y x | none => false := ⟨_, rfl⟩
  obtain ⟨r, hr⟩ : ∃ r, r = bsF P a m := ⟨_, rfl⟩
  obtain ⟨s1, s2, s3, s4⟩ := bsF_spec P a m a m (by omega) (Nat.le_refl _) (Nat.le_refl _) (.inl rfl) (.inl rfl)
  rw [← hr] at s1 s2 s3 s4
  obtain ⟨U1, U2, rfl, hv⟩ : ∃ U1 U2, U = U1 ++ U2 ∧ U1.length = r - a := ⟨U.take (r - a), U.drop (r - a), (List.take_append_drop _ _).symm, by rw [List.length_take]; omega⟩
  rw [List.length_append] at hl hU em eb hxl
  have hxa : xs[m]? = some y := by rw [hxs, show A ++ (U1 ++ U2) ++ [y] ++ B = (A ++ (U1 ++ U2)) ++ y :: B by simp]; exact get_mid _ _ _ _ (by simp; omega)
  refine ⟨U1 ++ [y] ++ U2, ?_, ?_, fun sv => ?_⟩
  case refine_2 =>
    have h1 : (U1 ++ [y] ++ U2).Perm (y :: (U1 ++ U2)) := by first | (simp; done) | simpa using (List.perm_middle (l₁ := U1) (l₂ := U2) (a := y))
    exact h1.trans (by simpa using (List.perm_append_comm (l₁ := [y]) (l₂ := U1 ++ U2)))
  case refine_3 =>
    obtain ⟨sv1, sv2, sv3⟩ := List.pairwise_append.1 sv
    have c1 : ∀ v ∈ U1, ∀ w ∈ [y], LeE v w := sd_cross sv1 (by simp) fun X l z Y e1 e2 => by
      obtain ⟨rfl, _⟩ := List.cons.inj e2
      have hp : P (r - 1) = true := by
        rcases s3 with h | h
        · rw [e1] at hv; simp at hv; omega
        · exact h
      have hxl : xs[r - 1]? = some l := by
        rw [hxs, e1, show A ++ (X ++ [l] ++ U2) ++ [y] ++ B = (A ++ X) ++ l :: (U2 ++ [y] ++ B) by simp]
        exact get_mid _ _ _ _ (by rw [e1] at hv; simp at hv ⊢; omega)
      rw [hP] at hp
      dsimp only at hp
      rw [hxl] at hp
      simpa using hp
    have c2 : ∀ w ∈ [y], ∀ v ∈ U2, LeE w v := sd_cross (by simp) sv2 fun X l z Y e1 e2 => by
      obtain rfl : l = y := by
        have := congrArg List.getLast? e1
        simpa using this.symm
      have hp : P r = false := by
        rcases s4 with h | h
        · rw [e2] at em; simp at em; omega
        · exact h
      have hxl : xs[r]? = some z := by
        rw [hxs, e2, show A ++ (U1 ++ z :: Y) ++ [l] ++ B = (A ++ U1) ++ z :: (Y ++ [l] ++ B) by simp]
        exact get_mid _ _ _ _ (by simp; omega)
      rw [hP] at hp
      dsimp only at hp
      rw [hxl] at hp
      exact bef_asym (by simpa using hp)
    refine List.pairwise_append.2 ⟨List.pairwise_append.2 ⟨sv1, by simp, c1⟩, sv2, fun v hvv w hw => ?_⟩
    rcases List.mem_append.1 hvv with h | h
    · exact sv3 v h w hw
    · exact c2 v h w hw
  rw [← hxs]
  obtain ⟨Z, hZ⟩ : ∃ Z, Z = A ++ (U1 ++ [y] ++ U2) ++ B := ⟨_, rfl⟩
  rw [← hZ]
  have w0 : IntKind.i64.wrap ((m : Int) - (a : Int)) = ((m - a : Nat) : Int) := wsub (by omega) (by omega)
  have g0 : decide (((m - a : Nat) : Int) = 1) = false := decide_eq_false (by omega)
  have w5 : IntKind.i64.wrap ((b : Int) - (m : Int)) = 1 := by rw [show (b : Int) - (m : Int) = 1 by omega]; rfl
  have g5 : decide ((1 : Int) = 1) = true := rfl
  refine AC_of Tryz.func182 rfl Tryz.ntmps182 Tryz.results182 (by kernel_rfl) rfl ?_
  simp only [List.zipIdx, List.map, Nat.zero_add, Nat.reduceAdd]
  repeat (first | apply Aw_seq | apply Aw_block | apply Aw_skip | apply Aw_exit | refine Aw_condt rfl ?_ | refine Aw_condf rfl ?_ | ((first | refine qr ?_ | refine qd (by kernel_rfl) (by kernel_rfl) ?_); simp only [go_sem, jE, reduceIte, jA, jM, jS, jL, jD, jB, w0, g0, w5, g5]) | refine dk (by kernel_rfl) ?_)
  refine Aw.rw (rwL (l' := [(15, .t (iT (m : Nat))), (14, .t (iT (a : Nat))), (4, .t cmpV), (3, .t (iT b)), (2, .t (iT m)), (1, .t (iT a)), (0, .t (.c (.h 0)))]) (os := [some (eRow xs)]) (M := [0]) (n' := 1) (by repeat (first | exact trivial | refine ⟨rfl, rfl, ?_⟩)) (by rfl) (by simp only [go_sem, jE, reduceIte, jA, jM, jS, jL, jD, jB]; first | done | rfl) (by decide) (by unfold idM; decide)) ?_
  refine Aw_loop_rw (ι := BsI P a m r) (fun q => S [(15, .t (iT (q.j : Nat))), (14, .t (iT (q.i : Nat))), (4, .t cmpV), (3, .t (iT b)), (2, .t (iT m)), (1, .t (iT a)), (0, .t (.c (.h 0)))] (hpL [some (eRow xs)]) 1) (fun q => q.j - q.i) ⟨a, m, by omega, Nat.le_refl _, Nat.le_refl _, hr.symm⟩ ?_
  rintro ⟨i, j, hij, hlo, hhi, hb⟩
  dsimp only
  by_cases c : i < j
  · have g1 : decide ((i : Int) < (j : Int)) = true := decide_eq_true (by omega)
    obtain ⟨h1, h2, h3, h4⟩ := half_w i j (by omega)
    have hu : bsF P i j = if P ((i + j) / 2) = true then bsF P ((i + j) / 2 + 1) j else bsF P i ((i + j) / 2) := by rw [bsF, dif_pos c]
    obtain ⟨h, hh⟩ : ∃ h, h = (i + j) / 2 := ⟨_, rfl⟩
    rw [← hh] at h3 h4 hu
    have w1 : IntKind.i64.wrap ((h : Int) + 1) = ((h + 1 : Nat) : Int) := wrap_succ (m := h + 1) (by omega) (by omega)
    obtain ⟨x, hy⟩ : ∃ y, xs[h]? = some y := ⟨_, List.getElem?_eq_getElem (by omega)⟩
    have l1 : h < xs.length := by omega
    have l2 : m < xs.length := by omega
    have kc := (cmp_ac y x).toLV
    have cn := cmpM_neg y x
    have pe : P h = !before y x := by rw [hP]; dsimp only; rw [hy]
    rw [pe] at hu
    cases c2 : before y x
    · rw [c2] at cn hu
      rw [hu] at hb
      repeat (first | apply Aw_seq | apply Aw_block | apply Aw_skip | apply Aw_exit | refine Aw_condt rfl ?_ | refine Aw_condf rfl ?_ | ((first | refine qr ?_ | refine qd (by kernel_rfl) (by kernel_rfl) ?_); simp only [go_sem, jE, reduceIte, jA, jM, jS, jL, jD, jB, g1, h1, h2, h3, h4, w1, hy, hxa, l1, l2, cn]) | refine dk (by kernel_rfl) ?_ | (refine ex_callv (by simp only [go_sem, jE, reduceIte, jA, jM, jS, jL, jD, jB, g1, h1, h2, h3, h4, w1, hy, hxa, l1, l2, cn]; first | done | rfl) (call_V (N' := []) (L := []) 2 (kc) rfl (.cons (.nm rfl) (.cons (.nm rfl) (.nil))) (by first | exact .nil | (simp only [capT, List.map]; exact .nil)) (by decide) (by decide) (by decide) (by simp only [go_sem, jE, reduceIte, jA, jM, jS, jL, jD, jB, g1, h1, h2, h3, h4, w1, hy, hxa, l1, l2, cn]; first | done | rfl) (.inl rfl) rfl (by decide)) (by simp only [go_sem, jE, reduceIte, jA, jM, jS, jL, jD, jB, g1, h1, h2, h3, h4, w1, hy, hxa, l1, l2, cn]; first | done | rfl) rfl (by simp only [go_sem, Nat.reduceLT]) ?_; simp only [go_sem, jE, reduceIte, jA, jM, jS, jL, jD, jB, g1, h1, h2, h3, h4, w1, hy, hxa, l1, l2, cn]))
      refine ⟨⟨h + 1, j, by omega, by omega, hhi, hb⟩, [0], ?_, rwL (by repeat (first | exact trivial | refine ⟨rfl, rfl, ?_⟩)) (by rfl) (by simp only [go_sem, jE, reduceIte, jA, jM, jS, jL, jD, jB]; first | done | rfl) (by decide) (by unfold idM; decide)⟩
      show j - (h + 1) < j - i; omega
    · rw [c2] at cn hu
      rw [hu] at hb
      repeat (first | apply Aw_seq | apply Aw_block | apply Aw_skip | apply Aw_exit | refine Aw_condt rfl ?_ | refine Aw_condf rfl ?_ | ((first | refine qr ?_ | refine qd (by kernel_rfl) (by kernel_rfl) ?_); simp only [go_sem, jE, reduceIte, jA, jM, jS, jL, jD, jB, g1, h1, h2, h3, h4, hy, hxa, l1, l2, cn]) | refine dk (by kernel_rfl) ?_ | (refine ex_callv (by simp only [go_sem, jE, reduceIte, jA, jM, jS, jL, jD, jB, g1, h1, h2, h3, h4, hy, hxa, l1, l2, cn]; first | done | rfl) (call_V (N' := []) (L := []) 2 (kc) rfl (.cons (.nm rfl) (.cons (.nm rfl) (.nil))) (by first | exact .nil | (simp only [capT, List.map]; exact .nil)) (by decide) (by decide) (by decide) (by simp only [go_sem, jE, reduceIte, jA, jM, jS, jL, jD, jB, g1, h1, h2, h3, h4, hy, hxa, l1, l2, cn]; first | done | rfl) (.inl rfl) rfl (by decide)) (by simp only [go_sem, jE, reduceIte, jA, jM, jS, jL, jD, jB, g1, h1, h2, h3, h4, hy, hxa, l1, l2, cn]; first | done | rfl) rfl (by simp only [go_sem, Nat.reduceLT]) ?_; simp only [go_sem, jE, reduceIte, jA, jM, jS, jL, jD, jB, g1, h1, h2, h3, h4, hy, hxa, l1, l2, cn]))
      refine ⟨⟨i, h, by omega, hlo, by omega, hb⟩, [0], ?_, rwL (by repeat (first | exact trivial | refine ⟨rfl, rfl, ?_⟩)) (by rfl) (by simp only [go_sem, jE, reduceIte, jA, jM, jS, jL, jD, jB]; first | done | rfl) (by decide) (by unfold idM; decide)⟩
      show h - i < j - i; omega
  · have g1 : decide ((i : Int) < (j : Int)) = false := decide_eq_false (by omega)
    have er : i = r := by rw [← hb, bsF, dif_neg c]
    subst er
    repeat (first | apply Aw_seq | apply Aw_block | apply Aw_skip | apply Aw_exit | refine Aw_condt rfl ?_ | refine Aw_condf rfl ?_ | ((first | refine qr ?_ | refine qd (by kernel_rfl) (by kernel_rfl) ?_); simp only [go_sem, jE, reduceIte, jA, jM, jS, jL, jD, jB, g1]) | refine dk (by kernel_rfl) ?_)
    refine Aw.rw (rwL (l' := [(17, .t (iT (m : Nat))), (14, .t (iT (i : Nat))), (4, .t cmpV), (3, .t (iT b)), (2, .t (iT m)), (1, .t (iT a)), (0, .t (.c (.h 0)))]) (os := [some (eRow xs)]) (M := [0]) (n' := 1) (by repeat (first | exact trivial | refine ⟨rfl, rfl, ?_⟩)) (by rfl) (by simp only [go_sem, jE, reduceIte, jA, jM, jS, jL, jD, jB]; first | done | rfl) (by decide) (by unfold idM; decide)) ?_
    refine Aw_loop_rw (ι := MbI (A ++ U1) B Z y U2.length) (fun q => S [(17, .t (iT (q.k : Nat))), (14, .t (iT (i : Nat))), (4, .t cmpV), (3, .t (iT b)), (2, .t (iT m)), (1, .t (iT a)), (0, .t (.c (.h 0)))] (hpL [some (eRow q.xs)]) 1) (fun q => q.R.length) ⟨U2.reverse, [], xs, m, by simp; omega, by simp, by rw [hxs]; simp, by simp; omega, by rw [hZ]; simp⟩ ?_
    have hA : (A ++ U1).length = i := by simp; omega
    rintro ⟨R, T, ys, k, hk, hn, hy, hyl, hz⟩
    dsimp only
    rw [hA] at hk hyl
    cases R with
    | nil =>
      have g2 : decide ((i : Int) < (k : Int)) = false := decide_eq_false (by simp at hk; omega)
      have e8 : ys = Z := by rw [hy, ← hz]; simp
      rw [e8]
      repeat (first | apply Aw_seq | apply Aw_block | apply Aw_skip | apply Aw_exit | refine Aw_condt rfl ?_ | refine Aw_condf rfl ?_ | ((first | refine qr ?_ | refine qd (by kernel_rfl) (by kernel_rfl) ?_); simp only [go_sem, jE, reduceIte, jA, jM, jS, jL, jD, jB, g2]) | refine dk (by kernel_rfl) ?_)
      exact Aw_ret (retL (M := [0]) (.inl rfl) (by simp only [go_sem, jE, reduceIte, jA, jM, jS, jL, jD, jB]; first | done | rfl) rfl rfl (by rfl) (by simp only [go_sem, jE, reduceIte, jA, jM, jS, jL, jD, jB]; first | done | rfl | (and_intros <;> rfl)) (by decide) (by unfold idM; decide))
    | cons w R =>
      simp only [List.length_cons] at hk hn hyl
      have g2 : decide ((i : Int) < (k : Int)) = true := decide_eq_true (by omega)
      have wk : IntKind.i64.wrap ((k : Int) - 1) = ((k - 1 : Nat) : Int) := wsub (i := 1) (by omega) (by omega)
      have hy2 : ys = (A ++ U1 ++ R.reverse) ++ w :: (y :: (T ++ B)) := by rw [hy]; simp
      have y1 : ys[k]? = some y := by rw [hy]; exact get_mid _ _ _ _ (by rw [List.length_append, hA]; simp; omega)
      have y2 : ys[k - 1]? = some w := by rw [hy2]; exact get_mid _ _ _ _ (by rw [List.length_append, hA]; simp; omega)
      have hyL : ys.length = k + 1 + T.length + B.length := by rw [hy2, List.length_append, List.length_append, hA]; simp; omega
      have l1 : k < ys.length := by omega
      have l2 : k - 1 < ys.length := by omega
      obtain ⟨y3, hy3⟩ : ∃ e, (ys.set k w)[k - 1]? = some e := ⟨_, List.getElem?_eq_getElem (by rw [List.length_set]; exact l2)⟩
      have e1 : (ys.set k w).set (k - 1) y = (A ++ U1) ++ R.reverse ++ y :: ((w :: T) ++ B) := by
        have q1 : ys.set k w = (A ++ U1 ++ R.reverse) ++ w :: (w :: (T ++ B)) := by
          rw [hy, show (A ++ U1) ++ (w :: R).reverse ++ y :: (T ++ B) = ((A ++ U1) ++ R.reverse ++ [w]) ++ y :: (T ++ B) by simp, set_mid _ _ _ _ _ (by rw [List.length_append, List.length_append, hA]; simp; omega)]; simp
        rw [q1, set_mid _ _ _ _ _ (by rw [List.length_append, hA]; simp; omega)]; simp
      repeat (first | apply Aw_seq | apply Aw_block | apply Aw_skip | apply Aw_exit | refine Aw_condt rfl ?_ | refine Aw_condf rfl ?_ | ((first | refine qr ?_ | refine qd (by kernel_rfl) (by kernel_rfl) ?_); simp only [go_sem, jE, reduceIte, jA, jM, jS, jL, jD, jB, g2, wk, y1, y2, l1, l2, hy3, set_en, d_en, List.length_set]) | refine dk (by kernel_rfl) ?_)
      refine ⟨⟨R, w :: T, (A ++ U1) ++ R.reverse ++ y :: ((w :: T) ++ B), k - 1, by rw [hA]; omega, by simp; omega, rfl, by rw [hA]; simp at hyl ⊢; omega, by rw [← hz]; simp⟩, [0], ?_, rwL (by repeat (first | exact trivial | refine ⟨rfl, rfl, ?_⟩)) (by rfl) (by simp only [go_sem, jE, reduceIte, jA, jM, jS, jL, jD, jB, e1]; first | done | rfl) (by decide) (by unfold idM; decide)⟩
      show R.length < R.length + 1; omega
def SymOk (n : Nat) : Prop := ∀ (A U V B : List Ent) (a m b : Nat), U.length + V.length ≤ n → 0 < U.length → 0 < V.length → A.length + U.length + V.length + B.length ≤ 1000 → a = A.length → m = A.length + U.length → b = A.length + U.length + V.length →
  ∃ R, AC Tryz.prog 182 [.c (.h 0), iT a, iT m, iT b, cmpV] (hpL [some (eRow (A ++ U ++ V ++ B))]) 1 ⟨.tup [], hpL [some (eRow (A ++ R ++ B))], 1⟩ ∧ R.Perm (U ++ V) ∧ (Sd U → Sd V → Sd R)
theorem sym_half {n : Nat} (H : SymOk n) (A U V B : List Ent) (h : U.length + V.length ≤ n) (hb : A.length + U.length + V.length + B.length ≤ 1000) (a m b : Nat) (ea : a = A.length) (em : m = A.length + U.length) (eb : b = A.length + U.length + V.length) :
    ∃ R, (0 < U.length → 0 < V.length → AC Tryz.prog 182 [.c (.h 0), iT a, iT m, iT b, cmpV] (hpL [some (eRow (A ++ U ++ V ++ B))]) 1 ⟨.tup [], hpL [some (eRow (A ++ R ++ B))], 1⟩) ∧ ((U = [] ∨ V = []) → R = U ++ V) ∧ R.Perm (U ++ V) ∧ (Sd U → Sd V → Sd R) := by
  by_cases h1 : U = []
  · subst h1; exact ⟨[] ++ V, fun h => absurd h (by simp), fun _ => rfl, .refl _, fun _ s => s⟩
  · by_cases h2 : V = []
    · subst h2; exact ⟨U ++ [], fun _ h => absurd h (by simp), fun _ => rfl, .refl _, fun s _ => by simpa using s⟩
    · obtain ⟨R, e, p, s⟩ := H A U V B a m b h (List.length_pos_iff.2 h1) (List.length_pos_iff.2 h2) hb ea em eb
      exact ⟨R, fun _ _ => e, fun h => by rcases h with h | h <;> contradiction, p, s⟩
theorem sym_ar {a u v mid N lo hi B : Nat} (hm : mid = (a + (a + u + v)) / 2) (hN : N = mid + (a + u)) (hU : 2 ≤ u) (hV : 2 ≤ v) (hb : a + u + v + B ≤ 1000) (hl : (a + u > mid ∧ lo + (a + u + v) = N ∧ hi = mid) ∨ (a + u ≤ mid ∧ lo = a ∧ hi = a + u)) :
    lo ≤ hi ∧ a ≤ lo ∧ hi ≤ a + u ∧ hi ≤ mid ∧ N ≤ lo + (a + u + v) ∧ a < mid ∧ mid < a + u + v ∧ N ≤ 2000 := by omega
theorem sym_ar2 {a u v mid N lo hi r n : Nat} (hN : N = mid + (a + u)) (h1 : lo ≤ hi) (h2 : a ≤ lo) (h3 : hi ≤ a + u) (h4 : hi ≤ mid) (h5 : N ≤ lo + (a + u + v)) (h6 : a < mid) (h7 : mid < a + u + v) (g1 : lo ≤ r) (g2 : r ≤ hi) (hn : u + v ≤ n + 1) :
    r - a ≤ u ∧ mid - r ≤ v ∧ a + (r - a) = r ∧ (r - a) + (u - (r - a)) = u ∧ a + (r - a) + (mid - r) = mid ∧ a + (r - a) + (mid - r) + (u - (r - a)) = N - r ∧ a + (r - a) + (mid - r) + (u - (r - a)) + (v - (mid - r)) = a + u + v ∧ (r - a) + (mid - r) ≤ n ∧ (u - (r - a)) + (v - (mid - r)) ≤ n ∧ a + (r - a) + (u - (r - a)) = a + u ∧ (N - r) + r = N ∧ (r < a + u ↔ 0 < u - (r - a)) ∧ (a + u < N - r ↔ 0 < mid - r) := by omega
/-- What halving leaves, and the two that are joined of it. -/
theorem sym_plan {n : Nat} (H : SymOk n) (A U V B : List Ent) (hn : U.length + V.length ≤ n + 1) (hU : 2 ≤ U.length) (hV : 2 ≤ V.length) (hb : A.length + U.length + V.length + B.length ≤ 1000) (a m b mid N lo hi : Nat) (ea : a = A.length) (em : m = A.length + U.length) (eb : b = A.length + U.length + V.length)
    (hm : mid = (a + b) / 2) (hN : N = mid + m) (hl : (m > mid ∧ lo + b = N ∧ hi = mid) ∨ (m ≤ mid ∧ lo = a ∧ hi = m)) (P : Nat → Bool) (hP : P = fun c => match (A ++ U ++ V ++ B)[N - 1 - c]?, (A ++ U ++ V ++ B)[c]? with | some x, some y => !before x y | _, _ => false) (r : Nat) (hr : r = bsF P lo hi) :
    ∃ U1 U2 V1 V2 M1 M2, U = U1 ++ U2 ∧ V = V1 ++ V2 ∧ A.length + U1.length = r ∧ A.length + U1.length + V1.length = mid ∧ A.length + U1.length + V1.length + U2.length = N - r ∧ lo ≤ r ∧ r ≤ hi ∧ hi ≤ mid ∧ N ≤ lo + b ∧ mid < b ∧ lo ≤ hi ∧
      (0 < U1.length → 0 < V1.length → AC Tryz.prog 182 [.c (.h 0), iT a, iT r, iT mid, cmpV] (hpL [some (eRow (A ++ U1 ++ V1 ++ (U2 ++ V2 ++ B)))]) 1 ⟨.tup [], hpL [some (eRow (A ++ M1 ++ (U2 ++ V2 ++ B)))], 1⟩) ∧ ((U1 = [] ∨ V1 = []) → M1 = U1 ++ V1) ∧
      (0 < U2.length → 0 < V2.length → AC Tryz.prog 182 [.c (.h 0), iT mid, iT (N - r : Nat), iT b, cmpV] (hpL [some (eRow (A ++ M1 ++ U2 ++ V2 ++ B))]) 1 ⟨.tup [], hpL [some (eRow (A ++ M1 ++ M2 ++ B))], 1⟩) ∧ ((U2 = [] ∨ V2 = []) → M2 = U2 ++ V2) ∧
      (M1 ++ M2).Perm (U ++ V) ∧ (Sd U → Sd V → Sd (M1 ++ M2)) := by
  subst ea em eb
  obtain ⟨h1, h2, h3, h4, h5, h6, h7, h8⟩ := sym_ar hm hN hU hV hb hl
  obtain ⟨g1, g2, g3, g4⟩ := bsF_spec P lo hi lo hi h1 (Nat.le_refl _) (Nat.le_refl _) (.inl rfl) (.inl rfl)
  rw [← hr] at g1 g2 g3 g4
  obtain ⟨a1, a2, a3, a4, a5, a6, a7, a8, a9, a10, a11, a12, a13⟩ := sym_ar2 hN h1 h2 h3 h4 h5 h6 h7 g1 g2 hn
  obtain ⟨U1, U2, rfl, t1⟩ : ∃ U1 U2, U = U1 ++ U2 ∧ U1.length = r - A.length := ⟨U.take (r - A.length), U.drop (r - A.length), (List.take_append_drop _ _).symm, by rw [List.length_take]; omega⟩
  obtain ⟨V1, V2, rfl, u1⟩ : ∃ V1 V2, V = V1 ++ V2 ∧ V1.length = mid - r := ⟨V.take (mid - r), V.drop (mid - r), (List.take_append_drop _ _).symm, by rw [List.length_take]; omega⟩
  simp only [List.length_append] at *
  obtain ⟨M1, e1, n1, p1, s1⟩ := sym_half H A U1 V1 (U2 ++ V2 ++ B) (by omega) (by simp; omega) A.length r mid rfl (by omega) (by omega)
  have l1 : M1.length = U1.length + V1.length := by simpa using p1.length_eq
  obtain ⟨M2, e2, n2, p2, s2⟩ := sym_half H (A ++ M1) U2 V2 B (by omega) (by simp; omega) mid (N - r) (A.length + (U1.length + U2.length) + (V1.length + V2.length)) (by simp; omega) (by simp; omega) (by simp; omega)
  refine ⟨U1, U2, V1, V2, M1, M2, rfl, rfl, by omega, by omega, by omega, g1, g2, h4, by omega, by omega, h1, e1, n1, e2, n2, ?_, fun sU sV => ?_⟩
  · have q : (M1 ++ M2).Perm ((U1 ++ V1) ++ (U2 ++ V2)) := p1.append p2
    refine q.trans ?_
    rw [List.append_assoc, List.append_assoc]
    refine List.Perm.append_left _ ?_
    rw [← List.append_assoc, ← List.append_assoc]
    exact (List.perm_append_comm).append_right _
  · obtain ⟨x1, x2, x3⟩ := List.pairwise_append.1 sU
    obtain ⟨y1, y2, y3⟩ := List.pairwise_append.1 sV
    have z1 : ∀ x ∈ U1, ∀ y ∈ V2, LeE x y := sd_cross x1 y2 fun X l z Y e1 e2 => by
      rcases g3 with g3 | g3
      · exfalso
        have q1 : 0 < U1.length := by rw [e1]; simp
        have q2 : 0 < V2.length := by rw [e2]; simp
        rcases hl with ⟨_, q, _⟩ | ⟨_, q, _⟩ <;> omega
      · have rl : (A ++ (U1 ++ U2) ++ (V1 ++ V2) ++ B)[r - 1]? = some l := by
          rw [show A ++ (U1 ++ U2) ++ (V1 ++ V2) ++ B = (A ++ X) ++ l :: (U2 ++ (V1 ++ V2) ++ B) by rw [e1]; simp]
          exact get_mid _ _ _ _ (by rw [e1] at t1; simp at t1 ⊢; omega)
        have rz : (A ++ (U1 ++ U2) ++ (V1 ++ V2) ++ B)[N - 1 - (r - 1)]? = some z := by
          rw [show A ++ (U1 ++ U2) ++ (V1 ++ V2) ++ B = (A ++ (U1 ++ U2) ++ V1) ++ z :: (Y ++ B) by rw [e2]; simp]
          exact get_mid _ _ _ _ (by rw [e1] at t1; simp at t1 ⊢; omega)
        rw [hP] at g3
        dsimp only at g3
        rw [rl, rz] at g3
        simpa using g3
    have z2 : ∀ x ∈ V1, ∀ y ∈ U2, LeE x y := sd_cross y1 x2 fun X l z Y e1 e2 => by
      rcases g4 with g4 | g4
      · exfalso
        have q1 : 0 < V1.length := by rw [e1]; simp
        have q2 : 0 < U2.length := by rw [e2]; simp
        rcases hl with ⟨_, _, q⟩ | ⟨_, _, q⟩ <;> omega
      · have rl : (A ++ (U1 ++ U2) ++ (V1 ++ V2) ++ B)[N - 1 - r]? = some l := by
          rw [show A ++ (U1 ++ U2) ++ (V1 ++ V2) ++ B = (A ++ (U1 ++ U2) ++ X) ++ l :: (V2 ++ B) by rw [e1]; simp]
          exact get_mid _ _ _ _ (by rw [e1] at u1; simp at u1 ⊢; omega)
        have rz : (A ++ (U1 ++ U2) ++ (V1 ++ V2) ++ B)[r]? = some z := by
          rw [show A ++ (U1 ++ U2) ++ (V1 ++ V2) ++ B = (A ++ U1) ++ z :: (Y ++ (V1 ++ V2) ++ B) by rw [e2]; simp]
          exact get_mid _ _ _ _ (by simp; omega)
        rw [hP] at g4
        dsimp only at g4
        rw [rl, rz] at g4
        exact bef_asym (by simpa using g4)
    refine List.pairwise_append.2 ⟨s1 x1 y1, s2 x2 y2, fun x hx y hy => ?_⟩
    rcases List.mem_append.1 (p1.mem_iff.1 hx) with hx | hx <;> rcases List.mem_append.1 (p2.mem_iff.1 hy) with hy | hy
    · exact x3 x hx y hy
    · exact z1 x hx y hy
    · exact z2 x hx y hy
    · exact y3 x hx y hy
abbrev smSl (a m b : Nat) : List (Nat × AV) := [(4, .t cmpV), (3, .t (iT b)), (2, .t (iT m)), (1, .t (iT a)), (0, .t (.c (.h 0)))]
theorem symMain {n : Nat} (H : SymOk n) (A U V B : List Ent) (hn : U.length + V.length ≤ n + 1) (hU : 2 ≤ U.length) (hV : 2 ≤ V.length) (hb : A.length + U.length + V.length + B.length ≤ 1000) (a m b : Nat) (ea : a = A.length) (em : m = A.length + U.length) (eb : b = A.length + U.length + V.length) :
    ∃ R, AC Tryz.prog 182 [.c (.h 0), iT a, iT m, iT b, cmpV] (hpL [some (eRow (A ++ U ++ V ++ B))]) 1 ⟨.tup [], hpL [some (eRow (A ++ R ++ B))], 1⟩ ∧ R.Perm (U ++ V) ∧ (Sd U → Sd V → Sd R) := by
  obtain ⟨mid, hm⟩ : ∃ mid, mid = (a + b) / 2 := ⟨_, rfl⟩
  obtain ⟨N, hN⟩ : ∃ N, N = mid + m := ⟨_, rfl⟩
  obtain ⟨lo, hi, hl⟩ : ∃ lo hi, (m > mid ∧ lo + b = N ∧ hi = mid) ∨ (m ≤ mid ∧ lo = a ∧ hi = m) := by
    by_cases c : m > mid
    · exact ⟨N - b, mid, .inl ⟨c, by omega, rfl⟩⟩
    · exact ⟨a, m, .inr ⟨by omega, rfl, rfl⟩⟩
  obtain ⟨xs, hxs⟩ : ∃ xs, xs = A ++ U ++ V ++ B := ⟨_, rfl⟩
  have hxl : xs.length = A.length + U.length + V.length + B.length := by rw [hxs]; simp; omega
  obtain ⟨P, hP⟩ : ∃ P : Nat → Bool, P = fun c => match xs[N - 1 - c]?, xs[c]? with | some x, some y => !before x y | _, _ => false := ⟨_, rfl⟩
  obtain ⟨r, hr⟩ : ∃ r, r = bsF P lo hi := ⟨_, rfl⟩
  obtain ⟨U1, U2, V1, V2, M1, M2, rfl, rfl, b1, b2, b3, b4, b5, b6, b7, b8, b9, e1, n1, e2, n2, p, s⟩ := sym_plan H A U V B hn hU hV hb a m b mid N lo hi ea em eb hm hN hl P (by rw [hP, hxs] <;> rfl) r hr
  refine ⟨M1 ++ M2, ?_, p, s⟩
  rw [← hxs]
  obtain ⟨Z, hZ⟩ : ∃ Z, Z = A ++ (M1 ++ M2) ++ B := ⟨_, rfl⟩
  rw [← hZ]
  simp only [List.length_append] at hn hU hV hb em eb hxl
  have w0 : IntKind.i64.wrap ((m : Int) - (a : Int)) = ((m - a : Nat) : Int) := wsub (by omega) (by omega)
  have g0 : decide (((m - a : Nat) : Int) = 1) = false := decide_eq_false (by omega)
  have w5 : IntKind.i64.wrap ((b : Int) - (m : Int)) = ((b - m : Nat) : Int) := wsub (by omega) (by omega)
  have g5 : decide (((b - m : Nat) : Int) = 1) = false := decide_eq_false (by omega)
  obtain ⟨h1, h2, h3, h4⟩ := half_w a b (by omega)
  rw [← hm] at h3 h4
  have w6 : IntKind.i64.wrap ((mid : Int) + (m : Int)) = (N : Int) := wadd hN.symm (by omega)
  have w7 : IntKind.i64.wrap ((N : Int) - 1) = ((N - 1 : Nat) : Int) := wsub (i := 1) (by omega) (by omega)
  refine AC_of Tryz.func182 rfl Tryz.ntmps182 Tryz.results182 (by kernel_rfl) rfl ?_
  simp only [List.zipIdx, List.map, Nat.zero_add, Nat.reduceAdd]
  repeat (first | apply Aw_seq | apply Aw_block | apply Aw_skip | apply Aw_exit | refine Aw_condt rfl ?_ | refine Aw_condf rfl ?_ | ((first | refine qr ?_ | refine qd (by kernel_rfl) (by kernel_rfl) ?_); simp only [go_sem, jE, reduceIte, jA, jM, jS, jL, jD, jB, w0, g0, w5, g5, h1, h2, h3, h4, w6]) | refine dk (by kernel_rfl) ?_)
  refine cut_seq (J := fun (_ : Unit) => S ((21, .t (iT (hi : Nat))) :: (20, .t (iT (lo : Nat))) :: (19, .t (iT (N : Nat))) :: (18, .t (iT (mid : Nat))) :: smSl a m b) (hpL [some (eRow xs)]) 1) ?_ ?_
  · by_cases c : mid < m
    · have c1 : decide ((mid : Int) < (m : Int)) = true := decide_eq_true (by omega)
      obtain ⟨q1, q2⟩ : lo + b = N ∧ hi = mid := by rcases hl with ⟨_, q⟩ | ⟨q, _⟩; exact q; omega
      have w8 : IntKind.i64.wrap ((N : Int) - (b : Int)) = (lo : Int) := wsub (by omega) (by omega)
      subst q2
      rw [c1]
      repeat (first | apply Aw_seq | apply Aw_block | apply Aw_skip | apply Aw_exit | refine Aw_condt rfl ?_ | refine Aw_condf rfl ?_ | ((first | refine qr ?_ | refine qd (by kernel_rfl) (by kernel_rfl) ?_); simp only [go_sem, jE, reduceIte, jA, jM, jS, jL, jD, jB, w8]) | refine dk (by kernel_rfl) ?_)
      exact ⟨(), [0], rwL (by repeat (first | exact trivial | refine ⟨rfl, rfl, ?_⟩)) (by rfl) (by simp only [go_sem, jE, reduceIte, jA, jM, jS, jL, jD, jB]; first | done | rfl) (by decide) (by unfold idM; decide)⟩
    · have c1 : decide ((mid : Int) < (m : Int)) = false := decide_eq_false (by omega)
      obtain ⟨q1, q2⟩ : lo = a ∧ hi = m := by rcases hl with ⟨q, _⟩ | ⟨_, q⟩; omega; exact q
      subst q1 q2
      rw [c1]
      repeat (first | apply Aw_seq | apply Aw_block | apply Aw_skip | apply Aw_exit | refine Aw_condt rfl ?_ | refine Aw_condf rfl ?_ | ((first | refine qr ?_ | refine qd (by kernel_rfl) (by kernel_rfl) ?_); simp only [go_sem, jE, reduceIte, jA, jM, jS, jL, jD, jB]) | refine dk (by kernel_rfl) ?_)
      exact ⟨(), [0], rwL (by repeat (first | exact trivial | refine ⟨rfl, rfl, ?_⟩)) (by rfl) (by simp only [go_sem, jE, reduceIte, jA, jM, jS, jL, jD, jB]; first | done | rfl) (by decide) (by unfold idM; decide)⟩
  intro _
  repeat (first | apply Aw_seq | apply Aw_block | apply Aw_skip | apply Aw_exit | refine Aw_condt rfl ?_ | refine Aw_condf rfl ?_ | ((first | refine qr ?_ | refine qd (by kernel_rfl) (by kernel_rfl) ?_); simp only [go_sem, jE, reduceIte, jA, jM, jS, jL, jD, jB, w7]) | refine dk (by kernel_rfl) ?_)
  refine Aw.rw (rwL (l' := (22, .t (iT (N - 1 : Nat))) :: (21, .t (iT (hi : Nat))) :: (20, .t (iT (lo : Nat))) :: (19, .t (iT (N : Nat))) :: (18, .t (iT (mid : Nat))) :: smSl a m b) (os := [some (eRow xs)]) (M := [0]) (n' := 1) (by repeat (first | exact trivial | refine ⟨rfl, rfl, ?_⟩)) (by rfl) (by simp only [go_sem, jE, reduceIte, jA, jM, jS, jL, jD, jB]; first | done | rfl) (by decide) (by unfold idM; decide)) ?_
  refine Aw_loop_rw (ι := BsI P lo hi r) (fun q => S ((22, .t (iT (N - 1 : Nat))) :: (21, .t (iT (q.j : Nat))) :: (20, .t (iT (q.i : Nat))) :: (19, .t (iT (N : Nat))) :: (18, .t (iT (mid : Nat))) :: smSl a m b) (hpL [some (eRow xs)]) 1) (fun q => q.j - q.i) ⟨lo, hi, b9, Nat.le_refl _, Nat.le_refl _, hr.symm⟩ ?_
  rintro ⟨i, j, hij, hlo, hhi, hbs⟩
  dsimp only
  by_cases c : i < j
  · have g1 : decide ((i : Int) < (j : Int)) = true := decide_eq_true (by omega)
    obtain ⟨h1, h2, h3, h4⟩ := half_w i j (by omega)
    have hu : bsF P i j = if P ((i + j) / 2) = true then bsF P ((i + j) / 2 + 1) j else bsF P i ((i + j) / 2) := by rw [bsF, dif_pos c]
    obtain ⟨h, hh⟩ : ∃ h, h = (i + j) / 2 := ⟨_, rfl⟩
    rw [← hh] at h3 h4 hu
    have w1 : IntKind.i64.wrap ((h : Int) + 1) = ((h + 1 : Nat) : Int) := wrap_succ (m := h + 1) (by omega) (by omega)
    have w2 : IntKind.i64.wrap (((N - 1 : Nat) : Int) - (h : Int)) = ((N - 1 - h : Nat) : Int) := wsub (by omega) (by omega)
    have l1 : h < xs.length := by omega
    have l2 : N - 1 - h < xs.length := by omega
    obtain ⟨x, hx⟩ : ∃ y, xs[N - 1 - h]? = some y := ⟨_, List.getElem?_eq_getElem l2⟩
    obtain ⟨y, hy⟩ : ∃ y, xs[h]? = some y := ⟨_, List.getElem?_eq_getElem l1⟩
    have kc := (cmp_ac x y).toLV
    have cn := cmpM_neg x y
    have pe : P h = !before x y := by rw [hP]; dsimp only; rw [hx, hy]
    rw [pe] at hu
    cases c2 : before x y
    · rw [c2] at cn hu
      rw [hu] at hbs
      repeat (first | apply Aw_seq | apply Aw_block | apply Aw_skip | apply Aw_exit | refine Aw_condt rfl ?_ | refine Aw_condf rfl ?_ | ((first | refine qr ?_ | refine qd (by kernel_rfl) (by kernel_rfl) ?_); simp only [go_sem, jE, reduceIte, jA, jM, jS, jL, jD, jB, g1, h1, h2, h3, h4, w1, w2, hx, hy, l1, l2, cn]) | refine dk (by kernel_rfl) ?_ | (refine ex_callv (by simp only [go_sem, jE, reduceIte, jA, jM, jS, jL, jD, jB, g1, h1, h2, h3, h4, w1, w2, hx, hy, l1, l2, cn]; first | done | rfl) (call_V (N' := []) (L := []) 2 (kc) rfl (.cons (.nm rfl) (.cons (.nm rfl) (.nil))) (by first | exact .nil | (simp only [capT, List.map]; exact .nil)) (by decide) (by decide) (by decide) (by simp only [go_sem, jE, reduceIte, jA, jM, jS, jL, jD, jB, g1, h1, h2, h3, h4, w1, w2, hx, hy, l1, l2, cn]; first | done | rfl) (.inl rfl) rfl (by decide)) (by simp only [go_sem, jE, reduceIte, jA, jM, jS, jL, jD, jB, g1, h1, h2, h3, h4, w1, w2, hx, hy, l1, l2, cn]; first | done | rfl) rfl (by simp only [go_sem, Nat.reduceLT]) ?_; simp only [go_sem, jE, reduceIte, jA, jM, jS, jL, jD, jB, g1, h1, h2, h3, h4, w1, w2, hx, hy, l1, l2, cn]))
      refine ⟨⟨h + 1, j, by omega, by omega, hhi, hbs⟩, [0], ?_, rwL (by repeat (first | exact trivial | refine ⟨rfl, rfl, ?_⟩)) (by rfl) (by simp only [go_sem, jE, reduceIte, jA, jM, jS, jL, jD, jB]; first | done | rfl) (by decide) (by unfold idM; decide)⟩
      show j - (h + 1) < j - i; omega
    · rw [c2] at cn hu
      rw [hu] at hbs
      repeat (first | apply Aw_seq | apply Aw_block | apply Aw_skip | apply Aw_exit | refine Aw_condt rfl ?_ | refine Aw_condf rfl ?_ | ((first | refine qr ?_ | refine qd (by kernel_rfl) (by kernel_rfl) ?_); simp only [go_sem, jE, reduceIte, jA, jM, jS, jL, jD, jB, g1, h1, h2, h3, h4, w2, hx, hy, l1, l2, cn]) | refine dk (by kernel_rfl) ?_ | (refine ex_callv (by simp only [go_sem, jE, reduceIte, jA, jM, jS, jL, jD, jB, g1, h1, h2, h3, h4, w2, hx, hy, l1, l2, cn]; first | done | rfl) (call_V (N' := []) (L := []) 2 (kc) rfl (.cons (.nm rfl) (.cons (.nm rfl) (.nil))) (by first | exact .nil | (simp only [capT, List.map]; exact .nil)) (by decide) (by decide) (by decide) (by simp only [go_sem, jE, reduceIte, jA, jM, jS, jL, jD, jB, g1, h1, h2, h3, h4, w2, hx, hy, l1, l2, cn]; first | done | rfl) (.inl rfl) rfl (by decide)) (by simp only [go_sem, jE, reduceIte, jA, jM, jS, jL, jD, jB, g1, h1, h2, h3, h4, w2, hx, hy, l1, l2, cn]; first | done | rfl) rfl (by simp only [go_sem, Nat.reduceLT]) ?_; simp only [go_sem, jE, reduceIte, jA, jM, jS, jL, jD, jB, g1, h1, h2, h3, h4, w2, hx, hy, l1, l2, cn]))
      refine ⟨⟨i, h, by omega, hlo, by omega, hbs⟩, [0], ?_, rwL (by repeat (first | exact trivial | refine ⟨rfl, rfl, ?_⟩)) (by rfl) (by simp only [go_sem, jE, reduceIte, jA, jM, jS, jL, jD, jB]; first | done | rfl) (by decide) (by unfold idM; decide)⟩
      show h - i < j - i; omega
  · have g1 : decide ((i : Int) < (j : Int)) = false := decide_eq_false (by omega)
    have er : i = r := by rw [← hbs, bsF, dif_neg c]
    subst er
    have w9 : IntKind.i64.wrap ((N : Int) - (i : Int)) = ((N - i : Nat) : Int) := wsub (by omega) (by omega)
    obtain ⟨Y1, hY1⟩ : ∃ Y1, Y1 = A ++ U1 ++ V1 ++ U2 ++ V2 ++ B := ⟨_, rfl⟩
    obtain ⟨Y2, hY2⟩ : ∃ Y2, Y2 = A ++ M1 ++ U2 ++ V2 ++ B := ⟨_, rfl⟩
    have l0 : ∀ L : List Ent, L = [] ↔ ¬ 0 < L.length := fun L => by rw [List.length_pos_iff]; simp
    iterate 8 (first | apply Aw_seq | apply Aw_block | apply Aw_skip | apply Aw_exit | refine Aw_condt rfl ?_ | refine Aw_condf rfl ?_ | ((first | refine qr ?_ | refine qd (by kernel_rfl) (by kernel_rfl) ?_); simp only [go_sem, jE, reduceIte, jA, jM, jS, jL, jD, jB, g1, w9]) | refine dk (by kernel_rfl) ?_)
    refine cut_seq (J := fun (_ : Unit) => S ((24, .t (iT (N - i : Nat))) :: (20, .t (iT (i : Nat))) :: (18, .t (iT (mid : Nat))) :: smSl a m b) (hpL [some (eRow Y1)]) 1) ?_ ?_
    · by_cases q1 : 0 < U2.length
      · have d1 : decide ((i : Int) < (m : Int)) = true := decide_eq_true (by omega)
        by_cases q2 : 0 < V1.length
        · have d2 : decide ((m : Int) < ((N - i : Nat) : Int)) = true := decide_eq_true (by omega)
          have k := rotate_ac (A ++ U1) U2 V1 (V2 ++ B) q1 q2 (by simp; omega) i m (N - i) (by simp; omega) (by simp; omega) (by simp; omega)
          rw [show (A ++ U1) ++ U2 ++ V1 ++ (V2 ++ B) = xs by rw [hxs]; simp, show (A ++ U1) ++ V1 ++ U2 ++ (V2 ++ B) = Y1 by rw [hY1]; simp] at k
          repeat (first | apply Aw_seq | apply Aw_block | apply Aw_skip | apply Aw_exit | refine Aw_condt rfl ?_ | refine Aw_condf rfl ?_ | ((first | refine qr ?_ | refine qd (by kernel_rfl) (by kernel_rfl) ?_); simp only [go_sem, jE, reduceIte, jA, jM, jS, jL, jD, jB, d1, d2]) | refine dk (by kernel_rfl) ?_ | (refine qx (call_L (N' := [0]) (L := []) (k) rfl (.cons (.nm rfl) (.cons (.nm rfl) (.cons (.nm rfl) (.cons (.nm rfl) (.cons (.nm rfl) (.nil)))))) (by decide) (by decide) (by decide) (by simp only [go_sem, jE, reduceIte, jA, jM, jS, jL, jD, jB, d1, d2]; first | done | rfl) (.inl rfl) rfl (by decide)) (by simp only [go_sem, jE, reduceIte, jA, jM, jS, jL, jD, jB, d1, d2]; first | done | rfl) rfl (by simp only [go_sem, Nat.reduceLT]) ?_; simp only [go_sem, jE, reduceIte, jA, jM, jS, jL, jD, jB, d1, d2]))
          exact ⟨(), [0], rwL (by repeat (first | exact trivial | refine ⟨rfl, rfl, ?_⟩)) (by rfl) (by simp only [go_sem, jE, reduceIte, jA, jM, jS, jL, jD, jB]; first | done | rfl) (by decide) (by unfold idM; decide)⟩
        · have d2 : decide ((m : Int) < ((N - i : Nat) : Int)) = false := decide_eq_false (by omega)
          rw [show xs = Y1 by rw [hxs, hY1, (l0 V1).2 q2]; simp]
          repeat (first | apply Aw_seq | apply Aw_block | apply Aw_skip | apply Aw_exit | refine Aw_condt rfl ?_ | refine Aw_condf rfl ?_ | ((first | refine qr ?_ | refine qd (by kernel_rfl) (by kernel_rfl) ?_); simp only [go_sem, jE, reduceIte, jA, jM, jS, jL, jD, jB, d1, d2]) | refine dk (by kernel_rfl) ?_)
          exact ⟨rfl, (), [0], rwL (by repeat (first | exact trivial | refine ⟨rfl, rfl, ?_⟩)) (by rfl) (by simp only [go_sem, jE, reduceIte, jA, jM, jS, jL, jD, jB]; first | done | rfl) (by decide) (by unfold idM; decide)⟩
      · have d1 : decide ((i : Int) < (m : Int)) = false := decide_eq_false (by omega)
        rw [show xs = Y1 by rw [hxs, hY1, (l0 U2).2 q1]; simp]
        repeat (first | apply Aw_seq | apply Aw_block | apply Aw_skip | apply Aw_exit | refine Aw_condt rfl ?_ | refine Aw_condf rfl ?_ | ((first | refine qr ?_ | refine qd (by kernel_rfl) (by kernel_rfl) ?_); simp only [go_sem, jE, reduceIte, jA, jM, jS, jL, jD, jB, d1]) | refine dk (by kernel_rfl) ?_)
        exact ⟨rfl, (), [0], rwL (by repeat (first | exact trivial | refine ⟨rfl, rfl, ?_⟩)) (by rfl) (by simp only [go_sem, jE, reduceIte, jA, jM, jS, jL, jD, jB]; first | done | rfl) (by decide) (by unfold idM; decide)⟩
    intro _
    iterate 1 (first | apply Aw_seq | apply Aw_block | apply Aw_skip | apply Aw_exit | refine Aw_condt rfl ?_ | refine Aw_condf rfl ?_ | ((first | refine qr ?_ | refine qd (by kernel_rfl) (by kernel_rfl) ?_); simp only [go_sem, jE, reduceIte, jA, jM, jS, jL, jD, jB, g1]) | refine dk (by kernel_rfl) ?_)
    refine cut_seq (J := fun (_ : Unit) => S ((24, .t (iT (N - i : Nat))) :: (18, .t (iT (mid : Nat))) :: smSl a m b) (hpL [some (eRow Y2)]) 1) ?_ ?_
    · by_cases q1 : 0 < U1.length
      · have d1 : decide ((a : Int) < (i : Int)) = true := decide_eq_true (by omega)
        by_cases q2 : 0 < V1.length
        · have d2 : decide ((i : Int) < (mid : Int)) = true := decide_eq_true (by omega)
          have k := e1 q1 q2
          rw [show A ++ U1 ++ V1 ++ (U2 ++ V2 ++ B) = Y1 by rw [hY1]; simp, show A ++ M1 ++ (U2 ++ V2 ++ B) = Y2 by rw [hY2]; simp] at k
          repeat (first | apply Aw_seq | apply Aw_block | apply Aw_skip | apply Aw_exit | refine Aw_condt rfl ?_ | refine Aw_condf rfl ?_ | ((first | refine qr ?_ | refine qd (by kernel_rfl) (by kernel_rfl) ?_); simp only [go_sem, jE, reduceIte, jA, jM, jS, jL, jD, jB, d1, d2]) | refine dk (by kernel_rfl) ?_ | (refine qx (call_L (N' := [0]) (L := []) (k) rfl (.cons (.nm rfl) (.cons (.nm rfl) (.cons (.nm rfl) (.cons (.nm rfl) (.cons (.nm rfl) (.nil)))))) (by decide) (by decide) (by decide) (by simp only [go_sem, jE, reduceIte, jA, jM, jS, jL, jD, jB, d1, d2]; first | done | rfl) (.inl rfl) rfl (by decide)) (by simp only [go_sem, jE, reduceIte, jA, jM, jS, jL, jD, jB, d1, d2]; first | done | rfl) rfl (by simp only [go_sem, Nat.reduceLT]) ?_; simp only [go_sem, jE, reduceIte, jA, jM, jS, jL, jD, jB, d1, d2]))
          exact ⟨(), [0], rwL (by repeat (first | exact trivial | refine ⟨rfl, rfl, ?_⟩)) (by rfl) (by simp only [go_sem, jE, reduceIte, jA, jM, jS, jL, jD, jB]; first | done | rfl) (by decide) (by unfold idM; decide)⟩
        · have d2 : decide ((i : Int) < (mid : Int)) = false := decide_eq_false (by omega)
          rw [show Y1 = Y2 by rw [hY1, hY2, n1 (.inr ((l0 V1).2 q2))]; simp]
          repeat (first | apply Aw_seq | apply Aw_block | apply Aw_skip | apply Aw_exit | refine Aw_condt rfl ?_ | refine Aw_condf rfl ?_ | ((first | refine qr ?_ | refine qd (by kernel_rfl) (by kernel_rfl) ?_); simp only [go_sem, jE, reduceIte, jA, jM, jS, jL, jD, jB, d1, d2]) | refine dk (by kernel_rfl) ?_)
          exact ⟨rfl, (), [0], rwL (by repeat (first | exact trivial | refine ⟨rfl, rfl, ?_⟩)) (by rfl) (by simp only [go_sem, jE, reduceIte, jA, jM, jS, jL, jD, jB]; first | done | rfl) (by decide) (by unfold idM; decide)⟩
      · have d1 : decide ((a : Int) < (i : Int)) = false := decide_eq_false (by omega)
        rw [show Y1 = Y2 by rw [hY1, hY2, n1 (.inl ((l0 U1).2 q1))]; simp]
        repeat (first | apply Aw_seq | apply Aw_block | apply Aw_skip | apply Aw_exit | refine Aw_condt rfl ?_ | refine Aw_condf rfl ?_ | ((first | refine qr ?_ | refine qd (by kernel_rfl) (by kernel_rfl) ?_); simp only [go_sem, jE, reduceIte, jA, jM, jS, jL, jD, jB, d1]) | refine dk (by kernel_rfl) ?_)
        exact ⟨rfl, (), [0], rwL (by repeat (first | exact trivial | refine ⟨rfl, rfl, ?_⟩)) (by rfl) (by simp only [go_sem, jE, reduceIte, jA, jM, jS, jL, jD, jB]; first | done | rfl) (by decide) (by unfold idM; decide)⟩
    intro _
    by_cases q1 : 0 < U2.length
    · have d1 : decide ((mid : Int) < ((N - i : Nat) : Int)) = true := decide_eq_true (by omega)
      by_cases q2 : 0 < V2.length
      · have d2 : decide (((N - i : Nat) : Int) < (b : Int)) = true := decide_eq_true (by omega)
        have k := e2 q1 q2
        rw [show A ++ M1 ++ U2 ++ V2 ++ B = Y2 by rw [hY2], show A ++ M1 ++ M2 ++ B = Z by rw [hZ]; simp] at k
        repeat (first | apply Aw_seq | apply Aw_block | apply Aw_skip | apply Aw_exit | refine Aw_condt rfl ?_ | refine Aw_condf rfl ?_ | ((first | refine qr ?_ | refine qd (by kernel_rfl) (by kernel_rfl) ?_); simp only [go_sem, jE, reduceIte, jA, jM, jS, jL, jD, jB, d1, d2]) | refine dk (by kernel_rfl) ?_ | (refine qx (call_L (N' := [0]) (L := []) (k) rfl (.cons (.nm rfl) (.cons (.nm rfl) (.cons (.nm rfl) (.cons (.nm rfl) (.cons (.nm rfl) (.nil)))))) (by decide) (by decide) (by decide) (by simp only [go_sem, jE, reduceIte, jA, jM, jS, jL, jD, jB, d1, d2]; first | done | rfl) (.inl rfl) rfl (by decide)) (by simp only [go_sem, jE, reduceIte, jA, jM, jS, jL, jD, jB, d1, d2]; first | done | rfl) rfl (by simp only [go_sem, Nat.reduceLT]) ?_; simp only [go_sem, jE, reduceIte, jA, jM, jS, jL, jD, jB, d1, d2]))
        exact (retL (M := [0]) (.inr rfl) (by simp only [resA, go_sem, jE, reduceIte, jA, jM, jS, jL, jD, jB]; first | done | rfl) rfl rfl (by rfl) (by simp only [go_sem, jE, reduceIte, jA, jM, jS, jL, jD, jB]; first | done | rfl | (and_intros <;> rfl)) (by decide) (by unfold idM; decide))
      · have d2 : decide (((N - i : Nat) : Int) < (b : Int)) = false := decide_eq_false (by omega)
        rw [show Y2 = Z by rw [hY2, hZ, n2 (.inr ((l0 V2).2 q2))]; simp]
        repeat (first | apply Aw_seq | apply Aw_block | apply Aw_skip | apply Aw_exit | refine Aw_condt rfl ?_ | refine Aw_condf rfl ?_ | ((first | refine qr ?_ | refine qd (by kernel_rfl) (by kernel_rfl) ?_); simp only [go_sem, jE, reduceIte, jA, jM, jS, jL, jD, jB, d1, d2]) | refine dk (by kernel_rfl) ?_)
        exact (retL (M := [0]) (.inr rfl) (by simp only [resA, go_sem, jE, reduceIte, jA, jM, jS, jL, jD, jB]; first | done | rfl) rfl rfl (by rfl) (by simp only [go_sem, jE, reduceIte, jA, jM, jS, jL, jD, jB]; first | done | rfl | (and_intros <;> rfl)) (by decide) (by unfold idM; decide))
    · have d1 : decide ((mid : Int) < ((N - i : Nat) : Int)) = false := decide_eq_false (by omega)
      rw [show Y2 = Z by rw [hY2, hZ, n2 (.inl ((l0 U2).2 q1))]; simp]
      repeat (first | apply Aw_seq | apply Aw_block | apply Aw_skip | apply Aw_exit | refine Aw_condt rfl ?_ | refine Aw_condf rfl ?_ | ((first | refine qr ?_ | refine qd (by kernel_rfl) (by kernel_rfl) ?_); simp only [go_sem, jE, reduceIte, jA, jM, jS, jL, jD, jB, d1]) | refine dk (by kernel_rfl) ?_)
      exact (retL (M := [0]) (.inr rfl) (by simp only [resA, go_sem, jE, reduceIte, jA, jM, jS, jL, jD, jB]; first | done | rfl) rfl rfl (by rfl) (by simp only [go_sem, jE, reduceIte, jA, jM, jS, jL, jD, jB]; first | done | rfl | (and_intros <;> rfl)) (by decide) (by unfold idM; decide))
theorem symOk : ∀ n, SymOk n
  | 0 => fun A U V B a m b h hU => by omega
  | n + 1 => fun A U V B a m b h hU hV hb ea em eb => by
    by_cases c1 : U.length = 1
    · obtain ⟨x, rfl⟩ := List.length_eq_one_iff.1 c1
      obtain ⟨R, e, p, s⟩ := symOne_ac A V B x hV (by simpa using hb) a m b ea (by simpa using em) (by simpa using eb)
      exact ⟨R, e, p, fun _ => s⟩
    · by_cases c2 : V.length = 1
      · obtain ⟨y, rfl⟩ := List.length_eq_one_iff.1 c2
        obtain ⟨R, e, p, s⟩ := symTwo_ac A U B y (by omega) (by simpa using hb) a m b ea em (by simpa using eb)
        exact ⟨R, e, p, fun h _ => s h⟩
      · exact symMain (symOk n) A U V B h (by omega) (by omega) hb a m b ea em eb
def MgH (A U V B : List Ent) : Prop := 0 < U.length ∧ 0 < V.length ∧ A.length + U.length + V.length + B.length ≤ 1000
theorem mg_ex {A U V B : List Ent} (h : MgH A U V B) : ∃ R, AC Tryz.prog 182 [.c (.h 0), iT (A.length : Nat), iT (A.length + U.length : Nat), iT (A.length + U.length + V.length : Nat), cmpV] (hpL [some (eRow (A ++ U ++ V ++ B))]) 1 ⟨.tup [], hpL [some (eRow (A ++ R ++ B))], 1⟩ ∧ R.Perm (U ++ V) ∧ (Sd U → Sd V → Sd R) :=
  symOk (U.length + V.length) A U V B _ _ _ (Nat.le_refl _) h.1 h.2.1 h.2.2 rfl rfl rfl
open Classical in
noncomputable def mgV (A U V B : List Ent) : List Ent := if h : MgH A U V B then Classical.choose (mg_ex h) else U ++ V
/-- Sorted blocks of a length; the last may be shorter. -/
def Ch (s : Nat) : List (List Ent) → Prop
  | [] => True
  | c :: cs => (c.length = s ∨ (c.length ≤ s ∧ cs = [])) ∧ Sd c ∧ Ch s cs
def c0 (T : List Ent) : List (List Ent) := if h : 20 ≤ T.length then isort (T.take 20) :: c0 (T.drop 20) else [isort T]
termination_by T.length
decreasing_by rw [List.length_drop]; omega
noncomputable def m2 : List Ent → List (List Ent) → List (List Ent)
  | A, c1 :: c2 :: cs => (if 0 < c2.length then mgV A c1 c2 cs.flatten else c1) :: m2 (A ++ (if 0 < c2.length then mgV A c1 c2 cs.flatten else c1)) cs
  | _, [c1] => [c1]
  | _, [] => []
noncomputable def l1Z (n : Nat) : Nat → Nat → List (List Ent) → List (List Ent)
  | 0, _, cs => cs
  | d + 1, s, cs => if s < n then l1Z n d (2 * s) (m2 [] cs) else cs
/-- The first rounds: blocks of twenty. -/
structure S0I (CS : List (List Ent)) (n : Nat) where
  cs : List (List Ent)
  T : List Ent
  xs : List Ent
  a : Nat
  b : Nat
  hb : b = a + 20
  ha : a = cs.flatten.length
  hn : n = a + T.length
  hx : xs = cs.flatten ++ T
  h : cs ++ c0 T = CS
/-- The others: blocks of a length, then of twice that. -/
structure S1I (CZ : List (List Ent)) (n : Nat) where
  s : Nat
  d : Nat
  cs : List (List Ent)
  xs : List Ent
  hd : n ≤ s + d
  hs : 0 < s
  hs2 : s ≤ 2000
  hc : Ch s cs
  hl : cs.flatten.length = n
  hx : xs = cs.flatten
  h : l1Z n d s cs = CZ
structure S2I (CS : List (List Ent)) (n s : Nat) where
  D : List (List Ent)
  cs : List (List Ent)
  xs : List Ent
  a : Nat
  b : Nat
  ha : a = D.flatten.length
  hb : b = a + 2 * s
  hc : Ch s cs
  hn : n = a + cs.flatten.length
  hx : xs = D.flatten ++ cs.flatten
  h : D ++ m2 D.flatten cs = CS
/-- What is left of a heap when some rows are settled; what held them holds their data. -/
def SubS (hp : Hp) (L : List Nat) (i : Nat) : List (Option Obj) → List (Option Obj) → Prop
  | some o :: s, some o' :: s' => (o' = o ∨ SetO hp L o o') ∧ L.contains i = false ∧ SubS hp L (i + 1) s s'
  | _ :: s, none :: s' => SubS hp L (i + 1) s s'
  | _, [] => True
  | _, _ => False
theorem subS_get {hp : Hp} {L : List Nat} : ∀ {i : Nat} {os os' : List (Option Obj)}, SubS hp L i os os' → ∀ m o', hpL os' m = some o' → L.contains (i + m) = false ∧ ∃ o, hpL os m = some o ∧ (o' = o ∨ SetO hp L o o')
  | i, some o :: s, some o' :: s', h, 0, q, hq => by
    rw [l_c0] at hq ⊢; obtain ⟨h1, h2, _⟩ := h; cases hq; exact ⟨h2, o, rfl, h1⟩
  | i, some o :: s, some o' :: s', h, m + 1, q, hq => by
    rw [l_c1] at hq ⊢; have := subS_get h.2.2 m q hq; rw [show i + (m + 1) = i + 1 + m by omega]; exact this
  | i, o :: s, none :: s', h, 0, q, hq => by rw [l_c0] at hq; cases hq
  | i, some o :: s, none :: s', h, m + 1, q, hq => by
    rw [l_c1] at hq ⊢; have := subS_get (os := s) (os' := s') h m q hq; rw [show i + (m + 1) = i + 1 + m by omega]; exact this
  | i, none :: s, none :: s', h, m + 1, q, hq => by
    rw [l_c1] at hq ⊢; have := subS_get (os := s) (os' := s') h m q hq; rw [show i + (m + 1) = i + 1 + m by omega]; exact this
  | _, _, [], _, m, q, hq => by rw [l_n] at hq; cases hq
  | _, [], none :: _, h, _, _, _ => h.elim
  | _, [], some _ :: _, h, _, _, _ => h.elim
  | _, none :: _, some _ :: _, h, _, _, _ => h.elim
theorem AC.setS {P : Program} {f : FuncId} {args : List TV} {hp : Hp} {k : Nat} {x y : AV} {os os' : List (Option Obj)} {n : Nat} (L : List Nat) (h : AC P f args hp k ⟨x, hpL os, n⟩) (hr : SetA (hpL os) L x y) (hs : SubS (hpL os) L 0 os os') : AC P f args hp k ⟨y, hpL os', n⟩ :=
  AC.settle h hr (fun m o' hm => by
    obtain ⟨h1, o, h2, h3⟩ := subS_get hs m o' hm
    exact ⟨by simpa using h1, o, h2, h3⟩) (Nat.le_refl n)
def lvRow (l : List (List Ent)) : Obj := dRow 29 1 (l.map lvD)
@[go_sem] theorem r_lvRow (l : List (List Ent)) : lvRow l = dRow 29 1 (l.map lvD) := rfl
abbrev hT (s : Sto) : TV := .agg [.h 2, .h 0, .h 1, .d (.s (.int .i64 s.keep)), .d (.s (.int .i64 s.time)), .h 3]
def tmRow (ts : List Int) : Obj := dRow 3 1 (ts.map intD)
@[go_sem] theorem r_tmRow (ts : List Int) : tmRow ts = dRow 3 1 (ts.map intD) := rfl
def hS (s : Sto) : List (Option Obj) := [some (lvRow s.levels), some (svRow s.sieves), some (eRow s.top), some (tmRow s.times)]
@[go_sem] theorem r_hS (s : Sto) : hS s = [some (dRow 29 1 (s.levels.map lvD)), some (dRow 82 5 (s.sieves.map sveD)), some (dRow 56 4 (s.top.map entD)), some (dRow 3 1 (s.times.map intD))] := rfl
/-- And a run. -/
def hR (s : Sto) (r : List Ent) : List (Option Obj) := [some (lvRow s.levels), some (svRow s.sieves), some (eRow s.top), some (tmRow s.times), some (eRow r)]
@[go_sem] theorem r_hR (s : Sto) (r : List Ent) : hR s r = [some (dRow 29 1 (s.levels.map lvD)), some (dRow 82 5 (s.sieves.map sveD)), some (dRow 56 4 (s.top.map entD)), some (dRow 3 1 (s.times.map intD)), some (dRow 56 4 (r.map entD))] := rfl
def hG (s : Sto) : List (Option Obj) := [some (lvRow s.levels), some (svRow s.sieves), some (eRow s.top), some (tmRow s.times), none]
@[go_sem] theorem r_hG (s : Sto) : hG s = [some (dRow 29 1 (s.levels.map lvD)), some (dRow 82 5 (s.sieves.map sveD)), some (dRow 56 4 (s.top.map entD)), some (dRow 3 1 (s.times.map intD)), none] := rfl
theorem Aw.setS {P : Program} {N k : Nat} {x : Code} {Q : Exit → St → Prop} {l l' : List (Nat × AV)} {os os' : List (Option Obj)} {n n' : Nat} (L : List Nat) (h : ChkS L (hpL os) l l') (hs : SubS (hpL os) L 0 os os') (hn : n ≤ n') (q : Aw P N k x Q (S l' (hpL os') n')) : Aw P N k x Q (S l (hpL os) n) :=
  Aw.settle (stl_look h (fun m o' hm => by
    obtain ⟨h1, o, h2, h3⟩ := subS_get hs m o' hm
    exact ⟨by simpa using h1, o, h2, h3⟩) hn) q
abbrev zA : TV := .agg [.d (.s (.slice none 0 0)), .d (.s (.slice none 0 0)), .d (.s (.slice none 0 0)), .d (.s (.int .i64 0)), .d (.s (.int .i64 0)), .d (.s (.slice none 0 0))]
theorem zA_nil : NilA (.tup [zA, bT false]) (.tup [stT zSto, bT false]) := .cons (.cons (NilC.nil _) (.cons (NilC.nil _) (.cons (NilC.nil _) (.cons (.inl rfl) (.cons (.inl rfl) (.cons (NilC.nil _) .nil)))))) (.cons (NilT.refl _) .nil)
@[go_sem] theorem all_intD (q : List Int) : (List.map (fun x => List.map CV.d x) (List.map intD q)).all (fun cs => cs.length == 1) = true := by simp [intD]
@[go_sem] theorem r_ixR1 {P : Program} {hp : Hp} (e k : Nat) (els : List (List D)) : ixR P hp e k els 1 = match tiOf P e with
    | some E => if E.sz = k ∧ 0 < k then (els[1]?).map fun cs => (.t (.c (.pr cs)), hp) else none
    | none => none := r_ixR (hp := hp) e k els 1
@[go_sem] theorem r_ixR2 {P : Program} {hp : Hp} (e k : Nat) (els : List (List D)) : ixR P hp e k els 2 = match tiOf P e with
    | some E => if E.sz = k ∧ 0 < k then (els[2]?).map fun cs => (.t (.c (.pr cs)), hp) else none
    | none => none := r_ixR (hp := hp) e k els 2
structure SmH (s : Sto) : Prop where
  ll : s.levels.length = 3
  sl : s.sieves.length = 3
  lev : ∀ r ∈ s.levels, SmR r ∧ r.length ≤ 1000
  tl : s.times.length ≤ 1000
def zO : Obj := ⟨33, 6, false, [[.d (.s (.slice none 0 0)), .d (.s (.slice none 0 0)), .d (.s (.slice none 0 0)), .d (.s (.int .i64 0)), .d (.s (.int .i64 0)), .d (.s (.slice none 0 0))]]⟩
@[go_sem] theorem r_zO : zO = ⟨33, 6, false, [[.d (.s (.slice none 0 0)), .d (.s (.slice none 0 0)), .d (.s (.slice none 0 0)), .d (.s (.int .i64 0)), .d (.s (.int .i64 0)), .d (.s (.slice none 0 0))]]⟩ := rfl
def hS5 (s : Sto) : List (Option Obj) := [some (lvRow s.levels), some (svRow s.sieves), none, some (tmRow s.times), some (eRow s.top)]
@[go_sem] theorem r_hS5 (s : Sto) : hS5 s = [some (dRow 29 1 (s.levels.map lvD)), some (dRow 82 5 (s.sieves.map sveD)), none, some (dRow 3 1 (s.times.map intD)), some (dRow 56 4 (s.top.map entD))] := rfl
theorem runOk_len {r : List Ent} (h : runOk r = true) : r.length ≤ 40 := by
  unfold runOk at h; rw [Bool.and_eq_true] at h; exact of_decide_eq_true h.2
theorem storeS_facts {s : Sto} (h : storeS s = true) : s.levels.length = 3 ∧ s.sieves.length = 3 ∧ s.top.length ≤ 4 ∧ s.times.length ≤ 3 ∧ (∀ r ∈ s.levels, r.length ≤ 40) ∧ inB 0 s.time 999 = true ∧ inB 0 s.keep 5 = true := by
  unfold storeS headS at h
  simp only [Bool.and_eq_true] at h
  obtain ⟨⟨⟨⟨⟨⟨⟨h1, h2⟩, h3⟩, h4⟩, h5⟩, h6⟩, h7⟩, h8⟩ := h
  have hl := of_decide_eq_true h1
  have hsl := of_decide_eq_true h2
  refine ⟨hl, hsl, of_decide_eq_true h7, ?_, ?_, h4, h3⟩
  · unfold timesM at h5; rw [Bool.and_eq_true] at h5; exact of_decide_eq_true h5.2
  · intro r hr
    obtain ⟨i, hi⟩ := List.mem_iff_getElem?.1 hr
    have hil := (List.getElem?_eq_some_iff.1 hi).1
    have := allI_iff.1 h8 i (by omega)
    unfold sAt at this
    obtain ⟨x, hx⟩ : ∃ x, s.sieves[i]? = some x := ⟨_, List.getElem?_eq_getElem (by omega)⟩
    rw [hi, hx] at this
    simp only [Bool.and_eq_true] at this
    have l := this.1.1
    unfold lvM at l
    simp only [Bool.and_eq_true] at l
    exact runOk_len l.1.1.1
/-- Levels as they are in a store that is one. -/
structure LvOk (s : Sto) : Prop where
  run : ∀ i, i < 3 → runOk (s.levels.getD i []) = true ∧ (s.levels.getD i []).length ≤ 8 * (i + 1)
  newer : ∀ i k, i < k → k < 3 → newerM (s.levels.getD i []) (s.levels.getD k []) = true
end Go.Proofs.YtimkdclalajadaaGreat.Ab
