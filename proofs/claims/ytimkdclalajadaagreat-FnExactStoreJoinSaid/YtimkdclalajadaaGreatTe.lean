/-
  Contracts: the stable sort of entries. No condition.
  Contract: two runs that are joined, the program's. No condition.
  Contracts: a run that is trimmed, the reference's. No condition.
  Contracts: a store anew, a level that is set, the reference's. No condition.
  Contract: a store anew, the reference's. No condition.
  Contracts: a run that is let into a level, the reference's. No condition.
  Contracts: the top that goes down, an entry that is added, the reference's. No condition.
  Contracts: an entry that is put, or a key that is taken away, the reference's. No condition.
  Plain law: the levels of a store that is one are runs, each newer than those below. No condition.
  Plain law: runs that are newer join to a run; what the program pushes down is what the reference lets down. No condition.
  Contracts: a level that is set, a run that is pushed into levels, the program's. No condition.
  Contracts: what can be done to a store, the reference's. No condition.
  Contracts: a time that is held, or freed, the reference's. No condition.
  Contracts: deeds, one behind the other, the reference's. No condition.
  Contracts: the top that goes down, an entry that is written, the program's. No condition.
  Contracts: a store anew, the program's. No condition.
  Sieves of its own, however many, and a law's marks in them. No condition.
  A store of its own, whatever its shape: its rows one behind the other. No condition.
-/
import Derived.Test.YtimkdclalajadaaGreatTd
import Derived.Test.YtimkdclalajadaaGreatTc
namespace Go.Proofs.YtimkdclalajadaaGreat.Ab
open Nat renaming reduceEqDiff → jE, reduceAdd → jA, reduceMul → jM, reduceSub → jS, reduceLT → jL, reduceLeDiff → jD, reduceBEq → jB
set_option linter.deprecated false
set_option linter.unusedVariables false
set_option linter.unusedSimpArgs false
open Go Go.Proofs
set_option maxRecDepth 10000
set_option maxHeartbeats 8000000
/-- The first rounds: blocks of twenty. -/
structure S0I (CS : List (List Ent)) (n : Nat) where
  cs : List (List Ent)
  T : List Ent
  xs : List Ent
  a : Nat
  b : Nat
  hb : b = a + 20
  ha : a = cs.flatten.length
  hn : n = a + T.length
  hx : xs = cs.flatten ++ T
  h : cs ++ c0 T = CS
/-- The others: blocks of a length, then of twice that. -/
structure S1I (CZ : List (List Ent)) (n : Nat) where
  s : Nat
  d : Nat
  cs : List (List Ent)
  xs : List Ent
  hd : n ≤ s + d
  hs : 0 < s
  hs2 : s ≤ 2000
  hc : Ch s cs
  hl : cs.flatten.length = n
  hx : xs = cs.flatten
  h : l1Z n d s cs = CZ
structure S2I (CS : List (List Ent)) (n s : Nat) where
  D : List (List Ent)
  cs : List (List Ent)
  xs : List Ent
  a : Nat
  b : Nat
  ha : a = D.flatten.length
  hb : b = a + 2 * s
  hc : Ch s cs
  hn : n = a + cs.flatten.length
  hx : xs = D.flatten ++ cs.flatten
  h : D ++ m2 D.flatten cs = CS
theorem ch_pair {s : Nat} {cs : List (List Ent)} (hs : 0 < s) (h : Ch s cs) (hl : 2 * s ≤ cs.flatten.length) : ∃ c1 c2 cs', cs = c1 :: c2 :: cs' ∧ c1.length = s ∧ c2.length = s := by
  match cs, h with
  | [], _ => simp at hl; omega
  | [c1], h =>
    obtain ⟨q, _⟩ := h
    rw [List.flatten_cons, List.flatten_nil, List.append_nil] at hl
    rcases q with q | q <;> omega
  | c1 :: c2 :: cs', h =>
    obtain ⟨q1, _, q2, _⟩ := h
    have l1 : c1.length = s := by
      rcases q1 with q | q
      · exact q
      · exact absurd q.2 (by simp)
    refine ⟨c1, c2, cs', rfl, l1, ?_⟩
    rcases q2 with q | ⟨q, rfl⟩
    · exact q
    · simp only [List.flatten_cons, List.flatten_nil, List.append_nil, List.length_append] at hl; omega
theorem ch_tail {s : Nat} {cs : List (List Ent)} (A : List Ent) (hs : 0 < s) (h : Ch s cs) (hl : cs.flatten.length < 2 * s) : (∃ c1 c2, cs = [c1, c2] ∧ c1.length = s ∧ 0 < c2.length) ∨ (cs.flatten.length ≤ s ∧ (m2 A cs).flatten = cs.flatten) := by
  match cs, h with
  | [], _ => exact .inr ⟨by simp, rfl⟩
  | [c1], h =>
    obtain ⟨q, _⟩ := h
    refine .inr ⟨?_, rfl⟩
    rw [List.flatten_cons, List.flatten_nil, List.append_nil]
    rcases q with q | q <;> omega
  | c1 :: c2 :: cs', h =>
    obtain ⟨q1, _, q2, _⟩ := h
    have l1 : c1.length = s := by
      rcases q1 with q | q
      · exact q
      · exact absurd q.2 (by simp)
    simp only [List.flatten_cons, List.length_append] at hl
    rcases q2 with q | ⟨q, rfl⟩
    · omega
    · by_cases p : 0 < c2.length
      · exact .inl ⟨c1, c2, rfl, l1, p⟩
      · have e : c2 = [] := List.eq_nil_of_length_eq_zero (by omega)
        subst e
        exact .inr ⟨by simp [l1], by simp [m2]⟩
abbrev stSlo (n : Nat) : List (Nat × AV) := [(2, .t cmpV), (1, .t (iT n)), (0, .t (.c (.h 0)))]
theorem stable_ac (xs : List Ent) (n : Nat) (hn : n = xs.length) (hl : n ≤ 1000) : AC Tryz.prog 155 [.c (.h 0), iT n, cmpV] (hpL [some (eRow xs)]) 1 ⟨.tup [], hpL [some (eRow (sortE xs))], 1⟩ := by
  obtain ⟨Z, hZ⟩ : ∃ Z, Z = sortE xs := ⟨_, rfl⟩
  rw [← hZ]
  obtain ⟨CS, hCS⟩ : ∃ CS, CS = c0 xs := ⟨_, rfl⟩
  obtain ⟨CZ, hCZ⟩ : ∃ CZ, CZ = l1Z n n 20 CS := ⟨_, rfl⟩
  have hZ2 : Z = CZ.flatten := by rw [hZ, hCZ, hCS, hn]; rfl
  obtain ⟨ch1, ch2⟩ := c0_ch xs
  rw [← hCS] at ch1 ch2
  have chl : CS.flatten.length = n := by rw [ch2.length_eq, hn]
  refine AC_of Tryz.func155 rfl Tryz.ntmps155 Tryz.results155 (by kernel_rfl) rfl ?_
  simp only [List.zipIdx, List.map, Nat.zero_add, Nat.reduceAdd]
  repeat (first | apply Aw_seq | apply Aw_block | apply Aw_skip | apply Aw_exit | refine Aw_condt rfl ?_ | refine Aw_condf rfl ?_ | ((first | refine qr ?_ | refine qd (by kernel_rfl) (by kernel_rfl) ?_); simp only [go_sem, jE, reduceIte, jA, jM, jS, jL, jD, jB]) | refine dk (by kernel_rfl) ?_)
  refine Aw.rw (rwL (l' := (8, .t (iT (20 : Nat))) :: (7, .t (iT (0 : Nat))) :: (6, .t (iT (20 : Nat))) :: stSlo n) (os := [some (eRow xs)]) (M := [0]) (n' := 1) (by repeat (first | exact trivial | refine ⟨rfl, rfl, ?_⟩)) (by rfl) (by simp only [go_sem, jE, reduceIte, jA, jM, jS, jL, jD, jB]; first | done | rfl) (by decide) (by unfold idM; decide)) ?_
  refine Aw_loop_rw (ι := S0I CS n) (fun q => S ((8, .t (iT (q.b : Nat))) :: (7, .t (iT (q.a : Nat))) :: (6, .t (iT (20 : Nat))) :: stSlo n) (hpL [some (eRow q.xs)]) 1) (fun q => q.T.length) ⟨[], xs, xs, 0, 20, rfl, rfl, by omega, by simp, by rw [hCS]; rfl⟩ ?_
  rintro ⟨cs, T, ys, a, b, hb, ha, hna, hx, h⟩
  dsimp only
  by_cases c : 20 ≤ T.length
  · have g1 : decide ((b : Int) ≤ (n : Int)) = true := decide_eq_true (by omega)
    have wb : IntKind.i64.wrap ((b : Int) + ((20 : Nat) : Int)) = ((b + 20 : Nat) : Int) := wadd rfl (by omega)
    have k := insertion_ac cs.flatten (T.take 20) (T.drop 20) (by rw [List.append_assoc, List.take_append_drop, List.length_append]; omega) a b ha (by rw [List.length_take]; omega)
    rw [List.append_assoc, List.take_append_drop, ← hx] at k
    have e0 : c0 T = isort (T.take 20) :: c0 (T.drop 20) := by rw [c0, dif_pos c]
    have il : (isort (T.take 20)).length = 20 := by rw [(isort_perm _).length_eq, List.length_take]; omega
    obtain ⟨ys2, hy2⟩ : ∃ y, y = cs.flatten ++ isort (T.take 20) ++ T.drop 20 := ⟨_, rfl⟩
    rw [← hy2] at k
    repeat (first | apply Aw_seq | apply Aw_block | apply Aw_skip | apply Aw_exit | refine Aw_condt rfl ?_ | refine Aw_condf rfl ?_ | ((first | refine qr ?_ | refine qd (by kernel_rfl) (by kernel_rfl) ?_); simp only [go_sem, jE, reduceIte, jA, jM, jS, jL, jD, jB, g1, wb]) | refine dk (by kernel_rfl) ?_ | (refine qx (call_L (N' := [0]) (L := []) (k) rfl (.cons (.nm rfl) (.cons (.nm rfl) (.cons (.nm rfl) (.cons (.nm rfl) (.nil))))) (by decide) (by decide) (by decide) (by simp only [go_sem, jE, reduceIte, jA, jM, jS, jL, jD, jB, g1, wb]; first | done | rfl) (.inl rfl) rfl (by decide)) (by simp only [go_sem, jE, reduceIte, jA, jM, jS, jL, jD, jB, g1, wb]; first | done | rfl) rfl (by simp only [go_sem, Nat.reduceLT]) ?_; simp only [go_sem, jE, reduceIte, jA, jM, jS, jL, jD, jB, g1, wb]))
    refine ⟨⟨cs ++ [isort (T.take 20)], T.drop 20, ys2, b, b + 20, rfl, by rw [List.flatten_append, List.flatten_cons, List.flatten_nil, List.append_nil, List.length_append, il]; omega, by rw [List.length_drop]; omega, by rw [hy2]; simp, by rw [← h, e0]; simp⟩, [0], ?_, rwL (by repeat (first | exact trivial | refine ⟨rfl, rfl, ?_⟩)) (by rfl) (by simp only [go_sem, jE, reduceIte, jA, jM, jS, jL, jD, jB]; first | done | rfl) (by decide) (by unfold idM; decide)⟩
    show (T.drop 20).length < T.length; rw [List.length_drop]; omega
  · have g1 : decide ((b : Int) ≤ (n : Int)) = false := decide_eq_false (by omega)
    have e0 : c0 T = [isort T] := by rw [c0, dif_neg c]
    have k := insertion_ac cs.flatten T [] (by rw [List.append_nil, List.length_append]; omega) a n ha (by omega)
    rw [List.append_nil, List.append_nil, ← hx] at k
    have e1 : cs.flatten ++ isort T = CS.flatten := by rw [← h, e0]; simp
    rw [e1] at k
    obtain ⟨ys2, hy2⟩ : ∃ y, y = CS.flatten := ⟨_, rfl⟩
    rw [← hy2] at k
    repeat (first | apply Aw_seq | apply Aw_block | apply Aw_skip | apply Aw_exit | refine Aw_condt rfl ?_ | refine Aw_condf rfl ?_ | ((first | refine qr ?_ | refine qd (by kernel_rfl) (by kernel_rfl) ?_); simp only [go_sem, jE, reduceIte, jA, jM, jS, jL, jD, jB, g1]) | refine dk (by kernel_rfl) ?_ | (refine qx (call_L (N' := [0]) (L := []) (k) rfl (.cons (.nm rfl) (.cons (.nm rfl) (.cons (.nm rfl) (.cons (.nm rfl) (.nil))))) (by decide) (by decide) (by decide) (by simp only [go_sem, jE, reduceIte, jA, jM, jS, jL, jD, jB, g1]; first | done | rfl) (.inl rfl) rfl (by decide)) (by simp only [go_sem, jE, reduceIte, jA, jM, jS, jL, jD, jB, g1]; first | done | rfl) rfl (by simp only [go_sem, Nat.reduceLT]) ?_; simp only [go_sem, jE, reduceIte, jA, jM, jS, jL, jD, jB, g1]))
    refine Aw.rw (rwL (l' := (6, .t (iT (20 : Nat))) :: stSlo n) (os := [some (eRow ys2)]) (M := [0]) (n' := 1) (by repeat (first | exact trivial | refine ⟨rfl, rfl, ?_⟩)) (by rfl) (by simp only [go_sem, jE, reduceIte, jA, jM, jS, jL, jD, jB]; first | done | rfl) (by decide) (by unfold idM; decide)) ?_
    refine Aw_loop_rw (ι := S1I CZ n) (fun q => S ((6, .t (iT (q.s : Nat))) :: stSlo n) (hpL [some (eRow q.xs)]) 1) (fun q => n - q.s) ⟨20, n, CS, ys2, by omega, by omega, by omega, ch1, chl, hy2, hCZ.symm⟩ ?_
    clear k e1 e0 g1 c hx h hna ha hb hy2 chl ch2 ch1 hCZ hCS hZ
    clear cs T ys a b ys2
    rintro ⟨s, d, cs, ys, hd, hs, hs2, hc, hcl, hx, h⟩
    dsimp only
    by_cases c : s < n
    · have g1 : decide ((s : Int) < (n : Int)) = true := decide_eq_true (by omega)
      have w1 : IntKind.i64.wrap (2 * (s : Int)) = ((2 * s : Nat) : Int) := by rw [show (2 : Int) * (s : Int) = ((2 * s : Nat) : Int) by omega]; exact wrap_nat (by omega)
      have w2 : IntKind.i64.wrap ((s : Int) * 2) = ((2 * s : Nat) : Int) := by rw [show (s : Int) * 2 = ((2 * s : Nat) : Int) by omega]; exact wrap_nat (by omega)
      obtain ⟨d, rfl⟩ : ∃ d', d = d' + 1 := ⟨d - 1, by omega⟩
      have h2 : l1Z n d (2 * s) (m2 [] cs) = CZ := by rw [← h]; simp only [l1Z]; rw [if_pos c]
      obtain ⟨g2, g3⟩ := m2_ch hs cs [] hc (by rw [List.length_nil]; omega)
      obtain ⟨C2, hC2⟩ : ∃ C2, C2 = m2 [] cs := ⟨_, rfl⟩
      rw [← hC2] at h2 g2 g3
      have c2l : C2.flatten.length = n := by rw [g3.length_eq, hcl]
      repeat (first | apply Aw_seq | apply Aw_block | apply Aw_skip | apply Aw_exit | refine Aw_condt rfl ?_ | refine Aw_condf rfl ?_ | ((first | refine qr ?_ | refine qd (by kernel_rfl) (by kernel_rfl) ?_); simp only [go_sem, jE, reduceIte, jA, jM, jS, jL, jD, jB, g1, w1]) | refine dk (by kernel_rfl) ?_)
      refine Aw.rw (rwL (l' := (8, .t (iT (2 * s : Nat))) :: (7, .t (iT (0 : Nat))) :: (6, .t (iT (s : Nat))) :: stSlo n) (os := [some (eRow ys)]) (M := [0]) (n' := 1) (by repeat (first | exact trivial | refine ⟨rfl, rfl, ?_⟩)) (by rfl) (by simp only [go_sem, jE, reduceIte, jA, jM, jS, jL, jD, jB]; first | done | rfl) (by decide) (by unfold idM; decide)) ?_
      refine Aw_loop_rw (ι := S2I C2 n s) (fun q => S ((8, .t (iT (q.b : Nat))) :: (7, .t (iT (q.a : Nat))) :: (6, .t (iT (s : Nat))) :: stSlo n) (hpL [some (eRow q.xs)]) 1) (fun q => q.cs.length) ⟨[], cs, ys, 0, 2 * s, rfl, by omega, hc, by omega, by rw [hx]; rfl, by rw [hC2]; rfl⟩ ?_
      clear hcl hx hC2 g3 hc h
      clear cs ys
      rintro ⟨D, cs, ys, a, b, ha, hb, hc, hna, hx, h⟩
      dsimp only
      by_cases cc : b ≤ n
      · have g4 : decide ((b : Int) ≤ (n : Int)) = true := decide_eq_true (by omega)
        obtain ⟨c1, c2, cs', rfl, l1, l2⟩ := ch_pair hs hc (by omega)
        obtain ⟨_, _, _, _, r3⟩ := hc
        have lf : (c1 :: c2 :: cs').flatten.length = s + s + cs'.flatten.length := by simp only [List.flatten_cons, List.length_append]; omega
        have wm : IntKind.i64.wrap ((a : Int) + (s : Int)) = ((a + s : Nat) : Int) := wadd rfl (by omega)
        have wb : IntKind.i64.wrap ((b : Int) + ((2 * s : Nat) : Int)) = ((b + 2 * s : Nat) : Int) := wadd rfl (by omega)
        have hm : MgH D.flatten c1 c2 cs'.flatten := ⟨by omega, by omega, by omega⟩
        have k := mgV_ac hm a (a + s) b ha (by omega) (by omega)
        have lm : (mgV D.flatten c1 c2 cs'.flatten).length = s + s := by have := (mgV_perm D.flatten c1 c2 cs'.flatten).length_eq; rw [List.length_append] at this; omega
        have hR : m2 D.flatten (c1 :: c2 :: cs') = mgV D.flatten c1 c2 cs'.flatten :: m2 (D.flatten ++ mgV D.flatten c1 c2 cs'.flatten) cs' := by simp only [m2]; rw [if_pos (by omega)]
        rw [hR] at h
        generalize mgV D.flatten c1 c2 cs'.flatten = R at k lm h hR
        rw [show D.flatten ++ c1 ++ c2 ++ cs'.flatten = ys by rw [hx]; simp only [List.flatten_cons, List.append_assoc]] at k
        obtain ⟨ys2, hy2⟩ : ∃ y, y = D.flatten ++ R ++ cs'.flatten := ⟨_, rfl⟩
        rw [← hy2] at k
        have eD : (D ++ [R]).flatten = D.flatten ++ R := by rw [List.flatten_append, List.flatten_cons, List.flatten_nil, List.append_nil]
        repeat (first | apply Aw_seq | apply Aw_block | apply Aw_skip | apply Aw_exit | refine Aw_condt rfl ?_ | refine Aw_condf rfl ?_ | ((first | refine qr ?_ | refine qd (by kernel_rfl) (by kernel_rfl) ?_); simp only [go_sem, jE, reduceIte, jA, jM, jS, jL, jD, jB, g4, wm, w1, wb]) | refine dk (by kernel_rfl) ?_ | (refine qx (call_L (N' := [0]) (L := []) (k) rfl (.cons (.nm rfl) (.cons (.nm rfl) (.cons (.nm rfl) (.cons (.nm rfl) (.cons (.nm rfl) (.nil)))))) (by decide) (by decide) (by decide) (by simp only [go_sem, jE, reduceIte, jA, jM, jS, jL, jD, jB, g4, wm, w1, wb]; first | done | rfl) (.inl rfl) rfl (by decide)) (by simp only [go_sem, jE, reduceIte, jA, jM, jS, jL, jD, jB, g4, wm, w1, wb]; first | done | rfl) rfl (by simp only [go_sem, Nat.reduceLT]) ?_; simp only [go_sem, jE, reduceIte, jA, jM, jS, jL, jD, jB, g4, wm, w1, wb]))
        refine ⟨⟨D ++ [R], cs', ys2, b, b + 2 * s, by rw [eD, List.length_append, lm]; omega, rfl, r3, by omega, by rw [eD, hy2], by rw [eD, ← h]; simp⟩, [0], ?_, rwL (by repeat (first | exact trivial | refine ⟨rfl, rfl, ?_⟩)) (by rfl) (by simp only [go_sem, jE, reduceIte, jA, jM, jS, jL, jD, jB]; first | done | rfl) (by decide) (by unfold idM; decide)⟩
        show cs'.length < cs'.length + 1 + 1; omega
      · have g4 : decide ((b : Int) ≤ (n : Int)) = false := decide_eq_false (by omega)
        have wm : IntKind.i64.wrap ((a : Int) + (s : Int)) = ((a + s : Nat) : Int) := wadd rfl (by omega)
        rcases ch_tail D.flatten hs hc (by omega) with ⟨c1, c2, rfl, l1, l2⟩ | ⟨t1, t2⟩
        · have lf : [c1, c2].flatten.length = s + c2.length := by simp only [List.flatten_cons, List.flatten_nil, List.append_nil, List.length_append]; omega
          have g5 : decide (((a + s : Nat) : Int) < (n : Int)) = true := decide_eq_true (by omega)
          have hm : MgH D.flatten c1 c2 ([] : List (List Ent)).flatten := ⟨by omega, l2, by rw [List.flatten_nil, List.length_nil]; omega⟩
          have k := mgV_ac hm a (a + s) n ha (by omega) (by omega)
          have hR : m2 D.flatten [c1, c2] = [mgV D.flatten c1 c2 ([] : List (List Ent)).flatten] := by simp only [m2]; rw [if_pos l2]
          rw [hR] at h
          generalize mgV D.flatten c1 c2 ([] : List (List Ent)).flatten = R at k h hR
          rw [show D.flatten ++ c1 ++ c2 ++ ([] : List (List Ent)).flatten = ys by rw [hx]; simp only [List.flatten_cons, List.flatten_nil, List.append_assoc]] at k
          obtain ⟨ys2, hy2⟩ : ∃ y, y = D.flatten ++ R ++ ([] : List (List Ent)).flatten := ⟨_, rfl⟩
          rw [← hy2] at k
          have e2 : ys2 = C2.flatten := by rw [hy2, ← h]; simp
          repeat (first | apply Aw_seq | apply Aw_block | apply Aw_skip | apply Aw_exit | refine Aw_condt rfl ?_ | refine Aw_condf rfl ?_ | ((first | refine qr ?_ | refine qd (by kernel_rfl) (by kernel_rfl) ?_); simp only [go_sem, jE, reduceIte, jA, jM, jS, jL, jD, jB, g4, g5, wm, w2]) | refine dk (by kernel_rfl) ?_ | (refine qx (call_L (N' := [0]) (L := []) (k) rfl (.cons (.nm rfl) (.cons (.nm rfl) (.cons (.nm rfl) (.cons (.nm rfl) (.cons (.nm rfl) (.nil)))))) (by decide) (by decide) (by decide) (by simp only [go_sem, jE, reduceIte, jA, jM, jS, jL, jD, jB, g4, g5, wm, w2]; first | done | rfl) (.inl rfl) rfl (by decide)) (by simp only [go_sem, jE, reduceIte, jA, jM, jS, jL, jD, jB, g4, g5, wm, w2]; first | done | rfl) rfl (by simp only [go_sem, Nat.reduceLT]) ?_; simp only [go_sem, jE, reduceIte, jA, jM, jS, jL, jD, jB, g4, g5, wm, w2]))
          refine ⟨⟨2 * s, d, C2, ys2, by omega, by omega, by omega, g2, c2l, e2, h2⟩, [0], ?_, rwL (by repeat (first | exact trivial | refine ⟨rfl, rfl, ?_⟩)) (by rfl) (by simp only [go_sem, jE, reduceIte, jA, jM, jS, jL, jD, jB]; first | done | rfl) (by decide) (by unfold idM; decide)⟩
          show n - 2 * s < n - s; omega
        · have g5 : decide (((a + s : Nat) : Int) < (n : Int)) = false := decide_eq_false (by omega)
          have e2 : ys = C2.flatten := by rw [hx, ← h, List.flatten_append, t2]
          repeat (first | apply Aw_seq | apply Aw_block | apply Aw_skip | apply Aw_exit | refine Aw_condt rfl ?_ | refine Aw_condf rfl ?_ | ((first | refine qr ?_ | refine qd (by kernel_rfl) (by kernel_rfl) ?_); simp only [go_sem, jE, reduceIte, jA, jM, jS, jL, jD, jB, g4, g5, wm, w2]) | refine dk (by kernel_rfl) ?_)
          refine ⟨⟨2 * s, d, C2, ys, by omega, by omega, by omega, g2, c2l, e2, h2⟩, [0], ?_, rwL (by repeat (first | exact trivial | refine ⟨rfl, rfl, ?_⟩)) (by rfl) (by simp only [go_sem, jE, reduceIte, jA, jM, jS, jL, jD, jB]; first | done | rfl) (by decide) (by unfold idM; decide)⟩
          show n - 2 * s < n - s; omega
    · have g1 : decide ((s : Int) < (n : Int)) = false := decide_eq_false (by omega)
      have e1 : ys = Z := by
        rw [hZ2, ← h, hx]
        cases d with
        | zero => rfl
        | succ d => simp only [l1Z]; rw [if_neg c]
      rw [e1]
      repeat (first | apply Aw_seq | apply Aw_block | apply Aw_skip | apply Aw_exit | refine Aw_condt rfl ?_ | refine Aw_condf rfl ?_ | ((first | refine qr ?_ | refine qd (by kernel_rfl) (by kernel_rfl) ?_); simp only [go_sem, jE, reduceIte, jA, jM, jS, jL, jD, jB, g1]) | refine dk (by kernel_rfl) ?_)
      exact (retL (M := [0]) (.inr rfl) (by simp only [resA, go_sem, jE, reduceIte, jA, jM, jS, jL, jD, jB]; first | done | rfl) rfl rfl (by rfl) (by simp only [go_sem, jE, reduceIte, jA, jM, jS, jL, jD, jB]; first | done | rfl | (and_intros <;> rfl)) (by decide) (by unfold idM; decide))
theorem sortStable_ac (xs : List Ent) (hl : xs.length ≤ 1000) : AC Tryz.prog 123 [.c (.h 0), cmpV] (hpL [some (eRow xs)]) 1 ⟨.tup [], hpL [some (eRow (sortE xs))], 1⟩ := by
  refine AC_of Tryz.func123 rfl Tryz.ntmps123 Tryz.results123 (by kernel_rfl) rfl ?_
  simp only [List.zipIdx, List.map, Nat.zero_add, Nat.reduceAdd]
  have k := stable_ac xs xs.length rfl hl
  repeat (first | apply Aw_seq | apply Aw_block | apply Aw_skip | apply Aw_exit | refine Aw_condt rfl ?_ | refine Aw_condf rfl ?_ | ((first | refine qr ?_ | refine qd (by kernel_rfl) (by kernel_rfl) ?_); simp only [go_sem, jE, reduceIte, jA, jM, jS, jL, jD, jB]) | refine dk (by kernel_rfl) ?_ | (refine qx (call_L (N' := [0]) (L := []) (k) rfl (.cons (.nm rfl) (.cons (.nm rfl) (.cons (.nm rfl) (.nil)))) (by decide) (by decide) (by decide) (by simp only [go_sem, jE, reduceIte, jA, jM, jS, jL, jD, jB]; first | done | rfl) (.inl rfl) rfl (by decide)) (by simp only [go_sem, jE, reduceIte, jA, jM, jS, jL, jD, jB]; first | done | rfl) rfl (by simp only [go_sem, Nat.reduceLT]) ?_; simp only [go_sem, jE, reduceIte, jA, jM, jS, jL, jD, jB]))
  exact (retL (M := [0]) (.inr rfl) (by simp only [resA, go_sem, jE, reduceIte, jA, jM, jS, jL, jD, jB]; first | done | rfl) rfl rfl (by rfl) (by simp only [go_sem, jE, reduceIte, jA, jM, jS, jL, jD, jB]; first | done | rfl | (and_intros <;> rfl)) (by decide) (by unfold idM; decide))
theorem joinM_perm (a b : List Ent) : (joinM a b).Perm (a ++ b) := List.merge_perm_append before
theorem joinM_sd : ∀ {a b : List Ent}, Sd a → Sd b → Sd (joinM a b)
  | [], b, _, hb => by unfold joinM; rw [List.nil_merge]; exact hb
  | x :: a, [], ha, _ => by rw [joinM_nil]; exact ha
  | x :: a, y :: b, ha, hb => by
    rw [joinM_cc]
    obtain ⟨a1, a2⟩ := List.pairwise_cons.1 ha
    obtain ⟨b1, b2⟩ := List.pairwise_cons.1 hb
    cases c : before x y
    · simp only [Bool.false_eq_true, if_false]
      refine List.pairwise_cons.2 ⟨fun z hz => ?_, joinM_sd ha b2⟩
      rcases List.mem_append.1 ((joinM_perm _ _).mem_iff.1 hz) with h | h
      · rcases List.mem_cons.1 h with rfl | h
        · exact c
        · exact leE_trans c (a1 z h)
      · exact b1 z h
    · simp only [if_true]
      refine List.pairwise_cons.2 ⟨fun z hz => ?_, joinM_sd a2 hb⟩
      rcases List.mem_append.1 ((joinM_perm _ _).mem_iff.1 hz) with h | h
      · exact a1 z h
      · rcases List.mem_cons.1 h with rfl | h
        · exact bef_asym c
        · exact leE_trans (bef_asym c) (b1 z h)
termination_by a b => a.length + b.length
theorem run_sd {r : List Ent} (h : runOk r = true) : Sd r := (run_pw h).1.imp fun h => bef_asym h
/-- Sorted, and the same entries as a run: the run. -/
theorem sd_run {xs ys : List Ent} (hx : Sd xs) (hy : runOk ys = true) (hp : xs.Perm ys) : xs = ys := by
  refine List.Perm.eq_of_pairwise (le := LeE) (fun a b ha hb h1 h2 => ?_) hx (run_sd hy) hp
  have ha := hp.mem_iff.1 ha
  obtain ⟨i, hi, rfl⟩ := List.getElem_of_mem ha
  obtain ⟨j, hj, rfl⟩ := List.getElem_of_mem hb
  have hpw := List.pairwise_iff_getElem.1 (run_pw hy).1
  rcases Nat.lt_trichotomy i j with h | h | h
  · have := hpw i j hi hj h
    have h2 : before ys[i] ys[j] = false := h2
    rw [this] at h2; cases h2
  · subst h; rfl
  · have := hpw j i hj hi h
    have h1 : before ys[j] ys[i] = false := h1
    rw [this] at h1; cases h1
theorem join_sort {a b : List Ent} (ha : runOk a = true) (hb : runOk b = true) (hl : (a ++ b).length ≤ 1000) : runOk (sortE (a ++ b)) = runOk (joinM a b) ∧ (runOk (joinM a b) = true → sortE (a ++ b) = joinM a b) := by
  obtain ⟨s1, s2⟩ := sortE_ok (a ++ b) hl
  have j1 := joinM_sd (run_sd ha) (run_sd hb)
  have p : (sortE (a ++ b)).Perm (joinM a b) := s2.trans (joinM_perm a b).symm
  cases c : runOk (joinM a b)
  · cases c2 : runOk (sortE (a ++ b))
    · exact ⟨rfl, fun h => by cases h⟩
    · have := sd_run j1 c2 p.symm
      rw [this, c2] at c; cases c
  · have := sd_run s1 c p
    exact ⟨by rw [this, c], fun _ => this⟩
theorem cloneRun_ac (r : List Ent) (hl : r.length ≤ 100000) : AC Tryz.prog 120 [runT r] noHp 0 ⟨.t (.c (.h 0)), hpL [some (eRow r)], 1⟩ := by
  refine AC_of Tryz.func120 rfl Tryz.ntmps120 Tryz.results120 (by kernel_rfl) rfl ?_
  simp only [List.zipIdx, List.map, Nat.zero_add, Nat.reduceAdd]
  have hb : r.length * 40 ≤ 140737488355328 := by omega
  repeat (first | apply Aw_seq | apply Aw_block | apply Aw_skip | apply Aw_exit | refine Aw_condt rfl ?_ | refine Aw_condf rfl ?_ | ((first | refine qr ?_ | refine qd (by kernel_rfl) (by kernel_rfl) ?_); simp only [go_sem, jE, reduceIte, jA, jM, jS, jL, jD, jB, hb]) | refine dk (by kernel_rfl) ?_)
  exact Aw_ret (retL (M := [2]) (.inl rfl) (by simp only [go_sem, jE, reduceIte, jA, jM, jS, jL, jD, jB]; first | done | rfl) rfl rfl (by rfl) (by simp only [go_sem, jE, reduceIte, jA, jM, jS, jL, jD, jB]; first | done | rfl | (and_intros <;> rfl)) (by decide) (by unfold idM; decide))
def joinI (a b : List Ent) : Option (List Ent) := if (runOk a && runOk b && runOk (joinM a b)) = true then some (joinM a b) else none
theorem runJoin_no (a b : List Ent) (ha : SmR a) (hb : SmR b) (h : joinI a b = none) : AC Tryz.prog 82 [runT a, runT b] noHp 0 ⟨.tup [.c (.d (.s (.slice none 0 0))), bT false], noHp, 0⟩ := by
  have k1 := runOk_ac a ha
  have k2 := runOk_ac b hb
  cases c1 : runOk a
  · rw [c1] at k1
    refine AC_of Tryz.func82 rfl Tryz.ntmps82 Tryz.results82 (by kernel_rfl) rfl ?_
    simp only [List.zipIdx, List.map, Nat.zero_add, Nat.reduceAdd]
    repeat (first | apply Aw_seq | apply Aw_block | apply Aw_skip | apply Aw_exit | refine Aw_condt rfl ?_ | refine Aw_condf rfl ?_ | ((first | refine qr ?_ | refine qd (by kernel_rfl) (by kernel_rfl) ?_); simp only [go_sem, jE, reduceIte, jA, jM, jS, jL, jD, jB]) | refine dk (by kernel_rfl) ?_ | (refine qp (k1) (by simp only [go_sem, jE, reduceIte, jA, jM, jS, jL, jD, jB]; first | done | rfl) rfl (by simp only [go_sem, Nat.reduceLT]) rfl rfl ?_; simp only [go_sem, jE, reduceIte, jA, jM, jS, jL, jD, jB]))
    exact Aw_ret (ret0 (.inl rfl) (by simp only [go_sem, jE, reduceIte, jA, jM, jS, jL, jD, jB]; rfl) (by rfl) rfl)
  rw [c1] at k1
  cases c2 : runOk b
  · rw [c2] at k2
    refine AC_of Tryz.func82 rfl Tryz.ntmps82 Tryz.results82 (by kernel_rfl) rfl ?_
    simp only [List.zipIdx, List.map, Nat.zero_add, Nat.reduceAdd]
    repeat (first | apply Aw_seq | apply Aw_block | apply Aw_skip | apply Aw_exit | refine Aw_condt rfl ?_ | refine Aw_condf rfl ?_ | ((first | refine qr ?_ | refine qd (by kernel_rfl) (by kernel_rfl) ?_); simp only [go_sem, jE, reduceIte, jA, jM, jS, jL, jD, jB]) | refine dk (by kernel_rfl) ?_ | (refine qp (k1) (by simp only [go_sem, jE, reduceIte, jA, jM, jS, jL, jD, jB]; first | done | rfl) rfl (by simp only [go_sem, Nat.reduceLT]) rfl rfl ?_; simp only [go_sem, jE, reduceIte, jA, jM, jS, jL, jD, jB]) | (refine qp (k2) (by simp only [go_sem, jE, reduceIte, jA, jM, jS, jL, jD, jB]; first | done | rfl) rfl (by simp only [go_sem, Nat.reduceLT]) rfl rfl ?_; simp only [go_sem, jE, reduceIte, jA, jM, jS, jL, jD, jB]))
    exact Aw_ret (ret0 (.inl rfl) (by simp only [go_sem, jE, reduceIte, jA, jM, jS, jL, jD, jB]; rfl) (by rfl) rfl)
  rw [c2] at k2
  have la := (run_pw c1).2.2
  have lb := (run_pw c2).2.2
  obtain ⟨j1, j2⟩ := join_sort c1 c2 (by rw [List.length_append]; omega)
  have c3 : runOk (joinM a b) = false := by
    unfold joinI at h; rw [c1, c2] at h
    cases c3 : runOk (joinM a b)
    · rfl
    · rw [c3] at h; simp at h
  have k3 := concat_ac a b (by omega) (by omega)
  have k4 := sortStable_ac (a ++ b) (by rw [List.length_append]; omega)
  have ls : (sortE (a ++ b)).length = a.length + b.length := by rw [(sortE_ok _ (by rw [List.length_append]; omega)).2.length_eq, List.length_append]
  have k5 := (runOk_ac (sortE (a ++ b)) ⟨by omega, fun e he => by
    rcases List.mem_append.1 ((sortE_ok _ (by rw [List.length_append]; omega)).2.mem_iff.1 he) with h | h
    · exact ha.key e h
    · exact hb.key e h⟩).toL0
  rw [j1, c3] at k5
  generalize sortE (a ++ b) = zs at k4 k5
  refine AC_of Tryz.func82 rfl Tryz.ntmps82 Tryz.results82 (by kernel_rfl) rfl ?_
  simp only [List.zipIdx, List.map, Nat.zero_add, Nat.reduceAdd]
  repeat (first | apply Aw_seq | apply Aw_block | apply Aw_skip | apply Aw_exit | refine Aw_condt rfl ?_ | refine Aw_condf rfl ?_ | ((first | refine qr ?_ | refine qd (by kernel_rfl) (by kernel_rfl) ?_); simp only [go_sem, jE, reduceIte, jA, jM, jS, jL, jD, jB]) | refine dk (by kernel_rfl) ?_ | (refine qp (k1) (by simp only [go_sem, jE, reduceIte, jA, jM, jS, jL, jD, jB]; first | done | rfl) rfl (by simp only [go_sem, Nat.reduceLT]) rfl rfl ?_; simp only [go_sem, jE, reduceIte, jA, jM, jS, jL, jD, jB]) | (refine qp (k2) (by simp only [go_sem, jE, reduceIte, jA, jM, jS, jL, jD, jB]; first | done | rfl) rfl (by simp only [go_sem, Nat.reduceLT]) rfl rfl ?_; simp only [go_sem, jE, reduceIte, jA, jM, jS, jL, jD, jB]) | (refine qx (call_L (N' := [10]) (L := []) (k3) rfl (.cons (.nm rfl) (.nil)) (by decide) (by decide) (by decide) (by simp only [go_sem, jE, reduceIte, jA, jM, jS, jL, jD, jB]; first | done | rfl) (.inl rfl) rfl (by decide)) (by simp only [go_sem, jE, reduceIte, jA, jM, jS, jL, jD, jB]; first | done | rfl) rfl (by simp only [go_sem, Nat.reduceLT]) ?_; simp only [go_sem, jE, reduceIte, jA, jM, jS, jL, jD, jB]) | (refine qx (call_L (N' := [11]) (L := []) (k4) rfl (.cons (.nm rfl) (.cons (.nm rfl) (.nil))) (by decide) (by decide) (by decide) (by simp only [go_sem, jE, reduceIte, jA, jM, jS, jL, jD, jB]; first | done | rfl) (.inl rfl) rfl (by decide)) (by simp only [go_sem, jE, reduceIte, jA, jM, jS, jL, jD, jB]; first | done | rfl) rfl (by simp only [go_sem, Nat.reduceLT]) ?_; simp only [go_sem, jE, reduceIte, jA, jM, jS, jL, jD, jB]) | (refine qx (call_N (L := [11]) (k5) rfl (.cons (arg_lend (m := 11) rfl (by simp)) (.nil)) (.inr ⟨rfl, by simp⟩) rfl) (by simp only [go_sem, jE, reduceIte, jA, jM, jS, jL, jD, jB]; first | done | rfl) rfl (by simp only [go_sem, Nat.reduceLT]) ?_; simp only [go_sem, jE, reduceIte, jA, jM, jS, jL, jD, jB]))
  exact Aw_ret (ret0 (.inl rfl) (by simp only [go_sem, jE, reduceIte, jA, jM, jS, jL, jD, jB]; rfl) (by rfl) rfl)
theorem runJoin_ok (a b : List Ent) (ha : SmR a) (hb : SmR b) (c1 : runOk a = true) (c2 : runOk b = true) (c3 : runOk (joinM a b) = true) : AC Tryz.prog 82 [runT a, runT b] noHp 0 ⟨.tup [.c (.h 0), bT true], hpL [some (eRow (joinM a b))], 1⟩ := by
  have k1 := runOk_ac a ha
  have k2 := runOk_ac b hb
  rw [c1] at k1
  rw [c2] at k2
  have la := (run_pw c1).2.2
  have lb := (run_pw c2).2.2
  obtain ⟨j1, j2⟩ := join_sort c1 c2 (by rw [List.length_append]; omega)
  have k3 := concat_ac a b (by omega) (by omega)
  have k4 := sortStable_ac (a ++ b) (by rw [List.length_append]; omega)
  have k5 := (runOk_ac (joinM a b) ⟨by have := (run_pw c3).2.2; omega, fun e he => by
    rcases List.mem_append.1 ((joinM_perm a b).mem_iff.1 he) with h | h
    · exact ha.key e h
    · exact hb.key e h⟩).toL0
  rw [c3] at k5
  rw [j2 c3] at k4
  have k6 := cloneRun_ac (joinM a b) (by have := (run_pw c3).2.2; omega)
  generalize joinM a b = zs at k4 k5 k6 ⊢
  refine AC_of Tryz.func82 rfl Tryz.ntmps82 Tryz.results82 (by kernel_rfl) rfl ?_
  simp only [List.zipIdx, List.map, Nat.zero_add, Nat.reduceAdd]
  repeat (first | apply Aw_seq | apply Aw_block | apply Aw_skip | apply Aw_exit | refine Aw_condt rfl ?_ | refine Aw_condf rfl ?_ | ((first | refine qr ?_ | refine qd (by kernel_rfl) (by kernel_rfl) ?_); simp only [go_sem, jE, reduceIte, jA, jM, jS, jL, jD, jB]) | refine dk (by kernel_rfl) ?_ | (refine qp (k1) (by simp only [go_sem, jE, reduceIte, jA, jM, jS, jL, jD, jB]; first | done | rfl) rfl (by simp only [go_sem, Nat.reduceLT]) rfl rfl ?_; simp only [go_sem, jE, reduceIte, jA, jM, jS, jL, jD, jB]) | (refine qp (k2) (by simp only [go_sem, jE, reduceIte, jA, jM, jS, jL, jD, jB]; first | done | rfl) rfl (by simp only [go_sem, Nat.reduceLT]) rfl rfl ?_; simp only [go_sem, jE, reduceIte, jA, jM, jS, jL, jD, jB]) | (refine qx (call_L (N' := [10]) (L := []) (k3) rfl (.cons (.nm rfl) (.nil)) (by decide) (by decide) (by decide) (by simp only [go_sem, jE, reduceIte, jA, jM, jS, jL, jD, jB]; first | done | rfl) (.inl rfl) rfl (by decide)) (by simp only [go_sem, jE, reduceIte, jA, jM, jS, jL, jD, jB]; first | done | rfl) rfl (by simp only [go_sem, Nat.reduceLT]) ?_; simp only [go_sem, jE, reduceIte, jA, jM, jS, jL, jD, jB]) | (refine qx (call_L (N' := [11]) (L := []) (k4) rfl (.cons (.nm rfl) (.cons (.nm rfl) (.nil))) (by decide) (by decide) (by decide) (by simp only [go_sem, jE, reduceIte, jA, jM, jS, jL, jD, jB]; first | done | rfl) (.inl rfl) rfl (by decide)) (by simp only [go_sem, jE, reduceIte, jA, jM, jS, jL, jD, jB]; first | done | rfl) rfl (by simp only [go_sem, Nat.reduceLT]) ?_; simp only [go_sem, jE, reduceIte, jA, jM, jS, jL, jD, jB]) | (refine qx (call_N (L := [11]) (k5) rfl (.cons (arg_lend (m := 11) rfl (by simp)) (.nil)) (.inr ⟨rfl, by simp⟩) rfl) (by simp only [go_sem, jE, reduceIte, jA, jM, jS, jL, jD, jB]; first | done | rfl) rfl (by simp only [go_sem, Nat.reduceLT]) ?_; simp only [go_sem, jE, reduceIte, jA, jM, jS, jL, jD, jB]) | (refine qx (call_N (L := [11]) (k6) rfl (.cons (arg_lend (m := 11) rfl (by simp)) (.nil)) (.inr ⟨rfl, by simp⟩) rfl) (by simp only [go_sem, jE, reduceIte, jA, jM, jS, jL, jD, jB]; first | done | rfl) rfl (by simp only [go_sem, Nat.reduceLT]) ?_; simp only [go_sem, jE, reduceIte, jA, jM, jS, jL, jD, jB]))
  exact Aw_ret (retL (M := [17]) (.inl rfl) (by simp only [go_sem, jE, reduceIte, jA, jM, jS, jL, jD, jB]; first | done | rfl) rfl rfl (by rfl) (by simp only [go_sem, jE, reduceIte, jA, jM, jS, jL, jD, jB]; first | done | rfl | (and_intros <;> rfl)) (by decide) (by unfold idM; decide))
theorem runJoinS_ac (a b : List Ent) (ha : SmR a) (hb : SmR b) : AC Tryz.prog 82 [runT a, runT b] noHp 0 ⟨.tup [runT ((joinI a b).getD []), bT (joinI a b).isSome], noHp, 0⟩ := by
  cases h : joinI a b with
  | none => exact AC.nilR (runJoin_no a b ha hb h) (.cons (NilC.nil _) (.cons (NilT.refl _) .nil))
  | some z =>
    unfold joinI at h
    split at h
    · rename_i hc
      simp only [Bool.and_eq_true] at hc
      obtain rfl := Option.some.inj h
      exact AC.settle0 [0] (runJoin_ok a b ha hb hc.1.1 hc.1.2 hc.2) (.cons (SetC.row0 rfl rfl) (.cons (.inl rfl) .nil)) rfl
    · cases h
theorem l11Trim_ac (r : List Ent) (ts : List Int) (b : Bool) (hr : r.length ≤ 100000) (ht : ts.length ≤ 100000) : AC Tryz.prog 92 [runT r, intsT ts, bT b] noHp 0 ⟨.t (.c (.h 0)), hpL [some (eRow (trimM r ts b))], 1⟩ := by
  refine AC_of Tryz.func92 rfl Tryz.ntmps92 Tryz.results92 (by kernel_rfl) rfl ?_
  simp only [List.zipIdx, List.map, Nat.zero_add, Nat.reduceAdd]
  repeat (first | apply Aw_seq | apply Aw_block | apply Aw_skip | apply Aw_exit | refine Aw_condt rfl ?_ | refine Aw_condf rfl ?_ | ((first | refine qr ?_ | refine qd (by kernel_rfl) (by kernel_rfl) ?_); simp only [go_sem, jE, reduceIte, jA, jM, jS, jL, jD, jB]) | refine dk (by kernel_rfl) ?_)
  refine Aw.rw (rwL (l' := [(8, .t (iT (0 : Nat))), (7, .t (.c (.h 0))), (2, .t (bT b)), (1, .t (intsT ts)), (0, .t (runT r))]) (os := [some (eRow (colI 0 (trimAt r ts)))]) (M := [1]) (n' := 1) (by repeat (first | exact trivial | refine ⟨rfl, rfl, ?_⟩)) (by rfl) (by simp only [go_sem, jE, reduceIte, jA, jM, jS, jL, jD, jB, colI_0, List.map_nil]; first | done | rfl) (by decide) (by unfold idM; decide)) ?_
  refine Aw_loop_rw (ι := { i : Nat // i ≤ r.length }) (fun q => S [(8, .t (iT (q.1 : Nat))), (7, .t (.c (.h 0))), (2, .t (bT b)), (1, .t (intsT ts)), (0, .t (runT r))] (hpL [some (eRow (colI q.1 (trimAt r ts)))]) 1) (fun q => r.length - q.1) ⟨0, Nat.zero_le _⟩ ?_
  rintro ⟨i, hi⟩
  dsimp only
  by_cases hlt : i < r.length
  · have h1 : (i : Int) < (r.length : Int) := by omega
    have w1 := wrap_succ hlt (by omega)
    obtain ⟨e, hx⟩ : ∃ e, r[i]? = some e := ⟨_, List.getElem?_eq_getElem hlt⟩
    have hb : ((colI i (trimAt r ts)).length + 1) * 40 ≤ 140737488355328 := by have := colI_len (n := i) (trimAt_len r ts); omega
    have k1 := l11Seen_ac r i ts e hx (by omega) (by omega)
    cases c : seenAt r ts i
    · have hc : colI (i + 1) (trimAt r ts) = colI i (trimAt r ts) := by rw [colI_succ]; simp [trimAt, hx, c]
      rw [c] at k1
      repeat (first | apply Aw_seq | apply Aw_block | apply Aw_skip | apply Aw_exit | refine Aw_condt rfl ?_ | refine Aw_condf rfl ?_ | ((first | refine qr ?_ | refine qd (by kernel_rfl) (by kernel_rfl) ?_); simp only [go_sem, jE, reduceIte, jA, jM, jS, jL, jD, jB, h1, w1, hx, c]) | refine dk (by kernel_rfl) ?_ | (refine qp (k1) (by simp only [go_sem, jE, reduceIte, jA, jM, jS, jL, jD, jB, h1, w1, hx, c]; first | done | rfl) rfl (by simp only [go_sem, Nat.reduceLT]) rfl rfl ?_; simp only [go_sem, jE, reduceIte, jA, jM, jS, jL, jD, jB, h1, w1, hx, c]))
      refine ⟨⟨i + 1, hlt⟩, [0], ?_, rwL (by repeat (first | exact trivial | refine ⟨rfl, rfl, ?_⟩)) (by rfl) (by simp only [go_sem, jE, reduceIte, jA, jM, jS, jL, jD, jB, hc]; first | done | rfl) (by decide) (by unfold idM; decide)⟩
      show r.length - (i + 1) < r.length - i; omega
    · have hc : colI (i + 1) (trimAt r ts) = colI i (trimAt r ts) ++ [e] := by rw [colI_succ]; simp [trimAt, hx, c]
      rw [c] at k1
      repeat (first | apply Aw_seq | apply Aw_block | apply Aw_skip | apply Aw_exit | refine Aw_condt rfl ?_ | refine Aw_condf rfl ?_ | ((first | refine qr ?_ | refine qd (by kernel_rfl) (by kernel_rfl) ?_); simp only [go_sem, jE, reduceIte, jA, jM, jS, jL, jD, jB, h1, w1, hx, c, hb]) | refine dk (by kernel_rfl) ?_ | (refine qp (k1) (by simp only [go_sem, jE, reduceIte, jA, jM, jS, jL, jD, jB, h1, w1, hx, c, hb]; first | done | rfl) rfl (by simp only [go_sem, Nat.reduceLT]) rfl rfl ?_; simp only [go_sem, jE, reduceIte, jA, jM, jS, jL, jD, jB, h1, w1, hx, c, hb]))
      refine ⟨⟨i + 1, hlt⟩, [14], ?_, rwL (by repeat (first | exact trivial | refine ⟨rfl, rfl, ?_⟩)) (by rfl) (by simp only [go_sem, jE, reduceIte, jA, jM, jS, jL, jD, jB, hc, List.map_append, List.map_cons, List.map_nil]; first | done | rfl) (by decide) (by unfold idM; decide)⟩
      show r.length - (i + 1) < r.length - i; omega
  · have h1 : ¬ (i : Int) < (r.length : Int) := by omega
    obtain rfl : i = r.length := by omega
    have e1 : colI r.length (trimAt r ts) = trim1 r ts := rfl
    rw [e1]
    obtain ⟨o, ho⟩ : ∃ o, o = trim1 r ts := ⟨_, rfl⟩
    have hol : o.length ≤ r.length := by rw [ho]; exact trim1_len r ts
    rw [← ho]
    cases b
    · have e2 : trimM r ts false = o := by rw [ho]; rfl
      rw [e2]
      repeat (first | apply Aw_seq | apply Aw_block | apply Aw_skip | apply Aw_exit | refine Aw_condt rfl ?_ | refine Aw_condf rfl ?_ | ((first | refine qr ?_ | refine qd (by kernel_rfl) (by kernel_rfl) ?_); simp only [go_sem, jE, reduceIte, jA, jM, jS, jL, jD, jB, h1]) | refine dk (by kernel_rfl) ?_)
      exact Aw_ret (retL (M := [0]) (.inl rfl) (by simp only [go_sem, jE, reduceIte, jA, jM, jS, jL, jD, jB]; first | done | rfl) rfl rfl (by rfl) (by simp only [go_sem, jE, reduceIte, jA, jM, jS, jL, jD, jB]; first | done | rfl | (and_intros <;> rfl)) (by decide) (by unfold idM; decide))
    · have e2 : trimM r ts true = trim2 o := by rw [ho]; rfl
      rw [e2]
      repeat (first | apply Aw_seq | apply Aw_block | apply Aw_skip | apply Aw_exit | refine Aw_condt rfl ?_ | refine Aw_condf rfl ?_ | ((first | refine qr ?_ | refine qd (by kernel_rfl) (by kernel_rfl) ?_); simp only [go_sem, jE, reduceIte, jA, jM, jS, jL, jD, jB, h1]) | refine dk (by kernel_rfl) ?_)
      refine Aw.rw (rwL (l' := [(10, .t (iT (0 : Nat))), (9, .t (.c (.h 1))), (7, .t (.c (.h 0)))]) (os := [some (eRow o), some (eRow (colI 0 (lowAt o)))]) (M := [0, 7]) (n' := 2) (by repeat (first | exact trivial | refine ⟨rfl, rfl, ?_⟩)) (by rfl) (by simp only [go_sem, jE, reduceIte, jA, jM, jS, jL, jD, jB, colI_0, List.map_nil]; first | done | rfl) (by decide) (by unfold idM; decide)) ?_
      refine Aw.setL (l' := [(10, .t (iT (0 : Nat))), (9, .t (.c (.h 1))), (7, .t (runT o))]) (os' := [none, some (eRow (colI 0 (lowAt o)))]) (n' := 2) [0] (by repeat (first | exact trivial | refine ⟨SetA.same rfl, ?_⟩ | refine ⟨SetA.row rfl rfl (by decide), ?_⟩)) (by repeat (first | exact trivial | refine ⟨rfl, rfl, ?_⟩ | show SubL _ _ _ _)) (by decide) ?_
      refine Aw_loop_rw (ι := { i : Nat // i ≤ o.length }) (fun q => S [(10, .t (iT (q.1 : Nat))), (9, .t (.c (.h 1))), (7, .t (runT o))] (hpL [none, some (eRow (colI q.1 (lowAt o)))]) 2) (fun q => o.length - q.1) ⟨0, Nat.zero_le _⟩ ?_
      rintro ⟨i, hi⟩
      dsimp only
      by_cases hlt : i < o.length
      · have h1 : (i : Int) < (o.length : Int) := by omega
        have w1 := wrap_succ hlt (by omega)
        obtain ⟨e, hx⟩ : ∃ e, o[i]? = some e := ⟨_, List.getElem?_eq_getElem hlt⟩
        have hb : ((colI i (lowAt o)).length + 1) * 40 ≤ 140737488355328 := by have := colI_len (n := i) (lowAt_len o); omega
        have w2 : IntKind.i64.wrap ((i : Int) + 1) = ((i + 1 : Nat) : Int) := w1
        have end_ : ∀ c : List Ent, lowAt o i = c → colI (i + 1) (lowAt o) = colI i (lowAt o) ++ c := fun c h => by rw [colI_succ, h]
        by_cases hn : i + 1 < o.length
        · have h2 : decide (((o.length : Nat) : Int) ≤ ((i + 1 : Nat) : Int)) = false := decide_eq_false (by omega)
          obtain ⟨q, hq⟩ : ∃ e, o[i + 1]? = some e := ⟨_, List.getElem?_eq_getElem hn⟩
          cases c1 : decide (q.key = e.key)
          · cases c2 : e.gone
            · have hc := end_ [e] (by unfold lowAt lastAt; rw [hx]; simp only [hq, c1, c2]; rfl)
              repeat (first | apply Aw_seq | apply Aw_block | apply Aw_skip | apply Aw_exit | refine Aw_condt rfl ?_ | refine Aw_condf rfl ?_ | ((first | refine qr ?_ | refine qd (by kernel_rfl) (by kernel_rfl) ?_); simp only [go_sem, jE, reduceIte, jA, jM, jS, jL, jD, jB, h1, w1, hx, h2, hq, c1, c2, hb]) | refine dk (by kernel_rfl) ?_)
              refine ⟨⟨i + 1, hlt⟩, [0, 40], ?_, rwL (by repeat (first | exact trivial | refine ⟨rfl, rfl, ?_⟩)) (by rfl) (by simp only [go_sem, jE, reduceIte, jA, jM, jS, jL, jD, jB, hc, List.map_append, List.map_cons, List.map_nil, c2]; first | done | rfl) (by decide) (by unfold idM; decide)⟩
              show o.length - (i + 1) < o.length - i; omega
            · have hc := end_ [] (by unfold lowAt lastAt; rw [hx]; simp only [hq, c1, c2]; rfl)
              repeat (first | apply Aw_seq | apply Aw_block | apply Aw_skip | apply Aw_exit | refine Aw_condt rfl ?_ | refine Aw_condf rfl ?_ | ((first | refine qr ?_ | refine qd (by kernel_rfl) (by kernel_rfl) ?_); simp only [go_sem, jE, reduceIte, jA, jM, jS, jL, jD, jB, h1, w1, hx, h2, hq, c1, c2, hb]) | refine dk (by kernel_rfl) ?_)
              refine ⟨⟨i + 1, hlt⟩, [0, 1], ?_, rwL (by repeat (first | exact trivial | refine ⟨rfl, rfl, ?_⟩)) (by rfl) (by simp only [go_sem, jE, reduceIte, jA, jM, jS, jL, jD, jB, hc, List.append_nil]; first | done | rfl) (by decide) (by unfold idM; decide)⟩
              show o.length - (i + 1) < o.length - i; omega
          · cases c2 : e.gone
            · have hc := end_ [e] (by unfold lowAt lastAt; rw [hx]; simp only [hq, c1, c2]; rfl)
              repeat (first | apply Aw_seq | apply Aw_block | apply Aw_skip | apply Aw_exit | refine Aw_condt rfl ?_ | refine Aw_condf rfl ?_ | ((first | refine qr ?_ | refine qd (by kernel_rfl) (by kernel_rfl) ?_); simp only [go_sem, jE, reduceIte, jA, jM, jS, jL, jD, jB, h1, w1, hx, h2, hq, c1, c2, hb]) | refine dk (by kernel_rfl) ?_)
              refine ⟨⟨i + 1, hlt⟩, [0, 40], ?_, rwL (by repeat (first | exact trivial | refine ⟨rfl, rfl, ?_⟩)) (by rfl) (by simp only [go_sem, jE, reduceIte, jA, jM, jS, jL, jD, jB, hc, List.map_append, List.map_cons, List.map_nil, c2]; first | done | rfl) (by decide) (by unfold idM; decide)⟩
              show o.length - (i + 1) < o.length - i; omega
            · have hc := end_ [e] (by unfold lowAt lastAt; rw [hx]; simp only [hq, c1, c2]; rfl)
              repeat (first | apply Aw_seq | apply Aw_block | apply Aw_skip | apply Aw_exit | refine Aw_condt rfl ?_ | refine Aw_condf rfl ?_ | ((first | refine qr ?_ | refine qd (by kernel_rfl) (by kernel_rfl) ?_); simp only [go_sem, jE, reduceIte, jA, jM, jS, jL, jD, jB, h1, w1, hx, h2, hq, c1, c2, hb]) | refine dk (by kernel_rfl) ?_)
              refine ⟨⟨i + 1, hlt⟩, [0, 42], ?_, rwL (by repeat (first | exact trivial | refine ⟨rfl, rfl, ?_⟩)) (by rfl) (by simp only [go_sem, jE, reduceIte, jA, jM, jS, jL, jD, jB, hc, List.map_append, List.map_cons, List.map_nil, c2]; first | done | rfl) (by decide) (by unfold idM; decide)⟩
              show o.length - (i + 1) < o.length - i; omega
        · have h2 : decide (((o.length : Nat) : Int) ≤ ((i + 1 : Nat) : Int)) = true := decide_eq_true (by omega)
          have hn2 : o[i + 1]? = none := List.getElem?_eq_none (by omega)
          cases c2 : e.gone
          · have hc := end_ [e] (by unfold lowAt lastAt; rw [hx]; simp only [hn2, c2]; rfl)
            repeat (first | apply Aw_seq | apply Aw_block | apply Aw_skip | apply Aw_exit | refine Aw_condt rfl ?_ | refine Aw_condf rfl ?_ | ((first | refine qr ?_ | refine qd (by kernel_rfl) (by kernel_rfl) ?_); simp only [go_sem, jE, reduceIte, jA, jM, jS, jL, jD, jB, h1, w1, hx, h2, hn, c2, hb]) | refine dk (by kernel_rfl) ?_)
            refine ⟨⟨i + 1, hlt⟩, [0, 28], ?_, rwL (by repeat (first | exact trivial | refine ⟨rfl, rfl, ?_⟩)) (by rfl) (by simp only [go_sem, jE, reduceIte, jA, jM, jS, jL, jD, jB, hc, List.map_append, List.map_cons, List.map_nil, c2]; first | done | rfl) (by decide) (by unfold idM; decide)⟩
            show o.length - (i + 1) < o.length - i; omega
          · have hc := end_ [] (by unfold lowAt lastAt; rw [hx]; simp only [hn2, c2]; rfl)
            repeat (first | apply Aw_seq | apply Aw_block | apply Aw_skip | apply Aw_exit | refine Aw_condt rfl ?_ | refine Aw_condf rfl ?_ | ((first | refine qr ?_ | refine qd (by kernel_rfl) (by kernel_rfl) ?_); simp only [go_sem, jE, reduceIte, jA, jM, jS, jL, jD, jB, h1, w1, hx, h2, hn, c2, hb]) | refine dk (by kernel_rfl) ?_)
            refine ⟨⟨i + 1, hlt⟩, [0, 1], ?_, rwL (by repeat (first | exact trivial | refine ⟨rfl, rfl, ?_⟩)) (by rfl) (by simp only [go_sem, jE, reduceIte, jA, jM, jS, jL, jD, jB, hc, List.append_nil]; first | done | rfl) (by decide) (by unfold idM; decide)⟩
            show o.length - (i + 1) < o.length - i; omega
      · have h1 : ¬ (i : Int) < (o.length : Int) := by omega
        obtain rfl : i = o.length := by omega
        repeat (first | apply Aw_seq | apply Aw_block | apply Aw_skip | apply Aw_exit | refine Aw_condt rfl ?_ | refine Aw_condf rfl ?_ | ((first | refine qr ?_ | refine qd (by kernel_rfl) (by kernel_rfl) ?_); simp only [go_sem, jE, reduceIte, jA, jM, jS, jL, jD, jB, h1]) | refine dk (by kernel_rfl) ?_)
        exact Aw_ret (retL (M := [1]) (.inl rfl) (by simp only [go_sem, jE, reduceIte, jA, jM, jS, jL, jD, jB]; first | done | rfl) rfl rfl (by rfl) (by simp only [go_sem, jE, reduceIte, jA, jM, jS, jL, jD, jB, trim2]; first | done | rfl | (and_intros <;> rfl)) (by decide) (by unfold idM; decide))
/-- What is left of a heap when some rows are settled; what held them holds their data. -/
def SubS (hp : Hp) (L : List Nat) (i : Nat) : List (Option Obj) → List (Option Obj) → Prop
  | some o :: s, some o' :: s' => (o' = o ∨ SetO hp L o o') ∧ L.contains i = false ∧ SubS hp L (i + 1) s s'
  | _ :: s, none :: s' => SubS hp L (i + 1) s s'
  | _, [] => True
  | _, _ => False
theorem subS_get {hp : Hp} {L : List Nat} : ∀ {i : Nat} {os os' : List (Option Obj)}, SubS hp L i os os' → ∀ m o', hpL os' m = some o' → L.contains (i + m) = false ∧ ∃ o, hpL os m = some o ∧ (o' = o ∨ SetO hp L o o')
  | i, some o :: s, some o' :: s', h, 0, q, hq => by
    rw [l_c0] at hq ⊢; obtain ⟨h1, h2, _⟩ := h; cases hq; exact ⟨h2, o, rfl, h1⟩
  | i, some o :: s, some o' :: s', h, m + 1, q, hq => by
    rw [l_c1] at hq ⊢; have := subS_get h.2.2 m q hq; rw [show i + (m + 1) = i + 1 + m by omega]; exact this
  | i, o :: s, none :: s', h, 0, q, hq => by rw [l_c0] at hq; cases hq
  | i, some o :: s, none :: s', h, m + 1, q, hq => by
    rw [l_c1] at hq ⊢; have := subS_get (os := s) (os' := s') h m q hq; rw [show i + (m + 1) = i + 1 + m by omega]; exact this
  | i, none :: s, none :: s', h, m + 1, q, hq => by
    rw [l_c1] at hq ⊢; have := subS_get (os := s) (os' := s') h m q hq; rw [show i + (m + 1) = i + 1 + m by omega]; exact this
  | _, _, [], _, m, q, hq => by rw [l_n] at hq; cases hq
  | _, [], none :: _, h, _, _, _ => h.elim
  | _, [], some _ :: _, h, _, _, _ => h.elim
  | _, none :: _, some _ :: _, h, _, _, _ => h.elim
theorem AC.setS {P : Program} {f : FuncId} {args : List TV} {hp : Hp} {k : Nat} {x y : AV} {os os' : List (Option Obj)} {n : Nat} (L : List Nat) (h : AC P f args hp k ⟨x, hpL os, n⟩) (hr : SetA (hpL os) L x y) (hs : SubS (hpL os) L 0 os os') : AC P f args hp k ⟨y, hpL os', n⟩ :=
  AC.settle h hr (fun m o' hm => by
    obtain ⟨h1, o, h2, h3⟩ := subS_get hs m o' hm
    exact ⟨by simpa using h1, o, h2, h3⟩) (Nat.le_refl n)
def lvRow (l : List (List Ent)) : Obj := dRow 29 1 (l.map lvD)
@[go_sem] theorem r_lvRow (l : List (List Ent)) : lvRow l = dRow 29 1 (l.map lvD) := rfl
abbrev hT (s : Sto) : TV := .agg [.h 2, .h 0, .h 1, .d (.s (.int .i64 s.keep)), .d (.s (.int .i64 s.time)), .h 3]
def tmRow (ts : List Int) : Obj := dRow 3 1 (ts.map intD)
@[go_sem] theorem r_tmRow (ts : List Int) : tmRow ts = dRow 3 1 (ts.map intD) := rfl
def hS (s : Sto) : List (Option Obj) := [some (lvRow s.levels), some (svRow s.sieves), some (eRow s.top), some (tmRow s.times)]
@[go_sem] theorem r_hS (s : Sto) : hS s = [some (dRow 29 1 (s.levels.map lvD)), some (dRow 82 5 (s.sieves.map sveD)), some (dRow 56 4 (s.top.map entD)), some (dRow 3 1 (s.times.map intD))] := rfl
/-- And a run. -/
def hR (s : Sto) (r : List Ent) : List (Option Obj) := [some (lvRow s.levels), some (svRow s.sieves), some (eRow s.top), some (tmRow s.times), some (eRow r)]
@[go_sem] theorem r_hR (s : Sto) (r : List Ent) : hR s r = [some (dRow 29 1 (s.levels.map lvD)), some (dRow 82 5 (s.sieves.map sveD)), some (dRow 56 4 (s.top.map entD)), some (dRow 3 1 (s.times.map intD)), some (dRow 56 4 (r.map entD))] := rfl
def hG (s : Sto) : List (Option Obj) := [some (lvRow s.levels), some (svRow s.sieves), some (eRow s.top), some (tmRow s.times), none]
@[go_sem] theorem r_hG (s : Sto) : hG s = [some (dRow 29 1 (s.levels.map lvD)), some (dRow 82 5 (s.sieves.map sveD)), some (dRow 56 4 (s.top.map entD)), some (dRow 3 1 (s.times.map intD)), none] := rfl
theorem Aw.setS {P : Program} {N k : Nat} {x : Code} {Q : Exit → St → Prop} {l l' : List (Nat × AV)} {os os' : List (Option Obj)} {n n' : Nat} (L : List Nat) (h : ChkS L (hpL os) l l') (hs : SubS (hpL os) L 0 os os') (hn : n ≤ n') (q : Aw P N k x Q (S l' (hpL os') n')) : Aw P N k x Q (S l (hpL os) n) :=
  Aw.settle (stl_look h (fun m o' hm => by
    obtain ⟨h1, o, h2, h3⟩ := subS_get hs m o' hm
    exact ⟨by simpa using h1, o, h2, h3⟩) hn) q
/-- A level that is set. -/
def setM (s : Sto) (i : Nat) (r : List Ent) : Option Sto := match sieveM (keysM r) s.keep with
  | some x => if r.length ≤ 8 * (i + 1) then some { s with levels := s.levels.set i r, sieves := s.sieves.set i x } else none
  | none => none
abbrev zA : TV := .agg [.d (.s (.slice none 0 0)), .d (.s (.slice none 0 0)), .d (.s (.slice none 0 0)), .d (.s (.int .i64 0)), .d (.s (.int .i64 0)), .d (.s (.slice none 0 0))]
theorem zA_nil : NilA (.tup [zA, bT false]) (.tup [stT zSto, bT false]) := .cons (.cons (NilC.nil _) (.cons (NilC.nil _) (.cons (NilC.nil _) (.cons (.inl rfl) (.cons (.inl rfl) (.cons (NilC.nil _) .nil)))))) (.cons (NilT.refl _) .nil)
theorem l12Set_no (s : Sto) (i : Nat) (r : List Ent) (hi : i ≤ 1000) (hr : SmR r) (h : setM s i r = none) : AC Tryz.prog 53 [hT s, iT i, .c (.h 4)] (hpL (hR s r)) 5 ⟨.tup [zA, bT false], hpL (hG s), 5⟩ := by
  refine AC_of Tryz.func53 rfl Tryz.ntmps53 Tryz.results53 (by kernel_rfl) rfl ?_
  simp only [List.zipIdx, List.map, Nat.zero_add, Nat.reduceAdd]
  refine Aw.setL (l' := [(0, .t (hT s)), (1, .t (iT i)), (2, .t (runT r))]) (os' := [some (lvRow s.levels), some (svRow s.sieves), some (eRow s.top), some (tmRow s.times), none]) (n' := 5) [4] (by repeat (first | exact trivial | refine ⟨SetA.same rfl, ?_⟩ | refine ⟨SetA.row rfl rfl (by decide), ?_⟩)) (by repeat (first | exact trivial | refine ⟨rfl, rfl, ?_⟩ | show SubL _ _ _ _)) (by decide) ?_
  have k1 := skeysOfS_ac r hr
  have k2 := ssieveS_ac (keysM r) s.keep (smS_keys hr)
  have k4 := l12Size_ac i hi
  cases hm : sieveM (keysM r) s.keep with
  | none =>
    rw [hm] at k2
    repeat (first | apply Aw_seq | apply Aw_block | apply Aw_skip | apply Aw_exit | refine Aw_condt rfl ?_ | refine Aw_condf rfl ?_ | ((first | refine qr ?_ | refine qd (by kernel_rfl) (by kernel_rfl) ?_); simp only [go_sem, jE, reduceIte, jA, jM, jS, jL, jD, jB]) | refine dk (by kernel_rfl) ?_ | (refine qp (k1) (by simp only [go_sem, jE, reduceIte, jA, jM, jS, jL, jD, jB]; first | done | rfl) rfl (by simp only [go_sem, Nat.reduceLT]) rfl rfl ?_; simp only [go_sem, jE, reduceIte, jA, jM, jS, jL, jD, jB]) | (refine qp (k2) (by simp only [go_sem, jE, reduceIte, jA, jM, jS, jL, jD, jB]; first | done | rfl) rfl (by simp only [go_sem, Nat.reduceLT]) rfl rfl ?_; simp only [go_sem, jE, reduceIte, jA, jM, jS, jL, jD, jB]))
    exact Aw_ret (retL (M := [0, 1, 2, 3, 4]) (.inl rfl) (by simp only [go_sem, jE, reduceIte, jA, jM, jS, jL, jD, jB]; first | done | rfl) rfl rfl (by rfl) (by simp only [go_sem, jE, reduceIte, jA, jM, jS, jL, jD, jB]; first | done | rfl | (and_intros <;> rfl)) (by decide) (by unfold idM; decide))
  | some x =>
    rw [hm] at k2
    have h1 : decide (((8 * (i + 1) : Nat) : Int) < (r.length : Int)) = true := decide_eq_true (by unfold setM at h; rw [hm] at h; simp at h; omega)
    repeat (first | apply Aw_seq | apply Aw_block | apply Aw_skip | apply Aw_exit | refine Aw_condt rfl ?_ | refine Aw_condf rfl ?_ | ((first | refine qr ?_ | refine qd (by kernel_rfl) (by kernel_rfl) ?_); simp only [go_sem, jE, reduceIte, jA, jM, jS, jL, jD, jB, h1]) | refine dk (by kernel_rfl) ?_ | (refine qp (k1) (by simp only [go_sem, jE, reduceIte, jA, jM, jS, jL, jD, jB, h1]; first | done | rfl) rfl (by simp only [go_sem, Nat.reduceLT]) rfl rfl ?_; simp only [go_sem, jE, reduceIte, jA, jM, jS, jL, jD, jB, h1]) | (refine qp (k2) (by simp only [go_sem, jE, reduceIte, jA, jM, jS, jL, jD, jB, h1]; first | done | rfl) rfl (by simp only [go_sem, Nat.reduceLT]) rfl rfl ?_; simp only [go_sem, jE, reduceIte, jA, jM, jS, jL, jD, jB, h1]) | (refine qp (k4) (by simp only [go_sem, jE, reduceIte, jA, jM, jS, jL, jD, jB, h1]; first | done | rfl) rfl (by simp only [go_sem, Nat.reduceLT]) rfl rfl ?_; simp only [go_sem, jE, reduceIte, jA, jM, jS, jL, jD, jB, h1]))
    exact Aw_ret (retL (M := [0, 1, 2, 3, 4]) (.inl rfl) (by simp only [go_sem, jE, reduceIte, jA, jM, jS, jL, jD, jB]; first | done | rfl) rfl rfl (by rfl) (by simp only [go_sem, jE, reduceIte, jA, jM, jS, jL, jD, jB]; first | done | rfl | (and_intros <;> rfl)) (by decide) (by unfold idM; decide))
theorem set_lv (l : List (List Ent)) (i : Nat) (r : List Ent) : ((l.map lvD).map (·.map CV.d)).set i [.d (.rs 4 (r.map entD))] = ((l.set i r).map lvD).map (·.map CV.d) := by
  rw [List.map_set, List.map_set]; rfl
theorem set_sv (l : List Sve) (i : Nat) (x : Sve) : ((l.map sveD).map (·.map CV.d)).set i [.d (.s (.string x.letters)), .d (.s (.string x.more)), .d (.s (.string x.first)), .d (.rs 1 (x.rests.map strD)), .d (.s (.int .i64 x.keep))] = ((l.set i x).map sveD).map (·.map CV.d) := by
  rw [List.map_set, List.map_set]; rfl
theorem l12Set_ok (s s' : Sto) (i : Nat) (r : List Ent) (hi : i ≤ 1000) (hl : i < s.levels.length) (hv : i < s.sieves.length) (hr : SmR r) (h : setM s i r = some s') : AC Tryz.prog 53 [hT s, iT i, .c (.h 4)] (hpL (hR s r)) 5 ⟨.tup [hT s', bT true], hpL (hG s'), 5⟩ := by
  refine AC_of Tryz.func53 rfl Tryz.ntmps53 Tryz.results53 (by kernel_rfl) rfl ?_
  simp only [List.zipIdx, List.map, Nat.zero_add, Nat.reduceAdd]
  refine Aw.setL (l' := [(0, .t (hT s)), (1, .t (iT i)), (2, .t (runT r))]) (os' := [some (lvRow s.levels), some (svRow s.sieves), some (eRow s.top), some (tmRow s.times), none]) (n' := 5) [4] (by repeat (first | exact trivial | refine ⟨SetA.same rfl, ?_⟩ | refine ⟨SetA.row rfl rfl (by decide), ?_⟩)) (by repeat (first | exact trivial | refine ⟨rfl, rfl, ?_⟩ | show SubL _ _ _ _)) (by decide) ?_
  have k1 := skeysOfS_ac r hr
  have k2 := ssieveS_ac (keysM r) s.keep (smS_keys hr)
  have k4 := l12Size_ac i hi
  unfold setM at h
  cases hm : sieveM (keysM r) s.keep with
  | none => rw [hm] at h; cases h
  | some x =>
    rw [hm] at h k2
    have hx : (some x).getD zSve = x := rfl
    rw [hx] at k2
    by_cases hc : r.length ≤ 8 * (i + 1)
    · simp only [if_pos hc, Option.some.injEq] at h
      subst h
      have h1 : decide (((8 * (i + 1) : Nat) : Int) < (r.length : Int)) = false := decide_eq_false (by omega)
      obtain ⟨e1, he1⟩ : ∃ e, s.levels[i]? = some e := ⟨_, List.getElem?_eq_getElem hl⟩
      obtain ⟨e2, he2⟩ : ∃ e, s.sieves[i]? = some e := ⟨_, List.getElem?_eq_getElem hv⟩
      repeat (first | apply Aw_seq | apply Aw_block | apply Aw_skip | apply Aw_exit | refine Aw_condt rfl ?_ | refine Aw_condf rfl ?_ | ((first | refine qr ?_ | refine qd (by kernel_rfl) (by kernel_rfl) ?_); simp only [go_sem, jE, reduceIte, jA, jM, jS, jL, jD, jB, h1, hl, hv, he1, he2]) | refine dk (by kernel_rfl) ?_ | (refine qp (k1) (by simp only [go_sem, jE, reduceIte, jA, jM, jS, jL, jD, jB, h1, hl, hv, he1, he2]; first | done | rfl) rfl (by simp only [go_sem, Nat.reduceLT]) rfl rfl ?_; simp only [go_sem, jE, reduceIte, jA, jM, jS, jL, jD, jB, h1, hl, hv, he1, he2]) | (refine qp (k2) (by simp only [go_sem, jE, reduceIte, jA, jM, jS, jL, jD, jB, h1, hl, hv, he1, he2]; first | done | rfl) rfl (by simp only [go_sem, Nat.reduceLT]) rfl rfl ?_; simp only [go_sem, jE, reduceIte, jA, jM, jS, jL, jD, jB, h1, hl, hv, he1, he2]) | (refine qp (k4) (by simp only [go_sem, jE, reduceIte, jA, jM, jS, jL, jD, jB, h1, hl, hv, he1, he2]; first | done | rfl) rfl (by simp only [go_sem, Nat.reduceLT]) rfl rfl ?_; simp only [go_sem, jE, reduceIte, jA, jM, jS, jL, jD, jB, h1, hl, hv, he1, he2]))
      exact Aw_ret (retL (M := [0, 1, 2, 3, 4]) (.inl rfl) (by simp only [go_sem, jE, reduceIte, jA, jM, jS, jL, jD, jB]; first | done | rfl) rfl rfl (by rfl) (by simp only [go_sem, jE, reduceIte, jA, jM, jS, jL, jD, jB, set_lv, set_sv]; first | done | rfl | (and_intros <;> rfl)) (by decide) (by unfold idM; decide))
    · simp [hc] at h
@[go_sem] theorem all_intD (q : List Int) : (List.map (fun x => List.map CV.d x) (List.map intD q)).all (fun cs => cs.length == 1) = true := by simp [intD]
@[go_sem] theorem r_ixR1 {P : Program} {hp : Hp} (e k : Nat) (els : List (List D)) : ixR P hp e k els 1 = match tiOf P e with
    | some E => if E.sz = k ∧ 0 < k then (els[1]?).map fun cs => (.t (.c (.pr cs)), hp) else none
    | none => none := r_ixR (hp := hp) e k els 1
@[go_sem] theorem r_ixR2 {P : Program} {hp : Hp} (e k : Nat) (els : List (List D)) : ixR P hp e k els 2 = match tiOf P e with
    | some E => if E.sz = k ∧ 0 < k then (els[2]?).map fun cs => (.t (.c (.pr cs)), hp) else none
    | none => none := r_ixR (hp := hp) e k els 2
theorem l12Copy_ac (top a b c : List Ent) (x y z : Sve) (keep time : Int) (ts : List Int) (h0 : top.length ≤ 100000) (h1 : a.length ≤ 100000) (h2 : b.length ≤ 100000) (h3 : c.length ≤ 100000) (h4 : x.rests.length ≤ 1099511627776) (h5 : y.rests.length ≤ 1099511627776) (h6 : z.rests.length ≤ 1099511627776) (h7 : ts.length ≤ 100000) :
    AC Tryz.prog 50 [stT ⟨top, [a, b, c], [x, y, z], keep, time, ts⟩] noHp 0 ⟨.t (.agg [.h 0, .h 1, .h 2, .d (.s (.int .i64 keep)), .d (.s (.int .i64 time)), .h 3]),
      hpL [some (eRow top), some ⟨29, 1, true, [[.h 4], [.h 5], [.h 6]]⟩, some ⟨82, 5, true, [[.d (.s (.string x.letters)), .d (.s (.string x.more)), .d (.s (.string x.first)), .h 7, .d (.s (.int .i64 x.keep))], [.d (.s (.string y.letters)), .d (.s (.string y.more)), .d (.s (.string y.first)), .h 8, .d (.s (.int .i64 y.keep))], [.d (.s (.string z.letters)), .d (.s (.string z.more)), .d (.s (.string z.first)), .h 9, .d (.s (.int .i64 z.keep))]]⟩,
        some (dRow 3 1 (ts.map intD)), some (eRow a), some (eRow b), some (eRow c), some (kRow x.rests), some (kRow y.rests), some (kRow z.rests)], 10⟩ := by
  refine AC_of Tryz.func50 rfl Tryz.ntmps50 Tryz.results50 (by kernel_rfl) rfl ?_
  simp only [List.zipIdx, List.map, Nat.zero_add, Nat.reduceAdd]
  have q0 : top.length * 40 ≤ 140737488355328 := by omega
  have q1 : a.length * 40 ≤ 140737488355328 := by omega
  have q2 : b.length * 40 ≤ 140737488355328 := by omega
  have q3 : c.length * 40 ≤ 140737488355328 := by omega
  have q4 : x.rests.length * 16 ≤ 140737488355328 := by omega
  have q5 : y.rests.length * 16 ≤ 140737488355328 := by omega
  have q6 : z.rests.length * 16 ≤ 140737488355328 := by omega
  have q7 : ts.length * 8 ≤ 140737488355328 := by omega
  repeat (first | apply Aw_seq | apply Aw_block | apply Aw_skip | apply Aw_exit | refine Aw_condt rfl ?_ | refine Aw_condf rfl ?_ | ((first | refine qr ?_ | refine qd (by kernel_rfl) (by kernel_rfl) ?_); simp only [go_sem, jE, reduceIte, jA, jM, jS, jL, jD, jB, q0, q7]) | refine dk (by kernel_rfl) ?_)
  refine Aw_rounds 4 ?_
  refine AwR_succ ?_
  repeat (first | apply Aw_seq | apply Aw_block | apply Aw_skip | apply Aw_exit | refine Aw_condt rfl ?_ | refine Aw_condf rfl ?_ | ((first | refine qr ?_ | refine qd (by kernel_rfl) (by kernel_rfl) ?_); simp only [go_sem, jE, reduceIte, jA, jM, jS, jL, jD, jB, e03, w01, w12, w23, e13, e23, e33, q1, q2, q3, q4, q5, q6]) | refine dk (by kernel_rfl) ?_)
  exact Aw_ret (retL (M := [8, 121, 141, 14, 37, 78, 119, 52, 93, 134]) (.inl rfl) (by simp only [go_sem, jE, reduceIte, jA, jM, jS, jL, jD, jB]; first | done | rfl) rfl rfl (by rfl) (by simp only [go_sem, jE, reduceIte, jA, jM, jS, jL, jD, jB]; first | done | rfl | (and_intros <;> rfl)) (by decide) (by unfold idM; decide))
theorem l12CopyS_ac (top a b c : List Ent) (x y z : Sve) (keep time : Int) (ts : List Int) (h0 : top.length ≤ 100000) (h1 : a.length ≤ 100000) (h2 : b.length ≤ 100000) (h3 : c.length ≤ 100000) (h4 : x.rests.length ≤ 1099511627776) (h5 : y.rests.length ≤ 1099511627776) (h6 : z.rests.length ≤ 1099511627776) (h7 : ts.length ≤ 100000) :
    AC Tryz.prog 50 [stT ⟨top, [a, b, c], [x, y, z], keep, time, ts⟩] noHp 0 ⟨.t (hT ⟨top, [a, b, c], [x, y, z], keep, time, ts⟩), hpL (hS ⟨top, [a, b, c], [x, y, z], keep, time, ts⟩), 4⟩ := by
  have h := AC.setS [4, 5, 6, 7, 8, 9] (l12Copy_ac top a b c x y z keep time ts h0 h1 h2 h3 h4 h5 h6 h7) (y := .t (.agg [.h 0, .h 1, .h 2, .d (.s (.int .i64 keep)), .d (.s (.int .i64 time)), .h 3])) (os' := [some (eRow top), some (lvRow [a, b, c]), some (svRow [x, y, z]), some (tmRow ts)])
    (.cons (.inl rfl) (.cons (.inl rfl) (.cons (.inl rfl) (.cons (.inl rfl) (.cons (.inl rfl) (.cons (.inl rfl) .nil))))))
    ⟨.inl rfl, rfl, .inr ⟨rfl, rfl, rfl, .cons (.cons (SetC.row0 rfl rfl) .nil) (.cons (.cons (SetC.row0 rfl rfl) .nil) (.cons (.cons (SetC.row0 rfl rfl) .nil) .nil))⟩, rfl,
      .inr ⟨rfl, rfl, rfl, .cons (.cons (.inl rfl) (.cons (.inl rfl) (.cons (.inl rfl) (.cons (SetC.row0 rfl rfl) (.cons (.inl rfl) .nil))))) (.cons (.cons (.inl rfl) (.cons (.inl rfl) (.cons (.inl rfl) (.cons (SetC.row0 rfl rfl) (.cons (.inl rfl) .nil))))) (.cons (.cons (.inl rfl) (.cons (.inl rfl) (.cons (.inl rfl) (.cons (SetC.row0 rfl rfl) (.cons (.inl rfl) .nil))))) .nil))⟩, rfl, .inl rfl, rfl, trivial⟩
  refine AC.sel (M := [1, 2, 0, 3]) h rfl rfl (selL rfl ?_) (by decide) fun m hm => absurd hm (by omega)
  simp only [go_sem, LeftL]
structure SmH (s : Sto) : Prop where
  ll : s.levels.length = 3
  sl : s.sieves.length = 3
  lev : ∀ r ∈ s.levels, SmR r ∧ r.length ≤ 1000
  tl : s.times.length ≤ 1000
def intoM : Nat → Sto → Nat → List Ent → Option Sto
  | 0, s, i, r => setM s i (trimM (joinM r (s.levels.getD i [])) s.times true)
  | d + 1, s, i, r => match setM s i (trimM (joinM r (s.levels.getD i [])) s.times false) with
    | some x => some x
    | none => (intoM d s (i + 1) (s.levels.getD i [])).bind fun s1 => setM s1 i (trimM r s1.times false)
theorem smR_join {a b : List Ent} (ha : SmR a) (hb : SmR b) (h1 : a.length ≤ 1000) (h2 : b.length ≤ 1000) : SmR (joinM a b) := ⟨by rw [joinM_len]; omega, fun e he => (mem_joinM he).elim (ha.key e) (hb.key e)⟩
theorem smR_trim {a : List Ent} (ha : SmR a) (ts : List Int) (b : Bool) : SmR (trimM a ts b) := ⟨Nat.le_trans (trimM_len a ts b) ha.len, fun e he => ha.key e (mem_trimM he)⟩
theorem setM_ok {s s' : Sto} {i : Nat} {r : List Ent} (h : setM s i r = some s') : ∃ x, s' = { s with levels := s.levels.set i r, sieves := s.sieves.set i x } ∧ sieveM (keysM r) s.keep = some x ∧ r.length ≤ 8 * (i + 1) := by
  unfold setM at h
  cases hm : sieveM (keysM r) s.keep with
  | none => rw [hm] at h; cases h
  | some x =>
    rw [hm] at h
    simp only at h
    split at h
    · exact ⟨x, (Option.some.inj h).symm, rfl, by assumption⟩
    · cases h
theorem setM_sm {s s' : Sto} {i : Nat} {r : List Ent} (hs : SmH s) (hi : i ≤ 2) (hr : SmR r) (h : setM s i r = some s') : SmH s' := by
  obtain ⟨x, rfl, _, hl⟩ := setM_ok h
  refine ⟨by simp [hs.ll], by simp [hs.sl], fun q hq => ?_, hs.tl⟩
  rcases List.mem_or_eq_of_mem_set hq with h | rfl
  · exact hs.lev q h
  · exact ⟨hr, by omega⟩
theorem setM_times {s s' : Sto} {i : Nat} {r : List Ent} (h : setM s i r = some s') : s'.times = s.times ∧ s'.top = s.top ∧ s'.time = s.time ∧ s'.keep = s.keep := by
  obtain ⟨x, rfl, _, hl⟩ := setM_ok h
  exact ⟨rfl, rfl, rfl, rfl⟩
theorem intoM_sm : ∀ (d : Nat) {s s' : Sto} {i : Nat} {r : List Ent}, i + d = 2 → SmH s → SmR r → r.length ≤ 1000 → intoM d s i r = some s' → SmH s' ∧ s'.times = s.times ∧ s'.top = s.top ∧ s'.time = s.time ∧ s'.keep = s.keep
  | 0, s, s', i, r, hi, hs, hr, hl, h => by
    have hq : SmR (s.levels.getD i []) ∧ (s.levels.getD i []).length ≤ 1000 := by
      rw [List.getD_eq_getElem?_getD, List.getElem?_eq_getElem (by rw [hs.ll]; omega)]; exact hs.lev _ (List.getElem_mem _)
    exact ⟨setM_sm hs (by omega) (smR_trim (smR_join hr hq.1 hl hq.2) _ _) h, setM_times h⟩
  | d + 1, s, s', i, r, hi, hs, hr, hl, h => by
    have hq : SmR (s.levels.getD i []) ∧ (s.levels.getD i []).length ≤ 1000 := by
      rw [List.getD_eq_getElem?_getD, List.getElem?_eq_getElem (by rw [hs.ll]; omega)]; exact hs.lev _ (List.getElem_mem _)
    simp only [intoM] at h
    split at h
    · rename_i x hx
      obtain rfl := Option.some.inj h
      exact ⟨setM_sm hs (by omega) (smR_trim (smR_join hr hq.1 hl hq.2) _ _) hx, setM_times hx⟩
    · obtain ⟨s1, h1, h2⟩ := Option.bind_eq_some_iff.1 h
      obtain ⟨g1, g2⟩ := intoM_sm d (by omega) hs hq.1 hq.2 h1
      have g3 := setM_times h2
      exact ⟨setM_sm g1 (by omega) (smR_trim hr _ _) h2, by rw [g3.1, g2.1], by rw [g3.2.1, g2.2.1], by rw [g3.2.2.1, g2.2.2.1], by rw [g3.2.2.2, g2.2.2.2]⟩
theorem into_ac : ∀ (d : Nat) (s : Sto) (i : Nat) (r : List Ent), i + d = 2 → SmH s → SmR r → r.length ≤ 1000 →
    (∀ s', intoM d s i r = some s' → AC Tryz.prog 54 [hT s, iT i, runT r] (hpL (hS s)) 4 ⟨.tup [hT s', bT true], hpL (hS s'), 4⟩) ∧
    (intoM d s i r = none → AC Tryz.prog 54 [hT s, iT i, runT r] (hpL (hS s)) 4 ⟨.tup [zA, bT false], hpL [none, none, none, none], 4⟩) := by
  intro d
  induction d with
  | zero =>
    intro s i r hi hs hr hl
    obtain rfl : i = 2 := by omega
    obtain ⟨q, hq⟩ : ∃ q, s.levels[2]? = some q := ⟨_, List.getElem?_eq_getElem (by rw [hs.ll]; omega)⟩
    have hqd : s.levels.getD 2 [] = q := by simp [List.getD, hq]
    obtain ⟨hq1, hq2⟩ := hs.lev q (List.mem_of_getElem? hq)
    have k1 := l11JoinS_ac r q (by omega) (by omega)
    have k2 := l11Trim_ac (joinM r q) s.times true (by rw [joinM_len]; omega) (by have := hs.tl; omega)
    have hsm : SmR (trimM (joinM r q) s.times true) := smR_trim (smR_join hr hq1 hl hq2) _ _
    have hlt := (List.getElem?_eq_some_iff.1 hq).1
    have b1 : decide (((2 : Nat) : Int) = 2) = true := rfl
    constructor
    · intro s' h
      simp only [intoM, hqd] at h
      have k3 := l12Set_ok s s' 2 _ (by omega) (by rw [hs.ll]; omega) (by rw [hs.sl]; omega) hsm h
      refine AC_of Tryz.func54 rfl Tryz.ntmps54 Tryz.results54 (by kernel_rfl) rfl ?_
      simp only [List.zipIdx, List.map, Nat.zero_add, Nat.reduceAdd]
      repeat (first | apply Aw_seq | apply Aw_block | apply Aw_skip | apply Aw_exit | refine Aw_condt rfl ?_ | refine Aw_condf rfl ?_ | ((first | refine qr ?_ | refine qd (by kernel_rfl) (by kernel_rfl) ?_); simp only [go_sem, jE, reduceIte, jA, jM, jS, jL, jD, jB, b1, hq, hlt]) | refine dk (by kernel_rfl) ?_ | (refine qp (k1) (by simp only [go_sem, jE, reduceIte, jA, jM, jS, jL, jD, jB, b1, hq, hlt]; first | done | rfl) rfl (by simp only [go_sem, Nat.reduceLT]) rfl rfl ?_; simp only [go_sem, jE, reduceIte, jA, jM, jS, jL, jD, jB, b1, hq, hlt]) | (refine qx (call_N (L := [3]) (k2) rfl (.cons (.nm rfl) (.cons (arg_lend (m := 3) rfl (by simp)) (.cons (.nm rfl) (.nil)))) (.inr ⟨rfl, by simp⟩) rfl) (by simp only [go_sem, jE, reduceIte, jA, jM, jS, jL, jD, jB, b1, hq, hlt]; first | done | rfl) rfl (by simp only [go_sem, Nat.reduceLT]) ?_; simp only [go_sem, jE, reduceIte, jA, jM, jS, jL, jD, jB, b1, hq, hlt]) | (refine qx (call_L (N' := [0, 1, 2, 3, 19]) (L := []) (k3) rfl (.cons (.nm rfl) (.cons (.nm rfl) (.cons (.nm rfl) (.nil)))) (by decide) (by decide) (by decide) (by simp only [go_sem, jE, reduceIte, jA, jM, jS, jL, jD, jB, b1, hq, hlt]; first | done | rfl) (.inl rfl) rfl (by decide)) (by simp only [go_sem, jE, reduceIte, jA, jM, jS, jL, jD, jB, b1, hq, hlt]; first | done | rfl) rfl (by simp only [go_sem, Nat.reduceLT]) ?_; simp only [go_sem, jE, reduceIte, jA, jM, jS, jL, jD, jB, b1, hq, hlt]))
      exact Aw_ret (retL (M := [0, 1, 2, 3]) (.inl rfl) (by simp only [go_sem, jE, reduceIte, jA, jM, jS, jL, jD, jB]; first | done | rfl) rfl rfl (by rfl) (by simp only [go_sem, jE, reduceIte, jA, jM, jS, jL, jD, jB]; first | done | rfl | (and_intros <;> rfl)) (by decide) (by unfold idM; decide))
    · intro h
      simp only [intoM, hqd] at h
      have k3 := l12Set_no s 2 _ (by omega) hsm h
      refine AC_of Tryz.func54 rfl Tryz.ntmps54 Tryz.results54 (by kernel_rfl) rfl ?_
      simp only [List.zipIdx, List.map, Nat.zero_add, Nat.reduceAdd]
      repeat (first | apply Aw_seq | apply Aw_block | apply Aw_skip | apply Aw_exit | refine Aw_condt rfl ?_ | refine Aw_condf rfl ?_ | ((first | refine qr ?_ | refine qd (by kernel_rfl) (by kernel_rfl) ?_); simp only [go_sem, jE, reduceIte, jA, jM, jS, jL, jD, jB, b1, hq, hlt]) | refine dk (by kernel_rfl) ?_ | (refine qp (k1) (by simp only [go_sem, jE, reduceIte, jA, jM, jS, jL, jD, jB, b1, hq, hlt]; first | done | rfl) rfl (by simp only [go_sem, Nat.reduceLT]) rfl rfl ?_; simp only [go_sem, jE, reduceIte, jA, jM, jS, jL, jD, jB, b1, hq, hlt]) | (refine qx (call_N (L := [3]) (k2) rfl (.cons (.nm rfl) (.cons (arg_lend (m := 3) rfl (by simp)) (.cons (.nm rfl) (.nil)))) (.inr ⟨rfl, by simp⟩) rfl) (by simp only [go_sem, jE, reduceIte, jA, jM, jS, jL, jD, jB, b1, hq, hlt]; first | done | rfl) rfl (by simp only [go_sem, Nat.reduceLT]) ?_; simp only [go_sem, jE, reduceIte, jA, jM, jS, jL, jD, jB, b1, hq, hlt]) | (refine qx (call_L (N' := [0, 1, 2, 3, 19]) (L := []) (k3) rfl (.cons (.nm rfl) (.cons (.nm rfl) (.cons (.nm rfl) (.nil)))) (by decide) (by decide) (by decide) (by simp only [go_sem, jE, reduceIte, jA, jM, jS, jL, jD, jB, b1, hq, hlt]; first | done | rfl) (.inl rfl) rfl (by decide)) (by simp only [go_sem, jE, reduceIte, jA, jM, jS, jL, jD, jB, b1, hq, hlt]; first | done | rfl) rfl (by simp only [go_sem, Nat.reduceLT]) ?_; simp only [go_sem, jE, reduceIte, jA, jM, jS, jL, jD, jB, b1, hq, hlt]))
      exact Aw_ret (retL (M := [0, 1, 2, 3]) (.inl rfl) (by simp only [go_sem, jE, reduceIte, jA, jM, jS, jL, jD, jB]; first | done | rfl) rfl rfl (by rfl) (by simp only [go_sem, jE, reduceIte, jA, jM, jS, jL, jD, jB]; first | done | rfl | (and_intros <;> rfl)) (by decide) (by unfold idM; decide))
  | succ d ih =>
    intro s i r hi hs hr hl
    obtain ⟨q, hq⟩ : ∃ q, s.levels[i]? = some q := ⟨_, List.getElem?_eq_getElem (by rw [hs.ll]; omega)⟩
    have hqd : s.levels.getD i [] = q := by simp [List.getD, hq]
    obtain ⟨hq1, hq2⟩ := hs.lev q (List.mem_of_getElem? hq)
    have k1 := l11JoinS_ac r q (by omega) (by omega)
    have k2 := l11Trim_ac (joinM r q) s.times false (by rw [joinM_len]; omega) (by have := hs.tl; omega)
    have hsm : SmR (trimM (joinM r q) s.times false) := smR_trim (smR_join hr hq1 hl hq2) _ _
    have hlt := (List.getElem?_eq_some_iff.1 hq).1
    have b1 : decide (((i : Nat) : Int) = 2) = false := decide_eq_false (by omega)
    have w1 : IntKind.i64.wrap ((i : Int) + 1) = ((i + 1 : Nat) : Int) := wrap_succ (m := i + 1) (by omega) (by omega)
    obtain ⟨ih1, ih2⟩ := ih s (i + 1) q (by omega) hs hq1 hq2
    cases hset : setM s i (trimM (joinM r q) s.times false) with
    | some x =>
      have hM : intoM (d + 1) s i r = some x := by simp only [intoM, hqd, hset]
      rw [hM]
      refine ⟨fun s' h => ?_, fun h => by cases h⟩
      obtain rfl := Option.some.inj h
      have k3 := l12Set_ok s x i _ (by omega) (by rw [hs.ll]; omega) (by rw [hs.sl]; omega) hsm hset
      refine AC_of Tryz.func54 rfl Tryz.ntmps54 Tryz.results54 (by kernel_rfl) rfl ?_
      simp only [List.zipIdx, List.map, Nat.zero_add, Nat.reduceAdd]
      repeat (first | apply Aw_seq | apply Aw_block | apply Aw_skip | apply Aw_exit | refine Aw_condt rfl ?_ | refine Aw_condf rfl ?_ | ((first | refine qr ?_ | refine qd (by kernel_rfl) (by kernel_rfl) ?_); simp only [go_sem, jE, reduceIte, jA, jM, jS, jL, jD, jB, b1, hq, hlt]) | refine dk (by kernel_rfl) ?_ | (refine qp (k1) (by simp only [go_sem, jE, reduceIte, jA, jM, jS, jL, jD, jB, b1, hq, hlt]; first | done | rfl) rfl (by simp only [go_sem, Nat.reduceLT]) rfl rfl ?_; simp only [go_sem, jE, reduceIte, jA, jM, jS, jL, jD, jB, b1, hq, hlt]) | (refine qx (call_N (L := [3]) (k2) rfl (.cons (.nm rfl) (.cons (arg_lend (m := 3) rfl (by simp)) (.cons (.nm rfl) (.nil)))) (.inr ⟨rfl, by simp⟩) rfl) (by simp only [go_sem, jE, reduceIte, jA, jM, jS, jL, jD, jB, b1, hq, hlt]; first | done | rfl) rfl (by simp only [go_sem, Nat.reduceLT]) ?_; simp only [go_sem, jE, reduceIte, jA, jM, jS, jL, jD, jB, b1, hq, hlt]) | (refine qx (call_L (N' := [0, 1, 2, 3, 19]) (L := []) (k3) rfl (.cons (.nm rfl) (.cons (.nm rfl) (.cons (.nm rfl) (.nil)))) (by decide) (by decide) (by decide) (by simp only [go_sem, jE, reduceIte, jA, jM, jS, jL, jD, jB, b1, hq, hlt]; first | done | rfl) (.inl rfl) rfl (by decide)) (by simp only [go_sem, jE, reduceIte, jA, jM, jS, jL, jD, jB, b1, hq, hlt]; first | done | rfl) rfl (by simp only [go_sem, Nat.reduceLT]) ?_; simp only [go_sem, jE, reduceIte, jA, jM, jS, jL, jD, jB, b1, hq, hlt]))
      exact Aw_ret (retL (M := [0, 1, 2, 3]) (.inl rfl) (by simp only [go_sem, jE, reduceIte, jA, jM, jS, jL, jD, jB]; first | done | rfl) rfl rfl (by rfl) (by simp only [go_sem, jE, reduceIte, jA, jM, jS, jL, jD, jB]; first | done | rfl | (and_intros <;> rfl)) (by decide) (by unfold idM; decide))
    | none =>
      have hM : intoM (d + 1) s i r = (intoM d s (i + 1) q).bind fun s1 => setM s1 i (trimM r s1.times false) := by simp only [intoM, hqd, hset]
      rw [hM]
      have k3 := l12Set_no s i _ (by omega) hsm hset
      cases hin : intoM d s (i + 1) q with
      | none =>
        have k4 := ih2 hin
        refine ⟨fun s' h => by simp at h, fun _ => ?_⟩
        refine AC_of Tryz.func54 rfl Tryz.ntmps54 Tryz.results54 (by kernel_rfl) rfl ?_
        simp only [List.zipIdx, List.map, Nat.zero_add, Nat.reduceAdd]
        repeat (first | apply Aw_seq | apply Aw_block | apply Aw_skip | apply Aw_exit | refine Aw_condt rfl ?_ | refine Aw_condf rfl ?_ | ((first | refine qr ?_ | refine qd (by kernel_rfl) (by kernel_rfl) ?_); simp only [go_sem, jE, reduceIte, jA, jM, jS, jL, jD, jB, b1, hq, hlt, w1]) | refine dk (by kernel_rfl) ?_ | (refine qp (k1) (by simp only [go_sem, jE, reduceIte, jA, jM, jS, jL, jD, jB, b1, hq, hlt, w1]; first | done | rfl) rfl (by simp only [go_sem, Nat.reduceLT]) rfl rfl ?_; simp only [go_sem, jE, reduceIte, jA, jM, jS, jL, jD, jB, b1, hq, hlt, w1]) | (refine qx (call_N (L := [3]) (k2) rfl (.cons (.nm rfl) (.cons (arg_lend (m := 3) rfl (by simp)) (.cons (.nm rfl) (.nil)))) (.inr ⟨rfl, by simp⟩) rfl) (by simp only [go_sem, jE, reduceIte, jA, jM, jS, jL, jD, jB, b1, hq, hlt, w1]; first | done | rfl) rfl (by simp only [go_sem, Nat.reduceLT]) ?_; simp only [go_sem, jE, reduceIte, jA, jM, jS, jL, jD, jB, b1, hq, hlt, w1]) | (refine qx (call_L (N' := [0, 1, 2, 3, 19]) (L := []) (k3) rfl (.cons (.nm rfl) (.cons (.nm rfl) (.cons (.nm rfl) (.nil)))) (by decide) (by decide) (by decide) (by simp only [go_sem, jE, reduceIte, jA, jM, jS, jL, jD, jB, b1, hq, hlt, w1]; first | done | rfl) (.inl rfl) rfl (by decide)) (by simp only [go_sem, jE, reduceIte, jA, jM, jS, jL, jD, jB, b1, hq, hlt, w1]; first | done | rfl) rfl (by simp only [go_sem, Nat.reduceLT]) ?_; simp only [go_sem, jE, reduceIte, jA, jM, jS, jL, jD, jB, b1, hq, hlt, w1]) | (refine qx (call_L (N' := [0, 1, 2, 3]) (L := []) (k4) rfl (.cons (.nm rfl) (.cons (.nm rfl) (.cons (.nm rfl) (.nil)))) (by decide) (by decide) (by decide) (by simp only [go_sem, jE, reduceIte, jA, jM, jS, jL, jD, jB, b1, hq, hlt, w1]; first | done | rfl) (.inl rfl) rfl (by decide)) (by simp only [go_sem, jE, reduceIte, jA, jM, jS, jL, jD, jB, b1, hq, hlt, w1]; first | done | rfl) rfl (by simp only [go_sem, Nat.reduceLT]) ?_; simp only [go_sem, jE, reduceIte, jA, jM, jS, jL, jD, jB, b1, hq, hlt, w1]))
        exact Aw_ret (retL (M := [0, 1, 2, 3]) (.inl rfl) (by simp only [go_sem, jE, reduceIte, jA, jM, jS, jL, jD, jB]; first | done | rfl) rfl rfl (by rfl) (by simp only [go_sem, jE, reduceIte, jA, jM, jS, jL, jD, jB]; first | done | rfl | (and_intros <;> rfl)) (by decide) (by unfold idM; decide))
      | some s1 =>
        have k4 := ih1 s1 hin
        obtain ⟨g1, g2, _⟩ := intoM_sm d (by omega) hs hq1 hq2 hin
        have k5 := l11Trim_ac r s1.times false (by omega) (by have := g1.tl; omega)
        have hsm2 : SmR (trimM r s1.times false) := smR_trim hr _ _
        rw [Option.bind_some]
        cases hs2 : setM s1 i (trimM r s1.times false) with
        | none =>
          have k6 := l12Set_no s1 i _ (by omega) hsm2 hs2
          refine ⟨fun s' h => by simp at h, fun _ => ?_⟩
          refine AC_of Tryz.func54 rfl Tryz.ntmps54 Tryz.results54 (by kernel_rfl) rfl ?_
          simp only [List.zipIdx, List.map, Nat.zero_add, Nat.reduceAdd]
          repeat (first | apply Aw_seq | apply Aw_block | apply Aw_skip | apply Aw_exit | refine Aw_condt rfl ?_ | refine Aw_condf rfl ?_ | ((first | refine qr ?_ | refine qd (by kernel_rfl) (by kernel_rfl) ?_); simp only [go_sem, jE, reduceIte, jA, jM, jS, jL, jD, jB, b1, hq, hlt, w1]) | refine dk (by kernel_rfl) ?_ | (refine qp (k1) (by simp only [go_sem, jE, reduceIte, jA, jM, jS, jL, jD, jB, b1, hq, hlt, w1]; first | done | rfl) rfl (by simp only [go_sem, Nat.reduceLT]) rfl rfl ?_; simp only [go_sem, jE, reduceIte, jA, jM, jS, jL, jD, jB, b1, hq, hlt, w1]) | (refine qx (call_N (L := [3]) (k2) rfl (.cons (.nm rfl) (.cons (arg_lend (m := 3) rfl (by simp)) (.cons (.nm rfl) (.nil)))) (.inr ⟨rfl, by simp⟩) rfl) (by simp only [go_sem, jE, reduceIte, jA, jM, jS, jL, jD, jB, b1, hq, hlt, w1]; first | done | rfl) rfl (by simp only [go_sem, Nat.reduceLT]) ?_; simp only [go_sem, jE, reduceIte, jA, jM, jS, jL, jD, jB, b1, hq, hlt, w1]) | (refine qx (call_L (N' := [0, 1, 2, 3, 19]) (L := []) (k3) rfl (.cons (.nm rfl) (.cons (.nm rfl) (.cons (.nm rfl) (.nil)))) (by decide) (by decide) (by decide) (by simp only [go_sem, jE, reduceIte, jA, jM, jS, jL, jD, jB, b1, hq, hlt, w1]; first | done | rfl) (.inl rfl) rfl (by decide)) (by simp only [go_sem, jE, reduceIte, jA, jM, jS, jL, jD, jB, b1, hq, hlt, w1]; first | done | rfl) rfl (by simp only [go_sem, Nat.reduceLT]) ?_; simp only [go_sem, jE, reduceIte, jA, jM, jS, jL, jD, jB, b1, hq, hlt, w1]) | (refine qx (call_L (N' := [0, 1, 2, 3]) (L := []) (k4) rfl (.cons (.nm rfl) (.cons (.nm rfl) (.cons (.nm rfl) (.nil)))) (by decide) (by decide) (by decide) (by simp only [go_sem, jE, reduceIte, jA, jM, jS, jL, jD, jB, b1, hq, hlt, w1]; first | done | rfl) (.inl rfl) rfl (by decide)) (by simp only [go_sem, jE, reduceIte, jA, jM, jS, jL, jD, jB, b1, hq, hlt, w1]; first | done | rfl) rfl (by simp only [go_sem, Nat.reduceLT]) ?_; simp only [go_sem, jE, reduceIte, jA, jM, jS, jL, jD, jB, b1, hq, hlt, w1]) | (refine qx (call_N (L := [3]) (k5) rfl (.cons (.nm rfl) (.cons (arg_lend (m := 3) rfl (by simp)) (.cons (.nm rfl) (.nil)))) (.inr ⟨rfl, by simp⟩) rfl) (by simp only [go_sem, jE, reduceIte, jA, jM, jS, jL, jD, jB, b1, hq, hlt, w1]; first | done | rfl) rfl (by simp only [go_sem, Nat.reduceLT]) ?_; simp only [go_sem, jE, reduceIte, jA, jM, jS, jL, jD, jB, b1, hq, hlt, w1]) | (refine qx (call_L (N' := [0, 1, 2, 3, 56]) (L := []) (k6) rfl (.cons (.nm rfl) (.cons (.nm rfl) (.cons (.nm rfl) (.nil)))) (by decide) (by decide) (by decide) (by simp only [go_sem, jE, reduceIte, jA, jM, jS, jL, jD, jB, b1, hq, hlt, w1]; first | done | rfl) (.inl rfl) rfl (by decide)) (by simp only [go_sem, jE, reduceIte, jA, jM, jS, jL, jD, jB, b1, hq, hlt, w1]; first | done | rfl) rfl (by simp only [go_sem, Nat.reduceLT]) ?_; simp only [go_sem, jE, reduceIte, jA, jM, jS, jL, jD, jB, b1, hq, hlt, w1]))
          exact Aw_ret (retL (M := [0, 1, 2, 3]) (.inl rfl) (by simp only [go_sem, jE, reduceIte, jA, jM, jS, jL, jD, jB]; first | done | rfl) rfl rfl (by rfl) (by simp only [go_sem, jE, reduceIte, jA, jM, jS, jL, jD, jB]; first | done | rfl | (and_intros <;> rfl)) (by decide) (by unfold idM; decide))
        | some s2 =>
          have k6 := l12Set_ok s1 s2 i _ (by omega) (by rw [g1.ll]; omega) (by rw [g1.sl]; omega) hsm2 hs2
          refine ⟨fun s' h => ?_, fun h => by cases h⟩
          obtain rfl := Option.some.inj h
          refine AC_of Tryz.func54 rfl Tryz.ntmps54 Tryz.results54 (by kernel_rfl) rfl ?_
          simp only [List.zipIdx, List.map, Nat.zero_add, Nat.reduceAdd]
          repeat (first | apply Aw_seq | apply Aw_block | apply Aw_skip | apply Aw_exit | refine Aw_condt rfl ?_ | refine Aw_condf rfl ?_ | ((first | refine qr ?_ | refine qd (by kernel_rfl) (by kernel_rfl) ?_); simp only [go_sem, jE, reduceIte, jA, jM, jS, jL, jD, jB, b1, hq, hlt, w1]) | refine dk (by kernel_rfl) ?_ | (refine qp (k1) (by simp only [go_sem, jE, reduceIte, jA, jM, jS, jL, jD, jB, b1, hq, hlt, w1]; first | done | rfl) rfl (by simp only [go_sem, Nat.reduceLT]) rfl rfl ?_; simp only [go_sem, jE, reduceIte, jA, jM, jS, jL, jD, jB, b1, hq, hlt, w1]) | (refine qx (call_N (L := [3]) (k2) rfl (.cons (.nm rfl) (.cons (arg_lend (m := 3) rfl (by simp)) (.cons (.nm rfl) (.nil)))) (.inr ⟨rfl, by simp⟩) rfl) (by simp only [go_sem, jE, reduceIte, jA, jM, jS, jL, jD, jB, b1, hq, hlt, w1]; first | done | rfl) rfl (by simp only [go_sem, Nat.reduceLT]) ?_; simp only [go_sem, jE, reduceIte, jA, jM, jS, jL, jD, jB, b1, hq, hlt, w1]) | (refine qx (call_L (N' := [0, 1, 2, 3, 19]) (L := []) (k3) rfl (.cons (.nm rfl) (.cons (.nm rfl) (.cons (.nm rfl) (.nil)))) (by decide) (by decide) (by decide) (by simp only [go_sem, jE, reduceIte, jA, jM, jS, jL, jD, jB, b1, hq, hlt, w1]; first | done | rfl) (.inl rfl) rfl (by decide)) (by simp only [go_sem, jE, reduceIte, jA, jM, jS, jL, jD, jB, b1, hq, hlt, w1]; first | done | rfl) rfl (by simp only [go_sem, Nat.reduceLT]) ?_; simp only [go_sem, jE, reduceIte, jA, jM, jS, jL, jD, jB, b1, hq, hlt, w1]) | (refine qx (call_L (N' := [0, 1, 2, 3]) (L := []) (k4) rfl (.cons (.nm rfl) (.cons (.nm rfl) (.cons (.nm rfl) (.nil)))) (by decide) (by decide) (by decide) (by simp only [go_sem, jE, reduceIte, jA, jM, jS, jL, jD, jB, b1, hq, hlt, w1]; first | done | rfl) (.inl rfl) rfl (by decide)) (by simp only [go_sem, jE, reduceIte, jA, jM, jS, jL, jD, jB, b1, hq, hlt, w1]; first | done | rfl) rfl (by simp only [go_sem, Nat.reduceLT]) ?_; simp only [go_sem, jE, reduceIte, jA, jM, jS, jL, jD, jB, b1, hq, hlt, w1]) | (refine qx (call_N (L := [3]) (k5) rfl (.cons (.nm rfl) (.cons (arg_lend (m := 3) rfl (by simp)) (.cons (.nm rfl) (.nil)))) (.inr ⟨rfl, by simp⟩) rfl) (by simp only [go_sem, jE, reduceIte, jA, jM, jS, jL, jD, jB, b1, hq, hlt, w1]; first | done | rfl) rfl (by simp only [go_sem, Nat.reduceLT]) ?_; simp only [go_sem, jE, reduceIte, jA, jM, jS, jL, jD, jB, b1, hq, hlt, w1]) | (refine qx (call_L (N' := [0, 1, 2, 3, 56]) (L := []) (k6) rfl (.cons (.nm rfl) (.cons (.nm rfl) (.cons (.nm rfl) (.nil)))) (by decide) (by decide) (by decide) (by simp only [go_sem, jE, reduceIte, jA, jM, jS, jL, jD, jB, b1, hq, hlt, w1]; first | done | rfl) (.inl rfl) rfl (by decide)) (by simp only [go_sem, jE, reduceIte, jA, jM, jS, jL, jD, jB, b1, hq, hlt, w1]; first | done | rfl) rfl (by simp only [go_sem, Nat.reduceLT]) ?_; simp only [go_sem, jE, reduceIte, jA, jM, jS, jL, jD, jB, b1, hq, hlt, w1]))
          exact Aw_ret (retL (M := [0, 1, 2, 3]) (.inl rfl) (by simp only [go_sem, jE, reduceIte, jA, jM, jS, jL, jD, jB]; first | done | rfl) rfl rfl (by rfl) (by simp only [go_sem, jE, reduceIte, jA, jM, jS, jL, jD, jB]; first | done | rfl | (and_intros <;> rfl)) (by decide) (by unfold idM; decide))
def zO : Obj := ⟨33, 6, false, [[.d (.s (.slice none 0 0)), .d (.s (.slice none 0 0)), .d (.s (.slice none 0 0)), .d (.s (.int .i64 0)), .d (.s (.int .i64 0)), .d (.s (.slice none 0 0))]]⟩
@[go_sem] theorem r_zO : zO = ⟨33, 6, false, [[.d (.s (.slice none 0 0)), .d (.s (.slice none 0 0)), .d (.s (.slice none 0 0)), .d (.s (.int .i64 0)), .d (.s (.int .i64 0)), .d (.s (.slice none 0 0))]]⟩ := rfl
def hS5 (s : Sto) : List (Option Obj) := [some (lvRow s.levels), some (svRow s.sieves), none, some (tmRow s.times), some (eRow s.top)]
@[go_sem] theorem r_hS5 (s : Sto) : hS5 s = [some (dRow 29 1 (s.levels.map lvD)), some (dRow 82 5 (s.sieves.map sveD)), none, some (dRow 3 1 (s.times.map intD)), some (dRow 56 4 (s.top.map entD))] := rfl
theorem runOk_len {r : List Ent} (h : runOk r = true) : r.length ≤ 40 := by
  unfold runOk at h; rw [Bool.and_eq_true] at h; exact of_decide_eq_true h.2
theorem storeS_facts {s : Sto} (h : storeS s = true) : s.levels.length = 3 ∧ s.sieves.length = 3 ∧ s.top.length ≤ 4 ∧ s.times.length ≤ 3 ∧ (∀ r ∈ s.levels, r.length ≤ 40) ∧ inB 0 s.time 999 = true ∧ inB 0 s.keep 5 = true := by
  unfold storeS headS at h
  simp only [Bool.and_eq_true] at h
  obtain ⟨⟨⟨⟨⟨⟨⟨h1, h2⟩, h3⟩, h4⟩, h5⟩, h6⟩, h7⟩, h8⟩ := h
  have hl := of_decide_eq_true h1
  have hsl := of_decide_eq_true h2
  refine ⟨hl, hsl, of_decide_eq_true h7, ?_, ?_, h4, h3⟩
  · unfold timesM at h5; rw [Bool.and_eq_true] at h5; exact of_decide_eq_true h5.2
  · intro r hr
    obtain ⟨i, hi⟩ := List.mem_iff_getElem?.1 hr
    have hil := (List.getElem?_eq_some_iff.1 hi).1
    have := allI_iff.1 h8 i (by omega)
    unfold sAt at this
    obtain ⟨x, hx⟩ : ∃ x, s.sieves[i]? = some x := ⟨_, List.getElem?_eq_getElem (by omega)⟩
    rw [hi, hx] at this
    simp only [Bool.and_eq_true] at this
    have l := this.1.1
    unfold lvM at l
    simp only [Bool.and_eq_true] at l
    exact runOk_len l.1.1.1
theorem valid_sm {s : Sto} (hs : SmSt s) (h : storeS s = true) : SmH s := by
  obtain ⟨h1, h2, h3, h4, h5, _⟩ := storeS_facts h
  exact ⟨h1, h2, fun r hr => ⟨hs.lev r hr, by have := h5 r hr; omega⟩, by omega⟩
theorem copyV_ac (s : Sto) (hs : SmSt s) (hv : storeS s = true) : AC Tryz.prog 50 [stT s] noHp 0 ⟨.t (hT s), hpL (hS s), 4⟩ := by
  obtain ⟨h1, h2, h3, h4, h5, _⟩ := storeS_facts hv
  obtain ⟨top, levels, sieves, keep, time, times⟩ := s
  dsimp only at h1 h2 h3 h4 h5
  obtain ⟨a, b, c, rfl⟩ := len3 h1
  obtain ⟨x, y, z, rfl⟩ := len3 h2
  have q1 := h5 a (by simp); have q2 := h5 b (by simp); have q3 := h5 c (by simp)
  exact l12CopyS_ac top a b c x y z keep time times (by omega) (by omega) (by omega) (by omega) (hs.rl x (by simp)) (hs.rl y (by simp)) (hs.rl z (by simp)) (by omega)
theorem newer_iff {a b : List Ent} : newerM a b = true ↔ ∀ x ∈ a, ∀ y ∈ b, x.key = y.key → y.time < x.time := by
  unfold newerM
  rw [List.all_eq_true]
  constructor
  · intro h x hx y hy hk
    have := List.all_eq_true.1 (h x hx) y hy
    unfold older at this
    simp [hk] at this
    exact this
  · intro h x hx
    rw [List.all_eq_true]
    intro y hy
    unfold older
    by_cases hk : x.key = y.key
    · have := h x hx y hy hk
      simp [hk]; omega
    · simp [hk]
/-- Levels as they are in a store that is one. -/
structure LvOk (s : Sto) : Prop where
  run : ∀ i, i < 3 → runOk (s.levels.getD i []) = true ∧ (s.levels.getD i []).length ≤ 8 * (i + 1)
  newer : ∀ i k, i < k → k < 3 → newerM (s.levels.getD i []) (s.levels.getD k []) = true
theorem lv_of {s : Sto} (h : storeS s = true) : LvOk s ∧ runOk s.top = true ∧ s.top.length ≤ 4 ∧ (∀ i, i < 3 → newerM s.top (s.levels.getD i []) = true) ∧ (∀ e ∈ s.top, e.time ≤ s.time) := by
  unfold storeS headS at h
  simp only [Bool.and_eq_true] at h
  obtain ⟨⟨⟨⟨⟨⟨⟨h1, h2⟩, h3⟩, h4⟩, h5⟩, h6⟩, h7⟩, h8⟩ := h
  have hl := of_decide_eq_true h1
  have hsl := of_decide_eq_true h2
  have key : ∀ i, i < 3 → runOk (s.levels.getD i []) = true ∧ (s.levels.getD i []).length ≤ 8 * (i + 1) ∧ newestM s.top (s.levels.getD i []) s.time = true ∧ ∀ k, i < k → k < 3 → newestM (s.levels.getD i []) (s.levels.getD k []) s.time = true := by
    intro i hi
    have := allI_iff.1 h8 i hi
    unfold sAt at this
    obtain ⟨r, hr⟩ : ∃ r, s.levels[i]? = some r := ⟨_, List.getElem?_eq_getElem (by omega)⟩
    obtain ⟨x, hx⟩ : ∃ x, s.sieves[i]? = some x := ⟨_, List.getElem?_eq_getElem (by omega)⟩
    have e : s.levels.getD i [] = r := by simp [List.getD, hr]
    rw [hr, hx] at this
    simp only [Bool.and_eq_true] at this
    have hlv := this.1.1
    unfold lvM at hlv
    simp only [Bool.and_eq_true] at hlv
    rw [e]
    refine ⟨hlv.1.1.1, of_decide_eq_true hlv.1.1.2, this.1.2, fun k hk hk3 => ?_⟩
    have hp := allI_iff.1 this.2 k hk3
    rw [decide_eq_false (by omega : ¬ k ≤ i), Bool.false_or] at hp
    unfold sPair at hp
    obtain ⟨q, hq⟩ : ∃ q, s.levels[k]? = some q := ⟨_, List.getElem?_eq_getElem (by omega)⟩
    have e2 : s.levels.getD k [] = q := by simp [List.getD, hq]
    rw [hr, hq] at hp
    rw [e2]; exact hp
  refine ⟨⟨fun i hi => ⟨(key i hi).1, (key i hi).2.1⟩, fun i k hik hk => ?_⟩, h6, of_decide_eq_true h7, fun i hi => ?_, ?_⟩
  · exact ((newest_iff (key k hk).1).1 ((key i (by omega)).2.2.2 k hik hk)).2
  · exact ((newest_iff (key i hi).1).1 (key i hi).2.2.1).2
  · exact ((newest_iff (key 0 (by omega)).1).1 (key 0 (by omega)).2.2.1).1
/-- A run, by its pairs. -/
theorem run_mk {r : List Ent} (h : r.Pairwise fun a b => before a b = true) (hk : ∀ e ∈ r, entOk e = true) (hl : r.length ≤ 40) : runOk r = true := by
  rw [runOk_end, decide_eq_true (by omega)]
  intro j hj
  unfold okAt
  rw [List.getElem?_eq_getElem hj]
  simp only [Bool.and_eq_true]
  refine ⟨hk _ (List.getElem_mem hj), ?_⟩
  cases j with
  | zero => rfl
  | succ j =>
    simp only
    rw [List.getElem?_eq_getElem (by omega)]
    exact List.pairwise_iff_getElem.1 h j (j + 1) (by omega) hj (by omega)
theorem before_of {x y : Ent} (h : before x y = false) (hn : x.key = y.key → y.time < x.time) : before y x = true := by
  rw [bef_iff]
  by_cases e : x.key = y.key
  · have := (bef_iff x y).2 (.inr ⟨e, hn e⟩)
    rw [h] at this; cases this
  · refine .inl ?_
    cases c : klt x.key y.key
    · exact klt_total c e
    · have := (bef_iff x y).2 (.inl c)
      rw [h] at this; cases this
theorem join_pw : ∀ {a b : List Ent}, a.Pairwise (fun x y => before x y = true) → b.Pairwise (fun x y => before x y = true) → (∀ x ∈ a, ∀ y ∈ b, x.key = y.key → y.time < x.time) → (joinM a b).Pairwise (fun x y => before x y = true)
  | [], b, _, hb, _ => by unfold joinM; rw [List.nil_merge]; exact hb
  | x :: a, [], ha, _, _ => by rw [joinM_nil]; exact ha
  | x :: a, y :: b, ha, hb, h => by
    rw [joinM_cc]
    obtain ⟨a1, a2⟩ := List.pairwise_cons.1 ha
    obtain ⟨b1, b2⟩ := List.pairwise_cons.1 hb
    cases c : before x y
    · have d := before_of c (h x (by simp) y (by simp))
      simp only [Bool.false_eq_true, if_false]
      refine List.pairwise_cons.2 ⟨fun z hz => ?_, join_pw ha b2 fun p hp q hq => h p hp q (List.mem_cons_of_mem _ hq)⟩
      rcases mem_joinM hz with h | h
      · rcases List.mem_cons.1 h with rfl | h
        · exact d
        · exact before_trans d (a1 z h)
      · exact b1 z h
    · simp only [if_true]
      refine List.pairwise_cons.2 ⟨fun z hz => ?_, join_pw a2 hb fun p hp q hq => h p (List.mem_cons_of_mem _ hp) q hq⟩
      rcases mem_joinM hz with h | h
      · exact a1 z h
      · rcases List.mem_cons.1 h with rfl | h
        · exact c
        · exact before_trans c (b1 z h)
termination_by a b => a.length + b.length
theorem join_run {a b : List Ent} (ha : runOk a = true) (hb : runOk b = true) (h : newerM a b = true) (hl : a.length + b.length ≤ 40) : runOk (joinM a b) = true := by
  obtain ⟨a1, a2, _⟩ := run_pw ha
  obtain ⟨b1, b2, _⟩ := run_pw hb
  refine run_mk (join_pw a1 b1 (newer_iff.1 h)) (fun e he => ?_) (by rw [joinM_len]; exact hl)
  exact (mem_joinM he).elim (a2 e) (b2 e)
theorem keysOfS_ac (r : List Ent) (hs : SmR r) : AC Tryz.prog 68 [runT r] noHp 0 ⟨.t (strsT (keysM r)), noHp, 0⟩ := AC.settle0 [0] (keysOf_ac r hs) (SetC.row0 rfl rfl) rfl
/-- A store in a variable: its levels and sieves are rows of its own. -/
def pO (s : Sto) : Obj := ⟨33, 6, false, [[.d (.rs 4 (s.top.map entD)), .h 1, .h 2, .d (.s (.int .i64 s.keep)), .d (.s (.int .i64 s.time)), .d (.rs 1 (s.times.map intD))]]⟩
@[go_sem] theorem r_pO (s : Sto) : pO s = ⟨33, 6, false, [[.d (.rs 4 (s.top.map entD)), .h 1, .h 2, .d (.s (.int .i64 s.keep)), .d (.s (.int .i64 s.time)), .d (.rs 1 (s.times.map intD))]]⟩ := rfl
def pH (s : Sto) : List (Option Obj) := [some (pO s), some (lvRow s.levels), some (svRow s.sieves)]
@[go_sem] theorem r_pH (s : Sto) : pH s = [some (pO s), some (lvRow s.levels), some (svRow s.sieves)] := rfl
theorem put_no (s : Sto) (i : Nat) (r : List Ent) (hi : i ≤ 1000) (hr : SmR r) (h : setM s i r = none) : AC Tryz.prog 58 [.c (.ph 0 0 0), iT i, runT r] (hpL (pH s)) 3 ⟨.t (bT false), hpL (pH s), 3⟩ := by
  have k1 := keysOfS_ac r hr
  have k2 := sieveS_ac (keysM r) s.keep (smS_keys hr)
  have k4 := room_ac i hi
  cases hm : sieveM (keysM r) s.keep with
  | none =>
    rw [hm] at k2
    refine AC_of Tryz.func58 rfl Tryz.ntmps58 Tryz.results58 (by kernel_rfl) rfl ?_
    simp only [List.zipIdx, List.map, Nat.zero_add, Nat.reduceAdd]
    repeat (first | apply Aw_seq | apply Aw_block | apply Aw_skip | apply Aw_exit | refine Aw_condt rfl ?_ | refine Aw_condf rfl ?_ | ((first | refine qr ?_ | refine qd (by kernel_rfl) (by kernel_rfl) ?_); simp only [go_sem, jE, reduceIte, jA, jM, jS, jL, jD, jB]) | refine dk (by kernel_rfl) ?_ | (refine qp (k1) (by simp only [go_sem, jE, reduceIte, jA, jM, jS, jL, jD, jB]; first | done | rfl) rfl (by simp only [go_sem, Nat.reduceLT]) rfl rfl ?_; simp only [go_sem, jE, reduceIte, jA, jM, jS, jL, jD, jB]) | (refine qp (k2) (by simp only [go_sem, jE, reduceIte, jA, jM, jS, jL, jD, jB]; first | done | rfl) rfl (by simp only [go_sem, Nat.reduceLT]) rfl rfl ?_; simp only [go_sem, jE, reduceIte, jA, jM, jS, jL, jD, jB]))
    exact Aw_ret (retL (M := [0, 1, 2]) (.inl rfl) (by simp only [go_sem, jE, reduceIte, jA, jM, jS, jL, jD, jB]; first | done | rfl) rfl rfl (by rfl) (by simp only [go_sem, jE, reduceIte, jA, jM, jS, jL, jD, jB]; first | done | rfl | (and_intros <;> rfl)) (by decide) (by unfold idM; decide))
  | some x =>
    rw [hm] at k2
    have k2 : AC Tryz.prog 94 [strsT (keysM r), iT s.keep] noHp 0 ⟨.tup [sveP x, bT true], noHp, 0⟩ := k2
    have h1 : decide (((8 * (i + 1) : Nat) : Int) < (r.length : Int)) = true := decide_eq_true (by unfold setM at h; rw [hm] at h; simp at h; omega)
    refine AC_of Tryz.func58 rfl Tryz.ntmps58 Tryz.results58 (by kernel_rfl) rfl ?_
    simp only [List.zipIdx, List.map, Nat.zero_add, Nat.reduceAdd]
    repeat (first | apply Aw_seq | apply Aw_block | apply Aw_skip | apply Aw_exit | refine Aw_condt rfl ?_ | refine Aw_condf rfl ?_ | ((first | refine qr ?_ | refine qd (by kernel_rfl) (by kernel_rfl) ?_); simp only [go_sem, jE, reduceIte, jA, jM, jS, jL, jD, jB, h1]) | refine dk (by kernel_rfl) ?_ | (refine qp (k1) (by simp only [go_sem, jE, reduceIte, jA, jM, jS, jL, jD, jB, h1]; first | done | rfl) rfl (by simp only [go_sem, Nat.reduceLT]) rfl rfl ?_; simp only [go_sem, jE, reduceIte, jA, jM, jS, jL, jD, jB, h1]) | (refine qp (k2) (by simp only [go_sem, jE, reduceIte, jA, jM, jS, jL, jD, jB, h1]; first | done | rfl) rfl (by simp only [go_sem, Nat.reduceLT]) rfl rfl ?_; simp only [go_sem, jE, reduceIte, jA, jM, jS, jL, jD, jB, h1]) | (refine qp (k4) (by simp only [go_sem, jE, reduceIte, jA, jM, jS, jL, jD, jB, h1]; first | done | rfl) rfl (by simp only [go_sem, Nat.reduceLT]) rfl rfl ?_; simp only [go_sem, jE, reduceIte, jA, jM, jS, jL, jD, jB, h1]))
    exact Aw_ret (retL (M := [0, 1, 2]) (.inl rfl) (by simp only [go_sem, jE, reduceIte, jA, jM, jS, jL, jD, jB]; first | done | rfl) rfl rfl (by rfl) (by simp only [go_sem, jE, reduceIte, jA, jM, jS, jL, jD, jB]; first | done | rfl | (and_intros <;> rfl)) (by decide) (by unfold idM; decide))
theorem put_ok (s s' : Sto) (i : Nat) (r : List Ent) (hi : i ≤ 1000) (hl : i < s.levels.length) (hv : i < s.sieves.length) (hr : SmR r) (h : setM s i r = some s') : AC Tryz.prog 58 [.c (.ph 0 0 0), iT i, runT r] (hpL (pH s)) 3 ⟨.t (bT true), hpL (pH s'), 3⟩ := by
  have k1 := keysOfS_ac r hr
  have k2 := sieveS_ac (keysM r) s.keep (smS_keys hr)
  have k4 := room_ac i hi
  unfold setM at h
  cases hm : sieveM (keysM r) s.keep with
  | none => rw [hm] at h; cases h
  | some x =>
    rw [hm] at h k2
    have k2 : AC Tryz.prog 94 [strsT (keysM r), iT s.keep] noHp 0 ⟨.tup [sveP x, bT true], noHp, 0⟩ := k2
    by_cases hc : r.length ≤ 8 * (i + 1)
    · simp only [if_pos hc, Option.some.injEq] at h
      subst h
      have h1 : decide (((8 * (i + 1) : Nat) : Int) < (r.length : Int)) = false := decide_eq_false (by omega)
      obtain ⟨e1, he1⟩ : ∃ e, s.levels[i]? = some e := ⟨_, List.getElem?_eq_getElem hl⟩
      obtain ⟨e2, he2⟩ : ∃ e, s.sieves[i]? = some e := ⟨_, List.getElem?_eq_getElem hv⟩
      refine AC_of Tryz.func58 rfl Tryz.ntmps58 Tryz.results58 (by kernel_rfl) rfl ?_
      simp only [List.zipIdx, List.map, Nat.zero_add, Nat.reduceAdd]
      repeat (first | apply Aw_seq | apply Aw_block | apply Aw_skip | apply Aw_exit | refine Aw_condt rfl ?_ | refine Aw_condf rfl ?_ | ((first | refine qr ?_ | refine qd (by kernel_rfl) (by kernel_rfl) ?_); simp only [go_sem, jE, reduceIte, jA, jM, jS, jL, jD, jB, h1, hl, hv, he1, he2]) | refine dk (by kernel_rfl) ?_ | (refine qp (k1) (by simp only [go_sem, jE, reduceIte, jA, jM, jS, jL, jD, jB, h1, hl, hv, he1, he2]; first | done | rfl) rfl (by simp only [go_sem, Nat.reduceLT]) rfl rfl ?_; simp only [go_sem, jE, reduceIte, jA, jM, jS, jL, jD, jB, h1, hl, hv, he1, he2]) | (refine qp (k2) (by simp only [go_sem, jE, reduceIte, jA, jM, jS, jL, jD, jB, h1, hl, hv, he1, he2]; first | done | rfl) rfl (by simp only [go_sem, Nat.reduceLT]) rfl rfl ?_; simp only [go_sem, jE, reduceIte, jA, jM, jS, jL, jD, jB, h1, hl, hv, he1, he2]) | (refine qp (k4) (by simp only [go_sem, jE, reduceIte, jA, jM, jS, jL, jD, jB, h1, hl, hv, he1, he2]; first | done | rfl) rfl (by simp only [go_sem, Nat.reduceLT]) rfl rfl ?_; simp only [go_sem, jE, reduceIte, jA, jM, jS, jL, jD, jB, h1, hl, hv, he1, he2]))
      exact Aw_ret (retL (M := [0, 1, 2]) (.inl rfl) (by simp only [go_sem, jE, reduceIte, jA, jM, jS, jL, jD, jB]; first | done | rfl) rfl rfl (by rfl) (by simp only [go_sem, jE, reduceIte, jA, jM, jS, jL, jD, jB, set_lv, set_sv]; first | done | rfl | (and_intros <;> rfl)) (by decide) (by unfold idM; decide))
    · simp [hc] at h
theorem joinI_run {a b : List Ent} (ha : runOk a = true) (hb : runOk b = true) (h : newerM a b = true) (hl : a.length + b.length ≤ 40) : joinI a b = some (joinM a b) := by
  unfold joinI
  rw [ha, hb, join_run ha hb h hl]; rfl
theorem push_ac : ∀ (d : Nat) (s : Sto) (i : Nat) (r : List Ent), i + d = 2 → SmH s → LvOk s → SmR r → runOk r = true → r.length ≤ 16 → newerM r (s.levels.getD i []) = true →
    (∀ s', intoM d s i r = some s' → AC Tryz.prog 57 [.c (.ph 0 0 0), iT i, runT r] (hpL (pH s)) 3 ⟨.t (bT true), hpL (pH s'), 3⟩) ∧
    (intoM d s i r = none → AC Tryz.prog 57 [.c (.ph 0 0 0), iT i, runT r] (hpL (pH s)) 3 ⟨.t (bT false), hpL [none, none, none], 3⟩) := by
  intro d
  induction d with
  | zero =>
    intro s i r hi hs hv hr hro hl hn
    obtain rfl : i = 2 := by omega
    obtain ⟨q, hq⟩ : ∃ q, s.levels[2]? = some q := ⟨_, List.getElem?_eq_getElem (by rw [hs.ll]; omega)⟩
    have hqd : s.levels.getD 2 [] = q := by simp [List.getD, hq]
    obtain ⟨hq1, hq2⟩ := hs.lev q (List.mem_of_getElem? hq)
    obtain ⟨v1, v2⟩ := hv.run 2 (by omega)
    rw [hqd] at v1 v2 hn
    have hj := join_run hro v1 hn (by omega)
    have k1 := runJoinS_ac r q hr hq1
    rw [joinI_run hro v1 hn (by omega)] at k1
    have k1 : AC Tryz.prog 82 [runT r, runT q] noHp 0 ⟨.tup [runT (joinM r q), bT true], noHp, 0⟩ := k1
    have hsj := smR_join hr hq1 (by omega) (by omega)
    have htl := hs.tl
    have k2 := runTrimS_ac (joinM r q) s.times true hsj hj (by omega)
    have hsm : SmR (trimM (joinM r q) s.times true) := smR_trim hsj _ _
    have hlt := (List.getElem?_eq_some_iff.1 hq).1
    have b1 : decide (((2 : Nat) : Int) = 2) = true := rfl
    constructor
    · intro s' h
      simp only [intoM, hqd] at h
      have k3 := put_ok s s' 2 _ (by omega) (by rw [hs.ll]; omega) (by rw [hs.sl]; omega) hsm h
      refine AC_of Tryz.func57 rfl Tryz.ntmps57 Tryz.results57 (by kernel_rfl) rfl ?_
      simp only [List.zipIdx, List.map, Nat.zero_add, Nat.reduceAdd]
      repeat (first | apply Aw_seq | apply Aw_block | apply Aw_skip | apply Aw_exit | refine Aw_condt rfl ?_ | refine Aw_condf rfl ?_ | ((first | refine qr ?_ | refine qd (by kernel_rfl) (by kernel_rfl) ?_); simp only [go_sem, jE, reduceIte, jA, jM, jS, jL, jD, jB, b1, hq, hlt]) | refine dk (by kernel_rfl) ?_ | (refine qp (k1) (by simp only [go_sem, jE, reduceIte, jA, jM, jS, jL, jD, jB, b1, hq, hlt]; first | done | rfl) rfl (by simp only [go_sem, Nat.reduceLT]) rfl rfl ?_; simp only [go_sem, jE, reduceIte, jA, jM, jS, jL, jD, jB, b1, hq, hlt]) | (refine qp (k2) (by simp only [go_sem, jE, reduceIte, jA, jM, jS, jL, jD, jB, b1, hq, hlt]; first | done | rfl) rfl (by simp only [go_sem, Nat.reduceLT]) rfl rfl ?_; simp only [go_sem, jE, reduceIte, jA, jM, jS, jL, jD, jB, b1, hq, hlt]) | (refine qx (call_L (N' := [0, 1, 2]) (L := []) (k3) rfl (.cons (.nm rfl) (.cons (.nm rfl) (.cons (.nm rfl) (.nil)))) (by decide) (by decide) (by decide) (by simp only [go_sem, jE, reduceIte, jA, jM, jS, jL, jD, jB, b1, hq, hlt]; first | done | rfl) (.inl rfl) rfl (by decide)) (by simp only [go_sem, jE, reduceIte, jA, jM, jS, jL, jD, jB, b1, hq, hlt]; first | done | rfl) rfl (by simp only [go_sem, Nat.reduceLT]) ?_; simp only [go_sem, jE, reduceIte, jA, jM, jS, jL, jD, jB, b1, hq, hlt]))
      exact Aw_ret (retL (M := [0, 1, 2]) (.inl rfl) (by simp only [go_sem, jE, reduceIte, jA, jM, jS, jL, jD, jB]; first | done | rfl) rfl rfl (by rfl) (by simp only [go_sem, jE, reduceIte, jA, jM, jS, jL, jD, jB]; first | done | rfl | (and_intros <;> rfl)) (by decide) (by unfold idM; decide))
    · intro h
      simp only [intoM, hqd] at h
      have k3 := put_no s 2 _ (by omega) hsm h
      refine AC_of Tryz.func57 rfl Tryz.ntmps57 Tryz.results57 (by kernel_rfl) rfl ?_
      simp only [List.zipIdx, List.map, Nat.zero_add, Nat.reduceAdd]
      repeat (first | apply Aw_seq | apply Aw_block | apply Aw_skip | apply Aw_exit | refine Aw_condt rfl ?_ | refine Aw_condf rfl ?_ | ((first | refine qr ?_ | refine qd (by kernel_rfl) (by kernel_rfl) ?_); simp only [go_sem, jE, reduceIte, jA, jM, jS, jL, jD, jB, b1, hq, hlt]) | refine dk (by kernel_rfl) ?_ | (refine qp (k1) (by simp only [go_sem, jE, reduceIte, jA, jM, jS, jL, jD, jB, b1, hq, hlt]; first | done | rfl) rfl (by simp only [go_sem, Nat.reduceLT]) rfl rfl ?_; simp only [go_sem, jE, reduceIte, jA, jM, jS, jL, jD, jB, b1, hq, hlt]) | (refine qp (k2) (by simp only [go_sem, jE, reduceIte, jA, jM, jS, jL, jD, jB, b1, hq, hlt]; first | done | rfl) rfl (by simp only [go_sem, Nat.reduceLT]) rfl rfl ?_; simp only [go_sem, jE, reduceIte, jA, jM, jS, jL, jD, jB, b1, hq, hlt]) | (refine qx (call_L (N' := [0, 1, 2]) (L := []) (k3) rfl (.cons (.nm rfl) (.cons (.nm rfl) (.cons (.nm rfl) (.nil)))) (by decide) (by decide) (by decide) (by simp only [go_sem, jE, reduceIte, jA, jM, jS, jL, jD, jB, b1, hq, hlt]; first | done | rfl) (.inl rfl) rfl (by decide)) (by simp only [go_sem, jE, reduceIte, jA, jM, jS, jL, jD, jB, b1, hq, hlt]; first | done | rfl) rfl (by simp only [go_sem, Nat.reduceLT]) ?_; simp only [go_sem, jE, reduceIte, jA, jM, jS, jL, jD, jB, b1, hq, hlt]))
      exact Aw_ret (retL (M := [0, 1, 2]) (.inl rfl) (by simp only [go_sem, jE, reduceIte, jA, jM, jS, jL, jD, jB]; first | done | rfl) rfl rfl (by rfl) (by simp only [go_sem, jE, reduceIte, jA, jM, jS, jL, jD, jB]; first | done | rfl | (and_intros <;> rfl)) (by decide) (by unfold idM; decide))
  | succ d ih =>
    intro s i r hi hs hv hr hro hl hn
    obtain ⟨q, hq⟩ : ∃ q, s.levels[i]? = some q := ⟨_, List.getElem?_eq_getElem (by rw [hs.ll]; omega)⟩
    have hqd : s.levels.getD i [] = q := by simp [List.getD, hq]
    obtain ⟨hq1, hq2⟩ := hs.lev q (List.mem_of_getElem? hq)
    obtain ⟨v1, v2⟩ := hv.run i (by omega)
    have hnq := hv.newer i (i + 1) (by omega) (by omega)
    rw [hqd] at v1 v2 hn hnq
    have hj := join_run hro v1 hn (by omega)
    have k1 := runJoinS_ac r q hr hq1
    rw [joinI_run hro v1 hn (by omega)] at k1
    have k1 : AC Tryz.prog 82 [runT r, runT q] noHp 0 ⟨.tup [runT (joinM r q), bT true], noHp, 0⟩ := k1
    have hsj := smR_join hr hq1 (by omega) (by omega)
    have htl := hs.tl
    have k2 := runTrimS_ac (joinM r q) s.times false hsj hj (by omega)
    have hsm : SmR (trimM (joinM r q) s.times false) := smR_trim hsj _ _
    have hlt := (List.getElem?_eq_some_iff.1 hq).1
    have b1 : decide (((i : Nat) : Int) = 2) = false := decide_eq_false (by omega)
    have w1 : IntKind.i64.wrap ((i : Int) + 1) = ((i + 1 : Nat) : Int) := wrap_succ (m := i + 1) (by omega) (by omega)
    obtain ⟨ih1, ih2⟩ := ih s (i + 1) q (by omega) hs hv hq1 v1 (by omega) hnq
    cases hset : setM s i (trimM (joinM r q) s.times false) with
    | some x =>
      refine ⟨fun s' h => ?_, fun h => ?_⟩
      · simp only [intoM, hqd, hset, Option.some.injEq] at h
        subst h
        have k3 := put_ok s x i _ (by omega) (by rw [hs.ll]; omega) (by rw [hs.sl]; omega) hsm hset
        refine AC_of Tryz.func57 rfl Tryz.ntmps57 Tryz.results57 (by kernel_rfl) rfl ?_
        simp only [List.zipIdx, List.map, Nat.zero_add, Nat.reduceAdd]
        repeat (first | apply Aw_seq | apply Aw_block | apply Aw_skip | apply Aw_exit | refine Aw_condt rfl ?_ | refine Aw_condf rfl ?_ | ((first | refine qr ?_ | refine qd (by kernel_rfl) (by kernel_rfl) ?_); simp only [go_sem, jE, reduceIte, jA, jM, jS, jL, jD, jB, b1, hq, hlt]) | refine dk (by kernel_rfl) ?_ | (refine qp (k1) (by simp only [go_sem, jE, reduceIte, jA, jM, jS, jL, jD, jB, b1, hq, hlt]; first | done | rfl) rfl (by simp only [go_sem, Nat.reduceLT]) rfl rfl ?_; simp only [go_sem, jE, reduceIte, jA, jM, jS, jL, jD, jB, b1, hq, hlt]) | (refine qp (k2) (by simp only [go_sem, jE, reduceIte, jA, jM, jS, jL, jD, jB, b1, hq, hlt]; first | done | rfl) rfl (by simp only [go_sem, Nat.reduceLT]) rfl rfl ?_; simp only [go_sem, jE, reduceIte, jA, jM, jS, jL, jD, jB, b1, hq, hlt]) | (refine qx (call_L (N' := [0, 1, 2]) (L := []) (k3) rfl (.cons (.nm rfl) (.cons (.nm rfl) (.cons (.nm rfl) (.nil)))) (by decide) (by decide) (by decide) (by simp only [go_sem, jE, reduceIte, jA, jM, jS, jL, jD, jB, b1, hq, hlt]; first | done | rfl) (.inl rfl) rfl (by decide)) (by simp only [go_sem, jE, reduceIte, jA, jM, jS, jL, jD, jB, b1, hq, hlt]; first | done | rfl) rfl (by simp only [go_sem, Nat.reduceLT]) ?_; simp only [go_sem, jE, reduceIte, jA, jM, jS, jL, jD, jB, b1, hq, hlt]))
        exact Aw_ret (retL (M := [0, 1, 2]) (.inl rfl) (by simp only [go_sem, jE, reduceIte, jA, jM, jS, jL, jD, jB]; first | done | rfl) rfl rfl (by rfl) (by simp only [go_sem, jE, reduceIte, jA, jM, jS, jL, jD, jB]; first | done | rfl | (and_intros <;> rfl)) (by decide) (by unfold idM; decide))
      · simp only [intoM, hqd, hset] at h; cases h
    | none =>
      have k3 := put_no s i _ (by omega) hsm hset
      cases hin : intoM d s (i + 1) q with
      | none =>
        refine ⟨fun s' h => ?_, fun h => ?_⟩
        · simp only [intoM, hqd, hset, hin] at h; cases h
        · have k4 := ih2 hin
          refine AC_of Tryz.func57 rfl Tryz.ntmps57 Tryz.results57 (by kernel_rfl) rfl ?_
          simp only [List.zipIdx, List.map, Nat.zero_add, Nat.reduceAdd]
          repeat (first | apply Aw_seq | apply Aw_block | apply Aw_skip | apply Aw_exit | refine Aw_condt rfl ?_ | refine Aw_condf rfl ?_ | ((first | refine qr ?_ | refine qd (by kernel_rfl) (by kernel_rfl) ?_); simp only [go_sem, jE, reduceIte, jA, jM, jS, jL, jD, jB, b1, hq, hlt, w1]) | refine dk (by kernel_rfl) ?_ | (refine qp (k1) (by simp only [go_sem, jE, reduceIte, jA, jM, jS, jL, jD, jB, b1, hq, hlt, w1]; first | done | rfl) rfl (by simp only [go_sem, Nat.reduceLT]) rfl rfl ?_; simp only [go_sem, jE, reduceIte, jA, jM, jS, jL, jD, jB, b1, hq, hlt, w1]) | (refine qp (k2) (by simp only [go_sem, jE, reduceIte, jA, jM, jS, jL, jD, jB, b1, hq, hlt, w1]; first | done | rfl) rfl (by simp only [go_sem, Nat.reduceLT]) rfl rfl ?_; simp only [go_sem, jE, reduceIte, jA, jM, jS, jL, jD, jB, b1, hq, hlt, w1]) | (refine qx (call_L (N' := [0, 1, 2]) (L := []) (k3) rfl (.cons (.nm rfl) (.cons (.nm rfl) (.cons (.nm rfl) (.nil)))) (by decide) (by decide) (by decide) (by simp only [go_sem, jE, reduceIte, jA, jM, jS, jL, jD, jB, b1, hq, hlt, w1]; first | done | rfl) (.inl rfl) rfl (by decide)) (by simp only [go_sem, jE, reduceIte, jA, jM, jS, jL, jD, jB, b1, hq, hlt, w1]; first | done | rfl) rfl (by simp only [go_sem, Nat.reduceLT]) ?_; simp only [go_sem, jE, reduceIte, jA, jM, jS, jL, jD, jB, b1, hq, hlt, w1]) | (refine qx (call_L (N' := [0, 1, 2]) (L := []) (k4) rfl (.cons (.nm rfl) (.cons (.nm rfl) (.cons (.nm rfl) (.nil)))) (by decide) (by decide) (by decide) (by simp only [go_sem, jE, reduceIte, jA, jM, jS, jL, jD, jB, b1, hq, hlt, w1]; first | done | rfl) (.inl rfl) rfl (by decide)) (by simp only [go_sem, jE, reduceIte, jA, jM, jS, jL, jD, jB, b1, hq, hlt, w1]; first | done | rfl) rfl (by simp only [go_sem, Nat.reduceLT]) ?_; simp only [go_sem, jE, reduceIte, jA, jM, jS, jL, jD, jB, b1, hq, hlt, w1]))
          exact Aw_ret (retL (M := [0, 1, 2]) (.inl rfl) (by simp only [go_sem, jE, reduceIte, jA, jM, jS, jL, jD, jB]; first | done | rfl) rfl rfl (by rfl) (by simp only [go_sem, jE, reduceIte, jA, jM, jS, jL, jD, jB]; first | done | rfl | (and_intros <;> rfl)) (by decide) (by unfold idM; decide))
      | some y =>
        have k4 := ih1 y hin
        obtain ⟨y1, y2, _⟩ := intoM_sm d (by omega) hs hq1 hq2 hin
        have k5 := runTrimS_ac r s.times false hr hro (by omega)
        rw [← y2] at k5
        have hsm2 : SmR (trimM r y.times false) := smR_trim hr _ _
        refine ⟨fun s' h => ?_, fun h => ?_⟩
        · simp only [intoM, hqd, hset, hin, Option.bind_some] at h
          have k6 := put_ok y s' i _ (by omega) (by rw [y1.ll]; omega) (by rw [y1.sl]; omega) hsm2 h
          refine AC_of Tryz.func57 rfl Tryz.ntmps57 Tryz.results57 (by kernel_rfl) rfl ?_
          simp only [List.zipIdx, List.map, Nat.zero_add, Nat.reduceAdd]
          repeat (first | apply Aw_seq | apply Aw_block | apply Aw_skip | apply Aw_exit | refine Aw_condt rfl ?_ | refine Aw_condf rfl ?_ | ((first | refine qr ?_ | refine qd (by kernel_rfl) (by kernel_rfl) ?_); simp only [go_sem, jE, reduceIte, jA, jM, jS, jL, jD, jB, b1, hq, hlt, w1]) | refine dk (by kernel_rfl) ?_ | (refine qp (k1) (by simp only [go_sem, jE, reduceIte, jA, jM, jS, jL, jD, jB, b1, hq, hlt, w1]; first | done | rfl) rfl (by simp only [go_sem, Nat.reduceLT]) rfl rfl ?_; simp only [go_sem, jE, reduceIte, jA, jM, jS, jL, jD, jB, b1, hq, hlt, w1]) | (refine qp (k2) (by simp only [go_sem, jE, reduceIte, jA, jM, jS, jL, jD, jB, b1, hq, hlt, w1]; first | done | rfl) rfl (by simp only [go_sem, Nat.reduceLT]) rfl rfl ?_; simp only [go_sem, jE, reduceIte, jA, jM, jS, jL, jD, jB, b1, hq, hlt, w1]) | (refine qp (k5) (by simp only [go_sem, jE, reduceIte, jA, jM, jS, jL, jD, jB, b1, hq, hlt, w1]; first | done | rfl) rfl (by simp only [go_sem, Nat.reduceLT]) rfl rfl ?_; simp only [go_sem, jE, reduceIte, jA, jM, jS, jL, jD, jB, b1, hq, hlt, w1]) | (refine qx (call_L (N' := [0, 1, 2]) (L := []) (k3) rfl (.cons (.nm rfl) (.cons (.nm rfl) (.cons (.nm rfl) (.nil)))) (by decide) (by decide) (by decide) (by simp only [go_sem, jE, reduceIte, jA, jM, jS, jL, jD, jB, b1, hq, hlt, w1]; first | done | rfl) (.inl rfl) rfl (by decide)) (by simp only [go_sem, jE, reduceIte, jA, jM, jS, jL, jD, jB, b1, hq, hlt, w1]; first | done | rfl) rfl (by simp only [go_sem, Nat.reduceLT]) ?_; simp only [go_sem, jE, reduceIte, jA, jM, jS, jL, jD, jB, b1, hq, hlt, w1]) | (refine qx (call_L (N' := [0, 1, 2]) (L := []) (k4) rfl (.cons (.nm rfl) (.cons (.nm rfl) (.cons (.nm rfl) (.nil)))) (by decide) (by decide) (by decide) (by simp only [go_sem, jE, reduceIte, jA, jM, jS, jL, jD, jB, b1, hq, hlt, w1]; first | done | rfl) (.inl rfl) rfl (by decide)) (by simp only [go_sem, jE, reduceIte, jA, jM, jS, jL, jD, jB, b1, hq, hlt, w1]; first | done | rfl) rfl (by simp only [go_sem, Nat.reduceLT]) ?_; simp only [go_sem, jE, reduceIte, jA, jM, jS, jL, jD, jB, b1, hq, hlt, w1]) | (refine qx (call_L (N' := [0, 1, 2]) (L := []) (k6) rfl (.cons (.nm rfl) (.cons (.nm rfl) (.cons (.nm rfl) (.nil)))) (by decide) (by decide) (by decide) (by simp only [go_sem, jE, reduceIte, jA, jM, jS, jL, jD, jB, b1, hq, hlt, w1]; first | done | rfl) (.inl rfl) rfl (by decide)) (by simp only [go_sem, jE, reduceIte, jA, jM, jS, jL, jD, jB, b1, hq, hlt, w1]; first | done | rfl) rfl (by simp only [go_sem, Nat.reduceLT]) ?_; simp only [go_sem, jE, reduceIte, jA, jM, jS, jL, jD, jB, b1, hq, hlt, w1]))
          exact Aw_ret (retL (M := [0, 1, 2]) (.inl rfl) (by simp only [go_sem, jE, reduceIte, jA, jM, jS, jL, jD, jB]; first | done | rfl) rfl rfl (by rfl) (by simp only [go_sem, jE, reduceIte, jA, jM, jS, jL, jD, jB]; first | done | rfl | (and_intros <;> rfl)) (by decide) (by unfold idM; decide))
        · simp only [intoM, hqd, hset, hin, Option.bind_some] at h
          have k6 := put_no y i _ (by omega) hsm2 h
          refine AC_of Tryz.func57 rfl Tryz.ntmps57 Tryz.results57 (by kernel_rfl) rfl ?_
          simp only [List.zipIdx, List.map, Nat.zero_add, Nat.reduceAdd]
          repeat (first | apply Aw_seq | apply Aw_block | apply Aw_skip | apply Aw_exit | refine Aw_condt rfl ?_ | refine Aw_condf rfl ?_ | ((first | refine qr ?_ | refine qd (by kernel_rfl) (by kernel_rfl) ?_); simp only [go_sem, jE, reduceIte, jA, jM, jS, jL, jD, jB, b1, hq, hlt, w1]) | refine dk (by kernel_rfl) ?_ | (refine qp (k1) (by simp only [go_sem, jE, reduceIte, jA, jM, jS, jL, jD, jB, b1, hq, hlt, w1]; first | done | rfl) rfl (by simp only [go_sem, Nat.reduceLT]) rfl rfl ?_; simp only [go_sem, jE, reduceIte, jA, jM, jS, jL, jD, jB, b1, hq, hlt, w1]) | (refine qp (k2) (by simp only [go_sem, jE, reduceIte, jA, jM, jS, jL, jD, jB, b1, hq, hlt, w1]; first | done | rfl) rfl (by simp only [go_sem, Nat.reduceLT]) rfl rfl ?_; simp only [go_sem, jE, reduceIte, jA, jM, jS, jL, jD, jB, b1, hq, hlt, w1]) | (refine qp (k5) (by simp only [go_sem, jE, reduceIte, jA, jM, jS, jL, jD, jB, b1, hq, hlt, w1]; first | done | rfl) rfl (by simp only [go_sem, Nat.reduceLT]) rfl rfl ?_; simp only [go_sem, jE, reduceIte, jA, jM, jS, jL, jD, jB, b1, hq, hlt, w1]) | (refine qx (call_L (N' := [0, 1, 2]) (L := []) (k3) rfl (.cons (.nm rfl) (.cons (.nm rfl) (.cons (.nm rfl) (.nil)))) (by decide) (by decide) (by decide) (by simp only [go_sem, jE, reduceIte, jA, jM, jS, jL, jD, jB, b1, hq, hlt, w1]; first | done | rfl) (.inl rfl) rfl (by decide)) (by simp only [go_sem, jE, reduceIte, jA, jM, jS, jL, jD, jB, b1, hq, hlt, w1]; first | done | rfl) rfl (by simp only [go_sem, Nat.reduceLT]) ?_; simp only [go_sem, jE, reduceIte, jA, jM, jS, jL, jD, jB, b1, hq, hlt, w1]) | (refine qx (call_L (N' := [0, 1, 2]) (L := []) (k4) rfl (.cons (.nm rfl) (.cons (.nm rfl) (.cons (.nm rfl) (.nil)))) (by decide) (by decide) (by decide) (by simp only [go_sem, jE, reduceIte, jA, jM, jS, jL, jD, jB, b1, hq, hlt, w1]; first | done | rfl) (.inl rfl) rfl (by decide)) (by simp only [go_sem, jE, reduceIte, jA, jM, jS, jL, jD, jB, b1, hq, hlt, w1]; first | done | rfl) rfl (by simp only [go_sem, Nat.reduceLT]) ?_; simp only [go_sem, jE, reduceIte, jA, jM, jS, jL, jD, jB, b1, hq, hlt, w1]) | (refine qx (call_L (N' := [0, 1, 2]) (L := []) (k6) rfl (.cons (.nm rfl) (.cons (.nm rfl) (.cons (.nm rfl) (.nil)))) (by decide) (by decide) (by decide) (by simp only [go_sem, jE, reduceIte, jA, jM, jS, jL, jD, jB, b1, hq, hlt, w1]; first | done | rfl) (.inl rfl) rfl (by decide)) (by simp only [go_sem, jE, reduceIte, jA, jM, jS, jL, jD, jB, b1, hq, hlt, w1]; first | done | rfl) rfl (by simp only [go_sem, Nat.reduceLT]) ?_; simp only [go_sem, jE, reduceIte, jA, jM, jS, jL, jD, jB, b1, hq, hlt, w1]))
          exact Aw_ret (retL (M := [0, 1, 2]) (.inl rfl) (by simp only [go_sem, jE, reduceIte, jA, jM, jS, jL, jD, jB]; first | done | rfl) rfl rfl (by rfl) (by simp only [go_sem, jE, reduceIte, jA, jM, jS, jL, jD, jB]; first | done | rfl | (and_intros <;> rfl)) (by decide) (by unfold idM; decide))
abbrev resO (o : Option Sto) : AV := .tup [stT (o.getD zSto), bT o.isSome]
/-- What is given: a store of its own, or nothing. -/
def OwnR (f : FuncId) (args : List TV) (o : Option Sto) : Prop := (∀ x, o = some x → AC Tryz.prog f args noHp 0 ⟨.tup [hT x, bT true], hpL (hS x), 4⟩) ∧ (o = none → AC Tryz.prog f args noHp 0 ⟨.tup [zA, bT false], noHp, 0⟩)
theorem OwnR.set {f : FuncId} {args : List TV} {o : Option Sto} (h : OwnR f args o) : AC Tryz.prog f args noHp 0 ⟨resO o, noHp, 0⟩ := by
  cases o with
  | none => exact AC.nilR (h.2 rfl) zA_nil
  | some x => exact AC.settle0 [0, 1, 2, 3] (h.1 x rfl) (.cons (.cons (SetC.row0 rfl rfl) (.cons (SetC.row0 rfl rfl) (.cons (SetC.row0 rfl rfl) (.cons (.inl rfl) (.cons (.inl rfl) (.cons (SetC.row0 rfl rfl) .nil)))))) (.cons (.inl rfl) .nil)) rfl
def sJoinM (s : Sto) (l : Int) : Option Sto := if (storeS s && inB 0 l 1) = true then (setM s l.toNat []).bind fun x => intoM (1 - l.toNat) x (l.toNat + 1) (s.levels.getD l.toNat []) else none
theorem smR_nil : SmR [] := ⟨by simp, by simp⟩
theorem keysM_nil : keysM [] = [] := rfl
theorem sieve_nil {keep : Nat} (hk : keep ≤ 5) : sieveM [] keep = some (eSve keep) := by
  unfold sieveM
  rw [if_pos ⟨rfl, inKeep hk⟩, show Int.toNat (keep : Int) = keep from rfl, bfs0]
  rfl
theorem storeJoinS_own (s : Sto) (l : Int) (hs : SmSt s) : OwnR 19 [stT s, iT l] (sJoinM s l) := by
  have k1 := sstoreOk_ac s hs
  unfold sJoinM
  cases c1 : storeS s
  · rw [c1] at k1
    refine ⟨fun x hx => by simp at hx, fun _ => ?_⟩
    refine AC_of Tryz.func19 rfl Tryz.ntmps19 Tryz.results19 (by kernel_rfl) rfl ?_
    simp only [List.zipIdx, List.map, Nat.zero_add, Nat.reduceAdd]
    repeat (first | apply Aw_seq | apply Aw_block | apply Aw_skip | apply Aw_exit | refine Aw_condt rfl ?_ | refine Aw_condf rfl ?_ | ((first | refine qr ?_ | refine qd (by kernel_rfl) (by kernel_rfl) ?_); simp only [go_sem, jE, reduceIte, jA, jM, jS, jL, jD, jB]) | refine dk (by kernel_rfl) ?_ | (refine qp (k1) (by simp only [go_sem, jE, reduceIte, jA, jM, jS, jL, jD, jB]; first | done | rfl) rfl (by simp only [go_sem, Nat.reduceLT]) rfl rfl ?_; simp only [go_sem, jE, reduceIte, jA, jM, jS, jL, jD, jB]))
    exact Aw_ret (ret0 (.inl rfl) (by simp only [go_sem, jE, reduceIte, jA, jM, jS, jL, jD, jB]; rfl) (by rfl) rfl)
  rw [c1] at k1
  cases c2 : inB 0 l 1
  · refine ⟨fun x hx => by simp at hx, fun _ => ?_⟩
    refine AC_of Tryz.func19 rfl Tryz.ntmps19 Tryz.results19 (by kernel_rfl) rfl ?_
    simp only [List.zipIdx, List.map, Nat.zero_add, Nat.reduceAdd]
    repeat (first | apply Aw_seq | apply Aw_block | apply Aw_skip | apply Aw_exit | refine Aw_condt rfl ?_ | refine Aw_condf rfl ?_ | ((first | refine qr ?_ | refine qd (by kernel_rfl) (by kernel_rfl) ?_); simp only [go_sem, jE, reduceIte, jA, jM, jS, jL, jD, jB, c2]) | refine dk (by kernel_rfl) ?_ | (refine qp (k1) (by simp only [go_sem, jE, reduceIte, jA, jM, jS, jL, jD, jB, c2]; first | done | rfl) rfl (by simp only [go_sem, Nat.reduceLT]) rfl rfl ?_; simp only [go_sem, jE, reduceIte, jA, jM, jS, jL, jD, jB, c2]) | (refine qp (l6In_ac _ _ _) (by simp only [go_sem, jE, reduceIte, jA, jM, jS, jL, jD, jB, c2]; first | done | rfl) rfl (by simp only [go_sem, Nat.reduceLT]) rfl rfl ?_; simp only [go_sem, jE, reduceIte, jA, jM, jS, jL, jD, jB, c2]))
    exact Aw_ret (ret0 (.inl rfl) (by simp only [go_sem, jE, reduceIte, jA, jM, jS, jL, jD, jB]; rfl) (by rfl) rfl)
  have k3 := copyV_ac s hs c1
  have sm := valid_sm hs c1
  obtain ⟨h1, h2, h3, h4, h5, _, h7⟩ := storeS_facts c1
  rw [if_pos (show (true && true) = true from rfl)]
  obtain ⟨n, hn, rfl⟩ : ∃ n : Nat, n ≤ 1 ∧ l = n := by
    unfold inB at c2
    rw [Bool.and_eq_true] at c2
    have h1 := of_decide_eq_true c2.1; have h2 := of_decide_eq_true c2.2
    exact ⟨l.toNat, by omega, by omega⟩
  rw [show Int.toNat (n : Int) = n from rfl]
  obtain ⟨kn, hk, hkk⟩ : ∃ m : Nat, m ≤ 5 ∧ s.keep = m := by
    unfold inB at h7
    rw [Bool.and_eq_true] at h7
    have h1 := of_decide_eq_true h7.1; have h2 := of_decide_eq_true h7.2
    exact ⟨s.keep.toNat, by omega, by omega⟩
  obtain ⟨x, hset⟩ : ∃ x, setM s n [] = some x := by unfold setM; rw [keysM_nil, hkk, sieve_nil hk]; exact ⟨_, if_pos (Nat.zero_le _)⟩
  have smx : SmH x := setM_sm sm (by omega) smR_nil hset
  obtain ⟨q, hq⟩ : ∃ q, s.levels[n]? = some q := ⟨_, List.getElem?_eq_getElem (by omega)⟩
  have hqd : s.levels.getD n [] = q := by simp [List.getD, hq]
  obtain ⟨hq1, hq2⟩ := sm.lev q (List.mem_of_getElem? hq)
  have hlt := (List.getElem?_eq_some_iff.1 hq).1
  have k4 := l12Set_ok s x n [] (by omega) hlt (by omega) smR_nil hset
  have w1 : IntKind.i64.wrap ((n : Int) + 1) = ((n + 1 : Nat) : Int) := wrap_succ (m := n + 1) (by omega) (by omega)
  obtain ⟨i1, i2⟩ := into_ac (1 - n) x (n + 1) q (by omega) smx hq1 hq2
  rw [hset, Option.bind_some, hqd]
  refine ⟨fun y hin => ?_, fun hin => ?_⟩
  · have k5 := i1 y hin
    refine AC_of Tryz.func19 rfl Tryz.ntmps19 Tryz.results19 (by kernel_rfl) rfl ?_
    simp only [List.zipIdx, List.map, Nat.zero_add, Nat.reduceAdd]
    repeat (first | apply Aw_seq | apply Aw_block | apply Aw_skip | apply Aw_exit | refine Aw_condt rfl ?_ | refine Aw_condf rfl ?_ | ((first | refine qr ?_ | refine qd (by kernel_rfl) (by kernel_rfl) ?_); simp only [go_sem, jE, reduceIte, jA, jM, jS, jL, jD, jB, c2, w1, hq, hlt]) | refine dk (by kernel_rfl) ?_ | (refine qp (k1) (by simp only [go_sem, jE, reduceIte, jA, jM, jS, jL, jD, jB, c2, w1, hq, hlt]; first | done | rfl) rfl (by simp only [go_sem, Nat.reduceLT]) rfl rfl ?_; simp only [go_sem, jE, reduceIte, jA, jM, jS, jL, jD, jB, c2, w1, hq, hlt]) | (refine qp (l6In_ac _ _ _) (by simp only [go_sem, jE, reduceIte, jA, jM, jS, jL, jD, jB, c2, w1, hq, hlt]; first | done | rfl) rfl (by simp only [go_sem, Nat.reduceLT]) rfl rfl ?_; simp only [go_sem, jE, reduceIte, jA, jM, jS, jL, jD, jB, c2, w1, hq, hlt]) | (refine qx (call_N (L := []) (k3) rfl (.cons (.nm rfl) (.nil)) (.inl rfl) rfl) (by simp only [go_sem, jE, reduceIte, jA, jM, jS, jL, jD, jB, c2, w1, hq, hlt]; first | done | rfl) rfl (by simp only [go_sem, Nat.reduceLT]) ?_; simp only [go_sem, jE, reduceIte, jA, jM, jS, jL, jD, jB, c2, w1, hq, hlt]) | (refine qx (call_L (N' := [10, 11, 12, 13, 23]) (L := []) (k4) rfl (.cons (.nm rfl) (.cons (.nm rfl) (.cons (.nm rfl) (.nil)))) (by decide) (by decide) (by decide) (by simp only [go_sem, jE, reduceIte, jA, jM, jS, jL, jD, jB, c2, w1, hq, hlt]; first | done | rfl) (.inl rfl) rfl (by decide)) (by simp only [go_sem, jE, reduceIte, jA, jM, jS, jL, jD, jB, c2, w1, hq, hlt]; first | done | rfl) rfl (by simp only [go_sem, Nat.reduceLT]) ?_; simp only [go_sem, jE, reduceIte, jA, jM, jS, jL, jD, jB, c2, w1, hq, hlt]) | (refine qx (call_L (N' := [10, 11, 12, 13]) (L := []) (k5) rfl (.cons (.nm rfl) (.cons (.nm rfl) (.cons (.nm rfl) (.nil)))) (by decide) (by decide) (by decide) (by simp only [go_sem, jE, reduceIte, jA, jM, jS, jL, jD, jB, c2, w1, hq, hlt]; first | done | rfl) (.inl rfl) rfl (by decide)) (by simp only [go_sem, jE, reduceIte, jA, jM, jS, jL, jD, jB, c2, w1, hq, hlt]; first | done | rfl) rfl (by simp only [go_sem, Nat.reduceLT]) ?_; simp only [go_sem, jE, reduceIte, jA, jM, jS, jL, jD, jB, c2, w1, hq, hlt]))
    exact Aw_ret (retL (M := [10, 11, 12, 13]) (.inl rfl) (by simp only [go_sem, jE, reduceIte, jA, jM, jS, jL, jD, jB]; first | done | rfl) rfl rfl (by rfl) (by simp only [go_sem, jE, reduceIte, jA, jM, jS, jL, jD, jB]; first | done | rfl | (and_intros <;> rfl)) (by decide) (by unfold idM; decide))
  · have k5 := i2 hin
    refine AC_of Tryz.func19 rfl Tryz.ntmps19 Tryz.results19 (by kernel_rfl) rfl ?_
    simp only [List.zipIdx, List.map, Nat.zero_add, Nat.reduceAdd]
    repeat (first | apply Aw_seq | apply Aw_block | apply Aw_skip | apply Aw_exit | refine Aw_condt rfl ?_ | refine Aw_condf rfl ?_ | ((first | refine qr ?_ | refine qd (by kernel_rfl) (by kernel_rfl) ?_); simp only [go_sem, jE, reduceIte, jA, jM, jS, jL, jD, jB, c2, w1, hq, hlt]) | refine dk (by kernel_rfl) ?_ | (refine qp (k1) (by simp only [go_sem, jE, reduceIte, jA, jM, jS, jL, jD, jB, c2, w1, hq, hlt]; first | done | rfl) rfl (by simp only [go_sem, Nat.reduceLT]) rfl rfl ?_; simp only [go_sem, jE, reduceIte, jA, jM, jS, jL, jD, jB, c2, w1, hq, hlt]) | (refine qp (l6In_ac _ _ _) (by simp only [go_sem, jE, reduceIte, jA, jM, jS, jL, jD, jB, c2, w1, hq, hlt]; first | done | rfl) rfl (by simp only [go_sem, Nat.reduceLT]) rfl rfl ?_; simp only [go_sem, jE, reduceIte, jA, jM, jS, jL, jD, jB, c2, w1, hq, hlt]) | (refine qx (call_N (L := []) (k3) rfl (.cons (.nm rfl) (.nil)) (.inl rfl) rfl) (by simp only [go_sem, jE, reduceIte, jA, jM, jS, jL, jD, jB, c2, w1, hq, hlt]; first | done | rfl) rfl (by simp only [go_sem, Nat.reduceLT]) ?_; simp only [go_sem, jE, reduceIte, jA, jM, jS, jL, jD, jB, c2, w1, hq, hlt]) | (refine qx (call_L (N' := [10, 11, 12, 13, 23]) (L := []) (k4) rfl (.cons (.nm rfl) (.cons (.nm rfl) (.cons (.nm rfl) (.nil)))) (by decide) (by decide) (by decide) (by simp only [go_sem, jE, reduceIte, jA, jM, jS, jL, jD, jB, c2, w1, hq, hlt]; first | done | rfl) (.inl rfl) rfl (by decide)) (by simp only [go_sem, jE, reduceIte, jA, jM, jS, jL, jD, jB, c2, w1, hq, hlt]; first | done | rfl) rfl (by simp only [go_sem, Nat.reduceLT]) ?_; simp only [go_sem, jE, reduceIte, jA, jM, jS, jL, jD, jB, c2, w1, hq, hlt]) | (refine qx (call_L (N' := [10, 11, 12, 13]) (L := []) (k5) rfl (.cons (.nm rfl) (.cons (.nm rfl) (.cons (.nm rfl) (.nil)))) (by decide) (by decide) (by decide) (by simp only [go_sem, jE, reduceIte, jA, jM, jS, jL, jD, jB, c2, w1, hq, hlt]; first | done | rfl) (.inl rfl) rfl (by decide)) (by simp only [go_sem, jE, reduceIte, jA, jM, jS, jL, jD, jB, c2, w1, hq, hlt]; first | done | rfl) rfl (by simp only [go_sem, Nat.reduceLT]) ?_; simp only [go_sem, jE, reduceIte, jA, jM, jS, jL, jD, jB, c2, w1, hq, hlt]))
    exact Aw_ret (ret0 (.inl rfl) (by simp only [go_sem, jE, reduceIte, jA, jM, jS, jL, jD, jB]; rfl) (by rfl) rfl)
def stHd (s : Sto) : Obj := ⟨33, 6, false, [[.h 5, .h 0, .h 1, .d (.s (.int .i64 s.keep)), .d (.s (.int .i64 s.time)), .h 6]]⟩
@[go_sem] theorem r_stHd (s : Sto) : stHd s = ⟨33, 6, false, [[.h 5, .h 0, .h 1, .d (.s (.int .i64 s.keep)), .d (.s (.int .i64 s.time)), .h 6]]⟩ := rfl
structure Deed where
  kind : Int
  key : ByteArray
  num : Int
def deedD (d : Deed) : List D := [.s (.int .i64 d.kind), .s (.string d.key), .s (.int .i64 d.num)]
@[go_sem] theorem r_deedD (d : Deed) : deedD d = [.s (.int .i64 d.kind), .s (.string d.key), .s (.int .i64 d.num)] := rfl
theorem setM_st {s s' : Sto} {i : Nat} {r : List Ent} (hs : SmSt s) (hr : SmR r) (h : setM s i r = some s') : SmSt s' := by
  obtain ⟨x, rfl, hx, hl⟩ := setM_ok h
  refine ⟨hs.top, fun q hq => ?_, by simpa using hs.ll, by simpa using hs.sl, fun y hy => ?_, hs.tl⟩
  · rcases List.mem_or_eq_of_mem_set hq with h | rfl
    · exact hs.lev q h
    · exact hr
  · rcases List.mem_or_eq_of_mem_set hy with h | rfl
    · exact hs.rl y h
    · exact sieveM_len hx
theorem intoM_st : ∀ (d : Nat) {s s' : Sto} {i : Nat} {r : List Ent}, i + d = 2 → SmH s → SmSt s → SmR r → r.length ≤ 1000 → intoM d s i r = some s' → SmSt s'
  | 0, s, s', i, r, hi, hh, hs, hr, hl, h => by
    have hq : SmR (s.levels.getD i []) ∧ (s.levels.getD i []).length ≤ 1000 := by
      rw [List.getD_eq_getElem?_getD, List.getElem?_eq_getElem (by rw [hh.ll]; omega)]; exact hh.lev _ (List.getElem_mem _)
    exact setM_st hs (smR_trim (smR_join hr hq.1 hl hq.2) _ _) h
  | d + 1, s, s', i, r, hi, hh, hs, hr, hl, h => by
    have hq : SmR (s.levels.getD i []) ∧ (s.levels.getD i []).length ≤ 1000 := by
      rw [List.getD_eq_getElem?_getD, List.getElem?_eq_getElem (by rw [hh.ll]; omega)]; exact hh.lev _ (List.getElem_mem _)
    simp only [intoM] at h
    split at h
    · rename_i x hx
      obtain rfl := Option.some.inj h
      exact setM_st hs (smR_trim (smR_join hr hq.1 hl hq.2) _ _) hx
    · obtain ⟨s1, h1, h2⟩ := Option.bind_eq_some_iff.1 h
      exact setM_st (intoM_st d (by omega) hh hs hq.1 hq.2 h1) (smR_trim hr _ _) h2
theorem cloneInts_ac (ts : List Int) (hl : ts.length ≤ 100000) : AC Tryz.prog 121 [intsT ts] noHp 0 ⟨.t (.c (.h 0)), hpL [some (tmRow ts)], 1⟩ := by
  refine AC_of Tryz.func121 rfl Tryz.ntmps121 Tryz.results121 (by kernel_rfl) rfl ?_
  simp only [List.zipIdx, List.map, Nat.zero_add, Nat.reduceAdd]
  have hb : ts.length * 8 ≤ 140737488355328 := by omega
  repeat (first | apply Aw_seq | apply Aw_block | apply Aw_skip | apply Aw_exit | refine Aw_condt rfl ?_ | refine Aw_condf rfl ?_ | ((first | refine qr ?_ | refine qd (by kernel_rfl) (by kernel_rfl) ?_); simp only [go_sem, jE, reduceIte, jA, jM, jS, jL, jD, jB, hb]) | refine dk (by kernel_rfl) ?_)
  exact Aw_ret (retL (M := [2]) (.inl rfl) (by simp only [go_sem, jE, reduceIte, jA, jM, jS, jL, jD, jB]; first | done | rfl) rfl rfl (by rfl) (by simp only [go_sem, jE, reduceIte, jA, jM, jS, jL, jD, jB]; first | done | rfl | (and_intros <;> rfl)) (by decide) (by unfold idM; decide))
theorem svClone_ac (x : Sve) (hl : x.rests.length ≤ 1099511627776) : AC Tryz.prog 122 [sveP x] noHp 0 ⟨.t (.agg [.d (.s (.string x.letters)), .d (.s (.string x.more)), .d (.s (.string x.first)), .h 0, .d (.s (.int .i64 x.keep))]), hpL [some (kRow x.rests)], 1⟩ := by
  refine AC_of Tryz.func122 rfl Tryz.ntmps122 Tryz.results122 (by kernel_rfl) rfl ?_
  simp only [List.zipIdx, List.map, Nat.zero_add, Nat.reduceAdd]
  have hb : x.rests.length * 16 ≤ 140737488355328 := by omega
  repeat (first | apply Aw_seq | apply Aw_block | apply Aw_skip | apply Aw_exit | refine Aw_condt rfl ?_ | refine Aw_condf rfl ?_ | ((first | refine qr ?_ | refine qd (by kernel_rfl) (by kernel_rfl) ?_); simp only [go_sem, jE, reduceIte, jA, jM, jS, jL, jD, jB, hb]) | refine dk (by kernel_rfl) ?_)
  exact Aw_ret (retL (M := [4]) (.inl rfl) (by simp only [go_sem, jE, reduceIte, jA, jM, jS, jL, jD, jB]; first | done | rfl) rfl rfl (by rfl) (by simp only [go_sem, jE, reduceIte, jA, jM, jS, jL, jD, jB]; first | done | rfl | (and_intros <;> rfl)) (by decide) (by unfold idM; decide))
def svN (x : Sve) (j : Nat) : List CV := [.d (.s (.string x.letters)), .d (.s (.string x.more)), .d (.s (.string x.first)), .h j, .d (.s (.int .i64 x.keep))]
def cloS (top a b c : List Ent) (x y z : Sve) (ts : List Int) : List (Option Obj) := [some (eRow top), some ⟨29, 1, true, [[.h 4], [.h 5], [.h 6]]⟩, some ⟨82, 5, true, [svN x 7, svN y 8, svN z 9]⟩,
        some (tmRow ts), some (eRow a), some (eRow b), some (eRow c), some (kRow x.rests), some (kRow y.rests), some (kRow z.rests)]
theorem storeClone_ac (top a b c : List Ent) (x y z : Sve) (keep time : Int) (ts : List Int) (h0 : top.length ≤ 100000) (h1 : a.length ≤ 100000) (h2 : b.length ≤ 100000) (h3 : c.length ≤ 100000) (h4 : x.rests.length ≤ 1099511627776) (h5 : y.rests.length ≤ 1099511627776) (h6 : z.rests.length ≤ 1099511627776) (h7 : ts.length ≤ 100000) :
    AC Tryz.prog 80 [stT ⟨top, [a, b, c], [x, y, z], keep, time, ts⟩] noHp 0 ⟨.t (.agg [.h 0, .h 1, .h 2, .d (.s (.int .i64 keep)), .d (.s (.int .i64 time)), .h 3]), hpL (cloS top a b c x y z ts), 10⟩ := by
  have k0 := cloneRun_ac top h0
  have k1 := cloneInts_ac ts h7
  have k2 := cloneRun_ac a h1
  have k3 := cloneRun_ac b h2
  have k4 := cloneRun_ac c h3
  have k5 := svClone_ac x h4
  have k6 := svClone_ac y h5
  have k7 := svClone_ac z h6
  have l0 : decide ((0 : Int) < 3) = true := rfl
  have l1 : decide ((1 : Int) < 3) = true := rfl
  have l2 : decide ((2 : Int) < 3) = true := rfl
  have l3 : decide ((3 : Int) < 3) = false := rfl
  have w0 : IntKind.i64.wrap ((0 : Int) + 1) = 1 := rfl
  have w1 : IntKind.i64.wrap ((1 : Int) + 1) = 2 := rfl
  have w2 : IntKind.i64.wrap ((2 : Int) + 1) = 3 := rfl
  unfold cloS svN
  refine AC_of Tryz.func80 rfl Tryz.ntmps80 Tryz.results80 (by kernel_rfl) rfl ?_
  simp only [List.zipIdx, List.map, Nat.zero_add, Nat.reduceAdd]
  repeat (first | apply Aw_seq | apply Aw_block | apply Aw_skip | apply Aw_exit | refine Aw_condt rfl ?_ | refine Aw_condf rfl ?_ | ((first | refine qr ?_ | refine qd (by kernel_rfl) (by kernel_rfl) ?_); simp only [go_sem, jE, reduceIte, jA, jM, jS, jL, jD, jB]) | refine dk (by kernel_rfl) ?_ | (refine qx (call_N (L := []) (k0) rfl (.cons (.nm rfl) (.nil)) (.inl rfl) rfl) (by simp only [go_sem, jE, reduceIte, jA, jM, jS, jL, jD, jB]; first | done | rfl) rfl (by simp only [go_sem, Nat.reduceLT]) ?_; simp only [go_sem, jE, reduceIte, jA, jM, jS, jL, jD, jB]) | (refine qx (call_N (L := []) (k1) rfl (.cons (.nm rfl) (.nil)) (.inl rfl) rfl) (by simp only [go_sem, jE, reduceIte, jA, jM, jS, jL, jD, jB]; first | done | rfl) rfl (by simp only [go_sem, Nat.reduceLT]) ?_; simp only [go_sem, jE, reduceIte, jA, jM, jS, jL, jD, jB]))
  refine Aw.ownC (m := 13) (i := 1) (e := 29) (j := 1) rfl rfl (by decide) (by simp only [Nat.reduceAdd]; rfl) rfl ?_
  refine Aw.ownC (m := 13) (i := 2) (e := 82) (j := 5) rfl rfl (by decide) (by simp only [Nat.reduceAdd]; rfl) rfl ?_
  refine Aw_rounds 4 ?_
  refine AwR_succ ?_
  repeat (first | apply Aw_seq | apply Aw_block | apply Aw_skip | apply Aw_exit | refine Aw_condt rfl ?_ | refine Aw_condf rfl ?_ | ((first | refine qr ?_ | refine qd (by kernel_rfl) (by kernel_rfl) ?_); simp only [go_sem, jE, reduceIte, jA, jM, jS, jL, jD, jB, l0, l1, l2, l3, w0, w1, w2]) | refine dk (by kernel_rfl) ?_ | (refine qx (call_N (L := []) (k2) rfl (.cons (.nm rfl) (.nil)) (.inl rfl) rfl) (by simp only [go_sem, jE, reduceIte, jA, jM, jS, jL, jD, jB, l0, l1, l2, l3, w0, w1, w2]; first | done | rfl) rfl (by simp only [go_sem, Nat.reduceLT]) ?_; simp only [go_sem, jE, reduceIte, jA, jM, jS, jL, jD, jB, l0, l1, l2, l3, w0, w1, w2]) | (refine qx (call_N (L := []) (k5) rfl (.cons (.nm rfl) (.nil)) (.inl rfl) rfl) (by simp only [go_sem, jE, reduceIte, jA, jM, jS, jL, jD, jB, l0, l1, l2, l3, w0, w1, w2]; first | done | rfl) rfl (by simp only [go_sem, Nat.reduceLT]) ?_; simp only [go_sem, jE, reduceIte, jA, jM, jS, jL, jD, jB, l0, l1, l2, l3, w0, w1, w2]) | (refine qx (call_N (L := []) (k3) rfl (.cons (.nm rfl) (.nil)) (.inl rfl) rfl) (by simp only [go_sem, jE, reduceIte, jA, jM, jS, jL, jD, jB, l0, l1, l2, l3, w0, w1, w2]; first | done | rfl) rfl (by simp only [go_sem, Nat.reduceLT]) ?_; simp only [go_sem, jE, reduceIte, jA, jM, jS, jL, jD, jB, l0, l1, l2, l3, w0, w1, w2]) | (refine qx (call_N (L := []) (k6) rfl (.cons (.nm rfl) (.nil)) (.inl rfl) rfl) (by simp only [go_sem, jE, reduceIte, jA, jM, jS, jL, jD, jB, l0, l1, l2, l3, w0, w1, w2]; first | done | rfl) rfl (by simp only [go_sem, Nat.reduceLT]) ?_; simp only [go_sem, jE, reduceIte, jA, jM, jS, jL, jD, jB, l0, l1, l2, l3, w0, w1, w2]) | (refine qx (call_N (L := []) (k4) rfl (.cons (.nm rfl) (.nil)) (.inl rfl) rfl) (by simp only [go_sem, jE, reduceIte, jA, jM, jS, jL, jD, jB, l0, l1, l2, l3, w0, w1, w2]; first | done | rfl) rfl (by simp only [go_sem, Nat.reduceLT]) ?_; simp only [go_sem, jE, reduceIte, jA, jM, jS, jL, jD, jB, l0, l1, l2, l3, w0, w1, w2]) | (refine qx (call_N (L := []) (k7) rfl (.cons (.nm rfl) (.nil)) (.inl rfl) rfl) (by simp only [go_sem, jE, reduceIte, jA, jM, jS, jL, jD, jB, l0, l1, l2, l3, w0, w1, w2]; first | done | rfl) rfl (by simp only [go_sem, Nat.reduceLT]) ?_; simp only [go_sem, jE, reduceIte, jA, jM, jS, jL, jD, jB, l0, l1, l2, l3, w0, w1, w2]))
  exact Aw_ret (retL (M := [4, 88, 100, 11, 30, 58, 86, 42, 70, 98]) (.inl rfl) (by simp only [go_sem, jE, reduceIte, jA, jM, jS, jL, jD, jB]; first | done | rfl) rfl rfl (by rfl) (by simp only [go_sem, jE, reduceIte, jA, jM, jS, jL, jD, jB]; first | done | rfl | (and_intros <;> rfl)) (by decide) (by unfold idM; decide))
/-- A store anew: its levels and sieves are rows of its own. -/
theorem cloneP_ac (s : Sto) (hs : SmSt s) (hv : storeS s = true) : AC Tryz.prog 80 [stT s] noHp 0 ⟨.t (.agg [.d (.rs 4 (s.top.map entD)), .h 0, .h 1, .d (.s (.int .i64 s.keep)), .d (.s (.int .i64 s.time)), .d (.rs 1 (s.times.map intD))]), hpL [some (lvRow s.levels), some (svRow s.sieves)], 2⟩ := by
  obtain ⟨l1, l2, l3, l4, l5, _⟩ := storeS_facts hv
  have hrl := hs.rl
  obtain ⟨top, levels, sieves, keep, time, ts⟩ := s
  obtain ⟨a, b, c, rfl⟩ := len3 l1
  obtain ⟨x, y, z, rfl⟩ := len3 l2
  have ha := l5 a (by simp)
  have hb := l5 b (by simp)
  have hc := l5 c (by simp)
  dsimp only at l3 l4
  have k := storeClone_ac top a b c x y z keep time ts (by omega) (by omega) (by omega) (by omega) (hrl x (by simp)) (hrl y (by simp)) (hrl z (by simp)) (by omega)
  unfold cloS svN at k
  have h := AC.setS [0, 3, 4, 5, 6, 7, 8, 9] k (y := .t (.agg [.d (.rs 4 (top.map entD)), .h 1, .h 2, .d (.s (.int .i64 keep)), .d (.s (.int .i64 time)), .d (.rs 1 (ts.map intD))])) (os' := [none, some (lvRow [a, b, c]), some (svRow [x, y, z])])
    (.cons (SetC.row0 rfl rfl) (.cons (.inl rfl) (.cons (.inl rfl) (.cons (.inl rfl) (.cons (.inl rfl) (.cons (SetC.row0 rfl rfl) .nil))))))
    ⟨.inr ⟨rfl, rfl, rfl, .cons (.cons (SetC.row0 rfl rfl) .nil) (.cons (.cons (SetC.row0 rfl rfl) .nil) (.cons (.cons (SetC.row0 rfl rfl) .nil) .nil))⟩, rfl,
      .inr ⟨rfl, rfl, rfl, .cons (.cons (.inl rfl) (.cons (.inl rfl) (.cons (.inl rfl) (.cons (SetC.row0 rfl rfl) (.cons (.inl rfl) .nil))))) (.cons (.cons (.inl rfl) (.cons (.inl rfl) (.cons (.inl rfl) (.cons (SetC.row0 rfl rfl) (.cons (.inl rfl) .nil))))) (.cons (.cons (.inl rfl) (.cons (.inl rfl) (.cons (.inl rfl) (.cons (SetC.row0 rfl rfl) (.cons (.inl rfl) .nil))))) .nil))⟩, rfl, trivial⟩
  refine AC.sel (M := [1, 2]) h rfl rfl (selL rfl ?_) (by decide) fun m hm => absurd hm (by omega)
  simp only [go_sem, LeftL]
theorem arg_pS {hp : Hp} {N' L : List Nat} {a b : Nat} {s : Sto} (ha : hp a = some (lvRow s.levels)) (hb : hp b = some (svRow s.sieves)) (hL : a ∈ L ∧ b ∈ L) :
    Arg hp N' L (.agg [.d (.rs 4 (s.top.map entD)), .h a, .h b, .d (.s (.int .i64 s.keep)), .d (.s (.int .i64 s.time)), .d (.rs 1 (s.times.map intD))]) (stT s) := by
  obtain ⟨h1, h2⟩ := hL
  refine .ln (n := 1) ?_ ?_
  · have e1 := lend_dRow (hp := hp) ha 0
    have e2 := lend_dRow (hp := hp) hb 0
    have e5 : ∀ x, lendC hp (0 + 1) (.d x) = some x := fun _ => rfl
    show (([.d (.rs 4 (s.top.map entD)), .h a, .h b, .d (.s (.int .i64 s.keep)), .d (.s (.int .i64 s.time)), .d (.rs 1 (s.times.map intD))] : List CV).mapM (lendC hp (0 + 1))).map _ = _
    simp only [List.mapM_cons, List.mapM_nil, e1, e2, e5]
    rfl
  · intro z hz m hm
    simp only [TV.cells, List.mem_cons, List.not_mem_nil, or_false] at hz
    rcases hz with rfl | rfl | rfl | rfl | rfl | rfl
    · simp [lendN] at hm
    · rw [lendN_dRow ha 0 m hm]; exact h1
    · rw [lendN_dRow hb 0 m hm]; exact h2
    · simp [lendN] at hm
    · simp [lendN] at hm
    · simp [lendN] at hm
def sEls : Nat → List Sve → List (List CV)
  | _, [] => []
  | b, x :: l => svN x b :: sEls (b + 1) l
theorem sEls_app : ∀ (a c : List Sve) (b : Nat), sEls b (a ++ c) = sEls b a ++ sEls (b + a.length) c
  | [], c, b => rfl
  | x :: a, c, b => by simp only [List.cons_append, sEls, List.length_cons]; rw [sEls_app a c, show b + 1 + a.length = b + (a.length + 1) by omega]
theorem sEls_len : ∀ (a : List Sve) (b : Nat), (sEls b a).length = a.length
  | [], _ => rfl
  | x :: a, b => by simp only [sEls, List.length_cons]; rw [sEls_len a]
theorem sEls_get : ∀ (a : List Sve) (b i : Nat) {x : Sve}, a[i]? = some x → (sEls b a)[i]? = some (svN x (b + i))
  | [], b, i, x, h => by simp at h
  | y :: a, b, 0, x, h => by simp at h; subst h; rfl
  | y :: a, b, i + 1, x, h => by
    have := sEls_get a (b + 1) i (by simpa using h)
    simpa [sEls, show b + (i + 1) = b + 1 + i by omega] using this
theorem sEls_set : ∀ (a : List Sve) (b i : Nat) (x : Sve), (sEls b a).set i (svN x (b + i)) = sEls b (a.set i x)
  | [], b, i, x => rfl
  | y :: a, b, 0, x => rfl
  | y :: a, b, i + 1, x => by
    have := sEls_set a (b + 1) i x
    simp only [sEls, List.set_cons_succ]
    rw [show b + (i + 1) = b + 1 + i by omega, this]
theorem sEls_bd : ∀ (a : List Sve) (b k : Nat), b + a.length ≤ k → (sEls b a).all (·.all (CV.bd k)) = true
  | [], _, _, _ => rfl
  | x :: a, b, k, h => by
    simp only [List.length_cons] at h
    simp only [sEls, List.all_cons, sEls_bd a (b + 1) k (by omega), Bool.and_true]
    simp [svN, CV.bd]; omega
def zCel : List CV := [.d (.s (.string zs)), .d (.s (.string zs)), .d (.s (.string zs)), .d (.s (.slice none 0 0)), .d (.s (.int .i64 0))]
def zEls (i : Nat) (r : List Sve) : List (List CV) := sEls 1 (r.take i) ++ List.replicate (r.length - i) zCel
def zRow (i : Nat) (r : List Sve) : Obj := ⟨82, 5, true, zEls i r⟩
@[go_sem] theorem r_zRow (i : Nat) (r : List Sve) : zRow i r = ⟨82, 5, true, zEls i r⟩ := rfl
theorem zE_0 (r : List Sve) : List.replicate r.length [CV.d (.s (.string zs)), .d (.s (.string zs)), .d (.s (.string zs)), .d (.s (.slice none 0 0)), .d (.s (.int .i64 0))] = zEls 0 r := by simp [zEls, zCel, sEls]
theorem zE_len {i : Nat} {r : List Sve} (h : i ≤ r.length) : (zEls i r).length = r.length := by simp [zEls, sEls_len]; omega
theorem zE_get {i : Nat} {r : List Sve} (h : i < r.length) : (zEls i r)[i]? = some [.d (.s (.string zs)), .d (.s (.string zs)), .d (.s (.string zs)), .d (.s (.slice none 0 0)), .d (.s (.int .i64 0))] := by
  unfold zEls
  rw [List.getElem?_append_right (by rw [sEls_len]; simp; omega), List.getElem?_replicate, sEls_len]
  simp [zCel]; omega
theorem zE_set {i : Nat} {r : List Sve} {x : Sve} (h : r[i]? = some x) : (zEls i r).set i (svN x (i + 1)) = zEls (i + 1) r := by
  have hi := (List.getElem?_eq_some_iff.1 h).1
  unfold zEls
  rw [List.set_append_right _ _ (by rw [sEls_len]; simp; omega), sEls_len, show r.length - i = (r.length - (i + 1)) + 1 by omega, List.replicate_succ, List.take_add_one, h, sEls_app]
  simp [Nat.min_eq_left (Nat.le_of_lt hi), sEls, show 1 + i = i + 1 by omega]
def svOs (i : Nat) (r : List Sve) : List (Option Obj) := some (zRow i r) :: (r.take i).map fun x => some (kRow x.rests)
theorem zE_r0 (r : List Sve) (π : Nat → Nat) : (zEls 0 r).map (fun x => x.map (CV.ren π)) = zEls 0 r := by simp [zEls, zCel, sEls, CV.ren]
theorem zE_a0 (r : List Sve) : ((zEls 0 r).all fun x => x.all (CV.bd 1)) = true := by simp [zEls, zCel, sEls, CV.bd]
theorem zE_all {i k : Nat} {r : List Sve} (h : i < k) (hi : i ≤ r.length) : (zEls i r).all (·.all (CV.bd k)) = true := by
  unfold zEls
  rw [List.all_append, sEls_bd _ 1 k (by simp; omega), Bool.true_and]
  simp [List.all_replicate, zCel, CV.bd]
theorem zE_ren {i N : Nat} {r : List Sve} {x : Sve} (h : i < r.length) (hx : r[i]? = some x) (hN : i < N) : (zRow (i + 1) r).ren (pin (List.range (i + 1) ++ [N])) = ⟨82, 5, true, (zEls i r).set i (svN x N)⟩ := by
  simp only [Obj.ren, zRow, Obj.mk.injEq, true_and]
  rw [← zE_set hx, List.map_set]
  congr 1
  · refine (List.map_congr_left fun cs hcs => ?_).trans (List.map_id _)
    have := List.all_eq_true.1 (zE_all (k := i + 1) (Nat.lt_succ_self i) (Nat.le_of_lt h)) cs hcs
    exact (List.map_congr_left fun p hp => CV.ren_idn (fun m hm => pinM_le (by omega)) (List.all_eq_true.1 this p hp)).trans (List.map_id _)
  · simp [svN, CV.ren, pinM_top]
theorem ren_kRow (r : List ByteArray) (π : Nat → Nat) : (kRow r).ren π = kRow r := dRow_ren _ _ _ _
theorem svOs_rw {i N : Nat} {r : List Sve} {x : Sve} (h : i < r.length) (hx : r[i]? = some x) (hN : i < N) : ∀ m o, hpL (svOs (i + 1) r) m = some o → (m ≤ i ∧ upd (upd (hpL (svOs i r)) N (some (dRow 9 1 (x.rests.map strD)))) 0 (some ⟨82, 5, true, (zEls i r).set i (svN x N)⟩) m = some (o.ren (pin (List.range (i + 1) ++ [N]))) ∨ m = i + 1 ∧ upd (upd (hpL (svOs i r)) N (some (dRow 9 1 (x.rests.map strD)))) 0 (some ⟨82, 5, true, (zEls i r).set i (svN x N)⟩) N = some (o.ren (pin (List.range (i + 1) ++ [N])))) ∧ o.bd (i + 2) = true := by
  intro m o hm
  rw [hpL_get] at hm
  rcases m with _ | m
  · simp only [svOs, List.getElem?_cons_zero, Option.some.injEq] at hm
    subst hm
    exact ⟨.inl ⟨Nat.zero_le _, by rw [upd_same, zE_ren h hx hN]⟩, zE_all (by omega) (by omega)⟩
  · simp only [svOs, List.getElem?_cons_succ, List.getElem?_map] at hm
    obtain ⟨y, hy, ho⟩ := Option.map_eq_some_iff.1 hm
    obtain rfl := Option.some.inj ho
    refine ⟨?_, bd_kRow _ _⟩
    rw [ren_kRow]
    rw [List.getElem?_take] at hy
    split at hy
    · rename_i hlt
      by_cases e : m = i
      · subst e
        rw [hx] at hy; obtain rfl := Option.some.inj hy
        exact .inr ⟨rfl, by rw [upd_ne _ _ (by omega), upd_same]; rfl⟩
      · refine .inl ⟨by omega, ?_⟩
        rw [upd_ne _ _ (by omega), upd_ne _ _ (by omega), hpL_get]
        simp [svOs, List.getElem?_take, hy]
        omega
    · cases hy
def svF (r : List Sve) : List (Option Obj) := some ⟨82, 5, true, sEls 1 r⟩ :: r.map fun x => some (kRow x.rests)
theorem svF_os (r : List Sve) : svOs r.length r = svF r := by simp [svOs, svF, zRow, zEls]
theorem svF_len (r : List Sve) : (svF r).length = r.length + 1 := by simp [svF]
theorem svF_bd {r : List Sve} {m : Nat} {o : Obj} (h : hpL (svF r) m = some o) : m < r.length + 1 ∧ o.bd (r.length + 1) = true := by
  have hg := hpL_get.1 h
  refine ⟨by have := (List.getElem?_eq_some_iff.1 hg).1; rwa [svF_len] at this, ?_⟩
  rcases m with _ | m
  · simp only [svF, List.getElem?_cons_zero, Option.some.injEq] at hg
    subst hg
    exact sEls_bd r 1 _ (by omega)
  · simp only [svF, List.getElem?_cons_succ, List.getElem?_map] at hg
    obtain ⟨x, _, hx⟩ := Option.map_eq_some_iff.1 hg
    rw [← Option.some.inj hx]; exact bd_kRow _ _
theorem toSieveO_ac (x : Sve) (hl : x.rests.length ≤ 1048576) : AC Tryz.prog 79 [sveP x] noHp 0 ⟨.t (.agg [.d (.s (.string x.letters)), .d (.s (.string x.more)), .d (.s (.string x.first)), .h 0, .d (.s (.int .i64 x.keep))]), hpL [some (kRow x.rests)], 1⟩ := by
  have k := toStringSR_ac x.rests hl
  refine AC_of Tryz.func79 rfl Tryz.ntmps79 Tryz.results79 (by kernel_rfl) rfl ?_
  simp only [List.zipIdx, List.map, Nat.zero_add, Nat.reduceAdd]
  repeat (first | apply Aw_seq | apply Aw_block | apply Aw_skip | apply Aw_exit | refine Aw_condt rfl ?_ | refine Aw_condf rfl ?_ | ((first | refine qr ?_ | refine qd (by kernel_rfl) (by kernel_rfl) ?_); simp only [go_sem, jE, reduceIte, jA, jM, jS, jL, jD, jB]) | refine dk (by kernel_rfl) ?_ | (refine qx (call_N (L := []) (k) rfl (.cons (.nm rfl) (.nil)) (.inl rfl) rfl) (by simp only [go_sem, jE, reduceIte, jA, jM, jS, jL, jD, jB]; first | done | rfl) rfl (by simp only [go_sem, Nat.reduceLT]) ?_; simp only [go_sem, jE, reduceIte, jA, jM, jS, jL, jD, jB]))
  exact Aw_ret (retL (M := [17]) (.inl rfl) (by simp only [go_sem, jE, reduceIte, jA, jM, jS, jL, jD, jB]; first | done | rfl) rfl rfl (by rfl) (by simp only [go_sem, jE, reduceIte, jA, jM, jS, jL, jD, jB]; first | done | rfl | (and_intros <;> rfl)) (by decide) (by unfold idM; decide))
theorem toSieveSO_ac (r : List Sve) (hl : r.length ≤ 1048576) (he : ∀ e ∈ r, e.rests.length ≤ 1048576) : AC Tryz.prog 33 [svsT r] noHp 0 ⟨.t (.c (.h 0)), hpL (svF r), r.length + 1⟩ := by
  refine AC_of Tryz.func33 rfl Tryz.ntmps33 Tryz.results33 (by kernel_rfl) rfl ?_
  simp only [List.zipIdx, List.map, Nat.zero_add, Nat.reduceAdd]
  have t0 : ((r.length : Nat) : Int).toNat = r.length := rfl
  have t1 : (0 : Int) ≤ ((r.length : Nat) : Int) := by omega
  have t2 : ((r.length : Nat) : Int) ≤ 140737488355328 := by omega
  have t3 : decide (r.length * 80 ≤ 140737488355328) = true := decide_eq_true (by omega)
  have t4 := of_decide_eq_true t3
  have t5 := zE_0 r
  repeat (first | apply Aw_seq | apply Aw_block | apply Aw_skip | apply Aw_exit | refine Aw_condt rfl ?_ | refine Aw_condf rfl ?_ | ((first | refine qr ?_ | refine qd (by kernel_rfl) (by kernel_rfl) ?_); simp only [go_sem, jE, reduceIte, jA, jM, jS, jL, jD, jB, t0, t1, t2, t4]) | refine dk (by kernel_rfl) ?_)
  refine Aw.rw (rwL (l' := [(4, .t (iT (0 : Nat))), (3, .t (.c (.h 0))), (0, .t (svsT r))]) (os := [some (zRow 0 r)]) (M := [3]) (n' := 1) (by repeat (first | exact trivial | refine ⟨rfl, rfl, ?_⟩)) (by rfl) (by simp only [go_sem, jE, reduceIte, jA, jM, jS, jL, jD, jB, t5, zE_r0, zE_a0]; first | done | rfl) (by decide) (by unfold idM; decide)) ?_
  refine Aw_loop_rw (ι := { j : Nat // j ≤ r.length }) (fun j => S [(4, .t (iT (j.1 : Nat))), (3, .t (.c (.h 0))), (0, .t (svsT r))] (hpL (svOs j.1 r)) (j.1 + 1)) (fun j => r.length - j.1) ⟨0, Nat.zero_le _⟩ ?_
  rintro ⟨i, hi⟩
  dsimp only
  by_cases hlt : i < r.length
  · have h1 : (i : Int) < (r.length : Int) := by omega
    have h2 := wrap_succ hlt (by omega)
    obtain ⟨e, hx⟩ : ∃ e, r[i]? = some e := ⟨_, List.getElem?_eq_getElem hlt⟩
    have kk := toSieveO_ac e (he e (List.mem_of_getElem? hx))
    have g0 : hpL (svOs i r) 0 = some (zRow i r) := rfl
    have g1 := zE_len hi
    have g2 := zE_get hlt
    have g4 : (0 = i + 1) = False := eq_false (by omega)
    repeat (first | apply Aw_seq | apply Aw_block | apply Aw_skip | apply Aw_exit | refine Aw_condt rfl ?_ | refine Aw_condf rfl ?_ | ((first | refine qr ?_ | refine qd (by kernel_rfl) (by kernel_rfl) ?_); simp only [go_sem, jE, reduceIte, jA, jM, jS, jL, jD, jB, h1, h2, hx, hlt, g0, g1, g2, g4, t0]) | refine dk (by kernel_rfl) ?_ | (refine qx (call_N (L := []) (kk) rfl (.cons (.nm rfl) (.nil)) (.inl rfl) rfl) (by simp only [go_sem, jE, reduceIte, jA, jM, jS, jL, jD, jB, h1, h2, hx, hlt, g0, g1, g2, g4, t0]; first | done | rfl) rfl (by simp only [go_sem, Nat.reduceLT]) ?_; simp only [go_sem, jE, reduceIte, jA, jM, jS, jL, jD, jB, h1, h2, hx, hlt, g0, g1, g2, g4, t0]))
    refine ⟨⟨i + 1, hlt⟩, _, ?_, rwOne (i := i) (N := i + 1 + 1 + 1 + 1 + 1 + 1 + 1 + 1 + 1 + 1 + 1) (by omega) (by repeat (first | exact trivial | refine ⟨rfl, ?_⟩)) (by simp [AV.bd, TV.bd, CV.bd]) (svOs_rw hlt hx (by omega)) (Nat.le_refl _)⟩
    show r.length - (i + 1) < r.length - i; omega
  · have h1 : ¬ (i : Int) < (r.length : Int) := by omega
    obtain rfl : i = r.length := by omega
    repeat (first | apply Aw_seq | apply Aw_block | apply Aw_skip | apply Aw_exit | refine Aw_condt rfl ?_ | refine Aw_condf rfl ?_ | ((first | refine qr ?_ | refine qd (by kernel_rfl) (by kernel_rfl) ?_); simp only [go_sem, jE, reduceIte, jA, jM, jS, jL, jD, jB, h1]) | refine dk (by kernel_rfl) ?_)
    rw [svF_os]
    exact Aw_ret (retI (.inl rfl) rfl (by simp [AV.bd, TV.bd, CV.bd]) (fun m o hm => ⟨hm, svF_bd hm⟩) (Nat.zero_le _))
def markSv (q : Nat) (x : Sve) : Sve := ⟨markT q, markT (q + 1), markT (q + 2), mStrs (q + 3) x.rests.length, ((q + 3 + x.rests.length : Nat) : Int)⟩
def kS (q : Nat) (l : List Sve) : Nat := l.foldl (fun k x => k + 4 + x.rests.length) q
def markSs : Nat → List Sve → List Sve
  | _, [] => []
  | q, x :: l => markSv q x :: markSs (q + 4 + x.rests.length) l
theorem kS_app (q : Nat) (a b : List Sve) : kS q (a ++ b) = kS (kS q a) b := by simp [kS]
theorem kS_le : ∀ (l : List Sve) (q : Nat), q ≤ kS q l
  | [], q => Nat.le_refl _
  | x :: l, q => Nat.le_trans (by omega) (kS_le l (q + 4 + x.rests.length))
theorem kS_take (l : List Sve) (q i : Nat) : kS q (l.take i) ≤ kS q l := by
  conv => rhs; rw [← List.take_append_drop i l, kS_app]
  exact kS_le _ _
theorem kS_succ {l : List Sve} {q i : Nat} {x : Sve} (h : l[i]? = some x) : kS q (l.take (i + 1)) = kS q (l.take i) + 4 + x.rests.length := by
  rw [List.take_add_one, h, kS_app]; rfl
theorem markSs_app : ∀ (a b : List Sve) (q : Nat), markSs q (a ++ b) = markSs q a ++ markSs (kS q a) b
  | [], b, q => rfl
  | x :: a, b, q => by simp only [List.cons_append, markSs]; rw [markSs_app a b]; rfl
theorem markSs_len : ∀ (l : List Sve) (q : Nat), (markSs q l).length = l.length
  | [], _ => rfl
  | x :: l, q => by simp only [markSs, List.length_cons]; rw [markSs_len l]
def mSs (q i : Nat) (r : List Sve) : List Sve := markSs q (r.take i) ++ r.drop i
theorem mSs_0 (q : Nat) (r : List Sve) : mSs q 0 r = r := by simp [mSs, markSs]
theorem mSs_end (q : Nat) (r : List Sve) : mSs q r.length r = markSs q r := by simp [mSs]
theorem mSs_len {q i : Nat} {r : List Sve} : (mSs q i r).length = r.length := by simp [mSs, markSs_len]; omega
theorem mSs_get {q i : Nat} {r : List Sve} {x : Sve} (h : r[i]? = some x) : (mSs q i r)[i]? = some x := by
  have hi := (List.getElem?_eq_some_iff.1 h).1
  unfold mSs
  rw [List.getElem?_append_right (by rw [markSs_len]; simp; omega), markSs_len, drop_get h]
  simp [Nat.min_eq_left (Nat.le_of_lt hi)]
theorem mSs_set {q i : Nat} {r : List Sve} {x : Sve} (h : r[i]? = some x) : (mSs q i r).set i (markSv (kS q (r.take i)) x) = mSs q (i + 1) r := by
  have hi := (List.getElem?_eq_some_iff.1 h).1
  unfold mSs
  rw [List.set_append_right _ _ (by rw [markSs_len]; simp; omega), markSs_len, drop_get h, List.take_add_one, h, markSs_app]
  simp [Nat.min_eq_left (Nat.le_of_lt hi), markSs]
theorem svF_get {r : List Sve} {i : Nat} {x : Sve} (h : r[i]? = some x) : hpL (svF r) (i + 1) = some (kRow x.rests) := by
  rw [hpL_get]; simp [svF, h]
theorem svF_set {r : List Sve} {i : Nat} {x : Sve} (h : i < r.length) : upd (upd (hpL (svF r)) 0 (some ⟨82, 5, true, (sEls 1 r).set i (svN x (i + 1))⟩)) (i + 1) (some (kRow x.rests)) = hpL (svF (r.set i x)) := by
  rw [hpL_set (by simp [svF]), hpL_set (by simp [svF]; omega), show i + 1 = 1 + i by omega, sEls_set]
  simp [svF, List.map_set, show 1 + i = i + 1 by omega]
theorem markSieveSO_ac (r : List Sve) (q : Nat) (hl : r.length ≤ 1048576) (hq : kS q r ≤ 1099511627776) : AC Tryz.prog 42 [.c (.h 0), iT q] (hpL (svF r)) (r.length + 1) ⟨.t (iT ((kS q r : Nat) : Int)), hpL (svF (markSs q r)), r.length + 1⟩ := by
  refine AC_of Tryz.func42 rfl Tryz.ntmps42 Tryz.results42 (by kernel_rfl) rfl ?_
  simp only [List.zipIdx, List.map, Nat.zero_add, Nat.reduceAdd]
  repeat (first | apply Aw_seq | apply Aw_block | apply Aw_skip | apply Aw_exit | refine Aw_condt rfl ?_ | refine Aw_condf rfl ?_ | ((first | refine qr ?_ | refine qd (by kernel_rfl) (by kernel_rfl) ?_); simp only [go_sem, jE, reduceIte, jA, jM, jS, jL, jD, jB]) | refine dk (by kernel_rfl) ?_)
  have start : ∀ {P : Program} {N k : Nat} {x : Code} {Q : Exit → St → Prop}, Aw P N k x Q (S [(5, .t (iT (0 : Nat))), (1, .t (iT ((kS q (r.take 0) : Nat) : Int))), (0, .t (.c (.h 0)))] (hpL (svF (mSs q 0 r))) (r.length + 1)) → Aw P N k x Q (S [(5, .t (iT (0 : Nat))), (1, .t (iT (q : Nat))), (0, .t (.c (.h 0)))] (hpL (svF r)) (r.length + 1)) := by
    intro P N k x Q h
    rw [mSs_0] at h; exact h
  refine Aw.rw (rwI (l' := [(5, .t (iT (0 : Nat))), (1, .t (iT (q : Nat))), (0, .t (.c (.h 0)))]) (hp' := hpL (svF r)) (m' := r.length + 1) (n' := r.length + 1) (by repeat (first | exact trivial | refine ⟨rfl, ?_⟩)) (by simp [AV.bd, TV.bd, CV.bd]) (fun m o hm => ⟨hm, svF_bd hm⟩) (Nat.le_refl _) (Nat.le_refl _)) ?_
  refine start ?_
  refine Aw_loop_rw (ι := { j : Nat // j ≤ r.length }) (fun j => S [(5, .t (iT (j.1 : Nat))), (1, .t (iT ((kS q (r.take j.1) : Nat) : Int))), (0, .t (.c (.h 0)))] (hpL (svF (mSs q j.1 r))) (r.length + 1)) (fun j => r.length - j.1) ⟨0, Nat.zero_le _⟩ ?_
  rintro ⟨i, hi⟩
  dsimp only
  have gl : (mSs q i r).length = r.length := mSs_len
  by_cases hlt : i < r.length
  · have h1 : (i : Int) < (r.length : Int) := by omega
    have h2 := wrap_succ hlt (by omega)
    obtain ⟨e, hx⟩ : ∃ e, r[i]? = some e := ⟨_, List.getElem?_eq_getElem hlt⟩
    have hk := kS_succ (q := q) hx
    have hle := kS_take r q (i + 1)
    obtain ⟨p, hp⟩ : ∃ p, p = kS q (r.take i) := ⟨_, rfl⟩
    have hm := mSs_set (q := q) hx
    rw [← hp] at hk hm ⊢
    have w1 : IntKind.i64.wrap ((p : Int) + 1) = ((p + 1 : Nat) : Int) := wrap_succ (m := p + 1) (by omega) (by omega)
    have w2 : IntKind.i64.wrap (((p + 1 : Nat) : Int) + 1) = ((p + 2 : Nat) : Int) := wrap_succ (m := p + 2) (by omega) (by omega)
    have w3 : IntKind.i64.wrap (((p + 2 : Nat) : Int) + 1) = ((p + 3 : Nat) : Int) := wrap_succ (m := p + 3) (by omega) (by omega)
    have w4 : IntKind.i64.wrap (((p + 3 + e.rests.length : Nat) : Int) + 1) = ((kS q (r.take (i + 1)) : Nat) : Int) := by rw [hk, show p + 4 + e.rests.length = p + 3 + e.rests.length + 1 by omega]; exact wrap_succ (m := p + 3 + e.rests.length + 1) (by omega) (by omega)
    have k0 := markText_ac p (by omega)
    have k1 := markText_ac (p + 1) (by omega)
    have k2 := markText_ac (p + 2) (by omega)
    have k3 := markStringS_ac e.rests (p + 3) (by omega)
    have g0 : hpL (svF (mSs q i r)) 0 = some ⟨82, 5, true, sEls 1 (mSs q i r)⟩ := rfl
    have g1 : (sEls 1 (mSs q i r)).length = r.length := by rw [sEls_len, gl]
    have g2 := sEls_get _ 1 i (mSs_get (q := q) hx)
    rw [show 1 + i = i + 1 by omega] at g2
    unfold svN at g2
    have g3 := svF_get (mSs_get (q := q) hx)
    have g4 := set_get (L := sEls 1 (mSs q i r)) (i := i) (by omega)
    have g5 := svF_set (r := mSs q i r) (x := markSv p e) (i := i) (by omega)
    rw [hm, r_kRow] at g5
    unfold svN markSv at g5
    dsimp only at g5
    have g6 : (0 = i + 1) = False := eq_false (by omega)
    have g7 : (i + 1 = 0) = False := eq_false (by omega)
    have hh : ∀ x : Option Obj, HandL (upd (hpL (svF (mSs q i r))) 0 x) [i + 1] [i + 1] [some (dRow 9 1 (e.rests.map strD))] := fun x => ⟨by rw [upd_ne _ _ (by omega), g3, dRow_ren]; rfl, dRow_bd _ _ _ _, trivial⟩
    repeat (first | apply Aw_seq | apply Aw_block | apply Aw_skip | apply Aw_exit | refine Aw_condt rfl ?_ | refine Aw_condf rfl ?_ | ((first | refine qr ?_ | refine qd (by kernel_rfl) (by kernel_rfl) ?_); simp only [go_sem, jE, reduceIte, jA, jM, jS, jL, jD, jB, h1, h2, w1, w2, w3, w4, hlt, g0, g1, g2, g4, g6, g7, three0, List.length_set, List.set_set, upd_upd]) | refine dk (by kernel_rfl) ?_ | (refine qp (k0) (by simp only [go_sem, jE, reduceIte, jA, jM, jS, jL, jD, jB, h1, h2, w1, w2, w3, w4, hlt, g0, g1, g2, g4, g6, g7, three0, List.length_set, List.set_set, upd_upd]; first | done | rfl) rfl (by simp only [go_sem, Nat.reduceLT]) rfl rfl ?_; simp only [go_sem, jE, reduceIte, jA, jM, jS, jL, jD, jB, h1, h2, w1, w2, w3, w4, hlt, g0, g1, g2, g4, g6, g7, three0, List.length_set, List.set_set, upd_upd]) | (refine qp (k1) (by simp only [go_sem, jE, reduceIte, jA, jM, jS, jL, jD, jB, h1, h2, w1, w2, w3, w4, hlt, g0, g1, g2, g4, g6, g7, three0, List.length_set, List.set_set, upd_upd]; first | done | rfl) rfl (by simp only [go_sem, Nat.reduceLT]) rfl rfl ?_; simp only [go_sem, jE, reduceIte, jA, jM, jS, jL, jD, jB, h1, h2, w1, w2, w3, w4, hlt, g0, g1, g2, g4, g6, g7, three0, List.length_set, List.set_set, upd_upd]) | (refine qp (k2) (by simp only [go_sem, jE, reduceIte, jA, jM, jS, jL, jD, jB, h1, h2, w1, w2, w3, w4, hlt, g0, g1, g2, g4, g6, g7, three0, List.length_set, List.set_set, upd_upd]; first | done | rfl) rfl (by simp only [go_sem, Nat.reduceLT]) rfl rfl ?_; simp only [go_sem, jE, reduceIte, jA, jM, jS, jL, jD, jB, h1, h2, w1, w2, w3, w4, hlt, g0, g1, g2, g4, g6, g7, three0, List.length_set, List.set_set, upd_upd]) | (refine qx (call_L (N' := [i + 1]) (L := []) k3 rfl (.cons (.nm rfl) (.cons (.nm rfl) .nil)) (nd1 _) (lt1 (by omega)) (fun _ h => nomatch h) (hh _) (.inl rfl) rfl (Nat.le_refl _)) (by simp only [go_sem, jE, reduceIte, jA, jM, jS, jL, jD, jB, h1, h2, w1, w2, w3, w4, hlt, g0, g1, g2, g4, g6, g7, three0, List.length_set, List.set_set, upd_upd]; first | done | rfl) rfl (by simp only [go_sem, Nat.reduceLT]) ?_; simp only [go_sem, jE, reduceIte, jA, jM, jS, jL, jD, jB, h1, h2, w1, w2, w3, w4, hlt, g0, g1, g2, g4, g6, g7, three0, List.length_set, List.set_set, upd_upd]))
    rw [upd_swap _ (show i + 1 ≠ 0 by omega), upd_upd, g5]
    refine ⟨⟨i + 1, hlt⟩, _, ?_, rwI (m' := r.length + 1) (by repeat (first | exact trivial | refine ⟨rfl, ?_⟩)) (by simp [AV.bd, TV.bd, CV.bd]) (fun m o hm => ⟨hm, by have := svF_bd hm; rwa [mSs_len] at this⟩) (Nat.le_refl _) (Nat.le_refl _)⟩
    show r.length - (i + 1) < r.length - i; omega
  · have h1 : ¬ (i : Int) < (r.length : Int) := by omega
    obtain rfl : i = r.length := by omega
    have g0 : hpL (svF (mSs q r.length r)) 0 = some ⟨82, 5, true, sEls 1 (mSs q r.length r)⟩ := rfl
    have g1 : (sEls 1 (mSs q r.length r)).length = r.length := by rw [sEls_len, gl]
    repeat (first | apply Aw_seq | apply Aw_block | apply Aw_skip | apply Aw_exit | refine Aw_condt rfl ?_ | refine Aw_condf rfl ?_ | ((first | refine qr ?_ | refine qd (by kernel_rfl) (by kernel_rfl) ?_); simp only [go_sem, jE, reduceIte, jA, jM, jS, jL, jD, jB, h1, g0, g1]) | refine dk (by kernel_rfl) ?_)
    rw [mSs_end, List.take_length]
    refine Aw_ret (retI (.inl rfl) rfl rfl (fun m o hm => ⟨hm, ?_⟩) (Nat.le_refl _))
    have := svF_bd hm
    rwa [markSs_len] at this
section
variable {f g h : Nat → Nat} {m n : Nat}
theorem PV.ren_cm (e : ∀ i, i < m → g (f i) = h i) {x : PV} (hb : x.bd m = true) : (x.ren f).ren g = x.ren h := by
  cases x with
  | d x => rfl
  | ph i a b => simp [PV.bd] at hb; simp [PV.ren, e i hb]
theorem CV.ren_cm (e : ∀ i, i < m → g (f i) = h i) {x : CV} (hb : x.bd m = true) : (x.ren f).ren g = x.ren h := by
  cases x with
  | h i => simp [CV.bd] at hb; simp [CV.ren, e i hb]
  | ph i a b => simp [CV.bd] at hb; simp [CV.ren, e i hb]
  | fn f cap =>
    simp only [CV.bd, List.all_eq_true] at hb
    simp only [CV.ren, CV.fn.injEq, true_and, List.map_map]
    exact List.map_congr_left fun p hp => PV.ren_cm e (hb p hp)
  | _ => rfl
theorem Obj.ren_cm (e : ∀ i, i < m → g (f i) = h i) {o : Obj} (hb : o.bd m = true) : (o.ren f).ren g = o.ren h := by
  obtain ⟨a, k, row, els⟩ := o
  simp only [Obj.bd, List.all_eq_true] at hb
  simp only [Obj.ren, Obj.mk.injEq, true_and, List.map_map]
  exact List.map_congr_left fun cs hcs => by
    simp only [Function.comp, List.map_map]
    exact List.map_congr_left fun p hp => CV.ren_cm e (hb cs hcs p hp)
theorem Obj.ren_cg (e : ∀ i, i < m → f i = h i) {o : Obj} (hb : o.bd m = true) : o.ren f = o.ren h := by
  have := Obj.ren_cm (f := fun i => i) (g := f) (h := h) (m := m) e hb
  rwa [Obj.ren_idn (fun _ _ => rfl) hb] at this
theorem PV.bd_ren (e : ∀ i, i < m → f i < n) {x : PV} (hb : x.bd m = true) : (x.ren f).bd n = true := by
  cases x with
  | d x => rfl
  | ph i a b => simp [PV.bd] at hb; simp [PV.ren, PV.bd, e i hb]
theorem CV.bd_ren (e : ∀ i, i < m → f i < n) {x : CV} (hb : x.bd m = true) : (x.ren f).bd n = true := by
  cases x with
  | h i => simp [CV.bd] at hb; simp [CV.ren, CV.bd, e i hb]
  | ph i a b => simp [CV.bd] at hb; simp [CV.ren, CV.bd, e i hb]
  | fn f cap =>
    simp only [CV.bd, List.all_eq_true] at hb
    simp only [CV.ren, CV.bd, List.all_map, List.all_eq_true]
    exact fun p hp => PV.bd_ren e (hb p hp)
  | _ => rfl
theorem Obj.bd_ren (e : ∀ i, i < m → f i < n) {o : Obj} (hb : o.bd m = true) : (o.ren f).bd n = true := by
  simp only [Obj.bd, List.all_eq_true] at hb
  simp only [Obj.bd, Obj.ren, List.all_map, List.all_eq_true, Function.comp]
  exact fun cs hcs p hp => CV.bd_ren e (hb cs hcs p hp)
theorem Obj.bd_mono (hmn : m ≤ n) {o : Obj} (hb : o.bd m = true) : o.bd n = true := by
  simp only [Obj.bd, List.all_eq_true] at hb ⊢
  exact fun cs hcs p hp => bdC_mono hmn (hb cs hcs p hp)
end
theorem idB {k : Nat} {M : List Nat} (h : ((List.range k).all fun m => decide (m < M.length) && Nat.beq (pin M m) m) = true) : idM k M := fun m hm => by
  have := List.all_eq_true.1 h m (List.mem_range.2 hm)
  simp only [Bool.and_eq_true, decide_eq_true_eq] at this
  exact ⟨this.1, Nat.eq_of_beq_eq_true this.2⟩
/-- Objects under names that begin at b. -/
def shO (b : Nat) (os : List (Option Obj)) : List (Option Obj) := os.map (·.map (Obj.ren (b + ·)))
theorem shO_len (b : Nat) (os : List (Option Obj)) : (shO b os).length = os.length := by simp [shO]
theorem hpL_map (f : Obj → Obj) (os : List (Option Obj)) (m : Nat) : hpL (os.map (·.map f)) m = (hpL os m).map f := by
  simp only [hpL, List.getElem?_map]
  cases os[m]? <;> rfl
theorem hpL_sh (b : Nat) (os : List (Option Obj)) (m : Nat) : hpL (shO b os) m = (hpL os m).map (Obj.ren (b + ·)) := hpL_map _ _ _
theorem hpL_lt {os : List (Option Obj)} {m : Nat} {o : Obj} (h : hpL os m = some o) : m < os.length := by
  rcases Nat.lt_or_ge m os.length with h1 | h1
  · exact h1
  · rw [hpL_none h1] at h; cases h
theorem hpL_l {a b : List (Option Obj)} {m : Nat} (h : m < a.length) : hpL (a ++ b) m = hpL a m := by
  unfold hpL; rw [List.getElem?_append_left h]
theorem hpL_r {a b : List (Option Obj)} {j n : Nat} (h : a.length = n) : hpL (a ++ b) (n + j) = hpL b j := by
  unfold hpL; rw [List.getElem?_append_right (by omega), h, Nat.add_sub_cancel_left]
theorem app_cases {os1 os2 : List (Option Obj)} {N m : Nat} {o : Obj} (e1 : os1.length = N) (h : hpL (os1 ++ shO N os2) m = some o) : (m < N ∧ hpL os1 m = some o) ∨ ∃ j o', m = N + j ∧ j < os2.length ∧ hpL os2 j = some o' ∧ o = o'.ren (N + ·) := by
  rcases Nat.lt_or_ge m N with h1 | h1
  · rw [hpL_l (by omega)] at h
    exact .inl ⟨h1, h⟩
  · obtain ⟨j, rfl⟩ : ∃ j, m = N + j := ⟨m - N, by omega⟩
    rw [hpL_r e1, hpL_sh] at h
    obtain ⟨o', h2, h3⟩ := Option.map_eq_some_iff.1 h
    exact .inr ⟨j, o', rfl, hpL_lt h2, h2, h3.symm⟩
def BdO (os : List (Option Obj)) (n : Nat) : Prop := ∀ m o, hpL os m = some o → o.bd n = true
theorem bdApp {os1 os2 : List (Option Obj)} {N N2 : Nat} (e1 : os1.length = N) (h1 : BdO os1 N) (h2 : BdO os2 N2) : BdO (os1 ++ shO N os2) (N + N2) := fun m o hm => by
  rcases app_cases e1 hm with ⟨_, h⟩ | ⟨j, o', _, _, h, rfl⟩
  · exact Obj.bd_mono (by omega) (h1 m o h)
  · exact Obj.bd_ren (fun i hi => by omega) (h2 j o' h)
theorem bdOne {os : List (Option Obj)} {N : Nat} {x : Obj} (h : BdO os N) (hx : ∀ k, x.bd k = true) : BdO (os ++ [some x]) (N + 1) := fun m o hm => by
  rcases Nat.lt_or_ge m os.length with h1 | h1
  · rw [hpL_l h1] at hm; exact Obj.bd_mono (by omega) (h m o hm)
  · obtain ⟨j, rfl⟩ : ∃ j, m = os.length + j := ⟨m - os.length, by omega⟩
    rw [hpL_r rfl] at hm
    rcases j with _ | j
    · rw [l_c0] at hm; obtain rfl := Option.some.inj hm; exact hx _
    · rw [l_c1, l_n] at hm; cases hm
theorem pin_l {a b : List Nat} {m : Nat} (h : m < a.length) : pin (a ++ b) m = pin a m := by simp [pin, List.getD, List.getElem?_append_left h]
theorem pin_r {a b : List Nat} {n j : Nat} (h : a.length = n) : pin (a ++ b) (n + j) = pin b j := by subst h; simp [pin, List.getD, List.getElem?_append_right]
theorem pin_g {p n j : Nat} (h : j < n) : pin (List.range' p n) j = p + j := by simp [pin, List.getD, List.getElem?_range' h]
/-- More objects, as a call of this function leaves them. -/
theorem selApp {hp : Hp} {M : List Nat} {os1 os2 : List (Option Obj)} {p N N2 : Nat} (h1 : HpSel M hp (hpL os1)) (e0 : M.length = N) (e1 : os1.length = N) (e2 : os2.length = N2) (hlt : ∀ m ∈ M, m < p) (b2 : BdO os2 N2) :
    HpSel (M ++ List.range' p N2) (updL hp (List.range' p N2) (os2.map (·.map (Obj.ren (pout [] p))))) (hpL (os1 ++ shO N os2)) := by
  have hl : (M ++ List.range' p N2).length = N + N2 := by simp [e0]
  have left : ∀ m, m < N → pin (M ++ List.range' p N2) m = pin M m := fun m hm => pin_l (by omega)
  have right : ∀ j, j < N2 → pin (M ++ List.range' p N2) (N + j) = p + j := fun j hj => by rw [pin_r e0, pin_g hj]
  have lp : ∀ m, m < N → pin M m < p := fun m hm => hlt _ (pin_mem (by omega))
  constructor
  · intro m m' o o' hm hm' q
    rcases app_cases e1 hm with ⟨a, a1⟩ | ⟨j, _, rfl, a, _⟩ <;> rcases app_cases e1 hm' with ⟨b, c1⟩ | ⟨j', _, rfl, b, _⟩
    · rw [left m a, left m' b] at q
      exact h1.inj m m' o o' a1 c1 q
    · rw [left m a, right j' (by omega)] at q
      have := lp m a; omega
    · rw [left m' b, right j (by omega)] at q
      have := lp m' b; omega
    · rw [right j (by omega), right j' (by omega)] at q; omega
  · intro m o hm
    rcases app_cases e1 hm with ⟨a, a1⟩ | ⟨j, o', rfl, a, a1, rfl⟩
    · obtain ⟨q1, q2, q3⟩ := h1.obj m o a1
      refine ⟨by omega, ?_, Obj.bd_mono (by omega) q3⟩
      rw [left m a, updL_not (fun hc => by have := (List.mem_range'_1.1 hc).1; have := lp m a; omega), q2]
      congr 1
      exact Obj.ren_cg (fun i hi => (left i (by omega)).symm) q3
    · have hj : j < N2 := by omega
      refine ⟨by omega, ?_, by rw [hl]; exact Obj.bd_ren (fun i hi => by omega) (b2 j o' a1)⟩
      rw [right j hj, updL_get List.nodup_range' (i := j) (by rw [List.getElem?_range' hj]; simp) (by simp [e2]; exact hj), hpL_map, a1, Obj.ren_cm (h := pout [] p) (fun i hi => by rw [right i hi, q_n]) (b2 j o' a1)]
      rfl
/-- One more, that names none. -/
theorem selOne {hp : Hp} {M : List Nat} {os : List (Option Obj)} {p N : Nat} {x : Obj} (h1 : HpSel M hp (hpL os)) (e0 : M.length = N) (e1 : os.length = N) (hlt : ∀ m ∈ M, m < p) (hr : ∀ π, x.ren π = x) (hx : ∀ k, x.bd k = true) :
    HpSel (M ++ [p]) (upd hp p (some x)) (hpL (os ++ [some x])) := by
  have h := selApp (p := p) (os2 := [some x]) (N2 := 1) h1 e0 e1 rfl hlt (fun m o hm => by
    rcases m with _ | m
    · rw [l_c0] at hm; obtain rfl := Option.some.inj hm; exact hx _
    · rw [l_c1, l_n] at hm; cases hm)
  have e : shO N [some x] = [some x] := by simp [shO, hr]
  rw [e] at h
  have e2 : updL hp (List.range' p 1) ([some x].map (·.map (Obj.ren (pout [] p)))) = upd hp p (some x) := by
    simp only [List.map, Option.map, hr]; rfl
  rw [e2] at h
  exact h
theorem selNil {hp : Hp} : HpSel [] hp (hpL []) := by
  constructor
  · intro m m' o o' h; rw [l_n] at h; cases h
  · intro m o h; rw [l_n] at h; cases h
/-- A call that gets objects one behind the other and leaves none. -/
def hole (b m : Nat) (hp : Hp) : Hp := fun q => if b ≤ q ∧ q < b + m then none else hp q
theorem hole_ne {b m q : Nat} {hp : Hp} (h : ¬ (b ≤ q ∧ q < b + m)) : hole b m hp q = hp q := if_neg h
/-- A block of objects, as it lies. -/
def BlkO (hp : Hp) (b : Nat) (os : List (Option Obj)) : Prop := ∀ j, j < os.length → ∃ o, os[j]? = some (some o) ∧ hp (b + j) = some (o.ren (b + ·)) ∧ o.bd os.length = true
theorem BlkO.hole {hp : Hp} {b c m : Nat} {os : List (Option Obj)} (h : BlkO hp b os) (hd : c + m ≤ b ∨ b + os.length ≤ c) : BlkO (hole c m hp) b os := fun j hj => by
  obtain ⟨o, h1, h2, h3⟩ := h j hj
  exact ⟨o, h1, by rw [hole_ne (by omega)]; exact h2, h3⟩
theorem BlkO.upd {hp : Hp} {b q : Nat} {x : Option Obj} {os : List (Option Obj)} (h : BlkO hp b os) (hd : q < b ∨ b + os.length ≤ q) : BlkO (upd hp q x) b os := fun j hj => by
  obtain ⟨o, h1, h2, h3⟩ := h j hj
  exact ⟨o, h1, by rw [upd_ne _ _ (by omega)]; exact h2, h3⟩
theorem selSkip {hp hp1 : Hp} {M : List Nat} {q : Nat} {x : Option Obj} (h : HpSel M hp hp1) (hq : ∀ m ∈ M, m ≠ q) : HpSel M (upd hp q x) hp1 :=
  ⟨h.inj, fun m o hm => by
    obtain ⟨h1, h2, h3⟩ := h.obj m o hm
    exact ⟨h1, by rw [upd_ne _ _ (hq _ (pin_mem h1))]; exact h2, h3⟩⟩
theorem retM {P : Program} {l : List (Nat × AV)} {hp hp' : Hp} {n n' : Nat} {rs : List ResultVar} {e : Exit} {x : AV} {M : List Nat} (he : e = .ret ∨ e = .normal) (h : resA P rs (look l) hp = some (x.ren (pin M))) (hb : x.bd M.length = true) (hs : HpSel M hp hp') (hn : M.length ≤ n') :
    RetQ P rs 0 ⟨x, hp', n'⟩ e (S l hp n) := ⟨he.symm, M, ⟨h, hb, hs, hn, fun m hm => absurd hm (by omega)⟩⟩
theorem call_B {P : Program} {hp : Hp} {n : Nat} {f : FuncId} {va : List AV} {ta tb : List TV} {os : List (Option Obj)} {x : AV} {b N : Nat} (e : os.length = N) (hc : AC P f tb (hpL os) N ⟨x, noHp, N⟩) (hv : va = ta.map AV.t) (hB : All2 (Arg hp (List.range' b N) []) ta tb) (hs : BlkO hp b os) (hx : x.bd 0 = true) :
    CallOk P f hp va n x (hole b N hp) n (List.range' b N ++ []) (List.range' b N) := by
  subst e
  have hl : (List.range' b os.length).length = os.length := List.length_range'
  refine ⟨ta, tb, hpL os, List.range' b os.length, [], ⟨x, noHp, os.length⟩, hv, hB, ⟨List.nodup_range', by simp, fun j o hj => ?_, fun j hj => ?_⟩, .inl rfl, by rw [hl]; exact hc, ?_, ?_, ?_, rfl, rfl⟩
  · rw [hl]; exact hpL_lt hj
  · rw [hl] at hj
    obtain ⟨o, h1, h2, h3⟩ := hs j hj
    refine ⟨o, by simp [hpL, h1], ?_, by rw [hl]; exact h3⟩
    rw [pin_g hj, h2, Obj.ren_cg (fun i hi => (pin_g hi).symm) h3]
  · exact (AV.ren_id (n := 0) (fun m hm => absurd hm (by omega)) hx).symm
  · funext q
    unfold hole
    show _ = hpOut hp (List.range' b os.length) n (os.length - (List.range' b os.length).length) noHp q
    unfold hpOut
    rw [hl, if_neg (c := inR n (os.length - os.length) q) (by unfold inR; omega)]
    by_cases h : b ≤ q ∧ q < b + os.length
    · rw [if_pos h, if_pos (List.mem_range'_1.2 h)]; rfl
    · rw [if_neg h, if_neg (fun hm => h (List.mem_range'_1.1 hm))]
  · rw [hl]; simp
theorem arg_B {hp : Hp} {b n : Nat} {L : List Nat} (h : 0 < n) : Arg hp (List.range' b n) L (.c (.h b)) (.c (.h 0)) := by
  have := Arg.nm (hp := hp) (N := List.range' b n) (L := L) (b := .c (.h 0)) (by simpa [TV.bd, CV.bd] using h)
  rw [show (TV.c (.h 0)).ren (pin (List.range' b n)) = .c (.h b) by simp only [TV.ren, CV.ren, pin_g h]; rfl] at this
  exact this
-- the rows
def hEls (b n : Nat) : List (List CV) := (List.range' b n).map fun j => [.h j]
theorem hEls_succ (b n : Nat) : hEls b (n + 1) = [.h b] :: hEls (b + 1) n := rfl
theorem pRow_sh (b n : Nat) : (pRow n n).ren (b + ·) = ⟨29, 1, true, hEls (b + 1) n⟩ := by
  simp only [pRow, Obj.ren, Obj.mk.injEq, true_and, pEls, hEls, Nat.sub_self, List.replicate_zero, List.append_nil, List.map_map]
  rw [List.range_eq_range', ← List.map_add_range' (n := n) (a := b + 1) (s := 0)]
  rw [List.map_map]
  exact List.map_congr_left fun j _ => by simp [CV.ren]; omega
theorem sEls_sh (b : Nat) : ∀ (r : List Sve) (c : Nat), (sEls c r).map (·.map (CV.ren (b + ·))) = sEls (b + c) r
  | [], c => rfl
  | x :: r, c => by simp only [sEls, List.map_cons, sEls_sh b r]; rfl
theorem lvF_blk (r : List (List Ent)) (j : Nat) (hj : j < (lvF r).length) : ∃ o, (lvF r)[j]? = some (some o) ∧ o.bd (lvF r).length = true := by
  rcases j with _ | j
  · exact ⟨_, rfl, by rw [lvF_len]; exact pE_all (by omega) (Nat.le_refl _)⟩
  · rw [lvF_len] at hj
    exact ⟨eRow (r[j]'(by omega)), by simp [lvF, List.getElem?_eq_getElem (show j < r.length by omega)], bd_eRow _ _⟩
theorem svF_blk (r : List Sve) (j : Nat) (hj : j < (svF r).length) : ∃ o, (svF r)[j]? = some (some o) ∧ o.bd (svF r).length = true := by
  rcases j with _ | j
  · exact ⟨_, rfl, by rw [svF_len]; exact sEls_bd _ _ _ (by omega)⟩
  · rw [svF_len] at hj
    exact ⟨kRow (r[j]'(by omega)).rests, by simp [svF, List.getElem?_eq_getElem (show j < r.length by omega)], bd_kRow _ _⟩
theorem lvF_bdO (r : List (List Ent)) : BdO (lvF r) (r.length + 1) := fun m o h => (lvF_bd h).2
theorem svF_bdO (r : List Sve) : BdO (svF r) (r.length + 1) := fun m o h => (svF_bd h).2
/-- The rows of a store: its top, its levels, its sieves, its times. -/
def gK (s : Sto) : Nat := s.levels.length + s.sieves.length + 4
def gOs (s : Sto) : List (Option Obj) := (([some (eRow s.top)] ++ shO 1 (lvF s.levels)) ++ shO (s.levels.length + 2) (svF s.sieves)) ++ [some (tmRow s.times)]
def gT (b : Nat) (s : Sto) : TV := .agg [.h b, .h (b + 1), .h (b + (s.levels.length + 2)), .d (.s (.int .i64 s.keep)), .d (.s (.int .i64 s.time)), .h (b + (s.levels.length + s.sieves.length + 3))]
theorem g1_len (s : Sto) : ([some (eRow s.top)] ++ shO 1 (lvF s.levels)).length = s.levels.length + 2 := by simp [shO_len, lvF_len]
theorem g2_len (s : Sto) : (([some (eRow s.top)] ++ shO 1 (lvF s.levels)) ++ shO (s.levels.length + 2) (svF s.sieves)).length = s.levels.length + s.sieves.length + 3 := by rw [List.length_append, g1_len, shO_len, svF_len]; omega
theorem gOs_len (s : Sto) : (gOs s).length = gK s := by unfold gOs gK; rw [List.length_append, g2_len]; rfl
theorem ren_tmRow (r : List Int) (π : Nat → Nat) : (tmRow r).ren π = tmRow r := dRow_ren _ _ _ _
theorem bd_tmRow (r : List Int) (k : Nat) : (tmRow r).bd k = true := dRow_bd _ _ _ _
theorem bd0_eRow (r : List Ent) : BdO [some (eRow r)] 1 := fun m o hm => by
  rcases m with _ | m
  · rw [l_c0] at hm; obtain rfl := Option.some.inj hm; exact bd_eRow _ _
  · rw [l_c1, l_n] at hm; cases hm
theorem g1_bd (s : Sto) : BdO ([some (eRow s.top)] ++ shO 1 (lvF s.levels)) (s.levels.length + 2) := by
  have := bdApp (os1 := [some (eRow s.top)]) (N := 1) rfl (bd0_eRow _) (lvF_bdO s.levels)
  rwa [show 1 + (s.levels.length + 1) = s.levels.length + 2 by omega] at this
theorem g2_bd (s : Sto) : BdO (([some (eRow s.top)] ++ shO 1 (lvF s.levels)) ++ shO (s.levels.length + 2) (svF s.sieves)) (s.levels.length + s.sieves.length + 3) := by
  have := bdApp (g1_len s) (g1_bd s) (svF_bdO s.sieves)
  rwa [show s.levels.length + 2 + (s.sieves.length + 1) = s.levels.length + s.sieves.length + 3 by omega] at this
theorem gOs_bd (s : Sto) : BdO (gOs s) (gK s) := bdOne (g2_bd s) (fun k => bd_tmRow _ k)
theorem gH_top (s : Sto) : hpL (gOs s) 0 = some (eRow s.top) := rfl
theorem gH_lev (s : Sto) {j : Nat} (hj : j < s.levels.length + 1) : hpL (gOs s) (1 + j) = (hpL (lvF s.levels) j).map (Obj.ren (1 + ·)) := by
  unfold gOs
  rw [hpL_l (by rw [g2_len]; omega), hpL_l (by rw [g1_len]; omega), hpL_r (a := [some (eRow s.top)]) (n := 1) rfl, hpL_sh]
theorem gH_sve (s : Sto) {j : Nat} (hj : j < s.sieves.length + 1) : hpL (gOs s) (s.levels.length + 2 + j) = (hpL (svF s.sieves) j).map (Obj.ren (s.levels.length + 2 + ·)) := by
  unfold gOs
  rw [hpL_l (by rw [g2_len]; omega), hpL_r (g1_len s), hpL_sh]
theorem gH_tm (s : Sto) : hpL (gOs s) (s.levels.length + s.sieves.length + 3) = some (tmRow s.times) := by
  have := hpL_r (b := [some (tmRow s.times)]) (j := 0) (g2_len s)
  rw [l_c0] at this
  exact this
/-- The store's rows under names from b on. -/
def GSt (hp : Hp) (b : Nat) (s : Sto) : Prop := ∀ m o, hpL (gOs s) m = some o → hp (b + m) = some (o.ren (b + ·))
theorem gst_top {hp : Hp} {b : Nat} {s : Sto} (h : GSt hp b s) : BlkO hp b [some (eRow s.top)] := fun j hj => by
  obtain rfl : j = 0 := by simp at hj; exact hj
  exact ⟨_, rfl, by rw [h 0 _ (gH_top s)], bd_eRow _ _⟩
theorem gst_part {hp : Hp} {b c n : Nat} {s : Sto} {os : List (Option Obj)} (h : GSt hp b s) (hl : os.length = n) (hg : ∀ j, j < n → hpL (gOs s) (c + j) = (hpL os j).map (Obj.ren (c + ·))) (hb : ∀ j, j < os.length → ∃ o, os[j]? = some (some o) ∧ o.bd os.length = true) : BlkO hp (b + c) os := fun j hj => by
  obtain ⟨o, h1, h2⟩ := hb j hj
  refine ⟨o, h1, ?_, h2⟩
  have := h (c + j) (o.ren (c + ·)) (by rw [hg j (by omega)]; simp [hpL, h1])
  rw [Nat.add_assoc, this, Obj.ren_cm (h := (b + c + ·)) (fun i hi => (Nat.add_assoc b c i).symm) h2]
theorem gst_lev {hp : Hp} {b : Nat} {s : Sto} (h : GSt hp b s) : BlkO hp (b + 1) (lvF s.levels) := gst_part h (lvF_len _) (fun j hj => gH_lev s hj) (lvF_blk _)
theorem gst_sve {hp : Hp} {b : Nat} {s : Sto} (h : GSt hp b s) : BlkO hp (b + (s.levels.length + 2)) (svF s.sieves) := gst_part h (svF_len _) (fun j hj => gH_sve s hj) (svF_blk _)
theorem gst_tm {hp : Hp} {b : Nat} {s : Sto} (h : GSt hp b s) : BlkO hp (b + (s.levels.length + s.sieves.length + 3)) [some (tmRow s.times)] := fun j hj => by
  obtain rfl : j = 0 := by simp at hj; exact hj
  exact ⟨_, rfl, by rw [Nat.add_zero, h _ _ (gH_tm s), ren_tmRow, ren_tmRow], bd_tmRow _ _⟩
-- lent
theorem lend_hEls {hp : Hp} {n : Nat} : ∀ (r : List (List Ent)) (b : Nat), (∀ j x, r[j]? = some x → hp (b + j) = some (eRow x)) → (hEls b r.length).mapM (fun cs : List CV => cs.mapM (lendC hp (n + 1))) = some (r.map lvD)
  | [], b, _ => rfl
  | x :: r, b, h => by
    have h0 : hp b = some (eRow x) := h 0 x rfl
    have ih := lend_hEls (n := n) r (b + 1) fun j y hy => by have := h (j + 1) y (by simpa using hy); rwa [show b + (j + 1) = b + 1 + j by omega] at this
    rw [List.length_cons, hEls_succ, List.mapM_cons, ih, List.mapM_cons, lend_dRow h0]
    rfl
theorem lend_sEls {hp : Hp} {n : Nat} : ∀ (r : List Sve) (b : Nat), (∀ j x, r[j]? = some x → hp (b + j) = some (kRow x.rests)) → (sEls b r).mapM (fun cs : List CV => cs.mapM (lendC hp (n + 1))) = some (r.map sveD)
  | [], b, _ => rfl
  | x :: r, b, h => by
    have h0 : hp b = some (kRow x.rests) := h 0 x rfl
    have ih := lend_sEls (n := n) r (b + 1) fun j y hy => by have := h (j + 1) y (by simpa using hy); rwa [show b + (j + 1) = b + 1 + j by omega] at this
    simp only [sEls, List.mapM_cons, ih, svN, lend_dRow h0]
    rfl
theorem lendN_hEls {hp : Hp} {n : Nat} : ∀ (r : List (List Ent)) (b : Nat), (∀ j x, r[j]? = some x → hp (b + j) = some (eRow x)) → ∀ m ∈ (hEls b r.length).flatMap (fun cs : List CV => cs.flatMap (lendN hp (n + 1))), b ≤ m ∧ m < b + r.length
  | [], b, _, m, hm => by simp [hEls] at hm
  | x :: r, b, h, m, hm => by
    have h0 : hp b = some (eRow x) := h 0 x rfl
    have ih := lendN_hEls (n := n) r (b + 1) fun j y hy => by have := h (j + 1) y (by simpa using hy); rwa [show b + (j + 1) = b + 1 + j by omega] at this
    rw [List.length_cons, hEls_succ, List.flatMap_cons, List.mem_append] at hm
    rcases hm with hm | hm
    · simp only [List.flatMap_cons, List.flatMap_nil, List.append_nil] at hm
      rw [lendN_dRow h0 n m hm, List.length_cons]; omega
    · have := ih m hm
      rw [List.length_cons]; omega
theorem lendN_sEls {hp : Hp} {n : Nat} : ∀ (r : List Sve) (b : Nat), (∀ j x, r[j]? = some x → hp (b + j) = some (kRow x.rests)) → ∀ m ∈ (sEls b r).flatMap (fun cs : List CV => cs.flatMap (lendN hp (n + 1))), b ≤ m ∧ m < b + r.length
  | [], b, _, m, hm => by simp [sEls] at hm
  | x :: r, b, h, m, hm => by
    have h0 : hp b = some (kRow x.rests) := h 0 x rfl
    have ih := lendN_sEls (n := n) r (b + 1) fun j y hy => by have := h (j + 1) y (by simpa using hy); rwa [show b + (j + 1) = b + 1 + j by omega] at this
    simp only [sEls, List.flatMap_cons, List.mem_append] at hm
    rcases hm with hm | hm
    · have hd : ∀ (i : Value), lendN hp (n + 1) (.d (.s i)) = [] := fun i => rfl
      simp only [svN, List.flatMap_cons, List.flatMap_nil, List.append_nil, List.nil_append, hd] at hm
      rw [lendN_dRow h0 n m hm, List.length_cons]; omega
    · have := ih m hm
      rw [List.length_cons]; omega
theorem arg_gT {hp : Hp} {N' L : List Nat} {b : Nat} {s : Sto} (h : GSt hp b s) (hL : ∀ m, b ≤ m → m < b + gK s → m ∈ L) : Arg hp N' L (gT b s) (stT s) := by
  have g0 : hp b = some (eRow s.top) := by have := h 0 _ (gH_top s); rwa [ren_eRow] at this
  have g1 : hp (b + 1) = some ⟨29, 1, true, hEls (b + 2) s.levels.length⟩ := by
    have := h 1 _ ((gH_lev s (j := 0) (by omega)).trans rfl)
    rw [this, Obj.ren_cm (m := s.levels.length + 1) (h := (b + 1 + ·)) (fun i hi => (Nat.add_assoc b 1 i).symm) (show (pRow s.levels.length s.levels.length).bd (s.levels.length + 1) = true from pE_all (by omega) (Nat.le_refl _)), pRow_sh]
  have g2 : hp (b + (s.levels.length + 2)) = some ⟨82, 5, true, sEls (b + (s.levels.length + 2) + 1) s.sieves⟩ := by
    have := h (s.levels.length + 2) _ ((gH_sve s (j := 0) (by omega)).trans rfl)
    rw [this, Obj.ren_cm (m := s.sieves.length + 1) (h := (b + (s.levels.length + 2) + ·)) (fun i hi => (Nat.add_assoc b _ i).symm) (show (⟨82, 5, true, sEls 1 s.sieves⟩ : Obj).bd (s.sieves.length + 1) = true from sEls_bd _ _ _ (by omega))]
    simp only [Obj.ren, sEls_sh]
  have g3 : hp (b + (s.levels.length + s.sieves.length + 3)) = some (tmRow s.times) := by have := h _ _ (gH_tm s); rwa [ren_tmRow] at this
  have l1 : ∀ j x, s.levels[j]? = some x → hp (b + 2 + j) = some (eRow x) := fun j x hx => by
    have hj := (List.getElem?_eq_some_iff.1 hx).1
    have := h (1 + (j + 1)) (eRow x) (by rw [gH_lev s (by omega), lvF_get hx]; simp [ren_eRow])
    rw [ren_eRow] at this
    rwa [show b + (1 + (j + 1)) = b + 2 + j by omega] at this
  have l2 : ∀ j x, s.sieves[j]? = some x → hp (b + (s.levels.length + 2) + 1 + j) = some (kRow x.rests) := fun j x hx => by
    have hj := (List.getElem?_eq_some_iff.1 hx).1
    have := h (s.levels.length + 2 + (j + 1)) (kRow x.rests) (by rw [gH_sve s (by omega), svF_get hx]; simp [ren_kRow])
    rw [ren_kRow] at this
    rwa [show b + (s.levels.length + 2 + (j + 1)) = b + (s.levels.length + 2) + 1 + j by omega] at this
  have e1 : lendC hp 3 (.h (b + 1)) = some (.rs 1 (s.levels.map lvD)) := by
    show (match hp (b + 1) with | some o => _ | none => none) = _
    rw [g1]
    show ((hEls (b + 2) s.levels.length).mapM (fun cs : List CV => cs.mapM (lendC hp 2))).map (D.rs 1) = _
    rw [lend_hEls s.levels (b + 2) l1]; rfl
  have e2 : lendC hp 3 (.h (b + (s.levels.length + 2))) = some (.rs 5 (s.sieves.map sveD)) := by
    show (match hp (b + (s.levels.length + 2)) with | some o => _ | none => none) = _
    rw [g2]
    show ((sEls (b + (s.levels.length + 2) + 1) s.sieves).mapM (fun cs : List CV => cs.mapM (lendC hp 2))).map (D.rs 5) = _
    rw [lend_sEls s.sieves _ l2]; rfl
  have hd : ∀ (i : Value), lendN hp 3 (.d (.s i)) = [] := fun i => rfl
  refine .ln (n := 3) ?_ fun w hw m hm => ?_
  · unfold gT
    simp only [TV.lend, List.mapM_cons, List.mapM_nil, lend_dRow g0, e1, e2, lend_dRow g3]
    rfl
  · unfold gT at hw
    have hK : gK s = s.levels.length + s.sieves.length + 4 := rfl
    simp only [TV.cells, List.mem_cons, List.not_mem_nil, or_false] at hw
    rcases hw with rfl | rfl | rfl | rfl | rfl | rfl
    · rw [lendN_dRow g0 2 m hm]; exact hL _ (by omega) (by omega)
    · have e : lendN hp 3 (.h (b + 1)) = (b + 1) :: ((hEls (b + 2) s.levels.length).flatMap fun cs : List CV => cs.flatMap (lendN hp 2)) := by
        show (match hp (b + 1) with | some o => _ | none => []) = _
        rw [g1]
      rw [e] at hm
      rcases List.mem_cons.1 hm with rfl | hm
      · exact hL _ (by omega) (by omega)
      · have := lendN_hEls s.levels (b + 2) l1 m hm
        exact hL _ (by omega) (by omega)
    · have e : lendN hp 3 (.h (b + (s.levels.length + 2))) = (b + (s.levels.length + 2)) :: ((sEls (b + (s.levels.length + 2) + 1) s.sieves).flatMap fun cs : List CV => cs.flatMap (lendN hp 2)) := by
        show (match hp (b + (s.levels.length + 2)) with | some o => _ | none => []) = _
        rw [g2]
      rw [e] at hm
      rcases List.mem_cons.1 hm with rfl | hm
      · exact hL _ (by omega) (by omega)
      · have := lendN_sEls s.sieves _ l2 m hm
        exact hL _ (by omega) (by omega)
    · rw [hd] at hm; cases hm
    · rw [hd] at hm; cases hm
    · rw [lendN_dRow g3 2 m hm]; exact hL _ (by omega) (by omega)
end Go.Proofs.YtimkdclalajadaaGreat.Ab
