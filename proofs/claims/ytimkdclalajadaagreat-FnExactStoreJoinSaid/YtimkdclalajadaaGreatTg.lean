/-
  Contract: a level that is pushed into the next one, the program's. No condition.
  Plain: how large a store is behind an operation; marked rows told by their sizes. No condition.
  Contracts: operations of the program's with results of their own. No condition.
  Contract: the law of the store's check gives true, of every store. No condition.
  Contract: the law of the store that join makes gives true, of every store. No condition.
-/
import Derived.Test.YtimkdclalajadaaGreatTf
import Derived.Test.YtimkdclalajadaaGreatTd
import Derived.Test.YtimkdclalajadaaGreatTe
namespace Go.Proofs.YtimkdclalajadaaGreat.Ab
open Nat renaming reduceEqDiff → jE, reduceAdd → jA, reduceMul → jM, reduceSub → jS, reduceLT → jL, reduceLeDiff → jD, reduceBEq → jB
set_option linter.deprecated false
set_option linter.unusedVariables false
set_option linter.unusedSimpArgs false
open Go Go.Proofs
set_option maxRecDepth 10000
set_option maxHeartbeats 8000000
/-- A level is emptied. -/
def emp (l : Nat) (s : Sto) : Sto := { s with levels := s.levels.set l [], sieves := s.sieves.set l (eSve s.keep.toNat) }
theorem setM_emp {l i : Nat} (h : i ≠ l) (s : Sto) (r : List Ent) : setM (emp l s) i r = (setM s i r).map (emp l) := by
  unfold setM emp
  simp only
  cases sieveM (keysM r) s.keep with
  | none => rfl
  | some x =>
    simp only
    by_cases c : r.length ≤ 8 * (i + 1)
    · rw [if_pos c, if_pos c, Option.map_some]
      simp only [Option.some.injEq, Sto.mk.injEq, true_and, and_true]
      exact ⟨List.set_comm _ _ (Ne.symm h), List.set_comm _ _ (Ne.symm h)⟩
    · rw [if_neg c, if_neg c]; rfl
theorem getD_emp {l i : Nat} (h : i ≠ l) (s : Sto) : (emp l s).levels.getD i [] = s.levels.getD i [] := by
  unfold emp
  simp only [List.getD_eq_getElem?_getD]
  rw [List.getElem?_set_ne (Ne.symm h)]
theorem into_emp {l : Nat} : ∀ (d : Nat) (s : Sto) (i : Nat) (r : List Ent), l < i → intoM d (emp l s) i r = (intoM d s i r).map (emp l)
  | 0, s, i, r, h => by
    have e2 : (emp l s).times = s.times := rfl
    simp only [intoM]
    rw [getD_emp (by omega), e2, setM_emp (by omega)]
  | d + 1, s, i, r, h => by
    have e2 : (emp l s).times = s.times := rfl
    simp only [intoM]
    rw [getD_emp (by omega), e2, setM_emp (by omega), into_emp d s (i + 1) _ (by omega)]
    cases setM s i (trimM (joinM r (s.levels.getD i [])) s.times false) with
    | some x => rfl
    | none =>
      simp only [Option.map_none]
      cases intoM d s (i + 1) (s.levels.getD i []) with
      | none => rfl
      | some x =>
        simp only [Option.map_some, Option.bind_some]
        exact setM_emp (by omega) x _
theorem setM_nil {s : Sto} (h0 : 0 ≤ s.keep) (h5 : s.keep ≤ 5) (l : Nat) : setM s l [] = some (emp l s) := by
  have e : s.keep = (s.keep.toNat : Int) := by omega
  have hs : sieveM (keysM []) s.keep = some (eSve s.keep.toNat) := by
    rw [keysM_nil, e, sieve_nil (by omega)]
    rfl
  unfold setM emp
  rw [hs]
  simp
theorem intoM_keep : ∀ (d : Nat) {s s' : Sto} {i : Nat} {r : List Ent}, intoM d s i r = some s' → s'.keep = s.keep
  | 0, s, s', i, r, h => (setM_times h).2.2.2
  | d + 1, s, s', i, r, h => by
    simp only [intoM] at h
    split at h
    · rename_i x hx
      obtain rfl := Option.some.inj h
      exact (setM_times hx).2.2.2
    · obtain ⟨s1, h1, h2⟩ := Option.bind_eq_some_iff.1 h
      rw [(setM_times h2).2.2.2, intoM_keep d h1]
/-- A level that is pushed down, and emptied then. -/
def joinP (s : Sto) (l : Nat) : Option Sto := (intoM (1 - l) s (l + 1) (s.levels.getD l [])).bind fun y => setM y l []
theorem join_eq {s : Sto} (hv : storeS s = true) {l : Int} (hl : inB 0 l 1 = true) : sJoinM s l = joinP s l.toNat := by
  obtain ⟨_, _, _, _, _, _, h7⟩ := storeS_facts hv
  unfold inB at h7
  rw [Bool.and_eq_true] at h7
  have k0 := of_decide_eq_true h7.1; have k1 := of_decide_eq_true h7.2
  unfold sJoinM joinP
  rw [hv, hl]
  simp only [Bool.and_self, if_true]
  rw [setM_nil k0 k1, Option.bind_some, into_emp _ _ _ _ (by omega)]
  cases h : intoM (1 - l.toNat) s (l.toNat + 1) (s.levels.getD l.toNat []) with
  | none => rfl
  | some y =>
    have hk : y.keep = s.keep := by
      have := intoM_keep _ h
      exact this
    rw [Option.map_some, Option.bind_some, setM_nil (by omega) (by omega)]
theorem joinP_sm {s s' : Sto} {l : Nat} (hs : SmSt s) (hv : storeS s = true) (hl : l ≤ 1) (h : joinP s l = some s') : SmSt s' ∧ SmH s' ∧ s'.top.length ≤ 5 := by
  obtain ⟨_, _, l3, _⟩ := storeS_facts hv
  have sm := valid_sm hs hv
  unfold joinP at h
  obtain ⟨y, hy, h2⟩ := Option.bind_eq_some_iff.1 h
  have hq : SmR (s.levels.getD l []) ∧ (s.levels.getD l []).length ≤ 1000 := by
    rw [List.getD_eq_getElem?_getD, List.getElem?_eq_getElem (by rw [sm.ll]; omega)]; exact sm.lev _ (List.getElem_mem _)
  obtain ⟨k1, k2, k3, k4, k5⟩ := intoM_sm _ (by omega) sm hq.1 hq.2 hy
  have st := intoM_st _ (by omega) sm hs hq.1 hq.2 hy
  have g := setM_sm k1 (by omega) smR_nil h2
  refine ⟨setM_st st smR_nil h2, g, ?_⟩
  rw [(setM_times h2).2.1, k3]; omega
theorem cloJoin_ok (s s' : Sto) (l : Int) (hs : SmSt s) (hv : storeS s = true) (hl : inB 0 l 1 = true) (h : joinP s l.toNat = some s') : AC Tryz.prog 55 [.c (.ph 0 0 0), .c (.ph 3 0 0)] (hpL [some (pO s), some (lvRow s.levels), some (svRow s.sieves), some (inO l)]) 4 ⟨.t (bT true), hpL [some (pO s'), some (lvRow s'.levels), some (svRow s'.sieves), some (inO l)], 4⟩ := by
  obtain ⟨i, rfl, hi⟩ : ∃ i : Nat, l = i ∧ i ≤ 1 := by unfold inB at hl; simp at hl; exact ⟨l.toNat, by omega, by omega⟩
  rw [show ((i : Nat) : Int).toNat = i from rfl] at h
  have k1 := in_ac (i : Nat) 0 1
  rw [hl] at k1
  obtain ⟨q1, q2, q3, q4, q5⟩ := lv_of hv
  have sm := valid_sm hs hv
  obtain ⟨r1, r2⟩ := q1.run i (by omega)
  have r3 := q1.newer i (i + 1) (by omega) (by omega)
  unfold joinP at h
  obtain ⟨y, hy, h2⟩ := Option.bind_eq_some_iff.1 h
  obtain ⟨q, hq⟩ : ∃ q, s.levels[i]? = some q := ⟨_, List.getElem?_eq_getElem (by rw [sm.ll]; omega)⟩
  have hqd : s.levels.getD i [] = q := by simp [List.getD, hq]
  have hlt := (List.getElem?_eq_some_iff.1 hq).1
  obtain ⟨hq1, hq2⟩ := sm.lev q (List.mem_of_getElem? hq)
  rw [hqd] at r1 r2 r3 hy
  obtain ⟨g1, _⟩ := intoM_sm _ (by omega) sm hq1 hq2 hy
  have k2 := (push_ac (1 - i) s (i + 1) q (by omega) sm q1 hq1 r1 (by omega) r3).1 y hy
  have k3 := AC.nilL (args := [.c (.ph 0 0 0), iT i, .c (.d (.s (.slice none 0 0)))]) (put_ok y s' i [] (by omega) (by rw [g1.ll]; omega) (by rw [g1.sl]; omega) smR_nil h2) (.cons (NilT.refl _) (.cons (NilT.refl _) (.cons (NilC.nil _) .nil)))
  have w : IntKind.i64.wrap ((i : Int) + 1) = ((i + 1 : Nat) : Int) := wn (by omega) (by omega)
  refine AC_of Tryz.func55 rfl Tryz.ntmps55 Tryz.results55 (by kernel_rfl) rfl ?_
  simp only [List.zipIdx, List.map, Nat.zero_add, Nat.reduceAdd]
  repeat (first | apply Aw_seq | apply Aw_block | apply Aw_skip | apply Aw_exit | refine Aw_condt rfl ?_ | refine Aw_condf rfl ?_ | ((first | refine qr ?_ | refine qd (by kernel_rfl) (by kernel_rfl) ?_); simp only [go_sem, jE, reduceIte, jA, jM, jS, jL, jD, jB, hq, hlt, w]) | refine dk (by kernel_rfl) ?_ | (refine qp (k1) (by simp only [go_sem, jE, reduceIte, jA, jM, jS, jL, jD, jB, hq, hlt, w]; first | done | rfl) rfl (by simp only [go_sem, Nat.reduceLT]) rfl rfl ?_; simp only [go_sem, jE, reduceIte, jA, jM, jS, jL, jD, jB, hq, hlt, w]) | (refine qx (call_L (N' := [0, 1, 2]) (L := []) (k2) rfl (.cons (.nm rfl) (.cons (.nm rfl) (.cons (.nm rfl) (.nil)))) (by decide) (by decide) (by decide) (by simp only [go_sem, jE, reduceIte, jA, jM, jS, jL, jD, jB, hq, hlt, w]; first | done | rfl) (.inl rfl) rfl (by decide)) (by simp only [go_sem, jE, reduceIte, jA, jM, jS, jL, jD, jB, hq, hlt, w]; first | done | rfl) rfl (by simp only [go_sem, Nat.reduceLT]) ?_; simp only [go_sem, jE, reduceIte, jA, jM, jS, jL, jD, jB, hq, hlt, w]) | (refine qx (call_L (N' := [0, 1, 2]) (L := []) (k3) rfl (.cons (.nm rfl) (.cons (.nm rfl) (.cons (.nm rfl) (.nil)))) (by decide) (by decide) (by decide) (by simp only [go_sem, jE, reduceIte, jA, jM, jS, jL, jD, jB, hq, hlt, w]; first | done | rfl) (.inl rfl) rfl (by decide)) (by simp only [go_sem, jE, reduceIte, jA, jM, jS, jL, jD, jB, hq, hlt, w]; first | done | rfl) rfl (by simp only [go_sem, Nat.reduceLT]) ?_; simp only [go_sem, jE, reduceIte, jA, jM, jS, jL, jD, jB, hq, hlt, w]))
  exact Aw_ret (retL (M := [0, 1, 2, 3]) (.inl rfl) (by simp only [go_sem, jE, reduceIte, jA, jM, jS, jL, jD, jB]; first | done | rfl) rfl rfl (by rfl) (by simp only [go_sem, jE, reduceIte, jA, jM, jS, jL, jD, jB]; first | done | rfl | (and_intros <;> rfl)) (by decide) (by unfold idM; decide))
theorem cloJoin_no (s : Sto) (l : Int) (hs : SmSt s) (hv : storeS s = true) (h : sJoinM s l = none) : AC Tryz.prog 55 [.c (.ph 0 0 0), .c (.ph 3 0 0)] (hpL [some (pO s), some (lvRow s.levels), some (svRow s.sieves), some (inO l)]) 4 ⟨.t (bT false), hpL [none, none, none, none], 4⟩ := by
  have k1 := in_ac l 0 1
  cases hl : inB 0 l 1
  · rw [hl] at k1
    refine AC_of Tryz.func55 rfl Tryz.ntmps55 Tryz.results55 (by kernel_rfl) rfl ?_
    simp only [List.zipIdx, List.map, Nat.zero_add, Nat.reduceAdd]
    repeat (first | apply Aw_seq | apply Aw_block | apply Aw_skip | apply Aw_exit | refine Aw_condt rfl ?_ | refine Aw_condf rfl ?_ | ((first | refine qr ?_ | refine qd (by kernel_rfl) (by kernel_rfl) ?_); simp only [go_sem, jE, reduceIte, jA, jM, jS, jL, jD, jB]) | refine dk (by kernel_rfl) ?_ | (refine qp (k1) (by simp only [go_sem, jE, reduceIte, jA, jM, jS, jL, jD, jB]; first | done | rfl) rfl (by simp only [go_sem, Nat.reduceLT]) rfl rfl ?_; simp only [go_sem, jE, reduceIte, jA, jM, jS, jL, jD, jB]))
    exact Aw_ret (retL (M := [0, 1, 2, 3]) (.inl rfl) (by simp only [go_sem, jE, reduceIte, jA, jM, jS, jL, jD, jB]; first | done | rfl) rfl rfl (by rfl) (by simp only [go_sem, jE, reduceIte, jA, jM, jS, jL, jD, jB]; first | done | rfl | (and_intros <;> rfl)) (by decide) (by unfold idM; decide))
  rw [join_eq hv hl] at h
  obtain ⟨i, rfl, hi⟩ : ∃ i : Nat, l = i ∧ i ≤ 1 := by unfold inB at hl; simp at hl; exact ⟨l.toNat, by omega, by omega⟩
  rw [show ((i : Nat) : Int).toNat = i from rfl] at h
  rw [hl] at k1
  obtain ⟨q1, q2, q3, q4, q5⟩ := lv_of hv
  have sm := valid_sm hs hv
  obtain ⟨r1, r2⟩ := q1.run i (by omega)
  have r3 := q1.newer i (i + 1) (by omega) (by omega)
  obtain ⟨q, hq⟩ : ∃ q, s.levels[i]? = some q := ⟨_, List.getElem?_eq_getElem (by rw [sm.ll]; omega)⟩
  have hqd : s.levels.getD i [] = q := by simp [List.getD, hq]
  have hlt := (List.getElem?_eq_some_iff.1 hq).1
  obtain ⟨hq1, hq2⟩ := sm.lev q (List.mem_of_getElem? hq)
  rw [hqd] at r1 r2 r3
  unfold joinP at h
  rw [hqd] at h
  have hp := push_ac (1 - i) s (i + 1) q (by omega) sm q1 hq1 r1 (by omega) r3
  have w : IntKind.i64.wrap ((i : Int) + 1) = ((i + 1 : Nat) : Int) := wn (by omega) (by omega)
  cases hy : intoM (1 - i) s (i + 1) q with
  | none =>
    have k2 := hp.2 hy
    refine AC_of Tryz.func55 rfl Tryz.ntmps55 Tryz.results55 (by kernel_rfl) rfl ?_
    simp only [List.zipIdx, List.map, Nat.zero_add, Nat.reduceAdd]
    repeat (first | apply Aw_seq | apply Aw_block | apply Aw_skip | apply Aw_exit | refine Aw_condt rfl ?_ | refine Aw_condf rfl ?_ | ((first | refine qr ?_ | refine qd (by kernel_rfl) (by kernel_rfl) ?_); simp only [go_sem, jE, reduceIte, jA, jM, jS, jL, jD, jB, hq, hlt, w]) | refine dk (by kernel_rfl) ?_ | (refine qp (k1) (by simp only [go_sem, jE, reduceIte, jA, jM, jS, jL, jD, jB, hq, hlt, w]; first | done | rfl) rfl (by simp only [go_sem, Nat.reduceLT]) rfl rfl ?_; simp only [go_sem, jE, reduceIte, jA, jM, jS, jL, jD, jB, hq, hlt, w]) | (refine qx (call_L (N' := [0, 1, 2]) (L := []) (k2) rfl (.cons (.nm rfl) (.cons (.nm rfl) (.cons (.nm rfl) (.nil)))) (by decide) (by decide) (by decide) (by simp only [go_sem, jE, reduceIte, jA, jM, jS, jL, jD, jB, hq, hlt, w]; first | done | rfl) (.inl rfl) rfl (by decide)) (by simp only [go_sem, jE, reduceIte, jA, jM, jS, jL, jD, jB, hq, hlt, w]; first | done | rfl) rfl (by simp only [go_sem, Nat.reduceLT]) ?_; simp only [go_sem, jE, reduceIte, jA, jM, jS, jL, jD, jB, hq, hlt, w]))
    exact Aw_ret (retL (M := [0, 1, 2, 3]) (.inl rfl) (by simp only [go_sem, jE, reduceIte, jA, jM, jS, jL, jD, jB]; first | done | rfl) rfl rfl (by rfl) (by simp only [go_sem, jE, reduceIte, jA, jM, jS, jL, jD, jB]; first | done | rfl | (and_intros <;> rfl)) (by decide) (by unfold idM; decide))
  | some y =>
    rw [hy, Option.bind_some] at h
    have k2 := hp.1 y hy
    have k3 := AC.nilL (args := [.c (.ph 0 0 0), iT i, .c (.d (.s (.slice none 0 0)))]) (put_no y i [] (by omega) smR_nil h) (.cons (NilT.refl _) (.cons (NilT.refl _) (.cons (NilC.nil _) .nil)))
    refine AC_of Tryz.func55 rfl Tryz.ntmps55 Tryz.results55 (by kernel_rfl) rfl ?_
    simp only [List.zipIdx, List.map, Nat.zero_add, Nat.reduceAdd]
    repeat (first | apply Aw_seq | apply Aw_block | apply Aw_skip | apply Aw_exit | refine Aw_condt rfl ?_ | refine Aw_condf rfl ?_ | ((first | refine qr ?_ | refine qd (by kernel_rfl) (by kernel_rfl) ?_); simp only [go_sem, jE, reduceIte, jA, jM, jS, jL, jD, jB, hq, hlt, w]) | refine dk (by kernel_rfl) ?_ | (refine qp (k1) (by simp only [go_sem, jE, reduceIte, jA, jM, jS, jL, jD, jB, hq, hlt, w]; first | done | rfl) rfl (by simp only [go_sem, Nat.reduceLT]) rfl rfl ?_; simp only [go_sem, jE, reduceIte, jA, jM, jS, jL, jD, jB, hq, hlt, w]) | (refine qx (call_L (N' := [0, 1, 2]) (L := []) (k2) rfl (.cons (.nm rfl) (.cons (.nm rfl) (.cons (.nm rfl) (.nil)))) (by decide) (by decide) (by decide) (by simp only [go_sem, jE, reduceIte, jA, jM, jS, jL, jD, jB, hq, hlt, w]; first | done | rfl) (.inl rfl) rfl (by decide)) (by simp only [go_sem, jE, reduceIte, jA, jM, jS, jL, jD, jB, hq, hlt, w]; first | done | rfl) rfl (by simp only [go_sem, Nat.reduceLT]) ?_; simp only [go_sem, jE, reduceIte, jA, jM, jS, jL, jD, jB, hq, hlt, w]) | (refine qx (call_L (N' := [0, 1, 2]) (L := []) (k3) rfl (.cons (.nm rfl) (.cons (.nm rfl) (.cons (.nm rfl) (.nil)))) (by decide) (by decide) (by decide) (by simp only [go_sem, jE, reduceIte, jA, jM, jS, jL, jD, jB, hq, hlt, w]; first | done | rfl) (.inl rfl) rfl (by decide)) (by simp only [go_sem, jE, reduceIte, jA, jM, jS, jL, jD, jB, hq, hlt, w]; first | done | rfl) rfl (by simp only [go_sem, Nat.reduceLT]) ?_; simp only [go_sem, jE, reduceIte, jA, jM, jS, jL, jD, jB, hq, hlt, w]))
    exact Aw_ret (retL (M := [0, 1, 2, 3]) (.inl rfl) (by simp only [go_sem, jE, reduceIte, jA, jM, jS, jL, jD, jB]; first | done | rfl) rfl rfl (by rfl) (by simp only [go_sem, jE, reduceIte, jA, jM, jS, jL, jD, jB]; first | done | rfl | (and_intros <;> rfl)) (by decide) (by unfold idM; decide))
theorem chgJoin_own (s : Sto) (l : Int) (hs : SmSt s) (hv : storeS s = true) (hl : inB 0 l 1 = true) (top a b c : List Ent) (x y z : Sve) (keep time : Int) (ts : List Int) (h : joinP s l.toNat = some ⟨top, [a, b, c], [x, y, z], keep, time, ts⟩) : AC Tryz.prog 35 [stT s, .c (.fn 55 [.ph 0 0 0])] (hpL [some (inO l)]) 1 ⟨.tup [.agg [.h 1, .h 2, .h 3, .d (.s (.int .i64 keep)), .d (.s (.int .i64 time)), .h 4], bT true], hpL [none, some (eRow top), some ⟨29, 1, true, [[.h 5], [.h 6], [.h 7]]⟩, some ⟨82, 5, true, [svN x 8, svN y 9, svN z 10]⟩, some (tmRow ts), some (eRow a), some (eRow b), some (eRow c), some (kRow x.rests), some (kRow y.rests), some (kRow z.rests)], 11⟩ := by
  have k1 := storeOkI_ac s hs
  rw [hv] at k1
  have kc := cloneP_ac s hs hv
  have kv := cloJoin_ok s ⟨top, [a, b, c], [x, y, z], keep, time, ts⟩ l hs hv hl h
  obtain ⟨st, g, gt⟩ := joinP_sm hs hv (by unfold inB at hl; simp at hl; omega) h
  have hrl := st.rl
  have hlv := g.lev
  have htl := g.tl
  dsimp only at hrl hlv htl gt
  have kf := storeClone_ac top a b c x y z keep time ts (by omega) (by have := (hlv a (by simp)).2; omega) (by have := (hlv b (by simp)).2; omega) (by have := (hlv c (by simp)).2; omega) (hrl x (by simp)) (hrl y (by simp)) (hrl z (by simp)) (by omega)
  unfold cloS svN at kf
  unfold svN
  have arS : ∀ {hp : Hp} {N' L : List Nat} (p q : Nat), hp p = some (lvRow [a, b, c]) → hp q = some (svRow [x, y, z]) → p ∈ L ∧ q ∈ L → Arg hp N' L (.agg [.d (.rs 4 (top.map entD)), .h p, .h q, .d (.s (.int .i64 keep)), .d (.s (.int .i64 time)), .d (.rs 1 (ts.map intD))]) (stT ⟨top, [a, b, c], [x, y, z], keep, time, ts⟩) := fun p q h1 h2 h3 => arg_pS (s := ⟨top, [a, b, c], [x, y, z], keep, time, ts⟩) h1 h2 h3
  refine AC_of Tryz.func35 rfl Tryz.ntmps35 Tryz.results35 (by kernel_rfl) rfl ?_
  simp only [List.zipIdx, List.map, Nat.zero_add, Nat.reduceAdd]
  repeat (first | apply Aw_seq | apply Aw_block | apply Aw_skip | apply Aw_exit | refine Aw_condt rfl ?_ | refine Aw_condf rfl ?_ | ((first | refine qr ?_ | refine qd (by kernel_rfl) (by kernel_rfl) ?_); simp only [go_sem, jE, reduceIte, jA, jM, jS, jL, jD, jB]) | refine dk (by kernel_rfl) ?_ | (refine qp (k1) (by simp only [go_sem, jE, reduceIte, jA, jM, jS, jL, jD, jB]; first | done | rfl) rfl (by simp only [go_sem, Nat.reduceLT]) rfl rfl ?_; simp only [go_sem, jE, reduceIte, jA, jM, jS, jL, jD, jB]) | (refine qx (call_N (L := []) (kc) rfl (.cons (.nm rfl) (.nil)) (.inl rfl) rfl) (by simp only [go_sem, jE, reduceIte, jA, jM, jS, jL, jD, jB]; first | done | rfl) rfl (by simp only [go_sem, Nat.reduceLT]) ?_; simp only [go_sem, jE, reduceIte, jA, jM, jS, jL, jD, jB]) | (refine qx (call_N (L := [7, 8]) (kf) rfl (.cons (arS 7 8 rfl rfl (by simp)) (.nil)) (.inr ⟨rfl, by simp⟩) rfl) (by simp only [go_sem, jE, reduceIte, jA, jM, jS, jL, jD, jB]; first | done | rfl) rfl (by simp only [go_sem, Nat.reduceLT]) ?_; simp only [go_sem, jE, reduceIte, jA, jM, jS, jL, jD, jB]) | (refine ex_callv (by simp only [go_sem, jE, reduceIte, jA, jM, jS, jL, jD, jB]; first | done | rfl) (call_V (N' := [9, 7, 8, 0]) (L := []) 1 (kv) rfl (.cons (.nm rfl) (.nil)) (by first | exact .cons (arg_nm rfl rfl) (.nil) | (simp only [capT, List.map]; exact .cons (arg_nm rfl rfl) (.nil))) (by decide) (by decide) (by decide) (by simp only [go_sem, jE, reduceIte, jA, jM, jS, jL, jD, jB]; first | done | rfl) (.inl rfl) rfl (by decide)) (by simp only [go_sem, jE, reduceIte, jA, jM, jS, jL, jD, jB]; first | done | rfl) rfl (by simp only [go_sem, Nat.reduceLT]) ?_; simp only [go_sem, jE, reduceIte, jA, jM, jS, jL, jD, jB]))
  exact Aw_ret (retL (M := [0, 14, 15, 16, 17, 18, 19, 20, 21, 22, 23]) (.inl rfl) (by simp only [go_sem, jE, reduceIte, jA, jM, jS, jL, jD, jB]; first | done | rfl) rfl rfl (by rfl) (by simp only [go_sem, jE, reduceIte, jA, jM, jS, jL, jD, jB]; first | done | rfl | (and_intros <;> rfl)) (by decide) (by unfold idM; decide))
theorem chgJoin_ok (s s' : Sto) (l : Int) (hs : SmSt s) (hv : storeS s = true) (hl : inB 0 l 1 = true) (h : joinP s l.toNat = some s') : AC Tryz.prog 35 [stT s, .c (.fn 55 [.ph 0 0 0])] (hpL [some (inO l)]) 1 ⟨.tup [stT s', bT true], hpL [none], 1⟩ := by
  obtain ⟨st, g, gt⟩ := joinP_sm hs hv (by unfold inB at hl; simp at hl; omega) h
  obtain ⟨top, levels, sieves, keep, time, ts⟩ := s'
  obtain ⟨a, b, c, rfl⟩ := len3 g.ll
  obtain ⟨x, y, z, rfl⟩ := len3 g.sl
  have kk := chgJoin_own s l hs hv hl top a b c x y z keep time ts h
  unfold svN at kk
  have h1 := AC.setS [5, 6, 7, 8, 9, 10] kk (y := .tup [.agg [.h 1, .h 2, .h 3, .d (.s (.int .i64 keep)), .d (.s (.int .i64 time)), .h 4], bT true]) (os' := [none, some (eRow top), some (lvRow [a, b, c]), some (svRow [x, y, z]), some (tmRow ts)])
    (.cons (.cons (.inl rfl) (.cons (.inl rfl) (.cons (.inl rfl) (.cons (.inl rfl) (.cons (.inl rfl) (.cons (.inl rfl) .nil)))))) (.cons (.inl rfl) .nil))
    ⟨.inl rfl, rfl, .inr ⟨rfl, rfl, rfl, .cons (.cons (SetC.row0 rfl rfl) .nil) (.cons (.cons (SetC.row0 rfl rfl) .nil) (.cons (.cons (SetC.row0 rfl rfl) .nil) .nil))⟩, rfl,
      .inr ⟨rfl, rfl, rfl, .cons (.cons (.inl rfl) (.cons (.inl rfl) (.cons (.inl rfl) (.cons (SetC.row0 rfl rfl) (.cons (.inl rfl) .nil))))) (.cons (.cons (.inl rfl) (.cons (.inl rfl) (.cons (.inl rfl) (.cons (SetC.row0 rfl rfl) (.cons (.inl rfl) .nil))))) (.cons (.cons (.inl rfl) (.cons (.inl rfl) (.cons (.inl rfl) (.cons (SetC.row0 rfl rfl) (.cons (.inl rfl) .nil))))) .nil))⟩, rfl, .inl rfl, rfl, trivial⟩
  have h2 := AC.setS [1, 2, 3, 4] h1 (y := .tup [stT ⟨top, [a, b, c], [x, y, z], keep, time, ts⟩, bT true]) (os' := [none])
    (.cons (.cons (SetC.row0 rfl rfl) (.cons (SetC.row0 rfl rfl) (.cons (SetC.row0 rfl rfl) (.cons (.inl rfl) (.cons (.inl rfl) (.cons (SetC.row0 rfl rfl) .nil)))))) (.cons (.inl rfl) .nil)) trivial
  refine AC.sel (M := [0]) h2 rfl rfl (selL rfl ?_) (by decide) fun m hm => ?_
  · simp only [go_sem, LeftL]
  · rcases m with _ | _ | m <;> first | exact ⟨by decide, rfl⟩ | omega
theorem chgJoin_no (s : Sto) (l : Int) (hs : SmSt s) (h : sJoinM s l = none) : AC Tryz.prog 35 [stT s, .c (.fn 55 [.ph 0 0 0])] (hpL [some (inO l)]) 1 ⟨.tup [zA, bT false], hpL [none], 1⟩ := by
  have k1 := storeOkI_ac s hs
  cases hv : storeS s
  · rw [hv] at k1
    refine AC_of Tryz.func35 rfl Tryz.ntmps35 Tryz.results35 (by kernel_rfl) rfl ?_
    simp only [List.zipIdx, List.map, Nat.zero_add, Nat.reduceAdd]
    repeat (first | apply Aw_seq | apply Aw_block | apply Aw_skip | apply Aw_exit | refine Aw_condt rfl ?_ | refine Aw_condf rfl ?_ | ((first | refine qr ?_ | refine qd (by kernel_rfl) (by kernel_rfl) ?_); simp only [go_sem, jE, reduceIte, jA, jM, jS, jL, jD, jB]) | refine dk (by kernel_rfl) ?_ | (refine qp (k1) (by simp only [go_sem, jE, reduceIte, jA, jM, jS, jL, jD, jB]; first | done | rfl) rfl (by simp only [go_sem, Nat.reduceLT]) rfl rfl ?_; simp only [go_sem, jE, reduceIte, jA, jM, jS, jL, jD, jB]))
    exact Aw_ret (retL (M := [0]) (.inl rfl) (by simp only [go_sem, jE, reduceIte, jA, jM, jS, jL, jD, jB]; first | done | rfl) rfl rfl (by rfl) (by simp only [go_sem, jE, reduceIte, jA, jM, jS, jL, jD, jB]; first | done | rfl | (and_intros <;> rfl)) (by decide) (by unfold idM; decide))
  rw [hv] at k1
  have kc := cloneP_ac s hs hv
  have kv := cloJoin_no s l hs hv h
  refine AC_of Tryz.func35 rfl Tryz.ntmps35 Tryz.results35 (by kernel_rfl) rfl ?_
  simp only [List.zipIdx, List.map, Nat.zero_add, Nat.reduceAdd]
  repeat (first | apply Aw_seq | apply Aw_block | apply Aw_skip | apply Aw_exit | refine Aw_condt rfl ?_ | refine Aw_condf rfl ?_ | ((first | refine qr ?_ | refine qd (by kernel_rfl) (by kernel_rfl) ?_); simp only [go_sem, jE, reduceIte, jA, jM, jS, jL, jD, jB]) | refine dk (by kernel_rfl) ?_ | (refine qp (k1) (by simp only [go_sem, jE, reduceIte, jA, jM, jS, jL, jD, jB]; first | done | rfl) rfl (by simp only [go_sem, Nat.reduceLT]) rfl rfl ?_; simp only [go_sem, jE, reduceIte, jA, jM, jS, jL, jD, jB]) | (refine qx (call_N (L := []) (kc) rfl (.cons (.nm rfl) (.nil)) (.inl rfl) rfl) (by simp only [go_sem, jE, reduceIte, jA, jM, jS, jL, jD, jB]; first | done | rfl) rfl (by simp only [go_sem, Nat.reduceLT]) ?_; simp only [go_sem, jE, reduceIte, jA, jM, jS, jL, jD, jB]) | (refine ex_callv (by simp only [go_sem, jE, reduceIte, jA, jM, jS, jL, jD, jB]; first | done | rfl) (call_V (N' := [9, 7, 8, 0]) (L := []) 1 (kv) rfl (.cons (.nm rfl) (.nil)) (by first | exact .cons (arg_nm rfl rfl) (.nil) | (simp only [capT, List.map]; exact .cons (arg_nm rfl rfl) (.nil))) (by decide) (by decide) (by decide) (by simp only [go_sem, jE, reduceIte, jA, jM, jS, jL, jD, jB]; first | done | rfl) (.inl rfl) rfl (by decide)) (by simp only [go_sem, jE, reduceIte, jA, jM, jS, jL, jD, jB]; first | done | rfl) rfl (by simp only [go_sem, Nat.reduceLT]) ?_; simp only [go_sem, jE, reduceIte, jA, jM, jS, jL, jD, jB]))
  exact Aw_ret (retL (M := [0]) (.inl rfl) (by simp only [go_sem, jE, reduceIte, jA, jM, jS, jL, jD, jB]; first | done | rfl) rfl rfl (by rfl) (by simp only [go_sem, jE, reduceIte, jA, jM, jS, jL, jD, jB]; first | done | rfl | (and_intros <;> rfl)) (by decide) (by unfold idM; decide))
theorem storeJoin_ac (s : Sto) (l : Int) (hs : SmSt s) : AC Tryz.prog 20 [stT s, iT l] noHp 0 ⟨resO (sJoinM s l), noHp, 0⟩ := by
  cases h : sJoinM s l with
  | none =>
    refine AC.nilR (x := .tup [zA, bT false]) ?_ zA_nil
    have kk := chgJoin_no s l hs h
    unfold inO at kk
    refine AC_of Tryz.func20 rfl Tryz.ntmps20 Tryz.results20 (by kernel_rfl) rfl ?_
    simp only [List.zipIdx, List.map, Nat.zero_add, Nat.reduceAdd]
    repeat (first | apply Aw_seq | apply Aw_block | apply Aw_skip | apply Aw_exit | refine Aw_condt rfl ?_ | refine Aw_condf rfl ?_ | ((first | refine qr ?_ | refine qd (by kernel_rfl) (by kernel_rfl) ?_); simp only [go_sem, jE, reduceIte, jA, jM, jS, jL, jD, jB]) | refine dk (by kernel_rfl) ?_ | (refine qx (call_L (N' := [1]) (L := []) (kk) rfl (.cons (.nm rfl) (.cons (.nm rfl) (.nil))) (by decide) (by decide) (by decide) (by simp only [go_sem, jE, reduceIte, jA, jM, jS, jL, jD, jB]; first | done | rfl) (.inl rfl) rfl (by decide)) (by simp only [go_sem, jE, reduceIte, jA, jM, jS, jL, jD, jB]; first | done | rfl) rfl (by simp only [go_sem, Nat.reduceLT]) ?_; simp only [go_sem, jE, reduceIte, jA, jM, jS, jL, jD, jB]))
    exact Aw_ret (ret0 (.inl rfl) (by simp only [go_sem, jE, reduceIte, jA, jM, jS, jL, jD, jB]; rfl) (by rfl) rfl)
  | some s' =>
    have hc : storeS s = true ∧ inB 0 l 1 = true := by
      unfold sJoinM at h
      split at h
      · rename_i hc; rw [Bool.and_eq_true] at hc; exact hc
      · cases h
    have kk := chgJoin_ok s s' l hs hc.1 hc.2 (by rw [← join_eq hc.1 hc.2]; exact h)
    unfold inO at kk
    refine AC_of Tryz.func20 rfl Tryz.ntmps20 Tryz.results20 (by kernel_rfl) rfl ?_
    simp only [List.zipIdx, List.map, Nat.zero_add, Nat.reduceAdd]
    repeat (first | apply Aw_seq | apply Aw_block | apply Aw_skip | apply Aw_exit | refine Aw_condt rfl ?_ | refine Aw_condf rfl ?_ | ((first | refine qr ?_ | refine qd (by kernel_rfl) (by kernel_rfl) ?_); simp only [go_sem, jE, reduceIte, jA, jM, jS, jL, jD, jB]) | refine dk (by kernel_rfl) ?_ | (refine qx (call_L (N' := [1]) (L := []) (kk) rfl (.cons (.nm rfl) (.cons (.nm rfl) (.nil))) (by decide) (by decide) (by decide) (by simp only [go_sem, jE, reduceIte, jA, jM, jS, jL, jD, jB]; first | done | rfl) (.inl rfl) rfl (by decide)) (by simp only [go_sem, jE, reduceIte, jA, jM, jS, jL, jD, jB]; first | done | rfl) rfl (by simp only [go_sem, Nat.reduceLT]) ?_; simp only [go_sem, jE, reduceIte, jA, jM, jS, jL, jD, jB]))
    exact Aw_ret (ret0 (.inl rfl) (by simp only [go_sem, jE, reduceIte, jA, jM, jS, jL, jD, jB]; rfl) (by rfl) rfl)
-- idB
def Fw (s : Sto) : Prop := ∀ x ∈ s.sieves, x.rests.length ≤ 400
theorem svIs_few {keep : Nat} {ks : List ByteArray} {s : Sve} (h : SvIs keep ks s) : s.rests.length ≤ 400 := by
  rw [h.hr, List.length_map]
  exact Nat.le_trans (List.length_filter_le _ _) h.hb
theorem fw_of {s : Sto} (hv : storeS s = true) : Fw s := fun x hx => by
  have v := vst_of hv
  obtain ⟨i, hi⟩ := List.mem_iff_getElem?.1 hx
  have hl := (List.getElem?_eq_some_iff.1 hi).1
  have hll := v.ll
  have hsl := v.sl
  exact svIs_few (v.sv i _ x (List.getElem?_eq_getElem (show i < s.levels.length by omega)) hi).1
theorem setM_fw {s s' : Sto} {i : Nat} {r : List Ent} (hs : Fw s) (h : setM s i r = some s') : Fw s' := by
  obtain ⟨x, rfl, hx, _⟩ := setM_ok h
  intro y hy
  rcases List.mem_or_eq_of_mem_set hy with h | rfl
  · exact hs y h
  · exact svIs_few (svIs_of hx)
theorem intoM_fw : ∀ (d : Nat) {s s' : Sto} {i : Nat} {r : List Ent}, Fw s → intoM d s i r = some s' → Fw s'
  | 0, s, s', i, r, hs, h => setM_fw hs h
  | d + 1, s, s', i, r, hs, h => by
    simp only [intoM] at h
    split at h
    · rename_i x hx
      obtain rfl := Option.some.inj h
      exact setM_fw hs hx
    · obtain ⟨s1, h1, h2⟩ := Option.bind_eq_some_iff.1 h
      exact setM_fw (intoM_fw d hs h1) h2
theorem joinP_fw {s s' : Sto} {l : Nat} (hs : Fw s) (h : joinP s l = some s') : Fw s' := by
  unfold joinP at h
  obtain ⟨y, h1, h2⟩ := Option.bind_eq_some_iff.1 h
  exact setM_fw (intoM_fw _ hs h1) h2
/-- What is known of a store behind an operation. -/
structure OutB (s : Sto) : Prop where
  st : SmSt s
  sm : SmH s
  tp : s.top.length ≤ 5
  fw : Fw s
theorem OutB.far {s : Sto} (h : OutB s) : farT s := by
  have h1 := h.sm.ll; have h2 := h.sm.sl; have h3 := h.sm.tl; have h4 := h.tp
  exact ⟨by omega, by omega, fun e he => by have := (h.sm.lev e he).2; omega, by omega, fun e he => by have := h.fw e he; omega, by omega⟩
theorem OutB.cnt {top a b c : List Ent} {x y z : Sve} {keep time : Int} {ts : List Int} (h : OutB ⟨top, [a, b, c], [x, y, z], keep, time, ts⟩) : cntS 1 ⟨top, [a, b, c], [x, y, z], keep, time, ts⟩ ≤ 1099511627776 := by
  have h1 : top.length ≤ 5 := h.tp
  have h2 := (h.sm.lev a (by simp)).2
  have h3 := (h.sm.lev b (by simp)).2
  have h4 := (h.sm.lev c (by simp)).2
  have h5 := h.fw x (by simp)
  have h6 := h.fw y (by simp)
  have h7 := h.fw z (by simp)
  have h8 : ts.length ≤ 1000 := h.sm.tl
  show 1 + 4 * top.length + 4 * a.length + 4 * b.length + 4 * c.length + 4 + x.rests.length + 4 + y.rests.length + 4 + z.rests.length + ts.length ≤ 1099511627776
  omega
theorem sJoinM_valid {s s' : Sto} {l : Int} (h : sJoinM s l = some s') : storeS s = true ∧ inB 0 l 1 = true := by
  unfold sJoinM at h
  split at h
  · rename_i hc; rw [Bool.and_eq_true] at hc; exact hc
  · cases h
theorem sJoinM_out {s s' : Sto} {l : Int} (hs : SmSt s) (h : sJoinM s l = some s') : OutB s' := by
  obtain ⟨hv, hl⟩ := sJoinM_valid h
  rw [join_eq hv hl] at h
  obtain ⟨st, sm, tp⟩ := joinP_sm hs hv (by unfold inB at hl; simp at hl; omega) h
  exact ⟨st, sm, tp, joinP_fw (fw_of hv) h⟩
-- the marked store, told cell by cell
theorem hpN10 : hpL [none, none, none, none, none, none, none, none, none, none] = noHp := by
  funext m
  unfold hpL
  rcases m with _ | _ | _ | _ | _ | _ | _ | _ | _ | _ | m <;> rfl
theorem mark_both (top a b c : List Ent) (x y z : Sve) (keep time : Int) (ts : List Int) (hq : cntS 1 ⟨top, [a, b, c], [x, y, z], keep, time, ts⟩ ≤ 1099511627776) : ∃ (top' a' b' c' : List Ent) (x' y' z' : Sve) (ts' : List Int) (n : Nat),
    AC Tryz.prog 13 [.agg [.h 0, .h 1, .h 2, .d (.s (.int .i64 keep)), .d (.s (.int .i64 time)), .h 3], iT 1] (hpL (cloS top a b c x y z ts)) 10 ⟨.t (iT (n : Nat)), hpL (cloS top' a' b' c' x' y' z' ts'), 10⟩ ∧
    AC Tryz.prog 14 [stT ⟨top', [a', b', c'], [x', y', z'], keep, time, ts'⟩, iT 1] noHp 0 ⟨.t (iT (n : Nat)), noHp, 0⟩ :=
  ⟨_, _, _, _, _, _, _, _, _, markStoreO_ac top a b c x y z keep time ts 1 hq, heldStoreM_ac ⟨top, [a, b, c], [x, y, z], keep, time, ts⟩ 1 (by simp) (by simp) hq⟩
theorem mark_none (top a b c : List Ent) (x y z : Sve) (keep time : Int) (ts : List Int) (hq : cntS 1 ⟨top, [a, b, c], [x, y, z], keep, time, ts⟩ ≤ 1099511627776) : ∃ n : Nat,
    AC Tryz.prog 13 [.agg [.h 0, .h 1, .h 2, .d (.s (.int .i64 keep)), .d (.s (.int .i64 time)), .h 3], iT 1] (hpL (cloS top a b c x y z ts)) 10 ⟨.t (iT (n : Nat)), hpL [none, none, none, none, none, none, none, none, none, none], 10⟩ :=
  ⟨_, by rw [hpN10]; exact AC.drop (markStoreO_ac top a b c x y z keep time ts 1 hq) rfl (Nat.le_refl _)⟩
@[simp] theorem flat_svN (x : Sve) (j : Nat) : (svN x j).all CV.flat = true := rfl
-- idB
theorem storeJoin_own (s : Sto) (l : Int) (hs : SmSt s) (hv : storeS s = true) (hl : inB 0 l 1 = true) (top a b c : List Ent) (x y z : Sve) (keep time : Int) (ts : List Int) (h : joinP s l.toNat = some ⟨top, [a, b, c], [x, y, z], keep, time, ts⟩) : AC Tryz.prog 20 [stT s, iT l] noHp 0 ⟨.tup [.agg [.h 0, .h 1, .h 2, .d (.s (.int .i64 keep)), .d (.s (.int .i64 time)), .h 3], bT true], hpL (cloS top a b c x y z ts), 10⟩ := by
  have kk := chgJoin_own s l hs hv hl top a b c x y z keep time ts h
  unfold inO svN at kk
  unfold cloS svN
  refine AC_of Tryz.func20 rfl Tryz.ntmps20 Tryz.results20 (by kernel_rfl) rfl ?_
  simp only [List.zipIdx, List.map, Nat.zero_add, Nat.reduceAdd]
  repeat (first | apply Aw_seq | apply Aw_block | apply Aw_skip | apply Aw_exit | refine Aw_condt rfl ?_ | refine Aw_condf rfl ?_ | ((first | refine qr ?_ | refine qd (by kernel_rfl) (by kernel_rfl) ?_); simp only [go_sem, jE, reduceIte, jA, jM, jS, jL, jD, jB]) | refine dk (by kernel_rfl) ?_ | (refine qx (call_L (N' := [1]) (L := []) (kk) rfl (.cons (.nm rfl) (.cons (.nm rfl) (.nil))) (by decide) (by decide) (by decide) (by simp only [go_sem, jE, reduceIte, jA, jM, jS, jL, jD, jB]; first | done | rfl) (.inl rfl) rfl (by decide)) (by simp only [go_sem, jE, reduceIte, jA, jM, jS, jL, jD, jB]; first | done | rfl) rfl (by simp only [go_sem, Nat.reduceLT]) ?_; simp only [go_sem, jE, reduceIte, jA, jM, jS, jL, jD, jB]))
  exact Aw_ret (retL (M := [6, 7, 8, 9, 10, 11, 12, 13, 14, 15]) (.inl rfl) (by simp only [go_sem, jE, reduceIte, jA, jM, jS, jL, jD, jB]; first | done | rfl) rfl rfl (by rfl) (by simp only [go_sem, jE, reduceIte, jA, jM, jS, jL, jD, jB]; first | done | rfl | (and_intros <;> rfl)) (by decide) (idB rfl))
theorem storeJoin_none (s : Sto) (l : Int) (hs : SmSt s) (h : sJoinM s l = none) : AC Tryz.prog 20 [stT s, iT l] noHp 0 ⟨.tup [zA, bT false], hpL [], 0⟩ := by
  have kk := chgJoin_no s l hs h
  unfold inO at kk
  refine AC.toL ?_
  refine AC_of Tryz.func20 rfl Tryz.ntmps20 Tryz.results20 (by kernel_rfl) rfl ?_
  simp only [List.zipIdx, List.map, Nat.zero_add, Nat.reduceAdd]
  repeat (first | apply Aw_seq | apply Aw_block | apply Aw_skip | apply Aw_exit | refine Aw_condt rfl ?_ | refine Aw_condf rfl ?_ | ((first | refine qr ?_ | refine qd (by kernel_rfl) (by kernel_rfl) ?_); simp only [go_sem, jE, reduceIte, jA, jM, jS, jL, jD, jB]) | refine dk (by kernel_rfl) ?_ | (refine qx (call_L (N' := [1]) (L := []) (kk) rfl (.cons (.nm rfl) (.cons (.nm rfl) (.nil))) (by decide) (by decide) (by decide) (by simp only [go_sem, jE, reduceIte, jA, jM, jS, jL, jD, jB]; first | done | rfl) (.inl rfl) rfl (by decide)) (by simp only [go_sem, jE, reduceIte, jA, jM, jS, jL, jD, jB]; first | done | rfl) rfl (by simp only [go_sem, Nat.reduceLT]) ?_; simp only [go_sem, jE, reduceIte, jA, jM, jS, jL, jD, jB]))
  exact Aw_ret (ret0 (.inl rfl) (by simp only [go_sem, jE, reduceIte, jA, jM, jS, jL, jD, jB]; rfl) (by rfl) rfl)
theorem w_sm {s : Sto} (h : wSto s ≤ 1048576) : SmSt s := by
  have m := w_mid h
  unfold wSto at h
  refine ⟨wRun_smR (n := 1048576) (by omega) (Nat.le_refl _), fun r hr => ?_, m.far.ll, m.far.sl, m.far.sieves, m.far.times⟩
  have := wS_mem (f := wRun) hr
  exact wRun_smR (n := 1048576) (by omega) (Nat.le_refl _)
-- idB
theorem law_StoreJoinX (s : Sto) (ho : okT s) (l : Int) (hwl : (Lit.int .i64 l).wf = true) : AC Tryz.prog 6 [stT s, iT l] noHp 0 ⟨.t (bT true), noHp, 0⟩ := by
  refine AC_of Tryz.func6 rfl Tryz.ntmps6 Tryz.results6 (by kernel_rfl) rfl ?_
  simp only [List.zipIdx, List.map, Nat.zero_add, Nat.reduceAdd]
  have k1 := szStore_ac s 1048576 (Nat.le_refl _) ho.big
  rw [show ((1048576 : Nat) : Int) = 1048576 from rfl] at k1
  by_cases h : wSto s ≤ 1048576
  case neg =>
    rw [szM_no h] at k1
    repeat (first | apply Aw_seq | apply Aw_block | apply Aw_skip | apply Aw_exit | refine Aw_condt rfl ?_ | refine Aw_condf rfl ?_ | ((first | refine qr ?_ | refine qd (by kernel_rfl) (by kernel_rfl) ?_); simp only [go_sem, jE, reduceIte, jA, jM, jS, jL, jD, jB, neg1, bref]) | refine dk (by kernel_rfl) ?_ | (refine qp (k1) (by simp only [go_sem, jE, reduceIte, jA, jM, jS, jL, jD, jB, neg1, bref]; first | done | rfl) rfl (by simp only [go_sem, Nat.reduceLT]) rfl rfl ?_; simp only [go_sem, jE, reduceIte, jA, jM, jS, jL, jD, jB, neg1, bref]))
    exact Aw_ret (ret0 (.inl rfl) (by simp only [go_sem, jE, reduceIte, jA, jM, jS, jL, jD, jB]; rfl) (by rfl) rfl)
  rw [szM_ok h] at k1
  have n1 := nneg (1048576 - wSto s)
  have hm := w_mid h
  have hs := w_sm h
  have k2 := toStore_ac s hm
  have k3 := (storeJoinS_own s l hs).set
  have k4 := storeJoin_ac s l hs
  cases hM : sJoinM s l with
  | none =>
    rw [hM] at k3 k4
    have k3 : AC Tryz.prog 19 [stT s, iT l] noHp 0 ⟨.tup [stT zSto, bT false], noHp, 0⟩ := k3
    have k4 : AC Tryz.prog 20 [stT s, iT l] noHp 0 ⟨.tup [stT zSto, bT false], noHp, 0⟩ := k4
    have kx := toStoreG_ac s hm
    unfold gT at kx
    have kno := storeJoin_none s l hs hM
    have kq := eqStoreA_ac
    have k5 := (eqStore_ac s hm.far).toL
    have k6 := eqStore_ac zSto zSto_far
    have km := markStoreF_ac s 1 hm (cntS_le h)
    have k7 := markStoreA_ac 1
    have k8 := heldStoreA_ac 1 (by omega)
    have n2 : decide ((1 : Int) < 0) = false := rfl
    have n3 : decide ((1 : Int) = 1) = true := rfl
    have n4 := nneg (cntS 1 s)
    rw [show ((1 : Nat) : Int) = 1 from rfl] at km k7 k8
    have hK : gK s ≤ 3000000 := by unfold gK; have := hm.ll; have := hm.sl; omega
    have e0 : ∀ hp : Hp, hole 3 (gK s) hp 0 = hp 0 := fun hp => hole_ne (by omega)
    have e1 : ∀ hp : Hp, hole 3 (gK s) hp 1 = hp 1 := fun hp => hole_ne (by omega)
    have e2 : ∀ hp : Hp, hole 3 (gK s) hp 10000005 = hp 10000005 := fun hp => hole_ne (by omega)
    repeat (first | apply Aw_seq | apply Aw_block | apply Aw_skip | apply Aw_exit | refine Aw_condt rfl ?_ | refine Aw_condf rfl ?_ | ((first | refine qr ?_ | refine qd (by kernel_rfl) (by kernel_rfl) ?_); simp only [go_sem, jE, reduceIte, jA, jM, jS, jL, jD, jB, n1, bref]) | refine dk (by kernel_rfl) ?_ | (refine qp (k1) (by simp only [go_sem, jE, reduceIte, jA, jM, jS, jL, jD, jB, n1, bref]; first | done | rfl) rfl (by simp only [go_sem, Nat.reduceLT]) rfl rfl ?_; simp only [go_sem, jE, reduceIte, jA, jM, jS, jL, jD, jB, n1, bref]) | (refine qp (k3) (by simp only [go_sem, jE, reduceIte, jA, jM, jS, jL, jD, jB, n1, bref]; first | done | rfl) rfl (by simp only [go_sem, Nat.reduceLT]) rfl rfl ?_; simp only [go_sem, jE, reduceIte, jA, jM, jS, jL, jD, jB, n1, bref]) | (refine qx (call_pure (n := 9) rfl rfl rfl k2) (by simp only [go_sem, jE, reduceIte, jA, jM, jS, jL, jD, jB, n1, bref]; first | done | rfl) rfl (by simp only [go_sem, Nat.reduceLT]) ?_; simp only [go_sem, jE, reduceIte, jA, jM, jS, jL, jD, jB, n1, bref]))
    iterate 1 (first | apply Aw_seq | apply Aw_block | apply Aw_skip | apply Aw_exit | refine Aw_condt rfl ?_ | refine Aw_condf rfl ?_ | ((first | refine qr ?_ | refine qd (by kernel_rfl) (by kernel_rfl) ?_); simp only [go_sem, jE, reduceIte, jA, jM, jS, jL, jD, jB]) | refine dk (by kernel_rfl) ?_ | (refine qx (call_N (L := []) kx rfl (.cons (.nm rfl) .nil) (.inl rfl) (gOs_len s)) (by simp only [go_sem, jE, reduceIte, jA, jM, jS, jL, jD, jB]; first | done | rfl) rfl (by simp only [go_sem, Nat.reduceLT]) ?_; simp only [go_sem, jE, reduceIte, jA, jM, jS, jL, jD, jB]))
    refine Aw.rw (rwLaw (s := s) (w := zSto) (e1 := 27) (e2 := 33) (a := 0) (b := 13) (p := 17) (l' := [(8, .t (.c (.ph 2 0 0))), (7, .t (bT false)), (6, .t (.c (.ph 1 0 0))), (2, .t (.c (.ph 0 0 0))), (1, .t (iT l)), (4, .t (bT false))]) (by omega) (by omega) ?_ ?_ ?_ ?_ (by omega) ?_) ?_
    · rw [upd_ne _ _ (by omega), upd_ne _ _ (by omega), updL_not (fun h => by have := (List.mem_range'_1.1 h).1; omega)]; rfl
    · rw [upd_ne _ _ (by omega), upd_ne _ _ (by omega), updL_not (fun h => by have := (List.mem_range'_1.1 h).1; omega)]; rfl
    · rw [upd_same]; rfl
    · exact ((gst_upL _ 17 s).upd (.inr (Nat.le_refl _))).upd (.inr (Nat.le_refl _))
    · repeat (first | exact trivial | refine ⟨rfl, rfl, ?_⟩)
    repeat (first | apply Aw_seq | apply Aw_block | apply Aw_skip | apply Aw_exit | refine Aw_condt rfl ?_ | refine Aw_condf rfl ?_ | ((first | refine qr ?_ | refine qd (by kernel_rfl) (by kernel_rfl) ?_); simp only [go_sem, jE, reduceIte, jA, jM, jS, jL, jD, jB, bref, iref, n2, n3, n4, e0, e1, e2]) | refine dk (by kernel_rfl) ?_ | (refine qp (k2) (by simp only [go_sem, jE, reduceIte, jA, jM, jS, jL, jD, jB, bref, iref, n2, n3, n4, e0, e1, e2]; first | done | rfl) rfl (by simp only [go_sem, Nat.reduceLT]) rfl rfl ?_; simp only [go_sem, jE, reduceIte, jA, jM, jS, jL, jD, jB, bref, iref, n2, n3, n4, e0, e1, e2]) | (refine qp (kq) (by simp only [go_sem, jE, reduceIte, jA, jM, jS, jL, jD, jB, bref, iref, n2, n3, n4, e0, e1, e2]; first | done | rfl) rfl (by simp only [go_sem, Nat.reduceLT]) rfl rfl ?_; simp only [go_sem, jE, reduceIte, jA, jM, jS, jL, jD, jB, bref, iref, n2, n3, n4, e0, e1, e2]) | (refine qp (k7) (by simp only [go_sem, jE, reduceIte, jA, jM, jS, jL, jD, jB, bref, iref, n2, n3, n4, e0, e1, e2]; first | done | rfl) rfl (by simp only [go_sem, Nat.reduceLT]) rfl rfl ?_; simp only [go_sem, jE, reduceIte, jA, jM, jS, jL, jD, jB, bref, iref, n2, n3, n4, e0, e1, e2]) | (refine qp (k8) (by simp only [go_sem, jE, reduceIte, jA, jM, jS, jL, jD, jB, bref, iref, n2, n3, n4, e0, e1, e2]; first | done | rfl) rfl (by simp only [go_sem, Nat.reduceLT]) rfl rfl ?_; simp only [go_sem, jE, reduceIte, jA, jM, jS, jL, jD, jB, bref, iref, n2, n3, n4, e0, e1, e2]) | (refine qp (k4) (by simp only [go_sem, jE, reduceIte, jA, jM, jS, jL, jD, jB, bref, iref, n2, n3, n4, e0, e1, e2]; first | done | rfl) rfl (by simp only [go_sem, Nat.reduceLT]) rfl rfl ?_; simp only [go_sem, jE, reduceIte, jA, jM, jS, jL, jD, jB, bref, iref, n2, n3, n4, e0, e1, e2]) | (refine qp (k6) (by simp only [go_sem, jE, reduceIte, jA, jM, jS, jL, jD, jB, bref, iref, n2, n3, n4, e0, e1, e2]; first | done | rfl) rfl (by simp only [go_sem, Nat.reduceLT]) rfl rfl ?_; simp only [go_sem, jE, reduceIte, jA, jM, jS, jL, jD, jB, bref, iref, n2, n3, n4, e0, e1, e2]) | (refine qx (call_N (L := List.range' 3 (gK s)) kno rfl (.cons (arg_gT (by repeat (first | exact gst_new 3 s | refine GSt.upd ?_ (by omega))) (fun m h1 h2 => List.mem_range'_1.2 ⟨h1, h2⟩)) (.cons (.nm rfl) .nil)) (.inr ⟨rfl, by simp⟩) rfl) (by simp only [go_sem, jE, reduceIte, jA, jM, jS, jL, jD, jB, bref, iref, n2, n3, n4, e0, e1, e2]; first | done | rfl) rfl (by simp only [go_sem, Nat.reduceLT]) ?_; simp only [go_sem, jE, reduceIte, jA, jM, jS, jL, jD, jB, bref, iref, n2, n3, n4, e0, e1, e2]) | (refine qx (call_N (L := List.range' 3 (gK s)) k5 rfl (.cons (arg_gT (by repeat (first | exact gst_new 3 s | refine GSt.upd ?_ (by omega))) (fun m h1 h2 => List.mem_range'_1.2 ⟨h1, h2⟩)) (.cons (.nm rfl) .nil)) (.inr ⟨rfl, by simp⟩) rfl) (by simp only [go_sem, jE, reduceIte, jA, jM, jS, jL, jD, jB, bref, iref, n2, n3, n4, e0, e1, e2]; first | done | rfl) rfl (by simp only [go_sem, Nat.reduceLT]) ?_; simp only [go_sem, jE, reduceIte, jA, jM, jS, jL, jD, jB, bref, iref, n2, n3, n4, e0, e1, e2]) | (refine qx (call_B (b := 3) (gOs_len s) km rfl (.cons arg_gN (.cons (.nm rfl) .nil)) (blk_gs (p := 3) (by repeat (first | exact gst_new 3 s | refine GSt.upd ?_ (by omega)))) rfl) (by simp only [go_sem, jE, reduceIte, jA, jM, jS, jL, jD, jB, bref, iref, n2, n3, n4, e0, e1, e2]; first | done | rfl) rfl (by simp only [go_sem, Nat.reduceLT]) ?_; simp only [go_sem, jE, reduceIte, jA, jM, jS, jL, jD, jB, bref, iref, n2, n3, n4, e0, e1, e2]))
    exact Aw_ret (ret0 (.inl rfl) (by simp only [go_sem, jE, reduceIte, jA, jM, jS, jL, jD, jB]; rfl) (by rfl) rfl)
  | some s' =>
    rw [hM] at k3 k4
    have k3 : AC Tryz.prog 19 [stT s, iT l] noHp 0 ⟨.tup [stT s', bT true], noHp, 0⟩ := k3
    have k4 : AC Tryz.prog 20 [stT s, iT l] noHp 0 ⟨.tup [stT s', bT true], noHp, 0⟩ := k4
    obtain ⟨hv, hl⟩ := sJoinM_valid hM
    have ho := sJoinM_out hs hM
    have k5 := (eqStore_ac s hm.far).toL
    have k6 := eqStore_ac s' ho.far
    have km1 := cntS_le h
    obtain ⟨hll, hsl, _⟩ := storeS_facts hv
    obtain ⟨top', levels', sieves', keep', time', ts'⟩ := s'
    obtain ⟨a', b', c', rfl⟩ := len3 ho.sm.ll
    obtain ⟨x', y', z', rfl⟩ := len3 ho.sm.sl
    have kown := storeJoin_own s l hs hv hl top' a' b' c' x' y' z' keep' time' ts' (by rw [← join_eq hv hl]; exact hM)
    obtain ⟨tM, aM, bM, cM, xM, yM, zM, iM, mM, km2, k8⟩ := mark_both top' a' b' c' x' y' z' keep' time' ts' ho.cnt
    obtain ⟨top, levels, sieves, keep, time, ts⟩ := s
    obtain ⟨a, b, c, rfl⟩ := len3 hll
    obtain ⟨x, y, z, rfl⟩ := len3 hsl
    obtain ⟨mX, km⟩ := mark_none top a b c x y z keep time ts km1
    have kx := toStoreO_ac top a b c x y z keep time ts hm
    clear hM ho hv hs hm km1
    have n4 := nneg mX
    have n5 := nneg mM
    unfold cloS svN at *
    dsimp only at *
    have k6L := k6.toL
    have k8L := k8.toL
    repeat (first | apply Aw_seq | apply Aw_block | apply Aw_skip | apply Aw_exit | refine Aw_condt rfl ?_ | refine Aw_condf rfl ?_ | ((first | refine qr ?_ | refine qd (by kernel_rfl) (by kernel_rfl) ?_); simp only [go_sem, jE, reduceIte, jA, jM, jS, jL, jD, jB, n1, bref, n4, n5, bref, iref]) | refine dk (by kernel_rfl) ?_ | (refine qp (k1) (by simp only [go_sem, jE, reduceIte, jA, jM, jS, jL, jD, jB, n1, bref, n4, n5, bref, iref]; first | done | rfl) rfl (by simp only [go_sem, Nat.reduceLT]) rfl rfl ?_; simp only [go_sem, jE, reduceIte, jA, jM, jS, jL, jD, jB, n1, bref, n4, n5, bref, iref]) | (refine qp (k3) (by simp only [go_sem, jE, reduceIte, jA, jM, jS, jL, jD, jB, n1, bref, n4, n5, bref, iref]; first | done | rfl) rfl (by simp only [go_sem, Nat.reduceLT]) rfl rfl ?_; simp only [go_sem, jE, reduceIte, jA, jM, jS, jL, jD, jB, n1, bref, n4, n5, bref, iref]) | (refine qp (k4) (by simp only [go_sem, jE, reduceIte, jA, jM, jS, jL, jD, jB, n1, bref, n4, n5, bref, iref]; first | done | rfl) rfl (by simp only [go_sem, Nat.reduceLT]) rfl rfl ?_; simp only [go_sem, jE, reduceIte, jA, jM, jS, jL, jD, jB, n1, bref, n4, n5, bref, iref]) | (refine qp (k6) (by simp only [go_sem, jE, reduceIte, jA, jM, jS, jL, jD, jB, n1, bref, n4, n5, bref, iref]; first | done | rfl) rfl (by simp only [go_sem, Nat.reduceLT]) rfl rfl ?_; simp only [go_sem, jE, reduceIte, jA, jM, jS, jL, jD, jB, n1, bref, n4, n5, bref, iref]) | (refine qx (call_N (n := 17) (L := []) kx rfl (.cons (.nm rfl) .nil) (.inl rfl) rfl) (by simp only [go_sem, jE, reduceIte, jA, jM, jS, jL, jD, jB, n1, bref, n4, n5, bref, iref]; first | done | rfl) rfl (by simp only [go_sem, Nat.reduceLT]) ?_; simp only [go_sem, jE, reduceIte, jA, jM, jS, jL, jD, jB, n1, bref, n4, n5, bref, iref]) | (refine qx (call_pure rfl rfl rfl k2) (by simp only [go_sem, jE, reduceIte, jA, jM, jS, jL, jD, jB, n1, bref, n4, n5, bref, iref]; first | done | rfl) rfl (by simp only [go_sem, Nat.reduceLT]) ?_; simp only [go_sem, jE, reduceIte, jA, jM, jS, jL, jD, jB, n1, bref, n4, n5, bref, iref]) | (refine qx (call_N (L := [17, 18, 19, 20, 21, 22, 23, 24, 25, 26]) (kown) rfl (.cons (arg_oT rfl rfl rfl rfl rfl rfl rfl rfl rfl rfl rfl) (.cons (.nm rfl) (.nil))) (.inr ⟨rfl, by simp⟩) rfl) (by simp only [go_sem, jE, reduceIte, jA, jM, jS, jL, jD, jB, n1, bref, n4, n5, bref, iref]; first | done | rfl) rfl (by simp only [go_sem, Nat.reduceLT]) ?_; simp only [go_sem, jE, reduceIte, jA, jM, jS, jL, jD, jB, n1, bref, n4, n5, bref, iref]) | (refine qx (call_N (L := [31, 32, 33, 34, 35, 36, 37, 38, 39, 40]) (k6L) rfl (.cons (arg_oT rfl rfl rfl rfl rfl rfl rfl rfl rfl rfl rfl) (.cons (.nm rfl) (.nil))) (.inr ⟨rfl, by simp⟩) rfl) (by simp only [go_sem, jE, reduceIte, jA, jM, jS, jL, jD, jB, n1, bref, n4, n5, bref, iref]; first | done | rfl) rfl (by simp only [go_sem, Nat.reduceLT]) ?_; simp only [go_sem, jE, reduceIte, jA, jM, jS, jL, jD, jB, n1, bref, n4, n5, bref, iref]) | (refine qx (call_N (L := [17, 18, 19, 20, 21, 22, 23, 24, 25, 26]) (k5) rfl (.cons (arg_oT rfl rfl rfl rfl rfl rfl rfl rfl rfl rfl rfl) (.cons (.nm rfl) (.nil))) (.inr ⟨rfl, by simp⟩) rfl) (by simp only [go_sem, jE, reduceIte, jA, jM, jS, jL, jD, jB, n1, bref, n4, n5, bref, iref]; first | done | rfl) rfl (by simp only [go_sem, Nat.reduceLT]) ?_; simp only [go_sem, jE, reduceIte, jA, jM, jS, jL, jD, jB, n1, bref, n4, n5, bref, iref]) | (refine qx (call_L (N' := [17, 18, 19, 20, 21, 22, 23, 24, 25, 26]) (L := []) (km) rfl (.cons (.nm rfl) (.cons (.nm rfl) (.nil))) (by decide) (by decide) (by decide) (by simp only [go_sem, jE, reduceIte, jA, jM, jS, jL, jD, jB, n1, bref, n4, n5, bref, iref]; first | done | rfl) (.inl rfl) rfl (by decide)) (by simp only [go_sem, jE, reduceIte, jA, jM, jS, jL, jD, jB, n1, bref, n4, n5, bref, iref]; first | done | rfl) rfl (by simp only [go_sem, Nat.reduceLT]) ?_; simp only [go_sem, jE, reduceIte, jA, jM, jS, jL, jD, jB, n1, bref, n4, n5, bref, iref]) | (refine qx (call_L (N' := [31, 32, 33, 34, 35, 36, 37, 38, 39, 40]) (L := []) (km2) rfl (.cons (.nm rfl) (.cons (.nm rfl) (.nil))) (by decide) (by decide) (by decide) (by simp only [go_sem, jE, reduceIte, jA, jM, jS, jL, jD, jB, n1, bref, n4, n5, bref, iref]; first | done | rfl) (.inl rfl) rfl (by decide)) (by simp only [go_sem, jE, reduceIte, jA, jM, jS, jL, jD, jB, n1, bref, n4, n5, bref, iref]; first | done | rfl) rfl (by simp only [go_sem, Nat.reduceLT]) ?_; simp only [go_sem, jE, reduceIte, jA, jM, jS, jL, jD, jB, n1, bref, n4, n5, bref, iref]) | (refine qx (call_N (L := [31, 32, 33, 34, 35, 36, 37, 38, 39, 40]) (k8L) rfl (.cons (arg_oT rfl rfl rfl rfl rfl rfl rfl rfl rfl rfl rfl) (.cons (.nm rfl) (.nil))) (.inr ⟨rfl, by simp⟩) rfl) (by simp only [go_sem, jE, reduceIte, jA, jM, jS, jL, jD, jB, n1, bref, n4, n5, bref, iref]; first | done | rfl) rfl (by simp only [go_sem, Nat.reduceLT]) ?_; simp only [go_sem, jE, reduceIte, jA, jM, jS, jL, jD, jB, n1, bref, n4, n5, bref, iref]))
    exact Aw_ret (ret0 (.inl rfl) (by simp only [go_sem, jE, reduceIte, jA, jM, jS, jL, jD, jB]; rfl) (by rfl) rfl)
end Go.Proofs.YtimkdclalajadaaGreat.Ab
