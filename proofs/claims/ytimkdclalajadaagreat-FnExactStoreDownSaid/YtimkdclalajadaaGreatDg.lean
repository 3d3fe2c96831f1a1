/-
  Contract: a level that is pushed into the next one, the program's. No condition.
  Plain: how large a store is behind an operation; marked rows told by their sizes. No condition.
  Contract: the top that goes down, the program's. No condition.
  Contracts: operations of the program's with results of their own. No condition.
  Contract: the law of the store's check gives true, of every store. No condition.
  Contract: the law of the store that down makes gives true, of every store. No condition.
-/
import Derived.Test.YtimkdclalajadaaGreatDf
import Derived.Test.YtimkdclalajadaaGreatDd
import Derived.Test.YtimkdclalajadaaGreatDe
namespace Go.Proofs.YtimkdclalajadaaGreat.Ab
open Nat renaming reduceEqDiff → jE, reduceAdd → jA, reduceMul → jM, reduceSub → jS, reduceLT → jL, reduceLeDiff → jD, reduceBEq → jB
set_option linter.deprecated false
set_option linter.unusedVariables false
set_option linter.unusedSimpArgs false
open Go Go.Proofs
set_option maxRecDepth 10000
set_option maxHeartbeats 8000000
-- idB
def Fw (s : Sto) : Prop := ∀ x ∈ s.sieves, x.rests.length ≤ 400
theorem svIs_few {keep : Nat} {ks : List ByteArray} {s : Sve} (h : SvIs keep ks s) : s.rests.length ≤ 400 := by
  rw [h.hr, List.length_map]
  exact Nat.le_trans (List.length_filter_le _ _) h.hb
theorem fw_of {s : Sto} (hv : storeS s = true) : Fw s := fun x hx => by
  have v := vst_of hv
  obtain ⟨i, hi⟩ := List.mem_iff_getElem?.1 hx
  have hl := (List.getElem?_eq_some_iff.1 hi).1
  have hll := v.ll
  have hsl := v.sl
  exact svIs_few (v.sv i _ x (List.getElem?_eq_getElem (show i < s.levels.length by omega)) hi).1
theorem setM_fw {s s' : Sto} {i : Nat} {r : List Ent} (hs : Fw s) (h : setM s i r = some s') : Fw s' := by
  obtain ⟨x, rfl, hx, _⟩ := setM_ok h
  intro y hy
  rcases List.mem_or_eq_of_mem_set hy with h | rfl
  · exact hs y h
  · exact svIs_few (svIs_of hx)
theorem intoM_fw : ∀ (d : Nat) {s s' : Sto} {i : Nat} {r : List Ent}, Fw s → intoM d s i r = some s' → Fw s'
  | 0, s, s', i, r, hs, h => setM_fw hs h
  | d + 1, s, s', i, r, hs, h => by
    simp only [intoM] at h
    split at h
    · rename_i x hx
      obtain rfl := Option.some.inj h
      exact setM_fw hs hx
    · obtain ⟨s1, h1, h2⟩ := Option.bind_eq_some_iff.1 h
      exact setM_fw (intoM_fw d hs h1) h2
theorem downM_fw {s s' : Sto} (hs : Fw s) (h : downM s = some s') : Fw s' := intoM_fw 2 (s := noTop s) hs h
/-- What is known of a store behind an operation. -/
structure OutB (s : Sto) : Prop where
  st : SmSt s
  sm : SmH s
  tp : s.top.length ≤ 5
  fw : Fw s
theorem OutB.far {s : Sto} (h : OutB s) : farT s := by
  have h1 := h.sm.ll; have h2 := h.sm.sl; have h3 := h.sm.tl; have h4 := h.tp
  exact ⟨by omega, by omega, fun e he => by have := (h.sm.lev e he).2; omega, by omega, fun e he => by have := h.fw e he; omega, by omega⟩
theorem OutB.cnt {top a b c : List Ent} {x y z : Sve} {keep time : Int} {ts : List Int} (h : OutB ⟨top, [a, b, c], [x, y, z], keep, time, ts⟩) : cntS 1 ⟨top, [a, b, c], [x, y, z], keep, time, ts⟩ ≤ 1099511627776 := by
  have h1 : top.length ≤ 5 := h.tp
  have h2 := (h.sm.lev a (by simp)).2
  have h3 := (h.sm.lev b (by simp)).2
  have h4 := (h.sm.lev c (by simp)).2
  have h5 := h.fw x (by simp)
  have h6 := h.fw y (by simp)
  have h7 := h.fw z (by simp)
  have h8 : ts.length ≤ 1000 := h.sm.tl
  show 1 + 4 * top.length + 4 * a.length + 4 * b.length + 4 * c.length + 4 + x.rests.length + 4 + y.rests.length + 4 + z.rests.length + ts.length ≤ 1099511627776
  omega
theorem sDownM_valid {s s' : Sto} (h : sDownM s = some s') : storeS s = true := by
  unfold sDownM at h
  split at h
  · assumption
  · cases h
theorem sDownM_down {s s' : Sto} (h : sDownM s = some s') : downM s = some s' := by
  have hv := sDownM_valid h
  unfold sDownM at h
  rwa [if_pos hv] at h
theorem sDownM_out {s s' : Sto} (hs : SmSt s) (h : sDownM s = some s') : OutB s' := by
  have hv := sDownM_valid h
  have hd := sDownM_down h
  obtain ⟨st, gt⟩ := downM_st hs hv hd
  exact ⟨st, downM_sm hs hv hd, by rw [gt]; simp, downM_fw (fw_of hv) hd⟩
theorem hpN10 : hpL [none, none, none, none, none, none, none, none, none, none] = noHp := by
  funext m
  unfold hpL
  rcases m with _ | _ | _ | _ | _ | _ | _ | _ | _ | _ | m <;> rfl
theorem mark_both (top a b c : List Ent) (x y z : Sve) (keep time : Int) (ts : List Int) (hq : cntS 1 ⟨top, [a, b, c], [x, y, z], keep, time, ts⟩ ≤ 1099511627776) : ∃ (top' a' b' c' : List Ent) (x' y' z' : Sve) (ts' : List Int) (n : Nat),
    AC Tryz.prog 13 [.agg [.h 0, .h 1, .h 2, .d (.s (.int .i64 keep)), .d (.s (.int .i64 time)), .h 3], iT 1] (hpL (cloS top a b c x y z ts)) 10 ⟨.t (iT (n : Nat)), hpL (cloS top' a' b' c' x' y' z' ts'), 10⟩ ∧
    AC Tryz.prog 14 [stT ⟨top', [a', b', c'], [x', y', z'], keep, time, ts'⟩, iT 1] noHp 0 ⟨.t (iT (n : Nat)), noHp, 0⟩ :=
  ⟨_, _, _, _, _, _, _, _, _, markStoreO_ac top a b c x y z keep time ts 1 hq, heldStoreM_ac ⟨top, [a, b, c], [x, y, z], keep, time, ts⟩ 1 (by simp) (by simp) hq⟩
theorem mark_none (top a b c : List Ent) (x y z : Sve) (keep time : Int) (ts : List Int) (hq : cntS 1 ⟨top, [a, b, c], [x, y, z], keep, time, ts⟩ ≤ 1099511627776) : ∃ n : Nat,
    AC Tryz.prog 13 [.agg [.h 0, .h 1, .h 2, .d (.s (.int .i64 keep)), .d (.s (.int .i64 time)), .h 3], iT 1] (hpL (cloS top a b c x y z ts)) 10 ⟨.t (iT (n : Nat)), hpL [none, none, none, none, none, none, none, none, none, none], 10⟩ :=
  ⟨_, by rw [hpN10]; exact AC.drop (markStoreO_ac top a b c x y z keep time ts 1 hq) rfl (Nat.le_refl _)⟩
@[simp] theorem flat_svN (x : Sve) (j : Nat) : (svN x j).all CV.flat = true := rfl
theorem chgDown_own (s : Sto) (hs : SmSt s) (hv : storeS s = true) (top a b c : List Ent) (x y z : Sve) (keep time : Int) (ts : List Int) (h : downM s = some ⟨top, [a, b, c], [x, y, z], keep, time, ts⟩) : AC Tryz.prog 35 [stT s, .c (.fn 51 [])] noHp 0 ⟨.tup [.agg [.h 0, .h 1, .h 2, .d (.s (.int .i64 keep)), .d (.s (.int .i64 time)), .h 3], bT true], hpL [some (eRow top), some ⟨29, 1, true, [[.h 4], [.h 5], [.h 6]]⟩, some ⟨82, 5, true, [svN x 7, svN y 8, svN z 9]⟩, some (tmRow ts), some (eRow a), some (eRow b), some (eRow c), some (kRow x.rests), some (kRow y.rests), some (kRow z.rests)], 10⟩ := by
  have k1 := storeOkI_ac s hs
  rw [hv] at k1
  have kc := cloneP_ac s hs hv
  have kv := down_ok s ⟨top, [a, b, c], [x, y, z], keep, time, ts⟩ hs hv h
  have g := downM_sm hs hv h
  obtain ⟨st, gt0⟩ := downM_st hs hv h
  have gt := congrArg List.length gt0
  rw [List.length_nil] at gt
  have hrl := st.rl
  have hlv := g.lev
  have htl := g.tl
  dsimp only at hrl hlv htl gt
  have kf := storeClone_ac top a b c x y z keep time ts (by omega) (by have := (hlv a (by simp)).2; omega) (by have := (hlv b (by simp)).2; omega) (by have := (hlv c (by simp)).2; omega) (hrl x (by simp)) (hrl y (by simp)) (hrl z (by simp)) (by omega)
  unfold cloS svN at kf
  unfold svN
  have arS : ∀ {hp : Hp} {N' L : List Nat} (p q : Nat), hp p = some (lvRow [a, b, c]) → hp q = some (svRow [x, y, z]) → p ∈ L ∧ q ∈ L → Arg hp N' L (.agg [.d (.rs 4 (top.map entD)), .h p, .h q, .d (.s (.int .i64 keep)), .d (.s (.int .i64 time)), .d (.rs 1 (ts.map intD))]) (stT ⟨top, [a, b, c], [x, y, z], keep, time, ts⟩) := fun p q h1 h2 h3 => arg_pS (s := ⟨top, [a, b, c], [x, y, z], keep, time, ts⟩) h1 h2 h3
  refine AC_of Tryz.func35 rfl Tryz.ntmps35 Tryz.results35 (by kernel_rfl) rfl ?_
  simp only [List.zipIdx, List.map, Nat.zero_add, Nat.reduceAdd]
  repeat (first | apply Aw_seq | apply Aw_block | apply Aw_skip | apply Aw_exit | refine Aw_condt rfl ?_ | refine Aw_condf rfl ?_ | ((first | refine qr ?_ | refine qd (by kernel_rfl) (by kernel_rfl) ?_); simp only [go_sem, jE, reduceIte, jA, jM, jS, jL, jD, jB]) | refine dk (by kernel_rfl) ?_ | (refine qp (k1) (by simp only [go_sem, jE, reduceIte, jA, jM, jS, jL, jD, jB]; first | done | rfl) rfl (by simp only [go_sem, Nat.reduceLT]) rfl rfl ?_; simp only [go_sem, jE, reduceIte, jA, jM, jS, jL, jD, jB]) | (refine qx (call_N (L := []) (kc) rfl (.cons (.nm rfl) (.nil)) (.inl rfl) rfl) (by simp only [go_sem, jE, reduceIte, jA, jM, jS, jL, jD, jB]; first | done | rfl) rfl (by simp only [go_sem, Nat.reduceLT]) ?_; simp only [go_sem, jE, reduceIte, jA, jM, jS, jL, jD, jB]) | (refine qx (call_N (L := [6, 7]) (kf) rfl (.cons (arS 6 7 rfl rfl (by simp)) (.nil)) (.inr ⟨rfl, by simp⟩) rfl) (by simp only [go_sem, jE, reduceIte, jA, jM, jS, jL, jD, jB]; first | done | rfl) rfl (by simp only [go_sem, Nat.reduceLT]) ?_; simp only [go_sem, jE, reduceIte, jA, jM, jS, jL, jD, jB]) | (refine ex_callv (by simp only [go_sem, jE, reduceIte, jA, jM, jS, jL, jD, jB]; first | done | rfl) (call_V (N' := [8, 6, 7]) (L := []) 1 (kv) rfl (.cons (.nm rfl) (.nil)) (by first | exact .nil | (simp only [capT, List.map]; exact .nil)) (by decide) (by decide) (by decide) (by simp only [go_sem, jE, reduceIte, jA, jM, jS, jL, jD, jB]; first | done | rfl) (.inl rfl) rfl (by decide)) (by simp only [go_sem, jE, reduceIte, jA, jM, jS, jL, jD, jB]; first | done | rfl) rfl (by simp only [go_sem, Nat.reduceLT]) ?_; simp only [go_sem, jE, reduceIte, jA, jM, jS, jL, jD, jB]))
  exact Aw_ret (retL (M := [13, 14, 15, 16, 17, 18, 19, 20, 21, 22]) (.inl rfl) (by simp only [go_sem, jE, reduceIte, jA, jM, jS, jL, jD, jB]; first | done | rfl) rfl rfl (by rfl) (by simp only [go_sem, jE, reduceIte, jA, jM, jS, jL, jD, jB]; first | done | rfl | (and_intros <;> rfl)) (by decide) (by unfold idM; decide))
theorem chgDown_ok (s s' : Sto) (hs : SmSt s) (hv : storeS s = true) (h : downM s = some s') : AC Tryz.prog 35 [stT s, .c (.fn 51 [])] noHp 0 ⟨.tup [stT s', bT true], noHp, 0⟩ := by
  have g := downM_sm hs hv h
  obtain ⟨st, gt0⟩ := downM_st hs hv h
  have gt := congrArg List.length gt0
  rw [List.length_nil] at gt
  obtain ⟨top, levels, sieves, keep, time, ts⟩ := s'
  obtain ⟨a, b, c, rfl⟩ := len3 g.ll
  obtain ⟨x, y, z, rfl⟩ := len3 g.sl
  have kk := chgDown_own s hs hv top a b c x y z keep time ts h
  unfold svN at kk
  have h1 := AC.setS [4, 5, 6, 7, 8, 9] kk (y := .tup [.agg [.h 0, .h 1, .h 2, .d (.s (.int .i64 keep)), .d (.s (.int .i64 time)), .h 3], bT true]) (os' := [some (eRow top), some (lvRow [a, b, c]), some (svRow [x, y, z]), some (tmRow ts)])
    (.cons (.cons (.inl rfl) (.cons (.inl rfl) (.cons (.inl rfl) (.cons (.inl rfl) (.cons (.inl rfl) (.cons (.inl rfl) .nil)))))) (.cons (.inl rfl) .nil))
    ⟨.inl rfl, rfl, .inr ⟨rfl, rfl, rfl, .cons (.cons (SetC.row0 rfl rfl) .nil) (.cons (.cons (SetC.row0 rfl rfl) .nil) (.cons (.cons (SetC.row0 rfl rfl) .nil) .nil))⟩, rfl,
      .inr ⟨rfl, rfl, rfl, .cons (.cons (.inl rfl) (.cons (.inl rfl) (.cons (.inl rfl) (.cons (SetC.row0 rfl rfl) (.cons (.inl rfl) .nil))))) (.cons (.cons (.inl rfl) (.cons (.inl rfl) (.cons (.inl rfl) (.cons (SetC.row0 rfl rfl) (.cons (.inl rfl) .nil))))) (.cons (.cons (.inl rfl) (.cons (.inl rfl) (.cons (.inl rfl) (.cons (SetC.row0 rfl rfl) (.cons (.inl rfl) .nil))))) .nil))⟩, rfl, .inl rfl, rfl, trivial⟩
  exact AC.settle0 [0, 1, 2, 3] h1
    (.cons (.cons (SetC.row0 rfl rfl) (.cons (SetC.row0 rfl rfl) (.cons (SetC.row0 rfl rfl) (.cons (.inl rfl) (.cons (.inl rfl) (.cons (SetC.row0 rfl rfl) .nil)))))) (.cons (.inl rfl) .nil)) rfl
theorem chgDown_no (s : Sto) (hs : SmSt s) (h : sDownM s = none) : AC Tryz.prog 35 [stT s, .c (.fn 51 [])] noHp 0 ⟨.tup [zA, bT false], noHp, 0⟩ := by
  have k1 := storeOkI_ac s hs
  cases hv : storeS s
  · rw [hv] at k1
    refine AC_of Tryz.func35 rfl Tryz.ntmps35 Tryz.results35 (by kernel_rfl) rfl ?_
    simp only [List.zipIdx, List.map, Nat.zero_add, Nat.reduceAdd]
    repeat (first | apply Aw_seq | apply Aw_block | apply Aw_skip | apply Aw_exit | refine Aw_condt rfl ?_ | refine Aw_condf rfl ?_ | ((first | refine qr ?_ | refine qd (by kernel_rfl) (by kernel_rfl) ?_); simp only [go_sem, jE, reduceIte, jA, jM, jS, jL, jD, jB]) | refine dk (by kernel_rfl) ?_ | (refine qp (k1) (by simp only [go_sem, jE, reduceIte, jA, jM, jS, jL, jD, jB]; first | done | rfl) rfl (by simp only [go_sem, Nat.reduceLT]) rfl rfl ?_; simp only [go_sem, jE, reduceIte, jA, jM, jS, jL, jD, jB]))
    exact Aw_ret (ret0 (.inl rfl) (by simp only [go_sem, jE, reduceIte, jA, jM, jS, jL, jD, jB]; rfl) (by rfl) rfl)
  rw [hv] at k1
  unfold sDownM at h
  rw [hv, if_pos rfl] at h
  have kc := cloneP_ac s hs hv
  have kv := down_no s hs hv h
  refine AC_of Tryz.func35 rfl Tryz.ntmps35 Tryz.results35 (by kernel_rfl) rfl ?_
  simp only [List.zipIdx, List.map, Nat.zero_add, Nat.reduceAdd]
  repeat (first | apply Aw_seq | apply Aw_block | apply Aw_skip | apply Aw_exit | refine Aw_condt rfl ?_ | refine Aw_condf rfl ?_ | ((first | refine qr ?_ | refine qd (by kernel_rfl) (by kernel_rfl) ?_); simp only [go_sem, jE, reduceIte, jA, jM, jS, jL, jD, jB]) | refine dk (by kernel_rfl) ?_ | (refine qp (k1) (by simp only [go_sem, jE, reduceIte, jA, jM, jS, jL, jD, jB]; first | done | rfl) rfl (by simp only [go_sem, Nat.reduceLT]) rfl rfl ?_; simp only [go_sem, jE, reduceIte, jA, jM, jS, jL, jD, jB]) | (refine qx (call_N (L := []) (kc) rfl (.cons (.nm rfl) (.nil)) (.inl rfl) rfl) (by simp only [go_sem, jE, reduceIte, jA, jM, jS, jL, jD, jB]; first | done | rfl) rfl (by simp only [go_sem, Nat.reduceLT]) ?_; simp only [go_sem, jE, reduceIte, jA, jM, jS, jL, jD, jB]) | (refine ex_callv (by simp only [go_sem, jE, reduceIte, jA, jM, jS, jL, jD, jB]; first | done | rfl) (call_V (N' := [8, 6, 7]) (L := []) 1 (kv) rfl (.cons (.nm rfl) (.nil)) (by first | exact .nil | (simp only [capT, List.map]; exact .nil)) (by decide) (by decide) (by decide) (by simp only [go_sem, jE, reduceIte, jA, jM, jS, jL, jD, jB]; first | done | rfl) (.inl rfl) rfl (by decide)) (by simp only [go_sem, jE, reduceIte, jA, jM, jS, jL, jD, jB]; first | done | rfl) rfl (by simp only [go_sem, Nat.reduceLT]) ?_; simp only [go_sem, jE, reduceIte, jA, jM, jS, jL, jD, jB]))
  exact Aw_ret (ret0 (.inl rfl) (by simp only [go_sem, jE, reduceIte, jA, jM, jS, jL, jD, jB]; rfl) (by rfl) rfl)
theorem storeDown_ac (s : Sto) (hs : SmSt s) : AC Tryz.prog 18 [stT s] noHp 0 ⟨resO (sDownM s), noHp, 0⟩ := by
  cases h : sDownM s with
  | none =>
    refine AC.nilR (x := .tup [zA, bT false]) ?_ zA_nil
    have kk := chgDown_no s hs h
    refine AC_of Tryz.func18 rfl Tryz.ntmps18 Tryz.results18 (by kernel_rfl) rfl ?_
    simp only [List.zipIdx, List.map, Nat.zero_add, Nat.reduceAdd]
    repeat (first | apply Aw_seq | apply Aw_block | apply Aw_skip | apply Aw_exit | refine Aw_condt rfl ?_ | refine Aw_condf rfl ?_ | ((first | refine qr ?_ | refine qd (by kernel_rfl) (by kernel_rfl) ?_); simp only [go_sem, jE, reduceIte, jA, jM, jS, jL, jD, jB]) | refine dk (by kernel_rfl) ?_ | (refine qp (kk) (by simp only [go_sem, jE, reduceIte, jA, jM, jS, jL, jD, jB]; first | done | rfl) rfl (by simp only [go_sem, Nat.reduceLT]) rfl rfl ?_; simp only [go_sem, jE, reduceIte, jA, jM, jS, jL, jD, jB]))
    exact Aw_ret (ret0 (.inl rfl) (by simp only [go_sem, jE, reduceIte, jA, jM, jS, jL, jD, jB]; rfl) (by rfl) rfl)
  | some s' =>
    have hv : storeS s = true := by
      unfold sDownM at h
      split at h
      · assumption
      · cases h
    have kk := chgDown_ok s s' hs hv (by unfold sDownM at h; rw [hv, if_pos rfl] at h; exact h)
    refine AC_of Tryz.func18 rfl Tryz.ntmps18 Tryz.results18 (by kernel_rfl) rfl ?_
    simp only [List.zipIdx, List.map, Nat.zero_add, Nat.reduceAdd]
    repeat (first | apply Aw_seq | apply Aw_block | apply Aw_skip | apply Aw_exit | refine Aw_condt rfl ?_ | refine Aw_condf rfl ?_ | ((first | refine qr ?_ | refine qd (by kernel_rfl) (by kernel_rfl) ?_); simp only [go_sem, jE, reduceIte, jA, jM, jS, jL, jD, jB]) | refine dk (by kernel_rfl) ?_ | (refine qp (kk) (by simp only [go_sem, jE, reduceIte, jA, jM, jS, jL, jD, jB]; first | done | rfl) rfl (by simp only [go_sem, Nat.reduceLT]) rfl rfl ?_; simp only [go_sem, jE, reduceIte, jA, jM, jS, jL, jD, jB]))
    exact Aw_ret (ret0 (.inl rfl) (by simp only [go_sem, jE, reduceIte, jA, jM, jS, jL, jD, jB]; rfl) (by rfl) rfl)
-- idB
theorem storeDown_own (s : Sto) (hs : SmSt s) (hv : storeS s = true) (top a b c : List Ent) (x y z : Sve) (keep time : Int) (ts : List Int) (h : downM s = some ⟨top, [a, b, c], [x, y, z], keep, time, ts⟩) : AC Tryz.prog 18 [stT s] noHp 0 ⟨.tup [.agg [.h 0, .h 1, .h 2, .d (.s (.int .i64 keep)), .d (.s (.int .i64 time)), .h 3], bT true], hpL (cloS top a b c x y z ts), 10⟩ := by
  have kk := chgDown_own s hs hv top a b c x y z keep time ts h
  unfold svN at kk
  unfold cloS svN
  refine AC_of Tryz.func18 rfl Tryz.ntmps18 Tryz.results18 (by kernel_rfl) rfl ?_
  simp only [List.zipIdx, List.map, Nat.zero_add, Nat.reduceAdd]
  repeat (first | apply Aw_seq | apply Aw_block | apply Aw_skip | apply Aw_exit | refine Aw_condt rfl ?_ | refine Aw_condf rfl ?_ | ((first | refine qr ?_ | refine qd (by kernel_rfl) (by kernel_rfl) ?_); simp only [go_sem, jE, reduceIte, jA, jM, jS, jL, jD, jB]) | refine dk (by kernel_rfl) ?_ | (refine qx (call_N (L := []) (kk) rfl (.cons (.nm rfl) (.cons (.nm rfl) (.nil))) (.inl rfl) rfl) (by simp only [go_sem, jE, reduceIte, jA, jM, jS, jL, jD, jB]; first | done | rfl) rfl (by simp only [go_sem, Nat.reduceLT]) ?_; simp only [go_sem, jE, reduceIte, jA, jM, jS, jL, jD, jB]))
  exact Aw_ret (retL (M := [4, 5, 6, 7, 8, 9, 10, 11, 12, 13]) (.inl rfl) (by simp only [go_sem, jE, reduceIte, jA, jM, jS, jL, jD, jB]; first | done | rfl) rfl rfl (by rfl) (by simp only [go_sem, jE, reduceIte, jA, jM, jS, jL, jD, jB]; first | done | rfl | (and_intros <;> rfl)) (by decide) (idB rfl))
theorem storeDown_none (s : Sto) (hs : SmSt s) (h : sDownM s = none) : AC Tryz.prog 18 [stT s] noHp 0 ⟨.tup [zA, bT false], hpL [], 0⟩ := by
  have kk := chgDown_no s hs h
  refine AC.toL ?_
  refine AC_of Tryz.func18 rfl Tryz.ntmps18 Tryz.results18 (by kernel_rfl) rfl ?_
  simp only [List.zipIdx, List.map, Nat.zero_add, Nat.reduceAdd]
  repeat (first | apply Aw_seq | apply Aw_block | apply Aw_skip | apply Aw_exit | refine Aw_condt rfl ?_ | refine Aw_condf rfl ?_ | ((first | refine qr ?_ | refine qd (by kernel_rfl) (by kernel_rfl) ?_); simp only [go_sem, jE, reduceIte, jA, jM, jS, jL, jD, jB]) | refine dk (by kernel_rfl) ?_ | (refine qp (kk) (by simp only [go_sem, jE, reduceIte, jA, jM, jS, jL, jD, jB]; first | done | rfl) rfl (by simp only [go_sem, Nat.reduceLT]) rfl rfl ?_; simp only [go_sem, jE, reduceIte, jA, jM, jS, jL, jD, jB]))
  exact Aw_ret (ret0 (.inl rfl) (by simp only [go_sem, jE, reduceIte, jA, jM, jS, jL, jD, jB]; rfl) (by rfl) rfl)
theorem w_sm {s : Sto} (h : wSto s ≤ 1048576) : SmSt s := by
  have m := w_mid h
  unfold wSto at h
  refine ⟨wRun_smR (n := 1048576) (by omega) (Nat.le_refl _), fun r hr => ?_, m.far.ll, m.far.sl, m.far.sieves, m.far.times⟩
  have := wS_mem (f := wRun) hr
  exact wRun_smR (n := 1048576) (by omega) (Nat.le_refl _)
-- idB
theorem law_StoreDownX (s : Sto) (ho : okT s) : AC Tryz.prog 5 [stT s] noHp 0 ⟨.t (bT true), noHp, 0⟩ := by
  refine AC_of Tryz.func5 rfl Tryz.ntmps5 Tryz.results5 (by kernel_rfl) rfl ?_
  simp only [List.zipIdx, List.map, Nat.zero_add, Nat.reduceAdd]
  have k1 := szStore_ac s 1048576 (Nat.le_refl _) ho.big
  rw [show ((1048576 : Nat) : Int) = 1048576 from rfl] at k1
  by_cases h : wSto s ≤ 1048576
  case neg =>
    rw [szM_no h] at k1
    repeat (first | apply Aw_seq | apply Aw_block | apply Aw_skip | apply Aw_exit | refine Aw_condt rfl ?_ | refine Aw_condf rfl ?_ | ((first | refine qr ?_ | refine qd (by kernel_rfl) (by kernel_rfl) ?_); simp only [go_sem, jE, reduceIte, jA, jM, jS, jL, jD, jB, neg1, bref]) | refine dk (by kernel_rfl) ?_ | (refine qp (k1) (by simp only [go_sem, jE, reduceIte, jA, jM, jS, jL, jD, jB, neg1, bref]; first | done | rfl) rfl (by simp only [go_sem, Nat.reduceLT]) rfl rfl ?_; simp only [go_sem, jE, reduceIte, jA, jM, jS, jL, jD, jB, neg1, bref]))
    exact Aw_ret (ret0 (.inl rfl) (by simp only [go_sem, jE, reduceIte, jA, jM, jS, jL, jD, jB]; rfl) (by rfl) rfl)
  rw [szM_ok h] at k1
  have n1 := nneg (1048576 - wSto s)
  have hm := w_mid h
  have hs := w_sm h
  have k2 := toStore_ac s hm
  have k3 := (storeDownS_own s hs).set
  have k4 := storeDown_ac s hs
  cases hM : sDownM s with
  | none =>
    rw [hM] at k3 k4
    have k3 : AC Tryz.prog 17 [stT s] noHp 0 ⟨.tup [stT zSto, bT false], noHp, 0⟩ := k3
    have k4 : AC Tryz.prog 18 [stT s] noHp 0 ⟨.tup [stT zSto, bT false], noHp, 0⟩ := k4
    have kx := toStoreG_ac s hm
    unfold gT at kx
    have kno := storeDown_none s hs hM
    have kq := eqStoreA_ac
    have k5 := (eqStore_ac s hm.far).toL
    have k6 := eqStore_ac zSto zSto_far
    have km := markStoreF_ac s 1 hm (cntS_le h)
    have k7 := markStoreA_ac 1
    have k8 := heldStoreA_ac 1 (by omega)
    have n2 : decide ((1 : Int) < 0) = false := rfl
    have n3 : decide ((1 : Int) = 1) = true := rfl
    have n4 := nneg (cntS 1 s)
    rw [show ((1 : Nat) : Int) = 1 from rfl] at km k7 k8
    have hK : gK s ≤ 3000000 := by unfold gK; have := hm.ll; have := hm.sl; omega
    have e0 : ∀ hp : Hp, hole 3 (gK s) hp 0 = hp 0 := fun hp => hole_ne (by omega)
    have e1 : ∀ hp : Hp, hole 3 (gK s) hp 1 = hp 1 := fun hp => hole_ne (by omega)
    have e2 : ∀ hp : Hp, hole 3 (gK s) hp 10000004 = hp 10000004 := fun hp => hole_ne (by omega)
    repeat (first | apply Aw_seq | apply Aw_block | apply Aw_skip | apply Aw_exit | refine Aw_condt rfl ?_ | refine Aw_condf rfl ?_ | ((first | refine qr ?_ | refine qd (by kernel_rfl) (by kernel_rfl) ?_); simp only [go_sem, jE, reduceIte, jA, jM, jS, jL, jD, jB, n1, bref]) | refine dk (by kernel_rfl) ?_ | (refine qp (k1) (by simp only [go_sem, jE, reduceIte, jA, jM, jS, jL, jD, jB, n1, bref]; first | done | rfl) rfl (by simp only [go_sem, Nat.reduceLT]) rfl rfl ?_; simp only [go_sem, jE, reduceIte, jA, jM, jS, jL, jD, jB, n1, bref]) | (refine qp (k3) (by simp only [go_sem, jE, reduceIte, jA, jM, jS, jL, jD, jB, n1, bref]; first | done | rfl) rfl (by simp only [go_sem, Nat.reduceLT]) rfl rfl ?_; simp only [go_sem, jE, reduceIte, jA, jM, jS, jL, jD, jB, n1, bref]) | (refine qx (call_pure (n := 9) rfl rfl rfl k2) (by simp only [go_sem, jE, reduceIte, jA, jM, jS, jL, jD, jB, n1, bref]; first | done | rfl) rfl (by simp only [go_sem, Nat.reduceLT]) ?_; simp only [go_sem, jE, reduceIte, jA, jM, jS, jL, jD, jB, n1, bref]))
    iterate 1 (first | apply Aw_seq | apply Aw_block | apply Aw_skip | apply Aw_exit | refine Aw_condt rfl ?_ | refine Aw_condf rfl ?_ | ((first | refine qr ?_ | refine qd (by kernel_rfl) (by kernel_rfl) ?_); simp only [go_sem, jE, reduceIte, jA, jM, jS, jL, jD, jB]) | refine dk (by kernel_rfl) ?_ | (refine qx (call_N (L := []) kx rfl (.cons (.nm rfl) .nil) (.inl rfl) (gOs_len s)) (by simp only [go_sem, jE, reduceIte, jA, jM, jS, jL, jD, jB]; first | done | rfl) rfl (by simp only [go_sem, Nat.reduceLT]) ?_; simp only [go_sem, jE, reduceIte, jA, jM, jS, jL, jD, jB]))
    refine Aw.rw (rwLaw (s := s) (w := zSto) (e1 := 27) (e2 := 33) (a := 0) (b := 12) (p := 16) (l' := [(6, .t (.c (.ph 2 0 0))), (5, .t (bT false)), (4, .t (.c (.ph 1 0 0))), (1, .t (.c (.ph 0 0 0))), (2, .t (bT false))]) (by omega) (by omega) ?_ ?_ ?_ ?_ (by omega) ?_) ?_
    · rw [upd_ne _ _ (by omega), upd_ne _ _ (by omega), updL_not (fun h => by have := (List.mem_range'_1.1 h).1; omega)]; rfl
    · rw [upd_ne _ _ (by omega), upd_ne _ _ (by omega), updL_not (fun h => by have := (List.mem_range'_1.1 h).1; omega)]; rfl
    · rw [upd_same]; rfl
    · exact ((gst_upL _ 16 s).upd (.inr (Nat.le_refl _))).upd (.inr (Nat.le_refl _))
    · repeat (first | exact trivial | refine ⟨rfl, rfl, ?_⟩)
    repeat (first | apply Aw_seq | apply Aw_block | apply Aw_skip | apply Aw_exit | refine Aw_condt rfl ?_ | refine Aw_condf rfl ?_ | ((first | refine qr ?_ | refine qd (by kernel_rfl) (by kernel_rfl) ?_); simp only [go_sem, jE, reduceIte, jA, jM, jS, jL, jD, jB, bref, iref, n2, n3, n4, e0, e1, e2]) | refine dk (by kernel_rfl) ?_ | (refine qp (k2) (by simp only [go_sem, jE, reduceIte, jA, jM, jS, jL, jD, jB, bref, iref, n2, n3, n4, e0, e1, e2]; first | done | rfl) rfl (by simp only [go_sem, Nat.reduceLT]) rfl rfl ?_; simp only [go_sem, jE, reduceIte, jA, jM, jS, jL, jD, jB, bref, iref, n2, n3, n4, e0, e1, e2]) | (refine qp (kq) (by simp only [go_sem, jE, reduceIte, jA, jM, jS, jL, jD, jB, bref, iref, n2, n3, n4, e0, e1, e2]; first | done | rfl) rfl (by simp only [go_sem, Nat.reduceLT]) rfl rfl ?_; simp only [go_sem, jE, reduceIte, jA, jM, jS, jL, jD, jB, bref, iref, n2, n3, n4, e0, e1, e2]) | (refine qp (k7) (by simp only [go_sem, jE, reduceIte, jA, jM, jS, jL, jD, jB, bref, iref, n2, n3, n4, e0, e1, e2]; first | done | rfl) rfl (by simp only [go_sem, Nat.reduceLT]) rfl rfl ?_; simp only [go_sem, jE, reduceIte, jA, jM, jS, jL, jD, jB, bref, iref, n2, n3, n4, e0, e1, e2]) | (refine qp (k8) (by simp only [go_sem, jE, reduceIte, jA, jM, jS, jL, jD, jB, bref, iref, n2, n3, n4, e0, e1, e2]; first | done | rfl) rfl (by simp only [go_sem, Nat.reduceLT]) rfl rfl ?_; simp only [go_sem, jE, reduceIte, jA, jM, jS, jL, jD, jB, bref, iref, n2, n3, n4, e0, e1, e2]) | (refine qp (k4) (by simp only [go_sem, jE, reduceIte, jA, jM, jS, jL, jD, jB, bref, iref, n2, n3, n4, e0, e1, e2]; first | done | rfl) rfl (by simp only [go_sem, Nat.reduceLT]) rfl rfl ?_; simp only [go_sem, jE, reduceIte, jA, jM, jS, jL, jD, jB, bref, iref, n2, n3, n4, e0, e1, e2]) | (refine qp (k6) (by simp only [go_sem, jE, reduceIte, jA, jM, jS, jL, jD, jB, bref, iref, n2, n3, n4, e0, e1, e2]; first | done | rfl) rfl (by simp only [go_sem, Nat.reduceLT]) rfl rfl ?_; simp only [go_sem, jE, reduceIte, jA, jM, jS, jL, jD, jB, bref, iref, n2, n3, n4, e0, e1, e2]) | (refine qx (call_N (L := List.range' 3 (gK s)) kno rfl (.cons (arg_gT (by repeat (first | exact gst_new 3 s | refine GSt.upd ?_ (by omega))) (fun m h1 h2 => List.mem_range'_1.2 ⟨h1, h2⟩)) .nil) (.inr ⟨rfl, by simp⟩) rfl) (by simp only [go_sem, jE, reduceIte, jA, jM, jS, jL, jD, jB, bref, iref, n2, n3, n4, e0, e1, e2]; first | done | rfl) rfl (by simp only [go_sem, Nat.reduceLT]) ?_; simp only [go_sem, jE, reduceIte, jA, jM, jS, jL, jD, jB, bref, iref, n2, n3, n4, e0, e1, e2]) | (refine qx (call_N (L := List.range' 3 (gK s)) k5 rfl (.cons (arg_gT (by repeat (first | exact gst_new 3 s | refine GSt.upd ?_ (by omega))) (fun m h1 h2 => List.mem_range'_1.2 ⟨h1, h2⟩)) (.cons (.nm rfl) .nil)) (.inr ⟨rfl, by simp⟩) rfl) (by simp only [go_sem, jE, reduceIte, jA, jM, jS, jL, jD, jB, bref, iref, n2, n3, n4, e0, e1, e2]; first | done | rfl) rfl (by simp only [go_sem, Nat.reduceLT]) ?_; simp only [go_sem, jE, reduceIte, jA, jM, jS, jL, jD, jB, bref, iref, n2, n3, n4, e0, e1, e2]) | (refine qx (call_B (b := 3) (gOs_len s) km rfl (.cons arg_gN (.cons (.nm rfl) .nil)) (blk_gs (p := 3) (by repeat (first | exact gst_new 3 s | refine GSt.upd ?_ (by omega)))) rfl) (by simp only [go_sem, jE, reduceIte, jA, jM, jS, jL, jD, jB, bref, iref, n2, n3, n4, e0, e1, e2]; first | done | rfl) rfl (by simp only [go_sem, Nat.reduceLT]) ?_; simp only [go_sem, jE, reduceIte, jA, jM, jS, jL, jD, jB, bref, iref, n2, n3, n4, e0, e1, e2]))
    exact Aw_ret (ret0 (.inl rfl) (by simp only [go_sem, jE, reduceIte, jA, jM, jS, jL, jD, jB]; rfl) (by rfl) rfl)
  | some s' =>
    rw [hM] at k3 k4
    have k3 : AC Tryz.prog 17 [stT s] noHp 0 ⟨.tup [stT s', bT true], noHp, 0⟩ := k3
    have k4 : AC Tryz.prog 18 [stT s] noHp 0 ⟨.tup [stT s', bT true], noHp, 0⟩ := k4
    have hv : storeS s = true := sDownM_valid hM
    have ho := sDownM_out hs hM
    have k5 := (eqStore_ac s hm.far).toL
    have k6 := eqStore_ac s' ho.far
    have km1 := cntS_le h
    obtain ⟨hll, hsl, _⟩ := storeS_facts hv
    obtain ⟨top', levels', sieves', keep', time', ts'⟩ := s'
    obtain ⟨a', b', c', rfl⟩ := len3 ho.sm.ll
    obtain ⟨x', y', z', rfl⟩ := len3 ho.sm.sl
    have kown := storeDown_own s hs hv top' a' b' c' x' y' z' keep' time' ts' (sDownM_down hM)
    obtain ⟨tM, aM, bM, cM, xM, yM, zM, iM, mM, km2, k8⟩ := mark_both top' a' b' c' x' y' z' keep' time' ts' ho.cnt
    obtain ⟨top, levels, sieves, keep, time, ts⟩ := s
    obtain ⟨a, b, c, rfl⟩ := len3 hll
    obtain ⟨x, y, z, rfl⟩ := len3 hsl
    obtain ⟨mX, km⟩ := mark_none top a b c x y z keep time ts km1
    have kx := toStoreO_ac top a b c x y z keep time ts hm
    clear hM ho hv hs hm km1
    have n4 := nneg mX
    have n5 := nneg mM
    unfold cloS svN at *
    dsimp only at *
    have k6L := k6.toL
    have k8L := k8.toL
    repeat (first | apply Aw_seq | apply Aw_block | apply Aw_skip | apply Aw_exit | refine Aw_condt rfl ?_ | refine Aw_condf rfl ?_ | ((first | refine qr ?_ | refine qd (by kernel_rfl) (by kernel_rfl) ?_); simp only [go_sem, jE, reduceIte, jA, jM, jS, jL, jD, jB, n1, bref, n4, n5, bref, iref]) | refine dk (by kernel_rfl) ?_ | (refine qp (k1) (by simp only [go_sem, jE, reduceIte, jA, jM, jS, jL, jD, jB, n1, bref, n4, n5, bref, iref]; first | done | rfl) rfl (by simp only [go_sem, Nat.reduceLT]) rfl rfl ?_; simp only [go_sem, jE, reduceIte, jA, jM, jS, jL, jD, jB, n1, bref, n4, n5, bref, iref]) | (refine qp (k3) (by simp only [go_sem, jE, reduceIte, jA, jM, jS, jL, jD, jB, n1, bref, n4, n5, bref, iref]; first | done | rfl) rfl (by simp only [go_sem, Nat.reduceLT]) rfl rfl ?_; simp only [go_sem, jE, reduceIte, jA, jM, jS, jL, jD, jB, n1, bref, n4, n5, bref, iref]) | (refine qp (k4) (by simp only [go_sem, jE, reduceIte, jA, jM, jS, jL, jD, jB, n1, bref, n4, n5, bref, iref]; first | done | rfl) rfl (by simp only [go_sem, Nat.reduceLT]) rfl rfl ?_; simp only [go_sem, jE, reduceIte, jA, jM, jS, jL, jD, jB, n1, bref, n4, n5, bref, iref]) | (refine qp (k6) (by simp only [go_sem, jE, reduceIte, jA, jM, jS, jL, jD, jB, n1, bref, n4, n5, bref, iref]; first | done | rfl) rfl (by simp only [go_sem, Nat.reduceLT]) rfl rfl ?_; simp only [go_sem, jE, reduceIte, jA, jM, jS, jL, jD, jB, n1, bref, n4, n5, bref, iref]) | (refine qx (call_N (n := 16) (L := []) kx rfl (.cons (.nm rfl) .nil) (.inl rfl) rfl) (by simp only [go_sem, jE, reduceIte, jA, jM, jS, jL, jD, jB, n1, bref, n4, n5, bref, iref]; first | done | rfl) rfl (by simp only [go_sem, Nat.reduceLT]) ?_; simp only [go_sem, jE, reduceIte, jA, jM, jS, jL, jD, jB, n1, bref, n4, n5, bref, iref]) | (refine qx (call_pure rfl rfl rfl k2) (by simp only [go_sem, jE, reduceIte, jA, jM, jS, jL, jD, jB, n1, bref, n4, n5, bref, iref]; first | done | rfl) rfl (by simp only [go_sem, Nat.reduceLT]) ?_; simp only [go_sem, jE, reduceIte, jA, jM, jS, jL, jD, jB, n1, bref, n4, n5, bref, iref]) | (refine qx (call_N (L := [16, 17, 18, 19, 20, 21, 22, 23, 24, 25]) (kown) rfl (.cons (arg_oT rfl rfl rfl rfl rfl rfl rfl rfl rfl rfl rfl) (.nil)) (.inr ⟨rfl, by simp⟩) rfl) (by simp only [go_sem, jE, reduceIte, jA, jM, jS, jL, jD, jB, n1, bref, n4, n5, bref, iref]; first | done | rfl) rfl (by simp only [go_sem, Nat.reduceLT]) ?_; simp only [go_sem, jE, reduceIte, jA, jM, jS, jL, jD, jB, n1, bref, n4, n5, bref, iref]) | (refine qx (call_N (L := [29, 30, 31, 32, 33, 34, 35, 36, 37, 38]) (k6L) rfl (.cons (arg_oT rfl rfl rfl rfl rfl rfl rfl rfl rfl rfl rfl) (.cons (.nm rfl) (.nil))) (.inr ⟨rfl, by simp⟩) rfl) (by simp only [go_sem, jE, reduceIte, jA, jM, jS, jL, jD, jB, n1, bref, n4, n5, bref, iref]; first | done | rfl) rfl (by simp only [go_sem, Nat.reduceLT]) ?_; simp only [go_sem, jE, reduceIte, jA, jM, jS, jL, jD, jB, n1, bref, n4, n5, bref, iref]) | (refine qx (call_N (L := [16, 17, 18, 19, 20, 21, 22, 23, 24, 25]) (k5) rfl (.cons (arg_oT rfl rfl rfl rfl rfl rfl rfl rfl rfl rfl rfl) (.cons (.nm rfl) (.nil))) (.inr ⟨rfl, by simp⟩) rfl) (by simp only [go_sem, jE, reduceIte, jA, jM, jS, jL, jD, jB, n1, bref, n4, n5, bref, iref]; first | done | rfl) rfl (by simp only [go_sem, Nat.reduceLT]) ?_; simp only [go_sem, jE, reduceIte, jA, jM, jS, jL, jD, jB, n1, bref, n4, n5, bref, iref]) | (refine qx (call_L (N' := [16, 17, 18, 19, 20, 21, 22, 23, 24, 25]) (L := []) (km) rfl (.cons (.nm rfl) (.cons (.nm rfl) (.nil))) (by decide) (by decide) (by decide) (by simp only [go_sem, jE, reduceIte, jA, jM, jS, jL, jD, jB, n1, bref, n4, n5, bref, iref]; first | done | rfl) (.inl rfl) rfl (by decide)) (by simp only [go_sem, jE, reduceIte, jA, jM, jS, jL, jD, jB, n1, bref, n4, n5, bref, iref]; first | done | rfl) rfl (by simp only [go_sem, Nat.reduceLT]) ?_; simp only [go_sem, jE, reduceIte, jA, jM, jS, jL, jD, jB, n1, bref, n4, n5, bref, iref]) | (refine qx (call_L (N' := [29, 30, 31, 32, 33, 34, 35, 36, 37, 38]) (L := []) (km2) rfl (.cons (.nm rfl) (.cons (.nm rfl) (.nil))) (by decide) (by decide) (by decide) (by simp only [go_sem, jE, reduceIte, jA, jM, jS, jL, jD, jB, n1, bref, n4, n5, bref, iref]; first | done | rfl) (.inl rfl) rfl (by decide)) (by simp only [go_sem, jE, reduceIte, jA, jM, jS, jL, jD, jB, n1, bref, n4, n5, bref, iref]; first | done | rfl) rfl (by simp only [go_sem, Nat.reduceLT]) ?_; simp only [go_sem, jE, reduceIte, jA, jM, jS, jL, jD, jB, n1, bref, n4, n5, bref, iref]) | (refine qx (call_N (L := [29, 30, 31, 32, 33, 34, 35, 36, 37, 38]) (k8L) rfl (.cons (arg_oT rfl rfl rfl rfl rfl rfl rfl rfl rfl rfl rfl) (.cons (.nm rfl) (.nil))) (.inr ⟨rfl, by simp⟩) rfl) (by simp only [go_sem, jE, reduceIte, jA, jM, jS, jL, jD, jB, n1, bref, n4, n5, bref, iref]; first | done | rfl) rfl (by simp only [go_sem, Nat.reduceLT]) ?_; simp only [go_sem, jE, reduceIte, jA, jM, jS, jL, jD, jB, n1, bref, n4, n5, bref, iref]))
    exact Aw_ret (ret0 (.inl rfl) (by simp only [go_sem, jE, reduceIte, jA, jM, jS, jL, jD, jB]; rfl) (by rfl) rfl)
end Go.Proofs.YtimkdclalajadaaGreat.Ab
