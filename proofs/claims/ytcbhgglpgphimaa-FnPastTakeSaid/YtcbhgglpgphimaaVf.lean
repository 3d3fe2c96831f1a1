/-
  Contracts: all that was put, drawn, the reference's. No condition.
  Whatever argument of the seat's kinds can be read as data is plain data of the machine's: lemmas, kind by kind (whole numbers, bools, strings, slices, structs). No condition.
  What a law reads as a store, a run, is plain data of the machine's, of sizes that a word holds. No condition.
  Contracts: what was put last of a key; the laws of it. No condition.
  Contract: the law that the last one counts gives true, whatever the code. No condition.
  Contract: the law of what is taken away, or put, last gives true, whatever the code. No condition.
-/
import Derived.Test.YtcbhgglpgphimaaVe
import Derived.Test.YtcbhgglpgphimaaVc
import Derived.Deep.Slices
import Derived.ChangeArms
import Derived.DataReads
import Derived.Below
import Derived.Test.YtcbhgglpgphimaaVd
namespace Go.Proofs.Ytcbhgglpgphimaa.Ab
set_option linter.deprecated false
set_option linter.unusedVariables false
set_option linter.unusedSimpArgs false
open Go Go.Proofs
set_option maxRecDepth 10000
set_option maxHeartbeats 8000000
set_option linter.unusedSimpArgs false
set_option linter.unusedVariables false
def dsRow (ds : List Deed) : Obj := dRow 160 3 (ds.map deedD)
@[go_sem] theorem r_dsRow (ds : List Deed) : dsRow ds = dRow 160 3 (ds.map deedD) := rfl
structure DsI (b : List Int) (l : List ByteArray) (R : List Deed × Nat) where
  n : Nat
  o : List Deed
  p : Nat
  hn : o.length + n ≤ 1000
  hp : p + 9 * n ≤ 500000
  h : deedsL b l n o p = R
theorem l71Deeds_ac {b : List Int} {p most : Nat} (hb : byteL b) (hp : p ≤ 100000) (hm : most ≤ 100) : AC Try.prog 123 [.c (.ph 0 0 0), iT most] (hpL [some (rdO b p)]) 1 ⟨.t (.c (.h 1)), hpL [some (rdO b (deedsV b p most).2), some (dsRow (deedsV b p most).1)], 2⟩ := by
  refine AC_of Try.func123 rfl Try.ntmps123 Try.results123 (by kernel_rfl) rfl ?_
  simp only [List.zipIdx, List.map, Nat.zero_add, Nat.reduceAdd]
  have w0 : IntKind.i64.wrap ((most : Int) + 1) = ((most + 1 : Nat) : Int) := wn (by omega) (by omega)
  obtain ⟨a1, a2, a3⟩ := keysV_fin hb (p := p) (most := 5) (by omega) (by omega)
  have kk := l71Keys_ac (most := 5) hb (show p ≤ 600000 by omega) (by omega)
  rw [show ((5 : Nat) : Int) = 5 from rfl] at kk
  have k := pickV_ac (n := ((most + 1 : Nat) : Int)) hb (show (keysV b p 5).2 ≤ 1000000 by omega) (by omega)
  have h6 := pickV_lt (n := ((most + 1 : Nat) : Int)) hb (show (keysV b p 5).2 ≤ 1000000 by omega) (by omega) (by omega)
  obtain ⟨R, hR⟩ : ∃ R, R = deedsL b (keysV b p 5).1 (pickV b (keysV b p 5).2 ((most + 1 : Nat) : Int)) [] ((keysV b p 5).2 + 1) := ⟨_, rfl⟩
  obtain ⟨c1, c2, c3⟩ := deedsL_fin hb (l := (keysV b p 5).1) (by omega) a2 (pickV b (keysV b p 5).2 ((most + 1 : Nat) : Int)) [] ((keysV b p 5).2 + 1) (by omega) (by show 0 + _ ≤ _; omega) (by simp)
  rw [← hR] at c1 c2 c3
  rw [show ([] : List Deed).length = 0 from rfl] at c1
  have hV : deedsV b p most = if pickV b R.2 24 = 0 then (R.1 ++ [⟨IntKind.i64.wrap (((pickV b (R.2 + 1) 9 : Nat) : Int) - 1), xTxt, -1⟩], R.2 + 2) else (R.1, R.2 + 1) := by rw [hR]; rfl
  rw [hV]
  repeat (first | apply Aw_seq | apply Aw_block | apply Aw_skip | apply Aw_exit | refine Aw_condt rfl ?_ | refine Aw_condf rfl ?_ | (refine qr ?_; simp only [go_sem, Nat.reduceEqDiff, reduceIte, Nat.reduceAdd, Nat.reduceMul, Nat.reduceSub, Nat.reduceLT, Nat.reduceLeDiff, Nat.reduceBEq, w0]) | (refine qd (by kernel_rfl) (by kernel_rfl) ?_; simp only [go_sem, Nat.reduceEqDiff, reduceIte, Nat.reduceAdd, Nat.reduceMul, Nat.reduceSub, Nat.reduceLT, Nat.reduceLeDiff, Nat.reduceBEq, w0]) | refine dk (by kernel_rfl) ?_ | (refine qx (call_L (N' := [0]) (L := []) (kk) rfl (.cons (.nm rfl) (.cons (.nm rfl) (.nil))) (by decide) (by decide) (by decide) (by simp only [go_sem, Nat.reduceEqDiff, reduceIte, Nat.reduceAdd, Nat.reduceMul, Nat.reduceSub, Nat.reduceLT, Nat.reduceLeDiff, Nat.reduceBEq, w0]; first | done | rfl) (.inl rfl) rfl (by decide)) (by simp only [go_sem, Nat.reduceEqDiff, reduceIte, Nat.reduceAdd, Nat.reduceMul, Nat.reduceSub, Nat.reduceLT, Nat.reduceLeDiff, Nat.reduceBEq, w0]; first | done | rfl) rfl (by simp only [go_sem, Nat.reduceLT]) ?_; simp only [go_sem, Nat.reduceEqDiff, reduceIte, Nat.reduceAdd, Nat.reduceMul, Nat.reduceSub, Nat.reduceLT, Nat.reduceLeDiff, Nat.reduceBEq, w0]) | (refine qx (call_L (N' := [0]) (L := []) (k) rfl (.cons (.nm rfl) (.cons (.nm rfl) (.nil))) (by decide) (by decide) (by decide) (by simp only [go_sem, Nat.reduceEqDiff, reduceIte, Nat.reduceAdd, Nat.reduceMul, Nat.reduceSub, Nat.reduceLT, Nat.reduceLeDiff, Nat.reduceBEq, w0]; first | done | rfl) (.inl rfl) rfl (by decide)) (by simp only [go_sem, Nat.reduceEqDiff, reduceIte, Nat.reduceAdd, Nat.reduceMul, Nat.reduceSub, Nat.reduceLT, Nat.reduceLeDiff, Nat.reduceBEq, w0]; first | done | rfl) rfl (by simp only [go_sem, Nat.reduceLT]) ?_; simp only [go_sem, Nat.reduceEqDiff, reduceIte, Nat.reduceAdd, Nat.reduceMul, Nat.reduceSub, Nat.reduceLT, Nat.reduceLeDiff, Nat.reduceBEq, w0]))
  refine Aw.rw (rwL (l' := [(7, .t (iT (pickV b (keysV b p 5).2 ((most + 1 : Nat) : Int) : Nat))), (6, .t (.c (.h 1))), (5, .t (strsT (keysV b p 5).1)), (0, .t (.c (.ph 0 0 0)))]) (os := [some (rdO b ((keysV b p 5).2 + 1)), some (dsRow [])]) (M := [0, 4]) (n' := 2) (by repeat (first | exact trivial | refine ⟨rfl, rfl, ?_⟩)) (by rfl) (by simp only [go_sem, Nat.reduceEqDiff, reduceIte, Nat.reduceAdd, Nat.reduceMul, Nat.reduceSub, Nat.reduceLT, Nat.reduceLeDiff, Nat.reduceBEq, List.map_nil]; first | done | rfl) (by decide) (by intro m hm; first | omega | (rcases m with _ | _ | _ | _ | m <;> first | exact ⟨by decide, rfl⟩ | omega))) ?_
  refine Aw_loop_rw (ι := DsI b (keysV b p 5).1 R) (fun q => S [(7, .t (iT (q.n : Nat))), (6, .t (.c (.h 1))), (5, .t (strsT (keysV b p 5).1)), (0, .t (.c (.ph 0 0 0)))] (hpL [some (rdO b q.p), some (dsRow q.o)]) 2) (fun q => q.n) ⟨pickV b (keysV b p 5).2 ((most + 1 : Nat) : Int), [], (keysV b p 5).2 + 1, by show 0 + _ ≤ _; omega, by omega, hR.symm⟩ ?_
  rintro ⟨n, o, q, hn, hq, h⟩
  dsimp only
  rcases n with _ | n
  · have g1 : decide ((0 : Int) < ((0 : Nat) : Int)) = false := rfl
    have ho : R = (o, q) := h.symm
    rw [ho]
    rw [ho] at c1 c2 c3
    dsimp only at c1 c2 c3 ⊢
    have k24 := pickV_ac (n := 24) hb (show q ≤ 1000000 by omega) (by omega)
    by_cases c : pickV b q 24 = 0
    · have g2 : decide (((pickV b q 24 : Nat) : Int) = 0) = true := decide_eq_true (by omega)
      have k9 := pickV_ac (n := 9) hb (show q + 1 ≤ 1000000 by omega) (by omega)
      have hap : (o.length + 1) * 32 ≤ 140737488355328 := by omega
      rw [if_pos c]
      dsimp only
      repeat (first | apply Aw_seq | apply Aw_block | apply Aw_skip | apply Aw_exit | refine Aw_condt rfl ?_ | refine Aw_condf rfl ?_ | (refine qr ?_; simp only [go_sem, Nat.reduceEqDiff, reduceIte, Nat.reduceAdd, Nat.reduceMul, Nat.reduceSub, Nat.reduceLT, Nat.reduceLeDiff, Nat.reduceBEq, g1, g2, hap, xTxt]) | (refine qd (by kernel_rfl) (by kernel_rfl) ?_; simp only [go_sem, Nat.reduceEqDiff, reduceIte, Nat.reduceAdd, Nat.reduceMul, Nat.reduceSub, Nat.reduceLT, Nat.reduceLeDiff, Nat.reduceBEq, g1, g2, hap, xTxt]) | refine dk (by kernel_rfl) ?_ | (refine qx (call_L (N' := [0]) (L := []) (k24) rfl (.cons (.nm rfl) (.cons (.nm rfl) (.nil))) (by decide) (by decide) (by decide) (by simp only [go_sem, Nat.reduceEqDiff, reduceIte, Nat.reduceAdd, Nat.reduceMul, Nat.reduceSub, Nat.reduceLT, Nat.reduceLeDiff, Nat.reduceBEq, g1, g2, hap, xTxt]; first | done | rfl) (.inl rfl) rfl (by decide)) (by simp only [go_sem, Nat.reduceEqDiff, reduceIte, Nat.reduceAdd, Nat.reduceMul, Nat.reduceSub, Nat.reduceLT, Nat.reduceLeDiff, Nat.reduceBEq, g1, g2, hap, xTxt]; first | done | rfl) rfl (by simp only [go_sem, Nat.reduceLT]) ?_; simp only [go_sem, Nat.reduceEqDiff, reduceIte, Nat.reduceAdd, Nat.reduceMul, Nat.reduceSub, Nat.reduceLT, Nat.reduceLeDiff, Nat.reduceBEq, g1, g2, hap, xTxt]) | (refine qx (call_L (N' := [0]) (L := []) (k9) rfl (.cons (.nm rfl) (.cons (.nm rfl) (.nil))) (by decide) (by decide) (by decide) (by simp only [go_sem, Nat.reduceEqDiff, reduceIte, Nat.reduceAdd, Nat.reduceMul, Nat.reduceSub, Nat.reduceLT, Nat.reduceLeDiff, Nat.reduceBEq, g1, g2, hap, xTxt]; first | done | rfl) (.inl rfl) rfl (by decide)) (by simp only [go_sem, Nat.reduceEqDiff, reduceIte, Nat.reduceAdd, Nat.reduceMul, Nat.reduceSub, Nat.reduceLT, Nat.reduceLeDiff, Nat.reduceBEq, g1, g2, hap, xTxt]; first | done | rfl) rfl (by simp only [go_sem, Nat.reduceLT]) ?_; simp only [go_sem, Nat.reduceEqDiff, reduceIte, Nat.reduceAdd, Nat.reduceMul, Nat.reduceSub, Nat.reduceLT, Nat.reduceLeDiff, Nat.reduceBEq, g1, g2, hap, xTxt]))
      exact Aw_ret (retL (M := [0, 11]) (.inl rfl) (by simp only [go_sem, Nat.reduceEqDiff, reduceIte, Nat.reduceAdd, Nat.reduceMul, Nat.reduceSub, Nat.reduceLT, Nat.reduceLeDiff, Nat.reduceBEq]; first | done | rfl) rfl rfl (by rfl) (by simp only [go_sem, Nat.reduceEqDiff, reduceIte, Nat.reduceAdd, Nat.reduceMul, Nat.reduceSub, Nat.reduceLT, Nat.reduceLeDiff, Nat.reduceBEq, List.map_append, List.map_cons, List.map_nil, xTxt]; first | done | rfl | (and_intros <;> rfl)) (by decide) (by intro m hm; first | omega | (rcases m with _ | _ | _ | _ | m <;> first | exact ⟨by decide, rfl⟩ | omega)))
    · have g2 : decide (((pickV b q 24 : Nat) : Int) = 0) = false := decide_eq_false (by omega)
      rw [if_neg c]
      dsimp only
      repeat (first | apply Aw_seq | apply Aw_block | apply Aw_skip | apply Aw_exit | refine Aw_condt rfl ?_ | refine Aw_condf rfl ?_ | (refine qr ?_; simp only [go_sem, Nat.reduceEqDiff, reduceIte, Nat.reduceAdd, Nat.reduceMul, Nat.reduceSub, Nat.reduceLT, Nat.reduceLeDiff, Nat.reduceBEq, g1, g2]) | (refine qd (by kernel_rfl) (by kernel_rfl) ?_; simp only [go_sem, Nat.reduceEqDiff, reduceIte, Nat.reduceAdd, Nat.reduceMul, Nat.reduceSub, Nat.reduceLT, Nat.reduceLeDiff, Nat.reduceBEq, g1, g2]) | refine dk (by kernel_rfl) ?_ | (refine qx (call_L (N' := [0]) (L := []) (k24) rfl (.cons (.nm rfl) (.cons (.nm rfl) (.nil))) (by decide) (by decide) (by decide) (by simp only [go_sem, Nat.reduceEqDiff, reduceIte, Nat.reduceAdd, Nat.reduceMul, Nat.reduceSub, Nat.reduceLT, Nat.reduceLeDiff, Nat.reduceBEq, g1, g2]; first | done | rfl) (.inl rfl) rfl (by decide)) (by simp only [go_sem, Nat.reduceEqDiff, reduceIte, Nat.reduceAdd, Nat.reduceMul, Nat.reduceSub, Nat.reduceLT, Nat.reduceLeDiff, Nat.reduceBEq, g1, g2]; first | done | rfl) rfl (by simp only [go_sem, Nat.reduceLT]) ?_; simp only [go_sem, Nat.reduceEqDiff, reduceIte, Nat.reduceAdd, Nat.reduceMul, Nat.reduceSub, Nat.reduceLT, Nat.reduceLeDiff, Nat.reduceBEq, g1, g2]))
      exact Aw_ret (retL (M := [0, 1]) (.inl rfl) (by simp only [go_sem, Nat.reduceEqDiff, reduceIte, Nat.reduceAdd, Nat.reduceMul, Nat.reduceSub, Nat.reduceLT, Nat.reduceLeDiff, Nat.reduceBEq]; first | done | rfl) rfl rfl (by rfl) (by simp only [go_sem, Nat.reduceEqDiff, reduceIte, Nat.reduceAdd, Nat.reduceMul, Nat.reduceSub, Nat.reduceLT, Nat.reduceLeDiff, Nat.reduceBEq]; first | done | rfl | (and_intros <;> rfl)) (by decide) (by intro m hm; first | omega | (rcases m with _ | _ | _ | _ | m <;> first | exact ⟨by decide, rfl⟩ | omega)))
  · have g1 : decide ((0 : Int) < ((n + 1 : Nat) : Int)) = true := decide_eq_true (by omega)
    have w1 : IntKind.i64.wrap (((n + 1 : Nat) : Int) - 1) = (n : Int) := wn (by omega) (by omega)
    have kd := l71Deed_ac (l := (keysV b p 5).1) hb (show q ≤ 500000 by omega) (by omega) a2
    have hd := deedV_fin hb (p := q) (l := (keysV b p 5).1) (by omega) (by omega) a2
    have hap : (o.length + 1) * 32 ≤ 140737488355328 := by omega
    repeat (first | apply Aw_seq | apply Aw_block | apply Aw_skip | apply Aw_exit | refine Aw_condt rfl ?_ | refine Aw_condf rfl ?_ | (refine qr ?_; simp only [go_sem, Nat.reduceEqDiff, reduceIte, Nat.reduceAdd, Nat.reduceMul, Nat.reduceSub, Nat.reduceLT, Nat.reduceLeDiff, Nat.reduceBEq, g1, w1, hap]) | (refine qd (by kernel_rfl) (by kernel_rfl) ?_; simp only [go_sem, Nat.reduceEqDiff, reduceIte, Nat.reduceAdd, Nat.reduceMul, Nat.reduceSub, Nat.reduceLT, Nat.reduceLeDiff, Nat.reduceBEq, g1, w1, hap]) | refine dk (by kernel_rfl) ?_ | (refine qx (call_L (N' := [0]) (L := []) (kd) rfl (.cons (.nm rfl) (.cons (.nm rfl) (.nil))) (by decide) (by decide) (by decide) (by simp only [go_sem, Nat.reduceEqDiff, reduceIte, Nat.reduceAdd, Nat.reduceMul, Nat.reduceSub, Nat.reduceLT, Nat.reduceLeDiff, Nat.reduceBEq, g1, w1, hap]; first | done | rfl) (.inl rfl) rfl (by decide)) (by simp only [go_sem, Nat.reduceEqDiff, reduceIte, Nat.reduceAdd, Nat.reduceMul, Nat.reduceSub, Nat.reduceLT, Nat.reduceLeDiff, Nat.reduceBEq, g1, w1, hap]; first | done | rfl) rfl (by simp only [go_sem, Nat.reduceLT]) ?_; simp only [go_sem, Nat.reduceEqDiff, reduceIte, Nat.reduceAdd, Nat.reduceMul, Nat.reduceSub, Nat.reduceLT, Nat.reduceLeDiff, Nat.reduceBEq, g1, w1, hap]))
    refine ⟨⟨n, o ++ [(deedV b q (keysV b p 5).1).1], (deedV b q (keysV b p 5).1).2, by simp; omega, by omega, h⟩, [0, 8], ?_, rwL (by repeat (first | exact trivial | refine ⟨rfl, rfl, ?_⟩)) (by rfl) (by simp only [go_sem, Nat.reduceEqDiff, reduceIte, Nat.reduceAdd, Nat.reduceMul, Nat.reduceSub, Nat.reduceLT, Nat.reduceLeDiff, Nat.reduceBEq, List.map_append, List.map_cons, List.map_nil]; first | done | rfl) (by decide) (by intro m hm; first | omega | (rcases m with _ | _ | _ | _ | m <;> first | exact ⟨by decide, rfl⟩ | omega))⟩
    show n < n + 1; omega
theorem pastTo_key (s : Sto) (ds : List Deed) : ∀ i, i ≤ ds.length → ∀ e ∈ (pastTo s ds i).2, ∃ d ∈ ds, e.key = d.key := by
  intro i
  induction i with
  | zero => intro _ e he; simp [pastTo] at he
  | succ i ih =>
    intro hi e he
    obtain ⟨d, hd2⟩ : ∃ d, ds[i]? = some d := ⟨_, List.getElem?_eq_getElem (by omega)⟩
    rw [pastTo_succ hd2] at he
    unfold pastStep at he
    cases hm : doM (pastTo s ds i).1 d with
    | none => rw [hm] at he; exact ih (by omega) e he
    | some x =>
      rw [hm] at he
      dsimp only at he
      split at he
      · rcases List.mem_append.1 he with h | h
        · exact ih (by omega) e h
        · obtain rfl : e = entOf d x := by simpa using h
          exact ⟨d, List.mem_of_getElem? hd2, by unfold entOf; split <;> rfl⟩
      · exact ih (by omega) e he
theorem pastM_key {s : Sto} {ds : List Deed} : ∀ e ∈ pastM s ds, ∃ d ∈ ds, e.key = d.key := by
  unfold pastM
  split
  · exact pastTo_key s ds ds.length (Nat.le_refl _)
  · simp
theorem eSto_st (keep : Int) : SmSt (eSto keep) := ⟨smR_nil, fun r hr => by simp [eSto] at hr; subst hr; exact smR_nil, by simp [eSto], by simp [eSto], fun x hx => by simp [eSto] at hx; subst hx; simp [eSve], by simp [eSto]⟩
noncomputable def allV (b : List Int) (p : Nat) : List Ent := pastM (eSto 1) (deedsV b p 30).1
theorem allV_fin {b : List Int} (hb : byteL b) {p : Nat} (hp : p ≤ 100000) : (allV b p).length ≤ 40 ∧ ∀ e ∈ allV b p, e.key.size ≤ 5 := by
  obtain ⟨h1, h2, h3⟩ := deedsV_fin hb (p := p) (most := 30) hp (by omega)
  refine ⟨(pastM_len (eSto_st 1) ⟨fun d hd => by have := h2 d hd; unfold smK; omega⟩).1, fun e he => ?_⟩
  obtain ⟨d, hd, e2⟩ := pastM_key e he
  rw [e2]; exact h2 d hd
theorem l71All_ac {b : List Int} {p : Nat} (hb : byteL b) (hp : p ≤ 100000) : AC Try.prog 74 [.c (.ph 0 0 0)] (hpL [some (rdO b p)]) 1 ⟨.t (.c (.h 1)), hpL [some (rdO b (deedsV b p 30).2), some (eRow (allV b p))], 2⟩ := by
  refine AC_of Try.func74 rfl Try.ntmps74 Try.results74 (by kernel_rfl) rfl ?_
  simp only [List.zipIdx, List.map, Nat.zero_add, Nat.reduceAdd]
  obtain ⟨h1, h2, h3⟩ := deedsV_fin hb (p := p) (most := 30) hp (by omega)
  have k1 := sstoreNew_ok 1 (by omega)
  rw [show ((1 : Nat) : Int) = 1 from rfl] at k1
  have k2 := l71Deeds_ac (most := 30) hb hp (by omega)
  rw [show ((30 : Nat) : Int) = 30 from rfl] at k2
  have k3 := pastAll_ac (eSto 1) (deedsV b p 30).1 (eSto_st 1) ⟨fun d hd => by have := h2 d hd; unfold smK; omega⟩ (by omega)
  repeat (first | apply Aw_seq | apply Aw_block | apply Aw_skip | apply Aw_exit | refine Aw_condt rfl ?_ | refine Aw_condf rfl ?_ | (refine qr ?_; simp only [go_sem, Nat.reduceEqDiff, reduceIte, Nat.reduceAdd, Nat.reduceMul, Nat.reduceSub, Nat.reduceLT, Nat.reduceLeDiff, Nat.reduceBEq]) | (refine qd (by kernel_rfl) (by kernel_rfl) ?_; simp only [go_sem, Nat.reduceEqDiff, reduceIte, Nat.reduceAdd, Nat.reduceMul, Nat.reduceSub, Nat.reduceLT, Nat.reduceLeDiff, Nat.reduceBEq]) | refine dk (by kernel_rfl) ?_ | (refine qp (k1) (by simp only [go_sem, Nat.reduceEqDiff, reduceIte, Nat.reduceAdd, Nat.reduceMul, Nat.reduceSub, Nat.reduceLT, Nat.reduceLeDiff, Nat.reduceBEq]; first | done | rfl) rfl (by simp only [go_sem, Nat.reduceLT]) rfl rfl ?_; simp only [go_sem, Nat.reduceEqDiff, reduceIte, Nat.reduceAdd, Nat.reduceMul, Nat.reduceSub, Nat.reduceLT, Nat.reduceLeDiff, Nat.reduceBEq]) | (refine qx (call_L (N' := [0]) (L := []) (k2) rfl (.cons (.nm rfl) (.cons (.nm rfl) (.nil))) (by decide) (by decide) (by decide) (by simp only [go_sem, Nat.reduceEqDiff, reduceIte, Nat.reduceAdd, Nat.reduceMul, Nat.reduceSub, Nat.reduceLT, Nat.reduceLeDiff, Nat.reduceBEq]; first | done | rfl) (.inl rfl) rfl (by decide)) (by simp only [go_sem, Nat.reduceEqDiff, reduceIte, Nat.reduceAdd, Nat.reduceMul, Nat.reduceSub, Nat.reduceLT, Nat.reduceLeDiff, Nat.reduceBEq]; first | done | rfl) rfl (by simp only [go_sem, Nat.reduceLT]) ?_; simp only [go_sem, Nat.reduceEqDiff, reduceIte, Nat.reduceAdd, Nat.reduceMul, Nat.reduceSub, Nat.reduceLT, Nat.reduceLeDiff, Nat.reduceBEq]) | (refine qx (call_N (L := [10]) (k3) rfl (.cons (.nm rfl) (.cons (arg_lend (m := 10) rfl (by simp)) (.nil))) (.inr ⟨rfl, by simp⟩) rfl) (by simp only [go_sem, Nat.reduceEqDiff, reduceIte, Nat.reduceAdd, Nat.reduceMul, Nat.reduceSub, Nat.reduceLT, Nat.reduceLeDiff, Nat.reduceBEq]; first | done | rfl) rfl (by simp only [go_sem, Nat.reduceLT]) ?_; simp only [go_sem, Nat.reduceEqDiff, reduceIte, Nat.reduceAdd, Nat.reduceMul, Nat.reduceSub, Nat.reduceLT, Nat.reduceLeDiff, Nat.reduceBEq]))
  exact Aw_ret (retL (M := [0, 11]) (.inl rfl) (by simp only [go_sem, Nat.reduceEqDiff, reduceIte, Nat.reduceAdd, Nat.reduceMul, Nat.reduceSub, Nat.reduceLT, Nat.reduceLeDiff, Nat.reduceBEq]; first | done | rfl) rfl rfl (by rfl) (by simp only [go_sem, Nat.reduceEqDiff, reduceIte, Nat.reduceAdd, Nat.reduceMul, Nat.reduceSub, Nat.reduceLT, Nat.reduceLeDiff, Nat.reduceBEq]; first | done | rfl | (and_intros <;> rfl)) (by decide) (by intro m hm; first | omega | (rcases m with _ | _ | _ | _ | m <;> first | exact ⟨by decide, rfl⟩ | omega)))
noncomputable def drL (b : List Int) : List Ent := allV b 0
noncomputable def drP (b : List Int) : Nat := (deedsV b 0 30).2
noncomputable def drK (b : List Int) : ByteArray × Nat := nearV b (drP b) ((drL b).map Ent.key)
noncomputable def drT (b : List Int) : Nat := pickV b (drK b).2 (((drL b).length + 2 : Nat) : Int)
def keyAtI (r : List Ent) (i : Nat) : List ByteArray := (r.take i).map Ent.key
theorem keyAtI_succ {r : List Ent} {i : Nat} {e : Ent} (h : r[i]? = some e) : keyAtI r (i + 1) = keyAtI r i ++ [e.key] := by unfold keyAtI; rw [List.take_add_one, h]; simp
theorem drawPastGet_ac (c : List Int) (hl : c.length ≤ 1099511627776) (hb : byteL (c.take 2000)) : AC Try.prog 25 [bytesT c] noHp 0 ⟨.tup [runT (drL (c.take 2000)), sT (drK (c.take 2000)).1, iT (drT (c.take 2000))], noHp, 0⟩ := by
  refine AC_of Try.func25 rfl Try.ntmps25 Try.results25 (by kernel_rfl) rfl ?_
  simp only [List.zipIdx, List.map, Nat.zero_add, Nat.reduceAdd]
  obtain ⟨b, hbe⟩ : ∃ b, b = c.take 2000 := ⟨_, rfl⟩
  rw [← hbe] at hb ⊢
  have k0 := l6Open_ac c hl
  rw [← hbe] at k0
  have k1 := l71All_ac hb (p := 0) (by omega)
  obtain ⟨h1, h2, h3⟩ := deedsV_fin hb (p := 0) (most := 30) (by omega) (by omega)
  obtain ⟨l1, l2⟩ := allV_fin hb (p := 0) (by omega)
  have kn := l71Near_ac (p := drP b) (l := (drL b).map Ent.key) hb (by show (deedsV b 0 30).2 ≤ _; omega) (by rw [List.length_map]; show (allV b 0).length ≤ _; omega) (fun s hs => by obtain ⟨e, he, rfl⟩ := List.mem_map.1 hs; have := l2 e he; omega)
  have hn := nearV_fin hb (p := drP b) (K := 5) (l := (drL b).map Ent.key) (by show (deedsV b 0 30).2 ≤ _; omega) (by rw [List.length_map]; show (allV b 0).length ≤ _; omega) (by omega) (fun s hs => by obtain ⟨e, he, rfl⟩ := List.mem_map.1 hs; have := l2 e he; omega)
  have hp : (drK b).2 ≤ 1000000 := by have : drP b ≤ 0 + 2000 := h3; show (nearV _ _ _).2 ≤ _; omega
  have kt := pickV_ac (n := (((drL b).length + 2 : Nat) : Int)) hb hp (by have : (drL b).length ≤ 40 := l1; omega)
  have hlen : (drL b).length ≤ 40 := l1
  have w2 : IntKind.i64.wrap (((drL b).length : Int) + 2) = (((drL b).length + 2 : Nat) : Int) := wn (by omega) (by omega)
  change AC Try.prog _ _ _ _ ⟨_, hpL [some (rdO b (drP b)), some (eRow (drL b))], 2⟩ at k1
  change AC Try.prog _ _ _ _ ⟨.t (sT (drK b).1), hpL [some (rdO b (drK b).2)], 1⟩ at kn
  repeat (first | apply Aw_seq | apply Aw_block | apply Aw_skip | apply Aw_exit | refine Aw_condt rfl ?_ | refine Aw_condf rfl ?_ | (refine qr ?_; simp only [go_sem, Nat.reduceEqDiff, reduceIte, Nat.reduceAdd, Nat.reduceMul, Nat.reduceSub, Nat.reduceLT, Nat.reduceLeDiff, Nat.reduceBEq]) | (refine qd (by kernel_rfl) (by kernel_rfl) ?_; simp only [go_sem, Nat.reduceEqDiff, reduceIte, Nat.reduceAdd, Nat.reduceMul, Nat.reduceSub, Nat.reduceLT, Nat.reduceLeDiff, Nat.reduceBEq]) | refine dk (by kernel_rfl) ?_ | (refine qx (call_N (L := []) (k0) rfl (.cons (.nm rfl) (.nil)) (.inl rfl) rfl) (by simp only [go_sem, Nat.reduceEqDiff, reduceIte, Nat.reduceAdd, Nat.reduceMul, Nat.reduceSub, Nat.reduceLT, Nat.reduceLeDiff, Nat.reduceBEq]; first | done | rfl) rfl (by simp only [go_sem, Nat.reduceLT]) ?_; simp only [go_sem, Nat.reduceEqDiff, reduceIte, Nat.reduceAdd, Nat.reduceMul, Nat.reduceSub, Nat.reduceLT, Nat.reduceLeDiff, Nat.reduceBEq]) | (refine qx (call_L (N' := [4]) (L := []) (k1) rfl (.cons (.nm rfl) (.nil)) (by decide) (by decide) (by decide) (by simp only [go_sem, Nat.reduceEqDiff, reduceIte, Nat.reduceAdd, Nat.reduceMul, Nat.reduceSub, Nat.reduceLT, Nat.reduceLeDiff, Nat.reduceBEq]; first | done | rfl) (.inl rfl) rfl (by decide)) (by simp only [go_sem, Nat.reduceEqDiff, reduceIte, Nat.reduceAdd, Nat.reduceMul, Nat.reduceSub, Nat.reduceLT, Nat.reduceLeDiff, Nat.reduceBEq]; first | done | rfl) rfl (by simp only [go_sem, Nat.reduceLT]) ?_; simp only [go_sem, Nat.reduceEqDiff, reduceIte, Nat.reduceAdd, Nat.reduceMul, Nat.reduceSub, Nat.reduceLT, Nat.reduceLeDiff, Nat.reduceBEq]))
  refine Aw.rw (rwL (l' := [(8, .t (iT (0 : Nat))), (7, .t (.c (.h 2))), (6, .t (.c (.h 1))), (5, .t (.c (.ph 0 0 0)))]) (os := [some (rdO b (drP b)), some (eRow (drL b)), some (kRow (keyAtI (drL b) 0))]) (M := [4, 7, 9]) (n' := 3) (by repeat (first | exact trivial | refine ⟨rfl, rfl, ?_⟩)) (by rfl) (by simp only [go_sem, Nat.reduceEqDiff, reduceIte, Nat.reduceAdd, Nat.reduceMul, Nat.reduceSub, Nat.reduceLT, Nat.reduceLeDiff, Nat.reduceBEq, List.map_nil, keyAtI, List.take_zero]; first | done | rfl) (by decide) (by intro m hm; first | omega | (rcases m with _ | _ | _ | _ | m <;> first | exact ⟨by decide, rfl⟩ | omega))) ?_
  refine Aw.setL (l' := [(8, .t (iT (0 : Nat))), (7, .t (.c (.h 2))), (6, .t (runT (drL b))), (5, .t (.c (.ph 0 0 0)))]) (os' := [some (rdO b (drP b)), none, some (kRow (keyAtI (drL b) 0))]) (n' := 3) [1] (by repeat (first | exact trivial | refine ⟨SetA.same rfl, ?_⟩ | refine ⟨SetA.row rfl rfl (by decide), ?_⟩)) (by repeat (first | exact trivial | refine ⟨rfl, rfl, ?_⟩ | show SubL _ _ _ _)) (by decide) ?_
  refine Aw_loop_rw (ι := { j : Nat // j ≤ (drL b).length }) (fun q => S [(8, .t (iT (q.1 : Nat))), (7, .t (.c (.h 2))), (6, .t (runT (drL b))), (5, .t (.c (.ph 0 0 0)))] (hpL [some (rdO b (drP b)), none, some (kRow (keyAtI (drL b) q.1))]) 3) (fun q => (drL b).length - q.1) ⟨0, Nat.zero_le _⟩ ?_
  rintro ⟨i, hi⟩
  dsimp only
  by_cases hlt : i < (drL b).length
  · have g1 : (i : Int) < ((drL b).length : Int) := by omega
    have w1 := wrap_succ hlt (by omega)
    obtain ⟨e, hx⟩ : ∃ e, (drL b)[i]? = some e := ⟨_, List.getElem?_eq_getElem hlt⟩
    have hap : ((keyAtI (drL b) i).length + 1) * 16 ≤ 140737488355328 := by unfold keyAtI; rw [List.length_map, List.length_take]; omega
    have e1 := keyAtI_succ hx
    repeat (first | apply Aw_seq | apply Aw_block | apply Aw_skip | apply Aw_exit | refine Aw_condt rfl ?_ | refine Aw_condf rfl ?_ | (refine qr ?_; simp only [go_sem, Nat.reduceEqDiff, reduceIte, Nat.reduceAdd, Nat.reduceMul, Nat.reduceSub, Nat.reduceLT, Nat.reduceLeDiff, Nat.reduceBEq, g1, w1, hx, hap]) | (refine qd (by kernel_rfl) (by kernel_rfl) ?_; simp only [go_sem, Nat.reduceEqDiff, reduceIte, Nat.reduceAdd, Nat.reduceMul, Nat.reduceSub, Nat.reduceLT, Nat.reduceLeDiff, Nat.reduceBEq, g1, w1, hx, hap]) | refine dk (by kernel_rfl) ?_)
    refine ⟨⟨i + 1, hlt⟩, [0, 0, 14], ?_, rwL (by repeat (first | exact trivial | refine ⟨rfl, rfl, ?_⟩)) (by rfl) (by simp only [go_sem, Nat.reduceEqDiff, reduceIte, Nat.reduceAdd, Nat.reduceMul, Nat.reduceSub, Nat.reduceLT, Nat.reduceLeDiff, Nat.reduceBEq, e1, List.map_append, List.map_cons, List.map_nil]; first | done | rfl) (by decide) (by intro m hm; first | omega | (rcases m with _ | _ | _ | _ | m <;> first | exact ⟨by decide, rfl⟩ | omega))⟩
    show (drL b).length - (i + 1) < (drL b).length - i; omega
  · have g1 : ¬ (i : Int) < ((drL b).length : Int) := by omega
    obtain rfl : i = (drL b).length := by omega
    have e1 : keyAtI (drL b) (drL b).length = (drL b).map Ent.key := by unfold keyAtI; rw [List.take_length]
    rw [e1]
    iterate 6 (first | apply Aw_seq | apply Aw_block | apply Aw_skip | apply Aw_exit | refine Aw_condt rfl ?_ | refine Aw_condf rfl ?_ | (refine qr ?_; simp only [go_sem, Nat.reduceEqDiff, reduceIte, Nat.reduceAdd, Nat.reduceMul, Nat.reduceSub, Nat.reduceLT, Nat.reduceLeDiff, Nat.reduceBEq, g1]) | (refine qd (by kernel_rfl) (by kernel_rfl) ?_; simp only [go_sem, Nat.reduceEqDiff, reduceIte, Nat.reduceAdd, Nat.reduceMul, Nat.reduceSub, Nat.reduceLT, Nat.reduceLeDiff, Nat.reduceBEq, g1]) | refine dk (by kernel_rfl) ?_)
    refine Aw.setL (l' := [(7, .t (strsT ((drL b).map Ent.key))), (6, .t (runT (drL b))), (5, .t (.c (.ph 0 0 0)))]) (os' := [some (rdO b (drP b))]) (n' := 7) [2] (by repeat (first | exact trivial | refine ⟨SetA.same rfl, ?_⟩ | refine ⟨SetA.row rfl rfl (by decide), ?_⟩)) (by repeat (first | exact trivial | refine ⟨rfl, rfl, ?_⟩ | show SubL _ _ _ _)) (by decide) ?_
    repeat (first | apply Aw_seq | apply Aw_block | apply Aw_skip | apply Aw_exit | refine Aw_condt rfl ?_ | refine Aw_condf rfl ?_ | (refine qr ?_; simp only [go_sem, Nat.reduceEqDiff, reduceIte, Nat.reduceAdd, Nat.reduceMul, Nat.reduceSub, Nat.reduceLT, Nat.reduceLeDiff, Nat.reduceBEq, w2]) | (refine qd (by kernel_rfl) (by kernel_rfl) ?_; simp only [go_sem, Nat.reduceEqDiff, reduceIte, Nat.reduceAdd, Nat.reduceMul, Nat.reduceSub, Nat.reduceLT, Nat.reduceLeDiff, Nat.reduceBEq, w2]) | refine dk (by kernel_rfl) ?_ | (refine qx (call_L (N' := [0]) (L := []) (kn) rfl (.cons (.nm rfl) (.cons (.nm rfl) (.nil))) (by decide) (by decide) (by decide) (by simp only [go_sem, Nat.reduceEqDiff, reduceIte, Nat.reduceAdd, Nat.reduceMul, Nat.reduceSub, Nat.reduceLT, Nat.reduceLeDiff, Nat.reduceBEq, w2]; first | done | rfl) (.inl rfl) rfl (by decide)) (by simp only [go_sem, Nat.reduceEqDiff, reduceIte, Nat.reduceAdd, Nat.reduceMul, Nat.reduceSub, Nat.reduceLT, Nat.reduceLeDiff, Nat.reduceBEq, w2]; first | done | rfl) rfl (by simp only [go_sem, Nat.reduceLT]) ?_; simp only [go_sem, Nat.reduceEqDiff, reduceIte, Nat.reduceAdd, Nat.reduceMul, Nat.reduceSub, Nat.reduceLT, Nat.reduceLeDiff, Nat.reduceBEq, w2]) | (refine qx (call_L (N' := [0]) (L := []) (kt) rfl (.cons (.nm rfl) (.cons (.nm rfl) (.nil))) (by decide) (by decide) (by decide) (by simp only [go_sem, Nat.reduceEqDiff, reduceIte, Nat.reduceAdd, Nat.reduceMul, Nat.reduceSub, Nat.reduceLT, Nat.reduceLeDiff, Nat.reduceBEq, w2]; first | done | rfl) (.inl rfl) rfl (by decide)) (by simp only [go_sem, Nat.reduceEqDiff, reduceIte, Nat.reduceAdd, Nat.reduceMul, Nat.reduceSub, Nat.reduceLT, Nat.reduceLeDiff, Nat.reduceBEq, w2]; first | done | rfl) rfl (by simp only [go_sem, Nat.reduceLT]) ?_; simp only [go_sem, Nat.reduceEqDiff, reduceIte, Nat.reduceAdd, Nat.reduceMul, Nat.reduceSub, Nat.reduceLT, Nat.reduceLeDiff, Nat.reduceBEq, w2]))
    exact Aw_ret (ret0 (.inl rfl) (by simp only [go_sem, Nat.reduceEqDiff, reduceIte, Nat.reduceAdd, Nat.reduceMul, Nat.reduceSub, Nat.reduceLT, Nat.reduceLeDiff, Nat.reduceBEq]; rfl) (by rfl) rfl)
end Go.Proofs.Ytcbhgglpgphimaa.Ab
namespace Go.Proofs.Ytcbhgglpgphimaa.Ab
set_option linter.deprecated false
set_option linter.unusedVariables false
set_option linter.unusedSimpArgs false
open Go Go.Proofs Go.Deep Go.WideShapes Go.ChangeShapes Go.RowKit
set_option linter.unusedVariables false
set_option linter.unusedSimpArgs false
theorem cell_lt {w : World} {a : Addr} {v : Value} (h : w.cell? a = some v) : a.block < w.heap.size := by
  apply Classical.byContradiction
  intro hn
  have : w.heap[a.block]? = none := Array.getElem?_eq_none (by omega)
  simp [World.cell?, this] at h
/-- What is read as data of type t is, cell by cell, the data that f tells of a value that is ok. -/
structure RdB {α : Type} (P : Program) (t : TypeId) (f : α → List D) (ok : α → Prop) : Prop where
  down : ∀ {H : Type} {enc : TypeId × Value → H} {w : World} {base : Nat} {spare : Nat → Bool} {held : Bool} {fuel : Nat} {cs : List Value} {x : DataW H × List MemPlace},
    DataW.trod enc P w base spare held fuel t cs = some x → ∃ y, All2 (RepD w (· < w.heap.size)) (f y) cs ∧ ok y
theorem RdB.int {P : Program} {t : TypeId} {k : IntKind} (ht : P.underlying t = some (.int k)) : RdB P t (fun n : Int => [.s (.int k n)]) (fun n => (Lit.int k n).wf = true) :=
  ⟨fun h => by obtain ⟨n, rfl, _, hw⟩ := DataW.trod_int ht h; exact ⟨n, .cons (.s rfl) .nil, hw⟩⟩
theorem RdB.bool {P : Program} {t : TypeId} (ht : P.underlying t = some .bool) : RdB P t (fun b : Bool => [.s (.bool b)]) (fun _ => True) :=
  ⟨fun h => by obtain ⟨b, rfl, _⟩ := DataW.trod_bool ht h; exact ⟨b, .cons (.s rfl) .nil, trivial⟩⟩
theorem RdB.str {P : Program} {t : TypeId} (ht : P.underlying t = some .string) : RdB P t (fun s : ByteArray => [.s (.string s)]) (fun s => s.size ≤ maxLen) :=
  ⟨fun h => by obtain ⟨s, rfl, _, hs⟩ := DataW.trod_string ht h; exact ⟨s, .cons (.s rfl) .nil, hs⟩⟩
theorem RdB.slice {α : Type} {P : Program} {t e k : Nat} {f : α → List D} {ok : α → Prop} (ht : P.underlying t = some (.slice e)) (hc : P.cellsOf e = k) (hd : RdB P e f ok) :
    RdB P t (fun xs : List α => [.rs k (xs.map f)]) (fun xs => xs.length ≤ maxLen ∧ ∀ x ∈ xs, ok x) := by
  refine ⟨fun {H enc w base spare held fuel cs x} h => ?_⟩
  rcases open_slice ht h with ⟨rfl, rfl⟩ | ⟨a, len, cap, m, n, D, Pl, rfl, hb, hl, hm, hmm, rfl, hx⟩
  · exact ⟨[], .cons (.rs (A := none) (cap := 0) (fun _ _ => .bool false) (Nat.le_refl _) (Nat.zero_le _) (by simp) (fun i j hi => absurd hi (by simp)) (fun i j cs x hi => by simp at hi)) .nil, by simp, by simp⟩
  · have hlm : len ≤ m := by rw [hmm]; split <;> omega
    have hy : ∀ i : _root_.Fin len, ∃ y, ∃ cs', w.cells? base (a.add (i.1 * P.cellsOf e)) (P.cellsOf e) = some cs' ∧ All2 (RepD w (· < w.heap.size)) (f y) cs' ∧ ok y := fun i => by
      obtain ⟨cs', h1, h2⟩ := hx i.1 (by omega)
      obtain ⟨y, h3, h4⟩ := hd.down h2
      exact ⟨y, cs', h1, h3, h4⟩
    have hsp : ∀ i : _root_.Fin len, ∃ cs', w.cells? base (a.add (i.1 * P.cellsOf e)) (P.cellsOf e) = some cs' ∧ All2 (RepD w (· < w.heap.size)) (f (Classical.choose (hy i))) cs' ∧ ok (Classical.choose (hy i)) := fun i => Classical.choose_spec (hy i)
    have hlen : (List.ofFn fun i : _root_.Fin len => Classical.choose (hy i)).length = len := List.length_ofFn
    have hget : ∀ {j : Nat} {p : α}, (List.ofFn fun i : _root_.Fin len => Classical.choose (hy i))[j]? = some p → ∃ cs', w.cells? base (a.add (j * k)) k = some cs' ∧ All2 (RepD w (· < w.heap.size)) (f p) cs' := fun {j p} hj => by
      have hjl : j < len := by
        have := (List.getElem?_eq_some_iff.1 hj).1
        rwa [hlen] at this
      rw [List.getElem?_ofFn, dif_pos hjl] at hj
      obtain rfl := Option.some.inj hj
      obtain ⟨cs', h1, h2, _⟩ := hsp ⟨j, hjl⟩
      rw [hc] at h1
      exact ⟨cs', h1, h2⟩
    have hbk : ∀ n, (a.add n).block = a.block := fun n => by unfold Addr.add; split <;> rfl
    have hcell : ∀ i, i < len → ∃ cs' : List Value, cs'.length = k ∧ ∀ j, j < k → w.cell? (a.add (i * k + j)) = cs'[j]? := fun i hi => by
      obtain ⟨cs', h1, _⟩ := hsp ⟨i, hi⟩
      rw [hc] at h1
      obtain ⟨_, h3, h4⟩ := World.cells?_some h1
      refine ⟨cs', h3, fun j hj => ?_⟩
      have := h4 j hj
      rw [Deep.add_add] at this
      exact this
    refine ⟨List.ofFn fun i : _root_.Fin len => Classical.choose (hy i), .cons ?_ .nil, by rw [hlen]; omega, ?_⟩
    · have := RepD.rs (w := w) (S := (· < w.heap.size)) (k := k) (els := (List.ofFn fun i : _root_.Fin len => Classical.choose (hy i)).map f) (A := some a) (cap := cap) (fun i j => (w.cell? (a.add (i * k + j))).getD (.bool false)) (by rw [List.length_map, hlen]; exact hl) hm ?_ ?_ ?_
      · rw [List.length_map, hlen] at this; exact this
      · intro cs hcs
        obtain ⟨p, hp, rfl⟩ := List.mem_map.1 hcs
        obtain ⟨j, hj⟩ := List.mem_iff_getElem?.1 hp
        obtain ⟨cs', h1, h2⟩ := hget hj
        rw [h2.len]; exact (World.cells?_some h1).2.1
      · intro i j hi hj
        rw [List.length_map, hlen] at hi
        obtain ⟨cs', h1, h2⟩ := hcell i hi
        have h3 := h2 j hj
        rw [List.getElem?_eq_getElem (by omega)] at h3
        refine ⟨a, rfl, ?_, ?_⟩
        · have := cell_lt h3; rwa [hbk] at this
        · simp only [h3]; rfl
      · intro i j cs x hi hj
        rw [List.getElem?_map] at hi
        obtain ⟨p, hp, rfl⟩ := Option.map_eq_some_iff.1 hi
        obtain ⟨cs', h1, h2⟩ := hget hp
        obtain ⟨_, h3, h4⟩ := World.cells?_some h1
        obtain ⟨v, hv, hr⟩ := h2.get hj
        have hjk : j < k := by have := (List.getElem?_eq_some_iff.1 hv).1; omega
        have := h4 j hjk
        rw [Deep.add_add, hv] at this
        simp only [this]
        exact hr
    · intro x hx
      obtain ⟨i, rfl⟩ := List.mem_ofFn.1 hx
      exact (hsp i).choose_spec.2.2
/-- The fields of a struct, from a cell on. -/
structure FRdB {α : Type} (P : Program) (off : Nat) (fs : List Field) (sz : Nat) (f : α → List D) (ok : α → Prop) : Prop where
  down : ∀ {H : Type} {enc : TypeId × Value → H} {w : World} {base : Nat} {spare : Nat → Bool} {held : Bool} {n : Nat} {cs : List Value} (ys : List (DataW H × List MemPlace)),
    cs.length = off + sz → ys.length = fs.length → (∀ (i : Nat) (f : Field), fs[i]? = some f → DataW.trod enc P w base spare held n f.type ((cs.drop f.offset).take (P.cellsOf f.type)) = ys[i]?) → ∃ y, All2 (RepD w (· < w.heap.size)) (f y) (cs.drop off) ∧ ok y
theorem FRdB.last {α : Type} {P : Program} {off sz : Nat} {f : Field} {d : α → List D} {ok : α → Prop} (ho : f.offset = off) (hc : P.cellsOf f.type = sz) (hd : RdB P f.type d ok) : FRdB P off [f] sz d ok := by
  refine ⟨fun {H enc w base spare held n cs} ys hl hy h => ?_⟩
  have h0 := h 0 f rfl
  rw [ho, hc, List.take_of_length_le (by rw [List.length_drop]; omega)] at h0
  have h1 : 0 < ys.length := by rw [hy]; simp
  rw [List.getElem?_eq_getElem h1] at h0
  exact hd.down h0
theorem FRdB.cons {α β : Type} {P : Program} {off sa sb : Nat} {f : Field} {fs : List Field} {a : α → List D} {b : β → List D} {oka : α → Prop} {okb : β → Prop} (ho : f.offset = off) (hc : P.cellsOf f.type = sa) (ha : RdB P f.type a oka) (hb : FRdB P (off + sa) fs sb b okb) :
    FRdB P off (f :: fs) (sa + sb) (fun y : α × β => a y.1 ++ b y.2) (fun y => oka y.1 ∧ okb y.2) := by
  refine ⟨fun {H enc w base spare held n cs} ys hl hy h => ?_⟩
  have h0 := h 0 f rfl
  rw [ho, hc] at h0
  match ys, hy with
  | [], hy => simp at hy
  | y0 :: ys, hy =>
    obtain ⟨x, h1, h2⟩ := ha.down (x := y0) h0
    obtain ⟨z, h3, h4⟩ := hb.down (cs := cs) ys (by omega) (by simpa using hy) (fun i g hg => by simpa using h (i + 1) g (by simpa using hg))
    refine ⟨(x, z), ?_, h2, h4⟩
    have := h1.app h3
    rw [← List.drop_drop, List.take_append_drop] at this
    exact this
theorem RdB.struct {α : Type} {P : Program} {t sz : Nat} {fs : Array Field} {d : α → List D} {ok : α → Prop} (ht : P.underlying t = some (.struct fs)) (hc : P.cellsOf t = sz) (hf : FRdB P 0 fs.toList sz d ok) : RdB P t d ok := by
  refine ⟨fun {H enc w base spare held fuel cs x} h => ?_⟩
  obtain ⟨xs, n, _, _, hl, hx, hi⟩ := DataW.trod_struct ht h
  have := hf.down (cs := cs) xs (by omega) (by simpa using hx) (fun i f hf => hi i f (by simpa using hf))
  simpa using this
theorem RdB.iso {α β : Type} {P : Program} {t : TypeId} {d : α → List D} {d' : β → List D} {ok : α → Prop} {ok' : β → Prop} (g : α → β) (hd : RdB P t d ok) (hg : ∀ x, d' (g x) = d x) (hk : ∀ x, ok x → ok' (g x)) : RdB P t d' ok' :=
  ⟨fun h => by
    obtain ⟨x, h1, h2⟩ := hd.down h
    exact ⟨g x, by rw [hg]; exact h1, hk x h2⟩⟩
/-- An argument that is a struct; one that is a slice. -/
theorem RdB.argS {α H : Type} {enc : TypeId × Value → H} {P : Program} {w : World} {base : Nat} {spare : Nat → Bool} {held : Bool} {t : TypeId} {d : α → List D} {ok : α → Prop} {cs : Array Value} {x : DataW H} {p : List MemPlace}
    (hd : RdB P t d ok) (h : DataW.Trod enc P w base spare held t (.agg cs) x p) : ∃ y : α, All2 (RepD w (· < w.heap.size)) (d y) cs.toList ∧ ok y := by
  obtain ⟨fuel, hf⟩ := h
  exact hd.down hf
theorem RdB.arg1 {α H : Type} {enc : TypeId × Value → H} {P : Program} {w : World} {base : Nat} {spare : Nat → Bool} {held : Bool} {t : TypeId} {d : α → D} {ok : α → Prop} {a : Option Addr} {len cap : Nat} {x : DataW H} {p : List MemPlace}
    (hd : RdB P t (fun y => [d y]) ok) (h : DataW.Trod enc P w base spare held t (.slice a len cap) x p) : ∃ y : α, RepD w (· < w.heap.size) (d y) (.slice a len cap) ∧ ok y := by
  obtain ⟨fuel, hf⟩ := h
  obtain ⟨y, h1, h2⟩ := hd.down hf
  simp [Value.cells] at h1
  cases h1 with
  | cons h _ => exact ⟨y, h, h2⟩
/-- A law's contract, of data alone: it gives its value, and leaves what was there. -/
theorem AC.run {P : Program} {f : FuncId} {args : List TV} {b : Bool} {n : Nat} (h : AC P f args noHp 0 ⟨.t (bT b), noHp, n⟩) {W : World} {vs : List Value} (hv : All2 (RepT ⟨W, fun _ => 0, fun _ => .bool false, fun _ => 0, (· < W.heap.size), fun _ => False⟩) args vs) :
    Calls P f vs.toArray W fun e W' => e = .returned (.bool b) ∧ Below W.heap.size W W' := by
  have g : Good ⟨W, fun _ => 0, fun _ => .bool false, fun _ => 0, (· < W.heap.size), fun _ => False⟩ noHp := by
    refine ⟨fun m o hm => ?_, fun m o hm => ?_, fun b hb => ?_, fun m o m' o' b hm => ?_, fun b hb => hb⟩
    · simp [noHp] at hm
    · simp [noHp] at hm
    · obtain ⟨m, o, hm, _⟩ := hb; simp [noHp] at hm
    · simp [noHp] at hm
  refine Calls.mono (h.2 _ vs g (fun m hm => hm.elim) hv) fun e w' => ?_
  rintro ⟨v, c', rfl, rfl, t, _, r, _⟩
  refine ⟨by rw [show v = .bool b by cases r; rfl], t.os, t.tape, t.output, t.size, fun k hk => t.keep k hk ?_⟩
  rintro ⟨m, o, hm, _⟩
  simp [noHp] at hm
theorem rep_agg {W : World} {c : Cx} {cs : List D} {vs : Array Value} (hc : c.w = W) (hS : c.S = (· < W.heap.size)) (h : All2 (RepD W (· < W.heap.size)) cs vs.toList) : RepT c (.agg (cs.map .d)) (.agg vs) :=
  ⟨vs.toList, by simp, All2.map_left (h.imp fun a b hab => by subst hc; rw [← hS] at hab; exact hab)⟩
end Go.Proofs.Ytcbhgglpgphimaa.Ab
namespace Go.Proofs.Ytcbhgglpgphimaa.Ab
set_option linter.deprecated false
set_option linter.unusedVariables false
set_option linter.unusedSimpArgs false
open Go Go.Proofs
set_option maxRecDepth 100000
set_option linter.unusedVariables false
def w64 (n : Int) : Prop := (Lit.int .i64 n).wf = true
structure okE (e : Ent) : Prop where
  key : big e.key.size
  val : w64 e.val
  time : w64 e.time
def okR (r : List Ent) : Prop := big r.length ∧ ∀ e ∈ r, okE e
def okS (s : Sve) : Prop := bigS s ∧ w64 s.keep
structure okT (s : Sto) : Prop where
  top : okR s.top
  ll : big s.levels.length
  levels : ∀ e ∈ s.levels, okR e
  sl : big s.sieves.length
  sieves : ∀ e ∈ s.sieves, okS e
  times : big s.times.length
  keep : w64 s.keep
  time : w64 s.time
  tw : ∀ t ∈ s.times, w64 t
theorem okR.big {r : List Ent} (h : okR r) : bigR r := ⟨h.1, fun e he => (h.2 e he).key⟩
theorem okT.big {s : Sto} (h : okT s) : bigT s := ⟨h.top.big, h.ll, fun e he => (h.levels e he).big, h.sl, fun e he => (h.sieves e he).1, h.times⟩
theorem rdEnt : RdB Try.prog 78 entD okE :=
  RdB.iso (fun x : ByteArray × Int × Bool × Int => (⟨x.1, x.2.1, x.2.2.1, x.2.2.2⟩ : Ent)) (RdB.struct Try.underlying78 (by kernel_rfl) (FRdB.cons (sa := 1) rfl (by kernel_rfl) (RdB.str Try.underlying9) (FRdB.cons (sa := 1) rfl (by kernel_rfl) (RdB.int Try.underlying3) (FRdB.cons (sa := 1) rfl (by kernel_rfl) (RdB.bool Try.underlying4) (FRdB.last (sz := 1) rfl (by kernel_rfl) (RdB.int Try.underlying3)))))) (fun _ => rfl) (fun x h => ⟨h.1, h.2.1, h.2.2.2⟩)
theorem rdRun : RdB Try.prog 22 (fun r => [.rs 4 (r.map entD)]) okR := RdB.slice Try.underlying22 (by kernel_rfl) rdEnt
theorem rdSve : RdB Try.prog 147 sveD okS :=
  RdB.iso (fun x : ByteArray × ByteArray × ByteArray × List ByteArray × Int => (⟨x.1, x.2.1, x.2.2.1, x.2.2.2.1, x.2.2.2.2⟩ : Sve)) (RdB.struct Try.underlying147 (by kernel_rfl) (FRdB.cons (sa := 1) rfl (by kernel_rfl) (RdB.str Try.underlying9) (FRdB.cons (sa := 1) rfl (by kernel_rfl) (RdB.str Try.underlying9) (FRdB.cons (sa := 1) rfl (by kernel_rfl) (RdB.str Try.underlying9) (FRdB.cons (sa := 1) rfl (by kernel_rfl) (RdB.slice Try.underlying52 (by kernel_rfl) (RdB.str Try.underlying9)) (FRdB.last (sz := 1) rfl (by kernel_rfl) (RdB.int Try.underlying3))))))) (fun _ => rfl) (fun x h => ⟨⟨h.1, h.2.1, h.2.2.1, h.2.2.2.1.1, h.2.2.2.1.2⟩, h.2.2.2.2⟩)
def stC (s : Sto) : List D := [.rs 4 (s.top.map entD), .rs 1 (s.levels.map lvD), .rs 5 (s.sieves.map sveD), .s (.int .i64 s.keep), .s (.int .i64 s.time), .rs 1 (s.times.map intD)]
theorem rdSto : RdB Try.prog 60 stC okT :=
  RdB.iso (fun x : List Ent × List (List Ent) × List Sve × Int × Int × List Int => (⟨x.1, x.2.1, x.2.2.1, x.2.2.2.1, x.2.2.2.2.1, x.2.2.2.2.2⟩ : Sto)) (RdB.struct Try.underlying60 (by kernel_rfl) (FRdB.cons (sa := 1) rfl (by kernel_rfl) rdRun (FRdB.cons (sa := 1) rfl (by kernel_rfl) (RdB.slice Try.underlying57 (by kernel_rfl) rdRun) (FRdB.cons (sa := 1) rfl (by kernel_rfl) (RdB.slice Try.underlying58 (by kernel_rfl) rdSve) (FRdB.cons (sa := 1) rfl (by kernel_rfl) (RdB.int Try.underlying3) (FRdB.cons (sa := 1) rfl (by kernel_rfl) (RdB.int Try.underlying3) (FRdB.last (sz := 1) rfl (by kernel_rfl) (RdB.slice Try.underlying33 (by kernel_rfl) (RdB.int Try.underlying3)))))))))
    (fun _ => rfl) (fun x h => ⟨h.1, h.2.1.1, h.2.1.2, h.2.2.1.1, h.2.2.1.2, h.2.2.2.2.2.1, h.2.2.2.1, h.2.2.2.2.1, h.2.2.2.2.2.2⟩)
theorem rep_st {W : World} {c : Cx} {s : Sto} {vs : Array Value} (hc : c.w = W) (hS : c.S = (· < W.heap.size)) (h : All2 (RepD W (· < W.heap.size)) (stC s) vs.toList) : RepT c (stT s) (.agg vs) := rep_agg hc hS h
end Go.Proofs.Ytcbhgglpgphimaa.Ab
namespace Go.Proofs.Ytcbhgglpgphimaa.Ab
set_option linter.deprecated false
set_option linter.unusedVariables false
set_option linter.unusedSimpArgs false
open Go Go.Proofs
set_option maxRecDepth 10000
set_option maxHeartbeats 8000000
set_option linter.unusedSimpArgs false
set_option linter.unusedVariables false
def upToM (r : List Ent) (k : ByteArray) (t : Int) (n : Nat) : Option Ent := (r.take n).reverse.find? (hit k t)
def lastM (r : List Ent) (k : ByteArray) (t : Int) : Option Ent := upToM r k t r.length
theorem upToM_0 (r : List Ent) (k : ByteArray) (t : Int) : upToM r k t 0 = none := rfl
theorem upToM_succ {r : List Ent} {k : ByteArray} {t : Int} {n : Nat} {e : Ent} (h : r[n]? = some e) : upToM r k t (n + 1) = if hit k t e = true then some e else upToM r k t n := by
  unfold upToM
  rw [List.take_add_one, h]
  simp only [Option.toList_some, List.reverse_append, List.reverse_cons, List.reverse_nil, List.nil_append, List.singleton_append, List.find?_cons]
  cases hit k t e <;> rfl
theorem back1 (j : Nat) : ((j + 1 : Nat) : Int) - 1 = (j : Int) := by omega
abbrev resL (o : Option Ent) : AV := .tup [entT (o.getD zEnt), bT (match o with | some e => !e.gone | none => false)]
theorem l13Last_ac (r : List Ent) (k : ByteArray) (t : Int) (hl : r.length ≤ 100000) : AC Try.prog 77 [runT r, sT k, iT t] noHp 0 ⟨resE (lastM r k t), noHp, 0⟩ := by
  refine AC_of Try.func77 rfl Try.ntmps77 Try.results77 (by kernel_rfl) rfl ?_
  simp only [List.zipIdx, List.map, Nat.zero_add, Nat.reduceAdd]
  have w0 : IntKind.i64.wrap (((r.length : Nat) : Int) - 1) = ((r.length : Nat) : Int) - 1 := wrap_in (by omega) (by omega)
  repeat (first | apply Aw_seq | apply Aw_block | apply Aw_skip | apply Aw_exit | refine Aw_condt rfl ?_ | refine Aw_condf rfl ?_ | (refine qr ?_; simp only [go_sem, Nat.reduceEqDiff, reduceIte, Nat.reduceAdd, Nat.reduceMul, Nat.reduceSub, Nat.reduceLT, Nat.reduceLeDiff, Nat.reduceBEq, w0]) | (refine qd (by kernel_rfl) (by kernel_rfl) ?_; simp only [go_sem, Nat.reduceEqDiff, reduceIte, Nat.reduceAdd, Nat.reduceMul, Nat.reduceSub, Nat.reduceLT, Nat.reduceLeDiff, Nat.reduceBEq, w0]) | refine dk (by kernel_rfl) ?_)
  refine Aw.rw (rwL (l' := [(8, .t (iT (((r.length : Nat) : Int) - 1))), (6, .t (.c (.ph 0 0 0))), (2, .t (iT t)), (1, .t (sT k)), (0, .t (runT r))]) (os := [some (enO zEnt)]) (M := [0]) (n' := 1) (by repeat (first | exact trivial | refine ⟨rfl, rfl, ?_⟩)) (by rfl) (by simp only [go_sem, Nat.reduceEqDiff, reduceIte, Nat.reduceAdd, Nat.reduceMul, Nat.reduceSub, Nat.reduceLT, Nat.reduceLeDiff, Nat.reduceBEq, zEnt]; first | done | rfl) (by decide) (by intro m hm; first | omega | (rcases m with _ | _ | _ | _ | m <;> first | exact ⟨by decide, rfl⟩ | omega))) ?_
  refine Aw_loop_rw (ι := { n : Nat // n ≤ r.length ∧ upToM r k t n = lastM r k t }) (fun q => S [(8, .t (iT (((q.1 : Nat) : Int) - 1))), (6, .t (.c (.ph 0 0 0))), (2, .t (iT t)), (1, .t (sT k)), (0, .t (runT r))] (hpL [some (enO zEnt)]) 1) (fun q => q.1) ⟨r.length, Nat.le_refl _, rfl⟩ ?_
  rintro ⟨n, hn, h⟩
  dsimp only
  rcases n with _ | j
  · have g1 : decide ((0 : Int) ≤ ((0 : Nat) : Int) - 1) = false := rfl
    rw [upToM_0] at h
    rw [← h]
    repeat (first | apply Aw_seq | apply Aw_block | apply Aw_skip | apply Aw_exit | refine Aw_condt rfl ?_ | refine Aw_condf rfl ?_ | (refine qr ?_; simp only [go_sem, Nat.reduceEqDiff, reduceIte, Nat.reduceAdd, Nat.reduceMul, Nat.reduceSub, Nat.reduceLT, Nat.reduceLeDiff, Nat.reduceBEq, g1]) | (refine qd (by kernel_rfl) (by kernel_rfl) ?_; simp only [go_sem, Nat.reduceEqDiff, reduceIte, Nat.reduceAdd, Nat.reduceMul, Nat.reduceSub, Nat.reduceLT, Nat.reduceLeDiff, Nat.reduceBEq, g1]) | refine dk (by kernel_rfl) ?_)
    exact Aw_ret (ret0 (.inl rfl) (by simp only [go_sem, Nat.reduceEqDiff, reduceIte, Nat.reduceAdd, Nat.reduceMul, Nat.reduceSub, Nat.reduceLT, Nat.reduceLeDiff, Nat.reduceBEq]; rfl) (by rfl) rfl)
  · rw [back1]
    have g1 : decide ((0 : Int) ≤ (j : Int)) = true := decide_eq_true (by omega)
    have w1 : IntKind.i64.wrap ((j : Int) - 1) = (j : Int) - 1 := wrap_in (by omega) (by omega)
    obtain ⟨e, hx⟩ : ∃ e, r[j]? = some e := ⟨_, List.getElem?_eq_getElem (by omega)⟩
    rw [upToM_succ hx] at h
    cases c1 : decide (e.key = k)
    · rw [if_neg (by simp [hit, c1])] at h
      repeat (first | apply Aw_seq | apply Aw_block | apply Aw_skip | apply Aw_exit | refine Aw_condt rfl ?_ | refine Aw_condf rfl ?_ | (refine qr ?_; simp only [go_sem, Nat.reduceEqDiff, reduceIte, Nat.reduceAdd, Nat.reduceMul, Nat.reduceSub, Nat.reduceLT, Nat.reduceLeDiff, Nat.reduceBEq, g1, hx, c1, w1]) | (refine qd (by kernel_rfl) (by kernel_rfl) ?_; simp only [go_sem, Nat.reduceEqDiff, reduceIte, Nat.reduceAdd, Nat.reduceMul, Nat.reduceSub, Nat.reduceLT, Nat.reduceLeDiff, Nat.reduceBEq, g1, hx, c1, w1]) | refine dk (by kernel_rfl) ?_)
      refine ⟨⟨j, by omega, h⟩, [0], ?_, rwL (by repeat (first | exact trivial | refine ⟨rfl, rfl, ?_⟩)) (by rfl) (by simp only [go_sem, Nat.reduceEqDiff, reduceIte, Nat.reduceAdd, Nat.reduceMul, Nat.reduceSub, Nat.reduceLT, Nat.reduceLeDiff, Nat.reduceBEq]; first | done | rfl) (by decide) (by intro m hm; first | omega | (rcases m with _ | _ | _ | _ | m <;> first | exact ⟨by decide, rfl⟩ | omega))⟩
      show j < j + 1; omega
    · cases c2 : decide (e.time ≤ t)
      · rw [if_neg (by simp [hit, c2])] at h
        repeat (first | apply Aw_seq | apply Aw_block | apply Aw_skip | apply Aw_exit | refine Aw_condt rfl ?_ | refine Aw_condf rfl ?_ | (refine qr ?_; simp only [go_sem, Nat.reduceEqDiff, reduceIte, Nat.reduceAdd, Nat.reduceMul, Nat.reduceSub, Nat.reduceLT, Nat.reduceLeDiff, Nat.reduceBEq, g1, hx, c1, c2, w1]) | (refine qd (by kernel_rfl) (by kernel_rfl) ?_; simp only [go_sem, Nat.reduceEqDiff, reduceIte, Nat.reduceAdd, Nat.reduceMul, Nat.reduceSub, Nat.reduceLT, Nat.reduceLeDiff, Nat.reduceBEq, g1, hx, c1, c2, w1]) | refine dk (by kernel_rfl) ?_)
        refine ⟨⟨j, by omega, h⟩, [0], ?_, rwL (by repeat (first | exact trivial | refine ⟨rfl, rfl, ?_⟩)) (by rfl) (by simp only [go_sem, Nat.reduceEqDiff, reduceIte, Nat.reduceAdd, Nat.reduceMul, Nat.reduceSub, Nat.reduceLT, Nat.reduceLeDiff, Nat.reduceBEq]; first | done | rfl) (by decide) (by intro m hm; first | omega | (rcases m with _ | _ | _ | _ | m <;> first | exact ⟨by decide, rfl⟩ | omega))⟩
        show j < j + 1; omega
      · rw [if_pos (by simp [hit, c1, c2])] at h
        rw [← h]
        repeat (first | apply Aw_seq | apply Aw_block | apply Aw_skip | apply Aw_exit | refine Aw_condt rfl ?_ | refine Aw_condf rfl ?_ | (refine qr ?_; simp only [go_sem, Nat.reduceEqDiff, reduceIte, Nat.reduceAdd, Nat.reduceMul, Nat.reduceSub, Nat.reduceLT, Nat.reduceLeDiff, Nat.reduceBEq, g1, hx, c1, c2]) | (refine qd (by kernel_rfl) (by kernel_rfl) ?_; simp only [go_sem, Nat.reduceEqDiff, reduceIte, Nat.reduceAdd, Nat.reduceMul, Nat.reduceSub, Nat.reduceLT, Nat.reduceLeDiff, Nat.reduceBEq, g1, hx, c1, c2]) | refine dk (by kernel_rfl) ?_)
        exact Aw_ret (ret0 (.inl rfl) (by simp only [go_sem, Nat.reduceEqDiff, reduceIte, Nat.reduceAdd, Nat.reduceMul, Nat.reduceSub, Nat.reduceLT, Nat.reduceLeDiff, Nat.reduceBEq]; rfl) (by rfl) rfl)
theorem latest_ac (r : List Ent) (k : ByteArray) (t : Int) (hl : r.length ≤ 100000) : AC Try.prog 78 [runT r, sT k, iT t] noHp 0 ⟨resL (lastM r k t), noHp, 0⟩ := by
  refine AC_of Try.func78 rfl Try.ntmps78 Try.results78 (by kernel_rfl) rfl ?_
  simp only [List.zipIdx, List.map, Nat.zero_add, Nat.reduceAdd]
  have w0 : IntKind.i64.wrap (((r.length : Nat) : Int) - 1) = ((r.length : Nat) : Int) - 1 := wrap_in (by omega) (by omega)
  repeat (first | apply Aw_seq | apply Aw_block | apply Aw_skip | apply Aw_exit | refine Aw_condt rfl ?_ | refine Aw_condf rfl ?_ | (refine qr ?_; simp only [go_sem, Nat.reduceEqDiff, reduceIte, Nat.reduceAdd, Nat.reduceMul, Nat.reduceSub, Nat.reduceLT, Nat.reduceLeDiff, Nat.reduceBEq, w0]) | (refine qd (by kernel_rfl) (by kernel_rfl) ?_; simp only [go_sem, Nat.reduceEqDiff, reduceIte, Nat.reduceAdd, Nat.reduceMul, Nat.reduceSub, Nat.reduceLT, Nat.reduceLeDiff, Nat.reduceBEq, w0]) | refine dk (by kernel_rfl) ?_)
  refine Aw.rw (rwL (l' := [(8, .t (iT (((r.length : Nat) : Int) - 1))), (6, .t (.c (.ph 0 0 0))), (2, .t (iT t)), (1, .t (sT k)), (0, .t (runT r))]) (os := [some (enO zEnt)]) (M := [0]) (n' := 1) (by repeat (first | exact trivial | refine ⟨rfl, rfl, ?_⟩)) (by rfl) (by simp only [go_sem, Nat.reduceEqDiff, reduceIte, Nat.reduceAdd, Nat.reduceMul, Nat.reduceSub, Nat.reduceLT, Nat.reduceLeDiff, Nat.reduceBEq, zEnt]; first | done | rfl) (by decide) (by intro m hm; first | omega | (rcases m with _ | _ | _ | _ | m <;> first | exact ⟨by decide, rfl⟩ | omega))) ?_
  refine Aw_loop_rw (ι := { n : Nat // n ≤ r.length ∧ upToM r k t n = lastM r k t }) (fun q => S [(8, .t (iT (((q.1 : Nat) : Int) - 1))), (6, .t (.c (.ph 0 0 0))), (2, .t (iT t)), (1, .t (sT k)), (0, .t (runT r))] (hpL [some (enO zEnt)]) 1) (fun q => q.1) ⟨r.length, Nat.le_refl _, rfl⟩ ?_
  rintro ⟨n, hn, h⟩
  dsimp only
  rcases n with _ | j
  · have g1 : decide ((0 : Int) ≤ ((0 : Nat) : Int) - 1) = false := rfl
    rw [upToM_0] at h
    rw [← h]
    repeat (first | apply Aw_seq | apply Aw_block | apply Aw_skip | apply Aw_exit | refine Aw_condt rfl ?_ | refine Aw_condf rfl ?_ | (refine qr ?_; simp only [go_sem, Nat.reduceEqDiff, reduceIte, Nat.reduceAdd, Nat.reduceMul, Nat.reduceSub, Nat.reduceLT, Nat.reduceLeDiff, Nat.reduceBEq, g1]) | (refine qd (by kernel_rfl) (by kernel_rfl) ?_; simp only [go_sem, Nat.reduceEqDiff, reduceIte, Nat.reduceAdd, Nat.reduceMul, Nat.reduceSub, Nat.reduceLT, Nat.reduceLeDiff, Nat.reduceBEq, g1]) | refine dk (by kernel_rfl) ?_)
    exact Aw_ret (ret0 (.inl rfl) (by simp only [go_sem, Nat.reduceEqDiff, reduceIte, Nat.reduceAdd, Nat.reduceMul, Nat.reduceSub, Nat.reduceLT, Nat.reduceLeDiff, Nat.reduceBEq]; rfl) (by rfl) rfl)
  · rw [back1]
    have g1 : decide ((0 : Int) ≤ (j : Int)) = true := decide_eq_true (by omega)
    have w1 : IntKind.i64.wrap ((j : Int) - 1) = (j : Int) - 1 := wrap_in (by omega) (by omega)
    obtain ⟨e, hx⟩ : ∃ e, r[j]? = some e := ⟨_, List.getElem?_eq_getElem (by omega)⟩
    rw [upToM_succ hx] at h
    cases c1 : decide (e.key = k)
    · rw [if_neg (by simp [hit, c1])] at h
      repeat (first | apply Aw_seq | apply Aw_block | apply Aw_skip | apply Aw_exit | refine Aw_condt rfl ?_ | refine Aw_condf rfl ?_ | (refine qr ?_; simp only [go_sem, Nat.reduceEqDiff, reduceIte, Nat.reduceAdd, Nat.reduceMul, Nat.reduceSub, Nat.reduceLT, Nat.reduceLeDiff, Nat.reduceBEq, g1, hx, c1, w1]) | (refine qd (by kernel_rfl) (by kernel_rfl) ?_; simp only [go_sem, Nat.reduceEqDiff, reduceIte, Nat.reduceAdd, Nat.reduceMul, Nat.reduceSub, Nat.reduceLT, Nat.reduceLeDiff, Nat.reduceBEq, g1, hx, c1, w1]) | refine dk (by kernel_rfl) ?_)
      refine ⟨⟨j, by omega, h⟩, [0], ?_, rwL (by repeat (first | exact trivial | refine ⟨rfl, rfl, ?_⟩)) (by rfl) (by simp only [go_sem, Nat.reduceEqDiff, reduceIte, Nat.reduceAdd, Nat.reduceMul, Nat.reduceSub, Nat.reduceLT, Nat.reduceLeDiff, Nat.reduceBEq]; first | done | rfl) (by decide) (by intro m hm; first | omega | (rcases m with _ | _ | _ | _ | m <;> first | exact ⟨by decide, rfl⟩ | omega))⟩
      show j < j + 1; omega
    · cases c2 : decide (e.time ≤ t)
      · rw [if_neg (by simp [hit, c2])] at h
        repeat (first | apply Aw_seq | apply Aw_block | apply Aw_skip | apply Aw_exit | refine Aw_condt rfl ?_ | refine Aw_condf rfl ?_ | (refine qr ?_; simp only [go_sem, Nat.reduceEqDiff, reduceIte, Nat.reduceAdd, Nat.reduceMul, Nat.reduceSub, Nat.reduceLT, Nat.reduceLeDiff, Nat.reduceBEq, g1, hx, c1, c2, w1]) | (refine qd (by kernel_rfl) (by kernel_rfl) ?_; simp only [go_sem, Nat.reduceEqDiff, reduceIte, Nat.reduceAdd, Nat.reduceMul, Nat.reduceSub, Nat.reduceLT, Nat.reduceLeDiff, Nat.reduceBEq, g1, hx, c1, c2, w1]) | refine dk (by kernel_rfl) ?_)
        refine ⟨⟨j, by omega, h⟩, [0], ?_, rwL (by repeat (first | exact trivial | refine ⟨rfl, rfl, ?_⟩)) (by rfl) (by simp only [go_sem, Nat.reduceEqDiff, reduceIte, Nat.reduceAdd, Nat.reduceMul, Nat.reduceSub, Nat.reduceLT, Nat.reduceLeDiff, Nat.reduceBEq]; first | done | rfl) (by decide) (by intro m hm; first | omega | (rcases m with _ | _ | _ | _ | m <;> first | exact ⟨by decide, rfl⟩ | omega))⟩
        show j < j + 1; omega
      · rw [if_pos (by simp [hit, c1, c2])] at h
        rw [← h]
        repeat (first | apply Aw_seq | apply Aw_block | apply Aw_skip | apply Aw_exit | refine Aw_condt rfl ?_ | refine Aw_condf rfl ?_ | (refine qr ?_; simp only [go_sem, Nat.reduceEqDiff, reduceIte, Nat.reduceAdd, Nat.reduceMul, Nat.reduceSub, Nat.reduceLT, Nat.reduceLeDiff, Nat.reduceBEq, g1, hx, c1, c2]) | (refine qd (by kernel_rfl) (by kernel_rfl) ?_; simp only [go_sem, Nat.reduceEqDiff, reduceIte, Nat.reduceAdd, Nat.reduceMul, Nat.reduceSub, Nat.reduceLT, Nat.reduceLeDiff, Nat.reduceBEq, g1, hx, c1, c2]) | refine dk (by kernel_rfl) ?_)
        exact Aw_ret (ret0 (.inl rfl) (by simp only [go_sem, Nat.reduceEqDiff, reduceIte, Nat.reduceAdd, Nat.reduceMul, Nat.reduceSub, Nat.reduceLT, Nat.reduceLeDiff, Nat.reduceBEq]; rfl) (by rfl) rfl)
def pgM (r : List Ent) (k : ByteArray) (t : Int) : Int × Bool := match lastM r k t with
  | some e => if e.gone = true then (0, false) else (e.val, true)
  | none => (0, false)
abbrev resG (x : Int × Bool) : AV := .tup [iT x.1, bT x.2]
theorem spastGet_ac (r : List Ent) (k : ByteArray) (t : Int) (hl : r.length ≤ 100000) : AC Try.prog 26 [runT r, sT k, iT t] noHp 0 ⟨resG (pgM r k t), noHp, 0⟩ := by
  refine AC_of Try.func26 rfl Try.ntmps26 Try.results26 (by kernel_rfl) rfl ?_
  simp only [List.zipIdx, List.map, Nat.zero_add, Nat.reduceAdd]
  have k1 := l13Last_ac r k t hl
  unfold pgM
  cases h : lastM r k t with
  | none =>
    rw [h] at k1
    repeat (first | apply Aw_seq | apply Aw_block | apply Aw_skip | apply Aw_exit | refine Aw_condt rfl ?_ | refine Aw_condf rfl ?_ | (refine qr ?_; simp only [go_sem, Nat.reduceEqDiff, reduceIte, Nat.reduceAdd, Nat.reduceMul, Nat.reduceSub, Nat.reduceLT, Nat.reduceLeDiff, Nat.reduceBEq]) | (refine qd (by kernel_rfl) (by kernel_rfl) ?_; simp only [go_sem, Nat.reduceEqDiff, reduceIte, Nat.reduceAdd, Nat.reduceMul, Nat.reduceSub, Nat.reduceLT, Nat.reduceLeDiff, Nat.reduceBEq]) | refine dk (by kernel_rfl) ?_ | (refine qp (k1) (by simp only [go_sem, Nat.reduceEqDiff, reduceIte, Nat.reduceAdd, Nat.reduceMul, Nat.reduceSub, Nat.reduceLT, Nat.reduceLeDiff, Nat.reduceBEq]; first | done | rfl) rfl (by simp only [go_sem, Nat.reduceLT]) rfl rfl ?_; simp only [go_sem, Nat.reduceEqDiff, reduceIte, Nat.reduceAdd, Nat.reduceMul, Nat.reduceSub, Nat.reduceLT, Nat.reduceLeDiff, Nat.reduceBEq]))
    exact Aw_ret (ret0 (.inl rfl) (by simp only [go_sem, Nat.reduceEqDiff, reduceIte, Nat.reduceAdd, Nat.reduceMul, Nat.reduceSub, Nat.reduceLT, Nat.reduceLeDiff, Nat.reduceBEq]; rfl) (by rfl) rfl)
  | some e =>
    rw [h] at k1
    have k1 : AC Try.prog 77 [runT r, sT k, iT t] noHp 0 ⟨.tup [entT e, bT true], noHp, 0⟩ := k1
    cases c : e.gone
    · repeat (first | apply Aw_seq | apply Aw_block | apply Aw_skip | apply Aw_exit | refine Aw_condt rfl ?_ | refine Aw_condf rfl ?_ | (refine qr ?_; simp only [go_sem, Nat.reduceEqDiff, reduceIte, Nat.reduceAdd, Nat.reduceMul, Nat.reduceSub, Nat.reduceLT, Nat.reduceLeDiff, Nat.reduceBEq, c]) | (refine qd (by kernel_rfl) (by kernel_rfl) ?_; simp only [go_sem, Nat.reduceEqDiff, reduceIte, Nat.reduceAdd, Nat.reduceMul, Nat.reduceSub, Nat.reduceLT, Nat.reduceLeDiff, Nat.reduceBEq, c]) | refine dk (by kernel_rfl) ?_ | (refine qp (k1) (by simp only [go_sem, Nat.reduceEqDiff, reduceIte, Nat.reduceAdd, Nat.reduceMul, Nat.reduceSub, Nat.reduceLT, Nat.reduceLeDiff, Nat.reduceBEq, c]; first | done | rfl) rfl (by simp only [go_sem, Nat.reduceLT]) rfl rfl ?_; simp only [go_sem, Nat.reduceEqDiff, reduceIte, Nat.reduceAdd, Nat.reduceMul, Nat.reduceSub, Nat.reduceLT, Nat.reduceLeDiff, Nat.reduceBEq, c]))
      exact Aw_ret (ret0 (.inl rfl) (by simp only [go_sem, Nat.reduceEqDiff, reduceIte, Nat.reduceAdd, Nat.reduceMul, Nat.reduceSub, Nat.reduceLT, Nat.reduceLeDiff, Nat.reduceBEq]; rfl) (by rfl) rfl)
    · repeat (first | apply Aw_seq | apply Aw_block | apply Aw_skip | apply Aw_exit | refine Aw_condt rfl ?_ | refine Aw_condf rfl ?_ | (refine qr ?_; simp only [go_sem, Nat.reduceEqDiff, reduceIte, Nat.reduceAdd, Nat.reduceMul, Nat.reduceSub, Nat.reduceLT, Nat.reduceLeDiff, Nat.reduceBEq, c]) | (refine qd (by kernel_rfl) (by kernel_rfl) ?_; simp only [go_sem, Nat.reduceEqDiff, reduceIte, Nat.reduceAdd, Nat.reduceMul, Nat.reduceSub, Nat.reduceLT, Nat.reduceLeDiff, Nat.reduceBEq, c]) | refine dk (by kernel_rfl) ?_ | (refine qp (k1) (by simp only [go_sem, Nat.reduceEqDiff, reduceIte, Nat.reduceAdd, Nat.reduceMul, Nat.reduceSub, Nat.reduceLT, Nat.reduceLeDiff, Nat.reduceBEq, c]; first | done | rfl) rfl (by simp only [go_sem, Nat.reduceLT]) rfl rfl ?_; simp only [go_sem, Nat.reduceEqDiff, reduceIte, Nat.reduceAdd, Nat.reduceMul, Nat.reduceSub, Nat.reduceLT, Nat.reduceLeDiff, Nat.reduceBEq, c]))
      exact Aw_ret (ret0 (.inl rfl) (by simp only [go_sem, Nat.reduceEqDiff, reduceIte, Nat.reduceAdd, Nat.reduceMul, Nat.reduceSub, Nat.reduceLT, Nat.reduceLeDiff, Nat.reduceBEq]; rfl) (by rfl) rfl)
theorem pastGet_ac (r : List Ent) (k : ByteArray) (t : Int) (hl : r.length ≤ 100000) : AC Try.prog 27 [runT r, sT k, iT t] noHp 0 ⟨resG (pgM r k t), noHp, 0⟩ := by
  refine AC_of Try.func27 rfl Try.ntmps27 Try.results27 (by kernel_rfl) rfl ?_
  simp only [List.zipIdx, List.map, Nat.zero_add, Nat.reduceAdd]
  have k1 := latest_ac r k t hl
  unfold pgM
  cases h : lastM r k t with
  | none =>
    rw [h] at k1
    repeat (first | apply Aw_seq | apply Aw_block | apply Aw_skip | apply Aw_exit | refine Aw_condt rfl ?_ | refine Aw_condf rfl ?_ | (refine qr ?_; simp only [go_sem, Nat.reduceEqDiff, reduceIte, Nat.reduceAdd, Nat.reduceMul, Nat.reduceSub, Nat.reduceLT, Nat.reduceLeDiff, Nat.reduceBEq]) | (refine qd (by kernel_rfl) (by kernel_rfl) ?_; simp only [go_sem, Nat.reduceEqDiff, reduceIte, Nat.reduceAdd, Nat.reduceMul, Nat.reduceSub, Nat.reduceLT, Nat.reduceLeDiff, Nat.reduceBEq]) | refine dk (by kernel_rfl) ?_ | (refine qp (k1) (by simp only [go_sem, Nat.reduceEqDiff, reduceIte, Nat.reduceAdd, Nat.reduceMul, Nat.reduceSub, Nat.reduceLT, Nat.reduceLeDiff, Nat.reduceBEq]; first | done | rfl) rfl (by simp only [go_sem, Nat.reduceLT]) rfl rfl ?_; simp only [go_sem, Nat.reduceEqDiff, reduceIte, Nat.reduceAdd, Nat.reduceMul, Nat.reduceSub, Nat.reduceLT, Nat.reduceLeDiff, Nat.reduceBEq]))
    exact Aw_ret (ret0 (.inl rfl) (by simp only [go_sem, Nat.reduceEqDiff, reduceIte, Nat.reduceAdd, Nat.reduceMul, Nat.reduceSub, Nat.reduceLT, Nat.reduceLeDiff, Nat.reduceBEq]; rfl) (by rfl) rfl)
  | some e =>
    rw [h] at k1
    have k1 : AC Try.prog 78 [runT r, sT k, iT t] noHp 0 ⟨.tup [entT e, bT (!e.gone)], noHp, 0⟩ := k1
    cases c : e.gone
    · repeat (first | apply Aw_seq | apply Aw_block | apply Aw_skip | apply Aw_exit | refine Aw_condt rfl ?_ | refine Aw_condf rfl ?_ | (refine qr ?_; simp only [go_sem, Nat.reduceEqDiff, reduceIte, Nat.reduceAdd, Nat.reduceMul, Nat.reduceSub, Nat.reduceLT, Nat.reduceLeDiff, Nat.reduceBEq, c]) | (refine qd (by kernel_rfl) (by kernel_rfl) ?_; simp only [go_sem, Nat.reduceEqDiff, reduceIte, Nat.reduceAdd, Nat.reduceMul, Nat.reduceSub, Nat.reduceLT, Nat.reduceLeDiff, Nat.reduceBEq, c]) | refine dk (by kernel_rfl) ?_ | (refine qp (k1) (by simp only [go_sem, Nat.reduceEqDiff, reduceIte, Nat.reduceAdd, Nat.reduceMul, Nat.reduceSub, Nat.reduceLT, Nat.reduceLeDiff, Nat.reduceBEq, c]; first | done | rfl) rfl (by simp only [go_sem, Nat.reduceLT]) rfl rfl ?_; simp only [go_sem, Nat.reduceEqDiff, reduceIte, Nat.reduceAdd, Nat.reduceMul, Nat.reduceSub, Nat.reduceLT, Nat.reduceLeDiff, Nat.reduceBEq, c]))
      exact Aw_ret (ret0 (.inl rfl) (by simp only [go_sem, Nat.reduceEqDiff, reduceIte, Nat.reduceAdd, Nat.reduceMul, Nat.reduceSub, Nat.reduceLT, Nat.reduceLeDiff, Nat.reduceBEq]; rfl) (by rfl) rfl)
    · repeat (first | apply Aw_seq | apply Aw_block | apply Aw_skip | apply Aw_exit | refine Aw_condt rfl ?_ | refine Aw_condf rfl ?_ | (refine qr ?_; simp only [go_sem, Nat.reduceEqDiff, reduceIte, Nat.reduceAdd, Nat.reduceMul, Nat.reduceSub, Nat.reduceLT, Nat.reduceLeDiff, Nat.reduceBEq, c]) | (refine qd (by kernel_rfl) (by kernel_rfl) ?_; simp only [go_sem, Nat.reduceEqDiff, reduceIte, Nat.reduceAdd, Nat.reduceMul, Nat.reduceSub, Nat.reduceLT, Nat.reduceLeDiff, Nat.reduceBEq, c]) | refine dk (by kernel_rfl) ?_ | (refine qp (k1) (by simp only [go_sem, Nat.reduceEqDiff, reduceIte, Nat.reduceAdd, Nat.reduceMul, Nat.reduceSub, Nat.reduceLT, Nat.reduceLeDiff, Nat.reduceBEq, c]; first | done | rfl) rfl (by simp only [go_sem, Nat.reduceLT]) rfl rfl ?_; simp only [go_sem, Nat.reduceEqDiff, reduceIte, Nat.reduceAdd, Nat.reduceMul, Nat.reduceSub, Nat.reduceLT, Nat.reduceLeDiff, Nat.reduceBEq, c]))
      exact Aw_ret (ret0 (.inl rfl) (by simp only [go_sem, Nat.reduceEqDiff, reduceIte, Nat.reduceAdd, Nat.reduceMul, Nat.reduceSub, Nat.reduceLT, Nat.reduceLeDiff, Nat.reduceBEq]; rfl) (by rfl) rfl)
end Go.Proofs.Ytcbhgglpgphimaa.Ab
namespace Go.Proofs.Ytcbhgglpgphimaa.Ab
set_option linter.deprecated false
set_option linter.unusedVariables false
set_option linter.unusedSimpArgs false
open Go Go.Proofs
set_option maxRecDepth 10000
set_option maxHeartbeats 8000000
set_option linter.unusedSimpArgs false
set_option linter.unusedVariables false
def okY (c : List Int) : Prop := big c.length ∧ ∀ x ∈ c, (Lit.int .u8 x).wf = true
theorem okY.byte {c : List Int} (h : okY c) : byteL (c.take 2000) := by
  refine ⟨by rw [List.length_take]; omega, fun x hx => ?_⟩
  have := h.2 x (List.mem_of_mem_take hx)
  simp only [Lit.wf, IntKind.min, IntKind.max, Bool.and_eq_true, decide_eq_true_eq] at this
  simp [IntKind.signed, IntKind.bits] at this
  omega
theorem rdBytes : RdB Try.prog 41 (fun r => [.rs 1 (r.map u8D)]) okY := RdB.slice Try.underlying41 (by kernel_rfl) (RdB.int Try.underlying5)
def gEnt : Ent := ⟨zs, 0, true, 0⟩
theorem law_PastGet (c : List Int) (ho : okY c) : AC Try.prog 5 [bytesT c] noHp 0 ⟨.t (bT true), noHp, 0⟩ := by
  refine AC_of Try.func5 rfl Try.ntmps5 Try.results5 (by kernel_rfl) rfl ?_
  simp only [List.zipIdx, List.map, Nat.zero_add, Nat.reduceAdd]
  by_cases hc : c.length ≤ 1048576
  case neg =>
    have g0 : decide ((1048576 : Int) < (c.length : Int)) = true := decide_eq_true (by omega)
    repeat (first | apply Aw_seq | apply Aw_block | apply Aw_skip | apply Aw_exit | refine Aw_condt rfl ?_ | refine Aw_condf rfl ?_ | (refine qr ?_; simp only [go_sem, Nat.reduceEqDiff, reduceIte, Nat.reduceAdd, Nat.reduceMul, Nat.reduceSub, Nat.reduceLT, Nat.reduceLeDiff, Nat.reduceBEq, g0]) | (refine qd (by kernel_rfl) (by kernel_rfl) ?_; simp only [go_sem, Nat.reduceEqDiff, reduceIte, Nat.reduceAdd, Nat.reduceMul, Nat.reduceSub, Nat.reduceLT, Nat.reduceLeDiff, Nat.reduceBEq, g0]) | refine dk (by kernel_rfl) ?_)
    exact Aw_ret (ret0 (.inl rfl) (by simp only [go_sem, Nat.reduceEqDiff, reduceIte, Nat.reduceAdd, Nat.reduceMul, Nat.reduceSub, Nat.reduceLT, Nat.reduceLeDiff, Nat.reduceBEq]; rfl) (by rfl) rfl)
  have g0 : decide ((1048576 : Int) < (c.length : Int)) = false := decide_eq_false (by omega)
  have hb := ho.byte
  have k0 := drawPastGet_ac c (by omega) hb
  obtain ⟨l1, l2⟩ := allV_fin hb (p := 0) (by omega)
  obtain ⟨r, hr⟩ : ∃ r, r = drL (c.take 2000) := ⟨_, rfl⟩
  obtain ⟨k, hk⟩ : ∃ k, k = (drK (c.take 2000)).1 := ⟨_, rfl⟩
  obtain ⟨t, ht⟩ : ∃ t : Int, t = (drT (c.take 2000) : Nat) := ⟨_, rfl⟩
  rw [← hr, ← hk, ← ht] at k0
  have hl : r.length ≤ 40 := by rw [hr]; exact l1
  have k1 := spastGet_ac r k t (by omega)
  have k2 := pastGet_ac r k t (by omega)
  repeat (first | apply Aw_seq | apply Aw_block | apply Aw_skip | apply Aw_exit | refine Aw_condt rfl ?_ | refine Aw_condf rfl ?_ | (refine qr ?_; simp only [go_sem, Nat.reduceEqDiff, reduceIte, Nat.reduceAdd, Nat.reduceMul, Nat.reduceSub, Nat.reduceLT, Nat.reduceLeDiff, Nat.reduceBEq, g0, iref, bref]) | (refine qd (by kernel_rfl) (by kernel_rfl) ?_; simp only [go_sem, Nat.reduceEqDiff, reduceIte, Nat.reduceAdd, Nat.reduceMul, Nat.reduceSub, Nat.reduceLT, Nat.reduceLeDiff, Nat.reduceBEq, g0, iref, bref]) | refine dk (by kernel_rfl) ?_ | (refine qp (k0) (by simp only [go_sem, Nat.reduceEqDiff, reduceIte, Nat.reduceAdd, Nat.reduceMul, Nat.reduceSub, Nat.reduceLT, Nat.reduceLeDiff, Nat.reduceBEq, g0, iref, bref]; first | done | rfl) rfl (by simp only [go_sem, Nat.reduceLT]) rfl rfl ?_; simp only [go_sem, Nat.reduceEqDiff, reduceIte, Nat.reduceAdd, Nat.reduceMul, Nat.reduceSub, Nat.reduceLT, Nat.reduceLeDiff, Nat.reduceBEq, g0, iref, bref]) | (refine qp (k1) (by simp only [go_sem, Nat.reduceEqDiff, reduceIte, Nat.reduceAdd, Nat.reduceMul, Nat.reduceSub, Nat.reduceLT, Nat.reduceLeDiff, Nat.reduceBEq, g0, iref, bref]; first | done | rfl) rfl (by simp only [go_sem, Nat.reduceLT]) rfl rfl ?_; simp only [go_sem, Nat.reduceEqDiff, reduceIte, Nat.reduceAdd, Nat.reduceMul, Nat.reduceSub, Nat.reduceLT, Nat.reduceLeDiff, Nat.reduceBEq, g0, iref, bref]) | (refine qp (k2) (by simp only [go_sem, Nat.reduceEqDiff, reduceIte, Nat.reduceAdd, Nat.reduceMul, Nat.reduceSub, Nat.reduceLT, Nat.reduceLeDiff, Nat.reduceBEq, g0, iref, bref]; first | done | rfl) rfl (by simp only [go_sem, Nat.reduceLT]) rfl rfl ?_; simp only [go_sem, Nat.reduceEqDiff, reduceIte, Nat.reduceAdd, Nat.reduceMul, Nat.reduceSub, Nat.reduceLT, Nat.reduceLeDiff, Nat.reduceBEq, g0, iref, bref]))
  refine Aw.rw (rwL (l' := [(11, .t (iT (0 : Nat))), (10, .t (.c (.ph 0 0 0))), (9, .t (bT (pgM r k t).2)), (8, .t (iT (pgM r k t).1)), (5, .t (iT t)), (4, .t (sT k)), (3, .t (runT r))]) (os := [some (enO ((upToM r k t 0).getD gEnt))]) (M := [37]) (n' := 1) (by repeat (first | exact trivial | refine ⟨rfl, rfl, ?_⟩)) (by rfl) (by simp only [go_sem, Nat.reduceEqDiff, reduceIte, Nat.reduceAdd, Nat.reduceMul, Nat.reduceSub, Nat.reduceLT, Nat.reduceLeDiff, Nat.reduceBEq, upToM_0, gEnt]; first | done | rfl) (by decide) (by intro m hm; first | omega | (rcases m with _ | _ | _ | _ | m <;> first | exact ⟨by decide, rfl⟩ | omega))) ?_
  refine Aw_loop_rw (ι := { n : Nat // n ≤ r.length }) (fun q => S [(11, .t (iT (q.1 : Nat))), (10, .t (.c (.ph 0 0 0))), (9, .t (bT (pgM r k t).2)), (8, .t (iT (pgM r k t).1)), (5, .t (iT t)), (4, .t (sT k)), (3, .t (runT r))] (hpL [some (enO ((upToM r k t q.1).getD gEnt))]) 1) (fun q => r.length - q.1) ⟨0, Nat.zero_le _⟩ ?_
  rintro ⟨i, hi⟩
  dsimp only
  by_cases hlt : i < r.length
  · have g1 : (i : Int) < (r.length : Int) := by omega
    have w1 := wrap_succ hlt (by omega)
    obtain ⟨e, hx⟩ : ∃ e, r[i]? = some e := ⟨_, List.getElem?_eq_getElem hlt⟩
    have e1 := upToM_succ (k := k) (t := t) hx
    cases c1 : decide (e.key = k)
    · rw [if_neg (by simp [hit, c1])] at e1
      repeat (first | apply Aw_seq | apply Aw_block | apply Aw_skip | apply Aw_exit | refine Aw_condt rfl ?_ | refine Aw_condf rfl ?_ | (refine qr ?_; simp only [go_sem, Nat.reduceEqDiff, reduceIte, Nat.reduceAdd, Nat.reduceMul, Nat.reduceSub, Nat.reduceLT, Nat.reduceLeDiff, Nat.reduceBEq, g1, hx, c1, w1]) | (refine qd (by kernel_rfl) (by kernel_rfl) ?_; simp only [go_sem, Nat.reduceEqDiff, reduceIte, Nat.reduceAdd, Nat.reduceMul, Nat.reduceSub, Nat.reduceLT, Nat.reduceLeDiff, Nat.reduceBEq, g1, hx, c1, w1]) | refine dk (by kernel_rfl) ?_)
      refine ⟨⟨i + 1, hlt⟩, [0], ?_, rwL (by repeat (first | exact trivial | refine ⟨rfl, rfl, ?_⟩)) (by rfl) (by simp only [go_sem, Nat.reduceEqDiff, reduceIte, Nat.reduceAdd, Nat.reduceMul, Nat.reduceSub, Nat.reduceLT, Nat.reduceLeDiff, Nat.reduceBEq, e1]; first | done | rfl) (by decide) (by intro m hm; first | omega | (rcases m with _ | _ | _ | _ | m <;> first | exact ⟨by decide, rfl⟩ | omega))⟩
      show r.length - (i + 1) < r.length - i; omega
    · cases c2 : decide (e.time ≤ t)
      · rw [if_neg (by simp [hit, c2])] at e1
        repeat (first | apply Aw_seq | apply Aw_block | apply Aw_skip | apply Aw_exit | refine Aw_condt rfl ?_ | refine Aw_condf rfl ?_ | (refine qr ?_; simp only [go_sem, Nat.reduceEqDiff, reduceIte, Nat.reduceAdd, Nat.reduceMul, Nat.reduceSub, Nat.reduceLT, Nat.reduceLeDiff, Nat.reduceBEq, g1, hx, c1, c2, w1]) | (refine qd (by kernel_rfl) (by kernel_rfl) ?_; simp only [go_sem, Nat.reduceEqDiff, reduceIte, Nat.reduceAdd, Nat.reduceMul, Nat.reduceSub, Nat.reduceLT, Nat.reduceLeDiff, Nat.reduceBEq, g1, hx, c1, c2, w1]) | refine dk (by kernel_rfl) ?_)
        refine ⟨⟨i + 1, hlt⟩, [0], ?_, rwL (by repeat (first | exact trivial | refine ⟨rfl, rfl, ?_⟩)) (by rfl) (by simp only [go_sem, Nat.reduceEqDiff, reduceIte, Nat.reduceAdd, Nat.reduceMul, Nat.reduceSub, Nat.reduceLT, Nat.reduceLeDiff, Nat.reduceBEq, e1]; first | done | rfl) (by decide) (by intro m hm; first | omega | (rcases m with _ | _ | _ | _ | m <;> first | exact ⟨by decide, rfl⟩ | omega))⟩
        show r.length - (i + 1) < r.length - i; omega
      · rw [if_pos (by simp [hit, c1, c2])] at e1
        have e2 : (upToM r k t (i + 1)).getD gEnt = e := by rw [e1]; rfl
        repeat (first | apply Aw_seq | apply Aw_block | apply Aw_skip | apply Aw_exit | refine Aw_condt rfl ?_ | refine Aw_condf rfl ?_ | (refine qr ?_; simp only [go_sem, Nat.reduceEqDiff, reduceIte, Nat.reduceAdd, Nat.reduceMul, Nat.reduceSub, Nat.reduceLT, Nat.reduceLeDiff, Nat.reduceBEq, g1, hx, c1, c2, w1]) | (refine qd (by kernel_rfl) (by kernel_rfl) ?_; simp only [go_sem, Nat.reduceEqDiff, reduceIte, Nat.reduceAdd, Nat.reduceMul, Nat.reduceSub, Nat.reduceLT, Nat.reduceLeDiff, Nat.reduceBEq, g1, hx, c1, c2, w1]) | refine dk (by kernel_rfl) ?_)
        refine ⟨⟨i + 1, hlt⟩, [0], ?_, rwL (by repeat (first | exact trivial | refine ⟨rfl, rfl, ?_⟩)) (by rfl) (by simp only [go_sem, Nat.reduceEqDiff, reduceIte, Nat.reduceAdd, Nat.reduceMul, Nat.reduceSub, Nat.reduceLT, Nat.reduceLeDiff, Nat.reduceBEq, e2]; first | done | rfl) (by decide) (by intro m hm; first | omega | (rcases m with _ | _ | _ | _ | m <;> first | exact ⟨by decide, rfl⟩ | omega))⟩
        show r.length - (i + 1) < r.length - i; omega
  · have g1 : ¬ (i : Int) < (r.length : Int) := by omega
    obtain rfl : i = r.length := by omega
    have eL : upToM r k t r.length = lastM r k t := rfl
    rw [eL]
    unfold pgM
    cases h : lastM r k t with
    | none =>
      have gE : gEnt.gone = true := rfl
      dsimp only [Option.getD]
      repeat (first | apply Aw_seq | apply Aw_block | apply Aw_skip | apply Aw_exit | refine Aw_condt rfl ?_ | refine Aw_condf rfl ?_ | (refine qr ?_; simp only [go_sem, Nat.reduceEqDiff, reduceIte, Nat.reduceAdd, Nat.reduceMul, Nat.reduceSub, Nat.reduceLT, Nat.reduceLeDiff, Nat.reduceBEq, g1, gE]) | (refine qd (by kernel_rfl) (by kernel_rfl) ?_; simp only [go_sem, Nat.reduceEqDiff, reduceIte, Nat.reduceAdd, Nat.reduceMul, Nat.reduceSub, Nat.reduceLT, Nat.reduceLeDiff, Nat.reduceBEq, g1, gE]) | refine dk (by kernel_rfl) ?_)
      exact Aw_ret (ret0 (.inl rfl) (by simp only [go_sem, Nat.reduceEqDiff, reduceIte, Nat.reduceAdd, Nat.reduceMul, Nat.reduceSub, Nat.reduceLT, Nat.reduceLeDiff, Nat.reduceBEq]; rfl) (by rfl) rfl)
    | some e =>
      dsimp only [Option.getD]
      cases cg : e.gone
      · simp only [Bool.false_eq_true, if_false]
        repeat (first | apply Aw_seq | apply Aw_block | apply Aw_skip | apply Aw_exit | refine Aw_condt rfl ?_ | refine Aw_condf rfl ?_ | (refine qr ?_; simp only [go_sem, Nat.reduceEqDiff, reduceIte, Nat.reduceAdd, Nat.reduceMul, Nat.reduceSub, Nat.reduceLT, Nat.reduceLeDiff, Nat.reduceBEq, g1, cg, iref]) | (refine qd (by kernel_rfl) (by kernel_rfl) ?_; simp only [go_sem, Nat.reduceEqDiff, reduceIte, Nat.reduceAdd, Nat.reduceMul, Nat.reduceSub, Nat.reduceLT, Nat.reduceLeDiff, Nat.reduceBEq, g1, cg, iref]) | refine dk (by kernel_rfl) ?_)
        exact Aw_ret (ret0 (.inl rfl) (by simp only [go_sem, Nat.reduceEqDiff, reduceIte, Nat.reduceAdd, Nat.reduceMul, Nat.reduceSub, Nat.reduceLT, Nat.reduceLeDiff, Nat.reduceBEq]; rfl) (by rfl) rfl)
      · simp only [if_true]
        repeat (first | apply Aw_seq | apply Aw_block | apply Aw_skip | apply Aw_exit | refine Aw_condt rfl ?_ | refine Aw_condf rfl ?_ | (refine qr ?_; simp only [go_sem, Nat.reduceEqDiff, reduceIte, Nat.reduceAdd, Nat.reduceMul, Nat.reduceSub, Nat.reduceLT, Nat.reduceLeDiff, Nat.reduceBEq, g1, cg]) | (refine qd (by kernel_rfl) (by kernel_rfl) ?_; simp only [go_sem, Nat.reduceEqDiff, reduceIte, Nat.reduceAdd, Nat.reduceMul, Nat.reduceSub, Nat.reduceLT, Nat.reduceLeDiff, Nat.reduceBEq, g1, cg]) | refine dk (by kernel_rfl) ?_)
        exact Aw_ret (ret0 (.inl rfl) (by simp only [go_sem, Nat.reduceEqDiff, reduceIte, Nat.reduceAdd, Nat.reduceMul, Nat.reduceSub, Nat.reduceLT, Nat.reduceLeDiff, Nat.reduceBEq]; rfl) (by rfl) rfl)
end Go.Proofs.Ytcbhgglpgphimaa.Ab
namespace Go.Proofs.Ytcbhgglpgphimaa.Ab
set_option linter.deprecated false
set_option linter.unusedVariables false
set_option linter.unusedSimpArgs false
open Go Go.Proofs
set_option maxRecDepth 10000
set_option maxHeartbeats 8000000
set_option linter.unusedSimpArgs false
set_option linter.unusedVariables false
theorem lastM_app (r : List Ent) (e : Ent) (k : ByteArray) (t : Int) (h : hit k t e = true) : lastM (r ++ [e]) k t = some e := by
  have hx : (r ++ [e])[r.length]? = some e := by simp
  have := upToM_succ (k := k) (t := t) hx
  rw [if_pos h] at this
  unfold lastM
  rw [List.length_append]
  exact this
theorem law_PastTake (c : List Int) (ho : okY c) : AC Try.prog 6 [bytesT c] noHp 0 ⟨.t (bT true), noHp, 0⟩ := by
  refine AC_of Try.func6 rfl Try.ntmps6 Try.results6 (by kernel_rfl) rfl ?_
  simp only [List.zipIdx, List.map, Nat.zero_add, Nat.reduceAdd]
  by_cases hc : c.length ≤ 1048576
  case neg =>
    have g0 : decide ((1048576 : Int) < (c.length : Int)) = true := decide_eq_true (by omega)
    repeat (first | apply Aw_seq | apply Aw_block | apply Aw_skip | apply Aw_exit | refine Aw_condt rfl ?_ | refine Aw_condf rfl ?_ | (refine qr ?_; simp only [go_sem, Nat.reduceEqDiff, reduceIte, Nat.reduceAdd, Nat.reduceMul, Nat.reduceSub, Nat.reduceLT, Nat.reduceLeDiff, Nat.reduceBEq, g0]) | (refine qd (by kernel_rfl) (by kernel_rfl) ?_; simp only [go_sem, Nat.reduceEqDiff, reduceIte, Nat.reduceAdd, Nat.reduceMul, Nat.reduceSub, Nat.reduceLT, Nat.reduceLeDiff, Nat.reduceBEq, g0]) | refine dk (by kernel_rfl) ?_)
    exact Aw_ret (ret0 (.inl rfl) (by simp only [go_sem, Nat.reduceEqDiff, reduceIte, Nat.reduceAdd, Nat.reduceMul, Nat.reduceSub, Nat.reduceLT, Nat.reduceLeDiff, Nat.reduceBEq]; rfl) (by rfl) rfl)
  have g0 : decide ((1048576 : Int) < (c.length : Int)) = false := decide_eq_false (by omega)
  have hb := ho.byte
  have k0 := drawPastGet_ac c (by omega) hb
  obtain ⟨l1, l2⟩ := allV_fin hb (p := 0) (by omega)
  obtain ⟨r, hr⟩ : ∃ r, r = drL (c.take 2000) := ⟨_, rfl⟩
  obtain ⟨k, hk⟩ : ∃ k, k = (drK (c.take 2000)).1 := ⟨_, rfl⟩
  obtain ⟨t, ht⟩ : ∃ t : Int, t = (drT (c.take 2000) : Nat) := ⟨_, rfl⟩
  rw [← hr, ← hk, ← ht] at k0
  have hl : r.length ≤ 40 := by rw [hr]; exact l1
  have k1 := spastGet_ac r k t (by omega)
  have k2 := pastGet_ac r k t (by omega)
  have k3 := (pastGet_ac (r ++ [⟨k, 0, true, t⟩]) k t (by simp; omega)).toL0
  have k4 := (pastGet_ac (r ++ [⟨k, 9, false, t⟩]) k t (by simp; omega)).toL0
  have e3 : pgM (r ++ [⟨k, 0, true, t⟩]) k t = (0, false) := by unfold pgM; rw [lastM_app _ _ _ _ (by simp [hit])]; rfl
  have e4 : pgM (r ++ [⟨k, 9, false, t⟩]) k t = (9, true) := by unfold pgM; rw [lastM_app _ _ _ _ (by simp [hit])]; rfl
  rw [e3] at k3
  rw [e4] at k4
  simp only [runT, List.map_append, List.map_cons, List.map_nil, entD] at k3 k4
  have q1 : r.length * 40 ≤ 140737488355328 := by omega
  have q2 : (r.length + 1) * 40 ≤ 140737488355328 := by omega
  repeat (first | apply Aw_seq | apply Aw_block | apply Aw_skip | apply Aw_exit | refine Aw_condt rfl ?_ | refine Aw_condf rfl ?_ | (refine qr ?_; simp only [go_sem, Nat.reduceEqDiff, reduceIte, Nat.reduceAdd, Nat.reduceMul, Nat.reduceSub, Nat.reduceLT, Nat.reduceLeDiff, Nat.reduceBEq, g0, iref, bref, q1, q2]) | (refine qd (by kernel_rfl) (by kernel_rfl) ?_; simp only [go_sem, Nat.reduceEqDiff, reduceIte, Nat.reduceAdd, Nat.reduceMul, Nat.reduceSub, Nat.reduceLT, Nat.reduceLeDiff, Nat.reduceBEq, g0, iref, bref, q1, q2]) | refine dk (by kernel_rfl) ?_ | (refine qp (k0) (by simp only [go_sem, Nat.reduceEqDiff, reduceIte, Nat.reduceAdd, Nat.reduceMul, Nat.reduceSub, Nat.reduceLT, Nat.reduceLeDiff, Nat.reduceBEq, g0, iref, bref, q1, q2]; first | done | rfl) rfl (by simp only [go_sem, Nat.reduceLT]) rfl rfl ?_; simp only [go_sem, Nat.reduceEqDiff, reduceIte, Nat.reduceAdd, Nat.reduceMul, Nat.reduceSub, Nat.reduceLT, Nat.reduceLeDiff, Nat.reduceBEq, g0, iref, bref, q1, q2]) | (refine qp (k1) (by simp only [go_sem, Nat.reduceEqDiff, reduceIte, Nat.reduceAdd, Nat.reduceMul, Nat.reduceSub, Nat.reduceLT, Nat.reduceLeDiff, Nat.reduceBEq, g0, iref, bref, q1, q2]; first | done | rfl) rfl (by simp only [go_sem, Nat.reduceLT]) rfl rfl ?_; simp only [go_sem, Nat.reduceEqDiff, reduceIte, Nat.reduceAdd, Nat.reduceMul, Nat.reduceSub, Nat.reduceLT, Nat.reduceLeDiff, Nat.reduceBEq, g0, iref, bref, q1, q2]) | (refine qp (k2) (by simp only [go_sem, Nat.reduceEqDiff, reduceIte, Nat.reduceAdd, Nat.reduceMul, Nat.reduceSub, Nat.reduceLT, Nat.reduceLeDiff, Nat.reduceBEq, g0, iref, bref, q1, q2]; first | done | rfl) rfl (by simp only [go_sem, Nat.reduceLT]) rfl rfl ?_; simp only [go_sem, Nat.reduceEqDiff, reduceIte, Nat.reduceAdd, Nat.reduceMul, Nat.reduceSub, Nat.reduceLT, Nat.reduceLeDiff, Nat.reduceBEq, g0, iref, bref, q1, q2]) | (refine qx (call_N (L := [43]) (k3) rfl (.cons (arg_lend (m := 43) rfl (by simp)) (.cons (.nm rfl) (.cons (.nm rfl) (.nil)))) (.inr ⟨rfl, by simp⟩) rfl) (by simp only [go_sem, Nat.reduceEqDiff, reduceIte, Nat.reduceAdd, Nat.reduceMul, Nat.reduceSub, Nat.reduceLT, Nat.reduceLeDiff, Nat.reduceBEq, g0, iref, bref, q1, q2]; first | done | rfl) rfl (by simp only [go_sem, Nat.reduceLT]) ?_; simp only [go_sem, Nat.reduceEqDiff, reduceIte, Nat.reduceAdd, Nat.reduceMul, Nat.reduceSub, Nat.reduceLT, Nat.reduceLeDiff, Nat.reduceBEq, g0, iref, bref, q1, q2]) | (refine qx (call_N (L := [52]) (k4) rfl (.cons (arg_lend (m := 52) rfl (by simp)) (.cons (.nm rfl) (.cons (.nm rfl) (.nil)))) (.inr ⟨rfl, by simp⟩) rfl) (by simp only [go_sem, Nat.reduceEqDiff, reduceIte, Nat.reduceAdd, Nat.reduceMul, Nat.reduceSub, Nat.reduceLT, Nat.reduceLeDiff, Nat.reduceBEq, g0, iref, bref, q1, q2]; first | done | rfl) rfl (by simp only [go_sem, Nat.reduceLT]) ?_; simp only [go_sem, Nat.reduceEqDiff, reduceIte, Nat.reduceAdd, Nat.reduceMul, Nat.reduceSub, Nat.reduceLT, Nat.reduceLeDiff, Nat.reduceBEq, g0, iref, bref, q1, q2]))
  exact Aw_ret (ret0 (.inl rfl) (by simp only [go_sem, Nat.reduceEqDiff, reduceIte, Nat.reduceAdd, Nat.reduceMul, Nat.reduceSub, Nat.reduceLT, Nat.reduceLeDiff, Nat.reduceBEq]; rfl) (by rfl) rfl)
end Go.Proofs.Ytcbhgglpgphimaa.Ab
