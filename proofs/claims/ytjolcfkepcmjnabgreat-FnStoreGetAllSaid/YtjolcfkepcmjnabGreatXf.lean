/-
  Contracts: what is found in a store, and how many sieves may have a key, the program's. No condition.
  Contracts: what a store has of a key, how many sieves may have it, the program's. No condition.
  Contracts: what a store has of a key, how many sieves may have it, the reference's. No condition.
  Plain law: a sieve may have each of its keys; with all letters kept it has no other one. No condition.
  Plain law: the levels of a store that is one are runs, each newer than those below. No condition.
  Whatever argument of the seat's kinds can be read as data is plain data of the machine's: lemmas, kind by kind (whole numbers, bools, strings, slices, structs). No condition.
  Contract: the law of what is found gives true, whatever the code. No condition.
-/
import Derived.Test.YtjolcfkepcmjnabGreatXe
import Derived.Test.YtjolcfkepcmjnabGreatXc
import Derived.Deep.Slices
import Derived.ChangeArms
import Derived.DataReads
import Derived.Below
namespace Go.Proofs.YtjolcfkepcmjnabGreat.Ab
open Nat (reduceEqDiff reduceAdd reduceMul reduceSub reduceLT reduceLeDiff)
set_option linter.deprecated false
set_option linter.unusedVariables false
set_option linter.unusedSimpArgs false
open Go Go.Proofs
set_option maxRecDepth 10000
set_option maxHeartbeats 8000000
/-- A store that is one, by its levels and sieves. -/
structure VSt (s : Sto) : Prop where
  ll : s.levels.length = 3
  sl : s.sieves.length = 3
  sv : ∀ (i : Nat) (r : List Ent) (x : Sve), s.levels[i]? = some r → s.sieves[i]? = some x → SvIs s.keep.toNat (keysM r) x ∧ sieveM (keysM r) s.keep = some x ∧ runOk r = true
  kp : 0 ≤ s.keep ∧ s.keep ≤ 5
  tl : s.times.length ≤ 3
theorem vst_of {s : Sto} (h : storeS s = true) : VSt s := by
  unfold storeS headS at h
  simp only [Bool.and_eq_true] at h
  obtain ⟨⟨⟨⟨⟨⟨⟨h1, h2⟩, h3⟩, h4⟩, h5⟩, h6⟩, h7⟩, h8⟩ := h
  have hl := of_decide_eq_true h1
  have hsl := of_decide_eq_true h2
  unfold inB at h3
  simp only [Bool.and_eq_true, decide_eq_true_eq] at h3
  refine ⟨hl, hsl, fun i r x hr hx => ?_, h3, by unfold timesM at h5; rw [Bool.and_eq_true] at h5; exact of_decide_eq_true h5.2⟩
  have := allI_iff.1 h8 i (by have := (List.getElem?_eq_some_iff.1 hr).1; omega)
  unfold sAt at this
  rw [hr, hx] at this
  simp only [Bool.and_eq_true] at this
  have hlv := this.1.1
  unfold lvM at hlv
  simp only [Bool.and_eq_true] at hlv
  obtain ⟨⟨⟨hv1, _⟩, hv3⟩, hv4⟩ := hlv
  cases hs : sieveM (keysM r) s.keep with
  | none => rw [hs] at hv3; cases hv3
  | some y =>
    rw [hs] at hv4
    have : y = x := sveEq_iff.1 hv4
    subst this
    exact ⟨svIs_of hs, rfl, hv1⟩
def findL (keep : Nat) (k : ByteArray) (t : Int) : List (List Ent) → Option Ent
  | [] => none
  | r :: rs => match (if hasM keep (keysM r) k = true then atM r k t else none) with
    | some e => some e
    | none => findL keep k t rs
def findM (s : Sto) (k : ByteArray) (t : Int) : Option Ent := match atM s.top k t with
  | some e => some e
  | none => findL s.keep.toNat k t s.levels
structure FnI (s : Sto) (k : ByteArray) (t : Int) (R : Option Ent) where
  i : Nat
  hi : i ≤ 3
  hf : findL s.keep.toNat k t (s.levels.drop i) = R
theorem find_ac (s : Sto) (hs : SmSt s) (hv : VSt s) (k : ByteArray) (hk : smK k) (t : Int) : AC Tryz.prog 52 [stT s, sT k, iT t] noHp 0 ⟨.tup [entT ((findM s k t).getD zEnt), bT (findM s k t).isSome], noHp, 0⟩ := by
  have k0 := at_ac s.top k t hs.top
  refine AC_of Tryz.func52 rfl Tryz.ntmps52 Tryz.results52 (by kernel_rfl) rfl ?_
  simp only [List.zipIdx, List.map, Nat.zero_add, Nat.reduceAdd]
  cases c0 : atM s.top k t with
  | some e =>
    have hM : findM s k t = some e := by unfold findM; rw [c0]
    rw [hM]
    rw [c0] at k0
    repeat (first | apply Aw_seq | apply Aw_block | apply Aw_skip | apply Aw_exit | refine Aw_condt rfl ?_ | refine Aw_condf rfl ?_ | ((first | refine qr ?_ | refine qd (by kernel_rfl) (by kernel_rfl) ?_); simp only [go_sem, reduceEqDiff, reduceIte, reduceAdd, reduceMul, reduceSub, reduceLT, reduceLeDiff, Nat.reduceBEq]) | refine dk (by kernel_rfl) ?_ | (refine qp (k0) (by simp only [go_sem, reduceEqDiff, reduceIte, reduceAdd, reduceMul, reduceSub, reduceLT, reduceLeDiff, Nat.reduceBEq]; first | done | rfl) rfl (by simp only [go_sem, Nat.reduceLT]) rfl rfl ?_; simp only [go_sem, reduceEqDiff, reduceIte, reduceAdd, reduceMul, reduceSub, reduceLT, reduceLeDiff, Nat.reduceBEq]))
    exact Aw_ret (ret0 (.inl rfl) (by simp only [go_sem, reduceEqDiff, reduceIte, reduceAdd, reduceMul, reduceSub, reduceLT, reduceLeDiff, Nat.reduceBEq]; rfl) (by rfl) rfl)
  | none =>
    have hM : findM s k t = findL s.keep.toNat k t s.levels := by unfold findM; rw [c0]
    rw [hM]
    rw [c0] at k0
    obtain ⟨R, hR⟩ : ∃ R, R = findL s.keep.toNat k t s.levels := ⟨_, rfl⟩
    rw [← hR]
    have z0 : ((none : Option Ent).getD zEnt) = zEnt := rfl
    repeat (first | apply Aw_seq | apply Aw_block | apply Aw_skip | apply Aw_exit | refine Aw_condt rfl ?_ | refine Aw_condf rfl ?_ | ((first | refine qr ?_ | refine qd (by kernel_rfl) (by kernel_rfl) ?_); simp only [go_sem, reduceEqDiff, reduceIte, reduceAdd, reduceMul, reduceSub, reduceLT, reduceLeDiff, Nat.reduceBEq]) | refine dk (by kernel_rfl) ?_ | (refine qp (k0) (by simp only [go_sem, reduceEqDiff, reduceIte, reduceAdd, reduceMul, reduceSub, reduceLT, reduceLeDiff, Nat.reduceBEq]; first | done | rfl) rfl (by simp only [go_sem, Nat.reduceLT]) rfl rfl ?_; simp only [go_sem, reduceEqDiff, reduceIte, reduceAdd, reduceMul, reduceSub, reduceLT, reduceLeDiff, Nat.reduceBEq]))
    refine Aw.rw (rwL (l' := [(27, .t (iT (0 : Nat))), (26, .t (iT s.levels.length)), (25, .t (.c (.d (.rs 1 (s.levels.map lvD))))), (6, .t (.c (.ph 1 0 0))), (3, .t (.c (.ph 0 0 0))), (1, .t (sT k)), (2, .t (iT t))]) (os := [some (stO s), some (enO zEnt)]) (M := [0, 1]) (n' := 2) (by repeat (first | exact trivial | refine ⟨rfl, rfl, ?_⟩)) (by rfl) (by simp only [go_sem, reduceEqDiff, reduceIte, reduceAdd, reduceMul, reduceSub, reduceLT, reduceLeDiff, Nat.reduceBEq, zEnt]; first | done | rfl) (by decide) (by intro m hm; first | omega | (rcases m with _ | _ | _ | _ | _ | _ | m <;> first | exact ⟨by decide, rfl⟩ | omega))) ?_
    rw [hv.ll]
    refine Aw_loop_rw (ι := FnI s k t R) (fun q => S [(27, .t (iT (q.i : Nat))), (26, .t (iT (3 : Nat))), (25, .t (.c (.d (.rs 1 (s.levels.map lvD))))), (6, .t (.c (.ph 1 0 0))), (3, .t (.c (.ph 0 0 0))), (1, .t (sT k)), (2, .t (iT t))] (hpL [some (stO s), some (enO zEnt)]) 2) (fun q => 3 - q.i) ⟨0, by omega, hR.symm⟩ ?_
    clear hR hM
    rintro ⟨i, hi, hf⟩
    dsimp only
    by_cases hlt : i < 3
    · have g1 : decide ((i : Int) < ((3 : Nat) : Int)) = true := decide_eq_true (by omega)
      have w := wrap_succ hlt (by omega)
      obtain ⟨r, hr⟩ : ∃ r, s.levels[i]? = some r := ⟨_, List.getElem?_eq_getElem (by rw [hv.ll]; omega)⟩
      obtain ⟨x, hx⟩ : ∃ x, s.sieves[i]? = some x := ⟨_, List.getElem?_eq_getElem (by rw [hv.sl]; omega)⟩
      have hxl := (List.getElem?_eq_some_iff.1 hx).1
      have k1 := has_ac (hv.sv i r x hr hx).1 k hk
      have k2 := at_ac r k t (hs.lev r (List.mem_of_getElem? hr))
      rw [List.drop_eq_getElem_cons (by rw [hv.ll]; omega), show s.levels[i]'(by rw [hv.ll]; omega) = r from (List.getElem?_eq_some_iff.1 hr).2] at hf
      simp only [findL] at hf
      cases c1 : hasM s.keep.toNat (keysM r) k
      · rw [c1] at k1 hf
        simp only [Bool.false_eq_true, if_false] at hf
        repeat (first | apply Aw_seq | apply Aw_block | apply Aw_skip | apply Aw_exit | refine Aw_condt rfl ?_ | refine Aw_condf rfl ?_ | ((first | refine qr ?_ | refine qd (by kernel_rfl) (by kernel_rfl) ?_); simp only [go_sem, reduceEqDiff, reduceIte, reduceAdd, reduceMul, reduceSub, reduceLT, reduceLeDiff, Nat.reduceBEq, g1, w, hr, hx, hxl]) | refine dk (by kernel_rfl) ?_ | (refine qp (k1) (by simp only [go_sem, reduceEqDiff, reduceIte, reduceAdd, reduceMul, reduceSub, reduceLT, reduceLeDiff, Nat.reduceBEq, g1, w, hr, hx, hxl]; first | done | rfl) rfl (by simp only [go_sem, Nat.reduceLT]) rfl rfl ?_; simp only [go_sem, reduceEqDiff, reduceIte, reduceAdd, reduceMul, reduceSub, reduceLT, reduceLeDiff, Nat.reduceBEq, g1, w, hr, hx, hxl]))
        refine ⟨⟨i + 1, by omega, hf⟩, [0, 1], ?_, rwL (by repeat (first | exact trivial | refine ⟨rfl, rfl, ?_⟩)) (by rfl) (by simp only [go_sem, reduceEqDiff, reduceIte, reduceAdd, reduceMul, reduceSub, reduceLT, reduceLeDiff, Nat.reduceBEq, zEnt]; first | done | rfl) (by decide) (by intro m hm; first | omega | (rcases m with _ | _ | _ | _ | _ | _ | m <;> first | exact ⟨by decide, rfl⟩ | omega))⟩
        show 3 - (i + 1) < 3 - i; omega
      · rw [c1] at k1 hf
        simp only [if_true] at hf
        cases c2 : atM r k t with
        | some e =>
          rw [c2] at k2 hf
          simp only at hf
          subst hf
          repeat (first | apply Aw_seq | apply Aw_block | apply Aw_skip | apply Aw_exit | refine Aw_condt rfl ?_ | refine Aw_condf rfl ?_ | ((first | refine qr ?_ | refine qd (by kernel_rfl) (by kernel_rfl) ?_); simp only [go_sem, reduceEqDiff, reduceIte, reduceAdd, reduceMul, reduceSub, reduceLT, reduceLeDiff, Nat.reduceBEq, g1, w, hr, hx, hxl]) | refine dk (by kernel_rfl) ?_ | (refine qp (k1) (by simp only [go_sem, reduceEqDiff, reduceIte, reduceAdd, reduceMul, reduceSub, reduceLT, reduceLeDiff, Nat.reduceBEq, g1, w, hr, hx, hxl]; first | done | rfl) rfl (by simp only [go_sem, Nat.reduceLT]) rfl rfl ?_; simp only [go_sem, reduceEqDiff, reduceIte, reduceAdd, reduceMul, reduceSub, reduceLT, reduceLeDiff, Nat.reduceBEq, g1, w, hr, hx, hxl]) | (refine qp (k2) (by simp only [go_sem, reduceEqDiff, reduceIte, reduceAdd, reduceMul, reduceSub, reduceLT, reduceLeDiff, Nat.reduceBEq, g1, w, hr, hx, hxl]; first | done | rfl) rfl (by simp only [go_sem, Nat.reduceLT]) rfl rfl ?_; simp only [go_sem, reduceEqDiff, reduceIte, reduceAdd, reduceMul, reduceSub, reduceLT, reduceLeDiff, Nat.reduceBEq, g1, w, hr, hx, hxl]))
          exact Aw_ret (ret0 (.inl rfl) (by simp only [go_sem, reduceEqDiff, reduceIte, reduceAdd, reduceMul, reduceSub, reduceLT, reduceLeDiff, Nat.reduceBEq]; rfl) (by rfl) rfl)
        | none =>
          rw [c2] at k2 hf
          simp only at hf
          repeat (first | apply Aw_seq | apply Aw_block | apply Aw_skip | apply Aw_exit | refine Aw_condt rfl ?_ | refine Aw_condf rfl ?_ | ((first | refine qr ?_ | refine qd (by kernel_rfl) (by kernel_rfl) ?_); simp only [go_sem, reduceEqDiff, reduceIte, reduceAdd, reduceMul, reduceSub, reduceLT, reduceLeDiff, Nat.reduceBEq, g1, w, hr, hx, hxl]) | refine dk (by kernel_rfl) ?_ | (refine qp (k1) (by simp only [go_sem, reduceEqDiff, reduceIte, reduceAdd, reduceMul, reduceSub, reduceLT, reduceLeDiff, Nat.reduceBEq, g1, w, hr, hx, hxl]; first | done | rfl) rfl (by simp only [go_sem, Nat.reduceLT]) rfl rfl ?_; simp only [go_sem, reduceEqDiff, reduceIte, reduceAdd, reduceMul, reduceSub, reduceLT, reduceLeDiff, Nat.reduceBEq, g1, w, hr, hx, hxl]) | (refine qp (k2) (by simp only [go_sem, reduceEqDiff, reduceIte, reduceAdd, reduceMul, reduceSub, reduceLT, reduceLeDiff, Nat.reduceBEq, g1, w, hr, hx, hxl]; first | done | rfl) rfl (by simp only [go_sem, Nat.reduceLT]) rfl rfl ?_; simp only [go_sem, reduceEqDiff, reduceIte, reduceAdd, reduceMul, reduceSub, reduceLT, reduceLeDiff, Nat.reduceBEq, g1, w, hr, hx, hxl]))
          refine ⟨⟨i + 1, by omega, hf⟩, [0, 1], ?_, rwL (by repeat (first | exact trivial | refine ⟨rfl, rfl, ?_⟩)) (by rfl) (by simp only [go_sem, reduceEqDiff, reduceIte, reduceAdd, reduceMul, reduceSub, reduceLT, reduceLeDiff, Nat.reduceBEq, zEnt]; first | done | rfl) (by decide) (by intro m hm; first | omega | (rcases m with _ | _ | _ | _ | _ | _ | m <;> first | exact ⟨by decide, rfl⟩ | omega))⟩
          show 3 - (i + 1) < 3 - i; omega
    · have g1 : decide ((i : Int) < ((3 : Nat) : Int)) = false := decide_eq_false (by omega)
      rw [List.drop_of_length_le (by rw [hv.ll]; omega)] at hf
      simp only [findL] at hf
      subst hf
      repeat (first | apply Aw_seq | apply Aw_block | apply Aw_skip | apply Aw_exit | refine Aw_condt rfl ?_ | refine Aw_condf rfl ?_ | ((first | refine qr ?_ | refine qd (by kernel_rfl) (by kernel_rfl) ?_); simp only [go_sem, reduceEqDiff, reduceIte, reduceAdd, reduceMul, reduceSub, reduceLT, reduceLeDiff, Nat.reduceBEq, g1]) | refine dk (by kernel_rfl) ?_)
      exact Aw_ret (ret0 (.inl rfl) (by simp only [go_sem, reduceEqDiff, reduceIte, reduceAdd, reduceMul, reduceSub, reduceLT, reduceLeDiff, Nat.reduceBEq]; rfl) (by rfl) rfl)
def idxI (ts : List Int) (t : Int) : Int := match ts.findIdx? (fun x => decide (t = x)) with
  | some i => (i : Int)
  | none => -1
theorem index_ac (ts : List Int) (t : Int) (hl : ts.length ≤ 1000) : AC Tryz.prog 125 [intsT ts, iT t] noHp 0 ⟨.t (iT (idxI ts t)), noHp, 0⟩ := by
  refine AC_of Tryz.func125 rfl Tryz.ntmps125 Tryz.results125 (by kernel_rfl) rfl ?_
  simp only [List.zipIdx, List.map, Nat.zero_add, Nat.reduceAdd]
  repeat (first | apply Aw_seq | apply Aw_block | apply Aw_skip | apply Aw_exit | refine Aw_condt rfl ?_ | refine Aw_condf rfl ?_ | ((first | refine qr ?_ | refine qd (by kernel_rfl) (by kernel_rfl) ?_); simp only [go_sem, reduceEqDiff, reduceIte, reduceAdd, reduceMul, reduceSub, reduceLT, reduceLeDiff, Nat.reduceBEq]) | refine dk (by kernel_rfl) ?_)
  refine Aw.rw (rwL (l' := [(8, .t (iT (0 : Nat))), (7, .t (iT ts.length)), (0, .t (intsT ts)), (1, .t (iT t))]) (os := []) (M := []) (n' := 0) (by repeat (first | exact trivial | refine ⟨rfl, rfl, ?_⟩)) (by rfl) (by simp only [go_sem, reduceEqDiff, reduceIte, reduceAdd, reduceMul, reduceSub, reduceLT, reduceLeDiff, Nat.reduceBEq]; first | done | rfl) (by decide) (by intro m hm; first | omega | (rcases m with _ | _ | _ | _ | _ | _ | m <;> first | exact ⟨by decide, rfl⟩ | omega))) ?_
  refine Aw_loop_rw (ι := { j : Nat // j ≤ ts.length ∧ ∀ q, q < j → ∀ y, ts[q]? = some y → decide (t = y) = false }) (fun q => S [(8, .t (iT (q.1 : Nat))), (7, .t (iT ts.length)), (0, .t (intsT ts)), (1, .t (iT t))] (hpL []) 0) (fun q => ts.length - q.1) ⟨0, Nat.zero_le _, fun j hj => absurd hj (by omega)⟩ ?_
  rintro ⟨j, hj, hq⟩
  dsimp only
  by_cases hjl : j < ts.length
  · have g1 : decide ((j : Int) < (ts.length : Int)) = true := decide_eq_true (by omega)
    have g2 := wrap_succ hjl (by omega)
    obtain ⟨y, hy⟩ : ∃ e, ts[j]? = some e := ⟨_, List.getElem?_eq_getElem hjl⟩
    cases c1 : decide (t = y)
    · have nx : ∀ q, q < j + 1 → ∀ z, ts[q]? = some z → decide (t = z) = false := fun q hqj z hz => by
        rcases Nat.lt_succ_iff_lt_or_eq.1 hqj with h | rfl
        · exact hq q h z hz
        · rw [hy] at hz; rw [← Option.some.inj hz]; exact c1
      repeat (first | apply Aw_seq | apply Aw_block | apply Aw_skip | apply Aw_exit | refine Aw_condt rfl ?_ | refine Aw_condf rfl ?_ | ((first | refine qr ?_ | refine qd (by kernel_rfl) (by kernel_rfl) ?_); simp only [go_sem, reduceEqDiff, reduceIte, reduceAdd, reduceMul, reduceSub, reduceLT, reduceLeDiff, Nat.reduceBEq, g1, hy, g2, c1]) | refine dk (by kernel_rfl) ?_)
      refine ⟨⟨j + 1, by omega, nx⟩, [], ?_, rwL (by repeat (first | exact trivial | refine ⟨rfl, rfl, ?_⟩)) (by rfl) (by simp only [go_sem, reduceEqDiff, reduceIte, reduceAdd, reduceMul, reduceSub, reduceLT, reduceLeDiff, Nat.reduceBEq]; first | done | rfl) (by decide) (by intro m hm; first | omega | (rcases m with _ | _ | _ | _ | _ | _ | m <;> first | exact ⟨by decide, rfl⟩ | omega))⟩
      show ts.length - (j + 1) < ts.length - j; omega
    · have e : idxI ts t = (j : Nat) := by
        have : ts.findIdx? (fun x => decide (t = x)) = some j := by
          rw [List.findIdx?_eq_some_iff_getElem]
          refine ⟨hjl, ?_, fun q hqj => ?_⟩
          · rw [List.getElem?_eq_getElem hjl] at hy; rw [Option.some.inj hy]; exact c1
          · have := hq q hqj _ (List.getElem?_eq_getElem (by omega)); simp only [this]; decide
        unfold idxI; rw [this]
      rw [e]
      repeat (first | apply Aw_seq | apply Aw_block | apply Aw_skip | apply Aw_exit | refine Aw_condt rfl ?_ | refine Aw_condf rfl ?_ | ((first | refine qr ?_ | refine qd (by kernel_rfl) (by kernel_rfl) ?_); simp only [go_sem, reduceEqDiff, reduceIte, reduceAdd, reduceMul, reduceSub, reduceLT, reduceLeDiff, Nat.reduceBEq, g1, hy, g2, c1]) | refine dk (by kernel_rfl) ?_)
      exact Aw_ret (ret0 (.inl rfl) (by simp only [go_sem, reduceEqDiff, reduceIte, reduceAdd, reduceMul, reduceSub, reduceLT, reduceLeDiff, Nat.reduceBEq]; rfl) (by rfl) rfl)
  · have g1 : decide ((j : Int) < (ts.length : Int)) = false := decide_eq_false (by omega)
    have e : idxI ts t = -1 := by
      have : ts.findIdx? (fun x => decide (t = x)) = none := by
        rw [List.findIdx?_eq_none_iff]
        intro x hx
        obtain ⟨i, hi⟩ := List.mem_iff_getElem?.1 hx
        exact hq i (by have := (List.getElem?_eq_some_iff.1 hi).1; omega) x hi
      unfold idxI; rw [this]
    rw [e]
    repeat (first | apply Aw_seq | apply Aw_block | apply Aw_skip | apply Aw_exit | refine Aw_condt rfl ?_ | refine Aw_condf rfl ?_ | ((first | refine qr ?_ | refine qd (by kernel_rfl) (by kernel_rfl) ?_); simp only [go_sem, reduceEqDiff, reduceIte, reduceAdd, reduceMul, reduceSub, reduceLT, reduceLeDiff, Nat.reduceBEq, g1]) | refine dk (by kernel_rfl) ?_)
    exact Aw_ret (ret0 (.inl rfl) (by simp only [go_sem, reduceEqDiff, reduceIte, reduceAdd, reduceMul, reduceSub, reduceLT, reduceLeDiff, Nat.reduceBEq]; rfl) (by rfl) rfl)
theorem contains_ac (ts : List Int) (t : Int) (hl : ts.length ≤ 1000) : AC Tryz.prog 97 [intsT ts, iT t] noHp 0 ⟨.t (bT (ts.any fun x => decide (t = x))), noHp, 0⟩ := by
  have k := index_ac ts t hl
  have e : decide ((0 : Int) ≤ idxI ts t) = ts.any fun x => decide (t = x) := by
    unfold idxI
    cases h : ts.findIdx? (fun x => decide (t = x)) with
    | none =>
      rw [List.findIdx?_eq_none_iff] at h
      rw [show ts.any (fun x => decide (t = x)) = false from List.any_eq_false.2 fun x hx => by rw [h x hx]; simp]; rfl
    | some i =>
      rw [List.findIdx?_eq_some_iff_getElem] at h
      obtain ⟨h1, h2, _⟩ := h
      rw [show ts.any (fun x => decide (t = x)) = true from List.any_eq_true.2 ⟨_, List.getElem_mem h1, h2⟩]
      exact decide_eq_true (Int.natCast_nonneg i)
  rw [← e]
  refine AC_of Tryz.func97 rfl Tryz.ntmps97 Tryz.results97 (by kernel_rfl) rfl ?_
  simp only [List.zipIdx, List.map, Nat.zero_add, Nat.reduceAdd]
  repeat (first | apply Aw_seq | apply Aw_block | apply Aw_skip | apply Aw_exit | refine Aw_condt rfl ?_ | refine Aw_condf rfl ?_ | ((first | refine qr ?_ | refine qd (by kernel_rfl) (by kernel_rfl) ?_); simp only [go_sem, reduceEqDiff, reduceIte, reduceAdd, reduceMul, reduceSub, reduceLT, reduceLeDiff, Nat.reduceBEq]) | refine dk (by kernel_rfl) ?_ | (refine qp (k) (by simp only [go_sem, reduceEqDiff, reduceIte, reduceAdd, reduceMul, reduceSub, reduceLT, reduceLeDiff, Nat.reduceBEq]; first | done | rfl) rfl (by simp only [go_sem, Nat.reduceLT]) rfl rfl ?_; simp only [go_sem, reduceEqDiff, reduceIte, reduceAdd, reduceMul, reduceSub, reduceLT, reduceLeDiff, Nat.reduceBEq]))
  exact Aw_ret (ret0 (.inl rfl) (by simp only [go_sem, reduceEqDiff, reduceIte, reduceAdd, reduceMul, reduceSub, reduceLT, reduceLeDiff, Nat.reduceBEq]; rfl) (by rfl) rfl)
def knownM (s : Sto) (t : Int) : Bool := decide (t = s.time) || s.times.any fun x => decide (t = x)
theorem known_ac (s : Sto) (t : Int) (hl : s.times.length ≤ 1000) : AC Tryz.prog 51 [stT s, iT t] noHp 0 ⟨.t (bT (knownM s t)), noHp, 0⟩ := by
  have k := contains_ac s.times t hl
  unfold knownM
  refine AC_of Tryz.func51 rfl Tryz.ntmps51 Tryz.results51 (by kernel_rfl) rfl ?_
  simp only [List.zipIdx, List.map, Nat.zero_add, Nat.reduceAdd]
  cases c : decide (t = s.time)
  · rw [Bool.false_or]
    repeat (first | apply Aw_seq | apply Aw_block | apply Aw_skip | apply Aw_exit | refine Aw_condt rfl ?_ | refine Aw_condf rfl ?_ | ((first | refine qr ?_ | refine qd (by kernel_rfl) (by kernel_rfl) ?_); simp only [go_sem, reduceEqDiff, reduceIte, reduceAdd, reduceMul, reduceSub, reduceLT, reduceLeDiff, Nat.reduceBEq, c]) | refine dk (by kernel_rfl) ?_ | (refine qp (k) (by simp only [go_sem, reduceEqDiff, reduceIte, reduceAdd, reduceMul, reduceSub, reduceLT, reduceLeDiff, Nat.reduceBEq, c]; first | done | rfl) rfl (by simp only [go_sem, Nat.reduceLT]) rfl rfl ?_; simp only [go_sem, reduceEqDiff, reduceIte, reduceAdd, reduceMul, reduceSub, reduceLT, reduceLeDiff, Nat.reduceBEq, c]))
    exact Aw_ret (ret0 (.inl rfl) (by simp only [go_sem, reduceEqDiff, reduceIte, reduceAdd, reduceMul, reduceSub, reduceLT, reduceLeDiff, Nat.reduceBEq]; rfl) (by rfl) rfl)
  · repeat (first | apply Aw_seq | apply Aw_block | apply Aw_skip | apply Aw_exit | refine Aw_condt rfl ?_ | refine Aw_condf rfl ?_ | ((first | refine qr ?_ | refine qd (by kernel_rfl) (by kernel_rfl) ?_); simp only [go_sem, reduceEqDiff, reduceIte, reduceAdd, reduceMul, reduceSub, reduceLT, reduceLeDiff, Nat.reduceBEq, c]) | refine dk (by kernel_rfl) ?_)
    exact Aw_ret (ret0 (.inl rfl) (by simp only [go_sem, reduceEqDiff, reduceIte, reduceAdd, reduceMul, reduceSub, reduceLT, reduceLeDiff, Nat.reduceBEq]; rfl) (by rfl) rfl)
def ksO (k : ByteArray) : Obj := ⟨9, 1, false, [[.d (.s (.string k))]]⟩
@[go_sem] theorem r_ksO (k : ByteArray) : ksO k = ⟨9, 1, false, [[.d (.s (.string k))]]⟩ := rfl
theorem storeOkI_ac (s : Sto) (hs : SmSt s) : AC Tryz.prog 31 [stT s] noHp 0 ⟨.t (bT (storeS s)), noHp, 0⟩ := by
  have k := storeOk_ac s hs
  rw [store_eq] at k
  exact k
def getM (s : Sto) (k : ByteArray) (t : Int) : Int × Bool := if (storeS s && keyOk k && knownM s t) = true then ((findM s k t).getD zEnt |>.val, (findM s k t).isSome && !((findM s k t).getD zEnt).gone) else (0, false)
theorem storeGet_ac (s : Sto) (hs : SmSt s) (k : ByteArray) (hk : smK k) (t : Int) : AC Tryz.prog 18 [stT s, sT k, iT t] noHp 0 ⟨.tup [iT (getM s k t).1, bT (getM s k t).2], noHp, 0⟩ := by
  have k1 := storeOkI_ac s hs
  have k2 := keyOk_ac k hk
  unfold getM
  refine AC_of Tryz.func18 rfl Tryz.ntmps18 Tryz.results18 (by kernel_rfl) rfl ?_
  simp only [List.zipIdx, List.map, Nat.zero_add, Nat.reduceAdd]
  cases c1 : storeS s
  · rw [c1] at k1
    repeat (first | apply Aw_seq | apply Aw_block | apply Aw_skip | apply Aw_exit | refine Aw_condt rfl ?_ | refine Aw_condf rfl ?_ | ((first | refine qr ?_ | refine qd (by kernel_rfl) (by kernel_rfl) ?_); simp only [go_sem, reduceEqDiff, reduceIte, reduceAdd, reduceMul, reduceSub, reduceLT, reduceLeDiff, Nat.reduceBEq]) | refine dk (by kernel_rfl) ?_ | (refine qp (k1) (by simp only [go_sem, reduceEqDiff, reduceIte, reduceAdd, reduceMul, reduceSub, reduceLT, reduceLeDiff, Nat.reduceBEq]; first | done | rfl) rfl (by simp only [go_sem, Nat.reduceLT]) rfl rfl ?_; simp only [go_sem, reduceEqDiff, reduceIte, reduceAdd, reduceMul, reduceSub, reduceLT, reduceLeDiff, Nat.reduceBEq]))
    exact Aw_ret (ret0 (.inl rfl) (by simp only [go_sem, reduceEqDiff, reduceIte, reduceAdd, reduceMul, reduceSub, reduceLT, reduceLeDiff, Nat.reduceBEq]; rfl) (by rfl) rfl)
  · rw [c1] at k1
    have hv := vst_of c1
    have k3 := known_ac s t (by have := hv.tl; omega)
    have k4 := find_ac s hs hv k hk t
    cases c2 : keyOk k
    · rw [c2] at k2
      repeat (first | apply Aw_seq | apply Aw_block | apply Aw_skip | apply Aw_exit | refine Aw_condt rfl ?_ | refine Aw_condf rfl ?_ | ((first | refine qr ?_ | refine qd (by kernel_rfl) (by kernel_rfl) ?_); simp only [go_sem, reduceEqDiff, reduceIte, reduceAdd, reduceMul, reduceSub, reduceLT, reduceLeDiff, Nat.reduceBEq]) | refine dk (by kernel_rfl) ?_ | (refine qp (k1) (by simp only [go_sem, reduceEqDiff, reduceIte, reduceAdd, reduceMul, reduceSub, reduceLT, reduceLeDiff, Nat.reduceBEq]; first | done | rfl) rfl (by simp only [go_sem, Nat.reduceLT]) rfl rfl ?_; simp only [go_sem, reduceEqDiff, reduceIte, reduceAdd, reduceMul, reduceSub, reduceLT, reduceLeDiff, Nat.reduceBEq]) | (refine qp (k2) (by simp only [go_sem, reduceEqDiff, reduceIte, reduceAdd, reduceMul, reduceSub, reduceLT, reduceLeDiff, Nat.reduceBEq]; first | done | rfl) rfl (by simp only [go_sem, Nat.reduceLT]) rfl rfl ?_; simp only [go_sem, reduceEqDiff, reduceIte, reduceAdd, reduceMul, reduceSub, reduceLT, reduceLeDiff, Nat.reduceBEq]))
      exact Aw_ret (ret0 (.inl rfl) (by simp only [go_sem, reduceEqDiff, reduceIte, reduceAdd, reduceMul, reduceSub, reduceLT, reduceLeDiff, Nat.reduceBEq]; rfl) (by rfl) rfl)
    · rw [c2] at k2
      cases c3 : knownM s t
      · rw [c3] at k3
        repeat (first | apply Aw_seq | apply Aw_block | apply Aw_skip | apply Aw_exit | refine Aw_condt rfl ?_ | refine Aw_condf rfl ?_ | ((first | refine qr ?_ | refine qd (by kernel_rfl) (by kernel_rfl) ?_); simp only [go_sem, reduceEqDiff, reduceIte, reduceAdd, reduceMul, reduceSub, reduceLT, reduceLeDiff, Nat.reduceBEq]) | refine dk (by kernel_rfl) ?_ | (refine qp (k1) (by simp only [go_sem, reduceEqDiff, reduceIte, reduceAdd, reduceMul, reduceSub, reduceLT, reduceLeDiff, Nat.reduceBEq]; first | done | rfl) rfl (by simp only [go_sem, Nat.reduceLT]) rfl rfl ?_; simp only [go_sem, reduceEqDiff, reduceIte, reduceAdd, reduceMul, reduceSub, reduceLT, reduceLeDiff, Nat.reduceBEq]) | (refine qp (k2) (by simp only [go_sem, reduceEqDiff, reduceIte, reduceAdd, reduceMul, reduceSub, reduceLT, reduceLeDiff, Nat.reduceBEq]; first | done | rfl) rfl (by simp only [go_sem, Nat.reduceLT]) rfl rfl ?_; simp only [go_sem, reduceEqDiff, reduceIte, reduceAdd, reduceMul, reduceSub, reduceLT, reduceLeDiff, Nat.reduceBEq]) | (refine qp (k3) (by simp only [go_sem, reduceEqDiff, reduceIte, reduceAdd, reduceMul, reduceSub, reduceLT, reduceLeDiff, Nat.reduceBEq]; first | done | rfl) rfl (by simp only [go_sem, Nat.reduceLT]) rfl rfl ?_; simp only [go_sem, reduceEqDiff, reduceIte, reduceAdd, reduceMul, reduceSub, reduceLT, reduceLeDiff, Nat.reduceBEq]))
        exact Aw_ret (ret0 (.inl rfl) (by simp only [go_sem, reduceEqDiff, reduceIte, reduceAdd, reduceMul, reduceSub, reduceLT, reduceLeDiff, Nat.reduceBEq]; rfl) (by rfl) rfl)
      · rw [c3] at k3
        cases c4 : findM s k t with
        | none =>
          rw [c4] at k4
          have z0 : ((none : Option Ent).getD zEnt) = zEnt := rfl
          repeat (first | apply Aw_seq | apply Aw_block | apply Aw_skip | apply Aw_exit | refine Aw_condt rfl ?_ | refine Aw_condf rfl ?_ | ((first | refine qr ?_ | refine qd (by kernel_rfl) (by kernel_rfl) ?_); simp only [go_sem, reduceEqDiff, reduceIte, reduceAdd, reduceMul, reduceSub, reduceLT, reduceLeDiff, Nat.reduceBEq, z0]) | refine dk (by kernel_rfl) ?_ | (refine qp (k1) (by simp only [go_sem, reduceEqDiff, reduceIte, reduceAdd, reduceMul, reduceSub, reduceLT, reduceLeDiff, Nat.reduceBEq, z0]; first | done | rfl) rfl (by simp only [go_sem, Nat.reduceLT]) rfl rfl ?_; simp only [go_sem, reduceEqDiff, reduceIte, reduceAdd, reduceMul, reduceSub, reduceLT, reduceLeDiff, Nat.reduceBEq, z0]) | (refine qp (k2) (by simp only [go_sem, reduceEqDiff, reduceIte, reduceAdd, reduceMul, reduceSub, reduceLT, reduceLeDiff, Nat.reduceBEq, z0]; first | done | rfl) rfl (by simp only [go_sem, Nat.reduceLT]) rfl rfl ?_; simp only [go_sem, reduceEqDiff, reduceIte, reduceAdd, reduceMul, reduceSub, reduceLT, reduceLeDiff, Nat.reduceBEq, z0]) | (refine qp (k3) (by simp only [go_sem, reduceEqDiff, reduceIte, reduceAdd, reduceMul, reduceSub, reduceLT, reduceLeDiff, Nat.reduceBEq, z0]; first | done | rfl) rfl (by simp only [go_sem, Nat.reduceLT]) rfl rfl ?_; simp only [go_sem, reduceEqDiff, reduceIte, reduceAdd, reduceMul, reduceSub, reduceLT, reduceLeDiff, Nat.reduceBEq, z0]) | (refine qp (k4) (by simp only [go_sem, reduceEqDiff, reduceIte, reduceAdd, reduceMul, reduceSub, reduceLT, reduceLeDiff, Nat.reduceBEq, z0]; first | done | rfl) rfl (by simp only [go_sem, Nat.reduceLT]) rfl rfl ?_; simp only [go_sem, reduceEqDiff, reduceIte, reduceAdd, reduceMul, reduceSub, reduceLT, reduceLeDiff, Nat.reduceBEq, z0]))
          exact Aw_ret (ret0 (.inl rfl) (by simp only [go_sem, reduceEqDiff, reduceIte, reduceAdd, reduceMul, reduceSub, reduceLT, reduceLeDiff, Nat.reduceBEq]; rfl) (by rfl) rfl)
        | some e =>
          rw [c4] at k4
          cases c5 : e.gone
          · repeat (first | apply Aw_seq | apply Aw_block | apply Aw_skip | apply Aw_exit | refine Aw_condt rfl ?_ | refine Aw_condf rfl ?_ | ((first | refine qr ?_ | refine qd (by kernel_rfl) (by kernel_rfl) ?_); simp only [go_sem, reduceEqDiff, reduceIte, reduceAdd, reduceMul, reduceSub, reduceLT, reduceLeDiff, Nat.reduceBEq, c5]) | refine dk (by kernel_rfl) ?_ | (refine qp (k1) (by simp only [go_sem, reduceEqDiff, reduceIte, reduceAdd, reduceMul, reduceSub, reduceLT, reduceLeDiff, Nat.reduceBEq, c5]; first | done | rfl) rfl (by simp only [go_sem, Nat.reduceLT]) rfl rfl ?_; simp only [go_sem, reduceEqDiff, reduceIte, reduceAdd, reduceMul, reduceSub, reduceLT, reduceLeDiff, Nat.reduceBEq, c5]) | (refine qp (k2) (by simp only [go_sem, reduceEqDiff, reduceIte, reduceAdd, reduceMul, reduceSub, reduceLT, reduceLeDiff, Nat.reduceBEq, c5]; first | done | rfl) rfl (by simp only [go_sem, Nat.reduceLT]) rfl rfl ?_; simp only [go_sem, reduceEqDiff, reduceIte, reduceAdd, reduceMul, reduceSub, reduceLT, reduceLeDiff, Nat.reduceBEq, c5]) | (refine qp (k3) (by simp only [go_sem, reduceEqDiff, reduceIte, reduceAdd, reduceMul, reduceSub, reduceLT, reduceLeDiff, Nat.reduceBEq, c5]; first | done | rfl) rfl (by simp only [go_sem, Nat.reduceLT]) rfl rfl ?_; simp only [go_sem, reduceEqDiff, reduceIte, reduceAdd, reduceMul, reduceSub, reduceLT, reduceLeDiff, Nat.reduceBEq, c5]) | (refine qp (k4) (by simp only [go_sem, reduceEqDiff, reduceIte, reduceAdd, reduceMul, reduceSub, reduceLT, reduceLeDiff, Nat.reduceBEq, c5]; first | done | rfl) rfl (by simp only [go_sem, Nat.reduceLT]) rfl rfl ?_; simp only [go_sem, reduceEqDiff, reduceIte, reduceAdd, reduceMul, reduceSub, reduceLT, reduceLeDiff, Nat.reduceBEq, c5]))
            exact Aw_ret (ret0 (.inl rfl) (by simp only [go_sem, reduceEqDiff, reduceIte, reduceAdd, reduceMul, reduceSub, reduceLT, reduceLeDiff, Nat.reduceBEq]; rfl) (by simp [c5]) rfl)
          · repeat (first | apply Aw_seq | apply Aw_block | apply Aw_skip | apply Aw_exit | refine Aw_condt rfl ?_ | refine Aw_condf rfl ?_ | ((first | refine qr ?_ | refine qd (by kernel_rfl) (by kernel_rfl) ?_); simp only [go_sem, reduceEqDiff, reduceIte, reduceAdd, reduceMul, reduceSub, reduceLT, reduceLeDiff, Nat.reduceBEq, c5]) | refine dk (by kernel_rfl) ?_ | (refine qp (k1) (by simp only [go_sem, reduceEqDiff, reduceIte, reduceAdd, reduceMul, reduceSub, reduceLT, reduceLeDiff, Nat.reduceBEq, c5]; first | done | rfl) rfl (by simp only [go_sem, Nat.reduceLT]) rfl rfl ?_; simp only [go_sem, reduceEqDiff, reduceIte, reduceAdd, reduceMul, reduceSub, reduceLT, reduceLeDiff, Nat.reduceBEq, c5]) | (refine qp (k2) (by simp only [go_sem, reduceEqDiff, reduceIte, reduceAdd, reduceMul, reduceSub, reduceLT, reduceLeDiff, Nat.reduceBEq, c5]; first | done | rfl) rfl (by simp only [go_sem, Nat.reduceLT]) rfl rfl ?_; simp only [go_sem, reduceEqDiff, reduceIte, reduceAdd, reduceMul, reduceSub, reduceLT, reduceLeDiff, Nat.reduceBEq, c5]) | (refine qp (k3) (by simp only [go_sem, reduceEqDiff, reduceIte, reduceAdd, reduceMul, reduceSub, reduceLT, reduceLeDiff, Nat.reduceBEq, c5]; first | done | rfl) rfl (by simp only [go_sem, Nat.reduceLT]) rfl rfl ?_; simp only [go_sem, reduceEqDiff, reduceIte, reduceAdd, reduceMul, reduceSub, reduceLT, reduceLeDiff, Nat.reduceBEq, c5]) | (refine qp (k4) (by simp only [go_sem, reduceEqDiff, reduceIte, reduceAdd, reduceMul, reduceSub, reduceLT, reduceLeDiff, Nat.reduceBEq, c5]; first | done | rfl) rfl (by simp only [go_sem, Nat.reduceLT]) rfl rfl ?_; simp only [go_sem, reduceEqDiff, reduceIte, reduceAdd, reduceMul, reduceSub, reduceLT, reduceLeDiff, Nat.reduceBEq, c5]))
            exact Aw_ret (ret0 (.inl rfl) (by simp only [go_sem, reduceEqDiff, reduceIte, reduceAdd, reduceMul, reduceSub, reduceLT, reduceLeDiff, Nat.reduceBEq]; rfl) (by simp [c5]) rfl)
theorem any_take_succ {ts : List Int} {t : Int} {i : Nat} {y : Int} (h : ts[i]? = some y) : (ts.take (i + 1)).any (fun x => decide (t = x)) = ((ts.take i).any (fun x => decide (t = x)) || decide (y = t)) := by
  rw [List.take_add_one, h, List.any_append]
  simp [eq_comm]
def knT (s : Sto) (t : Int) (i : Nat) : Bool := decide (t = s.time) || (s.times.take i).any fun x => decide (t = x)
theorem knT_succ {s : Sto} {t : Int} {i : Nat} {y : Int} (h : s.times[i]? = some y) : knT s t (i + 1) = (knT s t i || decide (y = t)) := by
  unfold knT; rw [any_take_succ h, Bool.or_assoc]
theorem sknown_ac (s : Sto) (t : Int) (hl : s.times.length ≤ 1000) : AC Tryz.prog 49 [stT s, iT t] noHp 0 ⟨.t (bT (knownM s t)), noHp, 0⟩ := by
  have e0 : decide (t = s.time) = knT s t 0 := by unfold knT; simp
  have e1 : knownM s t = knT s t s.times.length := by unfold knT knownM; rw [List.take_length]
  rw [e1]
  refine AC_of Tryz.func49 rfl Tryz.ntmps49 Tryz.results49 (by kernel_rfl) rfl ?_
  simp only [List.zipIdx, List.map, Nat.zero_add, Nat.reduceAdd]
  repeat (first | apply Aw_seq | apply Aw_block | apply Aw_skip | apply Aw_exit | refine Aw_condt rfl ?_ | refine Aw_condf rfl ?_ | ((first | refine qr ?_ | refine qd (by kernel_rfl) (by kernel_rfl) ?_); simp only [go_sem, reduceEqDiff, reduceIte, reduceAdd, reduceMul, reduceSub, reduceLT, reduceLeDiff, Nat.reduceBEq, e0]) | refine dk (by kernel_rfl) ?_)
  refine Aw.rw (rwL (l' := [(6, .t (iT (0 : Nat))), (5, .t (bT (knT s t 0))), (2, .t (.c (.ph 0 0 0))), (1, .t (iT t))]) (os := [some (stO s)]) (M := [0]) (n' := 1) (by repeat (first | exact trivial | refine ⟨rfl, rfl, ?_⟩)) (by rfl) (by simp only [go_sem, reduceEqDiff, reduceIte, reduceAdd, reduceMul, reduceSub, reduceLT, reduceLeDiff, Nat.reduceBEq]; first | done | rfl) (by decide) (by intro m hm; first | omega | (rcases m with _ | _ | _ | _ | _ | _ | m <;> first | exact ⟨by decide, rfl⟩ | omega))) ?_
  refine Aw_loop_rw (ι := { i : Nat // i ≤ s.times.length }) (fun q => S [(6, .t (iT (q.1 : Nat))), (5, .t (bT (knT s t q.1))), (2, .t (.c (.ph 0 0 0))), (1, .t (iT t))] (hpL [some (stO s)]) 1) (fun q => s.times.length - q.1) ⟨0, Nat.zero_le _⟩ ?_
  rintro ⟨i, hi⟩
  dsimp only
  by_cases hlt : i < s.times.length
  · have g1 : decide ((i : Int) < (s.times.length : Int)) = true := decide_eq_true (by omega)
    have w := wrap_succ hlt (by omega)
    obtain ⟨y, hy⟩ : ∃ e, s.times[i]? = some e := ⟨_, List.getElem?_eq_getElem hlt⟩
    have hs := knT_succ (t := t) hy
    cases c : knT s t i
    · rw [c, Bool.false_or] at hs
      repeat (first | apply Aw_seq | apply Aw_block | apply Aw_skip | apply Aw_exit | refine Aw_condt rfl ?_ | refine Aw_condf rfl ?_ | ((first | refine qr ?_ | refine qd (by kernel_rfl) (by kernel_rfl) ?_); simp only [go_sem, reduceEqDiff, reduceIte, reduceAdd, reduceMul, reduceSub, reduceLT, reduceLeDiff, Nat.reduceBEq, g1, w, hy]) | refine dk (by kernel_rfl) ?_)
      refine ⟨⟨i + 1, hlt⟩, [0], ?_, ?_⟩
      rotate_left
      dsimp only
      rw [hs]
      exact rwL (by repeat (first | exact trivial | refine ⟨rfl, rfl, ?_⟩)) (by rfl) (by simp only [go_sem, reduceEqDiff, reduceIte, reduceAdd, reduceMul, reduceSub, reduceLT, reduceLeDiff, Nat.reduceBEq]; first | done | rfl) (by decide) (by intro m hm; first | omega | (rcases m with _ | _ | _ | _ | _ | _ | m <;> first | exact ⟨by decide, rfl⟩ | omega))
      show s.times.length - (i + 1) < s.times.length - i; omega
    · rw [c, Bool.true_or] at hs
      repeat (first | apply Aw_seq | apply Aw_block | apply Aw_skip | apply Aw_exit | refine Aw_condt rfl ?_ | refine Aw_condf rfl ?_ | ((first | refine qr ?_ | refine qd (by kernel_rfl) (by kernel_rfl) ?_); simp only [go_sem, reduceEqDiff, reduceIte, reduceAdd, reduceMul, reduceSub, reduceLT, reduceLeDiff, Nat.reduceBEq, g1, w, hy]) | refine dk (by kernel_rfl) ?_)
      refine ⟨⟨i + 1, hlt⟩, [0], ?_, ?_⟩
      rotate_left
      dsimp only
      rw [hs]
      exact rwL (by repeat (first | exact trivial | refine ⟨rfl, rfl, ?_⟩)) (by rfl) (by simp only [go_sem, reduceEqDiff, reduceIte, reduceAdd, reduceMul, reduceSub, reduceLT, reduceLeDiff, Nat.reduceBEq]; first | done | rfl) (by decide) (by intro m hm; first | omega | (rcases m with _ | _ | _ | _ | _ | _ | m <;> first | exact ⟨by decide, rfl⟩ | omega))
      show s.times.length - (i + 1) < s.times.length - i; omega
  · have g1 : decide ((i : Int) < (s.times.length : Int)) = false := decide_eq_false (by omega)
    obtain rfl : i = s.times.length := by omega
    repeat (first | apply Aw_seq | apply Aw_block | apply Aw_skip | apply Aw_exit | refine Aw_condt rfl ?_ | refine Aw_condf rfl ?_ | ((first | refine qr ?_ | refine qd (by kernel_rfl) (by kernel_rfl) ?_); simp only [go_sem, reduceEqDiff, reduceIte, reduceAdd, reduceMul, reduceSub, reduceLT, reduceLeDiff, Nat.reduceBEq, g1]) | refine dk (by kernel_rfl) ?_)
    exact Aw_ret (ret0 (.inl rfl) (by simp only [go_sem, reduceEqDiff, reduceIte, reduceAdd, reduceMul, reduceSub, reduceLT, reduceLeDiff, Nat.reduceBEq]; rfl) (by rfl) rfl)
theorem VSt.has {s : Sto} (hv : VSt s) {i : Nat} {r : List Ent} {x : Sve} (hr : s.levels[i]? = some r) (hx : s.sieves[i]? = some x) {k : ByteArray} (hk : keyOk k = true) : AC Tryz.prog 45 [sveP x, sT k] noHp 0 ⟨.t (bT (hasM s.keep.toNat (keysM r) k)), noHp, 0⟩ := by
  obtain ⟨h1, h2, _⟩ := hv.sv i r x hr hx
  refine sieveHas_ac h1 ?_ k hk
  rw [show ((s.keep.toNat : Nat) : Int) = s.keep by have := hv.kp; omega]
  exact h2
theorem sget_ac (s : Sto) (hs : SmSt s) (hv : VSt s) (k : ByteArray) (hk : keyOk k = true) (t : Int) : AC Tryz.prog 50 [stT s, sT k, iT t] noHp 0 ⟨.tup [entT ((findM s k t).getD zEnt), bT (findM s k t).isSome], noHp, 0⟩ := by
  have k0 := sat_ac s.top k t hs.top
  refine AC_of Tryz.func50 rfl Tryz.ntmps50 Tryz.results50 (by kernel_rfl) rfl ?_
  simp only [List.zipIdx, List.map, Nat.zero_add, Nat.reduceAdd]
  cases c0 : atM s.top k t with
  | some e =>
    have hM : findM s k t = some e := by unfold findM; rw [c0]
    rw [hM]
    rw [c0] at k0
    repeat (first | apply Aw_seq | apply Aw_block | apply Aw_skip | apply Aw_exit | refine Aw_condt rfl ?_ | refine Aw_condf rfl ?_ | ((first | refine qr ?_ | refine qd (by kernel_rfl) (by kernel_rfl) ?_); simp only [go_sem, reduceEqDiff, reduceIte, reduceAdd, reduceMul, reduceSub, reduceLT, reduceLeDiff, Nat.reduceBEq]) | refine dk (by kernel_rfl) ?_ | (refine qp (k0) (by simp only [go_sem, reduceEqDiff, reduceIte, reduceAdd, reduceMul, reduceSub, reduceLT, reduceLeDiff, Nat.reduceBEq]; first | done | rfl) rfl (by simp only [go_sem, Nat.reduceLT]) rfl rfl ?_; simp only [go_sem, reduceEqDiff, reduceIte, reduceAdd, reduceMul, reduceSub, reduceLT, reduceLeDiff, Nat.reduceBEq]))
    exact Aw_ret (ret0 (.inl rfl) (by simp only [go_sem, reduceEqDiff, reduceIte, reduceAdd, reduceMul, reduceSub, reduceLT, reduceLeDiff, Nat.reduceBEq]; rfl) (by rfl) rfl)
  | none =>
    have hM : findM s k t = findL s.keep.toNat k t s.levels := by unfold findM; rw [c0]
    rw [hM]
    rw [c0] at k0
    obtain ⟨R, hR⟩ : ∃ R, R = findL s.keep.toNat k t s.levels := ⟨_, rfl⟩
    rw [← hR]
    have z0 : ((none : Option Ent).getD zEnt) = zEnt := rfl
    repeat (first | apply Aw_seq | apply Aw_block | apply Aw_skip | apply Aw_exit | refine Aw_condt rfl ?_ | refine Aw_condf rfl ?_ | ((first | refine qr ?_ | refine qd (by kernel_rfl) (by kernel_rfl) ?_); simp only [go_sem, reduceEqDiff, reduceIte, reduceAdd, reduceMul, reduceSub, reduceLT, reduceLeDiff, Nat.reduceBEq]) | refine dk (by kernel_rfl) ?_ | (refine qp (k0) (by simp only [go_sem, reduceEqDiff, reduceIte, reduceAdd, reduceMul, reduceSub, reduceLT, reduceLeDiff, Nat.reduceBEq]; first | done | rfl) rfl (by simp only [go_sem, Nat.reduceLT]) rfl rfl ?_; simp only [go_sem, reduceEqDiff, reduceIte, reduceAdd, reduceMul, reduceSub, reduceLT, reduceLeDiff, Nat.reduceBEq]))
    refine Aw.rw (rwL (l' := [(10, .t (iT (0 : Nat))), (8, .t (.c (.ph 2 0 0))), (6, .t (.c (.ph 1 0 0))), (3, .t (.c (.ph 0 0 0))), (1, .t (sT k)), (2, .t (iT t))]) (os := [some (stO s), some (enO zEnt), some (enO zEnt)]) (M := [0, 1, 10]) (n' := 3) (by repeat (first | exact trivial | refine ⟨rfl, rfl, ?_⟩)) (by rfl) (by simp only [go_sem, reduceEqDiff, reduceIte, reduceAdd, reduceMul, reduceSub, reduceLT, reduceLeDiff, Nat.reduceBEq, zEnt]; first | done | rfl) (by decide) (by intro m hm; first | omega | (rcases m with _ | _ | _ | _ | _ | _ | m <;> first | exact ⟨by decide, rfl⟩ | omega))) ?_
    refine Aw_loop_rw (ι := FnI s k t R) (fun q => S [(10, .t (iT (q.i : Nat))), (8, .t (.c (.ph 2 0 0))), (6, .t (.c (.ph 1 0 0))), (3, .t (.c (.ph 0 0 0))), (1, .t (sT k)), (2, .t (iT t))] (hpL [some (stO s), some (enO zEnt), some (enO zEnt)]) 3) (fun q => 3 - q.i) ⟨0, by omega, hR.symm⟩ ?_
    clear hR hM
    rintro ⟨i, hi, hf⟩
    dsimp only
    have hll := hv.ll
    by_cases hlt : i < 3
    · have g1 : decide ((i : Int) < (s.levels.length : Int)) = true := decide_eq_true (by omega)
      have w := wrap_succ hlt (by omega)
      obtain ⟨r, hr⟩ : ∃ r, s.levels[i]? = some r := ⟨_, List.getElem?_eq_getElem (by rw [hv.ll]; omega)⟩
      obtain ⟨x, hx⟩ : ∃ x, s.sieves[i]? = some x := ⟨_, List.getElem?_eq_getElem (by rw [hv.sl]; omega)⟩
      have hxl := (List.getElem?_eq_some_iff.1 hx).1
      have k1 := hv.has hr hx hk
      have k2 := sat_ac r k t (hs.lev r (List.mem_of_getElem? hr))
      rw [List.drop_eq_getElem_cons (by rw [hv.ll]; omega), show s.levels[i]'(by rw [hv.ll]; omega) = r from (List.getElem?_eq_some_iff.1 hr).2] at hf
      simp only [findL] at hf
      cases c1 : hasM s.keep.toNat (keysM r) k
      · rw [c1] at k1 hf
        simp only [Bool.false_eq_true, if_false] at hf
        repeat (first | apply Aw_seq | apply Aw_block | apply Aw_skip | apply Aw_exit | refine Aw_condt rfl ?_ | refine Aw_condf rfl ?_ | ((first | refine qr ?_ | refine qd (by kernel_rfl) (by kernel_rfl) ?_); simp only [go_sem, reduceEqDiff, reduceIte, reduceAdd, reduceMul, reduceSub, reduceLT, reduceLeDiff, Nat.reduceBEq, g1, w, hr, hx, hxl]) | refine dk (by kernel_rfl) ?_ | (refine qp (k1) (by simp only [go_sem, reduceEqDiff, reduceIte, reduceAdd, reduceMul, reduceSub, reduceLT, reduceLeDiff, Nat.reduceBEq, g1, w, hr, hx, hxl]; first | done | rfl) rfl (by simp only [go_sem, Nat.reduceLT]) rfl rfl ?_; simp only [go_sem, reduceEqDiff, reduceIte, reduceAdd, reduceMul, reduceSub, reduceLT, reduceLeDiff, Nat.reduceBEq, g1, w, hr, hx, hxl]))
        refine ⟨⟨i + 1, by omega, hf⟩, [0, 1, 2], ?_, rwL (by repeat (first | exact trivial | refine ⟨rfl, rfl, ?_⟩)) (by rfl) (by simp only [go_sem, reduceEqDiff, reduceIte, reduceAdd, reduceMul, reduceSub, reduceLT, reduceLeDiff, Nat.reduceBEq, zEnt]; first | done | rfl) (by decide) (by intro m hm; first | omega | (rcases m with _ | _ | _ | _ | _ | _ | m <;> first | exact ⟨by decide, rfl⟩ | omega))⟩
        show 3 - (i + 1) < 3 - i; omega
      · rw [c1] at k1 hf
        simp only [if_true] at hf
        cases c2 : atM r k t with
        | some e =>
          rw [c2] at k2 hf
          simp only at hf
          subst hf
          repeat (first | apply Aw_seq | apply Aw_block | apply Aw_skip | apply Aw_exit | refine Aw_condt rfl ?_ | refine Aw_condf rfl ?_ | ((first | refine qr ?_ | refine qd (by kernel_rfl) (by kernel_rfl) ?_); simp only [go_sem, reduceEqDiff, reduceIte, reduceAdd, reduceMul, reduceSub, reduceLT, reduceLeDiff, Nat.reduceBEq, g1, w, hr, hx, hxl]) | refine dk (by kernel_rfl) ?_ | (refine qp (k1) (by simp only [go_sem, reduceEqDiff, reduceIte, reduceAdd, reduceMul, reduceSub, reduceLT, reduceLeDiff, Nat.reduceBEq, g1, w, hr, hx, hxl]; first | done | rfl) rfl (by simp only [go_sem, Nat.reduceLT]) rfl rfl ?_; simp only [go_sem, reduceEqDiff, reduceIte, reduceAdd, reduceMul, reduceSub, reduceLT, reduceLeDiff, Nat.reduceBEq, g1, w, hr, hx, hxl]) | (refine qp (k2) (by simp only [go_sem, reduceEqDiff, reduceIte, reduceAdd, reduceMul, reduceSub, reduceLT, reduceLeDiff, Nat.reduceBEq, g1, w, hr, hx, hxl]; first | done | rfl) rfl (by simp only [go_sem, Nat.reduceLT]) rfl rfl ?_; simp only [go_sem, reduceEqDiff, reduceIte, reduceAdd, reduceMul, reduceSub, reduceLT, reduceLeDiff, Nat.reduceBEq, g1, w, hr, hx, hxl]))
          exact Aw_ret (ret0 (.inl rfl) (by simp only [go_sem, reduceEqDiff, reduceIte, reduceAdd, reduceMul, reduceSub, reduceLT, reduceLeDiff, Nat.reduceBEq]; rfl) (by rfl) rfl)
        | none =>
          rw [c2] at k2 hf
          simp only at hf
          repeat (first | apply Aw_seq | apply Aw_block | apply Aw_skip | apply Aw_exit | refine Aw_condt rfl ?_ | refine Aw_condf rfl ?_ | ((first | refine qr ?_ | refine qd (by kernel_rfl) (by kernel_rfl) ?_); simp only [go_sem, reduceEqDiff, reduceIte, reduceAdd, reduceMul, reduceSub, reduceLT, reduceLeDiff, Nat.reduceBEq, g1, w, hr, hx, hxl]) | refine dk (by kernel_rfl) ?_ | (refine qp (k1) (by simp only [go_sem, reduceEqDiff, reduceIte, reduceAdd, reduceMul, reduceSub, reduceLT, reduceLeDiff, Nat.reduceBEq, g1, w, hr, hx, hxl]; first | done | rfl) rfl (by simp only [go_sem, Nat.reduceLT]) rfl rfl ?_; simp only [go_sem, reduceEqDiff, reduceIte, reduceAdd, reduceMul, reduceSub, reduceLT, reduceLeDiff, Nat.reduceBEq, g1, w, hr, hx, hxl]) | (refine qp (k2) (by simp only [go_sem, reduceEqDiff, reduceIte, reduceAdd, reduceMul, reduceSub, reduceLT, reduceLeDiff, Nat.reduceBEq, g1, w, hr, hx, hxl]; first | done | rfl) rfl (by simp only [go_sem, Nat.reduceLT]) rfl rfl ?_; simp only [go_sem, reduceEqDiff, reduceIte, reduceAdd, reduceMul, reduceSub, reduceLT, reduceLeDiff, Nat.reduceBEq, g1, w, hr, hx, hxl]))
          refine ⟨⟨i + 1, by omega, hf⟩, [0, 1, 2], ?_, rwL (by repeat (first | exact trivial | refine ⟨rfl, rfl, ?_⟩)) (by rfl) (by simp only [go_sem, reduceEqDiff, reduceIte, reduceAdd, reduceMul, reduceSub, reduceLT, reduceLeDiff, Nat.reduceBEq, zEnt]; first | done | rfl) (by decide) (by intro m hm; first | omega | (rcases m with _ | _ | _ | _ | _ | _ | m <;> first | exact ⟨by decide, rfl⟩ | omega))⟩
          show 3 - (i + 1) < 3 - i; omega
    · have g1 : decide ((i : Int) < (s.levels.length : Int)) = false := decide_eq_false (by omega)
      rw [List.drop_of_length_le (by rw [hv.ll]; omega)] at hf
      simp only [findL] at hf
      subst hf
      repeat (first | apply Aw_seq | apply Aw_block | apply Aw_skip | apply Aw_exit | refine Aw_condt rfl ?_ | refine Aw_condf rfl ?_ | ((first | refine qr ?_ | refine qd (by kernel_rfl) (by kernel_rfl) ?_); simp only [go_sem, reduceEqDiff, reduceIte, reduceAdd, reduceMul, reduceSub, reduceLT, reduceLeDiff, Nat.reduceBEq, g1]) | refine dk (by kernel_rfl) ?_)
      exact Aw_ret (ret0 (.inl rfl) (by simp only [go_sem, reduceEqDiff, reduceIte, reduceAdd, reduceMul, reduceSub, reduceLT, reduceLeDiff, Nat.reduceBEq]; rfl) (by rfl) rfl)
theorem findL_mem {keep : Nat} {k : ByteArray} {t : Int} : ∀ {l : List (List Ent)} {e : Ent}, findL keep k t l = some e → ∃ r ∈ l, atM r k t = some e
  | [], e, h => by simp [findL] at h
  | r :: rs, e, h => by
    simp only [findL] at h
    split at h
    · rename_i x hx
      cases h
      split at hx
      · exact ⟨r, by simp, hx⟩
      · cases hx
    · obtain ⟨q, hq, hh⟩ := findL_mem h
      exact ⟨q, List.mem_cons_of_mem _ hq, hh⟩
theorem storeS_runs {s : Sto} (h : storeS s = true) : runOk s.top = true ∧ ∀ r ∈ s.levels, runOk r = true := by
  have hv := vst_of h
  refine ⟨?_, fun r hr => ?_⟩
  · unfold storeS headS at h
    simp only [Bool.and_eq_true] at h
    exact h.1.1.2
  · obtain ⟨i, hi⟩ := List.mem_iff_getElem?.1 hr
    have hil := (List.getElem?_eq_some_iff.1 hi).1
    have hll := hv.ll
    have hsl := hv.sl
    exact (hv.sv i r _ hi (List.getElem?_eq_getElem (show i < s.sieves.length by omega))).2.2
theorem find_ok {s : Sto} (h : storeS s = true) {k : ByteArray} {t : Int} {e : Ent} (hf : findM s k t = some e) : entOk e = true := by
  obtain ⟨h1, h2⟩ := storeS_runs h
  unfold findM at hf
  split at hf
  · rename_i x hx
    cases hf
    exact (run_pw h1).2.1 _ (List.mem_of_find?_eq_some hx)
  · obtain ⟨r, hr, hh⟩ := findL_mem hf
    exact (run_pw (h2 r hr)).2.1 _ (List.mem_of_find?_eq_some hh)
theorem gone_val {e : Ent} (h : entOk e = true) (hg : e.gone = true) : e.val = 0 := by
  unfold entOk at h
  simp only [Bool.and_eq_true, hg, Bool.not_true, Bool.false_or, decide_eq_true_eq] at h
  exact h.1.2
theorem sstoreGet_ac (s : Sto) (hs : SmSt s) (k : ByteArray) (hk : smK k) (t : Int) : AC Tryz.prog 17 [stT s, sT k, iT t] noHp 0 ⟨.tup [iT (getM s k t).1, bT (getM s k t).2], noHp, 0⟩ := by
  have k1 := sstoreOk_ac s hs
  have k2 := skeyOk_ac k hk
  unfold getM
  refine AC_of Tryz.func17 rfl Tryz.ntmps17 Tryz.results17 (by kernel_rfl) rfl ?_
  simp only [List.zipIdx, List.map, Nat.zero_add, Nat.reduceAdd]
  cases c1 : storeS s
  · rw [c1] at k1
    repeat (first | apply Aw_seq | apply Aw_block | apply Aw_skip | apply Aw_exit | refine Aw_condt rfl ?_ | refine Aw_condf rfl ?_ | ((first | refine qr ?_ | refine qd (by kernel_rfl) (by kernel_rfl) ?_); simp only [go_sem, reduceEqDiff, reduceIte, reduceAdd, reduceMul, reduceSub, reduceLT, reduceLeDiff, Nat.reduceBEq]) | refine dk (by kernel_rfl) ?_ | (refine qp (k1) (by simp only [go_sem, reduceEqDiff, reduceIte, reduceAdd, reduceMul, reduceSub, reduceLT, reduceLeDiff, Nat.reduceBEq]; first | done | rfl) rfl (by simp only [go_sem, Nat.reduceLT]) rfl rfl ?_; simp only [go_sem, reduceEqDiff, reduceIte, reduceAdd, reduceMul, reduceSub, reduceLT, reduceLeDiff, Nat.reduceBEq]))
    exact Aw_ret (ret0 (.inl rfl) (by simp only [go_sem, reduceEqDiff, reduceIte, reduceAdd, reduceMul, reduceSub, reduceLT, reduceLeDiff, Nat.reduceBEq]; rfl) (by rfl) rfl)
  · rw [c1] at k1
    have hv := vst_of c1
    have k3 := sknown_ac s t (by have := hv.tl; omega)
    cases c2 : keyOk k
    · rw [c2] at k2
      repeat (first | apply Aw_seq | apply Aw_block | apply Aw_skip | apply Aw_exit | refine Aw_condt rfl ?_ | refine Aw_condf rfl ?_ | ((first | refine qr ?_ | refine qd (by kernel_rfl) (by kernel_rfl) ?_); simp only [go_sem, reduceEqDiff, reduceIte, reduceAdd, reduceMul, reduceSub, reduceLT, reduceLeDiff, Nat.reduceBEq]) | refine dk (by kernel_rfl) ?_ | (refine qp (k1) (by simp only [go_sem, reduceEqDiff, reduceIte, reduceAdd, reduceMul, reduceSub, reduceLT, reduceLeDiff, Nat.reduceBEq]; first | done | rfl) rfl (by simp only [go_sem, Nat.reduceLT]) rfl rfl ?_; simp only [go_sem, reduceEqDiff, reduceIte, reduceAdd, reduceMul, reduceSub, reduceLT, reduceLeDiff, Nat.reduceBEq]) | (refine qp (k2) (by simp only [go_sem, reduceEqDiff, reduceIte, reduceAdd, reduceMul, reduceSub, reduceLT, reduceLeDiff, Nat.reduceBEq]; first | done | rfl) rfl (by simp only [go_sem, Nat.reduceLT]) rfl rfl ?_; simp only [go_sem, reduceEqDiff, reduceIte, reduceAdd, reduceMul, reduceSub, reduceLT, reduceLeDiff, Nat.reduceBEq]))
      exact Aw_ret (ret0 (.inl rfl) (by simp only [go_sem, reduceEqDiff, reduceIte, reduceAdd, reduceMul, reduceSub, reduceLT, reduceLeDiff, Nat.reduceBEq]; rfl) (by rfl) rfl)
    · rw [c2] at k2
      have k4 := sget_ac s hs hv k c2 t
      cases c3 : knownM s t
      · rw [c3] at k3
        repeat (first | apply Aw_seq | apply Aw_block | apply Aw_skip | apply Aw_exit | refine Aw_condt rfl ?_ | refine Aw_condf rfl ?_ | ((first | refine qr ?_ | refine qd (by kernel_rfl) (by kernel_rfl) ?_); simp only [go_sem, reduceEqDiff, reduceIte, reduceAdd, reduceMul, reduceSub, reduceLT, reduceLeDiff, Nat.reduceBEq]) | refine dk (by kernel_rfl) ?_ | (refine qp (k1) (by simp only [go_sem, reduceEqDiff, reduceIte, reduceAdd, reduceMul, reduceSub, reduceLT, reduceLeDiff, Nat.reduceBEq]; first | done | rfl) rfl (by simp only [go_sem, Nat.reduceLT]) rfl rfl ?_; simp only [go_sem, reduceEqDiff, reduceIte, reduceAdd, reduceMul, reduceSub, reduceLT, reduceLeDiff, Nat.reduceBEq]) | (refine qp (k2) (by simp only [go_sem, reduceEqDiff, reduceIte, reduceAdd, reduceMul, reduceSub, reduceLT, reduceLeDiff, Nat.reduceBEq]; first | done | rfl) rfl (by simp only [go_sem, Nat.reduceLT]) rfl rfl ?_; simp only [go_sem, reduceEqDiff, reduceIte, reduceAdd, reduceMul, reduceSub, reduceLT, reduceLeDiff, Nat.reduceBEq]) | (refine qp (k3) (by simp only [go_sem, reduceEqDiff, reduceIte, reduceAdd, reduceMul, reduceSub, reduceLT, reduceLeDiff, Nat.reduceBEq]; first | done | rfl) rfl (by simp only [go_sem, Nat.reduceLT]) rfl rfl ?_; simp only [go_sem, reduceEqDiff, reduceIte, reduceAdd, reduceMul, reduceSub, reduceLT, reduceLeDiff, Nat.reduceBEq]))
        exact Aw_ret (ret0 (.inl rfl) (by simp only [go_sem, reduceEqDiff, reduceIte, reduceAdd, reduceMul, reduceSub, reduceLT, reduceLeDiff, Nat.reduceBEq]; rfl) (by rfl) rfl)
      · rw [c3] at k3
        cases c4 : findM s k t with
        | none =>
          rw [c4] at k4
          have z0 : ((none : Option Ent).getD zEnt) = zEnt := rfl
          repeat (first | apply Aw_seq | apply Aw_block | apply Aw_skip | apply Aw_exit | refine Aw_condt rfl ?_ | refine Aw_condf rfl ?_ | ((first | refine qr ?_ | refine qd (by kernel_rfl) (by kernel_rfl) ?_); simp only [go_sem, reduceEqDiff, reduceIte, reduceAdd, reduceMul, reduceSub, reduceLT, reduceLeDiff, Nat.reduceBEq, z0]) | refine dk (by kernel_rfl) ?_ | (refine qp (k1) (by simp only [go_sem, reduceEqDiff, reduceIte, reduceAdd, reduceMul, reduceSub, reduceLT, reduceLeDiff, Nat.reduceBEq, z0]; first | done | rfl) rfl (by simp only [go_sem, Nat.reduceLT]) rfl rfl ?_; simp only [go_sem, reduceEqDiff, reduceIte, reduceAdd, reduceMul, reduceSub, reduceLT, reduceLeDiff, Nat.reduceBEq, z0]) | (refine qp (k2) (by simp only [go_sem, reduceEqDiff, reduceIte, reduceAdd, reduceMul, reduceSub, reduceLT, reduceLeDiff, Nat.reduceBEq, z0]; first | done | rfl) rfl (by simp only [go_sem, Nat.reduceLT]) rfl rfl ?_; simp only [go_sem, reduceEqDiff, reduceIte, reduceAdd, reduceMul, reduceSub, reduceLT, reduceLeDiff, Nat.reduceBEq, z0]) | (refine qp (k3) (by simp only [go_sem, reduceEqDiff, reduceIte, reduceAdd, reduceMul, reduceSub, reduceLT, reduceLeDiff, Nat.reduceBEq, z0]; first | done | rfl) rfl (by simp only [go_sem, Nat.reduceLT]) rfl rfl ?_; simp only [go_sem, reduceEqDiff, reduceIte, reduceAdd, reduceMul, reduceSub, reduceLT, reduceLeDiff, Nat.reduceBEq, z0]) | (refine qp (k4) (by simp only [go_sem, reduceEqDiff, reduceIte, reduceAdd, reduceMul, reduceSub, reduceLT, reduceLeDiff, Nat.reduceBEq, z0]; first | done | rfl) rfl (by simp only [go_sem, Nat.reduceLT]) rfl rfl ?_; simp only [go_sem, reduceEqDiff, reduceIte, reduceAdd, reduceMul, reduceSub, reduceLT, reduceLeDiff, Nat.reduceBEq, z0]))
          exact Aw_ret (ret0 (.inl rfl) (by simp only [go_sem, reduceEqDiff, reduceIte, reduceAdd, reduceMul, reduceSub, reduceLT, reduceLeDiff, Nat.reduceBEq]; rfl) (by rfl) rfl)
        | some e =>
          rw [c4] at k4
          have k4 : AC Tryz.prog 50 [stT s, sT k, iT t] noHp 0 ⟨.tup [entT e, bT true], noHp, 0⟩ := k4
          cases c5 : e.gone
          · repeat (first | apply Aw_seq | apply Aw_block | apply Aw_skip | apply Aw_exit | refine Aw_condt rfl ?_ | refine Aw_condf rfl ?_ | ((first | refine qr ?_ | refine qd (by kernel_rfl) (by kernel_rfl) ?_); simp only [go_sem, reduceEqDiff, reduceIte, reduceAdd, reduceMul, reduceSub, reduceLT, reduceLeDiff, Nat.reduceBEq, c5]) | refine dk (by kernel_rfl) ?_ | (refine qp (k1) (by simp only [go_sem, reduceEqDiff, reduceIte, reduceAdd, reduceMul, reduceSub, reduceLT, reduceLeDiff, Nat.reduceBEq, c5]; first | done | rfl) rfl (by simp only [go_sem, Nat.reduceLT]) rfl rfl ?_; simp only [go_sem, reduceEqDiff, reduceIte, reduceAdd, reduceMul, reduceSub, reduceLT, reduceLeDiff, Nat.reduceBEq, c5]) | (refine qp (k2) (by simp only [go_sem, reduceEqDiff, reduceIte, reduceAdd, reduceMul, reduceSub, reduceLT, reduceLeDiff, Nat.reduceBEq, c5]; first | done | rfl) rfl (by simp only [go_sem, Nat.reduceLT]) rfl rfl ?_; simp only [go_sem, reduceEqDiff, reduceIte, reduceAdd, reduceMul, reduceSub, reduceLT, reduceLeDiff, Nat.reduceBEq, c5]) | (refine qp (k3) (by simp only [go_sem, reduceEqDiff, reduceIte, reduceAdd, reduceMul, reduceSub, reduceLT, reduceLeDiff, Nat.reduceBEq, c5]; first | done | rfl) rfl (by simp only [go_sem, Nat.reduceLT]) rfl rfl ?_; simp only [go_sem, reduceEqDiff, reduceIte, reduceAdd, reduceMul, reduceSub, reduceLT, reduceLeDiff, Nat.reduceBEq, c5]) | (refine qp (k4) (by simp only [go_sem, reduceEqDiff, reduceIte, reduceAdd, reduceMul, reduceSub, reduceLT, reduceLeDiff, Nat.reduceBEq, c5]; first | done | rfl) rfl (by simp only [go_sem, Nat.reduceLT]) rfl rfl ?_; simp only [go_sem, reduceEqDiff, reduceIte, reduceAdd, reduceMul, reduceSub, reduceLT, reduceLeDiff, Nat.reduceBEq, c5]))
            exact Aw_ret (ret0 (.inl rfl) (by simp only [go_sem, reduceEqDiff, reduceIte, reduceAdd, reduceMul, reduceSub, reduceLT, reduceLeDiff, Nat.reduceBEq]; rfl) (by simp [c5]) rfl)
          · have hz := gone_val (find_ok c1 c4) c5
            repeat (first | apply Aw_seq | apply Aw_block | apply Aw_skip | apply Aw_exit | refine Aw_condt rfl ?_ | refine Aw_condf rfl ?_ | ((first | refine qr ?_ | refine qd (by kernel_rfl) (by kernel_rfl) ?_); simp only [go_sem, reduceEqDiff, reduceIte, reduceAdd, reduceMul, reduceSub, reduceLT, reduceLeDiff, Nat.reduceBEq, c5]) | refine dk (by kernel_rfl) ?_ | (refine qp (k1) (by simp only [go_sem, reduceEqDiff, reduceIte, reduceAdd, reduceMul, reduceSub, reduceLT, reduceLeDiff, Nat.reduceBEq, c5]; first | done | rfl) rfl (by simp only [go_sem, Nat.reduceLT]) rfl rfl ?_; simp only [go_sem, reduceEqDiff, reduceIte, reduceAdd, reduceMul, reduceSub, reduceLT, reduceLeDiff, Nat.reduceBEq, c5]) | (refine qp (k2) (by simp only [go_sem, reduceEqDiff, reduceIte, reduceAdd, reduceMul, reduceSub, reduceLT, reduceLeDiff, Nat.reduceBEq, c5]; first | done | rfl) rfl (by simp only [go_sem, Nat.reduceLT]) rfl rfl ?_; simp only [go_sem, reduceEqDiff, reduceIte, reduceAdd, reduceMul, reduceSub, reduceLT, reduceLeDiff, Nat.reduceBEq, c5]) | (refine qp (k3) (by simp only [go_sem, reduceEqDiff, reduceIte, reduceAdd, reduceMul, reduceSub, reduceLT, reduceLeDiff, Nat.reduceBEq, c5]; first | done | rfl) rfl (by simp only [go_sem, Nat.reduceLT]) rfl rfl ?_; simp only [go_sem, reduceEqDiff, reduceIte, reduceAdd, reduceMul, reduceSub, reduceLT, reduceLeDiff, Nat.reduceBEq, c5]) | (refine qp (k4) (by simp only [go_sem, reduceEqDiff, reduceIte, reduceAdd, reduceMul, reduceSub, reduceLT, reduceLeDiff, Nat.reduceBEq, c5]; first | done | rfl) rfl (by simp only [go_sem, Nat.reduceLT]) rfl rfl ?_; simp only [go_sem, reduceEqDiff, reduceIte, reduceAdd, reduceMul, reduceSub, reduceLT, reduceLeDiff, Nat.reduceBEq, c5]))
            exact Aw_ret (ret0 (.inl rfl) (by simp only [go_sem, reduceEqDiff, reduceIte, reduceAdd, reduceMul, reduceSub, reduceLT, reduceLeDiff, Nat.reduceBEq]; rfl) (by simp [c5, hz]) rfl)
theorem walk_mem {k : ByteArray} : ∀ (n : Nat) {f : List ByteArray × Nat}, Fork f → f.2 + n = 6 → k ∈ f.1 → ∃ b, walkT k n f = some b ∧ b.1 = [k]
  | 0, f, hf, hn, _ => by have := hf.dep; omega
  | n + 1, f, hf, hn, hk => by
    have hfl := spl_flat f.2 _ f.1 (Nat.le_refl _)
    rw [← hfl] at hk
    obtain ⟨g, hg, hkg⟩ := List.mem_flatten.1 hk
    have hb : ((g, f.2) : Br) ∈ brs f := List.mem_map.2 ⟨g, hg, rfl⟩
    have hl := (brs_lab hb k hkg).2
    have hh : hitB k f.2 (g, f.2) = true := decide_eq_true hl.symm
    cases hx : (brs f).find? (hitB k f.2) with
    | none => exact absurd hh (List.find?_eq_none.1 hx _ hb)
    | some b =>
      have hbm := List.mem_of_find?_eq_some hx
      have hbh : bLet b = lab k f.2 := of_decide_eq_true (show hitB k f.2 _ = true from List.find?_some hx)
      have e : b = (g, f.2) := by
        obtain ⟨i, hi, ei⟩ := List.getElem_of_mem hbm
        obtain ⟨j, hj, ej⟩ := List.getElem_of_mem hb
        have hp := List.pairwise_iff_getElem.1 (brs_lt hf)
        rcases Nat.lt_trichotomy i j with h | h | h
        · have := hp i j hi hj h
          rw [ei, ej, hbh, hl] at this; omega
        · subst h; rw [← ei, ← ej]
        · have := hp j i hj hi h
          rw [ei, ej, hbh, hl] at this; omega
      simp only [walkT, hx]
      cases c : bMul b
      · refine ⟨b, by simp, ?_⟩
        obtain ⟨y, hy⟩ := bMul_one hbm c
        rw [hy]
        rw [e] at hy
        have : k ∈ [y] := by rw [← hy]; exact hkg
        rw [List.mem_singleton.1 this]
      · simp only [if_true]
        refine walk_mem n (bKid_fork hf hbm c) ?_ ?_
        · obtain ⟨h1, _⟩ := brs_mem hbm
          show b.2 + 1 + n = 6
          omega
        · show k ∈ b.1
          rw [e]; exact hkg
theorem tail_l (k : ByteArray) (d : Nat) : (tailT k d).data.toList = k.data.toList.drop (d + 1) := by
  unfold tailT
  rw [ByteArray.data_extract, Array.toList_extract, size_l, List.extract_eq_take_drop]
  rcases Nat.lt_or_ge (d + 1) k.data.toList.length with h | h
  · rw [Nat.min_eq_left (by omega), List.take_of_length_le (by simp)]
  · rw [Nat.min_eq_right h, List.drop_of_length_le (Nat.le_refl _), List.drop_of_length_le h]; simp
theorem has_mem {keep : Nat} {ks : List ByteArray} (hf : Fork (ks, 0)) {k : ByteArray} (h : k ∈ ks) : hasM keep ks k = true := by
  obtain ⟨b, h1, h2⟩ := walk_mem 6 hf rfl h
  rw [hasM_res, h1]
  show fits keep k b = true
  have ht : (tailT k b.2).data.toList = k.data.toList.drop (b.2 + 1) := tail_l k b.2
  have hc : (bCut keep b).data.toList = (k.data.toList.drop (b.2 + 1)).take keep := by unfold bCut; rw [h2, List.headD_cons, cut_l]
  have hs : (bCut keep b).size = min keep (k.data.toList.drop (b.2 + 1)).length := by rw [size_l, hc, List.length_take]
  have ok := (hf.ok k h).1
  unfold fits
  by_cases c : whole keep b = true
  · rw [if_pos c]
    refine decide_eq_true (ext_l ?_)
    rw [ht, hc]
    unfold whole at c
    rw [Bool.or_eq_true, decide_eq_true_eq, decide_eq_true_eq] at c
    rcases c with c | c
    · have hd : b.2 ≤ k.size ∨ k.size < b.2 := by omega
      unfold bLet at c
      rw [h2, List.headD_cons] at c
      have e : k.data.toList.drop (b.2 + 1) = [] := by
        rcases hd with hd | hd
        · have := (lab_end ok hd).1 c
          rw [size_l] at this
          exact List.drop_of_length_le (by omega)
        · rw [size_l] at hd
          exact List.drop_of_length_le (by omega)
      rw [e]; simp
    · rw [List.take_of_length_le (by omega)]
  · rw [if_neg c]
    unfold begB
    rw [Bool.and_eq_true, decide_eq_true_eq, decide_eq_true_eq]
    have e1 : (bCut keep b).size ≤ (tailT k b.2).size := by rw [hs, size_l, ht]; omega
    refine ⟨e1, ext_l ?_⟩
    rw [extract_list, ht, hs, hc]
    rcases Nat.le_total keep (k.data.toList.drop (b.2 + 1)).length with h | h
    · rw [Nat.min_eq_left h]
    · rw [Nat.min_eq_right h, List.take_of_length_le (Nat.le_refl _), List.take_of_length_le h]
theorem newer_iff {a b : List Ent} : newerM a b = true ↔ ∀ x ∈ a, ∀ y ∈ b, x.key = y.key → y.time < x.time := by
  unfold newerM
  rw [List.all_eq_true]
  constructor
  · intro h x hx y hy hk
    have := List.all_eq_true.1 (h x hx) y hy
    unfold older at this
    simp [hk] at this
    exact this
  · intro h x hx
    rw [List.all_eq_true]
    intro y hy
    unfold older
    by_cases hk : x.key = y.key
    · have := h x hx y hy hk
      simp [hk]; omega
    · simp [hk]
/-- Levels as they are in a store that is one. -/
structure LvOk (s : Sto) : Prop where
  run : ∀ i, i < 3 → runOk (s.levels.getD i []) = true ∧ (s.levels.getD i []).length ≤ 8 * (i + 1)
  newer : ∀ i k, i < k → k < 3 → newerM (s.levels.getD i []) (s.levels.getD k []) = true
theorem lv_of {s : Sto} (h : storeS s = true) : LvOk s ∧ runOk s.top = true ∧ s.top.length ≤ 4 ∧ (∀ i, i < 3 → newerM s.top (s.levels.getD i []) = true) ∧ (∀ e ∈ s.top, e.time ≤ s.time) := by
  unfold storeS headS at h
  simp only [Bool.and_eq_true] at h
  obtain ⟨⟨⟨⟨⟨⟨⟨h1, h2⟩, h3⟩, h4⟩, h5⟩, h6⟩, h7⟩, h8⟩ := h
  have hl := of_decide_eq_true h1
  have hsl := of_decide_eq_true h2
  have key : ∀ i, i < 3 → runOk (s.levels.getD i []) = true ∧ (s.levels.getD i []).length ≤ 8 * (i + 1) ∧ newestM s.top (s.levels.getD i []) s.time = true ∧ ∀ k, i < k → k < 3 → newestM (s.levels.getD i []) (s.levels.getD k []) s.time = true := by
    intro i hi
    have := allI_iff.1 h8 i hi
    unfold sAt at this
    obtain ⟨r, hr⟩ : ∃ r, s.levels[i]? = some r := ⟨_, List.getElem?_eq_getElem (by omega)⟩
    obtain ⟨x, hx⟩ : ∃ x, s.sieves[i]? = some x := ⟨_, List.getElem?_eq_getElem (by omega)⟩
    have e : s.levels.getD i [] = r := by simp [List.getD, hr]
    rw [hr, hx] at this
    simp only [Bool.and_eq_true] at this
    have hlv := this.1.1
    unfold lvM at hlv
    simp only [Bool.and_eq_true] at hlv
    rw [e]
    refine ⟨hlv.1.1.1, of_decide_eq_true hlv.1.1.2, this.1.2, fun k hk hk3 => ?_⟩
    have hp := allI_iff.1 this.2 k hk3
    rw [decide_eq_false (by omega : ¬ k ≤ i), Bool.false_or] at hp
    unfold sPair at hp
    obtain ⟨q, hq⟩ : ∃ q, s.levels[k]? = some q := ⟨_, List.getElem?_eq_getElem (by omega)⟩
    have e2 : s.levels.getD k [] = q := by simp [List.getD, hq]
    rw [hr, hq] at hp
    rw [e2]; exact hp
  refine ⟨⟨fun i hi => ⟨(key i hi).1, (key i hi).2.1⟩, fun i k hik hk => ?_⟩, h6, of_decide_eq_true h7, fun i hi => ?_, ?_⟩
  · exact ((newest_iff (key k hk).1).1 ((key i (by omega)).2.2.2 k hik hk)).2
  · exact ((newest_iff (key i hi).1).1 (key i hi).2.2.1).2
  · exact ((newest_iff (key 0 (by omega)).1).1 (key 0 (by omega)).2.2.1).1
open Go Go.Proofs Go.Deep Go.WideShapes Go.ChangeShapes Go.RowKit
theorem cell_lt {w : World} {a : Addr} {v : Value} (h : w.cell? a = some v) : a.block < w.heap.size := by
  apply Classical.byContradiction
  intro hn
  have : w.heap[a.block]? = none := Array.getElem?_eq_none (by omega)
  simp [World.cell?, this] at h
/-- What is read as data of type t is, cell by cell, the data that f tells of a value that is ok. -/
structure RdB {α : Type} (P : Program) (t : TypeId) (f : α → List D) (ok : α → Prop) : Prop where
  down : ∀ {H : Type} {enc : TypeId × Value → H} {w : World} {base : Nat} {spare : Nat → Bool} {held : Bool} {fuel : Nat} {cs : List Value} {x : DataW H × List MemPlace},
    DataW.trod enc P w base spare held fuel t cs = some x → ∃ y, All2 (RepD w (· < w.heap.size)) (f y) cs ∧ ok y
theorem RdB.int {P : Program} {t : TypeId} {k : IntKind} (ht : P.underlying t = some (.int k)) : RdB P t (fun n : Int => [.s (.int k n)]) (fun n => (Lit.int k n).wf = true) :=
  ⟨fun h => by obtain ⟨n, rfl, _, hw⟩ := DataW.trod_int ht h; exact ⟨n, .cons (.s rfl) .nil, hw⟩⟩
theorem RdB.bool {P : Program} {t : TypeId} (ht : P.underlying t = some .bool) : RdB P t (fun b : Bool => [.s (.bool b)]) (fun _ => True) :=
  ⟨fun h => by obtain ⟨b, rfl, _⟩ := DataW.trod_bool ht h; exact ⟨b, .cons (.s rfl) .nil, trivial⟩⟩
theorem RdB.str {P : Program} {t : TypeId} (ht : P.underlying t = some .string) : RdB P t (fun s : ByteArray => [.s (.string s)]) (fun s => s.size ≤ maxLen) :=
  ⟨fun h => by obtain ⟨s, rfl, _, hs⟩ := DataW.trod_string ht h; exact ⟨s, .cons (.s rfl) .nil, hs⟩⟩
theorem RdB.slice {α : Type} {P : Program} {t e k : Nat} {f : α → List D} {ok : α → Prop} (ht : P.underlying t = some (.slice e)) (hc : P.cellsOf e = k) (hd : RdB P e f ok) :
    RdB P t (fun xs : List α => [.rs k (xs.map f)]) (fun xs => xs.length ≤ maxLen ∧ ∀ x ∈ xs, ok x) := by
  refine ⟨fun {H enc w base spare held fuel cs x} h => ?_⟩
  rcases open_slice ht h with ⟨rfl, rfl⟩ | ⟨a, len, cap, m, n, D, Pl, rfl, hb, hl, hm, hmm, rfl, hx⟩
  · exact ⟨[], .cons (.rs (A := none) (cap := 0) (fun _ _ => .bool false) (Nat.le_refl _) (Nat.zero_le _) (by simp) (fun i j hi => absurd hi (by simp)) (fun i j cs x hi => by simp at hi)) .nil, by simp, by simp⟩
  · have hlm : len ≤ m := by rw [hmm]; split <;> omega
    have hy : ∀ i : _root_.Fin len, ∃ y, ∃ cs', w.cells? base (a.add (i.1 * P.cellsOf e)) (P.cellsOf e) = some cs' ∧ All2 (RepD w (· < w.heap.size)) (f y) cs' ∧ ok y := fun i => by
      obtain ⟨cs', h1, h2⟩ := hx i.1 (by omega)
      obtain ⟨y, h3, h4⟩ := hd.down h2
      exact ⟨y, cs', h1, h3, h4⟩
    have hsp : ∀ i : _root_.Fin len, ∃ cs', w.cells? base (a.add (i.1 * P.cellsOf e)) (P.cellsOf e) = some cs' ∧ All2 (RepD w (· < w.heap.size)) (f (Classical.choose (hy i))) cs' ∧ ok (Classical.choose (hy i)) := fun i => Classical.choose_spec (hy i)
    have hlen : (List.ofFn fun i : _root_.Fin len => Classical.choose (hy i)).length = len := List.length_ofFn
    have hget : ∀ {j : Nat} {p : α}, (List.ofFn fun i : _root_.Fin len => Classical.choose (hy i))[j]? = some p → ∃ cs', w.cells? base (a.add (j * k)) k = some cs' ∧ All2 (RepD w (· < w.heap.size)) (f p) cs' := fun {j p} hj => by
      have hjl : j < len := by
        have := (List.getElem?_eq_some_iff.1 hj).1
        rwa [hlen] at this
      rw [List.getElem?_ofFn, dif_pos hjl] at hj
      obtain rfl := Option.some.inj hj
      obtain ⟨cs', h1, h2, _⟩ := hsp ⟨j, hjl⟩
      rw [hc] at h1
      exact ⟨cs', h1, h2⟩
    have hbk : ∀ n, (a.add n).block = a.block := fun n => by unfold Addr.add; split <;> rfl
    have hcell : ∀ i, i < len → ∃ cs' : List Value, cs'.length = k ∧ ∀ j, j < k → w.cell? (a.add (i * k + j)) = cs'[j]? := fun i hi => by
      obtain ⟨cs', h1, _⟩ := hsp ⟨i, hi⟩
      rw [hc] at h1
      obtain ⟨_, h3, h4⟩ := World.cells?_some h1
      refine ⟨cs', h3, fun j hj => ?_⟩
      have := h4 j hj
      rw [Deep.add_add] at this
      exact this
    refine ⟨List.ofFn fun i : _root_.Fin len => Classical.choose (hy i), .cons ?_ .nil, by rw [hlen]; omega, ?_⟩
    · have := RepD.rs (w := w) (S := (· < w.heap.size)) (k := k) (els := (List.ofFn fun i : _root_.Fin len => Classical.choose (hy i)).map f) (A := some a) (cap := cap) (fun i j => (w.cell? (a.add (i * k + j))).getD (.bool false)) (by rw [List.length_map, hlen]; exact hl) hm ?_ ?_ ?_
      · rw [List.length_map, hlen] at this; exact this
      · intro cs hcs
        obtain ⟨p, hp, rfl⟩ := List.mem_map.1 hcs
        obtain ⟨j, hj⟩ := List.mem_iff_getElem?.1 hp
        obtain ⟨cs', h1, h2⟩ := hget hj
        rw [h2.len]; exact (World.cells?_some h1).2.1
      · intro i j hi hj
        rw [List.length_map, hlen] at hi
        obtain ⟨cs', h1, h2⟩ := hcell i hi
        have h3 := h2 j hj
        rw [List.getElem?_eq_getElem (by omega)] at h3
        refine ⟨a, rfl, ?_, ?_⟩
        · have := cell_lt h3; rwa [hbk] at this
        · simp only [h3]; rfl
      · intro i j cs x hi hj
        rw [List.getElem?_map] at hi
        obtain ⟨p, hp, rfl⟩ := Option.map_eq_some_iff.1 hi
        obtain ⟨cs', h1, h2⟩ := hget hp
        obtain ⟨_, h3, h4⟩ := World.cells?_some h1
        obtain ⟨v, hv, hr⟩ := h2.get hj
        have hjk : j < k := by have := (List.getElem?_eq_some_iff.1 hv).1; omega
        have := h4 j hjk
        rw [Deep.add_add, hv] at this
        simp only [this]
        exact hr
    · intro x hx
      obtain ⟨i, rfl⟩ := List.mem_ofFn.1 hx
      exact (hsp i).choose_spec.2.2
/-- The fields of a struct, from a cell on. -/
structure FRdB {α : Type} (P : Program) (off : Nat) (fs : List Field) (sz : Nat) (f : α → List D) (ok : α → Prop) : Prop where
  down : ∀ {H : Type} {enc : TypeId × Value → H} {w : World} {base : Nat} {spare : Nat → Bool} {held : Bool} {n : Nat} {cs : List Value} (ys : List (DataW H × List MemPlace)),
    cs.length = off + sz → ys.length = fs.length → (∀ (i : Nat) (f : Field), fs[i]? = some f → DataW.trod enc P w base spare held n f.type ((cs.drop f.offset).take (P.cellsOf f.type)) = ys[i]?) → ∃ y, All2 (RepD w (· < w.heap.size)) (f y) (cs.drop off) ∧ ok y
theorem FRdB.last {α : Type} {P : Program} {off sz : Nat} {f : Field} {d : α → List D} {ok : α → Prop} (ho : f.offset = off) (hc : P.cellsOf f.type = sz) (hd : RdB P f.type d ok) : FRdB P off [f] sz d ok := by
  refine ⟨fun {H enc w base spare held n cs} ys hl hy h => ?_⟩
  have h0 := h 0 f rfl
  rw [ho, hc, List.take_of_length_le (by rw [List.length_drop]; omega)] at h0
  have h1 : 0 < ys.length := by rw [hy]; simp
  rw [List.getElem?_eq_getElem h1] at h0
  exact hd.down h0
theorem FRdB.cons {α β : Type} {P : Program} {off sa sb : Nat} {f : Field} {fs : List Field} {a : α → List D} {b : β → List D} {oka : α → Prop} {okb : β → Prop} (ho : f.offset = off) (hc : P.cellsOf f.type = sa) (ha : RdB P f.type a oka) (hb : FRdB P (off + sa) fs sb b okb) :
    FRdB P off (f :: fs) (sa + sb) (fun y : α × β => a y.1 ++ b y.2) (fun y => oka y.1 ∧ okb y.2) := by
  refine ⟨fun {H enc w base spare held n cs} ys hl hy h => ?_⟩
  have h0 := h 0 f rfl
  rw [ho, hc] at h0
  match ys, hy with
  | [], hy => simp at hy
  | y0 :: ys, hy =>
    obtain ⟨x, h1, h2⟩ := ha.down (x := y0) h0
    obtain ⟨z, h3, h4⟩ := hb.down (cs := cs) ys (by omega) (by simpa using hy) (fun i g hg => by simpa using h (i + 1) g (by simpa using hg))
    refine ⟨(x, z), ?_, h2, h4⟩
    have := h1.app h3
    rw [← List.drop_drop, List.take_append_drop] at this
    exact this
theorem RdB.struct {α : Type} {P : Program} {t sz : Nat} {fs : Array Field} {d : α → List D} {ok : α → Prop} (ht : P.underlying t = some (.struct fs)) (hc : P.cellsOf t = sz) (hf : FRdB P 0 fs.toList sz d ok) : RdB P t d ok := by
  refine ⟨fun {H enc w base spare held fuel cs x} h => ?_⟩
  obtain ⟨xs, n, _, _, hl, hx, hi⟩ := DataW.trod_struct ht h
  have := hf.down (cs := cs) xs (by omega) (by simpa using hx) (fun i f hf => hi i f (by simpa using hf))
  simpa using this
/-- An argument that is a struct; one that is a slice. -/
theorem RdB.argS {α H : Type} {enc : TypeId × Value → H} {P : Program} {w : World} {base : Nat} {spare : Nat → Bool} {held : Bool} {t : TypeId} {d : α → List D} {ok : α → Prop} {cs : Array Value} {x : DataW H} {p : List MemPlace}
    (hd : RdB P t d ok) (h : DataW.Trod enc P w base spare held t (.agg cs) x p) : ∃ y : α, All2 (RepD w (· < w.heap.size)) (d y) cs.toList ∧ ok y := by
  obtain ⟨fuel, hf⟩ := h
  exact hd.down hf
theorem RdB.arg1 {α H : Type} {enc : TypeId × Value → H} {P : Program} {w : World} {base : Nat} {spare : Nat → Bool} {held : Bool} {t : TypeId} {d : α → D} {ok : α → Prop} {a : Option Addr} {len cap : Nat} {x : DataW H} {p : List MemPlace}
    (hd : RdB P t (fun y => [d y]) ok) (h : DataW.Trod enc P w base spare held t (.slice a len cap) x p) : ∃ y : α, RepD w (· < w.heap.size) (d y) (.slice a len cap) ∧ ok y := by
  obtain ⟨fuel, hf⟩ := h
  obtain ⟨y, h1, h2⟩ := hd.down hf
  simp [Value.cells] at h1
  cases h1 with
  | cons h _ => exact ⟨y, h, h2⟩
/-- A law's contract, of data alone: it gives its value, and leaves what was there. -/
theorem AC.run {P : Program} {f : FuncId} {args : List TV} {b : Bool} {n : Nat} (h : AC P f args noHp 0 ⟨.t (bT b), noHp, n⟩) {W : World} {vs : List Value} (hv : All2 (RepT ⟨W, fun _ => 0, fun _ => .bool false, fun _ => 0, (· < W.heap.size), fun _ => False⟩) args vs) :
    Calls P f vs.toArray W fun e W' => e = .returned (.bool b) ∧ Below W.heap.size W W' := by
  have g : Good ⟨W, fun _ => 0, fun _ => .bool false, fun _ => 0, (· < W.heap.size), fun _ => False⟩ noHp := by
    refine ⟨fun m o hm => ?_, fun m o hm => ?_, fun b hb => ?_, fun m o m' o' b hm => ?_, fun b hb => hb⟩
    · simp [noHp] at hm
    · simp [noHp] at hm
    · obtain ⟨m, o, hm, _⟩ := hb; simp [noHp] at hm
    · simp [noHp] at hm
  refine Calls.mono (h.2 _ vs g (fun m hm => hm.elim) hv) fun e w' => ?_
  rintro ⟨v, c', rfl, rfl, t, _, r, _⟩
  refine ⟨by rw [show v = .bool b by cases r; rfl], t.os, t.tape, t.output, t.size, fun k hk => t.keep k hk ?_⟩
  rintro ⟨m, o, hm, _⟩
  simp [noHp] at hm
def okY (c : List Int) : Prop := c.length ≤ maxLen ∧ ∀ x ∈ c, (Lit.int .u8 x).wf = true
theorem okY.byte {c : List Int} (h : okY c) : byteL (c.take 2000) := by
  refine ⟨by rw [List.length_take]; omega, fun x hx => ?_⟩
  have := h.2 x (List.mem_of_mem_take hx)
  simp only [Lit.wf, IntKind.min, IntKind.max, Bool.and_eq_true, decide_eq_true_eq] at this
  simp [IntKind.signed, IntKind.bits] at this
  omega
theorem rdBytes : RdB Tryz.prog 38 (fun r => [.rs 1 (r.map u8D)]) okY := RdB.slice Tryz.underlying38 (by kernel_rfl) (RdB.int Tryz.underlying5)
theorem runAtS_ac (r : List Ent) (k : ByteArray) (t : Int) (hs : SmR r) (hr : runOk r = true) : AC Tryz.prog 21 [runT r, sT k, iT t] noHp 0 ⟨resE (atM r k t), noHp, 0⟩ := by
  have k1 := runOk_ac r hs
  rw [hr] at k1
  have k2 := at_ac r k t hs
  generalize atM r k t = z at k2 ⊢
  refine AC_of Tryz.func21 rfl Tryz.ntmps21 Tryz.results21 (by kernel_rfl) rfl ?_
  simp only [List.zipIdx, List.map, Nat.zero_add, Nat.reduceAdd]
  repeat (first | apply Aw_seq | apply Aw_block | apply Aw_skip | apply Aw_exit | refine Aw_condt rfl ?_ | refine Aw_condf rfl ?_ | ((first | refine qr ?_ | refine qd (by kernel_rfl) (by kernel_rfl) ?_); simp only [go_sem, reduceEqDiff, reduceIte, reduceAdd, reduceMul, reduceSub, reduceLT, reduceLeDiff, Nat.reduceBEq]) | refine dk (by kernel_rfl) ?_ | (refine qp (k1) (by simp only [go_sem, reduceEqDiff, reduceIte, reduceAdd, reduceMul, reduceSub, reduceLT, reduceLeDiff, Nat.reduceBEq]; first | done | rfl) rfl (by simp only [go_sem, Nat.reduceLT]) rfl rfl ?_; simp only [go_sem, reduceEqDiff, reduceIte, reduceAdd, reduceMul, reduceSub, reduceLT, reduceLeDiff, Nat.reduceBEq]) | (refine qp (k2) (by simp only [go_sem, reduceEqDiff, reduceIte, reduceAdd, reduceMul, reduceSub, reduceLT, reduceLeDiff, Nat.reduceBEq]; first | done | rfl) rfl (by simp only [go_sem, Nat.reduceLT]) rfl rfl ?_; simp only [go_sem, reduceEqDiff, reduceIte, reduceAdd, reduceMul, reduceSub, reduceLT, reduceLeDiff, Nat.reduceBEq]))
  exact Aw_ret (ret0 (.inl rfl) (by simp only [go_sem, reduceEqDiff, reduceIte, reduceAdd, reduceMul, reduceSub, reduceLT, reduceLeDiff, Nat.reduceBEq]; rfl) (by rfl) rfl)
def firstM (k : ByteArray) (t : Int) : List (List Ent) → Option Ent
  | [] => none
  | r :: rs => match atM r k t with
    | some e => some e
    | none => firstM k t rs
theorem firstM_app (k : ByteArray) (t : Int) (r : List Ent) : ∀ l : List (List Ent), firstM k t (l ++ [r]) = match firstM k t l with
    | some e => some e
    | none => atM r k t
  | [] => by simp only [List.nil_append, firstM]; cases atM r k t <;> rfl
  | q :: l => by
    simp only [List.cons_append, firstM]
    cases atM q k t with
    | some e => rfl
    | none => exact firstM_app k t r l
theorem firstM_mem {k : ByteArray} {t : Int} : ∀ {l : List (List Ent)} {e : Ent}, firstM k t l = some e → ∃ r ∈ l, atM r k t = some e
  | [], e, h => by simp [firstM] at h
  | r :: rs, e, h => by
    simp only [firstM] at h
    split at h
    · rename_i x hx
      cases h
      exact ⟨r, by simp, hx⟩
    · obtain ⟨q, hq, hh⟩ := firstM_mem h
      exact ⟨q, List.mem_cons_of_mem _ hq, hh⟩
theorem at_hit {r : List Ent} {k : ByteArray} {t : Int} {e : Ent} (h : atM r k t = some e) : e ∈ r ∧ e.key = k := by
  refine ⟨List.mem_of_find?_eq_some h, ?_⟩
  have := List.find?_some h
  unfold hit at this
  rw [Bool.and_eq_true] at this
  exact of_decide_eq_true this.1
theorem VSt.fork {s : Sto} (hv : VSt s) {r : List Ent} (hr : r ∈ s.levels) : Fork (keysM r, 0) ∧ runOk r = true := by
  obtain ⟨i, hi⟩ := List.mem_iff_getElem?.1 hr
  have hil := (List.getElem?_eq_some_iff.1 hi).1
  have hll := hv.ll
  have hsl := hv.sl
  obtain ⟨h1, _, h3⟩ := hv.sv i r _ hi (List.getElem?_eq_getElem (show i < s.sieves.length by omega))
  exact ⟨h1.hf, h3⟩
theorem mem_keysM {r : List Ent} (h : r.Pairwise fun a b => before a b = true) {e : Ent} (he : e ∈ r) : e.key ∈ keysM r := by
  obtain ⟨i, hi, rfl⟩ := List.getElem_of_mem he
  have key : ∀ n (hn : n < r.length), ∃ j, ∃ hj : j < r.length, r[j].key = r[n].key ∧ keyAt r j = [r[j].key] := by
    intro n
    induction n with
    | zero => intro hn; exact ⟨0, hn, rfl, by unfold keyAt; rw [List.getElem?_eq_getElem hn]⟩
    | succ n ih =>
      intro hn
      by_cases c : r[n].key = r[n + 1].key
      · obtain ⟨j, hj, e1, e2⟩ := ih (by omega)
        exact ⟨j, hj, by rw [e1, c], e2⟩
      · refine ⟨n + 1, hn, rfl, ?_⟩
        unfold keyAt
        rw [List.getElem?_eq_getElem hn]
        simp only
        rw [List.getElem?_eq_getElem (show n < r.length by omega)]
        simp only
        rw [if_neg c]
  obtain ⟨j, hj, e1, e2⟩ := key i hi
  rw [← e1]
  unfold keysM colI
  exact List.mem_flatMap.2 ⟨j, List.mem_range.2 hj, by rw [e2]; simp⟩
theorem findL_first {keep : Nat} {k : ByteArray} {t : Int} : ∀ {l : List (List Ent)}, (∀ r ∈ l, ∀ e, atM r k t = some e → hasM keep (keysM r) k = true) → findL keep k t l = firstM k t l
  | [], _ => rfl
  | r :: rs, h => by
    have ih := findL_first (l := rs) fun q hq => h q (List.mem_cons_of_mem _ hq)
    simp only [findL, firstM]
    cases c : atM r k t with
    | some e => rw [h r (by simp) e c]; simp
    | none => simp [ih]
theorem find_first {s : Sto} (h : storeS s = true) (k : ByteArray) (t : Int) : findM s k t = firstM k t (s.top :: s.levels) := by
  have hv := vst_of h
  unfold findM
  simp only [firstM]
  rw [findL_first (l := s.levels) (keep := s.keep.toNat) fun r hr e he => by
    obtain ⟨h1, h2⟩ := at_hit he
    obtain ⟨f1, f2⟩ := hv.fork hr
    refine has_mem f1 ?_
    rw [← h2]
    exact mem_keysM (run_pw f2).1 h1]
  all_goals (cases atM s.top k t <;> rfl)
/-- Those above are newer. -/
theorem newer_runs {s : Sto} (h : storeS s = true) {i j : Nat} {a b : List Ent} (hij : i < j) (ha : (s.top :: s.levels)[i]? = some a) (hb : (s.top :: s.levels)[j]? = some b) : newerM a b = true := by
  obtain ⟨l1, l2, l3, l4, l5⟩ := lv_of h
  have hll := (vst_of h).ll
  have gd : ∀ (n : Nat) (q : List Ent), s.levels[n]? = some q → s.levels.getD n [] = q := fun n q hq => by rw [List.getD_eq_getElem?_getD, hq]; rfl
  cases j with
  | zero => omega
  | succ j =>
    rw [List.getElem?_cons_succ] at hb
    have hjl := (List.getElem?_eq_some_iff.1 hb).1
    cases i with
    | zero =>
      simp only [List.getElem?_cons_zero, Option.some.injEq] at ha
      subst ha
      have := l4 j (by omega)
      rwa [gd j b hb] at this
    | succ i =>
      rw [List.getElem?_cons_succ] at ha
      have := l1.newer i j (by omega) (by omega)
      rwa [gd i a ha, gd j b hb] at this
theorem runs_ok {s : Sto} (h : storeS s = true) {r : List Ent} (hr : r ∈ s.top :: s.levels) : runOk r = true := by
  obtain ⟨h1, h2⟩ := storeS_runs h
  rcases List.mem_cons.1 hr with rfl | hr
  · exact h1
  · exact h2 r hr
theorem ent_time {e : Ent} (h : entOk e = true) : 0 < e.time := by
  unfold entOk inB at h
  simp only [Bool.and_eq_true, decide_eq_true_eq] at h
  omega
def fsT (s : Sto) (k : ByteArray) (t : Int) (i : Nat) : Option Ent := firstM k t ((s.top :: s.levels).take i)
theorem fsT_succ {s : Sto} {k : ByteArray} {t : Int} {i : Nat} {r : List Ent} (h : (s.top :: s.levels)[i]? = some r) : fsT s k t (i + 1) = match fsT s k t i with
    | some e => some e
    | none => atM r k t := by
  unfold fsT
  rw [List.take_add_one, h]
  exact firstM_app k t r _
theorem fs_newer {s : Sto} (h : storeS s = true) {k : ByteArray} {t : Int} {i : Nat} {r : List Ent} {e x : Ent} (hr : (s.top :: s.levels)[i]? = some r) (he : fsT s k t i = some e) (hx : atM r k t = some x) : x.time < e.time := by
  obtain ⟨q, hq, hh⟩ := firstM_mem he
  obtain ⟨j, hj⟩ := List.mem_iff_getElem?.1 hq
  have hji : j < i := by
    have := (List.getElem?_eq_some_iff.1 hj).1
    rw [List.length_take] at this; omega
  rw [List.getElem?_take, if_pos hji] at hj
  obtain ⟨a1, a2⟩ := at_hit hh
  obtain ⟨b1, b2⟩ := at_hit hx
  exact newer_iff.1 (newer_runs h hji hj hr) e a1 x b1 (by rw [a2, b2])
@[go_sem] theorem all_lvD (q : List (List Ent)) : (List.map (fun x => List.map CV.d x) (List.map lvD q)).all (fun cs => cs.length == 1) = true := by simp [lvD]
theorem law_StoreGetAllD (c : List Int) (ho : okY c) : AC Tryz.prog 5 [bytesT c] noHp 0 ⟨.t (bT true), noHp, 0⟩ := by
  refine AC_of Tryz.func5 rfl Tryz.ntmps5 Tryz.results5 (by kernel_rfl) rfl ?_
  simp only [List.zipIdx, List.map, Nat.zero_add, Nat.reduceAdd]
  by_cases hc : c.length ≤ 1048576
  case neg =>
    have g0 : decide ((1048576 : Int) < (c.length : Int)) = true := decide_eq_true (by omega)
    repeat (first | apply Aw_seq | apply Aw_block | apply Aw_skip | apply Aw_exit | refine Aw_condt rfl ?_ | refine Aw_condf rfl ?_ | ((first | refine qr ?_ | refine qd (by kernel_rfl) (by kernel_rfl) ?_); simp only [go_sem, reduceEqDiff, reduceIte, reduceAdd, reduceMul, reduceSub, reduceLT, reduceLeDiff, Nat.reduceBEq, g0]) | refine dk (by kernel_rfl) ?_)
    exact Aw_ret (ret0 (.inl rfl) (by simp only [go_sem, reduceEqDiff, reduceIte, reduceAdd, reduceMul, reduceSub, reduceLT, reduceLeDiff, Nat.reduceBEq]; rfl) (by rfl) rfl)
  have g0 : decide ((1048576 : Int) < (c.length : Int)) = false := decide_eq_false (by omega)
  have hb := ho.byte
  have k0 := drawStoreGet_ac c (by omega) hb
  obtain ⟨hs, hk⟩ := dslV_st hb
  generalize dslV (c.take 2000) = sk at k0 hs hk
  generalize dsgV (c.take 2000) = t at k0
  obtain ⟨s, k⟩ := sk
  dsimp only at k0 hs hk
  have k1 := storeGet_ac s hs k hk t
  have k2 := sstoreGet_ac s hs k hk t
  have k3 := sstoreOk_ac s hs
  have k4 := skeyOk_ac k hk
  cases c1 : storeS s
  · rw [c1] at k3
    generalize getM s k t = z at k1 k2
    repeat (first | apply Aw_seq | apply Aw_block | apply Aw_skip | apply Aw_exit | refine Aw_condt rfl ?_ | refine Aw_condf rfl ?_ | ((first | refine qr ?_ | refine qd (by kernel_rfl) (by kernel_rfl) ?_); simp only [go_sem, reduceEqDiff, reduceIte, reduceAdd, reduceMul, reduceSub, reduceLT, reduceLeDiff, Nat.reduceBEq, g0, iref, bref]) | refine dk (by kernel_rfl) ?_ | (refine qp (k0) (by simp only [go_sem, reduceEqDiff, reduceIte, reduceAdd, reduceMul, reduceSub, reduceLT, reduceLeDiff, Nat.reduceBEq, g0, iref, bref]; first | done | rfl) rfl (by simp only [go_sem, Nat.reduceLT]) rfl rfl ?_; simp only [go_sem, reduceEqDiff, reduceIte, reduceAdd, reduceMul, reduceSub, reduceLT, reduceLeDiff, Nat.reduceBEq, g0, iref, bref]) | (refine qp (k1) (by simp only [go_sem, reduceEqDiff, reduceIte, reduceAdd, reduceMul, reduceSub, reduceLT, reduceLeDiff, Nat.reduceBEq, g0, iref, bref]; first | done | rfl) rfl (by simp only [go_sem, Nat.reduceLT]) rfl rfl ?_; simp only [go_sem, reduceEqDiff, reduceIte, reduceAdd, reduceMul, reduceSub, reduceLT, reduceLeDiff, Nat.reduceBEq, g0, iref, bref]) | (refine qp (k2) (by simp only [go_sem, reduceEqDiff, reduceIte, reduceAdd, reduceMul, reduceSub, reduceLT, reduceLeDiff, Nat.reduceBEq, g0, iref, bref]; first | done | rfl) rfl (by simp only [go_sem, Nat.reduceLT]) rfl rfl ?_; simp only [go_sem, reduceEqDiff, reduceIte, reduceAdd, reduceMul, reduceSub, reduceLT, reduceLeDiff, Nat.reduceBEq, g0, iref, bref]) | (refine qp (k3) (by simp only [go_sem, reduceEqDiff, reduceIte, reduceAdd, reduceMul, reduceSub, reduceLT, reduceLeDiff, Nat.reduceBEq, g0, iref, bref]; first | done | rfl) rfl (by simp only [go_sem, Nat.reduceLT]) rfl rfl ?_; simp only [go_sem, reduceEqDiff, reduceIte, reduceAdd, reduceMul, reduceSub, reduceLT, reduceLeDiff, Nat.reduceBEq, g0, iref, bref]))
    exact Aw_ret (ret0 (.inl rfl) (by simp only [go_sem, reduceEqDiff, reduceIte, reduceAdd, reduceMul, reduceSub, reduceLT, reduceLeDiff, Nat.reduceBEq]; rfl) (by rfl) rfl)
  rw [c1] at k3
  cases c2 : keyOk k
  · rw [c2] at k4
    generalize getM s k t = z at k1 k2
    repeat (first | apply Aw_seq | apply Aw_block | apply Aw_skip | apply Aw_exit | refine Aw_condt rfl ?_ | refine Aw_condf rfl ?_ | ((first | refine qr ?_ | refine qd (by kernel_rfl) (by kernel_rfl) ?_); simp only [go_sem, reduceEqDiff, reduceIte, reduceAdd, reduceMul, reduceSub, reduceLT, reduceLeDiff, Nat.reduceBEq, g0, iref, bref]) | refine dk (by kernel_rfl) ?_ | (refine qp (k0) (by simp only [go_sem, reduceEqDiff, reduceIte, reduceAdd, reduceMul, reduceSub, reduceLT, reduceLeDiff, Nat.reduceBEq, g0, iref, bref]; first | done | rfl) rfl (by simp only [go_sem, Nat.reduceLT]) rfl rfl ?_; simp only [go_sem, reduceEqDiff, reduceIte, reduceAdd, reduceMul, reduceSub, reduceLT, reduceLeDiff, Nat.reduceBEq, g0, iref, bref]) | (refine qp (k1) (by simp only [go_sem, reduceEqDiff, reduceIte, reduceAdd, reduceMul, reduceSub, reduceLT, reduceLeDiff, Nat.reduceBEq, g0, iref, bref]; first | done | rfl) rfl (by simp only [go_sem, Nat.reduceLT]) rfl rfl ?_; simp only [go_sem, reduceEqDiff, reduceIte, reduceAdd, reduceMul, reduceSub, reduceLT, reduceLeDiff, Nat.reduceBEq, g0, iref, bref]) | (refine qp (k2) (by simp only [go_sem, reduceEqDiff, reduceIte, reduceAdd, reduceMul, reduceSub, reduceLT, reduceLeDiff, Nat.reduceBEq, g0, iref, bref]; first | done | rfl) rfl (by simp only [go_sem, Nat.reduceLT]) rfl rfl ?_; simp only [go_sem, reduceEqDiff, reduceIte, reduceAdd, reduceMul, reduceSub, reduceLT, reduceLeDiff, Nat.reduceBEq, g0, iref, bref]) | (refine qp (k3) (by simp only [go_sem, reduceEqDiff, reduceIte, reduceAdd, reduceMul, reduceSub, reduceLT, reduceLeDiff, Nat.reduceBEq, g0, iref, bref]; first | done | rfl) rfl (by simp only [go_sem, Nat.reduceLT]) rfl rfl ?_; simp only [go_sem, reduceEqDiff, reduceIte, reduceAdd, reduceMul, reduceSub, reduceLT, reduceLeDiff, Nat.reduceBEq, g0, iref, bref]) | (refine qp (k4) (by simp only [go_sem, reduceEqDiff, reduceIte, reduceAdd, reduceMul, reduceSub, reduceLT, reduceLeDiff, Nat.reduceBEq, g0, iref, bref]; first | done | rfl) rfl (by simp only [go_sem, Nat.reduceLT]) rfl rfl ?_; simp only [go_sem, reduceEqDiff, reduceIte, reduceAdd, reduceMul, reduceSub, reduceLT, reduceLeDiff, Nat.reduceBEq, g0, iref, bref]))
    exact Aw_ret (ret0 (.inl rfl) (by simp only [go_sem, reduceEqDiff, reduceIte, reduceAdd, reduceMul, reduceSub, reduceLT, reduceLeDiff, Nat.reduceBEq]; rfl) (by rfl) rfl)
  rw [c2] at k4
  have hv := vst_of c1
  have hll := hv.ll
  have htl := hv.tl
  have hg : getM s k t = if knownM s t = true then ((fsT s k t 4).getD zEnt |>.val, (fsT s k t 4).isSome && !((fsT s k t 4).getD zEnt).gone) else (0, false) := by
    have e4 : fsT s k t 4 = findM s k t := by rw [find_first c1]; unfold fsT; rw [List.take_of_length_le (by simp; omega)]
    unfold getM
    rw [c1, c2, Bool.true_and, Bool.true_and, e4]
  have hft : ∀ (i : Nat) (e : Ent), fsT s k t i = some e → 0 < e.time := fun i e he => by
    obtain ⟨q, hq, hh⟩ := firstM_mem he
    exact ent_time ((run_pw (runs_ok c1 (List.mem_of_mem_take hq))).2.1 e (at_hit hh).1)
  generalize getM s k t = z at k1 k2 hg
  have e0 : decide (t = s.time) = knT s t 0 := by unfold knT; simp
  have e1 : knownM s t = knT s t s.times.length := by unfold knT knownM; rw [List.take_length]
  rw [e1] at hg
  repeat (first | apply Aw_seq | apply Aw_block | apply Aw_skip | apply Aw_exit | refine Aw_condt rfl ?_ | refine Aw_condf rfl ?_ | ((first | refine qr ?_ | refine qd (by kernel_rfl) (by kernel_rfl) ?_); simp only [go_sem, reduceEqDiff, reduceIte, reduceAdd, reduceMul, reduceSub, reduceLT, reduceLeDiff, Nat.reduceBEq, g0, iref, bref, e0]) | refine dk (by kernel_rfl) ?_ | (refine qp (k0) (by simp only [go_sem, reduceEqDiff, reduceIte, reduceAdd, reduceMul, reduceSub, reduceLT, reduceLeDiff, Nat.reduceBEq, g0, iref, bref, e0]; first | done | rfl) rfl (by simp only [go_sem, Nat.reduceLT]) rfl rfl ?_; simp only [go_sem, reduceEqDiff, reduceIte, reduceAdd, reduceMul, reduceSub, reduceLT, reduceLeDiff, Nat.reduceBEq, g0, iref, bref, e0]) | (refine qp (k1) (by simp only [go_sem, reduceEqDiff, reduceIte, reduceAdd, reduceMul, reduceSub, reduceLT, reduceLeDiff, Nat.reduceBEq, g0, iref, bref, e0]; first | done | rfl) rfl (by simp only [go_sem, Nat.reduceLT]) rfl rfl ?_; simp only [go_sem, reduceEqDiff, reduceIte, reduceAdd, reduceMul, reduceSub, reduceLT, reduceLeDiff, Nat.reduceBEq, g0, iref, bref, e0]) | (refine qp (k2) (by simp only [go_sem, reduceEqDiff, reduceIte, reduceAdd, reduceMul, reduceSub, reduceLT, reduceLeDiff, Nat.reduceBEq, g0, iref, bref, e0]; first | done | rfl) rfl (by simp only [go_sem, Nat.reduceLT]) rfl rfl ?_; simp only [go_sem, reduceEqDiff, reduceIte, reduceAdd, reduceMul, reduceSub, reduceLT, reduceLeDiff, Nat.reduceBEq, g0, iref, bref, e0]) | (refine qp (k3) (by simp only [go_sem, reduceEqDiff, reduceIte, reduceAdd, reduceMul, reduceSub, reduceLT, reduceLeDiff, Nat.reduceBEq, g0, iref, bref, e0]; first | done | rfl) rfl (by simp only [go_sem, Nat.reduceLT]) rfl rfl ?_; simp only [go_sem, reduceEqDiff, reduceIte, reduceAdd, reduceMul, reduceSub, reduceLT, reduceLeDiff, Nat.reduceBEq, g0, iref, bref, e0]) | (refine qp (k4) (by simp only [go_sem, reduceEqDiff, reduceIte, reduceAdd, reduceMul, reduceSub, reduceLT, reduceLeDiff, Nat.reduceBEq, g0, iref, bref, e0]; first | done | rfl) rfl (by simp only [go_sem, Nat.reduceLT]) rfl rfl ?_; simp only [go_sem, reduceEqDiff, reduceIte, reduceAdd, reduceMul, reduceSub, reduceLT, reduceLeDiff, Nat.reduceBEq, g0, iref, bref, e0]))
  refine Aw.rw (rwL (l' := [(11, .t (iT (0 : Nat))), (10, .t (bT (knT s t 0))), (9, .t (bT z.2)), (8, .t (iT z.1)), (5, .t (iT t)), (4, .t (sT k)), (3, .t (.c (.ph 0 0 0)))]) (os := [some (stO s)]) (M := [9]) (n' := 1) (by repeat (first | exact trivial | refine ⟨rfl, rfl, ?_⟩)) (by rfl) (by simp only [go_sem, reduceEqDiff, reduceIte, reduceAdd, reduceMul, reduceSub, reduceLT, reduceLeDiff, Nat.reduceBEq]; first | done | rfl) (by decide) (by intro m hm; first | omega | (rcases m with _ | _ | _ | _ | _ | _ | m <;> first | exact ⟨by decide, rfl⟩ | omega))) ?_
  refine Aw_loop_rw (ι := { i : Nat // i ≤ s.times.length }) (fun q => S [(11, .t (iT (q.1 : Nat))), (10, .t (bT (knT s t q.1))), (9, .t (bT z.2)), (8, .t (iT z.1)), (5, .t (iT t)), (4, .t (sT k)), (3, .t (.c (.ph 0 0 0)))] (hpL [some (stO s)]) 1) (fun q => s.times.length - q.1) ⟨0, Nat.zero_le _⟩ ?_
  rintro ⟨i, hi⟩
  dsimp only
  by_cases hlt : i < s.times.length
  · have g1 : decide ((i : Int) < (s.times.length : Int)) = true := decide_eq_true (by omega)
    have w := wrap_succ hlt (by omega)
    obtain ⟨y, hy⟩ : ∃ e, s.times[i]? = some e := ⟨_, List.getElem?_eq_getElem hlt⟩
    have hsu := knT_succ (t := t) hy
    cases c3 : knT s t i
    · rw [c3, Bool.false_or] at hsu
      repeat (first | apply Aw_seq | apply Aw_block | apply Aw_skip | apply Aw_exit | refine Aw_condt rfl ?_ | refine Aw_condf rfl ?_ | ((first | refine qr ?_ | refine qd (by kernel_rfl) (by kernel_rfl) ?_); simp only [go_sem, reduceEqDiff, reduceIte, reduceAdd, reduceMul, reduceSub, reduceLT, reduceLeDiff, Nat.reduceBEq, g1, w, hy]) | refine dk (by kernel_rfl) ?_)
      refine ⟨⟨i + 1, hlt⟩, [0], ?_, ?_⟩
      rotate_left
      dsimp only
      rw [hsu]
      exact rwL (by repeat (first | exact trivial | refine ⟨rfl, rfl, ?_⟩)) (by rfl) (by simp only [go_sem, reduceEqDiff, reduceIte, reduceAdd, reduceMul, reduceSub, reduceLT, reduceLeDiff, Nat.reduceBEq]; first | done | rfl) (by decide) (by intro m hm; first | omega | (rcases m with _ | _ | _ | _ | _ | _ | m <;> first | exact ⟨by decide, rfl⟩ | omega))
      show s.times.length - (i + 1) < s.times.length - i; omega
    · rw [c3, Bool.true_or] at hsu
      repeat (first | apply Aw_seq | apply Aw_block | apply Aw_skip | apply Aw_exit | refine Aw_condt rfl ?_ | refine Aw_condf rfl ?_ | ((first | refine qr ?_ | refine qd (by kernel_rfl) (by kernel_rfl) ?_); simp only [go_sem, reduceEqDiff, reduceIte, reduceAdd, reduceMul, reduceSub, reduceLT, reduceLeDiff, Nat.reduceBEq, g1, w, hy]) | refine dk (by kernel_rfl) ?_)
      refine ⟨⟨i + 1, hlt⟩, [0], ?_, ?_⟩
      rotate_left
      dsimp only
      rw [hsu]
      exact rwL (by repeat (first | exact trivial | refine ⟨rfl, rfl, ?_⟩)) (by rfl) (by simp only [go_sem, reduceEqDiff, reduceIte, reduceAdd, reduceMul, reduceSub, reduceLT, reduceLeDiff, Nat.reduceBEq]; first | done | rfl) (by decide) (by intro m hm; first | omega | (rcases m with _ | _ | _ | _ | _ | _ | m <;> first | exact ⟨by decide, rfl⟩ | omega))
      show s.times.length - (i + 1) < s.times.length - i; omega
  · have g1 : decide ((i : Int) < (s.times.length : Int)) = false := decide_eq_false (by omega)
    obtain rfl : i = s.times.length := by omega
    generalize knT s t s.times.length = kn at hg ⊢
    have q1 : ((1 + s.levels.length) * 24 ≤ 140737488355328) = True := eq_true (by omega)
    have q2 : ((s.levels.length + 1) * 24 ≤ 140737488355328) = True := eq_true (by omega)
    have f0 : ∀ d : Ent, (fsT s k t 0).getD d = d := fun d => rfl
    repeat (first | apply Aw_seq | apply Aw_block | apply Aw_skip | apply Aw_exit | refine Aw_condt rfl ?_ | refine Aw_condf rfl ?_ | ((first | refine qr ?_ | refine qd (by kernel_rfl) (by kernel_rfl) ?_); simp only [go_sem, reduceEqDiff, reduceIte, reduceAdd, reduceMul, reduceSub, reduceLT, reduceLeDiff, Nat.reduceBEq, g1, q1, q2]) | refine dk (by kernel_rfl) ?_)
    refine Aw.rw (rwL (l' := [(14, .t (iT (0 : Nat))), (13, .t (.c (.h 1))), (12, .t (.c (.ph 0 0 0))), (10, .t (bT kn)), (9, .t (bT z.2)), (8, .t (iT z.1)), (5, .t (iT t)), (4, .t (sT k))]) (os := [some (enO ((fsT s k t 0).getD zEnt)), some (lvRow (s.top :: s.levels))]) (M := [7, 14]) (n' := 2) (by repeat (first | exact trivial | refine ⟨rfl, rfl, ?_⟩)) (by rfl) (by simp only [go_sem, reduceEqDiff, reduceIte, reduceAdd, reduceMul, reduceSub, reduceLT, reduceLeDiff, Nat.reduceBEq, f0, zEnt, List.map_cons]; first | done | rfl) (by decide) (by intro m hm; first | omega | (rcases m with _ | _ | _ | _ | _ | _ | m <;> first | exact ⟨by decide, rfl⟩ | omega))) ?_
    obtain ⟨R, hR⟩ : ∃ R, R = s.top :: s.levels := ⟨_, rfl⟩
    have hRl : R.length = 4 := by rw [hR]; simp; omega
    rw [← hR]
    refine Aw_loop_rw (ι := { i : Nat // i ≤ 4 }) (fun q => S [(14, .t (iT (q.1 : Nat))), (13, .t (.c (.h 1))), (12, .t (.c (.ph 0 0 0))), (10, .t (bT kn)), (9, .t (bT z.2)), (8, .t (iT z.1)), (5, .t (iT t)), (4, .t (sT k))] (hpL [some (enO ((fsT s k t q.1).getD zEnt)), some (lvRow R)]) 2) (fun q => 4 - q.1) ⟨0, Nat.zero_le _⟩ ?_
    rintro ⟨j, hj⟩
    dsimp only
    by_cases hlt2 : j < 4
    · have g2 : decide ((j : Int) < (R.length : Int)) = true := decide_eq_true (by omega)
      have w := wrap_succ hlt2 (by omega)
      have hjl : (j < R.length) = True := eq_true (by omega)
      obtain ⟨r, hr⟩ : ∃ r, R[j]? = some r := ⟨_, List.getElem?_eq_getElem (by omega)⟩
      have hrm := List.mem_of_getElem? hr
      have hr2 := hr
      rw [hR] at hrm hr2
      have hsr : SmR r := by
        rcases List.mem_cons.1 hrm with rfl | h
        · exact hs.top
        · exact hs.lev r h
      have k5 := runAtS_ac r k t hsr (runs_ok c1 hrm)
      have hsu := fsT_succ (k := k) (t := t) hr2
      cases c3 : fsT s k t j with
      | some e =>
        rw [c3] at hsu
        simp only at hsu
        have e2 : ((fsT s k t (j + 1)).getD zEnt) = e := by rw [hsu]; rfl
        have e3 : ∀ d : Ent, (some e).getD d = e := fun d => rfl
        cases c4 : atM r k t with
        | none =>
          rw [c4] at k5
          repeat (first | apply Aw_seq | apply Aw_block | apply Aw_skip | apply Aw_exit | refine Aw_condt rfl ?_ | refine Aw_condf rfl ?_ | ((first | refine qr ?_ | refine qd (by kernel_rfl) (by kernel_rfl) ?_); simp only [go_sem, reduceEqDiff, reduceIte, reduceAdd, reduceMul, reduceSub, reduceLT, reduceLeDiff, Nat.reduceBEq, g2, w, hjl, hr, e3]) | refine dk (by kernel_rfl) ?_ | (refine qp (k5) (by simp only [go_sem, reduceEqDiff, reduceIte, reduceAdd, reduceMul, reduceSub, reduceLT, reduceLeDiff, Nat.reduceBEq, g2, w, hjl, hr, e3]; first | done | rfl) rfl (by simp only [go_sem, Nat.reduceLT]) rfl rfl ?_; simp only [go_sem, reduceEqDiff, reduceIte, reduceAdd, reduceMul, reduceSub, reduceLT, reduceLeDiff, Nat.reduceBEq, g2, w, hjl, hr, e3]))
          refine ⟨⟨j + 1, hlt2⟩, [0, 1], ?_, rwL (by repeat (first | exact trivial | refine ⟨rfl, rfl, ?_⟩)) (by rfl) (by simp only [go_sem, reduceEqDiff, reduceIte, reduceAdd, reduceMul, reduceSub, reduceLT, reduceLeDiff, Nat.reduceBEq, e2]; first | done | rfl) (by decide) (by intro m hm; first | omega | (rcases m with _ | _ | _ | _ | _ | _ | m <;> first | exact ⟨by decide, rfl⟩ | omega))⟩
          show 4 - (j + 1) < 4 - j; omega
        | some x =>
          rw [c4] at k5
          have k5 : AC Tryz.prog 21 [runT r, sT k, iT t] noHp 0 ⟨.tup [entT x, bT true], noHp, 0⟩ := k5
          have hlx := fs_newer c1 hr2 c3 c4
          have g3 : decide (e.time < x.time) = false := decide_eq_false (by omega)
          repeat (first | apply Aw_seq | apply Aw_block | apply Aw_skip | apply Aw_exit | refine Aw_condt rfl ?_ | refine Aw_condf rfl ?_ | ((first | refine qr ?_ | refine qd (by kernel_rfl) (by kernel_rfl) ?_); simp only [go_sem, reduceEqDiff, reduceIte, reduceAdd, reduceMul, reduceSub, reduceLT, reduceLeDiff, Nat.reduceBEq, g2, w, hjl, hr, e3, g3]) | refine dk (by kernel_rfl) ?_ | (refine qp (k5) (by simp only [go_sem, reduceEqDiff, reduceIte, reduceAdd, reduceMul, reduceSub, reduceLT, reduceLeDiff, Nat.reduceBEq, g2, w, hjl, hr, e3, g3]; first | done | rfl) rfl (by simp only [go_sem, Nat.reduceLT]) rfl rfl ?_; simp only [go_sem, reduceEqDiff, reduceIte, reduceAdd, reduceMul, reduceSub, reduceLT, reduceLeDiff, Nat.reduceBEq, g2, w, hjl, hr, e3, g3]))
          refine ⟨⟨j + 1, hlt2⟩, [0, 1], ?_, rwL (by repeat (first | exact trivial | refine ⟨rfl, rfl, ?_⟩)) (by rfl) (by simp only [go_sem, reduceEqDiff, reduceIte, reduceAdd, reduceMul, reduceSub, reduceLT, reduceLeDiff, Nat.reduceBEq, e2]; first | done | rfl) (by decide) (by intro m hm; first | omega | (rcases m with _ | _ | _ | _ | _ | _ | m <;> first | exact ⟨by decide, rfl⟩ | omega))⟩
          show 4 - (j + 1) < 4 - j; omega
      | none =>
        rw [c3] at hsu
        simp only at hsu
        have e3 : ∀ d : Ent, (none : Option Ent).getD d = d := fun d => rfl
        cases c4 : atM r k t with
        | none =>
          rw [c4] at k5 hsu
          have e2 : ((fsT s k t (j + 1)).getD zEnt) = zEnt := by rw [hsu]; rfl
          repeat (first | apply Aw_seq | apply Aw_block | apply Aw_skip | apply Aw_exit | refine Aw_condt rfl ?_ | refine Aw_condf rfl ?_ | ((first | refine qr ?_ | refine qd (by kernel_rfl) (by kernel_rfl) ?_); simp only [go_sem, reduceEqDiff, reduceIte, reduceAdd, reduceMul, reduceSub, reduceLT, reduceLeDiff, Nat.reduceBEq, g2, w, hjl, hr, e3]) | refine dk (by kernel_rfl) ?_ | (refine qp (k5) (by simp only [go_sem, reduceEqDiff, reduceIte, reduceAdd, reduceMul, reduceSub, reduceLT, reduceLeDiff, Nat.reduceBEq, g2, w, hjl, hr, e3]; first | done | rfl) rfl (by simp only [go_sem, Nat.reduceLT]) rfl rfl ?_; simp only [go_sem, reduceEqDiff, reduceIte, reduceAdd, reduceMul, reduceSub, reduceLT, reduceLeDiff, Nat.reduceBEq, g2, w, hjl, hr, e3]))
          refine ⟨⟨j + 1, hlt2⟩, [0, 1], ?_, rwL (by repeat (first | exact trivial | refine ⟨rfl, rfl, ?_⟩)) (by rfl) (by simp only [go_sem, reduceEqDiff, reduceIte, reduceAdd, reduceMul, reduceSub, reduceLT, reduceLeDiff, Nat.reduceBEq, e2]; first | done | rfl) (by decide) (by intro m hm; first | omega | (rcases m with _ | _ | _ | _ | _ | _ | m <;> first | exact ⟨by decide, rfl⟩ | omega))⟩
          show 4 - (j + 1) < 4 - j; omega
        | some x =>
          rw [c4] at k5 hsu
          have e2 : ((fsT s k t (j + 1)).getD zEnt) = x := by rw [hsu]; rfl
          have k5 : AC Tryz.prog 21 [runT r, sT k, iT t] noHp 0 ⟨.tup [entT x, bT true], noHp, 0⟩ := k5
          have hx0 := hft (j + 1) x hsu
          have g3 : decide (zEnt.time < x.time) = true := decide_eq_true hx0
          repeat (first | apply Aw_seq | apply Aw_block | apply Aw_skip | apply Aw_exit | refine Aw_condt rfl ?_ | refine Aw_condf rfl ?_ | ((first | refine qr ?_ | refine qd (by kernel_rfl) (by kernel_rfl) ?_); simp only [go_sem, reduceEqDiff, reduceIte, reduceAdd, reduceMul, reduceSub, reduceLT, reduceLeDiff, Nat.reduceBEq, g2, w, hjl, hr, e3, g3]) | refine dk (by kernel_rfl) ?_ | (refine qp (k5) (by simp only [go_sem, reduceEqDiff, reduceIte, reduceAdd, reduceMul, reduceSub, reduceLT, reduceLeDiff, Nat.reduceBEq, g2, w, hjl, hr, e3, g3]; first | done | rfl) rfl (by simp only [go_sem, Nat.reduceLT]) rfl rfl ?_; simp only [go_sem, reduceEqDiff, reduceIte, reduceAdd, reduceMul, reduceSub, reduceLT, reduceLeDiff, Nat.reduceBEq, g2, w, hjl, hr, e3, g3]))
          refine ⟨⟨j + 1, hlt2⟩, [0, 1], ?_, rwL (by repeat (first | exact trivial | refine ⟨rfl, rfl, ?_⟩)) (by rfl) (by simp only [go_sem, reduceEqDiff, reduceIte, reduceAdd, reduceMul, reduceSub, reduceLT, reduceLeDiff, Nat.reduceBEq, e2]; first | done | rfl) (by decide) (by intro m hm; first | omega | (rcases m with _ | _ | _ | _ | _ | _ | m <;> first | exact ⟨by decide, rfl⟩ | omega))⟩
          show 4 - (j + 1) < 4 - j; omega
    · have g2 : decide ((j : Int) < (R.length : Int)) = false := decide_eq_false (by omega)
      obtain rfl : j = 4 := by omega
      cases kn
      · rw [if_neg (by simp)] at hg
        subst hg
        repeat (first | apply Aw_seq | apply Aw_block | apply Aw_skip | apply Aw_exit | refine Aw_condt rfl ?_ | refine Aw_condf rfl ?_ | ((first | refine qr ?_ | refine qd (by kernel_rfl) (by kernel_rfl) ?_); simp only [go_sem, reduceEqDiff, reduceIte, reduceAdd, reduceMul, reduceSub, reduceLT, reduceLeDiff, Nat.reduceBEq, g2]) | refine dk (by kernel_rfl) ?_)
        exact Aw_ret (ret0 (.inl rfl) (by simp only [go_sem, reduceEqDiff, reduceIte, reduceAdd, reduceMul, reduceSub, reduceLT, reduceLeDiff, Nat.reduceBEq]; rfl) (by rfl) rfl)
      · rw [if_pos rfl] at hg
        cases c3 : fsT s k t 4 with
        | none =>
          rw [c3] at hg
          have hg : z = (0, false) := hg
          subst hg
          have e3 : ∀ d : Ent, (none : Option Ent).getD d = d := fun d => rfl
          have g3 : decide ((0 : Int) < zEnt.time) = false := rfl
          have g4 : zEnt.gone = false := rfl
          have g5 : zEnt.val = 0 := rfl
          repeat (first | apply Aw_seq | apply Aw_block | apply Aw_skip | apply Aw_exit | refine Aw_condt rfl ?_ | refine Aw_condf rfl ?_ | ((first | refine qr ?_ | refine qd (by kernel_rfl) (by kernel_rfl) ?_); simp only [go_sem, reduceEqDiff, reduceIte, reduceAdd, reduceMul, reduceSub, reduceLT, reduceLeDiff, Nat.reduceBEq, g2, e3, g3, g4, g5]) | refine dk (by kernel_rfl) ?_)
          exact Aw_ret (ret0 (.inl rfl) (by simp only [go_sem, reduceEqDiff, reduceIte, reduceAdd, reduceMul, reduceSub, reduceLT, reduceLeDiff, Nat.reduceBEq]; rfl) (by rfl) rfl)
        | some e =>
          rw [c3] at hg
          have hg : z = (e.val, !e.gone) := hg
          subst hg
          have e3 : ∀ d : Ent, (some e).getD d = e := fun d => rfl
          have hx0 := hft 4 e c3
          have g3 : decide ((0 : Int) < e.time) = true := decide_eq_true hx0
          cases c5 : e.gone
          · repeat (first | apply Aw_seq | apply Aw_block | apply Aw_skip | apply Aw_exit | refine Aw_condt rfl ?_ | refine Aw_condf rfl ?_ | ((first | refine qr ?_ | refine qd (by kernel_rfl) (by kernel_rfl) ?_); simp only [go_sem, reduceEqDiff, reduceIte, reduceAdd, reduceMul, reduceSub, reduceLT, reduceLeDiff, Nat.reduceBEq, g2, e3, g3, c5, iref]) | refine dk (by kernel_rfl) ?_)
            exact Aw_ret (ret0 (.inl rfl) (by simp only [go_sem, reduceEqDiff, reduceIte, reduceAdd, reduceMul, reduceSub, reduceLT, reduceLeDiff, Nat.reduceBEq]; rfl) (by rfl) rfl)
          · repeat (first | apply Aw_seq | apply Aw_block | apply Aw_skip | apply Aw_exit | refine Aw_condt rfl ?_ | refine Aw_condf rfl ?_ | ((first | refine qr ?_ | refine qd (by kernel_rfl) (by kernel_rfl) ?_); simp only [go_sem, reduceEqDiff, reduceIte, reduceAdd, reduceMul, reduceSub, reduceLT, reduceLeDiff, Nat.reduceBEq, g2, e3, g3, c5, iref]) | refine dk (by kernel_rfl) ?_)
            exact Aw_ret (ret0 (.inl rfl) (by simp only [go_sem, reduceEqDiff, reduceIte, reduceAdd, reduceMul, reduceSub, reduceLT, reduceLeDiff, Nat.reduceBEq]; rfl) (by rfl) rfl)
end Go.Proofs.YtjolcfkepcmjnabGreat.Ab
