/-
  Contracts: a level that is set, a run that is pushed into levels, the program's. No condition.
  Contracts: what can be done to a store, the reference's. No condition.
  Contracts: a time that is held, or freed, the reference's. No condition.
  Contracts: deeds, one behind the other, the reference's. No condition.
  Contracts: the top that goes down, an entry that is written, the program's. No condition.
  Contracts: a store anew, the program's. No condition.
  Plain law: the forks of a sieve in the order of their numbers, and where they stand. No condition.
  Plain law: a sieve by its branches. No condition.
  Rules for rows that are lent. No condition.
  Plain law: a small number is its own remainder. No condition.
  The shelf's counting of a byte, at this seat. No condition.
  Contracts: ones of a text of bits, beginnings of keys. No condition.
  Plain law: a sieve's texts by its forks and branches. No condition.
  Plain law: what is kept of a sieve's keys has the same sieve. No condition.
  Contracts: a sieve's branches, what they lead to, what is kept of them. No condition.
  Contract: whether a sieve may have a key. No condition.
-/
import Derived.Test.YtjolcfkepcmjnaaGreatZc
import Derived.Test.YtjolcfkepcmjnaaGreatZd
import Derived.Test.YtjolcfkepcmjnaaGreatZb
import Derived.Shelf.Strings.Count
import Derived.Ground.NamesProg
namespace Go.Proofs.YtjolcfkepcmjnaaGreat.Ab
open Nat renaming reduceEqDiff → jE, reduceAdd → jA, reduceMul → jM, reduceSub → jS, reduceLT → jL, reduceLeDiff → jD, reduceBEq → jB
set_option linter.deprecated false
set_option linter.unusedVariables false
set_option linter.unusedSimpArgs false
open Go Go.Proofs
set_option maxRecDepth 10000
set_option maxHeartbeats 8000000
theorem keysOfS_ac (r : List Ent) (hs : SmR r) : AC Tryz.prog 117 [runT r] noHp 0 ⟨.t (strsT (keysM r)), noHp, 0⟩ := AC.settle0 [0] (keysOf_ac r hs) (SetC.row0 rfl rfl) rfl
def pO (s : Sto) : Obj := ⟨28, 6, false, [[.d (.rs 4 (s.top.map entD)), .h 1, .h 2, .d (.s (.int .i64 s.keep)), .d (.s (.int .i64 s.time)), .d (.rs 1 (s.times.map intD))]]⟩
@[go_sem] theorem r_pO (s : Sto) : pO s = ⟨28, 6, false, [[.d (.rs 4 (s.top.map entD)), .h 1, .h 2, .d (.s (.int .i64 s.keep)), .d (.s (.int .i64 s.time)), .d (.rs 1 (s.times.map intD))]]⟩ := rfl
def pH (s : Sto) : List (Option Obj) := [some (pO s), some (lvRow s.levels), some (svRow s.sieves)]
@[go_sem] theorem r_pH (s : Sto) : pH s = [some (pO s), some (lvRow s.levels), some (svRow s.sieves)] := rfl
theorem put_no (s : Sto) (i : Nat) (r : List Ent) (hi : i ≤ 1000) (hr : SmR r) (h : setM s i r = none) : AC Tryz.prog 149 [.c (.ph 0 0 0), iT i, runT r] (hpL (pH s)) 3 ⟨.t (bT false), hpL (pH s), 3⟩ := by
  have k1 := keysOfS_ac r hr
  have k2 := sieveS_ac (keysM r) s.keep (smS_keys hr)
  have k4 := room_ac i hi
  cases hm : sieveM (keysM r) s.keep with
  | none =>
    rw [hm] at k2
    refine AC_of Tryz.func149 rfl Tryz.ntmps149 Tryz.results149 (by kernel_rfl) rfl ?_
    simp only [List.zipIdx, List.map, Nat.zero_add, Nat.reduceAdd]
    repeat (first | apply Aw_seq | apply Aw_block | apply Aw_skip | apply Aw_exit | refine Aw_condt rfl ?_ | refine Aw_condf rfl ?_ | ((first | refine qr ?_ | refine qd (by kernel_rfl) (by kernel_rfl) ?_); simp only [go_sem, jE, reduceIte, jA, jM, jS, jL, jD, jB]) | refine dk (by kernel_rfl) ?_ | (refine qp (k1) (by simp only [go_sem, jE, reduceIte, jA, jM, jS, jL, jD, jB]; first | done | rfl) rfl (by simp only [go_sem, Nat.reduceLT]) rfl rfl ?_; simp only [go_sem, jE, reduceIte, jA, jM, jS, jL, jD, jB]) | (refine qp (k2) (by simp only [go_sem, jE, reduceIte, jA, jM, jS, jL, jD, jB]; first | done | rfl) rfl (by simp only [go_sem, Nat.reduceLT]) rfl rfl ?_; simp only [go_sem, jE, reduceIte, jA, jM, jS, jL, jD, jB]))
    exact Aw_ret (retL (M := [0, 1, 2]) (.inl rfl) (by simp only [go_sem, jE, reduceIte, jA, jM, jS, jL, jD, jB]; first | done | rfl) rfl rfl (by rfl) (by simp only [go_sem, jE, reduceIte, jA, jM, jS, jL, jD, jB]; first | done | rfl | (and_intros <;> rfl)) (by decide) (by unfold idM; decide))
  | some x =>
    rw [hm] at k2
    have k2 : AC Tryz.prog 59 [strsT (keysM r), iT s.keep] noHp 0 ⟨.tup [sveP x, bT true], noHp, 0⟩ := k2
    have h1 : decide (((8 * (i + 1) : Nat) : Int) < (r.length : Int)) = true := decide_eq_true (by unfold setM at h; rw [hm] at h; simp at h; omega)
    refine AC_of Tryz.func149 rfl Tryz.ntmps149 Tryz.results149 (by kernel_rfl) rfl ?_
    simp only [List.zipIdx, List.map, Nat.zero_add, Nat.reduceAdd]
    repeat (first | apply Aw_seq | apply Aw_block | apply Aw_skip | apply Aw_exit | refine Aw_condt rfl ?_ | refine Aw_condf rfl ?_ | ((first | refine qr ?_ | refine qd (by kernel_rfl) (by kernel_rfl) ?_); simp only [go_sem, jE, reduceIte, jA, jM, jS, jL, jD, jB, h1]) | refine dk (by kernel_rfl) ?_ | (refine qp (k1) (by simp only [go_sem, jE, reduceIte, jA, jM, jS, jL, jD, jB, h1]; first | done | rfl) rfl (by simp only [go_sem, Nat.reduceLT]) rfl rfl ?_; simp only [go_sem, jE, reduceIte, jA, jM, jS, jL, jD, jB, h1]) | (refine qp (k2) (by simp only [go_sem, jE, reduceIte, jA, jM, jS, jL, jD, jB, h1]; first | done | rfl) rfl (by simp only [go_sem, Nat.reduceLT]) rfl rfl ?_; simp only [go_sem, jE, reduceIte, jA, jM, jS, jL, jD, jB, h1]) | (refine qp (k4) (by simp only [go_sem, jE, reduceIte, jA, jM, jS, jL, jD, jB, h1]; first | done | rfl) rfl (by simp only [go_sem, Nat.reduceLT]) rfl rfl ?_; simp only [go_sem, jE, reduceIte, jA, jM, jS, jL, jD, jB, h1]))
    exact Aw_ret (retL (M := [0, 1, 2]) (.inl rfl) (by simp only [go_sem, jE, reduceIte, jA, jM, jS, jL, jD, jB]; first | done | rfl) rfl rfl (by rfl) (by simp only [go_sem, jE, reduceIte, jA, jM, jS, jL, jD, jB]; first | done | rfl | (and_intros <;> rfl)) (by decide) (by unfold idM; decide))
theorem put_ok (s s' : Sto) (i : Nat) (r : List Ent) (hi : i ≤ 1000) (hl : i < s.levels.length) (hv : i < s.sieves.length) (hr : SmR r) (h : setM s i r = some s') : AC Tryz.prog 149 [.c (.ph 0 0 0), iT i, runT r] (hpL (pH s)) 3 ⟨.t (bT true), hpL (pH s'), 3⟩ := by
  have k1 := keysOfS_ac r hr
  have k2 := sieveS_ac (keysM r) s.keep (smS_keys hr)
  have k4 := room_ac i hi
  unfold setM at h
  cases hm : sieveM (keysM r) s.keep with
  | none => rw [hm] at h; cases h
  | some x =>
    rw [hm] at h k2
    have k2 : AC Tryz.prog 59 [strsT (keysM r), iT s.keep] noHp 0 ⟨.tup [sveP x, bT true], noHp, 0⟩ := k2
    by_cases hc : r.length ≤ 8 * (i + 1)
    · simp only [if_pos hc, Option.some.injEq] at h
      subst h
      have h1 : decide (((8 * (i + 1) : Nat) : Int) < (r.length : Int)) = false := decide_eq_false (by omega)
      obtain ⟨e1, he1⟩ : ∃ e, s.levels[i]? = some e := ⟨_, List.getElem?_eq_getElem hl⟩
      obtain ⟨e2, he2⟩ : ∃ e, s.sieves[i]? = some e := ⟨_, List.getElem?_eq_getElem hv⟩
      refine AC_of Tryz.func149 rfl Tryz.ntmps149 Tryz.results149 (by kernel_rfl) rfl ?_
      simp only [List.zipIdx, List.map, Nat.zero_add, Nat.reduceAdd]
      repeat (first | apply Aw_seq | apply Aw_block | apply Aw_skip | apply Aw_exit | refine Aw_condt rfl ?_ | refine Aw_condf rfl ?_ | ((first | refine qr ?_ | refine qd (by kernel_rfl) (by kernel_rfl) ?_); simp only [go_sem, jE, reduceIte, jA, jM, jS, jL, jD, jB, h1, hl, hv, he1, he2]) | refine dk (by kernel_rfl) ?_ | (refine qp (k1) (by simp only [go_sem, jE, reduceIte, jA, jM, jS, jL, jD, jB, h1, hl, hv, he1, he2]; first | done | rfl) rfl (by simp only [go_sem, Nat.reduceLT]) rfl rfl ?_; simp only [go_sem, jE, reduceIte, jA, jM, jS, jL, jD, jB, h1, hl, hv, he1, he2]) | (refine qp (k2) (by simp only [go_sem, jE, reduceIte, jA, jM, jS, jL, jD, jB, h1, hl, hv, he1, he2]; first | done | rfl) rfl (by simp only [go_sem, Nat.reduceLT]) rfl rfl ?_; simp only [go_sem, jE, reduceIte, jA, jM, jS, jL, jD, jB, h1, hl, hv, he1, he2]) | (refine qp (k4) (by simp only [go_sem, jE, reduceIte, jA, jM, jS, jL, jD, jB, h1, hl, hv, he1, he2]; first | done | rfl) rfl (by simp only [go_sem, Nat.reduceLT]) rfl rfl ?_; simp only [go_sem, jE, reduceIte, jA, jM, jS, jL, jD, jB, h1, hl, hv, he1, he2]))
      exact Aw_ret (retL (M := [0, 1, 2]) (.inl rfl) (by simp only [go_sem, jE, reduceIte, jA, jM, jS, jL, jD, jB]; first | done | rfl) rfl rfl (by rfl) (by simp only [go_sem, jE, reduceIte, jA, jM, jS, jL, jD, jB, set_lv, set_sv]; first | done | rfl | (and_intros <;> rfl)) (by decide) (by unfold idM; decide))
    · simp [hc] at h
theorem joinI_run {a b : List Ent} (ha : runOk a = true) (hb : runOk b = true) (h : newerM a b = true) (hl : a.length + b.length ≤ 40) : joinI a b = some (joinM a b) := by
  unfold joinI
  rw [ha, hb, join_run ha hb h hl]; rfl
theorem push_ac : ∀ (d : Nat) (s : Sto) (i : Nat) (r : List Ent), i + d = 2 → SmH s → LvOk s → SmR r → runOk r = true → r.length ≤ 16 → newerM r (s.levels.getD i []) = true →
    (∀ s', intoM d s i r = some s' → AC Tryz.prog 103 [.c (.ph 0 0 0), iT i, runT r] (hpL (pH s)) 3 ⟨.t (bT true), hpL (pH s'), 3⟩) ∧
    (intoM d s i r = none → AC Tryz.prog 103 [.c (.ph 0 0 0), iT i, runT r] (hpL (pH s)) 3 ⟨.t (bT false), hpL [none, none, none], 3⟩) := by
  intro d
  induction d with
  | zero =>
    intro s i r hi hs hv hr hro hl hn
    obtain rfl : i = 2 := by omega
    obtain ⟨q, hq⟩ : ∃ q, s.levels[2]? = some q := ⟨_, List.getElem?_eq_getElem (by rw [hs.ll]; omega)⟩
    have hqd : s.levels.getD 2 [] = q := by simp [List.getD, hq]
    obtain ⟨hq1, hq2⟩ := hs.lev q (List.mem_of_getElem? hq)
    obtain ⟨v1, v2⟩ := hv.run 2 (by omega)
    rw [hqd] at v1 v2 hn
    have hj := join_run hro v1 hn (by omega)
    have k1 := runJoinS_ac r q hr hq1
    rw [joinI_run hro v1 hn (by omega)] at k1
    have k1 : AC Tryz.prog 96 [runT r, runT q] noHp 0 ⟨.tup [runT (joinM r q), bT true], noHp, 0⟩ := k1
    have hsj := smR_join hr hq1 (by omega) (by omega)
    have htl := hs.tl
    have k2 := runTrimS_ac (joinM r q) s.times true hsj hj (by omega)
    have hsm : SmR (trimM (joinM r q) s.times true) := smR_trim hsj _ _
    have hlt := (List.getElem?_eq_some_iff.1 hq).1
    have b1 : decide (((2 : Nat) : Int) = 2) = true := rfl
    constructor
    · intro s' h
      simp only [intoM, hqd] at h
      have k3 := put_ok s s' 2 _ (by omega) (by rw [hs.ll]; omega) (by rw [hs.sl]; omega) hsm h
      refine AC_of Tryz.func103 rfl Tryz.ntmps103 Tryz.results103 (by kernel_rfl) rfl ?_
      simp only [List.zipIdx, List.map, Nat.zero_add, Nat.reduceAdd]
      repeat (first | apply Aw_seq | apply Aw_block | apply Aw_skip | apply Aw_exit | refine Aw_condt rfl ?_ | refine Aw_condf rfl ?_ | ((first | refine qr ?_ | refine qd (by kernel_rfl) (by kernel_rfl) ?_); simp only [go_sem, jE, reduceIte, jA, jM, jS, jL, jD, jB, b1, hq, hlt]) | refine dk (by kernel_rfl) ?_ | (refine qp (k1) (by simp only [go_sem, jE, reduceIte, jA, jM, jS, jL, jD, jB, b1, hq, hlt]; first | done | rfl) rfl (by simp only [go_sem, Nat.reduceLT]) rfl rfl ?_; simp only [go_sem, jE, reduceIte, jA, jM, jS, jL, jD, jB, b1, hq, hlt]) | (refine qp (k2) (by simp only [go_sem, jE, reduceIte, jA, jM, jS, jL, jD, jB, b1, hq, hlt]; first | done | rfl) rfl (by simp only [go_sem, Nat.reduceLT]) rfl rfl ?_; simp only [go_sem, jE, reduceIte, jA, jM, jS, jL, jD, jB, b1, hq, hlt]) | (refine qx (call_L (N' := [0, 1, 2]) (L := []) (k3) rfl (.cons (.nm rfl) (.cons (.nm rfl) (.cons (.nm rfl) (.nil)))) (by decide) (by decide) (by decide) (by simp only [go_sem, jE, reduceIte, jA, jM, jS, jL, jD, jB, b1, hq, hlt]; first | done | rfl) (.inl rfl) rfl (by decide)) (by simp only [go_sem, jE, reduceIte, jA, jM, jS, jL, jD, jB, b1, hq, hlt]; first | done | rfl) rfl (by simp only [go_sem, Nat.reduceLT]) ?_; simp only [go_sem, jE, reduceIte, jA, jM, jS, jL, jD, jB, b1, hq, hlt]))
      exact Aw_ret (retL (M := [0, 1, 2]) (.inl rfl) (by simp only [go_sem, jE, reduceIte, jA, jM, jS, jL, jD, jB]; first | done | rfl) rfl rfl (by rfl) (by simp only [go_sem, jE, reduceIte, jA, jM, jS, jL, jD, jB]; first | done | rfl | (and_intros <;> rfl)) (by decide) (by unfold idM; decide))
    · intro h
      simp only [intoM, hqd] at h
      have k3 := put_no s 2 _ (by omega) hsm h
      refine AC_of Tryz.func103 rfl Tryz.ntmps103 Tryz.results103 (by kernel_rfl) rfl ?_
      simp only [List.zipIdx, List.map, Nat.zero_add, Nat.reduceAdd]
      repeat (first | apply Aw_seq | apply Aw_block | apply Aw_skip | apply Aw_exit | refine Aw_condt rfl ?_ | refine Aw_condf rfl ?_ | ((first | refine qr ?_ | refine qd (by kernel_rfl) (by kernel_rfl) ?_); simp only [go_sem, jE, reduceIte, jA, jM, jS, jL, jD, jB, b1, hq, hlt]) | refine dk (by kernel_rfl) ?_ | (refine qp (k1) (by simp only [go_sem, jE, reduceIte, jA, jM, jS, jL, jD, jB, b1, hq, hlt]; first | done | rfl) rfl (by simp only [go_sem, Nat.reduceLT]) rfl rfl ?_; simp only [go_sem, jE, reduceIte, jA, jM, jS, jL, jD, jB, b1, hq, hlt]) | (refine qp (k2) (by simp only [go_sem, jE, reduceIte, jA, jM, jS, jL, jD, jB, b1, hq, hlt]; first | done | rfl) rfl (by simp only [go_sem, Nat.reduceLT]) rfl rfl ?_; simp only [go_sem, jE, reduceIte, jA, jM, jS, jL, jD, jB, b1, hq, hlt]) | (refine qx (call_L (N' := [0, 1, 2]) (L := []) (k3) rfl (.cons (.nm rfl) (.cons (.nm rfl) (.cons (.nm rfl) (.nil)))) (by decide) (by decide) (by decide) (by simp only [go_sem, jE, reduceIte, jA, jM, jS, jL, jD, jB, b1, hq, hlt]; first | done | rfl) (.inl rfl) rfl (by decide)) (by simp only [go_sem, jE, reduceIte, jA, jM, jS, jL, jD, jB, b1, hq, hlt]; first | done | rfl) rfl (by simp only [go_sem, Nat.reduceLT]) ?_; simp only [go_sem, jE, reduceIte, jA, jM, jS, jL, jD, jB, b1, hq, hlt]))
      exact Aw_ret (retL (M := [0, 1, 2]) (.inl rfl) (by simp only [go_sem, jE, reduceIte, jA, jM, jS, jL, jD, jB]; first | done | rfl) rfl rfl (by rfl) (by simp only [go_sem, jE, reduceIte, jA, jM, jS, jL, jD, jB]; first | done | rfl | (and_intros <;> rfl)) (by decide) (by unfold idM; decide))
  | succ d ih =>
    intro s i r hi hs hv hr hro hl hn
    obtain ⟨q, hq⟩ : ∃ q, s.levels[i]? = some q := ⟨_, List.getElem?_eq_getElem (by rw [hs.ll]; omega)⟩
    have hqd : s.levels.getD i [] = q := by simp [List.getD, hq]
    obtain ⟨hq1, hq2⟩ := hs.lev q (List.mem_of_getElem? hq)
    obtain ⟨v1, v2⟩ := hv.run i (by omega)
    have hnq := hv.newer i (i + 1) (by omega) (by omega)
    rw [hqd] at v1 v2 hn hnq
    have hj := join_run hro v1 hn (by omega)
    have k1 := runJoinS_ac r q hr hq1
    rw [joinI_run hro v1 hn (by omega)] at k1
    have k1 : AC Tryz.prog 96 [runT r, runT q] noHp 0 ⟨.tup [runT (joinM r q), bT true], noHp, 0⟩ := k1
    have hsj := smR_join hr hq1 (by omega) (by omega)
    have htl := hs.tl
    have k2 := runTrimS_ac (joinM r q) s.times false hsj hj (by omega)
    have hsm : SmR (trimM (joinM r q) s.times false) := smR_trim hsj _ _
    have hlt := (List.getElem?_eq_some_iff.1 hq).1
    have b1 : decide (((i : Nat) : Int) = 2) = false := decide_eq_false (by omega)
    have w1 : IntKind.i64.wrap ((i : Int) + 1) = ((i + 1 : Nat) : Int) := wrap_succ (m := i + 1) (by omega) (by omega)
    obtain ⟨ih1, ih2⟩ := ih s (i + 1) q (by omega) hs hv hq1 v1 (by omega) hnq
    cases hset : setM s i (trimM (joinM r q) s.times false) with
    | some x =>
      refine ⟨fun s' h => ?_, fun h => ?_⟩
      · simp only [intoM, hqd, hset, Option.some.injEq] at h
        subst h
        have k3 := put_ok s x i _ (by omega) (by rw [hs.ll]; omega) (by rw [hs.sl]; omega) hsm hset
        refine AC_of Tryz.func103 rfl Tryz.ntmps103 Tryz.results103 (by kernel_rfl) rfl ?_
        simp only [List.zipIdx, List.map, Nat.zero_add, Nat.reduceAdd]
        repeat (first | apply Aw_seq | apply Aw_block | apply Aw_skip | apply Aw_exit | refine Aw_condt rfl ?_ | refine Aw_condf rfl ?_ | ((first | refine qr ?_ | refine qd (by kernel_rfl) (by kernel_rfl) ?_); simp only [go_sem, jE, reduceIte, jA, jM, jS, jL, jD, jB, b1, hq, hlt]) | refine dk (by kernel_rfl) ?_ | (refine qp (k1) (by simp only [go_sem, jE, reduceIte, jA, jM, jS, jL, jD, jB, b1, hq, hlt]; first | done | rfl) rfl (by simp only [go_sem, Nat.reduceLT]) rfl rfl ?_; simp only [go_sem, jE, reduceIte, jA, jM, jS, jL, jD, jB, b1, hq, hlt]) | (refine qp (k2) (by simp only [go_sem, jE, reduceIte, jA, jM, jS, jL, jD, jB, b1, hq, hlt]; first | done | rfl) rfl (by simp only [go_sem, Nat.reduceLT]) rfl rfl ?_; simp only [go_sem, jE, reduceIte, jA, jM, jS, jL, jD, jB, b1, hq, hlt]) | (refine qx (call_L (N' := [0, 1, 2]) (L := []) (k3) rfl (.cons (.nm rfl) (.cons (.nm rfl) (.cons (.nm rfl) (.nil)))) (by decide) (by decide) (by decide) (by simp only [go_sem, jE, reduceIte, jA, jM, jS, jL, jD, jB, b1, hq, hlt]; first | done | rfl) (.inl rfl) rfl (by decide)) (by simp only [go_sem, jE, reduceIte, jA, jM, jS, jL, jD, jB, b1, hq, hlt]; first | done | rfl) rfl (by simp only [go_sem, Nat.reduceLT]) ?_; simp only [go_sem, jE, reduceIte, jA, jM, jS, jL, jD, jB, b1, hq, hlt]))
        exact Aw_ret (retL (M := [0, 1, 2]) (.inl rfl) (by simp only [go_sem, jE, reduceIte, jA, jM, jS, jL, jD, jB]; first | done | rfl) rfl rfl (by rfl) (by simp only [go_sem, jE, reduceIte, jA, jM, jS, jL, jD, jB]; first | done | rfl | (and_intros <;> rfl)) (by decide) (by unfold idM; decide))
      · simp only [intoM, hqd, hset] at h; cases h
    | none =>
      have k3 := put_no s i _ (by omega) hsm hset
      cases hin : intoM d s (i + 1) q with
      | none =>
        refine ⟨fun s' h => ?_, fun h => ?_⟩
        · simp only [intoM, hqd, hset, hin] at h; cases h
        · have k4 := ih2 hin
          refine AC_of Tryz.func103 rfl Tryz.ntmps103 Tryz.results103 (by kernel_rfl) rfl ?_
          simp only [List.zipIdx, List.map, Nat.zero_add, Nat.reduceAdd]
          repeat (first | apply Aw_seq | apply Aw_block | apply Aw_skip | apply Aw_exit | refine Aw_condt rfl ?_ | refine Aw_condf rfl ?_ | ((first | refine qr ?_ | refine qd (by kernel_rfl) (by kernel_rfl) ?_); simp only [go_sem, jE, reduceIte, jA, jM, jS, jL, jD, jB, b1, hq, hlt, w1]) | refine dk (by kernel_rfl) ?_ | (refine qp (k1) (by simp only [go_sem, jE, reduceIte, jA, jM, jS, jL, jD, jB, b1, hq, hlt, w1]; first | done | rfl) rfl (by simp only [go_sem, Nat.reduceLT]) rfl rfl ?_; simp only [go_sem, jE, reduceIte, jA, jM, jS, jL, jD, jB, b1, hq, hlt, w1]) | (refine qp (k2) (by simp only [go_sem, jE, reduceIte, jA, jM, jS, jL, jD, jB, b1, hq, hlt, w1]; first | done | rfl) rfl (by simp only [go_sem, Nat.reduceLT]) rfl rfl ?_; simp only [go_sem, jE, reduceIte, jA, jM, jS, jL, jD, jB, b1, hq, hlt, w1]) | (refine qx (call_L (N' := [0, 1, 2]) (L := []) (k3) rfl (.cons (.nm rfl) (.cons (.nm rfl) (.cons (.nm rfl) (.nil)))) (by decide) (by decide) (by decide) (by simp only [go_sem, jE, reduceIte, jA, jM, jS, jL, jD, jB, b1, hq, hlt, w1]; first | done | rfl) (.inl rfl) rfl (by decide)) (by simp only [go_sem, jE, reduceIte, jA, jM, jS, jL, jD, jB, b1, hq, hlt, w1]; first | done | rfl) rfl (by simp only [go_sem, Nat.reduceLT]) ?_; simp only [go_sem, jE, reduceIte, jA, jM, jS, jL, jD, jB, b1, hq, hlt, w1]) | (refine qx (call_L (N' := [0, 1, 2]) (L := []) (k4) rfl (.cons (.nm rfl) (.cons (.nm rfl) (.cons (.nm rfl) (.nil)))) (by decide) (by decide) (by decide) (by simp only [go_sem, jE, reduceIte, jA, jM, jS, jL, jD, jB, b1, hq, hlt, w1]; first | done | rfl) (.inl rfl) rfl (by decide)) (by simp only [go_sem, jE, reduceIte, jA, jM, jS, jL, jD, jB, b1, hq, hlt, w1]; first | done | rfl) rfl (by simp only [go_sem, Nat.reduceLT]) ?_; simp only [go_sem, jE, reduceIte, jA, jM, jS, jL, jD, jB, b1, hq, hlt, w1]))
          exact Aw_ret (retL (M := [0, 1, 2]) (.inl rfl) (by simp only [go_sem, jE, reduceIte, jA, jM, jS, jL, jD, jB]; first | done | rfl) rfl rfl (by rfl) (by simp only [go_sem, jE, reduceIte, jA, jM, jS, jL, jD, jB]; first | done | rfl | (and_intros <;> rfl)) (by decide) (by unfold idM; decide))
      | some y =>
        have k4 := ih1 y hin
        obtain ⟨y1, y2, _⟩ := intoM_sm d (by omega) hs hq1 hq2 hin
        have k5 := runTrimS_ac r s.times false hr hro (by omega)
        rw [← y2] at k5
        have hsm2 : SmR (trimM r y.times false) := smR_trim hr _ _
        refine ⟨fun s' h => ?_, fun h => ?_⟩
        · simp only [intoM, hqd, hset, hin, Option.bind_some] at h
          have k6 := put_ok y s' i _ (by omega) (by rw [y1.ll]; omega) (by rw [y1.sl]; omega) hsm2 h
          refine AC_of Tryz.func103 rfl Tryz.ntmps103 Tryz.results103 (by kernel_rfl) rfl ?_
          simp only [List.zipIdx, List.map, Nat.zero_add, Nat.reduceAdd]
          repeat (first | apply Aw_seq | apply Aw_block | apply Aw_skip | apply Aw_exit | refine Aw_condt rfl ?_ | refine Aw_condf rfl ?_ | ((first | refine qr ?_ | refine qd (by kernel_rfl) (by kernel_rfl) ?_); simp only [go_sem, jE, reduceIte, jA, jM, jS, jL, jD, jB, b1, hq, hlt, w1]) | refine dk (by kernel_rfl) ?_ | (refine qp (k1) (by simp only [go_sem, jE, reduceIte, jA, jM, jS, jL, jD, jB, b1, hq, hlt, w1]; first | done | rfl) rfl (by simp only [go_sem, Nat.reduceLT]) rfl rfl ?_; simp only [go_sem, jE, reduceIte, jA, jM, jS, jL, jD, jB, b1, hq, hlt, w1]) | (refine qp (k2) (by simp only [go_sem, jE, reduceIte, jA, jM, jS, jL, jD, jB, b1, hq, hlt, w1]; first | done | rfl) rfl (by simp only [go_sem, Nat.reduceLT]) rfl rfl ?_; simp only [go_sem, jE, reduceIte, jA, jM, jS, jL, jD, jB, b1, hq, hlt, w1]) | (refine qp (k5) (by simp only [go_sem, jE, reduceIte, jA, jM, jS, jL, jD, jB, b1, hq, hlt, w1]; first | done | rfl) rfl (by simp only [go_sem, Nat.reduceLT]) rfl rfl ?_; simp only [go_sem, jE, reduceIte, jA, jM, jS, jL, jD, jB, b1, hq, hlt, w1]) | (refine qx (call_L (N' := [0, 1, 2]) (L := []) (k3) rfl (.cons (.nm rfl) (.cons (.nm rfl) (.cons (.nm rfl) (.nil)))) (by decide) (by decide) (by decide) (by simp only [go_sem, jE, reduceIte, jA, jM, jS, jL, jD, jB, b1, hq, hlt, w1]; first | done | rfl) (.inl rfl) rfl (by decide)) (by simp only [go_sem, jE, reduceIte, jA, jM, jS, jL, jD, jB, b1, hq, hlt, w1]; first | done | rfl) rfl (by simp only [go_sem, Nat.reduceLT]) ?_; simp only [go_sem, jE, reduceIte, jA, jM, jS, jL, jD, jB, b1, hq, hlt, w1]) | (refine qx (call_L (N' := [0, 1, 2]) (L := []) (k4) rfl (.cons (.nm rfl) (.cons (.nm rfl) (.cons (.nm rfl) (.nil)))) (by decide) (by decide) (by decide) (by simp only [go_sem, jE, reduceIte, jA, jM, jS, jL, jD, jB, b1, hq, hlt, w1]; first | done | rfl) (.inl rfl) rfl (by decide)) (by simp only [go_sem, jE, reduceIte, jA, jM, jS, jL, jD, jB, b1, hq, hlt, w1]; first | done | rfl) rfl (by simp only [go_sem, Nat.reduceLT]) ?_; simp only [go_sem, jE, reduceIte, jA, jM, jS, jL, jD, jB, b1, hq, hlt, w1]) | (refine qx (call_L (N' := [0, 1, 2]) (L := []) (k6) rfl (.cons (.nm rfl) (.cons (.nm rfl) (.cons (.nm rfl) (.nil)))) (by decide) (by decide) (by decide) (by simp only [go_sem, jE, reduceIte, jA, jM, jS, jL, jD, jB, b1, hq, hlt, w1]; first | done | rfl) (.inl rfl) rfl (by decide)) (by simp only [go_sem, jE, reduceIte, jA, jM, jS, jL, jD, jB, b1, hq, hlt, w1]; first | done | rfl) rfl (by simp only [go_sem, Nat.reduceLT]) ?_; simp only [go_sem, jE, reduceIte, jA, jM, jS, jL, jD, jB, b1, hq, hlt, w1]))
          exact Aw_ret (retL (M := [0, 1, 2]) (.inl rfl) (by simp only [go_sem, jE, reduceIte, jA, jM, jS, jL, jD, jB]; first | done | rfl) rfl rfl (by rfl) (by simp only [go_sem, jE, reduceIte, jA, jM, jS, jL, jD, jB]; first | done | rfl | (and_intros <;> rfl)) (by decide) (by unfold idM; decide))
        · simp only [intoM, hqd, hset, hin, Option.bind_some] at h
          have k6 := put_no y i _ (by omega) hsm2 h
          refine AC_of Tryz.func103 rfl Tryz.ntmps103 Tryz.results103 (by kernel_rfl) rfl ?_
          simp only [List.zipIdx, List.map, Nat.zero_add, Nat.reduceAdd]
          repeat (first | apply Aw_seq | apply Aw_block | apply Aw_skip | apply Aw_exit | refine Aw_condt rfl ?_ | refine Aw_condf rfl ?_ | ((first | refine qr ?_ | refine qd (by kernel_rfl) (by kernel_rfl) ?_); simp only [go_sem, jE, reduceIte, jA, jM, jS, jL, jD, jB, b1, hq, hlt, w1]) | refine dk (by kernel_rfl) ?_ | (refine qp (k1) (by simp only [go_sem, jE, reduceIte, jA, jM, jS, jL, jD, jB, b1, hq, hlt, w1]; first | done | rfl) rfl (by simp only [go_sem, Nat.reduceLT]) rfl rfl ?_; simp only [go_sem, jE, reduceIte, jA, jM, jS, jL, jD, jB, b1, hq, hlt, w1]) | (refine qp (k2) (by simp only [go_sem, jE, reduceIte, jA, jM, jS, jL, jD, jB, b1, hq, hlt, w1]; first | done | rfl) rfl (by simp only [go_sem, Nat.reduceLT]) rfl rfl ?_; simp only [go_sem, jE, reduceIte, jA, jM, jS, jL, jD, jB, b1, hq, hlt, w1]) | (refine qp (k5) (by simp only [go_sem, jE, reduceIte, jA, jM, jS, jL, jD, jB, b1, hq, hlt, w1]; first | done | rfl) rfl (by simp only [go_sem, Nat.reduceLT]) rfl rfl ?_; simp only [go_sem, jE, reduceIte, jA, jM, jS, jL, jD, jB, b1, hq, hlt, w1]) | (refine qx (call_L (N' := [0, 1, 2]) (L := []) (k3) rfl (.cons (.nm rfl) (.cons (.nm rfl) (.cons (.nm rfl) (.nil)))) (by decide) (by decide) (by decide) (by simp only [go_sem, jE, reduceIte, jA, jM, jS, jL, jD, jB, b1, hq, hlt, w1]; first | done | rfl) (.inl rfl) rfl (by decide)) (by simp only [go_sem, jE, reduceIte, jA, jM, jS, jL, jD, jB, b1, hq, hlt, w1]; first | done | rfl) rfl (by simp only [go_sem, Nat.reduceLT]) ?_; simp only [go_sem, jE, reduceIte, jA, jM, jS, jL, jD, jB, b1, hq, hlt, w1]) | (refine qx (call_L (N' := [0, 1, 2]) (L := []) (k4) rfl (.cons (.nm rfl) (.cons (.nm rfl) (.cons (.nm rfl) (.nil)))) (by decide) (by decide) (by decide) (by simp only [go_sem, jE, reduceIte, jA, jM, jS, jL, jD, jB, b1, hq, hlt, w1]; first | done | rfl) (.inl rfl) rfl (by decide)) (by simp only [go_sem, jE, reduceIte, jA, jM, jS, jL, jD, jB, b1, hq, hlt, w1]; first | done | rfl) rfl (by simp only [go_sem, Nat.reduceLT]) ?_; simp only [go_sem, jE, reduceIte, jA, jM, jS, jL, jD, jB, b1, hq, hlt, w1]) | (refine qx (call_L (N' := [0, 1, 2]) (L := []) (k6) rfl (.cons (.nm rfl) (.cons (.nm rfl) (.cons (.nm rfl) (.nil)))) (by decide) (by decide) (by decide) (by simp only [go_sem, jE, reduceIte, jA, jM, jS, jL, jD, jB, b1, hq, hlt, w1]; first | done | rfl) (.inl rfl) rfl (by decide)) (by simp only [go_sem, jE, reduceIte, jA, jM, jS, jL, jD, jB, b1, hq, hlt, w1]; first | done | rfl) rfl (by simp only [go_sem, Nat.reduceLT]) ?_; simp only [go_sem, jE, reduceIte, jA, jM, jS, jL, jD, jB, b1, hq, hlt, w1]))
          exact Aw_ret (retL (M := [0, 1, 2]) (.inl rfl) (by simp only [go_sem, jE, reduceIte, jA, jM, jS, jL, jD, jB]; first | done | rfl) rfl rfl (by rfl) (by simp only [go_sem, jE, reduceIte, jA, jM, jS, jL, jD, jB]; first | done | rfl | (and_intros <;> rfl)) (by decide) (by unfold idM; decide))
abbrev resO (o : Option Sto) : AV := .tup [stT (o.getD zSto), bT o.isSome]
def OwnR (f : FuncId) (args : List TV) (o : Option Sto) : Prop := (∀ x, o = some x → AC Tryz.prog f args noHp 0 ⟨.tup [hT x, bT true], hpL (hS x), 4⟩) ∧ (o = none → AC Tryz.prog f args noHp 0 ⟨.tup [zA, bT false], noHp, 0⟩)
theorem OwnR.set {f : FuncId} {args : List TV} {o : Option Sto} (h : OwnR f args o) : AC Tryz.prog f args noHp 0 ⟨resO o, noHp, 0⟩ := by
  cases o with
  | none => exact AC.nilR (h.2 rfl) zA_nil
  | some x => exact AC.settle0 [0, 1, 2, 3] (h.1 x rfl) (.cons (.cons (SetC.row0 rfl rfl) (.cons (SetC.row0 rfl rfl) (.cons (SetC.row0 rfl rfl) (.cons (.inl rfl) (.cons (.inl rfl) (.cons (SetC.row0 rfl rfl) .nil)))))) (.cons (.inl rfl) .nil)) rfl
theorem l12Add_own (s : Sto) (e : Ent) (hs : SmSt s) (he : smK e.key) : OwnR 37 [stT s, entT e] (addM s e) := ⟨fun x h => l12Add_okR s x e hs he h, fun h => l12Add_no s e hs he h⟩
def nextT (s : Sto) : Int := IntKind.i64.wrap (s.time + 1)
def putM (s : Sto) (k : ByteArray) (v : Int) : Option Sto := addM s ⟨k, v, false, nextT s⟩
def takeM (s : Sto) (k : ByteArray) : Option Sto := addM s ⟨k, 0, true, nextT s⟩
theorem storePutS_own (s : Sto) (k : ByteArray) (v : Int) (hs : SmSt s) (hk : smK k) : OwnR 10 [stT s, sT k, iT v] (putM s k v) := by
  obtain ⟨h1, h2⟩ := l12Add_own s ⟨k, v, false, nextT s⟩ hs hk
  refine ⟨fun x hx => ?_, fun hx => ?_⟩
  · have h := h1 x hx
    unfold nextT at h
    refine AC_of Tryz.func10 rfl Tryz.ntmps10 Tryz.results10 (by kernel_rfl) rfl ?_
    simp only [List.zipIdx, List.map, Nat.zero_add, Nat.reduceAdd]
    repeat (first | apply Aw_seq | apply Aw_block | apply Aw_skip | apply Aw_exit | refine Aw_condt rfl ?_ | refine Aw_condf rfl ?_ | ((first | refine qr ?_ | refine qd (by kernel_rfl) (by kernel_rfl) ?_); simp only [go_sem, jE, reduceIte, jA, jM, jS, jL, jD, jB]) | refine dk (by kernel_rfl) ?_ | (refine qx (call_N (L := []) (h) rfl (.cons (.nm rfl) (.cons (.nm rfl) (.nil))) (.inl rfl) rfl) (by simp only [go_sem, jE, reduceIte, jA, jM, jS, jL, jD, jB]; first | done | rfl) rfl (by simp only [go_sem, Nat.reduceLT]) ?_; simp only [go_sem, jE, reduceIte, jA, jM, jS, jL, jD, jB]))
    exact Aw_ret (retL (M := [10, 11, 12, 13]) (.inl rfl) (by simp only [go_sem, jE, reduceIte, jA, jM, jS, jL, jD, jB]; first | done | rfl) rfl rfl (by rfl) (by simp only [go_sem, jE, reduceIte, jA, jM, jS, jL, jD, jB]; first | done | rfl | (and_intros <;> rfl)) (by decide) (by unfold idM; decide))
  · have h := h2 hx
    unfold nextT at h
    refine AC_of Tryz.func10 rfl Tryz.ntmps10 Tryz.results10 (by kernel_rfl) rfl ?_
    simp only [List.zipIdx, List.map, Nat.zero_add, Nat.reduceAdd]
    repeat (first | apply Aw_seq | apply Aw_block | apply Aw_skip | apply Aw_exit | refine Aw_condt rfl ?_ | refine Aw_condf rfl ?_ | ((first | refine qr ?_ | refine qd (by kernel_rfl) (by kernel_rfl) ?_); simp only [go_sem, jE, reduceIte, jA, jM, jS, jL, jD, jB]) | refine dk (by kernel_rfl) ?_ | (refine qp (h) (by simp only [go_sem, jE, reduceIte, jA, jM, jS, jL, jD, jB]; first | done | rfl) rfl (by simp only [go_sem, Nat.reduceLT]) rfl rfl ?_; simp only [go_sem, jE, reduceIte, jA, jM, jS, jL, jD, jB]))
    exact Aw_ret (ret0 (.inl rfl) (by simp only [go_sem, jE, reduceIte, jA, jM, jS, jL, jD, jB]; rfl) (by rfl) rfl)
theorem storeTakeS_own (s : Sto) (k : ByteArray) (hs : SmSt s) (hk : smK k) : OwnR 108 [stT s, sT k] (takeM s k) := by
  obtain ⟨h1, h2⟩ := l12Add_own s ⟨k, 0, true, nextT s⟩ hs hk
  refine ⟨fun x hx => ?_, fun hx => ?_⟩
  · have h := h1 x hx
    unfold nextT at h
    refine AC_of Tryz.func108 rfl Tryz.ntmps108 Tryz.results108 (by kernel_rfl) rfl ?_
    simp only [List.zipIdx, List.map, Nat.zero_add, Nat.reduceAdd]
    repeat (first | apply Aw_seq | apply Aw_block | apply Aw_skip | apply Aw_exit | refine Aw_condt rfl ?_ | refine Aw_condf rfl ?_ | ((first | refine qr ?_ | refine qd (by kernel_rfl) (by kernel_rfl) ?_); simp only [go_sem, jE, reduceIte, jA, jM, jS, jL, jD, jB]) | refine dk (by kernel_rfl) ?_ | (refine qx (call_N (L := []) (h) rfl (.cons (.nm rfl) (.cons (.nm rfl) (.nil))) (.inl rfl) rfl) (by simp only [go_sem, jE, reduceIte, jA, jM, jS, jL, jD, jB]; first | done | rfl) rfl (by simp only [go_sem, Nat.reduceLT]) ?_; simp only [go_sem, jE, reduceIte, jA, jM, jS, jL, jD, jB]))
    exact Aw_ret (retL (M := [9, 10, 11, 12]) (.inl rfl) (by simp only [go_sem, jE, reduceIte, jA, jM, jS, jL, jD, jB]; first | done | rfl) rfl rfl (by rfl) (by simp only [go_sem, jE, reduceIte, jA, jM, jS, jL, jD, jB]; first | done | rfl | (and_intros <;> rfl)) (by decide) (by unfold idM; decide))
  · have h := h2 hx
    unfold nextT at h
    refine AC_of Tryz.func108 rfl Tryz.ntmps108 Tryz.results108 (by kernel_rfl) rfl ?_
    simp only [List.zipIdx, List.map, Nat.zero_add, Nat.reduceAdd]
    repeat (first | apply Aw_seq | apply Aw_block | apply Aw_skip | apply Aw_exit | refine Aw_condt rfl ?_ | refine Aw_condf rfl ?_ | ((first | refine qr ?_ | refine qd (by kernel_rfl) (by kernel_rfl) ?_); simp only [go_sem, jE, reduceIte, jA, jM, jS, jL, jD, jB]) | refine dk (by kernel_rfl) ?_ | (refine qp (h) (by simp only [go_sem, jE, reduceIte, jA, jM, jS, jL, jD, jB]; first | done | rfl) rfl (by simp only [go_sem, Nat.reduceLT]) rfl rfl ?_; simp only [go_sem, jE, reduceIte, jA, jM, jS, jL, jD, jB]))
    exact Aw_ret (ret0 (.inl rfl) (by simp only [go_sem, jE, reduceIte, jA, jM, jS, jL, jD, jB]; rfl) (by rfl) rfl)
def sDownM (s : Sto) : Option Sto := if storeS s = true then downM s else none
theorem storeDownS_own (s : Sto) (hs : SmSt s) : OwnR 111 [stT s] (sDownM s) := by
  have k1 := sstoreOk_ac s hs
  unfold sDownM
  cases c1 : storeS s
  · rw [c1] at k1
    refine ⟨fun x hx => (by cases hx), fun _ => ?_⟩
    refine AC_of Tryz.func111 rfl Tryz.ntmps111 Tryz.results111 (by kernel_rfl) rfl ?_
    simp only [List.zipIdx, List.map, Nat.zero_add, Nat.reduceAdd]
    repeat (first | apply Aw_seq | apply Aw_block | apply Aw_skip | apply Aw_exit | refine Aw_condt rfl ?_ | refine Aw_condf rfl ?_ | ((first | refine qr ?_ | refine qd (by kernel_rfl) (by kernel_rfl) ?_); simp only [go_sem, jE, reduceIte, jA, jM, jS, jL, jD, jB]) | refine dk (by kernel_rfl) ?_ | (refine qp (k1) (by simp only [go_sem, jE, reduceIte, jA, jM, jS, jL, jD, jB]; first | done | rfl) rfl (by simp only [go_sem, Nat.reduceLT]) rfl rfl ?_; simp only [go_sem, jE, reduceIte, jA, jM, jS, jL, jD, jB]))
    exact Aw_ret (ret0 (.inl rfl) (by simp only [go_sem, jE, reduceIte, jA, jM, jS, jL, jD, jB]; rfl) (by rfl) rfl)
  rw [c1] at k1
  rw [if_pos rfl]
  have k3 := copyV_ac s hs c1
  obtain ⟨h1, h2, h3, h4, h5, _⟩ := storeS_facts c1
  refine ⟨fun x hd => ?_, fun hd => ?_⟩
  · have k4 := l12Down_ok s x (valid_sm hs c1) hs.top (by omega) hd
    refine AC_of Tryz.func111 rfl Tryz.ntmps111 Tryz.results111 (by kernel_rfl) rfl ?_
    simp only [List.zipIdx, List.map, Nat.zero_add, Nat.reduceAdd]
    repeat (first | apply Aw_seq | apply Aw_block | apply Aw_skip | apply Aw_exit | refine Aw_condt rfl ?_ | refine Aw_condf rfl ?_ | ((first | refine qr ?_ | refine qd (by kernel_rfl) (by kernel_rfl) ?_); simp only [go_sem, jE, reduceIte, jA, jM, jS, jL, jD, jB]) | refine dk (by kernel_rfl) ?_ | (refine qp (k1) (by simp only [go_sem, jE, reduceIte, jA, jM, jS, jL, jD, jB]; first | done | rfl) rfl (by simp only [go_sem, Nat.reduceLT]) rfl rfl ?_; simp only [go_sem, jE, reduceIte, jA, jM, jS, jL, jD, jB]) | (refine qx (call_N (L := []) (k3) rfl (.cons (.nm rfl) (.nil)) (.inl rfl) rfl) (by simp only [go_sem, jE, reduceIte, jA, jM, jS, jL, jD, jB]; first | done | rfl) rfl (by simp only [go_sem, Nat.reduceLT]) ?_; simp only [go_sem, jE, reduceIte, jA, jM, jS, jL, jD, jB]) | (refine qx (call_L (N' := [6, 7, 8, 9]) (L := []) (k4) rfl (.cons (.nm rfl) (.nil)) (by decide) (by decide) (by decide) (by simp only [go_sem, jE, reduceIte, jA, jM, jS, jL, jD, jB]; first | done | rfl) (.inl rfl) rfl (by decide)) (by simp only [go_sem, jE, reduceIte, jA, jM, jS, jL, jD, jB]; first | done | rfl) rfl (by simp only [go_sem, Nat.reduceLT]) ?_; simp only [go_sem, jE, reduceIte, jA, jM, jS, jL, jD, jB]))
    exact Aw_ret (retL (M := [6, 7, 10, 9]) (.inl rfl) (by simp only [go_sem, jE, reduceIte, jA, jM, jS, jL, jD, jB]; first | done | rfl) rfl rfl (by rfl) (by simp only [go_sem, jE, reduceIte, jA, jM, jS, jL, jD, jB]; first | done | rfl | (and_intros <;> rfl)) (by decide) (by unfold idM; decide))
  · have k4 := l12Down_no s (valid_sm hs c1) hs.top (by omega) hd
    refine AC_of Tryz.func111 rfl Tryz.ntmps111 Tryz.results111 (by kernel_rfl) rfl ?_
    simp only [List.zipIdx, List.map, Nat.zero_add, Nat.reduceAdd]
    repeat (first | apply Aw_seq | apply Aw_block | apply Aw_skip | apply Aw_exit | refine Aw_condt rfl ?_ | refine Aw_condf rfl ?_ | ((first | refine qr ?_ | refine qd (by kernel_rfl) (by kernel_rfl) ?_); simp only [go_sem, jE, reduceIte, jA, jM, jS, jL, jD, jB]) | refine dk (by kernel_rfl) ?_ | (refine qp (k1) (by simp only [go_sem, jE, reduceIte, jA, jM, jS, jL, jD, jB]; first | done | rfl) rfl (by simp only [go_sem, Nat.reduceLT]) rfl rfl ?_; simp only [go_sem, jE, reduceIte, jA, jM, jS, jL, jD, jB]) | (refine qx (call_N (L := []) (k3) rfl (.cons (.nm rfl) (.nil)) (.inl rfl) rfl) (by simp only [go_sem, jE, reduceIte, jA, jM, jS, jL, jD, jB]; first | done | rfl) rfl (by simp only [go_sem, Nat.reduceLT]) ?_; simp only [go_sem, jE, reduceIte, jA, jM, jS, jL, jD, jB]) | (refine qx (call_L (N' := [6, 7, 8, 9]) (L := []) (k4) rfl (.cons (.nm rfl) (.nil)) (by decide) (by decide) (by decide) (by simp only [go_sem, jE, reduceIte, jA, jM, jS, jL, jD, jB]; first | done | rfl) (.inl rfl) rfl (by decide)) (by simp only [go_sem, jE, reduceIte, jA, jM, jS, jL, jD, jB]; first | done | rfl) rfl (by simp only [go_sem, Nat.reduceLT]) ?_; simp only [go_sem, jE, reduceIte, jA, jM, jS, jL, jD, jB]))
    exact Aw_ret (ret0 (.inl rfl) (by simp only [go_sem, jE, reduceIte, jA, jM, jS, jL, jD, jB]; rfl) (by rfl) rfl)
def sJoinM (s : Sto) (l : Int) : Option Sto := if (storeS s && inB 0 l 1) = true then (setM s l.toNat []).bind fun x => intoM (1 - l.toNat) x (l.toNat + 1) (s.levels.getD l.toNat []) else none
theorem smR_nil : SmR [] := ⟨by simp, by simp⟩
theorem keysM_nil : keysM [] = [] := rfl
theorem sieve_nil {keep : Nat} (hk : keep ≤ 5) : sieveM [] keep = some (eSve keep) := by
  unfold sieveM
  rw [if_pos ⟨rfl, inKeep hk⟩, show Int.toNat (keep : Int) = keep from rfl, bfs0]
  rfl
theorem storeJoinS_own (s : Sto) (l : Int) (hs : SmSt s) : OwnR 112 [stT s, iT l] (sJoinM s l) := by
  have k1 := sstoreOk_ac s hs
  unfold sJoinM
  cases c1 : storeS s
  · rw [c1] at k1
    refine ⟨fun x hx => by simp at hx, fun _ => ?_⟩
    refine AC_of Tryz.func112 rfl Tryz.ntmps112 Tryz.results112 (by kernel_rfl) rfl ?_
    simp only [List.zipIdx, List.map, Nat.zero_add, Nat.reduceAdd]
    repeat (first | apply Aw_seq | apply Aw_block | apply Aw_skip | apply Aw_exit | refine Aw_condt rfl ?_ | refine Aw_condf rfl ?_ | ((first | refine qr ?_ | refine qd (by kernel_rfl) (by kernel_rfl) ?_); simp only [go_sem, jE, reduceIte, jA, jM, jS, jL, jD, jB]) | refine dk (by kernel_rfl) ?_ | (refine qp (k1) (by simp only [go_sem, jE, reduceIte, jA, jM, jS, jL, jD, jB]; first | done | rfl) rfl (by simp only [go_sem, Nat.reduceLT]) rfl rfl ?_; simp only [go_sem, jE, reduceIte, jA, jM, jS, jL, jD, jB]))
    exact Aw_ret (ret0 (.inl rfl) (by simp only [go_sem, jE, reduceIte, jA, jM, jS, jL, jD, jB]; rfl) (by rfl) rfl)
  rw [c1] at k1
  cases c2 : inB 0 l 1
  · refine ⟨fun x hx => by simp at hx, fun _ => ?_⟩
    refine AC_of Tryz.func112 rfl Tryz.ntmps112 Tryz.results112 (by kernel_rfl) rfl ?_
    simp only [List.zipIdx, List.map, Nat.zero_add, Nat.reduceAdd]
    repeat (first | apply Aw_seq | apply Aw_block | apply Aw_skip | apply Aw_exit | refine Aw_condt rfl ?_ | refine Aw_condf rfl ?_ | ((first | refine qr ?_ | refine qd (by kernel_rfl) (by kernel_rfl) ?_); simp only [go_sem, jE, reduceIte, jA, jM, jS, jL, jD, jB, c2]) | refine dk (by kernel_rfl) ?_ | (refine qp (k1) (by simp only [go_sem, jE, reduceIte, jA, jM, jS, jL, jD, jB, c2]; first | done | rfl) rfl (by simp only [go_sem, Nat.reduceLT]) rfl rfl ?_; simp only [go_sem, jE, reduceIte, jA, jM, jS, jL, jD, jB, c2]) | (refine qp (l6In_ac _ _ _) (by simp only [go_sem, jE, reduceIte, jA, jM, jS, jL, jD, jB, c2]; first | done | rfl) rfl (by simp only [go_sem, Nat.reduceLT]) rfl rfl ?_; simp only [go_sem, jE, reduceIte, jA, jM, jS, jL, jD, jB, c2]))
    exact Aw_ret (ret0 (.inl rfl) (by simp only [go_sem, jE, reduceIte, jA, jM, jS, jL, jD, jB]; rfl) (by rfl) rfl)
  have k3 := copyV_ac s hs c1
  have sm := valid_sm hs c1
  obtain ⟨h1, h2, h3, h4, h5, _, h7⟩ := storeS_facts c1
  rw [if_pos (show (true && true) = true from rfl)]
  obtain ⟨n, hn, rfl⟩ : ∃ n : Nat, n ≤ 1 ∧ l = n := by
    unfold inB at c2
    rw [Bool.and_eq_true] at c2
    have h1 := of_decide_eq_true c2.1; have h2 := of_decide_eq_true c2.2
    exact ⟨l.toNat, by omega, by omega⟩
  rw [show Int.toNat (n : Int) = n from rfl]
  obtain ⟨kn, hk, hkk⟩ : ∃ m : Nat, m ≤ 5 ∧ s.keep = m := by
    unfold inB at h7
    rw [Bool.and_eq_true] at h7
    have h1 := of_decide_eq_true h7.1; have h2 := of_decide_eq_true h7.2
    exact ⟨s.keep.toNat, by omega, by omega⟩
  obtain ⟨x, hset⟩ : ∃ x, setM s n [] = some x := by unfold setM; rw [keysM_nil, hkk, sieve_nil hk]; exact ⟨_, if_pos (Nat.zero_le _)⟩
  have smx : SmH x := setM_sm sm (by omega) smR_nil hset
  obtain ⟨q, hq⟩ : ∃ q, s.levels[n]? = some q := ⟨_, List.getElem?_eq_getElem (by omega)⟩
  have hqd : s.levels.getD n [] = q := by simp [List.getD, hq]
  obtain ⟨hq1, hq2⟩ := sm.lev q (List.mem_of_getElem? hq)
  have hlt := (List.getElem?_eq_some_iff.1 hq).1
  have k4 := l12Set_ok s x n [] (by omega) hlt (by omega) smR_nil hset
  have w1 : IntKind.i64.wrap ((n : Int) + 1) = ((n + 1 : Nat) : Int) := wrap_succ (m := n + 1) (by omega) (by omega)
  obtain ⟨i1, i2⟩ := into_ac (1 - n) x (n + 1) q (by omega) smx hq1 hq2
  rw [hset, Option.bind_some, hqd]
  refine ⟨fun y hin => ?_, fun hin => ?_⟩
  · have k5 := i1 y hin
    refine AC_of Tryz.func112 rfl Tryz.ntmps112 Tryz.results112 (by kernel_rfl) rfl ?_
    simp only [List.zipIdx, List.map, Nat.zero_add, Nat.reduceAdd]
    repeat (first | apply Aw_seq | apply Aw_block | apply Aw_skip | apply Aw_exit | refine Aw_condt rfl ?_ | refine Aw_condf rfl ?_ | ((first | refine qr ?_ | refine qd (by kernel_rfl) (by kernel_rfl) ?_); simp only [go_sem, jE, reduceIte, jA, jM, jS, jL, jD, jB, c2, w1, hq, hlt]) | refine dk (by kernel_rfl) ?_ | (refine qp (k1) (by simp only [go_sem, jE, reduceIte, jA, jM, jS, jL, jD, jB, c2, w1, hq, hlt]; first | done | rfl) rfl (by simp only [go_sem, Nat.reduceLT]) rfl rfl ?_; simp only [go_sem, jE, reduceIte, jA, jM, jS, jL, jD, jB, c2, w1, hq, hlt]) | (refine qp (l6In_ac _ _ _) (by simp only [go_sem, jE, reduceIte, jA, jM, jS, jL, jD, jB, c2, w1, hq, hlt]; first | done | rfl) rfl (by simp only [go_sem, Nat.reduceLT]) rfl rfl ?_; simp only [go_sem, jE, reduceIte, jA, jM, jS, jL, jD, jB, c2, w1, hq, hlt]) | (refine qx (call_N (L := []) (k3) rfl (.cons (.nm rfl) (.nil)) (.inl rfl) rfl) (by simp only [go_sem, jE, reduceIte, jA, jM, jS, jL, jD, jB, c2, w1, hq, hlt]; first | done | rfl) rfl (by simp only [go_sem, Nat.reduceLT]) ?_; simp only [go_sem, jE, reduceIte, jA, jM, jS, jL, jD, jB, c2, w1, hq, hlt]) | (refine qx (call_L (N' := [10, 11, 12, 13, 23]) (L := []) (k4) rfl (.cons (.nm rfl) (.cons (.nm rfl) (.cons (.nm rfl) (.nil)))) (by decide) (by decide) (by decide) (by simp only [go_sem, jE, reduceIte, jA, jM, jS, jL, jD, jB, c2, w1, hq, hlt]; first | done | rfl) (.inl rfl) rfl (by decide)) (by simp only [go_sem, jE, reduceIte, jA, jM, jS, jL, jD, jB, c2, w1, hq, hlt]; first | done | rfl) rfl (by simp only [go_sem, Nat.reduceLT]) ?_; simp only [go_sem, jE, reduceIte, jA, jM, jS, jL, jD, jB, c2, w1, hq, hlt]) | (refine qx (call_L (N' := [10, 11, 12, 13]) (L := []) (k5) rfl (.cons (.nm rfl) (.cons (.nm rfl) (.cons (.nm rfl) (.nil)))) (by decide) (by decide) (by decide) (by simp only [go_sem, jE, reduceIte, jA, jM, jS, jL, jD, jB, c2, w1, hq, hlt]; first | done | rfl) (.inl rfl) rfl (by decide)) (by simp only [go_sem, jE, reduceIte, jA, jM, jS, jL, jD, jB, c2, w1, hq, hlt]; first | done | rfl) rfl (by simp only [go_sem, Nat.reduceLT]) ?_; simp only [go_sem, jE, reduceIte, jA, jM, jS, jL, jD, jB, c2, w1, hq, hlt]))
    exact Aw_ret (retL (M := [10, 11, 12, 13]) (.inl rfl) (by simp only [go_sem, jE, reduceIte, jA, jM, jS, jL, jD, jB]; first | done | rfl) rfl rfl (by rfl) (by simp only [go_sem, jE, reduceIte, jA, jM, jS, jL, jD, jB]; first | done | rfl | (and_intros <;> rfl)) (by decide) (by unfold idM; decide))
  · have k5 := i2 hin
    refine AC_of Tryz.func112 rfl Tryz.ntmps112 Tryz.results112 (by kernel_rfl) rfl ?_
    simp only [List.zipIdx, List.map, Nat.zero_add, Nat.reduceAdd]
    repeat (first | apply Aw_seq | apply Aw_block | apply Aw_skip | apply Aw_exit | refine Aw_condt rfl ?_ | refine Aw_condf rfl ?_ | ((first | refine qr ?_ | refine qd (by kernel_rfl) (by kernel_rfl) ?_); simp only [go_sem, jE, reduceIte, jA, jM, jS, jL, jD, jB, c2, w1, hq, hlt]) | refine dk (by kernel_rfl) ?_ | (refine qp (k1) (by simp only [go_sem, jE, reduceIte, jA, jM, jS, jL, jD, jB, c2, w1, hq, hlt]; first | done | rfl) rfl (by simp only [go_sem, Nat.reduceLT]) rfl rfl ?_; simp only [go_sem, jE, reduceIte, jA, jM, jS, jL, jD, jB, c2, w1, hq, hlt]) | (refine qp (l6In_ac _ _ _) (by simp only [go_sem, jE, reduceIte, jA, jM, jS, jL, jD, jB, c2, w1, hq, hlt]; first | done | rfl) rfl (by simp only [go_sem, Nat.reduceLT]) rfl rfl ?_; simp only [go_sem, jE, reduceIte, jA, jM, jS, jL, jD, jB, c2, w1, hq, hlt]) | (refine qx (call_N (L := []) (k3) rfl (.cons (.nm rfl) (.nil)) (.inl rfl) rfl) (by simp only [go_sem, jE, reduceIte, jA, jM, jS, jL, jD, jB, c2, w1, hq, hlt]; first | done | rfl) rfl (by simp only [go_sem, Nat.reduceLT]) ?_; simp only [go_sem, jE, reduceIte, jA, jM, jS, jL, jD, jB, c2, w1, hq, hlt]) | (refine qx (call_L (N' := [10, 11, 12, 13, 23]) (L := []) (k4) rfl (.cons (.nm rfl) (.cons (.nm rfl) (.cons (.nm rfl) (.nil)))) (by decide) (by decide) (by decide) (by simp only [go_sem, jE, reduceIte, jA, jM, jS, jL, jD, jB, c2, w1, hq, hlt]; first | done | rfl) (.inl rfl) rfl (by decide)) (by simp only [go_sem, jE, reduceIte, jA, jM, jS, jL, jD, jB, c2, w1, hq, hlt]; first | done | rfl) rfl (by simp only [go_sem, Nat.reduceLT]) ?_; simp only [go_sem, jE, reduceIte, jA, jM, jS, jL, jD, jB, c2, w1, hq, hlt]) | (refine qx (call_L (N' := [10, 11, 12, 13]) (L := []) (k5) rfl (.cons (.nm rfl) (.cons (.nm rfl) (.cons (.nm rfl) (.nil)))) (by decide) (by decide) (by decide) (by simp only [go_sem, jE, reduceIte, jA, jM, jS, jL, jD, jB, c2, w1, hq, hlt]; first | done | rfl) (.inl rfl) rfl (by decide)) (by simp only [go_sem, jE, reduceIte, jA, jM, jS, jL, jD, jB, c2, w1, hq, hlt]; first | done | rfl) rfl (by simp only [go_sem, Nat.reduceLT]) ?_; simp only [go_sem, jE, reduceIte, jA, jM, jS, jL, jD, jB, c2, w1, hq, hlt]))
    exact Aw_ret (ret0 (.inl rfl) (by simp only [go_sem, jE, reduceIte, jA, jM, jS, jL, jD, jB]; rfl) (by rfl) rfl)
def heldTs (s : Sto) : List Int := if s.times.getLast? = some s.time then s.times else s.times ++ [s.time]
def holdM (s : Sto) : Option Sto := if storeS s = true then (if timesM (heldTs s) s.time = true then some { s with times := heldTs s } else none) else none
abbrev resH (o : Option Sto) : AV := .tup [stT (o.getD zSto), iT (o.getD zSto).time, bT o.isSome]
abbrev zH : AV := .tup [zA, iT 0, bT false]
theorem zH_nil : NilA zH (resH none) := .cons (.cons (NilC.nil _) (.cons (NilC.nil _) (.cons (NilC.nil _) (.cons (.inl rfl) (.cons (.inl rfl) (.cons (NilC.nil _) .nil)))))) (.cons (NilT.refl _) (.cons (NilT.refl _) .nil))
def OwnH (f : FuncId) (args : List TV) (o : Option Sto) : Prop := (∀ x, o = some x → AC Tryz.prog f args noHp 0 ⟨.tup [hT x, iT x.time, bT true], hpL (hS x), 4⟩) ∧ (o = none → AC Tryz.prog f args noHp 0 ⟨zH, noHp, 0⟩)
theorem storeHoldS_own (s : Sto) (hs : SmSt s) : OwnH 109 [stT s] (holdM s) := by
  have k1 := sstoreOk_ac s hs
  unfold holdM
  cases c1 : storeS s
  · rw [c1] at k1
    refine ⟨fun x hx => by simp at hx, fun _ => ?_⟩
    refine AC_of Tryz.func109 rfl Tryz.ntmps109 Tryz.results109 (by kernel_rfl) rfl ?_
    simp only [List.zipIdx, List.map, Nat.zero_add, Nat.reduceAdd]
    repeat (first | apply Aw_seq | apply Aw_block | apply Aw_skip | apply Aw_exit | refine Aw_condt rfl ?_ | refine Aw_condf rfl ?_ | ((first | refine qr ?_ | refine qd (by kernel_rfl) (by kernel_rfl) ?_); simp only [go_sem, jE, reduceIte, jA, jM, jS, jL, jD, jB]) | refine dk (by kernel_rfl) ?_ | (refine qp (k1) (by simp only [go_sem, jE, reduceIte, jA, jM, jS, jL, jD, jB]; first | done | rfl) rfl (by simp only [go_sem, Nat.reduceLT]) rfl rfl ?_; simp only [go_sem, jE, reduceIte, jA, jM, jS, jL, jD, jB]))
    exact Aw_ret (ret0 (.inl rfl) (by simp only [go_sem, jE, reduceIte, jA, jM, jS, jL, jD, jB]; rfl) (by rfl) rfl)
  rw [c1] at k1
  rw [if_pos rfl]
  have k3 := copyV_ac s hs c1
  obtain ⟨h1, h2, h3, h4, h5, _⟩ := storeS_facts c1
  have hap : (s.times.length + 1) * 8 ≤ 140737488355328 := by omega
  have hapA : ∀ (pre : s.times = [] ∨ ∃ j y, s.times.length = j + 1 ∧ s.times[j]? = some y ∧ decide (y = s.time) = false), OwnH 109 [stT s] (if timesM (s.times ++ [s.time]) s.time = true then some { s with times := s.times ++ [s.time] } else none) := by
    intro pre
    have k4 := (l12Times_ac (s.times ++ [s.time]) s.time (by simp; omega)).toL0
    simp only [intsT, List.map_append, List.map_cons, List.map_nil, intD] at k4
    cases c2 : timesM (s.times ++ [s.time]) s.time
    · rw [c2] at k4
      refine ⟨fun x hx => by simp at hx, fun _ => ?_⟩
      rcases pre with hz | ⟨j, y, hj, hy, hne⟩
      · have z0 : decide (((s.times.length : Nat) : Int) = 0) = true := by rw [hz]; rfl
        refine AC_of Tryz.func109 rfl Tryz.ntmps109 Tryz.results109 (by kernel_rfl) rfl ?_
        simp only [List.zipIdx, List.map, Nat.zero_add, Nat.reduceAdd]
        repeat (first | apply Aw_seq | apply Aw_block | apply Aw_skip | apply Aw_exit | refine Aw_condt rfl ?_ | refine Aw_condf rfl ?_ | ((first | refine qr ?_ | refine qd (by kernel_rfl) (by kernel_rfl) ?_); simp only [go_sem, jE, reduceIte, jA, jM, jS, jL, jD, jB, z0, hap]) | refine dk (by kernel_rfl) ?_ | (refine qp (k1) (by simp only [go_sem, jE, reduceIte, jA, jM, jS, jL, jD, jB, z0, hap]; first | done | rfl) rfl (by simp only [go_sem, Nat.reduceLT]) rfl rfl ?_; simp only [go_sem, jE, reduceIte, jA, jM, jS, jL, jD, jB, z0, hap]) | (refine qx (call_N (L := []) (k3) rfl (.cons (.nm rfl) (.nil)) (.inl rfl) rfl) (by simp only [go_sem, jE, reduceIte, jA, jM, jS, jL, jD, jB, z0, hap]; first | done | rfl) rfl (by simp only [go_sem, Nat.reduceLT]) ?_; simp only [go_sem, jE, reduceIte, jA, jM, jS, jL, jD, jB, z0, hap]) | (refine qx (call_N (L := [25]) (k4) rfl (.cons (arg_lend (m := 25) rfl (by simp)) (.cons (.nm rfl) (.nil))) (.inr ⟨rfl, by simp⟩) rfl) (by simp only [go_sem, jE, reduceIte, jA, jM, jS, jL, jD, jB, z0, hap]; first | done | rfl) rfl (by simp only [go_sem, Nat.reduceLT]) ?_; simp only [go_sem, jE, reduceIte, jA, jM, jS, jL, jD, jB, z0, hap]))
        exact Aw_ret (ret0 (.inl rfl) (by simp only [go_sem, jE, reduceIte, jA, jM, jS, jL, jD, jB]; rfl) (by rfl) rfl)
      · have z0 : decide (((s.times.length : Nat) : Int) = 0) = false := decide_eq_false (by omega)
        have w1 : IntKind.i64.wrap (((s.times.length : Nat) : Int) - 1) = (j : Int) := by rw [hj]; exact wrap_pred (m := j + 1) (by omega) (by omega)
        have hjl : j < s.times.length := by omega
        refine AC_of Tryz.func109 rfl Tryz.ntmps109 Tryz.results109 (by kernel_rfl) rfl ?_
        simp only [List.zipIdx, List.map, Nat.zero_add, Nat.reduceAdd]
        repeat (first | apply Aw_seq | apply Aw_block | apply Aw_skip | apply Aw_exit | refine Aw_condt rfl ?_ | refine Aw_condf rfl ?_ | ((first | refine qr ?_ | refine qd (by kernel_rfl) (by kernel_rfl) ?_); simp only [go_sem, jE, reduceIte, jA, jM, jS, jL, jD, jB, z0, hap, w1, hy, hne, hjl]) | refine dk (by kernel_rfl) ?_ | (refine qp (k1) (by simp only [go_sem, jE, reduceIte, jA, jM, jS, jL, jD, jB, z0, hap, w1, hy, hne, hjl]; first | done | rfl) rfl (by simp only [go_sem, Nat.reduceLT]) rfl rfl ?_; simp only [go_sem, jE, reduceIte, jA, jM, jS, jL, jD, jB, z0, hap, w1, hy, hne, hjl]) | (refine qx (call_N (L := []) (k3) rfl (.cons (.nm rfl) (.nil)) (.inl rfl) rfl) (by simp only [go_sem, jE, reduceIte, jA, jM, jS, jL, jD, jB, z0, hap, w1, hy, hne, hjl]; first | done | rfl) rfl (by simp only [go_sem, Nat.reduceLT]) ?_; simp only [go_sem, jE, reduceIte, jA, jM, jS, jL, jD, jB, z0, hap, w1, hy, hne, hjl]) | (refine qx (call_N (L := [34]) (k4) rfl (.cons (arg_lend (m := 34) rfl (by simp)) (.cons (.nm rfl) (.nil))) (.inr ⟨rfl, by simp⟩) rfl) (by simp only [go_sem, jE, reduceIte, jA, jM, jS, jL, jD, jB, z0, hap, w1, hy, hne, hjl]; first | done | rfl) rfl (by simp only [go_sem, Nat.reduceLT]) ?_; simp only [go_sem, jE, reduceIte, jA, jM, jS, jL, jD, jB, z0, hap, w1, hy, hne, hjl]))
        exact Aw_ret (ret0 (.inl rfl) (by simp only [go_sem, jE, reduceIte, jA, jM, jS, jL, jD, jB]; rfl) (by rfl) rfl)
    · rw [c2] at k4
      refine ⟨fun x hx => ?_, fun hx => by simp at hx⟩
      obtain rfl := Option.some.inj (show some { s with times := s.times ++ [s.time] } = some x from hx)
      rcases pre with hz | ⟨j, y, hj, hy, hne⟩
      · have z0 : decide (((s.times.length : Nat) : Int) = 0) = true := by rw [hz]; rfl
        refine AC_of Tryz.func109 rfl Tryz.ntmps109 Tryz.results109 (by kernel_rfl) rfl ?_
        simp only [List.zipIdx, List.map, Nat.zero_add, Nat.reduceAdd]
        repeat (first | apply Aw_seq | apply Aw_block | apply Aw_skip | apply Aw_exit | refine Aw_condt rfl ?_ | refine Aw_condf rfl ?_ | ((first | refine qr ?_ | refine qd (by kernel_rfl) (by kernel_rfl) ?_); simp only [go_sem, jE, reduceIte, jA, jM, jS, jL, jD, jB, z0, hap]) | refine dk (by kernel_rfl) ?_ | (refine qp (k1) (by simp only [go_sem, jE, reduceIte, jA, jM, jS, jL, jD, jB, z0, hap]; first | done | rfl) rfl (by simp only [go_sem, Nat.reduceLT]) rfl rfl ?_; simp only [go_sem, jE, reduceIte, jA, jM, jS, jL, jD, jB, z0, hap]) | (refine qx (call_N (L := []) (k3) rfl (.cons (.nm rfl) (.nil)) (.inl rfl) rfl) (by simp only [go_sem, jE, reduceIte, jA, jM, jS, jL, jD, jB, z0, hap]; first | done | rfl) rfl (by simp only [go_sem, Nat.reduceLT]) ?_; simp only [go_sem, jE, reduceIte, jA, jM, jS, jL, jD, jB, z0, hap]) | (refine qx (call_N (L := [25]) (k4) rfl (.cons (arg_lend (m := 25) rfl (by simp)) (.cons (.nm rfl) (.nil))) (.inr ⟨rfl, by simp⟩) rfl) (by simp only [go_sem, jE, reduceIte, jA, jM, jS, jL, jD, jB, z0, hap]; first | done | rfl) rfl (by simp only [go_sem, Nat.reduceLT]) ?_; simp only [go_sem, jE, reduceIte, jA, jM, jS, jL, jD, jB, z0, hap]))
        exact Aw_ret (retL (M := [7, 8, 9, 25]) (.inl rfl) (by simp only [go_sem, jE, reduceIte, jA, jM, jS, jL, jD, jB]; first | done | rfl) rfl rfl (by rfl) (by simp only [go_sem, jE, reduceIte, jA, jM, jS, jL, jD, jB, List.map_append, List.map_cons, List.map_nil]; first | done | rfl | (and_intros <;> rfl)) (by decide) (by unfold idM; decide))
      · have z0 : decide (((s.times.length : Nat) : Int) = 0) = false := decide_eq_false (by omega)
        have w1 : IntKind.i64.wrap (((s.times.length : Nat) : Int) - 1) = (j : Int) := by rw [hj]; exact wrap_pred (m := j + 1) (by omega) (by omega)
        have hjl : j < s.times.length := by omega
        refine AC_of Tryz.func109 rfl Tryz.ntmps109 Tryz.results109 (by kernel_rfl) rfl ?_
        simp only [List.zipIdx, List.map, Nat.zero_add, Nat.reduceAdd]
        repeat (first | apply Aw_seq | apply Aw_block | apply Aw_skip | apply Aw_exit | refine Aw_condt rfl ?_ | refine Aw_condf rfl ?_ | ((first | refine qr ?_ | refine qd (by kernel_rfl) (by kernel_rfl) ?_); simp only [go_sem, jE, reduceIte, jA, jM, jS, jL, jD, jB, z0, hap, w1, hy, hne, hjl]) | refine dk (by kernel_rfl) ?_ | (refine qp (k1) (by simp only [go_sem, jE, reduceIte, jA, jM, jS, jL, jD, jB, z0, hap, w1, hy, hne, hjl]; first | done | rfl) rfl (by simp only [go_sem, Nat.reduceLT]) rfl rfl ?_; simp only [go_sem, jE, reduceIte, jA, jM, jS, jL, jD, jB, z0, hap, w1, hy, hne, hjl]) | (refine qx (call_N (L := []) (k3) rfl (.cons (.nm rfl) (.nil)) (.inl rfl) rfl) (by simp only [go_sem, jE, reduceIte, jA, jM, jS, jL, jD, jB, z0, hap, w1, hy, hne, hjl]; first | done | rfl) rfl (by simp only [go_sem, Nat.reduceLT]) ?_; simp only [go_sem, jE, reduceIte, jA, jM, jS, jL, jD, jB, z0, hap, w1, hy, hne, hjl]) | (refine qx (call_N (L := [34]) (k4) rfl (.cons (arg_lend (m := 34) rfl (by simp)) (.cons (.nm rfl) (.nil))) (.inr ⟨rfl, by simp⟩) rfl) (by simp only [go_sem, jE, reduceIte, jA, jM, jS, jL, jD, jB, z0, hap, w1, hy, hne, hjl]; first | done | rfl) rfl (by simp only [go_sem, Nat.reduceLT]) ?_; simp only [go_sem, jE, reduceIte, jA, jM, jS, jL, jD, jB, z0, hap, w1, hy, hne, hjl]))
        exact Aw_ret (retL (M := [7, 8, 9, 34]) (.inl rfl) (by simp only [go_sem, jE, reduceIte, jA, jM, jS, jL, jD, jB]; first | done | rfl) rfl rfl (by rfl) (by simp only [go_sem, jE, reduceIte, jA, jM, jS, jL, jD, jB, List.map_append, List.map_cons, List.map_nil]; first | done | rfl | (and_intros <;> rfl)) (by decide) (by unfold idM; decide))
  by_cases hz : s.times = []
  · have hh : heldTs s = s.times ++ [s.time] := by unfold heldTs; rw [hz]; simp
    rw [hh]
    exact hapA (.inl hz)
  · obtain ⟨j, hj⟩ : ∃ j, s.times.length = j + 1 := ⟨s.times.length - 1, by have := List.length_pos_iff.2 hz; omega⟩
    obtain ⟨y, hy⟩ : ∃ y, s.times[j]? = some y := ⟨_, List.getElem?_eq_getElem (by omega)⟩
    have hlast : s.times.getLast? = some y := by rw [List.getLast?_eq_getElem?, hj]; exact hy
    cases c3 : decide (y = s.time)
    · have hh : heldTs s = s.times ++ [s.time] := by
        unfold heldTs; rw [hlast, if_neg]
        intro e; rw [Option.some.inj e] at c3; simp at c3
      rw [hh]
      exact hapA (.inr ⟨j, y, hj, hy, c3⟩)
    · have hh : heldTs s = s.times := by unfold heldTs; rw [hlast, of_decide_eq_true c3, if_pos rfl]
      rw [hh]
      have k4 := (l12Times_ac s.times s.time (by omega)).toL0
      have z0 : decide (((s.times.length : Nat) : Int) = 0) = false := decide_eq_false (by omega)
      have w1 : IntKind.i64.wrap (((s.times.length : Nat) : Int) - 1) = (j : Int) := by rw [hj]; exact wrap_pred (m := j + 1) (by omega) (by omega)
      have hjl : j < s.times.length := by omega
      cases c2 : timesM s.times s.time
      · rw [c2] at k4
        refine ⟨fun x hx => by simp at hx, fun _ => ?_⟩
        refine AC_of Tryz.func109 rfl Tryz.ntmps109 Tryz.results109 (by kernel_rfl) rfl ?_
        simp only [List.zipIdx, List.map, Nat.zero_add, Nat.reduceAdd]
        repeat (first | apply Aw_seq | apply Aw_block | apply Aw_skip | apply Aw_exit | refine Aw_condt rfl ?_ | refine Aw_condf rfl ?_ | ((first | refine qr ?_ | refine qd (by kernel_rfl) (by kernel_rfl) ?_); simp only [go_sem, jE, reduceIte, jA, jM, jS, jL, jD, jB, z0, w1, hy, c3, hjl]) | refine dk (by kernel_rfl) ?_ | (refine qp (k1) (by simp only [go_sem, jE, reduceIte, jA, jM, jS, jL, jD, jB, z0, w1, hy, c3, hjl]; first | done | rfl) rfl (by simp only [go_sem, Nat.reduceLT]) rfl rfl ?_; simp only [go_sem, jE, reduceIte, jA, jM, jS, jL, jD, jB, z0, w1, hy, c3, hjl]) | (refine qx (call_N (L := []) (k3) rfl (.cons (.nm rfl) (.nil)) (.inl rfl) rfl) (by simp only [go_sem, jE, reduceIte, jA, jM, jS, jL, jD, jB, z0, w1, hy, c3, hjl]; first | done | rfl) rfl (by simp only [go_sem, Nat.reduceLT]) ?_; simp only [go_sem, jE, reduceIte, jA, jM, jS, jL, jD, jB, z0, w1, hy, c3, hjl]) | (refine qx (call_N (L := [10]) (k4) rfl (.cons (arg_lend (m := 10) rfl (by simp)) (.cons (.nm rfl) (.nil))) (.inr ⟨rfl, by simp⟩) rfl) (by simp only [go_sem, jE, reduceIte, jA, jM, jS, jL, jD, jB, z0, w1, hy, c3, hjl]; first | done | rfl) rfl (by simp only [go_sem, Nat.reduceLT]) ?_; simp only [go_sem, jE, reduceIte, jA, jM, jS, jL, jD, jB, z0, w1, hy, c3, hjl]))
        exact Aw_ret (ret0 (.inl rfl) (by simp only [go_sem, jE, reduceIte, jA, jM, jS, jL, jD, jB]; rfl) (by rfl) rfl)
      · rw [c2] at k4
        refine ⟨fun x hx => ?_, fun hx => by simp at hx⟩
        obtain rfl := Option.some.inj (show some { s with times := s.times } = some x from hx)
        refine AC_of Tryz.func109 rfl Tryz.ntmps109 Tryz.results109 (by kernel_rfl) rfl ?_
        simp only [List.zipIdx, List.map, Nat.zero_add, Nat.reduceAdd]
        repeat (first | apply Aw_seq | apply Aw_block | apply Aw_skip | apply Aw_exit | refine Aw_condt rfl ?_ | refine Aw_condf rfl ?_ | ((first | refine qr ?_ | refine qd (by kernel_rfl) (by kernel_rfl) ?_); simp only [go_sem, jE, reduceIte, jA, jM, jS, jL, jD, jB, z0, w1, hy, c3, hjl]) | refine dk (by kernel_rfl) ?_ | (refine qp (k1) (by simp only [go_sem, jE, reduceIte, jA, jM, jS, jL, jD, jB, z0, w1, hy, c3, hjl]; first | done | rfl) rfl (by simp only [go_sem, Nat.reduceLT]) rfl rfl ?_; simp only [go_sem, jE, reduceIte, jA, jM, jS, jL, jD, jB, z0, w1, hy, c3, hjl]) | (refine qx (call_N (L := []) (k3) rfl (.cons (.nm rfl) (.nil)) (.inl rfl) rfl) (by simp only [go_sem, jE, reduceIte, jA, jM, jS, jL, jD, jB, z0, w1, hy, c3, hjl]; first | done | rfl) rfl (by simp only [go_sem, Nat.reduceLT]) ?_; simp only [go_sem, jE, reduceIte, jA, jM, jS, jL, jD, jB, z0, w1, hy, c3, hjl]) | (refine qx (call_N (L := [10]) (k4) rfl (.cons (arg_lend (m := 10) rfl (by simp)) (.cons (.nm rfl) (.nil))) (.inr ⟨rfl, by simp⟩) rfl) (by simp only [go_sem, jE, reduceIte, jA, jM, jS, jL, jD, jB, z0, w1, hy, c3, hjl]; first | done | rfl) rfl (by simp only [go_sem, Nat.reduceLT]) ?_; simp only [go_sem, jE, reduceIte, jA, jM, jS, jL, jD, jB, z0, w1, hy, c3, hjl]))
        exact Aw_ret (retL (M := [7, 8, 9, 10]) (.inl rfl) (by simp only [go_sem, jE, reduceIte, jA, jM, jS, jL, jD, jB]; first | done | rfl) rfl rfl (by rfl) (by simp only [go_sem, jE, reduceIte, jA, jM, jS, jL, jD, jB]; first | done | rfl | (and_intros <;> rfl)) (by decide) (by unfold idM; decide))
def freeAt (ts : List Int) (t : Int) (i : Nat) : List Int := match ts[i]? with
  | some x => if x = t then [] else [x]
  | none => []
def freeTs (ts : List Int) (t : Int) : List Int := colI ts.length (freeAt ts t)
theorem freeAt_len (ts : List Int) (t : Int) (i : Nat) : (freeAt ts t i).length ≤ 1 := by unfold freeAt; split <;> (try split) <;> simp
def freeM (s : Sto) (t : Int) : Option Sto := if storeS s = true then (if (freeTs s.times t).length = s.times.length then none else some { s with times := freeTs s.times t }) else none
def stHd (s : Sto) : Obj := ⟨28, 6, false, [[.h 5, .h 0, .h 1, .d (.s (.int .i64 s.keep)), .d (.s (.int .i64 s.time)), .h 6]]⟩
@[go_sem] theorem r_stHd (s : Sto) : stHd s = ⟨28, 6, false, [[.h 5, .h 0, .h 1, .d (.s (.int .i64 s.keep)), .d (.s (.int .i64 s.time)), .h 6]]⟩ := rfl
theorem storeFreeS_own (s : Sto) (t : Int) (hs : SmSt s) : OwnR 110 [stT s, iT t] (freeM s t) := by
  have k1 := sstoreOk_ac s hs
  unfold freeM
  cases c1 : storeS s
  · rw [c1] at k1
    refine ⟨fun x hx => by simp at hx, fun _ => ?_⟩
    refine AC_of Tryz.func110 rfl Tryz.ntmps110 Tryz.results110 (by kernel_rfl) rfl ?_
    simp only [List.zipIdx, List.map, Nat.zero_add, Nat.reduceAdd]
    repeat (first | apply Aw_seq | apply Aw_block | apply Aw_skip | apply Aw_exit | refine Aw_condt rfl ?_ | refine Aw_condf rfl ?_ | ((first | refine qr ?_ | refine qd (by kernel_rfl) (by kernel_rfl) ?_); simp only [go_sem, jE, reduceIte, jA, jM, jS, jL, jD, jB]) | refine dk (by kernel_rfl) ?_ | (refine qp (k1) (by simp only [go_sem, jE, reduceIte, jA, jM, jS, jL, jD, jB]; first | done | rfl) rfl (by simp only [go_sem, Nat.reduceLT]) rfl rfl ?_; simp only [go_sem, jE, reduceIte, jA, jM, jS, jL, jD, jB]))
    exact Aw_ret (ret0 (.inl rfl) (by simp only [go_sem, jE, reduceIte, jA, jM, jS, jL, jD, jB]; rfl) (by rfl) rfl)
  rw [c1] at k1
  rw [if_pos rfl]
  have k3 := copyV_ac s hs c1
  obtain ⟨h1, h2, h3, h4, h5, _⟩ := storeS_facts c1
  by_cases hc : (freeTs s.times t).length = s.times.length
  · rw [if_pos hc]
    have hci : decide ((((freeTs s.times t).length : Nat) : Int) = ((s.times.length : Nat) : Int)) = true := decide_eq_true (by omega)
    refine ⟨fun x hx => by simp at hx, fun _ => ?_⟩
    refine AC_of Tryz.func110 rfl Tryz.ntmps110 Tryz.results110 (by kernel_rfl) rfl ?_
    simp only [List.zipIdx, List.map, Nat.zero_add, Nat.reduceAdd]
    repeat (first | apply Aw_seq | apply Aw_block | apply Aw_skip | apply Aw_exit | refine Aw_condt rfl ?_ | refine Aw_condf rfl ?_ | ((first | refine qr ?_ | refine qd (by kernel_rfl) (by kernel_rfl) ?_); simp only [go_sem, jE, reduceIte, jA, jM, jS, jL, jD, jB]) | refine dk (by kernel_rfl) ?_ | (refine qp (k1) (by simp only [go_sem, jE, reduceIte, jA, jM, jS, jL, jD, jB]; first | done | rfl) rfl (by simp only [go_sem, Nat.reduceLT]) rfl rfl ?_; simp only [go_sem, jE, reduceIte, jA, jM, jS, jL, jD, jB]) | (refine qx (call_N (L := []) (k3) rfl (.cons (.nm rfl) (.nil)) (.inl rfl) rfl) (by simp only [go_sem, jE, reduceIte, jA, jM, jS, jL, jD, jB]; first | done | rfl) rfl (by simp only [go_sem, Nat.reduceLT]) ?_; simp only [go_sem, jE, reduceIte, jA, jM, jS, jL, jD, jB]))
    refine Aw.rw (rwL (l' := [(7, .t (iT (0 : Nat))), (6, .t (.c (.h 4))), (5, .t (bT false)), (4, .t (.c (.ph 3 0 0))), (2, .t (.c (.ph 2 0 0))), (1, .t (iT t))]) (os := [some (lvRow s.levels), some (svRow s.sieves), some (stHd s), some zO, some (dRow 3 1 ((colI 0 (freeAt s.times t)).map intD)), some (eRow s.top), some (tmRow s.times)]) (M := [6, 7, 0, 1, 11, 8, 9]) (n' := 7) (by repeat (first | exact trivial | refine ⟨rfl, rfl, ?_⟩)) (by rfl) (by simp only [go_sem, jE, reduceIte, jA, jM, jS, jL, jD, jB, colI_0, List.map_nil]; first | done | rfl) (by decide) (by unfold idM; decide)) ?_
    refine Aw_loop_rw (ι := { i : Nat // i ≤ s.times.length }) (fun q => S [(7, .t (iT (q.1 : Nat))), (6, .t (.c (.h 4))), (5, .t (bT false)), (4, .t (.c (.ph 3 0 0))), (2, .t (.c (.ph 2 0 0))), (1, .t (iT t))] (hpL [some (lvRow s.levels), some (svRow s.sieves), some (stHd s), some zO, some (dRow 3 1 ((colI q.1 (freeAt s.times t)).map intD)), some (eRow s.top), some (tmRow s.times)]) 7) (fun q => s.times.length - q.1) ⟨0, Nat.zero_le _⟩ ?_
    rintro ⟨i, hi⟩
    dsimp only
    by_cases hlt : i < s.times.length
    · have g1 : (i : Int) < (s.times.length : Int) := by omega
      have w1 := wrap_succ hlt (by omega)
      obtain ⟨x, hx⟩ : ∃ e, s.times[i]? = some e := ⟨_, List.getElem?_eq_getElem hlt⟩
      have hb : ((colI i (freeAt s.times t)).length + 1) * 8 ≤ 140737488355328 := by have := colI_len (n := i) (freeAt_len s.times t); omega
      cases c : decide (x = t)
      · have hcc : colI (i + 1) (freeAt s.times t) = colI i (freeAt s.times t) ++ [x] := by rw [colI_succ]; simp at c; simp [freeAt, hx, c]
        repeat (first | apply Aw_seq | apply Aw_block | apply Aw_skip | apply Aw_exit | refine Aw_condt rfl ?_ | refine Aw_condf rfl ?_ | ((first | refine qr ?_ | refine qd (by kernel_rfl) (by kernel_rfl) ?_); simp only [go_sem, jE, reduceIte, jA, jM, jS, jL, jD, jB, g1, w1, hlt, hx, c, hb]) | refine dk (by kernel_rfl) ?_)
        refine ⟨⟨i + 1, hlt⟩, [0, 1, 2, 3, 26, 5, 6], ?_, rwL (by repeat (first | exact trivial | refine ⟨rfl, rfl, ?_⟩)) (by rfl) (by simp only [go_sem, jE, reduceIte, jA, jM, jS, jL, jD, jB, hcc, List.map_append, List.map_cons, List.map_nil]; first | done | rfl) (by decide) (by unfold idM; decide)⟩
        show s.times.length - (i + 1) < s.times.length - i; omega
      · have hcc : colI (i + 1) (freeAt s.times t) = colI i (freeAt s.times t) := by rw [colI_succ]; simp at c; simp [freeAt, hx, c]
        repeat (first | apply Aw_seq | apply Aw_block | apply Aw_skip | apply Aw_exit | refine Aw_condt rfl ?_ | refine Aw_condf rfl ?_ | ((first | refine qr ?_ | refine qd (by kernel_rfl) (by kernel_rfl) ?_); simp only [go_sem, jE, reduceIte, jA, jM, jS, jL, jD, jB, g1, w1, hlt, hx, c]) | refine dk (by kernel_rfl) ?_)
        refine ⟨⟨i + 1, hlt⟩, [0, 1, 2, 3, 4, 5, 6], ?_, rwL (by repeat (first | exact trivial | refine ⟨rfl, rfl, ?_⟩)) (by rfl) (by simp only [go_sem, jE, reduceIte, jA, jM, jS, jL, jD, jB, hcc]; first | done | rfl) (by decide) (by unfold idM; decide)⟩
        show s.times.length - (i + 1) < s.times.length - i; omega
    · have g1 : ¬ (i : Int) < (s.times.length : Int) := by omega
      obtain rfl : i = s.times.length := by omega
      have ef : colI s.times.length (freeAt s.times t) = freeTs s.times t := rfl
      rw [ef]
      repeat (first | apply Aw_seq | apply Aw_block | apply Aw_skip | apply Aw_exit | refine Aw_condt rfl ?_ | refine Aw_condf rfl ?_ | ((first | refine qr ?_ | refine qd (by kernel_rfl) (by kernel_rfl) ?_); simp only [go_sem, jE, reduceIte, jA, jM, jS, jL, jD, jB, g1, hci]) | refine dk (by kernel_rfl) ?_)
      exact Aw_ret (ret0 (.inl rfl) (by simp only [go_sem, jE, reduceIte, jA, jM, jS, jL, jD, jB]; rfl) (by rfl) rfl)
  · rw [if_neg hc]
    have hci : decide ((((freeTs s.times t).length : Nat) : Int) = ((s.times.length : Nat) : Int)) = false := decide_eq_false (by omega)
    refine ⟨fun x hx => ?_, fun hx => by simp at hx⟩
    obtain rfl := Option.some.inj hx
    refine AC_of Tryz.func110 rfl Tryz.ntmps110 Tryz.results110 (by kernel_rfl) rfl ?_
    simp only [List.zipIdx, List.map, Nat.zero_add, Nat.reduceAdd]
    repeat (first | apply Aw_seq | apply Aw_block | apply Aw_skip | apply Aw_exit | refine Aw_condt rfl ?_ | refine Aw_condf rfl ?_ | ((first | refine qr ?_ | refine qd (by kernel_rfl) (by kernel_rfl) ?_); simp only [go_sem, jE, reduceIte, jA, jM, jS, jL, jD, jB]) | refine dk (by kernel_rfl) ?_ | (refine qp (k1) (by simp only [go_sem, jE, reduceIte, jA, jM, jS, jL, jD, jB]; first | done | rfl) rfl (by simp only [go_sem, Nat.reduceLT]) rfl rfl ?_; simp only [go_sem, jE, reduceIte, jA, jM, jS, jL, jD, jB]) | (refine qx (call_N (L := []) (k3) rfl (.cons (.nm rfl) (.nil)) (.inl rfl) rfl) (by simp only [go_sem, jE, reduceIte, jA, jM, jS, jL, jD, jB]; first | done | rfl) rfl (by simp only [go_sem, Nat.reduceLT]) ?_; simp only [go_sem, jE, reduceIte, jA, jM, jS, jL, jD, jB]))
    refine Aw.rw (rwL (l' := [(7, .t (iT (0 : Nat))), (6, .t (.c (.h 4))), (5, .t (bT false)), (4, .t (.c (.ph 3 0 0))), (2, .t (.c (.ph 2 0 0))), (1, .t (iT t))]) (os := [some (lvRow s.levels), some (svRow s.sieves), some (stHd s), some zO, some (dRow 3 1 ((colI 0 (freeAt s.times t)).map intD)), some (eRow s.top), some (tmRow s.times)]) (M := [6, 7, 0, 1, 11, 8, 9]) (n' := 7) (by repeat (first | exact trivial | refine ⟨rfl, rfl, ?_⟩)) (by rfl) (by simp only [go_sem, jE, reduceIte, jA, jM, jS, jL, jD, jB, colI_0, List.map_nil]; first | done | rfl) (by decide) (by unfold idM; decide)) ?_
    refine Aw_loop_rw (ι := { i : Nat // i ≤ s.times.length }) (fun q => S [(7, .t (iT (q.1 : Nat))), (6, .t (.c (.h 4))), (5, .t (bT false)), (4, .t (.c (.ph 3 0 0))), (2, .t (.c (.ph 2 0 0))), (1, .t (iT t))] (hpL [some (lvRow s.levels), some (svRow s.sieves), some (stHd s), some zO, some (dRow 3 1 ((colI q.1 (freeAt s.times t)).map intD)), some (eRow s.top), some (tmRow s.times)]) 7) (fun q => s.times.length - q.1) ⟨0, Nat.zero_le _⟩ ?_
    rintro ⟨i, hi⟩
    dsimp only
    by_cases hlt : i < s.times.length
    · have g1 : (i : Int) < (s.times.length : Int) := by omega
      have w1 := wrap_succ hlt (by omega)
      obtain ⟨x, hx⟩ : ∃ e, s.times[i]? = some e := ⟨_, List.getElem?_eq_getElem hlt⟩
      have hb : ((colI i (freeAt s.times t)).length + 1) * 8 ≤ 140737488355328 := by have := colI_len (n := i) (freeAt_len s.times t); omega
      cases c : decide (x = t)
      · have hcc : colI (i + 1) (freeAt s.times t) = colI i (freeAt s.times t) ++ [x] := by rw [colI_succ]; simp at c; simp [freeAt, hx, c]
        repeat (first | apply Aw_seq | apply Aw_block | apply Aw_skip | apply Aw_exit | refine Aw_condt rfl ?_ | refine Aw_condf rfl ?_ | ((first | refine qr ?_ | refine qd (by kernel_rfl) (by kernel_rfl) ?_); simp only [go_sem, jE, reduceIte, jA, jM, jS, jL, jD, jB, g1, w1, hlt, hx, c, hb]) | refine dk (by kernel_rfl) ?_)
        refine ⟨⟨i + 1, hlt⟩, [0, 1, 2, 3, 26, 5, 6], ?_, rwL (by repeat (first | exact trivial | refine ⟨rfl, rfl, ?_⟩)) (by rfl) (by simp only [go_sem, jE, reduceIte, jA, jM, jS, jL, jD, jB, hcc, List.map_append, List.map_cons, List.map_nil]; first | done | rfl) (by decide) (by unfold idM; decide)⟩
        show s.times.length - (i + 1) < s.times.length - i; omega
      · have hcc : colI (i + 1) (freeAt s.times t) = colI i (freeAt s.times t) := by rw [colI_succ]; simp at c; simp [freeAt, hx, c]
        repeat (first | apply Aw_seq | apply Aw_block | apply Aw_skip | apply Aw_exit | refine Aw_condt rfl ?_ | refine Aw_condf rfl ?_ | ((first | refine qr ?_ | refine qd (by kernel_rfl) (by kernel_rfl) ?_); simp only [go_sem, jE, reduceIte, jA, jM, jS, jL, jD, jB, g1, w1, hlt, hx, c]) | refine dk (by kernel_rfl) ?_)
        refine ⟨⟨i + 1, hlt⟩, [0, 1, 2, 3, 4, 5, 6], ?_, rwL (by repeat (first | exact trivial | refine ⟨rfl, rfl, ?_⟩)) (by rfl) (by simp only [go_sem, jE, reduceIte, jA, jM, jS, jL, jD, jB, hcc]; first | done | rfl) (by decide) (by unfold idM; decide)⟩
        show s.times.length - (i + 1) < s.times.length - i; omega
    · have g1 : ¬ (i : Int) < (s.times.length : Int) := by omega
      obtain rfl : i = s.times.length := by omega
      have ef : colI s.times.length (freeAt s.times t) = freeTs s.times t := rfl
      rw [ef]
      repeat (first | apply Aw_seq | apply Aw_block | apply Aw_skip | apply Aw_exit | refine Aw_condt rfl ?_ | refine Aw_condf rfl ?_ | ((first | refine qr ?_ | refine qd (by kernel_rfl) (by kernel_rfl) ?_); simp only [go_sem, jE, reduceIte, jA, jM, jS, jL, jD, jB, g1, hci]) | refine dk (by kernel_rfl) ?_)
      exact Aw_ret (retL (M := [0, 1, 5, 4]) (.inl rfl) (by simp only [go_sem, jE, reduceIte, jA, jM, jS, jL, jD, jB]; first | done | rfl) rfl rfl (by rfl) (by simp only [go_sem, jE, reduceIte, jA, jM, jS, jL, jD, jB]; first | done | rfl | (and_intros <;> rfl)) (by decide) (by unfold idM; decide))
structure Deed where
  kind : Int
  key : ByteArray
  num : Int
def deedD (d : Deed) : List D := [.s (.int .i64 d.kind), .s (.string d.key), .s (.int .i64 d.num)]
@[go_sem] theorem r_deedD (d : Deed) : deedD d = [.s (.int .i64 d.kind), .s (.string d.key), .s (.int .i64 d.num)] := rfl
abbrev deedT (d : Deed) : TV := .agg [.d (.s (.int .i64 d.kind)), .d (.s (.string d.key)), .d (.s (.int .i64 d.num))]
abbrev deedsT (ds : List Deed) : TV := .c (.d (.rs 3 (ds.map deedD)))
def doM (s : Sto) (d : Deed) : Option Sto := if d.kind = 1 then putM s d.key d.num else if d.kind = 2 then takeM s d.key else if d.kind = 3 then holdM s else if d.kind = 4 then freeM s d.num else if d.kind = 5 then sDownM s else if d.kind = 6 then sJoinM s d.num else none
theorem l13Do_own (s : Sto) (d : Deed) (hs : SmSt s) (hk : smK d.key) : OwnR 54 [stT s, deedT d] (doM s d) := by
  unfold doM
  cases c1 : decide (d.kind = 1)
  case true =>
    rw [if_pos (of_decide_eq_true c1)]
    obtain ⟨a1, a2⟩ := storePutS_own s d.key d.num hs hk
    refine ⟨fun x hx => ?_, fun hx => ?_⟩
    · have k := a1 x hx
      refine AC_of Tryz.func54 rfl Tryz.ntmps54 Tryz.results54 (by kernel_rfl) rfl ?_
      simp only [List.zipIdx, List.map, Nat.zero_add, Nat.reduceAdd]
      repeat (first | apply Aw_seq | apply Aw_block | apply Aw_skip | apply Aw_exit | refine Aw_condt rfl ?_ | refine Aw_condf rfl ?_ | ((first | refine qr ?_ | refine qd (by kernel_rfl) (by kernel_rfl) ?_); simp only [go_sem, jE, reduceIte, jA, jM, jS, jL, jD, jB, c1]) | refine dk (by kernel_rfl) ?_ | (refine qx (call_N (L := []) (k) rfl (.cons (.nm rfl) (.cons (.nm rfl) (.cons (.nm rfl) (.nil)))) (.inl rfl) rfl) (by simp only [go_sem, jE, reduceIte, jA, jM, jS, jL, jD, jB, c1]; first | done | rfl) rfl (by simp only [go_sem, Nat.reduceLT]) ?_; simp only [go_sem, jE, reduceIte, jA, jM, jS, jL, jD, jB, c1]))
      exact Aw_ret (retL (M := [13, 14, 15, 16]) (.inl rfl) (by simp only [go_sem, jE, reduceIte, jA, jM, jS, jL, jD, jB]; first | done | rfl) rfl rfl (by rfl) (by simp only [go_sem, jE, reduceIte, jA, jM, jS, jL, jD, jB]; first | done | rfl | (and_intros <;> rfl)) (by decide) (by unfold idM; decide))
    · have k := a2 hx
      refine AC_of Tryz.func54 rfl Tryz.ntmps54 Tryz.results54 (by kernel_rfl) rfl ?_
      simp only [List.zipIdx, List.map, Nat.zero_add, Nat.reduceAdd]
      repeat (first | apply Aw_seq | apply Aw_block | apply Aw_skip | apply Aw_exit | refine Aw_condt rfl ?_ | refine Aw_condf rfl ?_ | ((first | refine qr ?_ | refine qd (by kernel_rfl) (by kernel_rfl) ?_); simp only [go_sem, jE, reduceIte, jA, jM, jS, jL, jD, jB, c1]) | refine dk (by kernel_rfl) ?_ | (refine qp (k) (by simp only [go_sem, jE, reduceIte, jA, jM, jS, jL, jD, jB, c1]; first | done | rfl) rfl (by simp only [go_sem, Nat.reduceLT]) rfl rfl ?_; simp only [go_sem, jE, reduceIte, jA, jM, jS, jL, jD, jB, c1]))
      exact Aw_ret (ret0 (.inl rfl) (by simp only [go_sem, jE, reduceIte, jA, jM, jS, jL, jD, jB]; rfl) (by rfl) rfl)
  rw [if_neg (of_decide_eq_false c1)]
  cases c2 : decide (d.kind = 2)
  case true =>
    rw [if_pos (of_decide_eq_true c2)]
    obtain ⟨a1, a2⟩ := storeTakeS_own s d.key hs hk
    refine ⟨fun x hx => ?_, fun hx => ?_⟩
    · have k := a1 x hx
      refine AC_of Tryz.func54 rfl Tryz.ntmps54 Tryz.results54 (by kernel_rfl) rfl ?_
      simp only [List.zipIdx, List.map, Nat.zero_add, Nat.reduceAdd]
      repeat (first | apply Aw_seq | apply Aw_block | apply Aw_skip | apply Aw_exit | refine Aw_condt rfl ?_ | refine Aw_condf rfl ?_ | ((first | refine qr ?_ | refine qd (by kernel_rfl) (by kernel_rfl) ?_); simp only [go_sem, jE, reduceIte, jA, jM, jS, jL, jD, jB, c1, c2]) | refine dk (by kernel_rfl) ?_ | (refine qx (call_N (L := []) (k) rfl (.cons (.nm rfl) (.cons (.nm rfl) (.nil))) (.inl rfl) rfl) (by simp only [go_sem, jE, reduceIte, jA, jM, jS, jL, jD, jB, c1, c2]; first | done | rfl) rfl (by simp only [go_sem, Nat.reduceLT]) ?_; simp only [go_sem, jE, reduceIte, jA, jM, jS, jL, jD, jB, c1, c2]))
      exact Aw_ret (retL (M := [13, 14, 15, 16]) (.inl rfl) (by simp only [go_sem, jE, reduceIte, jA, jM, jS, jL, jD, jB]; first | done | rfl) rfl rfl (by rfl) (by simp only [go_sem, jE, reduceIte, jA, jM, jS, jL, jD, jB]; first | done | rfl | (and_intros <;> rfl)) (by decide) (by unfold idM; decide))
    · have k := a2 hx
      refine AC_of Tryz.func54 rfl Tryz.ntmps54 Tryz.results54 (by kernel_rfl) rfl ?_
      simp only [List.zipIdx, List.map, Nat.zero_add, Nat.reduceAdd]
      repeat (first | apply Aw_seq | apply Aw_block | apply Aw_skip | apply Aw_exit | refine Aw_condt rfl ?_ | refine Aw_condf rfl ?_ | ((first | refine qr ?_ | refine qd (by kernel_rfl) (by kernel_rfl) ?_); simp only [go_sem, jE, reduceIte, jA, jM, jS, jL, jD, jB, c1, c2]) | refine dk (by kernel_rfl) ?_ | (refine qp (k) (by simp only [go_sem, jE, reduceIte, jA, jM, jS, jL, jD, jB, c1, c2]; first | done | rfl) rfl (by simp only [go_sem, Nat.reduceLT]) rfl rfl ?_; simp only [go_sem, jE, reduceIte, jA, jM, jS, jL, jD, jB, c1, c2]))
      exact Aw_ret (ret0 (.inl rfl) (by simp only [go_sem, jE, reduceIte, jA, jM, jS, jL, jD, jB]; rfl) (by rfl) rfl)
  rw [if_neg (of_decide_eq_false c2)]
  cases c3 : decide (d.kind = 3)
  case true =>
    rw [if_pos (of_decide_eq_true c3)]
    obtain ⟨a1, a2⟩ := storeHoldS_own s hs
    refine ⟨fun x hx => ?_, fun hx => ?_⟩
    · have k := a1 x hx
      refine AC_of Tryz.func54 rfl Tryz.ntmps54 Tryz.results54 (by kernel_rfl) rfl ?_
      simp only [List.zipIdx, List.map, Nat.zero_add, Nat.reduceAdd]
      repeat (first | apply Aw_seq | apply Aw_block | apply Aw_skip | apply Aw_exit | refine Aw_condt rfl ?_ | refine Aw_condf rfl ?_ | ((first | refine qr ?_ | refine qd (by kernel_rfl) (by kernel_rfl) ?_); simp only [go_sem, jE, reduceIte, jA, jM, jS, jL, jD, jB, c1, c2, c3]) | refine dk (by kernel_rfl) ?_ | (refine qx (call_N (L := []) (k) rfl (.cons (.nm rfl) (.nil)) (.inl rfl) rfl) (by simp only [go_sem, jE, reduceIte, jA, jM, jS, jL, jD, jB, c1, c2, c3]; first | done | rfl) rfl (by simp only [go_sem, Nat.reduceLT]) ?_; simp only [go_sem, jE, reduceIte, jA, jM, jS, jL, jD, jB, c1, c2, c3]))
      exact Aw_ret (retL (M := [13, 14, 15, 16]) (.inl rfl) (by simp only [go_sem, jE, reduceIte, jA, jM, jS, jL, jD, jB]; first | done | rfl) rfl rfl (by rfl) (by simp only [go_sem, jE, reduceIte, jA, jM, jS, jL, jD, jB]; first | done | rfl | (and_intros <;> rfl)) (by decide) (by unfold idM; decide))
    · have k := a2 hx
      refine AC_of Tryz.func54 rfl Tryz.ntmps54 Tryz.results54 (by kernel_rfl) rfl ?_
      simp only [List.zipIdx, List.map, Nat.zero_add, Nat.reduceAdd]
      repeat (first | apply Aw_seq | apply Aw_block | apply Aw_skip | apply Aw_exit | refine Aw_condt rfl ?_ | refine Aw_condf rfl ?_ | ((first | refine qr ?_ | refine qd (by kernel_rfl) (by kernel_rfl) ?_); simp only [go_sem, jE, reduceIte, jA, jM, jS, jL, jD, jB, c1, c2, c3]) | refine dk (by kernel_rfl) ?_ | (refine qp (k) (by simp only [go_sem, jE, reduceIte, jA, jM, jS, jL, jD, jB, c1, c2, c3]; first | done | rfl) rfl (by simp only [go_sem, Nat.reduceLT]) rfl rfl ?_; simp only [go_sem, jE, reduceIte, jA, jM, jS, jL, jD, jB, c1, c2, c3]))
      exact Aw_ret (ret0 (.inl rfl) (by simp only [go_sem, jE, reduceIte, jA, jM, jS, jL, jD, jB]; rfl) (by rfl) rfl)
  rw [if_neg (of_decide_eq_false c3)]
  cases c4 : decide (d.kind = 4)
  case true =>
    rw [if_pos (of_decide_eq_true c4)]
    obtain ⟨a1, a2⟩ := storeFreeS_own s d.num hs
    refine ⟨fun x hx => ?_, fun hx => ?_⟩
    · have k := a1 x hx
      refine AC_of Tryz.func54 rfl Tryz.ntmps54 Tryz.results54 (by kernel_rfl) rfl ?_
      simp only [List.zipIdx, List.map, Nat.zero_add, Nat.reduceAdd]
      repeat (first | apply Aw_seq | apply Aw_block | apply Aw_skip | apply Aw_exit | refine Aw_condt rfl ?_ | refine Aw_condf rfl ?_ | ((first | refine qr ?_ | refine qd (by kernel_rfl) (by kernel_rfl) ?_); simp only [go_sem, jE, reduceIte, jA, jM, jS, jL, jD, jB, c1, c2, c3, c4]) | refine dk (by kernel_rfl) ?_ | (refine qx (call_N (L := []) (k) rfl (.cons (.nm rfl) (.cons (.nm rfl) (.nil))) (.inl rfl) rfl) (by simp only [go_sem, jE, reduceIte, jA, jM, jS, jL, jD, jB, c1, c2, c3, c4]; first | done | rfl) rfl (by simp only [go_sem, Nat.reduceLT]) ?_; simp only [go_sem, jE, reduceIte, jA, jM, jS, jL, jD, jB, c1, c2, c3, c4]))
      exact Aw_ret (retL (M := [17, 18, 19, 20]) (.inl rfl) (by simp only [go_sem, jE, reduceIte, jA, jM, jS, jL, jD, jB]; first | done | rfl) rfl rfl (by rfl) (by simp only [go_sem, jE, reduceIte, jA, jM, jS, jL, jD, jB]; first | done | rfl | (and_intros <;> rfl)) (by decide) (by unfold idM; decide))
    · have k := a2 hx
      refine AC_of Tryz.func54 rfl Tryz.ntmps54 Tryz.results54 (by kernel_rfl) rfl ?_
      simp only [List.zipIdx, List.map, Nat.zero_add, Nat.reduceAdd]
      repeat (first | apply Aw_seq | apply Aw_block | apply Aw_skip | apply Aw_exit | refine Aw_condt rfl ?_ | refine Aw_condf rfl ?_ | ((first | refine qr ?_ | refine qd (by kernel_rfl) (by kernel_rfl) ?_); simp only [go_sem, jE, reduceIte, jA, jM, jS, jL, jD, jB, c1, c2, c3, c4]) | refine dk (by kernel_rfl) ?_ | (refine qp (k) (by simp only [go_sem, jE, reduceIte, jA, jM, jS, jL, jD, jB, c1, c2, c3, c4]; first | done | rfl) rfl (by simp only [go_sem, Nat.reduceLT]) rfl rfl ?_; simp only [go_sem, jE, reduceIte, jA, jM, jS, jL, jD, jB, c1, c2, c3, c4]))
      exact Aw_ret (ret0 (.inl rfl) (by simp only [go_sem, jE, reduceIte, jA, jM, jS, jL, jD, jB]; rfl) (by rfl) rfl)
  rw [if_neg (of_decide_eq_false c4)]
  cases c5 : decide (d.kind = 5)
  case true =>
    rw [if_pos (of_decide_eq_true c5)]
    obtain ⟨a1, a2⟩ := storeDownS_own s hs
    refine ⟨fun x hx => ?_, fun hx => ?_⟩
    · have k := a1 x hx
      refine AC_of Tryz.func54 rfl Tryz.ntmps54 Tryz.results54 (by kernel_rfl) rfl ?_
      simp only [List.zipIdx, List.map, Nat.zero_add, Nat.reduceAdd]
      repeat (first | apply Aw_seq | apply Aw_block | apply Aw_skip | apply Aw_exit | refine Aw_condt rfl ?_ | refine Aw_condf rfl ?_ | ((first | refine qr ?_ | refine qd (by kernel_rfl) (by kernel_rfl) ?_); simp only [go_sem, jE, reduceIte, jA, jM, jS, jL, jD, jB, c1, c2, c3, c4, c5]) | refine dk (by kernel_rfl) ?_ | (refine qx (call_N (L := []) (k) rfl (.cons (.nm rfl) (.nil)) (.inl rfl) rfl) (by simp only [go_sem, jE, reduceIte, jA, jM, jS, jL, jD, jB, c1, c2, c3, c4, c5]; first | done | rfl) rfl (by simp only [go_sem, Nat.reduceLT]) ?_; simp only [go_sem, jE, reduceIte, jA, jM, jS, jL, jD, jB, c1, c2, c3, c4, c5]))
      exact Aw_ret (retL (M := [17, 18, 19, 20]) (.inl rfl) (by simp only [go_sem, jE, reduceIte, jA, jM, jS, jL, jD, jB]; first | done | rfl) rfl rfl (by rfl) (by simp only [go_sem, jE, reduceIte, jA, jM, jS, jL, jD, jB]; first | done | rfl | (and_intros <;> rfl)) (by decide) (by unfold idM; decide))
    · have k := a2 hx
      refine AC_of Tryz.func54 rfl Tryz.ntmps54 Tryz.results54 (by kernel_rfl) rfl ?_
      simp only [List.zipIdx, List.map, Nat.zero_add, Nat.reduceAdd]
      repeat (first | apply Aw_seq | apply Aw_block | apply Aw_skip | apply Aw_exit | refine Aw_condt rfl ?_ | refine Aw_condf rfl ?_ | ((first | refine qr ?_ | refine qd (by kernel_rfl) (by kernel_rfl) ?_); simp only [go_sem, jE, reduceIte, jA, jM, jS, jL, jD, jB, c1, c2, c3, c4, c5]) | refine dk (by kernel_rfl) ?_ | (refine qp (k) (by simp only [go_sem, jE, reduceIte, jA, jM, jS, jL, jD, jB, c1, c2, c3, c4, c5]; first | done | rfl) rfl (by simp only [go_sem, Nat.reduceLT]) rfl rfl ?_; simp only [go_sem, jE, reduceIte, jA, jM, jS, jL, jD, jB, c1, c2, c3, c4, c5]))
      exact Aw_ret (ret0 (.inl rfl) (by simp only [go_sem, jE, reduceIte, jA, jM, jS, jL, jD, jB]; rfl) (by rfl) rfl)
  rw [if_neg (of_decide_eq_false c5)]
  cases c6 : decide (d.kind = 6)
  case true =>
    rw [if_pos (of_decide_eq_true c6)]
    obtain ⟨a1, a2⟩ := storeJoinS_own s d.num hs
    refine ⟨fun x hx => ?_, fun hx => ?_⟩
    · have k := a1 x hx
      refine AC_of Tryz.func54 rfl Tryz.ntmps54 Tryz.results54 (by kernel_rfl) rfl ?_
      simp only [List.zipIdx, List.map, Nat.zero_add, Nat.reduceAdd]
      repeat (first | apply Aw_seq | apply Aw_block | apply Aw_skip | apply Aw_exit | refine Aw_condt rfl ?_ | refine Aw_condf rfl ?_ | ((first | refine qr ?_ | refine qd (by kernel_rfl) (by kernel_rfl) ?_); simp only [go_sem, jE, reduceIte, jA, jM, jS, jL, jD, jB, c1, c2, c3, c4, c5, c6]) | refine dk (by kernel_rfl) ?_ | (refine qx (call_N (L := []) (k) rfl (.cons (.nm rfl) (.cons (.nm rfl) (.nil))) (.inl rfl) rfl) (by simp only [go_sem, jE, reduceIte, jA, jM, jS, jL, jD, jB, c1, c2, c3, c4, c5, c6]; first | done | rfl) rfl (by simp only [go_sem, Nat.reduceLT]) ?_; simp only [go_sem, jE, reduceIte, jA, jM, jS, jL, jD, jB, c1, c2, c3, c4, c5, c6]))
      exact Aw_ret (retL (M := [21, 22, 23, 24]) (.inl rfl) (by simp only [go_sem, jE, reduceIte, jA, jM, jS, jL, jD, jB]; first | done | rfl) rfl rfl (by rfl) (by simp only [go_sem, jE, reduceIte, jA, jM, jS, jL, jD, jB]; first | done | rfl | (and_intros <;> rfl)) (by decide) (by unfold idM; decide))
    · have k := a2 hx
      refine AC_of Tryz.func54 rfl Tryz.ntmps54 Tryz.results54 (by kernel_rfl) rfl ?_
      simp only [List.zipIdx, List.map, Nat.zero_add, Nat.reduceAdd]
      repeat (first | apply Aw_seq | apply Aw_block | apply Aw_skip | apply Aw_exit | refine Aw_condt rfl ?_ | refine Aw_condf rfl ?_ | ((first | refine qr ?_ | refine qd (by kernel_rfl) (by kernel_rfl) ?_); simp only [go_sem, jE, reduceIte, jA, jM, jS, jL, jD, jB, c1, c2, c3, c4, c5, c6]) | refine dk (by kernel_rfl) ?_ | (refine qp (k) (by simp only [go_sem, jE, reduceIte, jA, jM, jS, jL, jD, jB, c1, c2, c3, c4, c5, c6]; first | done | rfl) rfl (by simp only [go_sem, Nat.reduceLT]) rfl rfl ?_; simp only [go_sem, jE, reduceIte, jA, jM, jS, jL, jD, jB, c1, c2, c3, c4, c5, c6]))
      exact Aw_ret (ret0 (.inl rfl) (by simp only [go_sem, jE, reduceIte, jA, jM, jS, jL, jD, jB]; rfl) (by rfl) rfl)
  rw [if_neg (of_decide_eq_false c6)]
  refine ⟨fun x hx => (by cases hx), fun _ => ?_⟩
  refine AC_of Tryz.func54 rfl Tryz.ntmps54 Tryz.results54 (by kernel_rfl) rfl ?_
  simp only [List.zipIdx, List.map, Nat.zero_add, Nat.reduceAdd]
  repeat (first | apply Aw_seq | apply Aw_block | apply Aw_skip | apply Aw_exit | refine Aw_condt rfl ?_ | refine Aw_condf rfl ?_ | ((first | refine qr ?_ | refine qd (by kernel_rfl) (by kernel_rfl) ?_); simp only [go_sem, jE, reduceIte, jA, jM, jS, jL, jD, jB, c1, c2, c3, c4, c5, c6]) | refine dk (by kernel_rfl) ?_)
  exact Aw_ret (ret0 (.inl rfl) (by simp only [go_sem, jE, reduceIte, jA, jM, jS, jL, jD, jB]; rfl) (by rfl) rfl)
theorem l13Do_ac (s : Sto) (d : Deed) (hs : SmSt s) (hk : smK d.key) : AC Tryz.prog 54 [stT s, deedT d] noHp 0 ⟨resO (doM s d), noHp, 0⟩ := (l13Do_own s d hs hk).set
theorem setM_st {s s' : Sto} {i : Nat} {r : List Ent} (hs : SmSt s) (hr : SmR r) (h : setM s i r = some s') : SmSt s' := by
  obtain ⟨x, rfl, hx, hl⟩ := setM_ok h
  refine ⟨hs.top, fun q hq => ?_, by simpa using hs.ll, by simpa using hs.sl, fun y hy => ?_, hs.tl⟩
  · rcases List.mem_or_eq_of_mem_set hq with h | rfl
    · exact hs.lev q h
    · exact hr
  · rcases List.mem_or_eq_of_mem_set hy with h | rfl
    · exact hs.rl y h
    · exact sieveM_len hx
theorem intoM_st : ∀ (d : Nat) {s s' : Sto} {i : Nat} {r : List Ent}, i + d = 2 → SmH s → SmSt s → SmR r → r.length ≤ 1000 → intoM d s i r = some s' → SmSt s'
  | 0, s, s', i, r, hi, hh, hs, hr, hl, h => by
    have hq : SmR (s.levels.getD i []) ∧ (s.levels.getD i []).length ≤ 1000 := by
      rw [List.getD_eq_getElem?_getD, List.getElem?_eq_getElem (by rw [hh.ll]; omega)]; exact hh.lev _ (List.getElem_mem _)
    exact setM_st hs (smR_trim (smR_join hr hq.1 hl hq.2) _ _) h
  | d + 1, s, s', i, r, hi, hh, hs, hr, hl, h => by
    have hq : SmR (s.levels.getD i []) ∧ (s.levels.getD i []).length ≤ 1000 := by
      rw [List.getD_eq_getElem?_getD, List.getElem?_eq_getElem (by rw [hh.ll]; omega)]; exact hh.lev _ (List.getElem_mem _)
    simp only [intoM] at h
    split at h
    · rename_i x hx
      obtain rfl := Option.some.inj h
      exact setM_st hs (smR_trim (smR_join hr hq.1 hl hq.2) _ _) hx
    · obtain ⟨s1, h1, h2⟩ := Option.bind_eq_some_iff.1 h
      exact setM_st (intoM_st d (by omega) hh hs hq.1 hq.2 h1) (smR_trim hr _ _) h2
theorem downM_st {s s' : Sto} (hs : SmSt s) (hv : storeS s = true) (h : downM s = some s') : SmSt s' ∧ s'.top = [] := by
  have sm := valid_sm hs hv
  obtain ⟨h1, h2, h3, h4, h5, _⟩ := storeS_facts hv
  have g : SmSt (noTop s) := ⟨smR_nil, hs.lev, hs.ll, hs.sl, hs.rl, hs.tl⟩
  exact ⟨intoM_st 2 (s := noTop s) rfl ⟨sm.ll, sm.sl, sm.lev, sm.tl⟩ g hs.top (by omega) h, (intoM_sm 2 (s := noTop s) (i := 0) rfl ⟨sm.ll, sm.sl, sm.lev, sm.tl⟩ hs.top (by omega) h).2.2.1⟩
theorem smR_one {e : Ent} (h : smK e.key) : SmR [e] := ⟨by simp, by simpa using h⟩
theorem addM_st {s s' : Sto} {e : Ent} (hs : SmSt s) (he : smK e.key) (h : addM s e = some s') : SmSt s' := by
  unfold addM at h
  split at h
  · rename_i hc
    rw [Bool.and_eq_true] at hc
    obtain ⟨h1, h2, h3, h4, h5, _⟩ := storeS_facts hc.1
    split at h
    · obtain ⟨x, hx, rfl⟩ := Option.map_eq_some_iff.1 h
      obtain ⟨g, gt⟩ := downM_st hs hc.1 hx
      exact ⟨smR_join (smR_one he) g.top (by simp) (by rw [gt]; simp), g.lev, g.ll, g.sl, g.rl, g.tl⟩
    · obtain rfl := Option.some.inj h
      exact ⟨smR_join (smR_one he) hs.top (by simp) (by omega), hs.lev, hs.ll, hs.sl, hs.rl, hs.tl⟩
  · cases h
theorem doM_st {s s' : Sto} {d : Deed} (hs : SmSt s) (hk : smK d.key) (h : doM s d = some s') : SmSt s' := by
  unfold doM at h
  split at h
  · exact addM_st (e := ⟨d.key, d.num, false, nextT s⟩) hs hk h
  split at h
  · exact addM_st (e := ⟨d.key, 0, true, nextT s⟩) hs hk h
  split at h
  · unfold holdM at h
    split at h
    · rename_i hv
      obtain ⟨h1, h2, h3, h4, h5, _⟩ := storeS_facts hv
      split at h
      · obtain rfl := Option.some.inj h
        have hl : (heldTs s).length ≤ 1099511627776 := by
          unfold heldTs
          split
          · omega
          · simp only [List.length_append, List.length_cons, List.length_nil]; omega
        exact ⟨hs.top, hs.lev, hs.ll, hs.sl, hs.rl, hl⟩
      · cases h
    · cases h
  split at h
  · unfold freeM at h
    split at h
    · split at h
      · cases h
      · obtain rfl := Option.some.inj h
        exact ⟨hs.top, hs.lev, hs.ll, hs.sl, hs.rl, Nat.le_trans (colI_len (freeAt_len _ _)) hs.tl⟩
    · cases h
  split at h
  · unfold sDownM at h
    split at h
    · rename_i hv; exact (downM_st hs hv h).1
    · cases h
  split at h
  · unfold sJoinM at h
    split at h
    · rename_i hc
      rw [Bool.and_eq_true] at hc
      have sm := valid_sm hs hc.1
      have c2 := hc.2
      unfold inB at c2
      rw [Bool.and_eq_true] at c2
      have g1 := of_decide_eq_true c2.1; have g2 := of_decide_eq_true c2.2
      obtain ⟨x, hx, h2⟩ := Option.bind_eq_some_iff.1 h
      have smx := setM_sm sm (by omega) smR_nil hx
      have hq : SmR (s.levels.getD d.num.toNat []) ∧ (s.levels.getD d.num.toNat []).length ≤ 1000 := by
        rw [List.getD_eq_getElem?_getD, List.getElem?_eq_getElem (by rw [sm.ll]; omega)]; exact sm.lev _ (List.getElem_mem _)
      exact intoM_st _ (by omega) smx (setM_st hs smR_nil hx) hq.1 hq.2 h2
    · cases h
  · cases h
theorem downM_push (s : Sto) : downM s = (intoM 2 s 0 s.top).map noTop := by
  have h := into_top [] 2 s 0 s.top
  exact h
theorem down_no (s : Sto) (hs : SmSt s) (hv : storeS s = true) (h : downM s = none) : AC Tryz.prog 49 [.c (.ph 0 0 0)] (hpL (pH s)) 3 ⟨.t (bT false), hpL [none, none, none], 3⟩ := by
  obtain ⟨l1, l2, l3, l4, l5⟩ := lv_of hv
  rw [downM_push, Option.map_eq_none_iff] at h
  have k := (push_ac 2 s 0 s.top rfl (valid_sm hs hv) l1 hs.top l2 (by omega) (l4 0 (by omega))).2 h
  rw [show ((0 : Nat) : Int) = 0 from rfl] at k
  refine AC_of Tryz.func49 rfl Tryz.ntmps49 Tryz.results49 (by kernel_rfl) rfl ?_
  simp only [List.zipIdx, List.map, Nat.zero_add, Nat.reduceAdd]
  repeat (first | apply Aw_seq | apply Aw_block | apply Aw_skip | apply Aw_exit | refine Aw_condt rfl ?_ | refine Aw_condf rfl ?_ | ((first | refine qr ?_ | refine qd (by kernel_rfl) (by kernel_rfl) ?_); simp only [go_sem, jE, reduceIte, jA, jM, jS, jL, jD, jB]) | refine dk (by kernel_rfl) ?_ | (refine qx (call_L (N' := [0, 1, 2]) (L := []) (k) rfl (.cons (.nm rfl) (.cons (.nm rfl) (.cons (.nm rfl) (.nil)))) (by decide) (by decide) (by decide) (by simp only [go_sem, jE, reduceIte, jA, jM, jS, jL, jD, jB]; first | done | rfl) (.inl rfl) rfl (by decide)) (by simp only [go_sem, jE, reduceIte, jA, jM, jS, jL, jD, jB]; first | done | rfl) rfl (by simp only [go_sem, Nat.reduceLT]) ?_; simp only [go_sem, jE, reduceIte, jA, jM, jS, jL, jD, jB]))
  exact Aw_ret (retL (M := [0, 1, 2]) (.inl rfl) (by simp only [go_sem, jE, reduceIte, jA, jM, jS, jL, jD, jB]; first | done | rfl) rfl rfl (by rfl) (by simp only [go_sem, jE, reduceIte, jA, jM, jS, jL, jD, jB]; first | done | rfl | (and_intros <;> rfl)) (by decide) (by unfold idM; decide))
theorem top_set {args : List TV} {f : FuncId} {hp : Hp} (y : Sto) (b : Bool) (kk : AC Tryz.prog f args hp 3 ⟨.t (bT b), hpL [some ⟨28, 6, false, [[.h 3, .h 1, .h 2, .d (.s (.int .i64 y.keep)), .d (.s (.int .i64 y.time)), .d (.rs 1 (y.times.map intD))]]⟩, some (lvRow y.levels), some (svRow y.sieves), some (eRow y.top)], 4⟩) : AC Tryz.prog f args hp 3 ⟨.t (bT b), hpL (pH y), 3⟩ := by
  have h := AC.setS [3] kk (y := .t (bT b)) (os' := [some (pO y), some (lvRow y.levels), some (svRow y.sieves), none]) (.inl rfl)
    ⟨.inr ⟨rfl, rfl, rfl, .cons (.cons (SetC.row0 rfl rfl) (.cons (.inl rfl) (.cons (.inl rfl) (.cons (.inl rfl) (.cons (.inl rfl) (.cons (.inl rfl) .nil)))))) .nil⟩, rfl, .inl rfl, rfl, .inl rfl, rfl, trivial⟩
  refine AC.sel (M := [0, 1, 2]) h rfl rfl (selL rfl ?_) (by decide) fun m hm => ?_
  · simp only [go_sem, LeftL]; decide
  · rcases m with _ | _ | _ | m <;> first | exact ⟨by decide, rfl⟩ | omega
theorem down_ok (s s' : Sto) (hs : SmSt s) (hv : storeS s = true) (h : downM s = some s') : AC Tryz.prog 49 [.c (.ph 0 0 0)] (hpL (pH s)) 3 ⟨.t (bT true), hpL (pH s'), 3⟩ := by
  obtain ⟨l1, l2, l3, l4, l5⟩ := lv_of hv
  rw [downM_push] at h
  obtain ⟨y, hy, rfl⟩ := Option.map_eq_some_iff.1 h
  have k := (push_ac 2 s 0 s.top rfl (valid_sm hs hv) l1 hs.top l2 (by omega) (l4 0 (by omega))).1 y hy
  rw [show ((0 : Nat) : Int) = 0 from rfl] at k
  have kk : AC Tryz.prog 49 [.c (.ph 0 0 0)] (hpL (pH s)) 3 ⟨.t (bT true), hpL [some ⟨28, 6, false, [[.h 3, .h 1, .h 2, .d (.s (.int .i64 y.keep)), .d (.s (.int .i64 y.time)), .d (.rs 1 (y.times.map intD))]]⟩, some (lvRow y.levels), some (svRow y.sieves), some (eRow [])], 4⟩ := by
    refine AC_of Tryz.func49 rfl Tryz.ntmps49 Tryz.results49 (by kernel_rfl) rfl ?_
    simp only [List.zipIdx, List.map, Nat.zero_add, Nat.reduceAdd]
    repeat (first | apply Aw_seq | apply Aw_block | apply Aw_skip | apply Aw_exit | refine Aw_condt rfl ?_ | refine Aw_condf rfl ?_ | ((first | refine qr ?_ | refine qd (by kernel_rfl) (by kernel_rfl) ?_); simp only [go_sem, jE, reduceIte, jA, jM, jS, jL, jD, jB]) | refine dk (by kernel_rfl) ?_ | (refine qx (call_L (N' := [0, 1, 2]) (L := []) (k) rfl (.cons (.nm rfl) (.cons (.nm rfl) (.cons (.nm rfl) (.nil)))) (by decide) (by decide) (by decide) (by simp only [go_sem, jE, reduceIte, jA, jM, jS, jL, jD, jB]; first | done | rfl) (.inl rfl) rfl (by decide)) (by simp only [go_sem, jE, reduceIte, jA, jM, jS, jL, jD, jB]; first | done | rfl) rfl (by simp only [go_sem, Nat.reduceLT]) ?_; simp only [go_sem, jE, reduceIte, jA, jM, jS, jL, jD, jB]))
    refine Aw.ownC (m := 0) (i := 0) (e := 48) (j := 4) rfl rfl (by decide) (by simp only [Nat.reduceAdd]; rfl) rfl ?_
    exact Aw_ret (retL (M := [0, 1, 2, 15]) (.inl rfl) (by simp only [go_sem, jE, reduceIte, jA, jM, jS, jL, jD, jB]; first | done | rfl) rfl rfl (by rfl) (by simp only [go_sem, jE, reduceIte, jA, jM, jS, jL, jD, jB]; first | done | rfl | (and_intros <;> rfl)) (by decide) (by unfold idM; decide))
  exact top_set (noTop y) true kk
def nxE (s : Sto) (e : Ent) : Ent := { e with time := s.time + 1 }
theorem join_one {t : List Ent} {e : Ent} (he : entOk e = true) (h1 : runOk t = true) (h2 : t.length ≤ 4) (h3 : ∀ x ∈ t, x.time < e.time) : runOk [e] = true ∧ runOk (joinM t [e]) = true ∧ joinM t [e] = joinM [e] t := by
  have re : runOk [e] = true := run_mk (by simp) (by simpa using he) (by simp)
  have hj : runOk (joinM [e] t) = true := join_run re h1 (newer_iff.2 fun x hx y hy _ => by
    have := h3 y hy
    obtain rfl : x = e := by simpa using hx
    exact this) (by simp; omega)
  have hs := join_swap re h1 hj
  exact ⟨re, by rw [hs]; exact hj, hs⟩
theorem write_bad (s : Sto) (e : Ent) (hs : SmSt s) (hv : storeS s = true) (hk : smK e.key) (h : entOk (nxE s e) = false) : AC Tryz.prog 40 [.c (.ph 0 0 0), entT e] (hpL (pH s)) 3 ⟨.t (bT false), hpL [none, none, none], 3⟩ := by
  obtain ⟨_, _, _, _, _, h6, _⟩ := storeS_facts hv
  unfold inB at h6
  rw [Bool.and_eq_true] at h6
  have t0 := of_decide_eq_true h6.1; have t1 := of_decide_eq_true h6.2
  have w : IntKind.i64.wrap (s.time + 1) = s.time + 1 := wrap_in (by omega) (by omega)
  have k1 := entOk_ac (nxE s e) hk
  rw [h] at k1
  unfold nxE at k1
  refine AC_of Tryz.func40 rfl Tryz.ntmps40 Tryz.results40 (by kernel_rfl) rfl ?_
  simp only [List.zipIdx, List.map, Nat.zero_add, Nat.reduceAdd]
  repeat (first | apply Aw_seq | apply Aw_block | apply Aw_skip | apply Aw_exit | refine Aw_condt rfl ?_ | refine Aw_condf rfl ?_ | ((first | refine qr ?_ | refine qd (by kernel_rfl) (by kernel_rfl) ?_); simp only [go_sem, jE, reduceIte, jA, jM, jS, jL, jD, jB, w]) | refine dk (by kernel_rfl) ?_ | (refine qp (k1) (by simp only [go_sem, jE, reduceIte, jA, jM, jS, jL, jD, jB, w]; first | done | rfl) rfl (by simp only [go_sem, Nat.reduceLT]) rfl rfl ?_; simp only [go_sem, jE, reduceIte, jA, jM, jS, jL, jD, jB, w]))
  exact Aw_ret (retL (M := [0, 1, 2]) (.inl rfl) (by simp only [go_sem, jE, reduceIte, jA, jM, jS, jL, jD, jB]; first | done | rfl) rfl rfl (by rfl) (by simp only [go_sem, jE, reduceIte, jA, jM, jS, jL, jD, jB]; first | done | rfl | (and_intros <;> rfl)) (by decide) (by unfold idM; decide))
theorem write_ok (s s' : Sto) (e : Ent) (hs : SmSt s) (hv : storeS s = true) (hk : smK e.key) (h : addM s (nxE s e) = some s') : AC Tryz.prog 40 [.c (.ph 0 0 0), entT e] (hpL (pH s)) 3 ⟨.t (bT true), hpL (pH s'), 3⟩ := by
  obtain ⟨_, _, _, _, _, h6, _⟩ := storeS_facts hv
  unfold inB at h6
  rw [Bool.and_eq_true] at h6
  have t0 := of_decide_eq_true h6.1; have t1 := of_decide_eq_true h6.2
  have w : IntKind.i64.wrap (s.time + 1) = s.time + 1 := wrap_in (by omega) (by omega)
  have k1 := entOk_ac (nxE s e) hk
  obtain ⟨l1, l2, l3, l4, l5⟩ := lv_of hv
  unfold addM at h
  rw [hv, Bool.true_and] at h
  by_cases he : entOk (nxE s e) = true
  case neg => rw [if_neg he] at h; cases h
  rw [if_pos he] at h
  rw [he] at k1
  have he0 := he
  unfold nxE at k1
  have s1 : SmR [nxE s e] := smR_one hk
  by_cases h4 : 4 ≤ s.top.length
  · rw [if_pos h4] at h
    obtain ⟨x, hx, rfl⟩ := Option.map_eq_some_iff.1 h
    have g4 : decide ((s.top.length : Int) = 4) = true := decide_eq_true (by omega)
    have k2 := down_ok s x hs hv hx
    obtain ⟨g, gt⟩ := downM_st hs hv hx
    obtain ⟨j1, j2, j3⟩ := join_one (t := x.top) he0 (by rw [gt]; rfl) (by rw [gt]; simp) (by rw [gt]; simp)
    have k3 := runJoin_ok x.top [nxE s e] g.top s1 (by rw [gt]; rfl) j1 j2
    rw [j3] at k3
    generalize hJ : joinM [nxE s e] x.top = J at k3 ⊢
    refine top_set _ _ ?_
    unfold nxE at k3 ⊢
    refine AC_of Tryz.func40 rfl Tryz.ntmps40 Tryz.results40 (by kernel_rfl) rfl ?_
    simp only [List.zipIdx, List.map, Nat.zero_add, Nat.reduceAdd]
    repeat (first | apply Aw_seq | apply Aw_block | apply Aw_skip | apply Aw_exit | refine Aw_condt rfl ?_ | refine Aw_condf rfl ?_ | ((first | refine qr ?_ | refine qd (by kernel_rfl) (by kernel_rfl) ?_); simp only [go_sem, jE, reduceIte, jA, jM, jS, jL, jD, jB, w, g4]) | refine dk (by kernel_rfl) ?_ | (refine qp (k1) (by simp only [go_sem, jE, reduceIte, jA, jM, jS, jL, jD, jB, w, g4]; first | done | rfl) rfl (by simp only [go_sem, Nat.reduceLT]) rfl rfl ?_; simp only [go_sem, jE, reduceIte, jA, jM, jS, jL, jD, jB, w, g4]) | (refine qx (call_L (N' := [0, 1, 2]) (L := []) (k2) rfl (.cons (.nm rfl) (.nil)) (by decide) (by decide) (by decide) (by simp only [go_sem, jE, reduceIte, jA, jM, jS, jL, jD, jB, w, g4]; first | done | rfl) (.inl rfl) rfl (by decide)) (by simp only [go_sem, jE, reduceIte, jA, jM, jS, jL, jD, jB, w, g4]; first | done | rfl) rfl (by simp only [go_sem, Nat.reduceLT]) ?_; simp only [go_sem, jE, reduceIte, jA, jM, jS, jL, jD, jB, w, g4]) | (refine qx (call_N (L := [31]) (k3) rfl (.cons (.nm rfl) (.cons (.ln (n := 2) rfl (lnBB rfl)) (.nil))) (.inr ⟨rfl, by simp⟩) rfl) (by simp only [go_sem, jE, reduceIte, jA, jM, jS, jL, jD, jB, w, g4]; first | done | rfl) rfl (by simp only [go_sem, Nat.reduceLT]) ?_; simp only [go_sem, jE, reduceIte, jA, jM, jS, jL, jD, jB, w, g4]))
    exact Aw_ret (retL (M := [0, 1, 2, 32]) (.inl rfl) (by simp only [go_sem, jE, reduceIte, jA, jM, jS, jL, jD, jB]; first | done | rfl) rfl rfl (by rfl) (by simp only [go_sem, jE, reduceIte, jA, jM, jS, jL, jD, jB]; first | done | rfl | (and_intros <;> rfl)) (by decide) (by unfold idM; decide))
  · rw [if_neg h4, Option.some.injEq] at h
    subst h
    have g4 : decide ((s.top.length : Int) = 4) = false := decide_eq_false (by omega)
    obtain ⟨j1, j2, j3⟩ := join_one (t := s.top) he0 l2 (by omega) (fun x hx => by have := l5 x hx; show x.time < s.time + 1; omega)
    have k3 := runJoin_ok s.top [nxE s e] hs.top s1 l2 j1 j2
    rw [j3] at k3
    generalize hJ : joinM [nxE s e] s.top = J at k3 ⊢
    refine top_set _ _ ?_
    unfold nxE at k3 ⊢
    refine AC_of Tryz.func40 rfl Tryz.ntmps40 Tryz.results40 (by kernel_rfl) rfl ?_
    simp only [List.zipIdx, List.map, Nat.zero_add, Nat.reduceAdd]
    repeat (first | apply Aw_seq | apply Aw_block | apply Aw_skip | apply Aw_exit | refine Aw_condt rfl ?_ | refine Aw_condf rfl ?_ | ((first | refine qr ?_ | refine qd (by kernel_rfl) (by kernel_rfl) ?_); simp only [go_sem, jE, reduceIte, jA, jM, jS, jL, jD, jB, w, g4]) | refine dk (by kernel_rfl) ?_ | (refine qp (k1) (by simp only [go_sem, jE, reduceIte, jA, jM, jS, jL, jD, jB, w, g4]; first | done | rfl) rfl (by simp only [go_sem, Nat.reduceLT]) rfl rfl ?_; simp only [go_sem, jE, reduceIte, jA, jM, jS, jL, jD, jB, w, g4]) | (refine qx (call_N (L := [29]) (k3) rfl (.cons (.nm rfl) (.cons (.ln (n := 2) rfl (lnBB rfl)) (.nil))) (.inr ⟨rfl, by simp⟩) rfl) (by simp only [go_sem, jE, reduceIte, jA, jM, jS, jL, jD, jB, w, g4]; first | done | rfl) rfl (by simp only [go_sem, Nat.reduceLT]) ?_; simp only [go_sem, jE, reduceIte, jA, jM, jS, jL, jD, jB, w, g4]))
    exact Aw_ret (retL (M := [0, 1, 2, 30]) (.inl rfl) (by simp only [go_sem, jE, reduceIte, jA, jM, jS, jL, jD, jB]; first | done | rfl) rfl rfl (by rfl) (by simp only [go_sem, jE, reduceIte, jA, jM, jS, jL, jD, jB]; first | done | rfl | (and_intros <;> rfl)) (by decide) (by unfold idM; decide))
theorem write_no (s : Sto) (e : Ent) (hs : SmSt s) (hv : storeS s = true) (hk : smK e.key) (h : addM s (nxE s e) = none) : AC Tryz.prog 40 [.c (.ph 0 0 0), entT e] (hpL (pH s)) 3 ⟨.t (bT false), hpL [none, none, none], 3⟩ := by
  cases he : entOk (nxE s e)
  · exact write_bad s e hs hv hk he
  obtain ⟨_, _, _, _, _, h6, _⟩ := storeS_facts hv
  unfold inB at h6
  rw [Bool.and_eq_true] at h6
  have t0 := of_decide_eq_true h6.1; have t1 := of_decide_eq_true h6.2
  have w : IntKind.i64.wrap (s.time + 1) = s.time + 1 := wrap_in (by omega) (by omega)
  have k1 := entOk_ac (nxE s e) hk
  obtain ⟨l1, l2, l3, l4, l5⟩ := lv_of hv
  unfold addM at h
  rw [hv, Bool.true_and, if_pos he] at h
  rw [he] at k1
  unfold nxE at k1
  by_cases h4 : 4 ≤ s.top.length
  · rw [if_pos h4, Option.map_eq_none_iff] at h
    have g4 : decide ((s.top.length : Int) = 4) = true := decide_eq_true (by omega)
    have k2 := down_no s hs hv h
    refine AC_of Tryz.func40 rfl Tryz.ntmps40 Tryz.results40 (by kernel_rfl) rfl ?_
    simp only [List.zipIdx, List.map, Nat.zero_add, Nat.reduceAdd]
    repeat (first | apply Aw_seq | apply Aw_block | apply Aw_skip | apply Aw_exit | refine Aw_condt rfl ?_ | refine Aw_condf rfl ?_ | ((first | refine qr ?_ | refine qd (by kernel_rfl) (by kernel_rfl) ?_); simp only [go_sem, jE, reduceIte, jA, jM, jS, jL, jD, jB, w, g4]) | refine dk (by kernel_rfl) ?_ | (refine qp (k1) (by simp only [go_sem, jE, reduceIte, jA, jM, jS, jL, jD, jB, w, g4]; first | done | rfl) rfl (by simp only [go_sem, Nat.reduceLT]) rfl rfl ?_; simp only [go_sem, jE, reduceIte, jA, jM, jS, jL, jD, jB, w, g4]) | (refine qx (call_L (N' := [0, 1, 2]) (L := []) (k2) rfl (.cons (.nm rfl) (.nil)) (by decide) (by decide) (by decide) (by simp only [go_sem, jE, reduceIte, jA, jM, jS, jL, jD, jB, w, g4]; first | done | rfl) (.inl rfl) rfl (by decide)) (by simp only [go_sem, jE, reduceIte, jA, jM, jS, jL, jD, jB, w, g4]; first | done | rfl) rfl (by simp only [go_sem, Nat.reduceLT]) ?_; simp only [go_sem, jE, reduceIte, jA, jM, jS, jL, jD, jB, w, g4]))
    exact Aw_ret (retL (M := [0, 1, 2]) (.inl rfl) (by simp only [go_sem, jE, reduceIte, jA, jM, jS, jL, jD, jB]; first | done | rfl) rfl rfl (by rfl) (by simp only [go_sem, jE, reduceIte, jA, jM, jS, jL, jD, jB]; first | done | rfl | (and_intros <;> rfl)) (by decide) (by unfold idM; decide))
  · rw [if_neg h4] at h; cases h
theorem cloneInts_ac (ts : List Int) (hl : ts.length ≤ 100000) : AC Tryz.prog 143 [intsT ts] noHp 0 ⟨.t (.c (.h 0)), hpL [some (tmRow ts)], 1⟩ := by
  refine AC_of Tryz.func143 rfl Tryz.ntmps143 Tryz.results143 (by kernel_rfl) rfl ?_
  simp only [List.zipIdx, List.map, Nat.zero_add, Nat.reduceAdd]
  have hb : ts.length * 8 ≤ 140737488355328 := by omega
  repeat (first | apply Aw_seq | apply Aw_block | apply Aw_skip | apply Aw_exit | refine Aw_condt rfl ?_ | refine Aw_condf rfl ?_ | ((first | refine qr ?_ | refine qd (by kernel_rfl) (by kernel_rfl) ?_); simp only [go_sem, jE, reduceIte, jA, jM, jS, jL, jD, jB, hb]) | refine dk (by kernel_rfl) ?_)
  exact Aw_ret (retL (M := [2]) (.inl rfl) (by simp only [go_sem, jE, reduceIte, jA, jM, jS, jL, jD, jB]; first | done | rfl) rfl rfl (by rfl) (by simp only [go_sem, jE, reduceIte, jA, jM, jS, jL, jD, jB]; first | done | rfl | (and_intros <;> rfl)) (by decide) (by unfold idM; decide))
theorem svClone_ac (x : Sve) (hl : x.rests.length ≤ 1099511627776) : AC Tryz.prog 144 [sveP x] noHp 0 ⟨.t (.agg [.d (.s (.string x.letters)), .d (.s (.string x.more)), .d (.s (.string x.first)), .h 0, .d (.s (.int .i64 x.keep))]), hpL [some (kRow x.rests)], 1⟩ := by
  refine AC_of Tryz.func144 rfl Tryz.ntmps144 Tryz.results144 (by kernel_rfl) rfl ?_
  simp only [List.zipIdx, List.map, Nat.zero_add, Nat.reduceAdd]
  have hb : x.rests.length * 16 ≤ 140737488355328 := by omega
  repeat (first | apply Aw_seq | apply Aw_block | apply Aw_skip | apply Aw_exit | refine Aw_condt rfl ?_ | refine Aw_condf rfl ?_ | ((first | refine qr ?_ | refine qd (by kernel_rfl) (by kernel_rfl) ?_); simp only [go_sem, jE, reduceIte, jA, jM, jS, jL, jD, jB, hb]) | refine dk (by kernel_rfl) ?_)
  exact Aw_ret (retL (M := [4]) (.inl rfl) (by simp only [go_sem, jE, reduceIte, jA, jM, jS, jL, jD, jB]; first | done | rfl) rfl rfl (by rfl) (by simp only [go_sem, jE, reduceIte, jA, jM, jS, jL, jD, jB]; first | done | rfl | (and_intros <;> rfl)) (by decide) (by unfold idM; decide))
def svN (x : Sve) (j : Nat) : List CV := [.d (.s (.string x.letters)), .d (.s (.string x.more)), .d (.s (.string x.first)), .h j, .d (.s (.int .i64 x.keep))]
def cloS (top a b c : List Ent) (x y z : Sve) (ts : List Int) : List (Option Obj) := [some (eRow top), some ⟨23, 1, true, [[.h 4], [.h 5], [.h 6]]⟩, some ⟨76, 5, true, [svN x 7, svN y 8, svN z 9]⟩,
        some (tmRow ts), some (eRow a), some (eRow b), some (eRow c), some (kRow x.rests), some (kRow y.rests), some (kRow z.rests)]
theorem storeClone_ac (top a b c : List Ent) (x y z : Sve) (keep time : Int) (ts : List Int) (h0 : top.length ≤ 100000) (h1 : a.length ≤ 100000) (h2 : b.length ≤ 100000) (h3 : c.length ≤ 100000) (h4 : x.rests.length ≤ 1099511627776) (h5 : y.rests.length ≤ 1099511627776) (h6 : z.rests.length ≤ 1099511627776) (h7 : ts.length ≤ 100000) :
    AC Tryz.prog 94 [stT ⟨top, [a, b, c], [x, y, z], keep, time, ts⟩] noHp 0 ⟨.t (.agg [.h 0, .h 1, .h 2, .d (.s (.int .i64 keep)), .d (.s (.int .i64 time)), .h 3]), hpL (cloS top a b c x y z ts), 10⟩ := by
  have k0 := cloneRun_ac top h0
  have k1 := cloneInts_ac ts h7
  have k2 := cloneRun_ac a h1
  have k3 := cloneRun_ac b h2
  have k4 := cloneRun_ac c h3
  have k5 := svClone_ac x h4
  have k6 := svClone_ac y h5
  have k7 := svClone_ac z h6
  have l0 : decide ((0 : Int) < 3) = true := rfl
  have l1 : decide ((1 : Int) < 3) = true := rfl
  have l2 : decide ((2 : Int) < 3) = true := rfl
  have l3 : decide ((3 : Int) < 3) = false := rfl
  have w0 : IntKind.i64.wrap ((0 : Int) + 1) = 1 := rfl
  have w1 : IntKind.i64.wrap ((1 : Int) + 1) = 2 := rfl
  have w2 : IntKind.i64.wrap ((2 : Int) + 1) = 3 := rfl
  unfold cloS svN
  refine AC_of Tryz.func94 rfl Tryz.ntmps94 Tryz.results94 (by kernel_rfl) rfl ?_
  simp only [List.zipIdx, List.map, Nat.zero_add, Nat.reduceAdd]
  repeat (first | apply Aw_seq | apply Aw_block | apply Aw_skip | apply Aw_exit | refine Aw_condt rfl ?_ | refine Aw_condf rfl ?_ | ((first | refine qr ?_ | refine qd (by kernel_rfl) (by kernel_rfl) ?_); simp only [go_sem, jE, reduceIte, jA, jM, jS, jL, jD, jB]) | refine dk (by kernel_rfl) ?_ | (refine qx (call_N (L := []) (k0) rfl (.cons (.nm rfl) (.nil)) (.inl rfl) rfl) (by simp only [go_sem, jE, reduceIte, jA, jM, jS, jL, jD, jB]; first | done | rfl) rfl (by simp only [go_sem, Nat.reduceLT]) ?_; simp only [go_sem, jE, reduceIte, jA, jM, jS, jL, jD, jB]) | (refine qx (call_N (L := []) (k1) rfl (.cons (.nm rfl) (.nil)) (.inl rfl) rfl) (by simp only [go_sem, jE, reduceIte, jA, jM, jS, jL, jD, jB]; first | done | rfl) rfl (by simp only [go_sem, Nat.reduceLT]) ?_; simp only [go_sem, jE, reduceIte, jA, jM, jS, jL, jD, jB]))
  refine Aw.ownC (m := 13) (i := 1) (e := 23) (j := 1) rfl rfl (by decide) (by simp only [Nat.reduceAdd]; rfl) rfl ?_
  refine Aw.ownC (m := 13) (i := 2) (e := 76) (j := 5) rfl rfl (by decide) (by simp only [Nat.reduceAdd]; rfl) rfl ?_
  refine Aw_rounds 4 ?_
  refine AwR_succ ?_
  repeat (first | apply Aw_seq | apply Aw_block | apply Aw_skip | apply Aw_exit | refine Aw_condt rfl ?_ | refine Aw_condf rfl ?_ | ((first | refine qr ?_ | refine qd (by kernel_rfl) (by kernel_rfl) ?_); simp only [go_sem, jE, reduceIte, jA, jM, jS, jL, jD, jB, l0, l1, l2, l3, w0, w1, w2]) | refine dk (by kernel_rfl) ?_ | (refine qx (call_N (L := []) (k2) rfl (.cons (.nm rfl) (.nil)) (.inl rfl) rfl) (by simp only [go_sem, jE, reduceIte, jA, jM, jS, jL, jD, jB, l0, l1, l2, l3, w0, w1, w2]; first | done | rfl) rfl (by simp only [go_sem, Nat.reduceLT]) ?_; simp only [go_sem, jE, reduceIte, jA, jM, jS, jL, jD, jB, l0, l1, l2, l3, w0, w1, w2]) | (refine qx (call_N (L := []) (k5) rfl (.cons (.nm rfl) (.nil)) (.inl rfl) rfl) (by simp only [go_sem, jE, reduceIte, jA, jM, jS, jL, jD, jB, l0, l1, l2, l3, w0, w1, w2]; first | done | rfl) rfl (by simp only [go_sem, Nat.reduceLT]) ?_; simp only [go_sem, jE, reduceIte, jA, jM, jS, jL, jD, jB, l0, l1, l2, l3, w0, w1, w2]) | (refine qx (call_N (L := []) (k3) rfl (.cons (.nm rfl) (.nil)) (.inl rfl) rfl) (by simp only [go_sem, jE, reduceIte, jA, jM, jS, jL, jD, jB, l0, l1, l2, l3, w0, w1, w2]; first | done | rfl) rfl (by simp only [go_sem, Nat.reduceLT]) ?_; simp only [go_sem, jE, reduceIte, jA, jM, jS, jL, jD, jB, l0, l1, l2, l3, w0, w1, w2]) | (refine qx (call_N (L := []) (k6) rfl (.cons (.nm rfl) (.nil)) (.inl rfl) rfl) (by simp only [go_sem, jE, reduceIte, jA, jM, jS, jL, jD, jB, l0, l1, l2, l3, w0, w1, w2]; first | done | rfl) rfl (by simp only [go_sem, Nat.reduceLT]) ?_; simp only [go_sem, jE, reduceIte, jA, jM, jS, jL, jD, jB, l0, l1, l2, l3, w0, w1, w2]) | (refine qx (call_N (L := []) (k4) rfl (.cons (.nm rfl) (.nil)) (.inl rfl) rfl) (by simp only [go_sem, jE, reduceIte, jA, jM, jS, jL, jD, jB, l0, l1, l2, l3, w0, w1, w2]; first | done | rfl) rfl (by simp only [go_sem, Nat.reduceLT]) ?_; simp only [go_sem, jE, reduceIte, jA, jM, jS, jL, jD, jB, l0, l1, l2, l3, w0, w1, w2]) | (refine qx (call_N (L := []) (k7) rfl (.cons (.nm rfl) (.nil)) (.inl rfl) rfl) (by simp only [go_sem, jE, reduceIte, jA, jM, jS, jL, jD, jB, l0, l1, l2, l3, w0, w1, w2]; first | done | rfl) rfl (by simp only [go_sem, Nat.reduceLT]) ?_; simp only [go_sem, jE, reduceIte, jA, jM, jS, jL, jD, jB, l0, l1, l2, l3, w0, w1, w2]))
  exact Aw_ret (retL (M := [4, 88, 100, 11, 30, 58, 86, 42, 70, 98]) (.inl rfl) (by simp only [go_sem, jE, reduceIte, jA, jM, jS, jL, jD, jB]; first | done | rfl) rfl rfl (by rfl) (by simp only [go_sem, jE, reduceIte, jA, jM, jS, jL, jD, jB]; first | done | rfl | (and_intros <;> rfl)) (by decide) (by unfold idM; decide))
theorem cloneP_ac (s : Sto) (hs : SmSt s) (hv : storeS s = true) : AC Tryz.prog 94 [stT s] noHp 0 ⟨.t (.agg [.d (.rs 4 (s.top.map entD)), .h 0, .h 1, .d (.s (.int .i64 s.keep)), .d (.s (.int .i64 s.time)), .d (.rs 1 (s.times.map intD))]), hpL [some (lvRow s.levels), some (svRow s.sieves)], 2⟩ := by
  obtain ⟨l1, l2, l3, l4, l5, _⟩ := storeS_facts hv
  have hrl := hs.rl
  obtain ⟨top, levels, sieves, keep, time, ts⟩ := s
  obtain ⟨a, b, c, rfl⟩ := len3 l1
  obtain ⟨x, y, z, rfl⟩ := len3 l2
  have ha := l5 a (by simp)
  have hb := l5 b (by simp)
  have hc := l5 c (by simp)
  dsimp only at l3 l4
  have k := storeClone_ac top a b c x y z keep time ts (by omega) (by omega) (by omega) (by omega) (hrl x (by simp)) (hrl y (by simp)) (hrl z (by simp)) (by omega)
  unfold cloS svN at k
  have h := AC.setS [0, 3, 4, 5, 6, 7, 8, 9] k (y := .t (.agg [.d (.rs 4 (top.map entD)), .h 1, .h 2, .d (.s (.int .i64 keep)), .d (.s (.int .i64 time)), .d (.rs 1 (ts.map intD))])) (os' := [none, some (lvRow [a, b, c]), some (svRow [x, y, z])])
    (.cons (SetC.row0 rfl rfl) (.cons (.inl rfl) (.cons (.inl rfl) (.cons (.inl rfl) (.cons (.inl rfl) (.cons (SetC.row0 rfl rfl) .nil))))))
    ⟨.inr ⟨rfl, rfl, rfl, .cons (.cons (SetC.row0 rfl rfl) .nil) (.cons (.cons (SetC.row0 rfl rfl) .nil) (.cons (.cons (SetC.row0 rfl rfl) .nil) .nil))⟩, rfl,
      .inr ⟨rfl, rfl, rfl, .cons (.cons (.inl rfl) (.cons (.inl rfl) (.cons (.inl rfl) (.cons (SetC.row0 rfl rfl) (.cons (.inl rfl) .nil))))) (.cons (.cons (.inl rfl) (.cons (.inl rfl) (.cons (.inl rfl) (.cons (SetC.row0 rfl rfl) (.cons (.inl rfl) .nil))))) (.cons (.cons (.inl rfl) (.cons (.inl rfl) (.cons (.inl rfl) (.cons (SetC.row0 rfl rfl) (.cons (.inl rfl) .nil))))) .nil))⟩, rfl, trivial⟩
  refine AC.sel (M := [1, 2]) h rfl rfl (selL rfl ?_) (by decide) fun m hm => absurd hm (by omega)
  simp only [go_sem, LeftL]
theorem arg_pS {hp : Hp} {N' L : List Nat} {a b : Nat} {s : Sto} (ha : hp a = some (lvRow s.levels)) (hb : hp b = some (svRow s.sieves)) (hL : a ∈ L ∧ b ∈ L) :
    Arg hp N' L (.agg [.d (.rs 4 (s.top.map entD)), .h a, .h b, .d (.s (.int .i64 s.keep)), .d (.s (.int .i64 s.time)), .d (.rs 1 (s.times.map intD))]) (stT s) := by
  obtain ⟨h1, h2⟩ := hL
  refine .ln (n := 1) ?_ ?_
  · have e1 := lend_dRow (hp := hp) ha 0
    have e2 := lend_dRow (hp := hp) hb 0
    have e5 : ∀ x, lendC hp (0 + 1) (.d x) = some x := fun _ => rfl
    show (([.d (.rs 4 (s.top.map entD)), .h a, .h b, .d (.s (.int .i64 s.keep)), .d (.s (.int .i64 s.time)), .d (.rs 1 (s.times.map intD))] : List CV).mapM (lendC hp (0 + 1))).map _ = _
    simp only [List.mapM_cons, List.mapM_nil, e1, e2, e5]
    rfl
  · intro z hz m hm
    simp only [TV.cells, List.mem_cons, List.not_mem_nil, or_false] at hz
    rcases hz with rfl | rfl | rfl | rfl | rfl | rfl
    · simp [lendN] at hm
    · rw [lendN_dRow ha 0 m hm]; exact h1
    · rw [lendN_dRow hb 0 m hm]; exact h2
    · simp [lendN] at hm
    · simp [lendN] at hm
    · simp [lendN] at hm
def fks (keep : Nat) : Nat → List (List ByteArray × Nat) → List (List ByteArray × Nat)
  | 0, _ => []
  | _ + 1, [] => []
  | n + 1, f :: q => f :: fks keep n (q ++ (node keep f).kids)
def posOne : List UInt8 → Nat → Option Nat
  | [], _ => none
  | b :: l, n => if b = 49 then (match n with
      | 0 => some 0
      | m + 1 => (posOne l m).map (· + 1)) else (posOne l n).map (· + 1)
abbrev Br := List ByteArray × Nat
def brs (f : List ByteArray × Nat) : List Br := (spl f.2 f.1).map fun g => (g, f.2)
def bLet (b : Br) : UInt8 := lab (b.1.headD zs) b.2
def bMul (b : Br) : Bool := decide (1 < b.1.length)
def bMore (b : Br) : UInt8 := if bMul b = true then 49 else 48
def bCut (keep : Nat) (b : Br) : ByteArray := cutT (b.1.headD zs) b.2 keep
def bKid (b : Br) : List ByteArray × Nat := (b.1, b.2 + 1)
def bFirst : List Br → List UInt8
  | [] => []
  | _ :: r => 49 :: r.map fun _ => 48
def allF (keep : Nat) (ks : List ByteArray) : List (List ByteArray × Nat) := fks keep (wts [(ks, 0)]) [(ks, 0)]
def allB (keep : Nat) (ks : List ByteArray) : List Br := (allF keep ks).flatMap brs
theorem wn {x : Int} {m : Nat} (e : x = (m : Int)) (h : m ≤ 1099511627776) : IntKind.i64.wrap x = (m : Int) := by rw [e]; exact wrap_nat h
open Go Go.Proofs Go.Shelf
def begB (s h : ByteArray) : Bool := decide (h.size ≤ s.size) && decide (s.extract 0 h.size = h)
structure OneI (l : List UInt8) (R : Option Nat) where
  i : Nat
  n : Nat
  hi : i ≤ l.length
  hn : n ≤ 1000000
  h : (posOne (l.drop i) n).map (· + i) = R
theorem bFirst_len (l : List Br) : (bFirst l).length = l.length := by cases l <;> simp [bFirst]
def firstL (keep : Nat) (ks : List ByteArray) : List UInt8 := (allF keep ks).flatMap fun f => bFirst (brs f)
theorem firstL_len (keep : Nat) (ks : List ByteArray) : (firstL keep ks).length = (allB keep ks).length := by
  unfold firstL allB
  rw [List.length_flatMap, List.length_flatMap]
  congr 1
  exact List.map_congr_left fun f _ => bFirst_len _
structure SvIs (keep : Nat) (ks : List ByteArray) (s : Sve) : Prop where
  hf : Fork (ks, 0)
  hl : s.letters.data.toList = (allB keep ks).map bLet
  hm : s.more.data.toList = (allB keep ks).map bMore
  h1 : s.first.data.toList = firstL keep ks
  hr : s.rests = ((allB keep ks).filter fun b => !bMul b).map (bCut keep)
  hk : s.keep = (keep : Int)
  hb : (allB keep ks).length ≤ 400
  kp : keep ≤ 5
theorem SvIs.sizes {keep : Nat} {ks : List ByteArray} {s : Sve} (h : SvIs keep ks s) : s.letters.size = (allB keep ks).length ∧ s.more.size = (allB keep ks).length ∧ s.first.size = (allB keep ks).length := by
  refine ⟨?_, ?_, ?_⟩
  · have e : s.letters.size = s.letters.data.toList.length := Array.length_toList.symm
    rw [e, h.hl, List.length_map]
  · have e : s.more.size = s.more.data.toList.length := Array.length_toList.symm
    rw [e, h.hm, List.length_map]
  · have e : s.first.size = s.first.data.toList.length := Array.length_toList.symm
    rw [e, h.h1, firstL_len]
def whole (keep : Nat) (b : Br) : Bool := decide (bLet b = 45) || decide ((bCut keep b).size < keep)
structure WayOk (way : ByteArray) (f : List ByteArray × Nat) : Prop where
  len : way.data.toList.length = f.2
  pre : ∀ k ∈ f.1, k.data.toList.take f.2 = way.data.toList
structure BrI (m : Nat) where
  a : Nat
  h1 : 1 ≤ a
  h2 : a ≤ m
def svObj (s : Sve) : Obj := ⟨76, 5, false, [[.d (.s (.string s.letters)), .d (.s (.string s.more)), .d (.s (.string s.first)), .d (.rs 1 (s.rests.map strD)), .d (.s (.int .i64 s.keep))]]⟩
@[go_sem] theorem r_svObj (s : Sve) : svObj s = ⟨76, 5, false, [[.d (.s (.string s.letters)), .d (.s (.string s.more)), .d (.s (.string s.first)), .d (.rs 1 (s.rests.map strD)), .d (.s (.int .i64 s.keep))]]⟩ := rfl
def hitB (k : ByteArray) (d : Nat) (b : Br) : Bool := decide (bLet b = lab k d)
def walkT (k : ByteArray) : Nat → List ByteArray × Nat → Option Br
  | 0, _ => none
  | n + 1, f => match (brs f).find? (hitB k f.2) with
    | none => none
    | some b => if bMul b = true then walkT k n (bKid b) else some b
def tailT (k : ByteArray) (d : Nat) : ByteArray := k.extract (min (d + 1) k.size) k.size
def fits (keep : Nat) (k : ByteArray) (b : Br) : Bool := if whole keep b = true then decide (tailT k b.2 = bCut keep b) else begB (tailT k b.2) (bCut keep b)
def hasM (keep : Nat) (ks : List ByteArray) (k : ByteArray) : Bool := match walkT k 6 (ks, 0) with
  | none => false
  | some b => fits keep k b
structure HasI (keep : Nat) (ks : List ByteArray) (k : ByteArray) (R : Option Br) where
  j : Nat
  f : List ByteArray × Nat
  n : Nat
  hj : (allF keep ks)[j]? = some f
  hd : f.2 ≤ k.size
  hn : f.2 + n = 6
  hw : walkT k n f = R
structure BrJ (k : ByteArray) (f : List ByteArray × Nat) where
  a : Nat
  h1 : a ≤ (brs f).length
  h2 : ∀ t, t < a → ∀ x, (brs f)[t]? = some x → hitB k f.2 x = false
end Go.Proofs.YtjolcfkepcmjnaaGreat.Ab
