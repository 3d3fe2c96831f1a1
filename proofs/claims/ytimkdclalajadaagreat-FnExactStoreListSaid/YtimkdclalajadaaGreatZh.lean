/-
  Contracts: what is listed of a store, the program's. No condition.
  Contracts: what is listed of a store, the reference's. No condition.
  Contract: a level that is pushed into the next one, the program's. No condition.
  Plain: how large a store is behind an operation; marked rows told by their sizes. No condition.
  Contract: the law of what is listed of a store gives true, of every store. No condition.
-/
import Derived.Test.YtimkdclalajadaaGreatZe
import Derived.Test.YtimkdclalajadaaGreatZd
import Derived.Test.YtimkdclalajadaaGreatZg
namespace Go.Proofs.YtimkdclalajadaaGreat.Ab
open Nat renaming reduceEqDiff → jE, reduceAdd → jA, reduceMul → jM, reduceSub → jS, reduceLT → jL, reduceLeDiff → jD, reduceBEq → jB
set_option linter.deprecated false
set_option linter.unusedVariables false
set_option linter.unusedSimpArgs false
-- idB
open Go Go.Proofs
set_option maxRecDepth 10000
set_option maxHeartbeats 8000000
abbrev nilE : TV := .c (.d (.s (.slice none 0 0)))
def lsOkB (s : Sto) (f t : ByteArray) (tm : Int) : Bool := storeS s && keyOk f && keyOk t && knownM s tm
theorem storeList_no (s : Sto) (hs : SmSt s) (f t : ByteArray) (hf : smK f) (ht : smK t) (tm : Int) (htl : s.times.length ≤ 1048576) (h : lsOkB s f t tm = false) : AC Tryz.prog 22 [stT s, sT f, sT t, iT tm] noHp 0 ⟨.t nilE, noHp, 0⟩ := by
  have k1 := storeOkI_ac s hs
  have k2 := keyOk_ac f hf
  have k3 := keyOk_ac t ht
  unfold lsOkB at h
  refine AC_of Tryz.func22 rfl Tryz.ntmps22 Tryz.results22 (by kernel_rfl) rfl ?_
  simp only [List.zipIdx, List.map, Nat.zero_add, Nat.reduceAdd]
  cases c1 : storeS s
  · rw [c1] at k1
    repeat (first | apply Aw_seq | apply Aw_block | apply Aw_skip | apply Aw_exit | refine Aw_condt rfl ?_ | refine Aw_condf rfl ?_ | ((first | refine qr ?_ | refine qd (by kernel_rfl) (by kernel_rfl) ?_); simp only [go_sem, jE, reduceIte, jA, jM, jS, jL, jD, jB]) | refine dk (by kernel_rfl) ?_ | (refine qp (k1) (by simp only [go_sem, jE, reduceIte, jA, jM, jS, jL, jD, jB]; first | done | rfl) rfl (by simp only [go_sem, Nat.reduceLT]) rfl rfl ?_; simp only [go_sem, jE, reduceIte, jA, jM, jS, jL, jD, jB]))
    exact Aw_ret (ret0 (.inl rfl) (by simp only [go_sem, jE, reduceIte, jA, jM, jS, jL, jD, jB]; rfl) (by rfl) rfl)
  rw [c1] at k1
  cases c2 : keyOk f
  · rw [c2] at k2
    repeat (first | apply Aw_seq | apply Aw_block | apply Aw_skip | apply Aw_exit | refine Aw_condt rfl ?_ | refine Aw_condf rfl ?_ | ((first | refine qr ?_ | refine qd (by kernel_rfl) (by kernel_rfl) ?_); simp only [go_sem, jE, reduceIte, jA, jM, jS, jL, jD, jB]) | refine dk (by kernel_rfl) ?_ | (refine qp (k1) (by simp only [go_sem, jE, reduceIte, jA, jM, jS, jL, jD, jB]; first | done | rfl) rfl (by simp only [go_sem, Nat.reduceLT]) rfl rfl ?_; simp only [go_sem, jE, reduceIte, jA, jM, jS, jL, jD, jB]) | (refine qp (k2) (by simp only [go_sem, jE, reduceIte, jA, jM, jS, jL, jD, jB]; first | done | rfl) rfl (by simp only [go_sem, Nat.reduceLT]) rfl rfl ?_; simp only [go_sem, jE, reduceIte, jA, jM, jS, jL, jD, jB]))
    exact Aw_ret (ret0 (.inl rfl) (by simp only [go_sem, jE, reduceIte, jA, jM, jS, jL, jD, jB]; rfl) (by rfl) rfl)
  rw [c2] at k2
  cases c3 : keyOk t
  · rw [c3] at k3
    repeat (first | apply Aw_seq | apply Aw_block | apply Aw_skip | apply Aw_exit | refine Aw_condt rfl ?_ | refine Aw_condf rfl ?_ | ((first | refine qr ?_ | refine qd (by kernel_rfl) (by kernel_rfl) ?_); simp only [go_sem, jE, reduceIte, jA, jM, jS, jL, jD, jB]) | refine dk (by kernel_rfl) ?_ | (refine qp (k1) (by simp only [go_sem, jE, reduceIte, jA, jM, jS, jL, jD, jB]; first | done | rfl) rfl (by simp only [go_sem, Nat.reduceLT]) rfl rfl ?_; simp only [go_sem, jE, reduceIte, jA, jM, jS, jL, jD, jB]) | (refine qp (k2) (by simp only [go_sem, jE, reduceIte, jA, jM, jS, jL, jD, jB]; first | done | rfl) rfl (by simp only [go_sem, Nat.reduceLT]) rfl rfl ?_; simp only [go_sem, jE, reduceIte, jA, jM, jS, jL, jD, jB]) | (refine qp (k3) (by simp only [go_sem, jE, reduceIte, jA, jM, jS, jL, jD, jB]; first | done | rfl) rfl (by simp only [go_sem, Nat.reduceLT]) rfl rfl ?_; simp only [go_sem, jE, reduceIte, jA, jM, jS, jL, jD, jB]))
    exact Aw_ret (ret0 (.inl rfl) (by simp only [go_sem, jE, reduceIte, jA, jM, jS, jL, jD, jB]; rfl) (by rfl) rfl)
  rw [c3] at k3
  have k4 := known_ac s tm (by have := (vst_of c1).tl; omega)
  have c4 : knownM s tm = false := by rw [c1, c2, c3] at h; simpa using h
  rw [c4] at k4
  by_cases hft : f = t
  · subst hft
    repeat (first | apply Aw_seq | apply Aw_block | apply Aw_skip | apply Aw_exit | refine Aw_condt rfl ?_ | refine Aw_condf rfl ?_ | ((first | refine qr ?_ | refine qd (by kernel_rfl) (by kernel_rfl) ?_); simp only [go_sem, jE, reduceIte, jA, jM, jS, jL, jD, jB]) | refine dk (by kernel_rfl) ?_ | (refine qp (k1) (by simp only [go_sem, jE, reduceIte, jA, jM, jS, jL, jD, jB]; first | done | rfl) rfl (by simp only [go_sem, Nat.reduceLT]) rfl rfl ?_; simp only [go_sem, jE, reduceIte, jA, jM, jS, jL, jD, jB]) | (refine qp (k2) (by simp only [go_sem, jE, reduceIte, jA, jM, jS, jL, jD, jB]; first | done | rfl) rfl (by simp only [go_sem, Nat.reduceLT]) rfl rfl ?_; simp only [go_sem, jE, reduceIte, jA, jM, jS, jL, jD, jB]) | (refine qp (k4) (by simp only [go_sem, jE, reduceIte, jA, jM, jS, jL, jD, jB]; first | done | rfl) rfl (by simp only [go_sem, Nat.reduceLT]) rfl rfl ?_; simp only [go_sem, jE, reduceIte, jA, jM, jS, jL, jD, jB]))
    exact Aw_ret (ret0 (.inl rfl) (by simp only [go_sem, jE, reduceIte, jA, jM, jS, jL, jD, jB]; rfl) (by rfl) rfl)
  · repeat (first | apply Aw_seq | apply Aw_block | apply Aw_skip | apply Aw_exit | refine Aw_condt rfl ?_ | refine Aw_condf rfl ?_ | ((first | refine qr ?_ | refine qd (by kernel_rfl) (by kernel_rfl) ?_); simp only [go_sem, jE, reduceIte, jA, jM, jS, jL, jD, jB]) | refine dk (by kernel_rfl) ?_ | (refine qp (k1) (by simp only [go_sem, jE, reduceIte, jA, jM, jS, jL, jD, jB]; first | done | rfl) rfl (by simp only [go_sem, Nat.reduceLT]) rfl rfl ?_; simp only [go_sem, jE, reduceIte, jA, jM, jS, jL, jD, jB]) | (refine qp (k2) (by simp only [go_sem, jE, reduceIte, jA, jM, jS, jL, jD, jB]; first | done | rfl) rfl (by simp only [go_sem, Nat.reduceLT]) rfl rfl ?_; simp only [go_sem, jE, reduceIte, jA, jM, jS, jL, jD, jB]) | (refine qp (k3) (by simp only [go_sem, jE, reduceIte, jA, jM, jS, jL, jD, jB]; first | done | rfl) rfl (by simp only [go_sem, Nat.reduceLT]) rfl rfl ?_; simp only [go_sem, jE, reduceIte, jA, jM, jS, jL, jD, jB]) | (refine qp (k4) (by simp only [go_sem, jE, reduceIte, jA, jM, jS, jL, jD, jB]; first | done | rfl) rfl (by simp only [go_sem, Nat.reduceLT]) rfl rfl ?_; simp only [go_sem, jE, reduceIte, jA, jM, jS, jL, jD, jB]))
    exact Aw_ret (ret0 (.inl rfl) (by simp only [go_sem, jE, reduceIte, jA, jM, jS, jL, jD, jB]; rfl) (by rfl) rfl)
theorem storeList_ok (s : Sto) (hs : SmSt s) (f t : ByteArray) (hf : smK f) (ht : smK t) (tm : Int) (h : lsOkB s f t tm = true) : AC Tryz.prog 22 [stT s, sT f, sT t, iT tm] noHp 0 ⟨.t (.c (.h 0)), hpL [some (eRow (lsTo s f t tm (lsZ s f t) (lsZ s f t).length))], 1⟩ := by
  have k1 := storeOkI_ac s hs
  have k2 := keyOk_ac f hf
  have k3 := keyOk_ac t ht
  unfold lsOkB at h
  simp only [Bool.and_eq_true] at h
  obtain ⟨⟨⟨c1, c2⟩, c3⟩, c4⟩ := h
  have hv := vst_of c1
  have hll := hv.ll
  have hsl := hv.sl
  have k4 := known_ac s tm (by have := hv.tl; omega)
  rw [c1] at k1
  rw [c2] at k2
  rw [c3] at k3
  rw [c4] at k4
  have k5 := keysOf_ac s.top hs.top
  rw [hp1_L] at k5
  refine AC_of Tryz.func22 rfl Tryz.ntmps22 Tryz.results22 (by kernel_rfl) rfl ?_
  simp only [List.zipIdx, List.map, Nat.zero_add, Nat.reduceAdd]
  repeat (first | apply Aw_seq | apply Aw_block | apply Aw_skip | apply Aw_exit | refine Aw_condt rfl ?_ | refine Aw_condf rfl ?_ | ((first | refine qr ?_ | refine qd (by kernel_rfl) (by kernel_rfl) ?_); simp only [go_sem, jE, reduceIte, jA, jM, jS, jL, jD, jB]) | refine dk (by kernel_rfl) ?_ | (refine qp (k1) (by simp only [go_sem, jE, reduceIte, jA, jM, jS, jL, jD, jB]; first | done | rfl) rfl (by simp only [go_sem, Nat.reduceLT]) rfl rfl ?_; simp only [go_sem, jE, reduceIte, jA, jM, jS, jL, jD, jB]) | (refine qp (k2) (by simp only [go_sem, jE, reduceIte, jA, jM, jS, jL, jD, jB]; first | done | rfl) rfl (by simp only [go_sem, Nat.reduceLT]) rfl rfl ?_; simp only [go_sem, jE, reduceIte, jA, jM, jS, jL, jD, jB]) | (refine qp (k3) (by simp only [go_sem, jE, reduceIte, jA, jM, jS, jL, jD, jB]; first | done | rfl) rfl (by simp only [go_sem, Nat.reduceLT]) rfl rfl ?_; simp only [go_sem, jE, reduceIte, jA, jM, jS, jL, jD, jB]) | (refine qp (k4) (by simp only [go_sem, jE, reduceIte, jA, jM, jS, jL, jD, jB]; first | done | rfl) rfl (by simp only [go_sem, Nat.reduceLT]) rfl rfl ?_; simp only [go_sem, jE, reduceIte, jA, jM, jS, jL, jD, jB]) | (refine qx (call_N (L := []) (k5) rfl (.cons (.nm rfl) (.nil)) (.inl rfl) rfl) (by simp only [go_sem, jE, reduceIte, jA, jM, jS, jL, jD, jB]; first | done | rfl) rfl (by simp only [go_sem, Nat.reduceLT]) ?_; simp only [go_sem, jE, reduceIte, jA, jM, jS, jL, jD, jB]))
  refine Aw.rw (rwL (l' := [(42, .t (iT (0 : Nat))), (41, .t (iT s.levels.length)), (40, .t (lvsT s.levels)), (9, .t (.c (.h 1))), (8, .t nilE), (4, .t (.c (.ph 0 0 0))), (1, .t (sT f)), (2, .t (sT t)), (3, .t (iT tm))]) (os := [some (stO s), some (kRow (lsT s f t 0))]) (M := [0, 19]) (n' := 2) (by repeat (first | exact trivial | refine ⟨rfl, rfl, ?_⟩)) (by rfl) (by simp only [go_sem, jE, reduceIte, jA, jM, jS, jL, jD, jB, lsT_0]; first | done | rfl) (by decide) (idB rfl)) ?_
  refine Aw_loop_rw (ι := { i : Nat // i ≤ 3 }) (fun q => S [(42, .t (iT (q.1 : Nat))), (41, .t (iT s.levels.length)), (40, .t (lvsT s.levels)), (9, .t (.c (.h 1))), (8, .t nilE), (4, .t (.c (.ph 0 0 0))), (1, .t (sT f)), (2, .t (sT t)), (3, .t (iT tm))] (hpL [some (stO s), some (kRow (lsT s f t q.1))]) 2) (fun q => 3 - q.1) ⟨0, Nat.zero_le _⟩ ?_
  rintro ⟨i, hi⟩
  dsimp only
  have hfe := lsT_few c1 f t
  by_cases hlt : i < 3
  · have g1 : decide ((i : Int) < (s.levels.length : Int)) = true := decide_eq_true (by omega)
    have w := wrap_succ hlt (by omega)
    obtain ⟨r, hr⟩ : ∃ r, s.levels[i]? = some r := ⟨_, List.getElem?_eq_getElem (by omega)⟩
    obtain ⟨x, hx⟩ : ∃ x, s.sieves[i]? = some x := ⟨_, List.getElem?_eq_getElem (by omega)⟩
    have hxl : i < s.sieves.length := by omega
    obtain ⟨m1, m2⟩ := hv.me hr hx
    have k6 := meets_ac m1 m2 f t c2 c3
    have k7 := keysOf_ac r (hs.lev r (List.mem_of_getElem? hr))
    rw [hp1_L] at k7
    have hsu := lsT_succ (f := f) (t := t) hr
    have hle := (hfe (i + 1) hlt).1
    unfold lsAt at hsu
    cases c5 : meetsM s.keep.toNat (keysM r) f t
    · rw [c5] at k6
      rw [c5, if_neg (by simp), List.append_nil] at hsu
      repeat (first | apply Aw_seq | apply Aw_block | apply Aw_skip | apply Aw_exit | refine Aw_condt rfl ?_ | refine Aw_condf rfl ?_ | ((first | refine qr ?_ | refine qd (by kernel_rfl) (by kernel_rfl) ?_); simp only [go_sem, jE, reduceIte, jA, jM, jS, jL, jD, jB, g1, w, hr, hx, hxl]) | refine dk (by kernel_rfl) ?_ | (refine qp (k6) (by simp only [go_sem, jE, reduceIte, jA, jM, jS, jL, jD, jB, g1, w, hr, hx, hxl]; first | done | rfl) rfl (by simp only [go_sem, Nat.reduceLT]) rfl rfl ?_; simp only [go_sem, jE, reduceIte, jA, jM, jS, jL, jD, jB, g1, w, hr, hx, hxl]))
      refine ⟨⟨i + 1, hlt⟩, [0, 1], ?_, rwL (by repeat (first | exact trivial | refine ⟨rfl, rfl, ?_⟩)) (by rfl) (by simp only [go_sem, jE, reduceIte, jA, jM, jS, jL, jD, jB, hsu]; first | done | rfl) (by decide) (idB rfl)⟩
      show 3 - (i + 1) < 3 - i; omega
    · rw [c5] at k6
      rw [c5, if_pos rfl] at hsu
      rw [hsu, List.length_append] at hle
      have q1 : (((lsT s f t i).length + (keysM r).length) * 16 ≤ 140737488355328) = True := eq_true (by omega)
      repeat (first | apply Aw_seq | apply Aw_block | apply Aw_skip | apply Aw_exit | refine Aw_condt rfl ?_ | refine Aw_condf rfl ?_ | ((first | refine qr ?_ | refine qd (by kernel_rfl) (by kernel_rfl) ?_); simp only [go_sem, jE, reduceIte, jA, jM, jS, jL, jD, jB, g1, w, hr, hx, hxl, q1]) | refine dk (by kernel_rfl) ?_ | (refine qp (k6) (by simp only [go_sem, jE, reduceIte, jA, jM, jS, jL, jD, jB, g1, w, hr, hx, hxl, q1]; first | done | rfl) rfl (by simp only [go_sem, Nat.reduceLT]) rfl rfl ?_; simp only [go_sem, jE, reduceIte, jA, jM, jS, jL, jD, jB, g1, w, hr, hx, hxl, q1]) | (refine qx (call_N (L := []) (k7) rfl (.cons (.nm rfl) (.nil)) (.inl rfl) rfl) (by simp only [go_sem, jE, reduceIte, jA, jM, jS, jL, jD, jB, g1, w, hr, hx, hxl, q1]; first | done | rfl) rfl (by simp only [go_sem, Nat.reduceLT]) ?_; simp only [go_sem, jE, reduceIte, jA, jM, jS, jL, jD, jB, g1, w, hr, hx, hxl, q1]))
      refine ⟨⟨i + 1, hlt⟩, [0, 18], ?_, rwL (by repeat (first | exact trivial | refine ⟨rfl, rfl, ?_⟩)) (by rfl) (by simp only [go_sem, jE, reduceIte, jA, jM, jS, jL, jD, jB, hsu, List.map_append]; first | done | rfl) (by decide) (idB rfl)⟩
      show 3 - (i + 1) < 3 - i; omega
  · have g1 : decide ((i : Int) < (s.levels.length : Int)) = false := decide_eq_false (by omega)
    obtain rfl : i = 3 := by omega
    have hl3 := (hfe 3 (Nat.le_refl _)).1
    have k8 := keysSort_ac (lsT s f t 3) ⟨by omega, fun k hk => by have := List.all_eq_true.1 (hfe 3 (Nat.le_refl _)).2 k hk; have := keyOk_size this; unfold smK; omega⟩ (by omega)
    rw [lsZ_ok c1, show allK (lsT s f t 3) = lsZ s f t from rfl] at k8
    have hz := lsZ_len c1 f t
    have hzk : ∀ k ∈ lsZ s f t, keyOk k = true := fun k hk => lsZ_key c1 hk
    generalize lsZ s f t = z at k8 hz hzk ⊢
    repeat (first | apply Aw_seq | apply Aw_block | apply Aw_skip | apply Aw_exit | refine Aw_condt rfl ?_ | refine Aw_condf rfl ?_ | ((first | refine qr ?_ | refine qd (by kernel_rfl) (by kernel_rfl) ?_); simp only [go_sem, jE, reduceIte, jA, jM, jS, jL, jD, jB, g1]) | refine dk (by kernel_rfl) ?_ | (refine qx (call_N (L := [1]) (k8) rfl (.cons (arg_lend (m := 1) rfl (by simp)) (.nil)) (.inr ⟨rfl, by simp⟩) rfl) (by simp only [go_sem, jE, reduceIte, jA, jM, jS, jL, jD, jB, g1]; first | done | rfl) rfl (by simp only [go_sem, Nat.reduceLT]) ?_; simp only [go_sem, jE, reduceIte, jA, jM, jS, jL, jD, jB, g1]))
    refine Aw.own (t := 12) (e := 56) (j := 4) rfl (by decide) (by simp only [Nat.reduceAdd]; rfl) ?_
    refine Aw.rw (rwL (l' := [(63, .t (iT (0 : Nat))), (62, .t (iT z.length)), (61, .t (.c (.h 1))), (12, .t (.c (.h 2))), (4, .t (.c (.ph 0 0 0))), (1, .t (sT f)), (2, .t (sT t)), (3, .t (iT tm))]) (os := [some (stO s), some (kRow z), some (eRow (lsTo s f t tm z 0))]) (M := [0, 5, 8]) (n' := 3) (by repeat (first | exact trivial | refine ⟨rfl, rfl, ?_⟩)) (by rfl) (by simp only [go_sem, jE, reduceIte, jA, jM, jS, jL, jD, jB, lsTo_0, List.map_nil]; first | done | rfl) (by decide) (idB rfl)) ?_
    refine Aw.setL (l' := [(63, .t (iT (0 : Nat))), (62, .t (iT z.length)), (61, .t (strsT z)), (12, .t (.c (.h 2))), (4, .t (.c (.ph 0 0 0))), (1, .t (sT f)), (2, .t (sT t)), (3, .t (iT tm))]) (os' := [some (stO s), none, some (eRow (lsTo s f t tm z 0))]) (n' := 3) [1] (by repeat (first | exact trivial | refine ⟨SetA.same rfl, ?_⟩ | refine ⟨SetA.row rfl rfl (by decide), ?_⟩)) (by repeat (first | exact trivial | refine ⟨rfl, rfl, ?_⟩ | show SubL _ _ _ _)) (by decide) ?_
    refine Aw_loop_rw (ι := { i : Nat // i ≤ z.length }) (fun q => S [(63, .t (iT (q.1 : Nat))), (62, .t (iT z.length)), (61, .t (strsT z)), (12, .t (.c (.h 2))), (4, .t (.c (.ph 0 0 0))), (1, .t (sT f)), (2, .t (sT t)), (3, .t (iT tm))] (hpL [some (stO s), none, some (eRow (lsTo s f t tm z q.1))]) 3) (fun q => z.length - q.1) ⟨0, Nat.zero_le _⟩ ?_
    rintro ⟨i, hi⟩
    dsimp only
    by_cases hlt : i < z.length
    · have h1 : decide ((i : Int) < (z.length : Int)) = true := decide_eq_true (by omega)
      have w1 := wrap_succ hlt (by omega)
      obtain ⟨k, hx⟩ : ∃ k, z[i]? = some k := ⟨_, List.getElem?_eq_getElem hlt⟩
      have hb : ((lsTo s f t tm z i).length + 1) * 40 ≤ 140737488355328 := by have := lsTo_len s f t tm z i; omega
      have hc := lsTo_succ (s := s) (f := f) (t := t) (tm := tm) hx
      have k3 := find_ac s hs hv k (by have := keyOk_size (hzk k (List.mem_of_getElem? hx)); unfold smK; omega) tm
      unfold lsL at hc
      cases hL : findM s k tm with
      | none =>
        rw [hL] at k3 hc
        dsimp only at hc
        rw [List.append_nil] at hc
        have k3 : AC Tryz.prog 71 [stT s, sT k, iT tm] noHp 0 ⟨.tup [entT zEnt, bT false], noHp, 0⟩ := k3
        repeat (first | apply Aw_seq | apply Aw_block | apply Aw_skip | apply Aw_exit | refine Aw_condt rfl ?_ | refine Aw_condf rfl ?_ | ((first | refine qr ?_ | refine qd (by kernel_rfl) (by kernel_rfl) ?_); simp only [go_sem, jE, reduceIte, jA, jM, jS, jL, jD, jB, h1, w1, hx]) | refine dk (by kernel_rfl) ?_ | (refine qp (k3) (by simp only [go_sem, jE, reduceIte, jA, jM, jS, jL, jD, jB, h1, w1, hx]; first | done | rfl) rfl (by simp only [go_sem, Nat.reduceLT]) rfl rfl ?_; simp only [go_sem, jE, reduceIte, jA, jM, jS, jL, jD, jB, h1, w1, hx]))
        refine ⟨⟨i + 1, hlt⟩, [0, 1, 2], ?_, rwL (by repeat (first | exact trivial | refine ⟨rfl, rfl, ?_⟩)) (by rfl) (by simp only [go_sem, jE, reduceIte, jA, jM, jS, jL, jD, jB, hc]; first | done | rfl) (by decide) (idB rfl)⟩
        show z.length - (i + 1) < z.length - i; omega
      | some e =>
        rw [hL] at k3 hc
        dsimp only at hc
        have k3 : AC Tryz.prog 71 [stT s, sT k, iT tm] noHp 0 ⟨.tup [entT e, bT true], noHp, 0⟩ := k3
        cases c : e.gone
        · rw [c, if_neg (by simp)] at hc
          cases d1 : klt k f
          · cases d2 : klt t k
            · rw [if_pos (by simp [rngB, d1, d2])] at hc
              repeat (first | apply Aw_seq | apply Aw_block | apply Aw_skip | apply Aw_exit | refine Aw_condt rfl ?_ | refine Aw_condf rfl ?_ | ((first | refine qr ?_ | refine qd (by kernel_rfl) (by kernel_rfl) ?_); simp only [go_sem, jE, reduceIte, jA, jM, jS, jL, jD, jB, h1, w1, hx, hb, c, kle_not, d1, d2]) | refine dk (by kernel_rfl) ?_ | (refine qp (k3) (by simp only [go_sem, jE, reduceIte, jA, jM, jS, jL, jD, jB, h1, w1, hx, hb, c, kle_not, d1, d2]; first | done | rfl) rfl (by simp only [go_sem, Nat.reduceLT]) rfl rfl ?_; simp only [go_sem, jE, reduceIte, jA, jM, jS, jL, jD, jB, h1, w1, hx, hb, c, kle_not, d1, d2]))
              refine ⟨⟨i + 1, hlt⟩, [0, 1, 35], ?_, rwL (by repeat (first | exact trivial | refine ⟨rfl, rfl, ?_⟩)) (by rfl) (by simp only [go_sem, jE, reduceIte, jA, jM, jS, jL, jD, jB, hc, List.map_append, List.map_cons, List.map_nil, c]; first | done | rfl) (by decide) (idB rfl)⟩
              show z.length - (i + 1) < z.length - i; omega
            · rw [if_neg (by simp [rngB, d1, d2]), List.append_nil] at hc
              repeat (first | apply Aw_seq | apply Aw_block | apply Aw_skip | apply Aw_exit | refine Aw_condt rfl ?_ | refine Aw_condf rfl ?_ | ((first | refine qr ?_ | refine qd (by kernel_rfl) (by kernel_rfl) ?_); simp only [go_sem, jE, reduceIte, jA, jM, jS, jL, jD, jB, h1, w1, hx, c, kle_not, d1, d2]) | refine dk (by kernel_rfl) ?_ | (refine qp (k3) (by simp only [go_sem, jE, reduceIte, jA, jM, jS, jL, jD, jB, h1, w1, hx, c, kle_not, d1, d2]; first | done | rfl) rfl (by simp only [go_sem, Nat.reduceLT]) rfl rfl ?_; simp only [go_sem, jE, reduceIte, jA, jM, jS, jL, jD, jB, h1, w1, hx, c, kle_not, d1, d2]))
              refine ⟨⟨i + 1, hlt⟩, [0, 1, 2], ?_, rwL (by repeat (first | exact trivial | refine ⟨rfl, rfl, ?_⟩)) (by rfl) (by simp only [go_sem, jE, reduceIte, jA, jM, jS, jL, jD, jB, hc]; first | done | rfl) (by decide) (idB rfl)⟩
              show z.length - (i + 1) < z.length - i; omega
          · rw [if_neg (by simp [rngB, d1]), List.append_nil] at hc
            repeat (first | apply Aw_seq | apply Aw_block | apply Aw_skip | apply Aw_exit | refine Aw_condt rfl ?_ | refine Aw_condf rfl ?_ | ((first | refine qr ?_ | refine qd (by kernel_rfl) (by kernel_rfl) ?_); simp only [go_sem, jE, reduceIte, jA, jM, jS, jL, jD, jB, h1, w1, hx, c, kle_not, d1]) | refine dk (by kernel_rfl) ?_ | (refine qp (k3) (by simp only [go_sem, jE, reduceIte, jA, jM, jS, jL, jD, jB, h1, w1, hx, c, kle_not, d1]; first | done | rfl) rfl (by simp only [go_sem, Nat.reduceLT]) rfl rfl ?_; simp only [go_sem, jE, reduceIte, jA, jM, jS, jL, jD, jB, h1, w1, hx, c, kle_not, d1]))
            refine ⟨⟨i + 1, hlt⟩, [0, 1, 2], ?_, rwL (by repeat (first | exact trivial | refine ⟨rfl, rfl, ?_⟩)) (by rfl) (by simp only [go_sem, jE, reduceIte, jA, jM, jS, jL, jD, jB, hc]; first | done | rfl) (by decide) (idB rfl)⟩
            show z.length - (i + 1) < z.length - i; omega
        · rw [c, if_pos rfl, List.append_nil] at hc
          repeat (first | apply Aw_seq | apply Aw_block | apply Aw_skip | apply Aw_exit | refine Aw_condt rfl ?_ | refine Aw_condf rfl ?_ | ((first | refine qr ?_ | refine qd (by kernel_rfl) (by kernel_rfl) ?_); simp only [go_sem, jE, reduceIte, jA, jM, jS, jL, jD, jB, h1, w1, hx, c]) | refine dk (by kernel_rfl) ?_ | (refine qp (k3) (by simp only [go_sem, jE, reduceIte, jA, jM, jS, jL, jD, jB, h1, w1, hx, c]; first | done | rfl) rfl (by simp only [go_sem, Nat.reduceLT]) rfl rfl ?_; simp only [go_sem, jE, reduceIte, jA, jM, jS, jL, jD, jB, h1, w1, hx, c]))
          refine ⟨⟨i + 1, hlt⟩, [0, 1, 2], ?_, rwL (by repeat (first | exact trivial | refine ⟨rfl, rfl, ?_⟩)) (by rfl) (by simp only [go_sem, jE, reduceIte, jA, jM, jS, jL, jD, jB, hc]; first | done | rfl) (by decide) (idB rfl)⟩
          show z.length - (i + 1) < z.length - i; omega
    · have h1 : decide ((i : Int) < (z.length : Int)) = false := decide_eq_false (by omega)
      obtain rfl : i = z.length := by omega
      repeat (first | apply Aw_seq | apply Aw_block | apply Aw_skip | apply Aw_exit | refine Aw_condt rfl ?_ | refine Aw_condf rfl ?_ | ((first | refine qr ?_ | refine qd (by kernel_rfl) (by kernel_rfl) ?_); simp only [go_sem, jE, reduceIte, jA, jM, jS, jL, jD, jB, h1]) | refine dk (by kernel_rfl) ?_)
      exact Aw_ret (retL (M := [2]) (.inl rfl) (by simp only [go_sem, jE, reduceIte, jA, jM, jS, jL, jD, jB]; first | done | rfl) rfl rfl (by rfl) (by simp only [go_sem, jE, reduceIte, jA, jM, jS, jL, jD, jB]; first | done | rfl | (and_intros <;> rfl)) (by decide) (idB rfl))
-- idB
theorem sstoreListR_no (s : Sto) (hs : SmSt s) (f t : ByteArray) (hf : smK f) (ht : smK t) (tm : Int) (h : lsOkB s f t tm = false) : AC Tryz.prog 21 [stT s, sT f, sT t, iT tm] noHp 0 ⟨.t (.c (.h 0)), hpL [some (eRow [])], 1⟩ := by
  have k1 := sstoreOk_ac s hs
  have k2 := skeyOk_ac f hf
  have k3 := skeyOk_ac t ht
  unfold lsOkB at h
  refine AC_of Tryz.func21 rfl Tryz.ntmps21 Tryz.results21 (by kernel_rfl) rfl ?_
  simp only [List.zipIdx, List.map, Nat.zero_add, Nat.reduceAdd]
  cases c1 : storeS s
  · rw [c1] at k1
    repeat (first | apply Aw_seq | apply Aw_block | apply Aw_skip | apply Aw_exit | refine Aw_condt rfl ?_ | refine Aw_condf rfl ?_ | ((first | refine qr ?_ | refine qd (by kernel_rfl) (by kernel_rfl) ?_); simp only [go_sem, jE, reduceIte, jA, jM, jS, jL, jD, jB]) | refine dk (by kernel_rfl) ?_ | (refine qp (k1) (by simp only [go_sem, jE, reduceIte, jA, jM, jS, jL, jD, jB]; first | done | rfl) rfl (by simp only [go_sem, Nat.reduceLT]) rfl rfl ?_; simp only [go_sem, jE, reduceIte, jA, jM, jS, jL, jD, jB]))
    exact Aw_ret (retL (M := [2]) (.inl rfl) (by simp only [go_sem, jE, reduceIte, jA, jM, jS, jL, jD, jB]; first | done | rfl) rfl rfl (by rfl) (by simp only [go_sem, jE, reduceIte, jA, jM, jS, jL, jD, jB]; first | done | rfl | (and_intros <;> rfl)) (by decide) (idB rfl))
  rw [c1] at k1
  cases c2 : keyOk f
  · rw [c2] at k2
    repeat (first | apply Aw_seq | apply Aw_block | apply Aw_skip | apply Aw_exit | refine Aw_condt rfl ?_ | refine Aw_condf rfl ?_ | ((first | refine qr ?_ | refine qd (by kernel_rfl) (by kernel_rfl) ?_); simp only [go_sem, jE, reduceIte, jA, jM, jS, jL, jD, jB]) | refine dk (by kernel_rfl) ?_ | (refine qp (k1) (by simp only [go_sem, jE, reduceIte, jA, jM, jS, jL, jD, jB]; first | done | rfl) rfl (by simp only [go_sem, Nat.reduceLT]) rfl rfl ?_; simp only [go_sem, jE, reduceIte, jA, jM, jS, jL, jD, jB]) | (refine qp (k2) (by simp only [go_sem, jE, reduceIte, jA, jM, jS, jL, jD, jB]; first | done | rfl) rfl (by simp only [go_sem, Nat.reduceLT]) rfl rfl ?_; simp only [go_sem, jE, reduceIte, jA, jM, jS, jL, jD, jB]))
    exact Aw_ret (retL (M := [2]) (.inl rfl) (by simp only [go_sem, jE, reduceIte, jA, jM, jS, jL, jD, jB]; first | done | rfl) rfl rfl (by rfl) (by simp only [go_sem, jE, reduceIte, jA, jM, jS, jL, jD, jB]; first | done | rfl | (and_intros <;> rfl)) (by decide) (idB rfl))
  rw [c2] at k2
  cases c3 : keyOk t
  · rw [c3] at k3
    repeat (first | apply Aw_seq | apply Aw_block | apply Aw_skip | apply Aw_exit | refine Aw_condt rfl ?_ | refine Aw_condf rfl ?_ | ((first | refine qr ?_ | refine qd (by kernel_rfl) (by kernel_rfl) ?_); simp only [go_sem, jE, reduceIte, jA, jM, jS, jL, jD, jB]) | refine dk (by kernel_rfl) ?_ | (refine qp (k1) (by simp only [go_sem, jE, reduceIte, jA, jM, jS, jL, jD, jB]; first | done | rfl) rfl (by simp only [go_sem, Nat.reduceLT]) rfl rfl ?_; simp only [go_sem, jE, reduceIte, jA, jM, jS, jL, jD, jB]) | (refine qp (k2) (by simp only [go_sem, jE, reduceIte, jA, jM, jS, jL, jD, jB]; first | done | rfl) rfl (by simp only [go_sem, Nat.reduceLT]) rfl rfl ?_; simp only [go_sem, jE, reduceIte, jA, jM, jS, jL, jD, jB]) | (refine qp (k3) (by simp only [go_sem, jE, reduceIte, jA, jM, jS, jL, jD, jB]; first | done | rfl) rfl (by simp only [go_sem, Nat.reduceLT]) rfl rfl ?_; simp only [go_sem, jE, reduceIte, jA, jM, jS, jL, jD, jB]))
    exact Aw_ret (retL (M := [2]) (.inl rfl) (by simp only [go_sem, jE, reduceIte, jA, jM, jS, jL, jD, jB]; first | done | rfl) rfl rfl (by rfl) (by simp only [go_sem, jE, reduceIte, jA, jM, jS, jL, jD, jB]; first | done | rfl | (and_intros <;> rfl)) (by decide) (idB rfl))
  rw [c3] at k3
  have k4 := sknown_ac s tm (by have := (vst_of c1).tl; omega)
  have c4 : knownM s tm = false := by rw [c1, c2, c3] at h; simpa using h
  rw [c4] at k4
  by_cases hft : f = t
  · subst hft
    repeat (first | apply Aw_seq | apply Aw_block | apply Aw_skip | apply Aw_exit | refine Aw_condt rfl ?_ | refine Aw_condf rfl ?_ | ((first | refine qr ?_ | refine qd (by kernel_rfl) (by kernel_rfl) ?_); simp only [go_sem, jE, reduceIte, jA, jM, jS, jL, jD, jB]) | refine dk (by kernel_rfl) ?_ | (refine qp (k1) (by simp only [go_sem, jE, reduceIte, jA, jM, jS, jL, jD, jB]; first | done | rfl) rfl (by simp only [go_sem, Nat.reduceLT]) rfl rfl ?_; simp only [go_sem, jE, reduceIte, jA, jM, jS, jL, jD, jB]) | (refine qp (k2) (by simp only [go_sem, jE, reduceIte, jA, jM, jS, jL, jD, jB]; first | done | rfl) rfl (by simp only [go_sem, Nat.reduceLT]) rfl rfl ?_; simp only [go_sem, jE, reduceIte, jA, jM, jS, jL, jD, jB]) | (refine qp (k4) (by simp only [go_sem, jE, reduceIte, jA, jM, jS, jL, jD, jB]; first | done | rfl) rfl (by simp only [go_sem, Nat.reduceLT]) rfl rfl ?_; simp only [go_sem, jE, reduceIte, jA, jM, jS, jL, jD, jB]))
    exact Aw_ret (retL (M := [2]) (.inl rfl) (by simp only [go_sem, jE, reduceIte, jA, jM, jS, jL, jD, jB]; first | done | rfl) rfl rfl (by rfl) (by simp only [go_sem, jE, reduceIte, jA, jM, jS, jL, jD, jB]; first | done | rfl | (and_intros <;> rfl)) (by decide) (idB rfl))
  · repeat (first | apply Aw_seq | apply Aw_block | apply Aw_skip | apply Aw_exit | refine Aw_condt rfl ?_ | refine Aw_condf rfl ?_ | ((first | refine qr ?_ | refine qd (by kernel_rfl) (by kernel_rfl) ?_); simp only [go_sem, jE, reduceIte, jA, jM, jS, jL, jD, jB]) | refine dk (by kernel_rfl) ?_ | (refine qp (k1) (by simp only [go_sem, jE, reduceIte, jA, jM, jS, jL, jD, jB]; first | done | rfl) rfl (by simp only [go_sem, Nat.reduceLT]) rfl rfl ?_; simp only [go_sem, jE, reduceIte, jA, jM, jS, jL, jD, jB]) | (refine qp (k2) (by simp only [go_sem, jE, reduceIte, jA, jM, jS, jL, jD, jB]; first | done | rfl) rfl (by simp only [go_sem, Nat.reduceLT]) rfl rfl ?_; simp only [go_sem, jE, reduceIte, jA, jM, jS, jL, jD, jB]) | (refine qp (k3) (by simp only [go_sem, jE, reduceIte, jA, jM, jS, jL, jD, jB]; first | done | rfl) rfl (by simp only [go_sem, Nat.reduceLT]) rfl rfl ?_; simp only [go_sem, jE, reduceIte, jA, jM, jS, jL, jD, jB]) | (refine qp (k4) (by simp only [go_sem, jE, reduceIte, jA, jM, jS, jL, jD, jB]; first | done | rfl) rfl (by simp only [go_sem, Nat.reduceLT]) rfl rfl ?_; simp only [go_sem, jE, reduceIte, jA, jM, jS, jL, jD, jB]))
    exact Aw_ret (retL (M := [2]) (.inl rfl) (by simp only [go_sem, jE, reduceIte, jA, jM, jS, jL, jD, jB]; first | done | rfl) rfl rfl (by rfl) (by simp only [go_sem, jE, reduceIte, jA, jM, jS, jL, jD, jB]; first | done | rfl | (and_intros <;> rfl)) (by decide) (idB rfl))
theorem sstoreList_no (s : Sto) (hs : SmSt s) (f t : ByteArray) (hf : smK f) (ht : smK t) (tm : Int) (h : lsOkB s f t tm = false) : AC Tryz.prog 21 [stT s, sT f, sT t, iT tm] noHp 0 ⟨.t (runT []), noHp, 0⟩ := AC.settle0 [0] (sstoreListR_no s hs f t hf ht tm h) (SetC.row0 rfl rfl) rfl
theorem sstoreListR_ok (s : Sto) (hs : SmSt s) (f t : ByteArray) (hf : smK f) (ht : smK t) (tm : Int) (h : lsOkB s f t tm = true) : AC Tryz.prog 21 [stT s, sT f, sT t, iT tm] noHp 0 ⟨.t (.c (.h 0)), hpL [some (eRow (lsTo s f t tm (lsZ s f t) (lsZ s f t).length))], 1⟩ := by
  have k1 := sstoreOk_ac s hs
  have k2 := skeyOk_ac f hf
  have k3 := skeyOk_ac t ht
  unfold lsOkB at h
  simp only [Bool.and_eq_true] at h
  obtain ⟨⟨⟨c1, c2⟩, c3⟩, c4⟩ := h
  have hv := vst_of c1
  have hll := hv.ll
  have hsl := hv.sl
  have k4 := sknown_ac s tm (by have := hv.tl; omega)
  rw [c1] at k1
  rw [c2] at k2
  rw [c3] at k3
  rw [c4] at k4
  have k5 := skeysOfS_ac s.top hs.top
  rw [← lsS_0 c1 f t] at k5
  refine AC_of Tryz.func21 rfl Tryz.ntmps21 Tryz.results21 (by kernel_rfl) rfl ?_
  simp only [List.zipIdx, List.map, Nat.zero_add, Nat.reduceAdd]
  repeat (first | apply Aw_seq | apply Aw_block | apply Aw_skip | apply Aw_exit | refine Aw_condt rfl ?_ | refine Aw_condf rfl ?_ | ((first | refine qr ?_ | refine qd (by kernel_rfl) (by kernel_rfl) ?_); simp only [go_sem, jE, reduceIte, jA, jM, jS, jL, jD, jB]) | refine dk (by kernel_rfl) ?_ | (refine qp (k1) (by simp only [go_sem, jE, reduceIte, jA, jM, jS, jL, jD, jB]; first | done | rfl) rfl (by simp only [go_sem, Nat.reduceLT]) rfl rfl ?_; simp only [go_sem, jE, reduceIte, jA, jM, jS, jL, jD, jB]) | (refine qp (k2) (by simp only [go_sem, jE, reduceIte, jA, jM, jS, jL, jD, jB]; first | done | rfl) rfl (by simp only [go_sem, Nat.reduceLT]) rfl rfl ?_; simp only [go_sem, jE, reduceIte, jA, jM, jS, jL, jD, jB]) | (refine qp (k3) (by simp only [go_sem, jE, reduceIte, jA, jM, jS, jL, jD, jB]; first | done | rfl) rfl (by simp only [go_sem, Nat.reduceLT]) rfl rfl ?_; simp only [go_sem, jE, reduceIte, jA, jM, jS, jL, jD, jB]) | (refine qp (k4) (by simp only [go_sem, jE, reduceIte, jA, jM, jS, jL, jD, jB]; first | done | rfl) rfl (by simp only [go_sem, Nat.reduceLT]) rfl rfl ?_; simp only [go_sem, jE, reduceIte, jA, jM, jS, jL, jD, jB]) | (refine qp (k5) (by simp only [go_sem, jE, reduceIte, jA, jM, jS, jL, jD, jB]; first | done | rfl) rfl (by simp only [go_sem, Nat.reduceLT]) rfl rfl ?_; simp only [go_sem, jE, reduceIte, jA, jM, jS, jL, jD, jB]))
  refine Aw.rw (rwL (l' := [(11, .t (iT (0 : Nat))), (10, .t (strsT (lsS s f t 0))), (9, .t (.c (.h 1))), (4, .t (.c (.ph 0 0 0))), (1, .t (sT f)), (2, .t (sT t)), (3, .t (iT tm))]) (os := [some (stO s), some (eRow [])]) (M := [0, 2]) (n' := 2) (by repeat (first | exact trivial | refine ⟨rfl, rfl, ?_⟩)) (by rfl) (by simp only [go_sem, jE, reduceIte, jA, jM, jS, jL, jD, jB, List.map_nil]; first | done | rfl) (by decide) (idB rfl)) ?_
  refine Aw_loop_rw (ι := { i : Nat // i ≤ 3 }) (fun q => S [(11, .t (iT (q.1 : Nat))), (10, .t (strsT (lsS s f t q.1))), (9, .t (.c (.h 1))), (4, .t (.c (.ph 0 0 0))), (1, .t (sT f)), (2, .t (sT t)), (3, .t (iT tm))] (hpL [some (stO s), some (eRow [])]) 2) (fun q => 3 - q.1) ⟨0, Nat.zero_le _⟩ ?_
  rintro ⟨i, hi⟩
  dsimp only
  by_cases hlt : i < 3
  · have g1 : decide ((i : Int) < (s.levels.length : Int)) = true := decide_eq_true (by omega)
    have w := wrap_succ hlt (by omega)
    obtain ⟨r, hr⟩ : ∃ r, s.levels[i]? = some r := ⟨_, List.getElem?_eq_getElem (by omega)⟩
    obtain ⟨x, hx⟩ : ∃ x, s.sieves[i]? = some x := ⟨_, List.getElem?_eq_getElem (by omega)⟩
    have hxl : i < s.sieves.length := by omega
    obtain ⟨m1, m2⟩ := hv.me hr hx
    have k6 := smeets_ac m1 m2 f t c2 c3
    have k7 := skeysOfS_ac r (hs.lev r (List.mem_of_getElem? hr))
    cases c5 : meetsM s.keep.toNat (keysM r) f t
    · rw [c5] at k6
      have hsu := lsS_no hr c5
      repeat (first | apply Aw_seq | apply Aw_block | apply Aw_skip | apply Aw_exit | refine Aw_condt rfl ?_ | refine Aw_condf rfl ?_ | ((first | refine qr ?_ | refine qd (by kernel_rfl) (by kernel_rfl) ?_); simp only [go_sem, jE, reduceIte, jA, jM, jS, jL, jD, jB, g1, w, hr, hx, hxl]) | refine dk (by kernel_rfl) ?_ | (refine qp (k6) (by simp only [go_sem, jE, reduceIte, jA, jM, jS, jL, jD, jB, g1, w, hr, hx, hxl]; first | done | rfl) rfl (by simp only [go_sem, Nat.reduceLT]) rfl rfl ?_; simp only [go_sem, jE, reduceIte, jA, jM, jS, jL, jD, jB, g1, w, hr, hx, hxl]))
      refine ⟨⟨i + 1, hlt⟩, [0, 1], ?_, ?_⟩
      rotate_left
      dsimp only
      rw [hsu]
      exact rwL (by repeat (first | exact trivial | refine ⟨rfl, rfl, ?_⟩)) (by rfl) (by simp only [go_sem, jE, reduceIte, jA, jM, jS, jL, jD, jB]; first | done | rfl) (by decide) (idB rfl)
      show 3 - (i + 1) < 3 - i; omega
    · rw [c5] at k6
      have hsu := lsI_end hr c5
      have hmf := keysM_few ((storeS_runs c1).2 r (List.mem_of_getElem? hr))
      have hln := fun n => lsI_len c1 f t (show i ≤ 3 by omega) (keysM r) hmf n
      have hi0 := lsI_0 s f t i (keysM r)
      generalize keysM r = m at k7 hsu hmf hln hi0
      repeat (first | apply Aw_seq | apply Aw_block | apply Aw_skip | apply Aw_exit | refine Aw_condt rfl ?_ | refine Aw_condf rfl ?_ | ((first | refine qr ?_ | refine qd (by kernel_rfl) (by kernel_rfl) ?_); simp only [go_sem, jE, reduceIte, jA, jM, jS, jL, jD, jB, g1, w, hr, hx, hxl]) | refine dk (by kernel_rfl) ?_ | (refine qp (k6) (by simp only [go_sem, jE, reduceIte, jA, jM, jS, jL, jD, jB, g1, w, hr, hx, hxl]; first | done | rfl) rfl (by simp only [go_sem, Nat.reduceLT]) rfl rfl ?_; simp only [go_sem, jE, reduceIte, jA, jM, jS, jL, jD, jB, g1, w, hr, hx, hxl]) | (refine qp (k7) (by simp only [go_sem, jE, reduceIte, jA, jM, jS, jL, jD, jB, g1, w, hr, hx, hxl]; first | done | rfl) rfl (by simp only [go_sem, Nat.reduceLT]) rfl rfl ?_; simp only [go_sem, jE, reduceIte, jA, jM, jS, jL, jD, jB, g1, w, hr, hx, hxl]))
      refine Aw.rw (rwL (l' := [(13, .t (iT (0 : Nat))), (12, .t (strsT m)), (11, .t (iT (i : Nat))), (10, .t (strsT (lsI s f t i m 0))), (9, .t (.c (.h 1))), (4, .t (.c (.ph 0 0 0))), (1, .t (sT f)), (2, .t (sT t)), (3, .t (iT tm))]) (os := [some (stO s), some (eRow [])]) (M := [0, 1]) (n' := 2) (by repeat (first | exact trivial | refine ⟨rfl, rfl, ?_⟩)) (by rfl) (by simp only [go_sem, jE, reduceIte, jA, jM, jS, jL, jD, jB, List.map_nil]; first | done | rfl) (by decide) (idB rfl)) ?_
      refine Aw_loop_rw (ι := { n : Nat // n ≤ m.length }) (fun q => S [(13, .t (iT (q.1 : Nat))), (12, .t (strsT m)), (11, .t (iT (i : Nat))), (10, .t (strsT (lsI s f t i m q.1))), (9, .t (.c (.h 1))), (4, .t (.c (.ph 0 0 0))), (1, .t (sT f)), (2, .t (sT t)), (3, .t (iT tm))] (hpL [some (stO s), some (eRow [])]) 2) (fun q => m.length - q.1) ⟨0, Nat.zero_le _⟩ ?_
      rintro ⟨n, hn⟩
      dsimp only
      by_cases hnl : n < m.length
      · have h1 : decide ((n : Int) < (m.length : Int)) = true := decide_eq_true (by omega)
        have w1 := wrap_succ hnl (by omega)
        obtain ⟨k, hk⟩ : ∃ k, m[n]? = some k := ⟨_, List.getElem?_eq_getElem hnl⟩
        have hsk := lsI_succ (s := s) (f := f) (t := t) (i := i) hk
        have k8 := l2Put_ac (lsI s f t i m n) k (by have := hln n; omega)
        rw [← hsk] at k8
        repeat (first | apply Aw_seq | apply Aw_block | apply Aw_skip | apply Aw_exit | refine Aw_condt rfl ?_ | refine Aw_condf rfl ?_ | ((first | refine qr ?_ | refine qd (by kernel_rfl) (by kernel_rfl) ?_); simp only [go_sem, jE, reduceIte, jA, jM, jS, jL, jD, jB, h1, w1, hk]) | refine dk (by kernel_rfl) ?_ | (refine qp (k8) (by simp only [go_sem, jE, reduceIte, jA, jM, jS, jL, jD, jB, h1, w1, hk]; first | done | rfl) rfl (by simp only [go_sem, Nat.reduceLT]) rfl rfl ?_; simp only [go_sem, jE, reduceIte, jA, jM, jS, jL, jD, jB, h1, w1, hk]))
        refine ⟨⟨n + 1, hnl⟩, [0, 1], ?_, rwL (by repeat (first | exact trivial | refine ⟨rfl, rfl, ?_⟩)) (by rfl) (by simp only [go_sem, jE, reduceIte, jA, jM, jS, jL, jD, jB, List.map_nil]; first | done | rfl) (by decide) (idB rfl)⟩
        show m.length - (n + 1) < m.length - n; omega
      · have h1 : decide ((n : Int) < (m.length : Int)) = false := decide_eq_false (by omega)
        obtain rfl : n = m.length := by omega
        rw [hsu]
        repeat (first | apply Aw_seq | apply Aw_block | apply Aw_skip | apply Aw_exit | refine Aw_condt rfl ?_ | refine Aw_condf rfl ?_ | ((first | refine qr ?_ | refine qd (by kernel_rfl) (by kernel_rfl) ?_); simp only [go_sem, jE, reduceIte, jA, jM, jS, jL, jD, jB, h1, w]) | refine dk (by kernel_rfl) ?_)
        refine ⟨⟨i + 1, hlt⟩, [0, 1], ?_, rwL (by repeat (first | exact trivial | refine ⟨rfl, rfl, ?_⟩)) (by rfl) (by simp only [go_sem, jE, reduceIte, jA, jM, jS, jL, jD, jB, List.map_nil]; first | done | rfl) (by decide) (idB rfl)⟩
        show 3 - (i + 1) < 3 - i; omega
  · have g1 : decide ((i : Int) < (s.levels.length : Int)) = false := decide_eq_false (by omega)
    obtain rfl : i = 3 := by omega
    have hz := lsZ_len c1 f t
    have hzk : ∀ k ∈ lsZ s f t, keyOk k = true := fun k hk => lsZ_key c1 hk
    rw [show lsS s f t 3 = lsZ s f t from rfl]
    generalize lsZ s f t = z at hz hzk ⊢
    repeat (first | apply Aw_seq | apply Aw_block | apply Aw_skip | apply Aw_exit | refine Aw_condt rfl ?_ | refine Aw_condf rfl ?_ | ((first | refine qr ?_ | refine qd (by kernel_rfl) (by kernel_rfl) ?_); simp only [go_sem, jE, reduceIte, jA, jM, jS, jL, jD, jB, g1]) | refine dk (by kernel_rfl) ?_)
    refine Aw.rw (rwL (l' := [(14, .t (iT (0 : Nat))), (10, .t (strsT z)), (9, .t (.c (.h 1))), (4, .t (.c (.ph 0 0 0))), (1, .t (sT f)), (2, .t (sT t)), (3, .t (iT tm))]) (os := [some (stO s), some (eRow (lsTo s f t tm z 0))]) (M := [0, 1]) (n' := 2) (by repeat (first | exact trivial | refine ⟨rfl, rfl, ?_⟩)) (by rfl) (by simp only [go_sem, jE, reduceIte, jA, jM, jS, jL, jD, jB, lsTo_0, List.map_nil]; first | done | rfl) (by decide) (idB rfl)) ?_
    refine Aw_loop_rw (ι := { i : Nat // i ≤ z.length }) (fun q => S [(14, .t (iT (q.1 : Nat))), (10, .t (strsT z)), (9, .t (.c (.h 1))), (4, .t (.c (.ph 0 0 0))), (1, .t (sT f)), (2, .t (sT t)), (3, .t (iT tm))] (hpL [some (stO s), some (eRow (lsTo s f t tm z q.1))]) 2) (fun q => z.length - q.1) ⟨0, Nat.zero_le _⟩ ?_
    rintro ⟨i, hi⟩
    dsimp only
    by_cases hlt : i < z.length
    · have h1 : decide ((i : Int) < (z.length : Int)) = true := decide_eq_true (by omega)
      have w1 := wrap_succ hlt (by omega)
      obtain ⟨k, hx⟩ : ∃ k, z[i]? = some k := ⟨_, List.getElem?_eq_getElem hlt⟩
      have hb : ((lsTo s f t tm z i).length + 1) * 40 ≤ 140737488355328 := by have := lsTo_len s f t tm z i; omega
      have hc := lsTo_succ (s := s) (f := f) (t := t) (tm := tm) hx
      have k3 := sget_ac s hs hv k (hzk k (List.mem_of_getElem? hx)) tm
      unfold lsL at hc
      cases hL : findM s k tm with
      | none =>
        rw [hL] at k3 hc
        dsimp only at hc
        rw [List.append_nil] at hc
        have k3 : AC Tryz.prog 64 [stT s, sT k, iT tm] noHp 0 ⟨.tup [entT zEnt, bT false], noHp, 0⟩ := k3
        repeat (first | apply Aw_seq | apply Aw_block | apply Aw_skip | apply Aw_exit | refine Aw_condt rfl ?_ | refine Aw_condf rfl ?_ | ((first | refine qr ?_ | refine qd (by kernel_rfl) (by kernel_rfl) ?_); simp only [go_sem, jE, reduceIte, jA, jM, jS, jL, jD, jB, h1, w1, hx]) | refine dk (by kernel_rfl) ?_ | (refine qp (k3) (by simp only [go_sem, jE, reduceIte, jA, jM, jS, jL, jD, jB, h1, w1, hx]; first | done | rfl) rfl (by simp only [go_sem, Nat.reduceLT]) rfl rfl ?_; simp only [go_sem, jE, reduceIte, jA, jM, jS, jL, jD, jB, h1, w1, hx]))
        refine ⟨⟨i + 1, hlt⟩, [0, 1], ?_, rwL (by repeat (first | exact trivial | refine ⟨rfl, rfl, ?_⟩)) (by rfl) (by simp only [go_sem, jE, reduceIte, jA, jM, jS, jL, jD, jB, hc]; first | done | rfl) (by decide) (idB rfl)⟩
        show z.length - (i + 1) < z.length - i; omega
      | some e =>
        rw [hL] at k3 hc
        dsimp only at hc
        have k3 : AC Tryz.prog 64 [stT s, sT k, iT tm] noHp 0 ⟨.tup [entT e, bT true], noHp, 0⟩ := k3
        cases c : e.gone
        · rw [c, if_neg (by simp)] at hc
          cases d1 : klt k f
          · cases d2 : klt t k
            · rw [if_pos (by simp [rngB, d1, d2])] at hc
              repeat (first | apply Aw_seq | apply Aw_block | apply Aw_skip | apply Aw_exit | refine Aw_condt rfl ?_ | refine Aw_condf rfl ?_ | ((first | refine qr ?_ | refine qd (by kernel_rfl) (by kernel_rfl) ?_); simp only [go_sem, jE, reduceIte, jA, jM, jS, jL, jD, jB, h1, w1, hx, hb, c, kle_not, d1, d2]) | refine dk (by kernel_rfl) ?_ | (refine qp (k3) (by simp only [go_sem, jE, reduceIte, jA, jM, jS, jL, jD, jB, h1, w1, hx, hb, c, kle_not, d1, d2]; first | done | rfl) rfl (by simp only [go_sem, Nat.reduceLT]) rfl rfl ?_; simp only [go_sem, jE, reduceIte, jA, jM, jS, jL, jD, jB, h1, w1, hx, hb, c, kle_not, d1, d2]))
              refine ⟨⟨i + 1, hlt⟩, [0, 43], ?_, rwL (by repeat (first | exact trivial | refine ⟨rfl, rfl, ?_⟩)) (by rfl) (by simp only [go_sem, jE, reduceIte, jA, jM, jS, jL, jD, jB, hc, List.map_append, List.map_cons, List.map_nil, c]; first | done | rfl) (by decide) (idB rfl)⟩
              show z.length - (i + 1) < z.length - i; omega
            · rw [if_neg (by simp [rngB, d1, d2]), List.append_nil] at hc
              repeat (first | apply Aw_seq | apply Aw_block | apply Aw_skip | apply Aw_exit | refine Aw_condt rfl ?_ | refine Aw_condf rfl ?_ | ((first | refine qr ?_ | refine qd (by kernel_rfl) (by kernel_rfl) ?_); simp only [go_sem, jE, reduceIte, jA, jM, jS, jL, jD, jB, h1, w1, hx, c, kle_not, d1, d2]) | refine dk (by kernel_rfl) ?_ | (refine qp (k3) (by simp only [go_sem, jE, reduceIte, jA, jM, jS, jL, jD, jB, h1, w1, hx, c, kle_not, d1, d2]; first | done | rfl) rfl (by simp only [go_sem, Nat.reduceLT]) rfl rfl ?_; simp only [go_sem, jE, reduceIte, jA, jM, jS, jL, jD, jB, h1, w1, hx, c, kle_not, d1, d2]))
              refine ⟨⟨i + 1, hlt⟩, [0, 1], ?_, rwL (by repeat (first | exact trivial | refine ⟨rfl, rfl, ?_⟩)) (by rfl) (by simp only [go_sem, jE, reduceIte, jA, jM, jS, jL, jD, jB, hc]; first | done | rfl) (by decide) (idB rfl)⟩
              show z.length - (i + 1) < z.length - i; omega
          · rw [if_neg (by simp [rngB, d1]), List.append_nil] at hc
            repeat (first | apply Aw_seq | apply Aw_block | apply Aw_skip | apply Aw_exit | refine Aw_condt rfl ?_ | refine Aw_condf rfl ?_ | ((first | refine qr ?_ | refine qd (by kernel_rfl) (by kernel_rfl) ?_); simp only [go_sem, jE, reduceIte, jA, jM, jS, jL, jD, jB, h1, w1, hx, c, kle_not, d1]) | refine dk (by kernel_rfl) ?_ | (refine qp (k3) (by simp only [go_sem, jE, reduceIte, jA, jM, jS, jL, jD, jB, h1, w1, hx, c, kle_not, d1]; first | done | rfl) rfl (by simp only [go_sem, Nat.reduceLT]) rfl rfl ?_; simp only [go_sem, jE, reduceIte, jA, jM, jS, jL, jD, jB, h1, w1, hx, c, kle_not, d1]))
            refine ⟨⟨i + 1, hlt⟩, [0, 1], ?_, rwL (by repeat (first | exact trivial | refine ⟨rfl, rfl, ?_⟩)) (by rfl) (by simp only [go_sem, jE, reduceIte, jA, jM, jS, jL, jD, jB, hc]; first | done | rfl) (by decide) (idB rfl)⟩
            show z.length - (i + 1) < z.length - i; omega
        · rw [c, if_pos rfl, List.append_nil] at hc
          repeat (first | apply Aw_seq | apply Aw_block | apply Aw_skip | apply Aw_exit | refine Aw_condt rfl ?_ | refine Aw_condf rfl ?_ | ((first | refine qr ?_ | refine qd (by kernel_rfl) (by kernel_rfl) ?_); simp only [go_sem, jE, reduceIte, jA, jM, jS, jL, jD, jB, h1, w1, hx, c]) | refine dk (by kernel_rfl) ?_ | (refine qp (k3) (by simp only [go_sem, jE, reduceIte, jA, jM, jS, jL, jD, jB, h1, w1, hx, c]; first | done | rfl) rfl (by simp only [go_sem, Nat.reduceLT]) rfl rfl ?_; simp only [go_sem, jE, reduceIte, jA, jM, jS, jL, jD, jB, h1, w1, hx, c]))
          refine ⟨⟨i + 1, hlt⟩, [0, 1], ?_, rwL (by repeat (first | exact trivial | refine ⟨rfl, rfl, ?_⟩)) (by rfl) (by simp only [go_sem, jE, reduceIte, jA, jM, jS, jL, jD, jB, hc]; first | done | rfl) (by decide) (idB rfl)⟩
          show z.length - (i + 1) < z.length - i; omega
    · have h1 : decide ((i : Int) < (z.length : Int)) = false := decide_eq_false (by omega)
      obtain rfl : i = z.length := by omega
      repeat (first | apply Aw_seq | apply Aw_block | apply Aw_skip | apply Aw_exit | refine Aw_condt rfl ?_ | refine Aw_condf rfl ?_ | ((first | refine qr ?_ | refine qd (by kernel_rfl) (by kernel_rfl) ?_); simp only [go_sem, jE, reduceIte, jA, jM, jS, jL, jD, jB, h1]) | refine dk (by kernel_rfl) ?_)
      exact Aw_ret (retL (M := [1]) (.inl rfl) (by simp only [go_sem, jE, reduceIte, jA, jM, jS, jL, jD, jB]; first | done | rfl) rfl rfl (by rfl) (by simp only [go_sem, jE, reduceIte, jA, jM, jS, jL, jD, jB]; first | done | rfl | (and_intros <;> rfl)) (by decide) (idB rfl))
theorem sstoreList_ok (s : Sto) (hs : SmSt s) (f t : ByteArray) (hf : smK f) (ht : smK t) (tm : Int) (h : lsOkB s f t tm = true) : AC Tryz.prog 21 [stT s, sT f, sT t, iT tm] noHp 0 ⟨.t (runT (lsTo s f t tm (lsZ s f t) (lsZ s f t).length)), noHp, 0⟩ := AC.settle0 [0] (sstoreListR_ok s hs f t hf ht tm h) (SetC.row0 rfl rfl) rfl
-- idB
def Fw (s : Sto) : Prop := ∀ x ∈ s.sieves, x.rests.length ≤ 400
/-- What is known of a store behind an operation. -/
structure OutB (s : Sto) : Prop where
  st : SmSt s
  sm : SmH s
  tp : s.top.length ≤ 5
  fw : Fw s
theorem OutB.far {s : Sto} (h : OutB s) : farT s := by
  have h1 := h.sm.ll; have h2 := h.sm.sl; have h3 := h.sm.tl; have h4 := h.tp
  exact ⟨by omega, by omega, fun e he => by have := (h.sm.lev e he).2; omega, by omega, fun e he => by have := h.fw e he; omega, by omega⟩
theorem OutB.cnt {top a b c : List Ent} {x y z : Sve} {keep time : Int} {ts : List Int} (h : OutB ⟨top, [a, b, c], [x, y, z], keep, time, ts⟩) : cntS 1 ⟨top, [a, b, c], [x, y, z], keep, time, ts⟩ ≤ 1099511627776 := by
  have h1 : top.length ≤ 5 := h.tp
  have h2 := (h.sm.lev a (by simp)).2
  have h3 := (h.sm.lev b (by simp)).2
  have h4 := (h.sm.lev c (by simp)).2
  have h5 := h.fw x (by simp)
  have h6 := h.fw y (by simp)
  have h7 := h.fw z (by simp)
  have h8 : ts.length ≤ 1000 := h.sm.tl
  show 1 + 4 * top.length + 4 * a.length + 4 * b.length + 4 * c.length + 4 + x.rests.length + 4 + y.rests.length + 4 + z.rests.length + ts.length ≤ 1099511627776
  omega
theorem hpN10 : hpL [none, none, none, none, none, none, none, none, none, none] = noHp := by
  funext m
  unfold hpL
  rcases m with _ | _ | _ | _ | _ | _ | _ | _ | _ | _ | m <;> rfl
theorem mark_none (top a b c : List Ent) (x y z : Sve) (keep time : Int) (ts : List Int) (hq : cntS 1 ⟨top, [a, b, c], [x, y, z], keep, time, ts⟩ ≤ 1099511627776) : ∃ n : Nat,
    AC Tryz.prog 13 [.agg [.h 0, .h 1, .h 2, .d (.s (.int .i64 keep)), .d (.s (.int .i64 time)), .h 3], iT 1] (hpL (cloS top a b c x y z ts)) 10 ⟨.t (iT (n : Nat)), hpL [none, none, none, none, none, none, none, none, none, none], 10⟩ :=
  ⟨_, by rw [hpN10]; exact AC.drop (markStoreO_ac top a b c x y z keep time ts 1 hq) rfl (Nat.le_refl _)⟩
@[simp] theorem flat_svN (x : Sve) (j : Nat) : (svN x j).all CV.flat = true := rfl
-- idB
theorem eqEntryA_ac : AC Tryz.prog 23 [nilE, runT []] noHp 0 ⟨.t (bT true), noHp, 0⟩ :=
  AC.nilL (eqEntryS_ac [] (by simp)) (.cons (NilC.nil _) (.cons (NilT.refl _) .nil))
theorem markEntryA_ac (k : Nat) : AC Tryz.prog 24 [nilE, iT k] noHp 0 ⟨.t (iT k), noHp, 0⟩ := AC.nilL (markEntry0_ac k) (.cons (NilC.nil _) (.cons (NilT.refl _) .nil))
theorem heldEntryA_ac (k : Nat) (hk : k ≤ 1099511627776) : AC Tryz.prog 25 [nilE, iT k] noHp 0 ⟨.t (iT k), noHp, 0⟩ := AC.nilL (heldEntry0_ac k hk) (.cons (NilC.nil _) (.cons (NilT.refl _) .nil))
/-- Behind the law's own store: its argument, and the store, under the first names. -/
theorem rwLaw2 {l l' : List (Nat × AV)} {hp : Hp} {n a p : Nat} {s : Sto} {e1 e2 : Nat} (hap : a < p) (hA : hp a = some (sO e1 s)) (hC : hp (p + gK s) = some ⟨e2, 6, false, [gC p s]⟩) (hG : GSt hp p s) (hk : 2 + gK s ≤ 10000000)
    (h : ChkB ([a, p + gK s] ++ List.range' p (gK s)) 2 l l') : Rw 0 ([a, p + gK s] ++ List.range' p (gK s)) (S l hp n) (S l' (upd (upd (newG 2 s) 0 (some (sO e1 s))) 1 (some ⟨e2, 6, false, [gC 2 s]⟩)) 10000000) := by
  have hl : ([a, p + gK s] ++ List.range' p (gK s)).length = 2 + gK s := by simp; omega
  have hn : ([a, p + gK s] ++ List.range' p (gK s)).Nodup := by
    rw [List.nodup_append]
    refine ⟨by simp; omega, List.nodup_range', fun x hx y hy e => ?_⟩
    have := List.mem_range'_1.1 hy
    simp at hx
    omega
  have hr : ∀ j, j < gK s → pin ([a, p + gK s] ++ List.range' p (gK s)) (2 + j) = p + j := fun j hj => by rw [pin_r (a := [a, p + gK s]) (n := 2) rfl, pin_g hj]
  have hK : gK s = s.levels.length + s.sieves.length + 4 := rfl
  refine rwM (chkB (by omega) h) (selPut (selPut (selBase hG hn) hn (by omega) hA ?_) hn (by omega) ?_ ?_) (by omega) fun m hm => absurd hm (by omega)
  · rfl
  · have : (⟨e2, 6, false, [gC 2 s]⟩ : Obj).ren (pin ([a, p + gK s] ++ List.range' p (gK s))) = ⟨e2, 6, false, [gC p s]⟩ := by
      simp only [Obj.ren, gC, List.map, CV.ren]
      rw [hr 1 (by omega), hr (s.levels.length + 2) (by omega), hr (s.levels.length + s.sieves.length + 3) (by omega), show pin ([a, p + gK s] ++ List.range' p (gK s)) 2 = p from hr 0 (by omega)]
    rw [this]; exact hC
  · rw [hl]
    simp only [Obj.bd, gC, List.all_cons, List.all_nil, CV.bd, Bool.and_eq_true, decide_eq_true_eq, Bool.and_true]
    refine ⟨?_, ?_, ?_, ?_, ?_, ?_⟩ <;> first | omega | trivial
theorem law_StoreListX (s : Sto) (ho : okT s) (f : ByteArray) (hf0 : f.size ≤ 9223372036854775807) (t : ByteArray) (ht0 : t.size ≤ 9223372036854775807) (tm : Int) (hw : (Lit.int .i64 tm).wf = true) : AC Tryz.prog 7 [stT s, sT f, sT t, iT tm] noHp 0 ⟨.t (bT true), noHp, 0⟩ := by
  refine AC_of Tryz.func7 rfl Tryz.ntmps7 Tryz.results7 (by kernel_rfl) rfl ?_
  simp only [List.zipIdx, List.map, Nat.zero_add, Nat.reduceAdd]
  by_cases hk : f.size ≤ 1048576
  case neg =>
    have g0 : decide ((1048576 : Int) < (f.size : Int)) = true := decide_eq_true (by omega)
    repeat (first | apply Aw_seq | apply Aw_block | apply Aw_skip | apply Aw_exit | refine Aw_condt rfl ?_ | refine Aw_condf rfl ?_ | ((first | refine qr ?_ | refine qd (by kernel_rfl) (by kernel_rfl) ?_); simp only [go_sem, jE, reduceIte, jA, jM, jS, jL, jD, jB, g0]) | refine dk (by kernel_rfl) ?_)
    exact Aw_ret (ret0 (.inl rfl) (by simp only [go_sem, jE, reduceIte, jA, jM, jS, jL, jD, jB]; rfl) (by rfl) rfl)
  have g0 : decide ((1048576 : Int) < (f.size : Int)) = false := decide_eq_false (by omega)
  by_cases hkt : t.size ≤ 1048576
  case neg =>
    have g1 : decide ((1048576 : Int) < (t.size : Int)) = true := decide_eq_true (by omega)
    repeat (first | apply Aw_seq | apply Aw_block | apply Aw_skip | apply Aw_exit | refine Aw_condt rfl ?_ | refine Aw_condf rfl ?_ | ((first | refine qr ?_ | refine qd (by kernel_rfl) (by kernel_rfl) ?_); simp only [go_sem, jE, reduceIte, jA, jM, jS, jL, jD, jB, g0, g1]) | refine dk (by kernel_rfl) ?_)
    exact Aw_ret (ret0 (.inl rfl) (by simp only [go_sem, jE, reduceIte, jA, jM, jS, jL, jD, jB]; rfl) (by rfl) rfl)
  have g1 : decide ((1048576 : Int) < (t.size : Int)) = false := decide_eq_false (by omega)
  have hf : smK f := by unfold smK; omega
  have ht : smK t := by unfold smK; omega
  have k1 := szStore_ac s 1048576 (Nat.le_refl _) ho.big
  rw [show ((1048576 : Nat) : Int) = 1048576 from rfl] at k1
  by_cases h : wSto s ≤ 1048576
  case neg =>
    rw [szM_no h] at k1
    repeat (first | apply Aw_seq | apply Aw_block | apply Aw_skip | apply Aw_exit | refine Aw_condt rfl ?_ | refine Aw_condf rfl ?_ | ((first | refine qr ?_ | refine qd (by kernel_rfl) (by kernel_rfl) ?_); simp only [go_sem, jE, reduceIte, jA, jM, jS, jL, jD, jB, neg1, g0, g1]) | refine dk (by kernel_rfl) ?_ | (refine qp (k1) (by simp only [go_sem, jE, reduceIte, jA, jM, jS, jL, jD, jB, neg1, g0, g1]; first | done | rfl) rfl (by simp only [go_sem, Nat.reduceLT]) rfl rfl ?_; simp only [go_sem, jE, reduceIte, jA, jM, jS, jL, jD, jB, neg1, g0, g1]))
    exact Aw_ret (ret0 (.inl rfl) (by simp only [go_sem, jE, reduceIte, jA, jM, jS, jL, jD, jB]; rfl) (by rfl) rfl)
  rw [szM_ok h] at k1
  have n1 := nneg (1048576 - wSto s)
  have hm := w_mid h
  have hs := w_sm h
  have k2 := toStore_ac s hm
  cases hM : lsOkB s f t tm with
  | false =>
    have k3 := sstoreList_no s hs f t hf ht tm hM
    have k4 := storeList_no s hs f t hf ht tm hm.times hM
    have kno := k4.toL
    have kx := toStoreG_ac s hm
    unfold gT at kx
    have kq := eqEntryA_ac
    have k5 := (eqStore_ac s hm.far).toL
    have km := markStoreF_ac s 1 hm (cntS_le h)
    have k7 := markEntryA_ac 1
    have k8 := heldEntryA_ac 1 (by omega)
    have n2 : decide ((1 : Int) < 0) = false := rfl
    have n3 : decide ((1 : Int) = 1) = true := rfl
    have n4 := nneg (cntS 1 s)
    rw [show ((1 : Nat) : Int) = 1 from rfl] at km k7 k8
    have hK : gK s ≤ 3000000 := by unfold gK; have := hm.ll; have := hm.sl; omega
    have e0 : ∀ hp : Hp, hole 2 (gK s) hp 0 = hp 0 := fun hp => hole_ne (by omega)
    have e1 : ∀ hp : Hp, hole 2 (gK s) hp 1 = hp 1 := fun hp => hole_ne (by omega)
    repeat (first | apply Aw_seq | apply Aw_block | apply Aw_skip | apply Aw_exit | refine Aw_condt rfl ?_ | refine Aw_condf rfl ?_ | ((first | refine qr ?_ | refine qd (by kernel_rfl) (by kernel_rfl) ?_); simp only [go_sem, jE, reduceIte, jA, jM, jS, jL, jD, jB, n1, g0, g1]) | refine dk (by kernel_rfl) ?_ | (refine qp (k1) (by simp only [go_sem, jE, reduceIte, jA, jM, jS, jL, jD, jB, n1, g0, g1]; first | done | rfl) rfl (by simp only [go_sem, Nat.reduceLT]) rfl rfl ?_; simp only [go_sem, jE, reduceIte, jA, jM, jS, jL, jD, jB, n1, g0, g1]) | (refine qp (k3) (by simp only [go_sem, jE, reduceIte, jA, jM, jS, jL, jD, jB, n1, g0, g1]; first | done | rfl) rfl (by simp only [go_sem, Nat.reduceLT]) rfl rfl ?_; simp only [go_sem, jE, reduceIte, jA, jM, jS, jL, jD, jB, n1, g0, g1]) | (refine qx (call_pure (n := 15) rfl rfl rfl k2) (by simp only [go_sem, jE, reduceIte, jA, jM, jS, jL, jD, jB, n1, g0, g1]; first | done | rfl) rfl (by simp only [go_sem, Nat.reduceLT]) ?_; simp only [go_sem, jE, reduceIte, jA, jM, jS, jL, jD, jB, n1, g0, g1]))
    iterate 1 (first | apply Aw_seq | apply Aw_block | apply Aw_skip | apply Aw_exit | refine Aw_condt rfl ?_ | refine Aw_condf rfl ?_ | ((first | refine qr ?_ | refine qd (by kernel_rfl) (by kernel_rfl) ?_); simp only [go_sem, jE, reduceIte, jA, jM, jS, jL, jD, jB]) | refine dk (by kernel_rfl) ?_ | (refine qx (call_N (L := []) kx rfl (.cons (.nm rfl) .nil) (.inl rfl) (gOs_len s)) (by simp only [go_sem, jE, reduceIte, jA, jM, jS, jL, jD, jB]; first | done | rfl) rfl (by simp only [go_sem, Nat.reduceLT]) ?_; simp only [go_sem, jE, reduceIte, jA, jM, jS, jL, jD, jB]))
    refine Aw.rw (rwLaw2 (s := s) (e1 := 27) (e2 := 33) (a := 0) (p := 20) (l' := [(11, .t (.c (.ph 1 0 0))), (10, .t (runT [])), (4, .t (.c (.ph 0 0 0))), (1, .t (sT f)), (2, .t (sT t)), (3, .t (iT tm)), (8, .t (bT false))]) (by omega) ?_ ?_ ?_ (by omega) ?_) ?_
    · rw [upd_ne _ _ (by omega), upd_ne _ _ (by omega), updL_not (fun h => by have := (List.mem_range'_1.1 h).1; omega)]; rfl
    · rw [upd_same]; rfl
    · exact ((gst_upL _ 20 s).upd (.inr (Nat.le_refl _))).upd (.inr (Nat.le_refl _))
    · repeat (first | exact trivial | refine ⟨rfl, rfl, ?_⟩)
    have k6 := k4
    repeat (first | apply Aw_seq | apply Aw_block | apply Aw_skip | apply Aw_exit | refine Aw_condt rfl ?_ | refine Aw_condf rfl ?_ | ((first | refine qr ?_ | refine qd (by kernel_rfl) (by kernel_rfl) ?_); simp only [go_sem, jE, reduceIte, jA, jM, jS, jL, jD, jB, bref, iref, n2, n3, n4, e0, e1]) | refine dk (by kernel_rfl) ?_ | (refine qp (k2) (by simp only [go_sem, jE, reduceIte, jA, jM, jS, jL, jD, jB, bref, iref, n2, n3, n4, e0, e1]; first | done | rfl) rfl (by simp only [go_sem, Nat.reduceLT]) rfl rfl ?_; simp only [go_sem, jE, reduceIte, jA, jM, jS, jL, jD, jB, bref, iref, n2, n3, n4, e0, e1]) | (refine qp (kq) (by simp only [go_sem, jE, reduceIte, jA, jM, jS, jL, jD, jB, bref, iref, n2, n3, n4, e0, e1]; first | done | rfl) rfl (by simp only [go_sem, Nat.reduceLT]) rfl rfl ?_; simp only [go_sem, jE, reduceIte, jA, jM, jS, jL, jD, jB, bref, iref, n2, n3, n4, e0, e1]) | (refine qp (k7) (by simp only [go_sem, jE, reduceIte, jA, jM, jS, jL, jD, jB, bref, iref, n2, n3, n4, e0, e1]; first | done | rfl) rfl (by simp only [go_sem, Nat.reduceLT]) rfl rfl ?_; simp only [go_sem, jE, reduceIte, jA, jM, jS, jL, jD, jB, bref, iref, n2, n3, n4, e0, e1]) | (refine qp (k8) (by simp only [go_sem, jE, reduceIte, jA, jM, jS, jL, jD, jB, bref, iref, n2, n3, n4, e0, e1]; first | done | rfl) rfl (by simp only [go_sem, Nat.reduceLT]) rfl rfl ?_; simp only [go_sem, jE, reduceIte, jA, jM, jS, jL, jD, jB, bref, iref, n2, n3, n4, e0, e1]) | (refine qp (k4) (by simp only [go_sem, jE, reduceIte, jA, jM, jS, jL, jD, jB, bref, iref, n2, n3, n4, e0, e1]; first | done | rfl) rfl (by simp only [go_sem, Nat.reduceLT]) rfl rfl ?_; simp only [go_sem, jE, reduceIte, jA, jM, jS, jL, jD, jB, bref, iref, n2, n3, n4, e0, e1]) | (refine qx (call_N (L := List.range' 2 (gK s)) kno rfl (.cons (arg_gT (by repeat (first | exact gst_new 2 s | refine GSt.upd ?_ (by omega))) (fun m h1 h2 => List.mem_range'_1.2 ⟨h1, h2⟩)) (.cons (.nm rfl) (.cons (.nm rfl) (.cons (.nm rfl) .nil)))) (.inr ⟨rfl, by simp⟩) rfl) (by simp only [go_sem, jE, reduceIte, jA, jM, jS, jL, jD, jB, bref, iref, n2, n3, n4, e0, e1]; first | done | rfl) rfl (by simp only [go_sem, Nat.reduceLT]) ?_; simp only [go_sem, jE, reduceIte, jA, jM, jS, jL, jD, jB, bref, iref, n2, n3, n4, e0, e1]) | (refine qx (call_N (L := List.range' 2 (gK s)) k5 rfl (.cons (arg_gT (by repeat (first | exact gst_new 2 s | refine GSt.upd ?_ (by omega))) (fun m h1 h2 => List.mem_range'_1.2 ⟨h1, h2⟩)) (.cons (.nm rfl) .nil)) (.inr ⟨rfl, by simp⟩) rfl) (by simp only [go_sem, jE, reduceIte, jA, jM, jS, jL, jD, jB, bref, iref, n2, n3, n4, e0, e1]; first | done | rfl) rfl (by simp only [go_sem, Nat.reduceLT]) ?_; simp only [go_sem, jE, reduceIte, jA, jM, jS, jL, jD, jB, bref, iref, n2, n3, n4, e0, e1]) | (refine qx (call_B (b := 2) (gOs_len s) km rfl (.cons arg_gN (.cons (.nm rfl) .nil)) (blk_gs (p := 2) (by repeat (first | exact gst_new 2 s | refine GSt.upd ?_ (by omega)))) rfl) (by simp only [go_sem, jE, reduceIte, jA, jM, jS, jL, jD, jB, bref, iref, n2, n3, n4, e0, e1]; first | done | rfl) rfl (by simp only [go_sem, Nat.reduceLT]) ?_; simp only [go_sem, jE, reduceIte, jA, jM, jS, jL, jD, jB, bref, iref, n2, n3, n4, e0, e1]))
    exact Aw_ret (ret0 (.inl rfl) (by simp only [go_sem, jE, reduceIte, jA, jM, jS, jL, jD, jB]; rfl) (by rfl) rfl)
  | true =>
    have hv : storeS s = true := by unfold lsOkB at hM; simp only [Bool.and_eq_true] at hM; exact hM.1.1.1
    have k3 := sstoreList_ok s hs f t hf ht tm hM
    have kown := storeList_ok s hs f t hf ht tm hM
    have k4 : AC Tryz.prog 22 [stT s, sT f, sT t, iT tm] noHp 0 ⟨.t (runT (lsTo s f t tm (lsZ s f t) (lsZ s f t).length)), noHp, 0⟩ := AC.settle0 [0] kown (SetC.row0 rfl rfl) rfl
    have hml : (lsTo s f t tm (lsZ s f t) (lsZ s f t).length).length ≤ 160 := Nat.le_trans (lsTo_len s f t tm _ _) (lsZ_len hv f t)
    have k5 := (eqStore_ac s hm.far).toL
    have km1 := cntS_le h
    obtain ⟨hll, hsl, _⟩ := storeS_facts hv
    obtain ⟨M, hMd⟩ : ∃ M, M = lsTo s f t tm (lsZ s f t) (lsZ s f t).length := ⟨_, rfl⟩
    rw [← hMd] at k3 k4 kown hml
    clear hMd
    obtain ⟨top, levels, sieves, keep, time, ts⟩ := s
    obtain ⟨a, b, c, rfl⟩ := len3 hll
    obtain ⟨x, y, z, rfl⟩ := len3 hsl
    obtain ⟨mX, km⟩ := mark_none top a b c x y z keep time ts km1
    have kx := toStoreO_ac top a b c x y z keep time ts hm
    clear hM hv hs hm km1
    have k6 := eqEntryS_ac M (by omega)
    have k7 := markEntryS_ac M 1 (by omega)
    have k8 := heldEntryS_ac 1 M.length (by omega)
    have n4 := nneg mX
    have n5 := nneg (1 + 4 * M.length)
    rw [show ((1 : Nat) : Int) = 1 from rfl] at k7 k8
    unfold cloS svN at *
    dsimp only at *
    have k6L := k6.toL
    have k8L := k8.toL
    repeat (first | apply Aw_seq | apply Aw_block | apply Aw_skip | apply Aw_exit | refine Aw_condt rfl ?_ | refine Aw_condf rfl ?_ | ((first | refine qr ?_ | refine qd (by kernel_rfl) (by kernel_rfl) ?_); simp only [go_sem, jE, reduceIte, jA, jM, jS, jL, jD, jB, n1, g0, g1, n4, n5, bref, iref]) | refine dk (by kernel_rfl) ?_ | (refine qp (k1) (by simp only [go_sem, jE, reduceIte, jA, jM, jS, jL, jD, jB, n1, g0, g1, n4, n5, bref, iref]; first | done | rfl) rfl (by simp only [go_sem, Nat.reduceLT]) rfl rfl ?_; simp only [go_sem, jE, reduceIte, jA, jM, jS, jL, jD, jB, n1, g0, g1, n4, n5, bref, iref]) | (refine qp (k3) (by simp only [go_sem, jE, reduceIte, jA, jM, jS, jL, jD, jB, n1, g0, g1, n4, n5, bref, iref]; first | done | rfl) rfl (by simp only [go_sem, Nat.reduceLT]) rfl rfl ?_; simp only [go_sem, jE, reduceIte, jA, jM, jS, jL, jD, jB, n1, g0, g1, n4, n5, bref, iref]) | (refine qp (k4) (by simp only [go_sem, jE, reduceIte, jA, jM, jS, jL, jD, jB, n1, g0, g1, n4, n5, bref, iref]; first | done | rfl) rfl (by simp only [go_sem, Nat.reduceLT]) rfl rfl ?_; simp only [go_sem, jE, reduceIte, jA, jM, jS, jL, jD, jB, n1, g0, g1, n4, n5, bref, iref]) | (refine qp (k6) (by simp only [go_sem, jE, reduceIte, jA, jM, jS, jL, jD, jB, n1, g0, g1, n4, n5, bref, iref]; first | done | rfl) rfl (by simp only [go_sem, Nat.reduceLT]) rfl rfl ?_; simp only [go_sem, jE, reduceIte, jA, jM, jS, jL, jD, jB, n1, g0, g1, n4, n5, bref, iref]) | (refine qx (call_N (n := 20) (L := []) kx rfl (.cons (.nm rfl) .nil) (.inl rfl) rfl) (by simp only [go_sem, jE, reduceIte, jA, jM, jS, jL, jD, jB, n1, g0, g1, n4, n5, bref, iref]; first | done | rfl) rfl (by simp only [go_sem, Nat.reduceLT]) ?_; simp only [go_sem, jE, reduceIte, jA, jM, jS, jL, jD, jB, n1, g0, g1, n4, n5, bref, iref]) | (refine qx (call_pure rfl rfl rfl k2) (by simp only [go_sem, jE, reduceIte, jA, jM, jS, jL, jD, jB, n1, g0, g1, n4, n5, bref, iref]; first | done | rfl) rfl (by simp only [go_sem, Nat.reduceLT]) ?_; simp only [go_sem, jE, reduceIte, jA, jM, jS, jL, jD, jB, n1, g0, g1, n4, n5, bref, iref]) | (refine qx (call_N (L := [20, 21, 22, 23, 24, 25, 26, 27, 28, 29]) (kown) rfl (.cons (arg_oT rfl rfl rfl rfl rfl rfl rfl rfl rfl rfl rfl) (.cons (.nm rfl) (.cons (.nm rfl) (.cons (.nm rfl) (.nil))))) (.inr ⟨rfl, by simp⟩) rfl) (by simp only [go_sem, jE, reduceIte, jA, jM, jS, jL, jD, jB, n1, g0, g1, n4, n5, bref, iref]; first | done | rfl) rfl (by simp only [go_sem, Nat.reduceLT]) ?_; simp only [go_sem, jE, reduceIte, jA, jM, jS, jL, jD, jB, n1, g0, g1, n4, n5, bref, iref]) | (refine qx (call_N (L := [36]) (k6L) rfl (.cons (arg_lend (m := 36) rfl (by simp)) (.cons (.nm rfl) (.nil))) (.inr ⟨rfl, by simp⟩) rfl) (by simp only [go_sem, jE, reduceIte, jA, jM, jS, jL, jD, jB, n1, g0, g1, n4, n5, bref, iref]; first | done | rfl) rfl (by simp only [go_sem, Nat.reduceLT]) ?_; simp only [go_sem, jE, reduceIte, jA, jM, jS, jL, jD, jB, n1, g0, g1, n4, n5, bref, iref]) | (refine qx (call_N (L := [20, 21, 22, 23, 24, 25, 26, 27, 28, 29]) (k5) rfl (.cons (arg_oT rfl rfl rfl rfl rfl rfl rfl rfl rfl rfl rfl) (.cons (.nm rfl) (.nil))) (.inr ⟨rfl, by simp⟩) rfl) (by simp only [go_sem, jE, reduceIte, jA, jM, jS, jL, jD, jB, n1, g0, g1, n4, n5, bref, iref]; first | done | rfl) rfl (by simp only [go_sem, Nat.reduceLT]) ?_; simp only [go_sem, jE, reduceIte, jA, jM, jS, jL, jD, jB, n1, g0, g1, n4, n5, bref, iref]) | (refine qx (call_L (N' := [20, 21, 22, 23, 24, 25, 26, 27, 28, 29]) (L := []) (km) rfl (.cons (.nm rfl) (.cons (.nm rfl) (.nil))) (by decide) (by decide) (by decide) (by simp only [go_sem, jE, reduceIte, jA, jM, jS, jL, jD, jB, n1, g0, g1, n4, n5, bref, iref]; first | done | rfl) (.inl rfl) rfl (by decide)) (by simp only [go_sem, jE, reduceIte, jA, jM, jS, jL, jD, jB, n1, g0, g1, n4, n5, bref, iref]; first | done | rfl) rfl (by simp only [go_sem, Nat.reduceLT]) ?_; simp only [go_sem, jE, reduceIte, jA, jM, jS, jL, jD, jB, n1, g0, g1, n4, n5, bref, iref]) | (refine qx (call_L (N' := [36]) (L := []) (k7) rfl (.cons (.nm rfl) (.cons (.nm rfl) (.nil))) (by decide) (by decide) (by decide) (by simp only [go_sem, jE, reduceIte, jA, jM, jS, jL, jD, jB, n1, g0, g1, n4, n5, bref, iref]; first | done | rfl) (.inl rfl) rfl (by decide)) (by simp only [go_sem, jE, reduceIte, jA, jM, jS, jL, jD, jB, n1, g0, g1, n4, n5, bref, iref]; first | done | rfl) rfl (by simp only [go_sem, Nat.reduceLT]) ?_; simp only [go_sem, jE, reduceIte, jA, jM, jS, jL, jD, jB, n1, g0, g1, n4, n5, bref, iref]) | (refine qx (call_N (L := [36]) (k8L) rfl (.cons (arg_lend (m := 36) rfl (by simp)) (.cons (.nm rfl) (.nil))) (.inr ⟨rfl, by simp⟩) rfl) (by simp only [go_sem, jE, reduceIte, jA, jM, jS, jL, jD, jB, n1, g0, g1, n4, n5, bref, iref]; first | done | rfl) rfl (by simp only [go_sem, Nat.reduceLT]) ?_; simp only [go_sem, jE, reduceIte, jA, jM, jS, jL, jD, jB, n1, g0, g1, n4, n5, bref, iref]))
    exact Aw_ret (ret0 (.inl rfl) (by simp only [go_sem, jE, reduceIte, jA, jM, jS, jL, jD, jB]; rfl) (by rfl) rfl)
end Go.Proofs.YtimkdclalajadaaGreat.Ab
