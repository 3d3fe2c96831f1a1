/-
  Contracts: a store and deeds that are drawn. No condition.
  Contract: the law of deeds one behind the other gives true, whatever the code. No condition.
-/
import Derived.Test.YtjolcfkepcmjnaaGreatBg
namespace Go.Proofs.YtjolcfkepcmjnaaGreat.Ab
open Nat renaming reduceEqDiff → jE, reduceAdd → jA, reduceMul → jM, reduceSub → jS, reduceLT → jL, reduceLeDiff → jD, reduceBEq → jB
set_option linter.deprecated false
set_option linter.unusedVariables false
set_option linter.unusedSimpArgs false
open Go Go.Proofs
set_option maxRecDepth 10000
set_option maxHeartbeats 8000000
def d00 : Deed := ⟨0, ⟨#[]⟩, 0⟩
noncomputable def dpoV (b : List Int) : Sto × List Deed :=
  ((spoV b 0).1, if pickV b (deedsV b (spoV b 0).2 20).2 24 = 0 then List.replicate 41 d00 else (deedsV b (spoV b 0).2 20).1)
theorem deeds_smD {b : List Int} (hb : byteL b) {p most : Nat} (hp : p ≤ 100000) (hm : most ≤ 100) : SmD (deedsV b p most).1 :=
  ⟨fun d hd => by have := (deedsV_fin hb hp hm).2.1 d hd; unfold smK; omega⟩
theorem drawPastDo_ac (c : List Int) (hl : c.length ≤ 1099511627776) (hb : byteL (c.take 2000)) : AC Tryz.prog 23 [bytesT c] noHp 0 ⟨.tup [stT (dpoV (c.take 2000)).1, deedsT (dpoV (c.take 2000)).2], noHp, 0⟩ := by
  have k0 := l6Open_ac c hl
  obtain ⟨b, hbe⟩ : ∃ b, b = c.take 2000 := ⟨_, rfl⟩
  rw [← hbe] at hb k0 ⊢
  have ks := spoiltS_ac hb (p := 0) (by omega)
  obtain ⟨h, hq⟩ := spoV_fin hb (p := 0) (by omega)
  have kd := l71DeedsS_ac (p := (spoV b 0).2) (most := 20) hb (by omega) (by omega)
  have hd := (deedsV_fin hb (p := (spoV b 0).2) (most := 20) (by omega) (by omega)).2.2
  rw [show ((20 : Nat) : Int) = 20 from rfl] at kd
  unfold dpoV
  generalize spoV b 0 = sq at h hq ks kd hd ⊢
  obtain ⟨s, q⟩ := sq
  dsimp only at h hq ks kd hd ⊢
  generalize deedsV b q 20 = z at kd hd ⊢
  obtain ⟨ds, p⟩ := z
  dsimp only at kd hd ⊢
  have k4 := pickV_ac (n := 24) hb (show p ≤ 1000000 by omega) (by omega)
  by_cases c1 : pickV b p 24 = 0
  · rw [if_pos c1]
    have g1 : decide (((pickV b p 24 : Nat) : Int) = 0) = true := decide_eq_true (by omega)
    refine AC.settle0 [0] (?_ : AC Tryz.prog 23 [bytesT c] noHp 0 ⟨.tup [stT s, .c (.h 0)], hpL [some (dRow 89 3 ((List.replicate 41 d00).map deedD))], 1⟩) (.cons (.cons (.inl rfl) (.cons (.inl rfl) (.cons (.inl rfl) (.cons (.inl rfl) (.cons (.inl rfl) (.cons (.inl rfl) .nil)))))) (.cons (SetC.row0 rfl rfl) .nil)) rfl
    refine AC_of Tryz.func23 rfl Tryz.ntmps23 Tryz.results23 (by kernel_rfl) rfl ?_
    simp only [List.zipIdx, List.map, Nat.zero_add, Nat.reduceAdd]
    repeat (first | apply Aw_seq | apply Aw_block | apply Aw_skip | apply Aw_exit | refine Aw_condt rfl ?_ | refine Aw_condf rfl ?_ | ((first | refine qr ?_ | refine qd (by kernel_rfl) (by kernel_rfl) ?_); simp only [go_sem, jE, reduceIte, jA, jM, jS, jL, jD, jB, g1]) | refine dk (by kernel_rfl) ?_ | (refine qx (call_N (L := []) (k0) rfl (.cons (.nm rfl) (.nil)) (.inl rfl) rfl) (by simp only [go_sem, jE, reduceIte, jA, jM, jS, jL, jD, jB, g1]; first | done | rfl) rfl (by simp only [go_sem, Nat.reduceLT]) ?_; simp only [go_sem, jE, reduceIte, jA, jM, jS, jL, jD, jB, g1]) | (refine qx (call_L (N' := [3]) (L := []) (ks) rfl (.cons (.nm rfl) (.nil)) (by decide) (by decide) (by decide) (by simp only [go_sem, jE, reduceIte, jA, jM, jS, jL, jD, jB, g1]; first | done | rfl) (.inl rfl) rfl (by decide)) (by simp only [go_sem, jE, reduceIte, jA, jM, jS, jL, jD, jB, g1]; first | done | rfl) rfl (by simp only [go_sem, Nat.reduceLT]) ?_; simp only [go_sem, jE, reduceIte, jA, jM, jS, jL, jD, jB, g1]) | (refine qx (call_L (N' := [3]) (L := []) (kd) rfl (.cons (.nm rfl) (.cons (.nm rfl) (.nil))) (by decide) (by decide) (by decide) (by simp only [go_sem, jE, reduceIte, jA, jM, jS, jL, jD, jB, g1]; first | done | rfl) (.inl rfl) rfl (by decide)) (by simp only [go_sem, jE, reduceIte, jA, jM, jS, jL, jD, jB, g1]; first | done | rfl) rfl (by simp only [go_sem, Nat.reduceLT]) ?_; simp only [go_sem, jE, reduceIte, jA, jM, jS, jL, jD, jB, g1]) | (refine qx (call_L (N' := [3]) (L := []) (k4) rfl (.cons (.nm rfl) (.cons (.nm rfl) (.nil))) (by decide) (by decide) (by decide) (by simp only [go_sem, jE, reduceIte, jA, jM, jS, jL, jD, jB, g1]; first | done | rfl) (.inl rfl) rfl (by decide)) (by simp only [go_sem, jE, reduceIte, jA, jM, jS, jL, jD, jB, g1]; first | done | rfl) rfl (by simp only [go_sem, Nat.reduceLT]) ?_; simp only [go_sem, jE, reduceIte, jA, jM, jS, jL, jD, jB, g1]))
    exact Aw_ret (retL (M := [13]) (.inl rfl) (by simp only [go_sem, jE, reduceIte, jA, jM, jS, jL, jD, jB]; first | done | rfl) rfl rfl (by rfl) (by simp only [go_sem, jE, reduceIte, jA, jM, jS, jL, jD, jB]; first | done | rfl | (and_intros <;> rfl)) (by decide) (by unfold idM; decide))
  · rw [if_neg c1]
    have g1 : decide (((pickV b p 24 : Nat) : Int) = 0) = false := decide_eq_false (by omega)
    refine AC_of Tryz.func23 rfl Tryz.ntmps23 Tryz.results23 (by kernel_rfl) rfl ?_
    simp only [List.zipIdx, List.map, Nat.zero_add, Nat.reduceAdd]
    repeat (first | apply Aw_seq | apply Aw_block | apply Aw_skip | apply Aw_exit | refine Aw_condt rfl ?_ | refine Aw_condf rfl ?_ | ((first | refine qr ?_ | refine qd (by kernel_rfl) (by kernel_rfl) ?_); simp only [go_sem, jE, reduceIte, jA, jM, jS, jL, jD, jB, g1]) | refine dk (by kernel_rfl) ?_ | (refine qx (call_N (L := []) (k0) rfl (.cons (.nm rfl) (.nil)) (.inl rfl) rfl) (by simp only [go_sem, jE, reduceIte, jA, jM, jS, jL, jD, jB, g1]; first | done | rfl) rfl (by simp only [go_sem, Nat.reduceLT]) ?_; simp only [go_sem, jE, reduceIte, jA, jM, jS, jL, jD, jB, g1]) | (refine qx (call_L (N' := [3]) (L := []) (ks) rfl (.cons (.nm rfl) (.nil)) (by decide) (by decide) (by decide) (by simp only [go_sem, jE, reduceIte, jA, jM, jS, jL, jD, jB, g1]; first | done | rfl) (.inl rfl) rfl (by decide)) (by simp only [go_sem, jE, reduceIte, jA, jM, jS, jL, jD, jB, g1]; first | done | rfl) rfl (by simp only [go_sem, Nat.reduceLT]) ?_; simp only [go_sem, jE, reduceIte, jA, jM, jS, jL, jD, jB, g1]) | (refine qx (call_L (N' := [3]) (L := []) (kd) rfl (.cons (.nm rfl) (.cons (.nm rfl) (.nil))) (by decide) (by decide) (by decide) (by simp only [go_sem, jE, reduceIte, jA, jM, jS, jL, jD, jB, g1]; first | done | rfl) (.inl rfl) rfl (by decide)) (by simp only [go_sem, jE, reduceIte, jA, jM, jS, jL, jD, jB, g1]; first | done | rfl) rfl (by simp only [go_sem, Nat.reduceLT]) ?_; simp only [go_sem, jE, reduceIte, jA, jM, jS, jL, jD, jB, g1]) | (refine qx (call_L (N' := [3]) (L := []) (k4) rfl (.cons (.nm rfl) (.cons (.nm rfl) (.nil))) (by decide) (by decide) (by decide) (by simp only [go_sem, jE, reduceIte, jA, jM, jS, jL, jD, jB, g1]; first | done | rfl) (.inl rfl) rfl (by decide)) (by simp only [go_sem, jE, reduceIte, jA, jM, jS, jL, jD, jB, g1]; first | done | rfl) rfl (by simp only [go_sem, Nat.reduceLT]) ?_; simp only [go_sem, jE, reduceIte, jA, jM, jS, jL, jD, jB, g1]))
    exact Aw_ret (ret0 (.inl rfl) (by simp only [go_sem, jE, reduceIte, jA, jM, jS, jL, jD, jB]; rfl) (by rfl) rfl)
theorem zSto_st : SmSt zSto := ⟨smR_nil, by unfold zSto; simp, by unfold zSto; simp, by unfold zSto; simp, by unfold zSto; simp, by unfold zSto; simp⟩
theorem va_lt {x : Sto} (hs : SmSt x) (hv : Va x) : AC Tryz.prog 12 [stT x, stT x] noHp 0 ⟨.t (bT true), noHp, 0⟩ := by
  have ht := hv.tl
  refine ltStoreR_ac x hs (by omega) fun r hr => ?_
  obtain ⟨i, hi, rfl⟩ := List.mem_iff_getElem.1 hr
  have hll := hv.lv.ll
  have := (hv.lv.run i (by omega) (by omega)).2
  unfold lvA at this
  rw [List.getD_eq_getElem?_getD, List.getElem?_eq_getElem hi] at this
  simp only [Option.getD_some] at this
  omega
theorem dpoV_st {b : List Int} (hb : byteL b) : SmSt (dpoV b).1 ∧ SmD (dpoV b).2 ∧ (dpoV b).2.length ≤ 41 ∧ (storeS (dpoV b).1 = true → Va (dpoV b).1) := by
  obtain ⟨h, hq⟩ := spoV_fin hb (p := 0) (by omega)
  refine ⟨h.st, ?_, ?_, spoV_va⟩
  · unfold dpoV; dsimp only; split
    · exact ⟨fun d hd => by obtain rfl := (List.mem_replicate.1 hd).2; unfold smK d00; show (0 : Nat) ≤ _; omega⟩
    · exact deeds_smD hb (by omega) (by omega)
  · unfold dpoV; dsimp only; split
    · rw [List.length_replicate]; omega
    · have := (deedsV_fin hb (p := (spoV b 0).2) (most := 20) (by omega) (by omega)).1; omega
theorem smD_sub {a b : List Deed} (h : SmD a) (hs : ∀ d ∈ b, d ∈ a) : SmD b := ⟨fun d hd => h.key d (hs d hd)⟩
theorem law_PastDoD (c : List Int) (ho : okY c) (more : List Int) (hm : okY more) : AC Tryz.prog 6 [bytesT c, bytesT more] noHp 0 ⟨.t (bT true), noHp, 0⟩ := by
  refine AC_of Tryz.func6 rfl Tryz.ntmps6 Tryz.results6 (by kernel_rfl) rfl ?_
  simp only [List.zipIdx, List.map, Nat.zero_add, Nat.reduceAdd]
  by_cases hc : c.length ≤ 1048576
  case neg =>
    have g0 : decide ((1048576 : Int) < (c.length : Int)) = true := decide_eq_true (by omega)
    repeat (first | apply Aw_seq | apply Aw_block | apply Aw_skip | apply Aw_exit | refine Aw_condt rfl ?_ | refine Aw_condf rfl ?_ | ((first | refine qr ?_ | refine qd (by kernel_rfl) (by kernel_rfl) ?_); simp only [go_sem, jE, reduceIte, jA, jM, jS, jL, jD, jB, g0]) | refine dk (by kernel_rfl) ?_)
    exact Aw_ret (ret0 (.inl rfl) (by simp only [go_sem, jE, reduceIte, jA, jM, jS, jL, jD, jB]; rfl) (by rfl) rfl)
  have g0 : decide ((1048576 : Int) < (c.length : Int)) = false := decide_eq_false (by omega)
  by_cases hm2 : more.length ≤ 1048576
  case neg =>
    have g1 : decide ((1048576 : Int) < (more.length : Int)) = true := decide_eq_true (by omega)
    repeat (first | apply Aw_seq | apply Aw_block | apply Aw_skip | apply Aw_exit | refine Aw_condt rfl ?_ | refine Aw_condf rfl ?_ | ((first | refine qr ?_ | refine qd (by kernel_rfl) (by kernel_rfl) ?_); simp only [go_sem, jE, reduceIte, jA, jM, jS, jL, jD, jB, g0, g1]) | refine dk (by kernel_rfl) ?_)
    exact Aw_ret (ret0 (.inl rfl) (by simp only [go_sem, jE, reduceIte, jA, jM, jS, jL, jD, jB]; rfl) (by rfl) rfl)
  have g1 : decide ((1048576 : Int) < (more.length : Int)) = false := decide_eq_false (by omega)
  have hb := ho.byte
  have k0 := drawPastDo_ac c (by omega) hb
  obtain ⟨hs, hd, hl, hva⟩ := dpoV_st hb
  generalize dpoV (c.take 2000) = sk at k0 hs hd hl hva
  obtain ⟨s, ds⟩ := sk
  dsimp only at k0 hs hd hl hva
  have k1 := (pastDoS_own s ds hs hd (by omega)).set
  have k2 := pastDoI_ac s ds hs hd (by omega)
  by_cases hv : storeS s = true ∧ ds.length ≤ 40
  case neg =>
    have e1 : pdM s ds = none := if_neg hv
    rw [e1] at k1 k2
    have k1 : AC Tryz.prog 24 [stT s, deedsT ds] noHp 0 ⟨.tup [stT zSto, bT false], noHp, 0⟩ := k1
    have k2 : AC Tryz.prog 22 [stT s, deedsT ds] noHp 0 ⟨.tup [stT zSto, bT false], noHp, 0⟩ := k2
    have k3 := ltStoreR_ac zSto zSto_st (by unfold zSto; simp) (by unfold zSto; simp)
    repeat (first | apply Aw_seq | apply Aw_block | apply Aw_skip | apply Aw_exit | refine Aw_condt rfl ?_ | refine Aw_condf rfl ?_ | ((first | refine qr ?_ | refine qd (by kernel_rfl) (by kernel_rfl) ?_); simp only [go_sem, jE, reduceIte, jA, jM, jS, jL, jD, jB, g0, g1, bref]) | refine dk (by kernel_rfl) ?_ | (refine qp (k0) (by simp only [go_sem, jE, reduceIte, jA, jM, jS, jL, jD, jB, g0, g1, bref]; first | done | rfl) rfl (by simp only [go_sem, Nat.reduceLT]) rfl rfl ?_; simp only [go_sem, jE, reduceIte, jA, jM, jS, jL, jD, jB, g0, g1, bref]) | (refine qp (k1) (by simp only [go_sem, jE, reduceIte, jA, jM, jS, jL, jD, jB, g0, g1, bref]; first | done | rfl) rfl (by simp only [go_sem, Nat.reduceLT]) rfl rfl ?_; simp only [go_sem, jE, reduceIte, jA, jM, jS, jL, jD, jB, g0, g1, bref]) | (refine qp (k2) (by simp only [go_sem, jE, reduceIte, jA, jM, jS, jL, jD, jB, g0, g1, bref]; first | done | rfl) rfl (by simp only [go_sem, Nat.reduceLT]) rfl rfl ?_; simp only [go_sem, jE, reduceIte, jA, jM, jS, jL, jD, jB, g0, g1, bref]) | (refine qp (k3) (by simp only [go_sem, jE, reduceIte, jA, jM, jS, jL, jD, jB, g0, g1, bref]; first | done | rfl) rfl (by simp only [go_sem, Nat.reduceLT]) rfl rfl ?_; simp only [go_sem, jE, reduceIte, jA, jM, jS, jL, jD, jB, g0, g1, bref]))
    exact Aw_ret (ret0 (.inl rfl) (by simp only [go_sem, jE, reduceIte, jA, jM, jS, jL, jD, jB]; rfl) (by rfl) rfl)
  obtain ⟨hv, hl40⟩ := hv
  have va := hva hv
  obtain ⟨cut, hcut⟩ : ∃ cut, cut = more.length % (ds.length + 1) := ⟨_, rfl⟩
  have hcl : cut ≤ ds.length := by have := Nat.mod_lt more.length (show ds.length + 1 > 0 by omega); omega
  have z0 : (((ds.length + 1 : Nat) : Int) = 0) = False := eq_false (by omega)
  have w1 : IntKind.i64.wrap ((ds.length : Int) + 1) = ((ds.length + 1 : Nat) : Int) := wn rfl (by omega)
  have w2 : Int.tmod (more.length : Int) ((ds.length + 1 : Nat) : Int) = (cut : Nat) := by rw [hcut]; rfl
  have q1 := (pastTo_st hs hd ds.length (Nat.le_refl _)).1
  have v1 := past_va va ds.length (Nat.le_refl _)
  have hd1 : SmD (ds.take cut) := smD_sub hd fun d h => List.mem_of_mem_take h
  have hd2 : SmD (ds.drop cut) := smD_sub hd fun d h => List.mem_of_mem_drop h
  have q2 := (pastTo_st hs hd1 (ds.take cut).length (Nat.le_refl _)).1
  have v2 := past_va va (ds.take cut).length (Nat.le_refl _)
  have l1 : (ds.take cut).length ≤ 40 := by rw [List.length_take]; omega
  have l2 : (ds.drop cut).length ≤ 40 := by rw [List.length_drop]; omega
  have e1 : pdM s ds = some (pastTo s ds ds.length).1 := if_pos ⟨hv, hl40⟩
  have e2 : pdM s (ds.take cut) = some (pastTo s (ds.take cut) (ds.take cut).length).1 := if_pos ⟨hv, l1⟩
  have e3 : pdM (pastTo s (ds.take cut) (ds.take cut).length).1 (ds.drop cut) = some (pastTo s ds ds.length).1 := by
    rw [past_split s ds cut]; exact if_pos ⟨v2.ok, l2⟩
  have k4 := pastDoI_ac s (ds.take cut) hs hd1 (by omega)
  have k5 := pastDoI_ac (pastTo s (ds.take cut) (ds.take cut).length).1 (ds.drop cut) q2 hd2 (by omega)
  rw [e1] at k1 k2
  rw [e2] at k4
  rw [e3] at k5
  have t1 : List.take cut (List.map deedD ds) = List.map deedD (ds.take cut) := by rw [List.map_take]
  have t2 : List.drop cut (List.take ds.length (List.map deedD ds)) = List.map deedD (ds.drop cut) := by rw [List.take_of_length_le (by simp), List.map_drop]
  generalize (pastTo s (ds.take cut) (ds.take cut).length).1 = y at q2 v2 k4 k5
  generalize (pastTo s ds ds.length).1 = x at q1 v1 k1 k2 k5
  generalize ds.take cut = d1 at t1 k4
  generalize ds.drop cut = d2 at t2 k5
  have k1 : AC Tryz.prog 24 [stT s, deedsT ds] noHp 0 ⟨.tup [stT x, bT true], noHp, 0⟩ := k1
  have k2 : AC Tryz.prog 22 [stT s, deedsT ds] noHp 0 ⟨.tup [stT x, bT true], noHp, 0⟩ := k2
  have k4 : AC Tryz.prog 22 [stT s, deedsT d1] noHp 0 ⟨.tup [stT y, bT true], noHp, 0⟩ := k4
  have k5 : AC Tryz.prog 22 [stT y, deedsT d2] noHp 0 ⟨.tup [stT x, bT true], noHp, 0⟩ := k5
  have k3 := va_lt q1 v1
  have k6 := storeOkI_ac x q1
  rw [v1.ok] at k6
  have c1 : ((cut : Int) ≤ (ds.length : Int)) = True := eq_true (by omega)
  repeat (first | apply Aw_seq | apply Aw_block | apply Aw_skip | apply Aw_exit | refine Aw_condt rfl ?_ | refine Aw_condf rfl ?_ | ((first | refine qr ?_ | refine qd (by kernel_rfl) (by kernel_rfl) ?_); simp only [go_sem, jE, reduceIte, jA, jM, jS, jL, jD, jB, g0, g1, bref, z0, w1, w2, t1, t2, c1]) | refine dk (by kernel_rfl) ?_ | (refine qp (k0) (by simp only [go_sem, jE, reduceIte, jA, jM, jS, jL, jD, jB, g0, g1, bref, z0, w1, w2, t1, t2, c1]; first | done | rfl) rfl (by simp only [go_sem, Nat.reduceLT]) rfl rfl ?_; simp only [go_sem, jE, reduceIte, jA, jM, jS, jL, jD, jB, g0, g1, bref, z0, w1, w2, t1, t2, c1]) | (refine qp (k1) (by simp only [go_sem, jE, reduceIte, jA, jM, jS, jL, jD, jB, g0, g1, bref, z0, w1, w2, t1, t2, c1]; first | done | rfl) rfl (by simp only [go_sem, Nat.reduceLT]) rfl rfl ?_; simp only [go_sem, jE, reduceIte, jA, jM, jS, jL, jD, jB, g0, g1, bref, z0, w1, w2, t1, t2, c1]) | (refine qp (k2) (by simp only [go_sem, jE, reduceIte, jA, jM, jS, jL, jD, jB, g0, g1, bref, z0, w1, w2, t1, t2, c1]; first | done | rfl) rfl (by simp only [go_sem, Nat.reduceLT]) rfl rfl ?_; simp only [go_sem, jE, reduceIte, jA, jM, jS, jL, jD, jB, g0, g1, bref, z0, w1, w2, t1, t2, c1]) | (refine qp (k3) (by simp only [go_sem, jE, reduceIte, jA, jM, jS, jL, jD, jB, g0, g1, bref, z0, w1, w2, t1, t2, c1]; first | done | rfl) rfl (by simp only [go_sem, Nat.reduceLT]) rfl rfl ?_; simp only [go_sem, jE, reduceIte, jA, jM, jS, jL, jD, jB, g0, g1, bref, z0, w1, w2, t1, t2, c1]) | (refine qp (k4) (by simp only [go_sem, jE, reduceIte, jA, jM, jS, jL, jD, jB, g0, g1, bref, z0, w1, w2, t1, t2, c1]; first | done | rfl) rfl (by simp only [go_sem, Nat.reduceLT]) rfl rfl ?_; simp only [go_sem, jE, reduceIte, jA, jM, jS, jL, jD, jB, g0, g1, bref, z0, w1, w2, t1, t2, c1]) | (refine qp (k5) (by simp only [go_sem, jE, reduceIte, jA, jM, jS, jL, jD, jB, g0, g1, bref, z0, w1, w2, t1, t2, c1]; first | done | rfl) rfl (by simp only [go_sem, Nat.reduceLT]) rfl rfl ?_; simp only [go_sem, jE, reduceIte, jA, jM, jS, jL, jD, jB, g0, g1, bref, z0, w1, w2, t1, t2, c1]) | (refine qp (k6) (by simp only [go_sem, jE, reduceIte, jA, jM, jS, jL, jD, jB, g0, g1, bref, z0, w1, w2, t1, t2, c1]; first | done | rfl) rfl (by simp only [go_sem, Nat.reduceLT]) rfl rfl ?_; simp only [go_sem, jE, reduceIte, jA, jM, jS, jL, jD, jB, g0, g1, bref, z0, w1, w2, t1, t2, c1]))
  exact Aw_ret (ret0 (.inl rfl) (by simp only [go_sem, jE, reduceIte, jA, jM, jS, jL, jD, jB]; rfl) (by rfl) rfl)
end Go.Proofs.YtjolcfkepcmjnaaGreat.Ab
