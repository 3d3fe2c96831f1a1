/-
  Contracts: a store and deeds that are drawn. No condition.
  Contract: the law of time going on gives true, whatever the code. No condition.
-/
import Derived.Test.YtjolcfkepcmjnaaGreatZg
namespace Go.Proofs.YtjolcfkepcmjnaaGreat.Ab
open Nat renaming reduceEqDiff → jE, reduceAdd → jA, reduceMul → jM, reduceSub → jS, reduceLT → jL, reduceLeDiff → jD, reduceBEq → jB
set_option linter.deprecated false
set_option linter.unusedVariables false
set_option linter.unusedSimpArgs false
open Go Go.Proofs
set_option maxRecDepth 10000
set_option maxHeartbeats 8000000
noncomputable def dpaV (b : List Int) : Sto × List Deed :=
  if pickV b 1 8 = 0 then ((spoV b 2).1, (deedsV b (spoV b 2).2 36).1) else (eSto (pickV b 0 3 : Nat), (deedsV b 2 36).1)
theorem deeds_smD {b : List Int} (hb : byteL b) {p most : Nat} (hp : p ≤ 100000) (hm : most ≤ 100) : SmD (deedsV b p most).1 :=
  ⟨fun d hd => by have := (deedsV_fin hb hp hm).2.1 d hd; unfold smK; omega⟩
theorem drawPastAll_ac (c : List Int) (hl : c.length ≤ 1099511627776) (hb : byteL (c.take 2000)) : AC Tryz.prog 18 [bytesT c] noHp 0 ⟨.tup [stT (dpaV (c.take 2000)).1, deedsT (dpaV (c.take 2000)).2], noHp, 0⟩ := by
  have k0 := l6Open_ac c hl
  obtain ⟨b, hbe⟩ : ∃ b, b = c.take 2000 := ⟨_, rfl⟩
  rw [← hbe] at hb k0 ⊢
  have k3 := pickV_ac (n := 3) hb (show 0 ≤ 1000000 by omega) (by omega)
  have h3 := pickV_lt (n := 3) hb (show 0 ≤ 1000000 by omega) (by omega) (by omega)
  have k8 := pickV_ac (n := 8) hb (show 0 + 1 ≤ 1000000 by omega) (by omega)
  unfold dpaV
  obtain ⟨v, hv⟩ : ∃ v, v = pickV b 0 3 := ⟨_, rfl⟩
  rw [← hv] at k3 h3 ⊢
  have hlt : v < 3 := by omega
  have hx : ([[.d (.s (.int .i64 0))], [.d (.s (.int .i64 1))], [.d (.s (.int .i64 2))]] : List (List CV))[v]? = some [.d (.s (.int .i64 (v : Nat)))] := by
    match v, hlt with
    | 0, _ => rfl
    | 1, _ => rfl
    | 2, _ => rfl
  have kn := sstoreNew_ok v (by omega)
  by_cases c1 : pickV b 1 8 = 0
  · rw [if_pos c1]
    have g1 : decide (((pickV b (0 + 1) 8 : Nat) : Int) = 0) = true := decide_eq_true (by show ((pickV b 1 8 : Nat) : Int) = 0; omega)
    have ks := spoiltS_ac hb (p := 2) (by omega)
    obtain ⟨h, hq⟩ := spoV_fin hb (p := 2) (by omega)
    have kd := l71DeedsS_ac (p := (spoV b 2).2) (most := 36) hb (by omega) (by omega)
    rw [show ((36 : Nat) : Int) = 36 from rfl] at kd
    refine AC_of Tryz.func18 rfl Tryz.ntmps18 Tryz.results18 (by kernel_rfl) rfl ?_
    simp only [List.zipIdx, List.map, Nat.zero_add, Nat.reduceAdd]
    repeat (first | apply Aw_seq | apply Aw_block | apply Aw_skip | apply Aw_exit | refine Aw_condt rfl ?_ | refine Aw_condf rfl ?_ | ((first | refine qr ?_ | refine qd (by kernel_rfl) (by kernel_rfl) ?_); simp only [go_sem, jE, reduceIte, jA, jM, jS, jL, jD, jB, hx, hlt, g1]) | refine dk (by kernel_rfl) ?_ | (refine qp (kn) (by simp only [go_sem, jE, reduceIte, jA, jM, jS, jL, jD, jB, hx, hlt, g1]; first | done | rfl) rfl (by simp only [go_sem, Nat.reduceLT]) rfl rfl ?_; simp only [go_sem, jE, reduceIte, jA, jM, jS, jL, jD, jB, hx, hlt, g1]) | (refine qx (call_N (L := []) (k0) rfl (.cons (.nm rfl) (.nil)) (.inl rfl) rfl) (by simp only [go_sem, jE, reduceIte, jA, jM, jS, jL, jD, jB, hx, hlt, g1]; first | done | rfl) rfl (by simp only [go_sem, Nat.reduceLT]) ?_; simp only [go_sem, jE, reduceIte, jA, jM, jS, jL, jD, jB, hx, hlt, g1]) | (refine qx (call_L (N' := [3]) (L := []) (k3) rfl (.cons (.nm rfl) (.cons (.nm rfl) (.nil))) (by decide) (by decide) (by decide) (by simp only [go_sem, jE, reduceIte, jA, jM, jS, jL, jD, jB, hx, hlt, g1]; first | done | rfl) (.inl rfl) rfl (by decide)) (by simp only [go_sem, jE, reduceIte, jA, jM, jS, jL, jD, jB, hx, hlt, g1]; first | done | rfl) rfl (by simp only [go_sem, Nat.reduceLT]) ?_; simp only [go_sem, jE, reduceIte, jA, jM, jS, jL, jD, jB, hx, hlt, g1]) | (refine qx (call_L (N' := [3]) (L := []) (k8) rfl (.cons (.nm rfl) (.cons (.nm rfl) (.nil))) (by decide) (by decide) (by decide) (by simp only [go_sem, jE, reduceIte, jA, jM, jS, jL, jD, jB, hx, hlt, g1]; first | done | rfl) (.inl rfl) rfl (by decide)) (by simp only [go_sem, jE, reduceIte, jA, jM, jS, jL, jD, jB, hx, hlt, g1]; first | done | rfl) rfl (by simp only [go_sem, Nat.reduceLT]) ?_; simp only [go_sem, jE, reduceIte, jA, jM, jS, jL, jD, jB, hx, hlt, g1]) | (refine qx (call_L (N' := [3]) (L := []) (ks) rfl (.cons (.nm rfl) (.nil)) (by decide) (by decide) (by decide) (by simp only [go_sem, jE, reduceIte, jA, jM, jS, jL, jD, jB, hx, hlt, g1]; first | done | rfl) (.inl rfl) rfl (by decide)) (by simp only [go_sem, jE, reduceIte, jA, jM, jS, jL, jD, jB, hx, hlt, g1]; first | done | rfl) rfl (by simp only [go_sem, Nat.reduceLT]) ?_; simp only [go_sem, jE, reduceIte, jA, jM, jS, jL, jD, jB, hx, hlt, g1]) | (refine qx (call_L (N' := [3]) (L := []) (kd) rfl (.cons (.nm rfl) (.cons (.nm rfl) (.nil))) (by decide) (by decide) (by decide) (by simp only [go_sem, jE, reduceIte, jA, jM, jS, jL, jD, jB, hx, hlt, g1]; first | done | rfl) (.inl rfl) rfl (by decide)) (by simp only [go_sem, jE, reduceIte, jA, jM, jS, jL, jD, jB, hx, hlt, g1]; first | done | rfl) rfl (by simp only [go_sem, Nat.reduceLT]) ?_; simp only [go_sem, jE, reduceIte, jA, jM, jS, jL, jD, jB, hx, hlt, g1]))
    exact Aw_ret (ret0 (.inl rfl) (by simp only [go_sem, jE, reduceIte, jA, jM, jS, jL, jD, jB]; rfl) (by rfl) rfl)
  · rw [if_neg c1]
    have g1 : decide (((pickV b (0 + 1) 8 : Nat) : Int) = 0) = false := decide_eq_false (by show ¬ ((pickV b 1 8 : Nat) : Int) = 0; omega)
    have kd := l71DeedsS_ac (p := 0 + 1 + 1) (most := 36) hb (by omega) (by omega)
    rw [show ((36 : Nat) : Int) = 36 from rfl] at kd
    refine AC_of Tryz.func18 rfl Tryz.ntmps18 Tryz.results18 (by kernel_rfl) rfl ?_
    simp only [List.zipIdx, List.map, Nat.zero_add, Nat.reduceAdd]
    repeat (first | apply Aw_seq | apply Aw_block | apply Aw_skip | apply Aw_exit | refine Aw_condt rfl ?_ | refine Aw_condf rfl ?_ | ((first | refine qr ?_ | refine qd (by kernel_rfl) (by kernel_rfl) ?_); simp only [go_sem, jE, reduceIte, jA, jM, jS, jL, jD, jB, hx, hlt, g1]) | refine dk (by kernel_rfl) ?_ | (refine qp (kn) (by simp only [go_sem, jE, reduceIte, jA, jM, jS, jL, jD, jB, hx, hlt, g1]; first | done | rfl) rfl (by simp only [go_sem, Nat.reduceLT]) rfl rfl ?_; simp only [go_sem, jE, reduceIte, jA, jM, jS, jL, jD, jB, hx, hlt, g1]) | (refine qx (call_N (L := []) (k0) rfl (.cons (.nm rfl) (.nil)) (.inl rfl) rfl) (by simp only [go_sem, jE, reduceIte, jA, jM, jS, jL, jD, jB, hx, hlt, g1]; first | done | rfl) rfl (by simp only [go_sem, Nat.reduceLT]) ?_; simp only [go_sem, jE, reduceIte, jA, jM, jS, jL, jD, jB, hx, hlt, g1]) | (refine qx (call_L (N' := [3]) (L := []) (k3) rfl (.cons (.nm rfl) (.cons (.nm rfl) (.nil))) (by decide) (by decide) (by decide) (by simp only [go_sem, jE, reduceIte, jA, jM, jS, jL, jD, jB, hx, hlt, g1]; first | done | rfl) (.inl rfl) rfl (by decide)) (by simp only [go_sem, jE, reduceIte, jA, jM, jS, jL, jD, jB, hx, hlt, g1]; first | done | rfl) rfl (by simp only [go_sem, Nat.reduceLT]) ?_; simp only [go_sem, jE, reduceIte, jA, jM, jS, jL, jD, jB, hx, hlt, g1]) | (refine qx (call_L (N' := [3]) (L := []) (k8) rfl (.cons (.nm rfl) (.cons (.nm rfl) (.nil))) (by decide) (by decide) (by decide) (by simp only [go_sem, jE, reduceIte, jA, jM, jS, jL, jD, jB, hx, hlt, g1]; first | done | rfl) (.inl rfl) rfl (by decide)) (by simp only [go_sem, jE, reduceIte, jA, jM, jS, jL, jD, jB, hx, hlt, g1]; first | done | rfl) rfl (by simp only [go_sem, Nat.reduceLT]) ?_; simp only [go_sem, jE, reduceIte, jA, jM, jS, jL, jD, jB, hx, hlt, g1]) | (refine qx (call_L (N' := [3]) (L := []) (kd) rfl (.cons (.nm rfl) (.cons (.nm rfl) (.nil))) (by decide) (by decide) (by decide) (by simp only [go_sem, jE, reduceIte, jA, jM, jS, jL, jD, jB, hx, hlt, g1]; first | done | rfl) (.inl rfl) rfl (by decide)) (by simp only [go_sem, jE, reduceIte, jA, jM, jS, jL, jD, jB, hx, hlt, g1]; first | done | rfl) rfl (by simp only [go_sem, Nat.reduceLT]) ?_; simp only [go_sem, jE, reduceIte, jA, jM, jS, jL, jD, jB, hx, hlt, g1]))
    exact Aw_ret (ret0 (.inl rfl) (by simp only [go_sem, jE, reduceIte, jA, jM, jS, jL, jD, jB]; rfl) (by rfl) rfl)
theorem dpaV_st {b : List Int} (hb : byteL b) : SmSt (dpaV b).1 ∧ SmD (dpaV b).2 ∧ (dpaV b).2.length ≤ 40 ∧ (storeS (dpaV b).1 = true → Va (dpaV b).1) := by
  obtain ⟨h, hq⟩ := spoV_fin hb (p := 2) (by omega)
  have h3 := pickV_lt (n := 3) hb (show 0 ≤ 1000000 by omega) (by omega) (by omega)
  unfold dpaV
  split
  · exact ⟨h.st, deeds_smD hb (by omega) (by omega), by have := (deedsV_fin hb (p := (spoV b 2).2) (most := 36) (by omega) (by omega)).1; show (deedsV b (spoV b 2).2 36).1.length ≤ 40; omega, spoV_va⟩
  · exact ⟨eSto_st _, deeds_smD hb (by omega) (by omega), by have := (deedsV_fin hb (p := 2) (most := 36) (by omega) (by omega)).1; show (deedsV b 2 36).1.length ≤ 40; omega, fun _ => eSto_va (by omega)⟩
theorem law_PastAllD (c : List Int) (ho : okY c) (more : List Int) (hm : okY more) : AC Tryz.prog 5 [bytesT c, bytesT more] noHp 0 ⟨.t (bT true), noHp, 0⟩ := by
  refine AC_of Tryz.func5 rfl Tryz.ntmps5 Tryz.results5 (by kernel_rfl) rfl ?_
  simp only [List.zipIdx, List.map, Nat.zero_add, Nat.reduceAdd]
  by_cases hc : c.length ≤ 1048576
  case neg =>
    have g0 : decide ((1048576 : Int) < (c.length : Int)) = true := decide_eq_true (by omega)
    repeat (first | apply Aw_seq | apply Aw_block | apply Aw_skip | apply Aw_exit | refine Aw_condt rfl ?_ | refine Aw_condf rfl ?_ | ((first | refine qr ?_ | refine qd (by kernel_rfl) (by kernel_rfl) ?_); simp only [go_sem, jE, reduceIte, jA, jM, jS, jL, jD, jB, g0]) | refine dk (by kernel_rfl) ?_)
    exact Aw_ret (ret0 (.inl rfl) (by simp only [go_sem, jE, reduceIte, jA, jM, jS, jL, jD, jB]; rfl) (by rfl) rfl)
  have g0 : decide ((1048576 : Int) < (c.length : Int)) = false := decide_eq_false (by omega)
  by_cases hm2 : more.length ≤ 1048576
  case neg =>
    have g1 : decide ((1048576 : Int) < (more.length : Int)) = true := decide_eq_true (by omega)
    repeat (first | apply Aw_seq | apply Aw_block | apply Aw_skip | apply Aw_exit | refine Aw_condt rfl ?_ | refine Aw_condf rfl ?_ | ((first | refine qr ?_ | refine qd (by kernel_rfl) (by kernel_rfl) ?_); simp only [go_sem, jE, reduceIte, jA, jM, jS, jL, jD, jB, g0, g1]) | refine dk (by kernel_rfl) ?_)
    exact Aw_ret (ret0 (.inl rfl) (by simp only [go_sem, jE, reduceIte, jA, jM, jS, jL, jD, jB]; rfl) (by rfl) rfl)
  have g1 : decide ((1048576 : Int) < (more.length : Int)) = false := decide_eq_false (by omega)
  have hb := ho.byte
  have k0 := drawPastAll_ac c (by omega) hb
  obtain ⟨hs, hd, hl, hva⟩ := dpaV_st hb
  generalize dpaV (c.take 2000) = sk at k0 hs hd hl hva
  obtain ⟨s, ds⟩ := sk
  dsimp only at k0 hs hd hl hva
  have k1 := pastAllS_ac s ds hs hd (by omega)
  have k2 := pastAllI_ac s ds hs hd (by omega)
  have hpl := (pastM_len hs hd).1
  have k3 := ltRuns_ac (pastM s ds) (by omega)
  have k7 := sstoreOk_ac s hs
  cases hv : storeS s
  · rw [hv] at k7
    generalize pastM s ds = q at k1 k2 k3
    repeat (first | apply Aw_seq | apply Aw_block | apply Aw_skip | apply Aw_exit | refine Aw_condt rfl ?_ | refine Aw_condf rfl ?_ | ((first | refine qr ?_ | refine qd (by kernel_rfl) (by kernel_rfl) ?_); simp only [go_sem, jE, reduceIte, jA, jM, jS, jL, jD, jB, g0, g1, bref]) | refine dk (by kernel_rfl) ?_ | (refine qp (k0) (by simp only [go_sem, jE, reduceIte, jA, jM, jS, jL, jD, jB, g0, g1, bref]; first | done | rfl) rfl (by simp only [go_sem, Nat.reduceLT]) rfl rfl ?_; simp only [go_sem, jE, reduceIte, jA, jM, jS, jL, jD, jB, g0, g1, bref]) | (refine qp (k1) (by simp only [go_sem, jE, reduceIte, jA, jM, jS, jL, jD, jB, g0, g1, bref]; first | done | rfl) rfl (by simp only [go_sem, Nat.reduceLT]) rfl rfl ?_; simp only [go_sem, jE, reduceIte, jA, jM, jS, jL, jD, jB, g0, g1, bref]) | (refine qp (k2) (by simp only [go_sem, jE, reduceIte, jA, jM, jS, jL, jD, jB, g0, g1, bref]; first | done | rfl) rfl (by simp only [go_sem, Nat.reduceLT]) rfl rfl ?_; simp only [go_sem, jE, reduceIte, jA, jM, jS, jL, jD, jB, g0, g1, bref]) | (refine qp (k3) (by simp only [go_sem, jE, reduceIte, jA, jM, jS, jL, jD, jB, g0, g1, bref]; first | done | rfl) rfl (by simp only [go_sem, Nat.reduceLT]) rfl rfl ?_; simp only [go_sem, jE, reduceIte, jA, jM, jS, jL, jD, jB, g0, g1, bref]) | (refine qp (k7) (by simp only [go_sem, jE, reduceIte, jA, jM, jS, jL, jD, jB, g0, g1, bref]; first | done | rfl) rfl (by simp only [go_sem, Nat.reduceLT]) rfl rfl ?_; simp only [go_sem, jE, reduceIte, jA, jM, jS, jL, jD, jB, g0, g1, bref]))
    exact Aw_ret (ret0 (.inl rfl) (by simp only [go_sem, jE, reduceIte, jA, jM, jS, jL, jD, jB]; rfl) (by rfl) rfl)
  rw [hv] at k7
  have va := hva hv
  obtain ⟨cut, hcut⟩ : ∃ cut, cut = more.length % (ds.length + 1) := ⟨_, rfl⟩
  have hcl : cut ≤ ds.length := by have := Nat.mod_lt more.length (show ds.length + 1 > 0 by omega); omega
  have g3 : decide ((40 : Int) < (ds.length : Int)) = false := decide_eq_false (by omega)
  have z0 : (((ds.length + 1 : Nat) : Int) = 0) = False := eq_false (by omega)
  have w1 : IntKind.i64.wrap ((ds.length : Int) + 1) = ((ds.length + 1 : Nat) : Int) := wn rfl (by omega)
  have w2 : Int.tmod (more.length : Int) ((ds.length + 1 : Nat) : Int) = (cut : Nat) := by rw [hcut]; rfl
  have c1 : ((cut : Int) ≤ (ds.length : Int)) = True := eq_true (by omega)
  have hd1 : SmD (ds.take cut) := ⟨fun d h => hd.key d (List.mem_of_mem_take h)⟩
  have hd2 : SmD (ds.drop cut) := ⟨fun d h => hd.key d (List.mem_of_mem_drop h)⟩
  have q2 := (pastTo_st hs hd1 (ds.take cut).length (Nat.le_refl _)).1
  have v2 := past_va va (ds.take cut).length (Nat.le_refl _)
  have l1 : (ds.take cut).length ≤ 40 := by rw [List.length_take]; omega
  have l2 : (ds.drop cut).length ≤ 40 := by rw [List.length_drop]; omega
  have e2 : pdM s (ds.take cut) = some (pastTo s (ds.take cut) (ds.take cut).length).1 := if_pos ⟨hv, l1⟩
  have e3 : pastM s ds = pastM s (ds.take cut) ++ pastM (pastTo s (ds.take cut) (ds.take cut).length).1 (ds.drop cut) := by
    unfold pastM
    rw [if_pos ⟨hv, hl⟩, if_pos ⟨hv, l1⟩, if_pos ⟨v2.ok, l2⟩, past_split s ds cut]
  have e4 : pastM s ds = (pastTo s ds ds.length).2 := by unfold pastM; rw [if_pos ⟨hv, hl⟩]
  have tt := (past_times va ds.length (Nat.le_refl _)).2
  rw [← e4] at tt
  have k4 := pastDoI_ac s (ds.take cut) hs hd1 (by omega)
  rw [e2] at k4
  have k5 := pastAllI_ac s (ds.take cut) hs hd1 (by omega)
  have k6 := pastAllI_ac (pastTo s (ds.take cut) (ds.take cut).length).1 (ds.drop cut) q2 hd2 (by omega)
  have p5 := (pastM_len hs hd1).1
  have p6 := (pastM_len q2 hd2).1
  have t1 : List.take cut (List.map deedD ds) = List.map deedD (ds.take cut) := by rw [List.map_take]
  have t2 : List.drop cut (List.take ds.length (List.map deedD ds)) = List.map deedD (ds.drop cut) := by rw [List.take_of_length_le (by simp), List.map_drop]
  generalize (pastTo s (ds.take cut) (ds.take cut).length).1 = y at q2 v2 k4 k6 e3 p6
  generalize ds.take cut = d1 at t1 k4 k5 e3 p5
  generalize ds.drop cut = d2 at t2 k6 e3 p6
  generalize pastM s d1 = a1 at k5 e3 p5
  generalize pastM y d2 = a2 at k6 e3 p6
  generalize pastM s ds = a at k1 k2 k3 e3 tt hpl
  have k4 : AC Tryz.prog 22 [stT s, deedsT d1] noHp 0 ⟨.tup [stT y, bT true], noHp, 0⟩ := k4
  have h6 := va.tm
  unfold inB at h6
  rw [Bool.and_eq_true] at h6
  have t0 := of_decide_eq_true h6.1; have t9 := of_decide_eq_true h6.2
  have w3 : IntKind.i64.wrap (s.time + 1) = s.time + 1 := wrap_in (by omega) (by omega)
  have r1 : ((a1.length) * 40 ≤ 140737488355328) = True := eq_true (by omega)
  have r2 : ((a1.length + a2.length) * 40 ≤ 140737488355328) = True := eq_true (by omega)
  repeat (first | apply Aw_seq | apply Aw_block | apply Aw_skip | apply Aw_exit | refine Aw_condt rfl ?_ | refine Aw_condf rfl ?_ | ((first | refine qr ?_ | refine qd (by kernel_rfl) (by kernel_rfl) ?_); simp only [go_sem, jE, reduceIte, jA, jM, jS, jL, jD, jB, g0, g1, bref, g3, z0, w1, w2, t1, t2, c1, r1, r2]) | refine dk (by kernel_rfl) ?_ | (refine qp (k0) (by simp only [go_sem, jE, reduceIte, jA, jM, jS, jL, jD, jB, g0, g1, bref, g3, z0, w1, w2, t1, t2, c1, r1, r2]; first | done | rfl) rfl (by simp only [go_sem, Nat.reduceLT]) rfl rfl ?_; simp only [go_sem, jE, reduceIte, jA, jM, jS, jL, jD, jB, g0, g1, bref, g3, z0, w1, w2, t1, t2, c1, r1, r2]) | (refine qp (k1) (by simp only [go_sem, jE, reduceIte, jA, jM, jS, jL, jD, jB, g0, g1, bref, g3, z0, w1, w2, t1, t2, c1, r1, r2]; first | done | rfl) rfl (by simp only [go_sem, Nat.reduceLT]) rfl rfl ?_; simp only [go_sem, jE, reduceIte, jA, jM, jS, jL, jD, jB, g0, g1, bref, g3, z0, w1, w2, t1, t2, c1, r1, r2]) | (refine qp (k2) (by simp only [go_sem, jE, reduceIte, jA, jM, jS, jL, jD, jB, g0, g1, bref, g3, z0, w1, w2, t1, t2, c1, r1, r2]; first | done | rfl) rfl (by simp only [go_sem, Nat.reduceLT]) rfl rfl ?_; simp only [go_sem, jE, reduceIte, jA, jM, jS, jL, jD, jB, g0, g1, bref, g3, z0, w1, w2, t1, t2, c1, r1, r2]) | (refine qp (k3) (by simp only [go_sem, jE, reduceIte, jA, jM, jS, jL, jD, jB, g0, g1, bref, g3, z0, w1, w2, t1, t2, c1, r1, r2]; first | done | rfl) rfl (by simp only [go_sem, Nat.reduceLT]) rfl rfl ?_; simp only [go_sem, jE, reduceIte, jA, jM, jS, jL, jD, jB, g0, g1, bref, g3, z0, w1, w2, t1, t2, c1, r1, r2]) | (refine qp (k4) (by simp only [go_sem, jE, reduceIte, jA, jM, jS, jL, jD, jB, g0, g1, bref, g3, z0, w1, w2, t1, t2, c1, r1, r2]; first | done | rfl) rfl (by simp only [go_sem, Nat.reduceLT]) rfl rfl ?_; simp only [go_sem, jE, reduceIte, jA, jM, jS, jL, jD, jB, g0, g1, bref, g3, z0, w1, w2, t1, t2, c1, r1, r2]) | (refine qp (k5) (by simp only [go_sem, jE, reduceIte, jA, jM, jS, jL, jD, jB, g0, g1, bref, g3, z0, w1, w2, t1, t2, c1, r1, r2]; first | done | rfl) rfl (by simp only [go_sem, Nat.reduceLT]) rfl rfl ?_; simp only [go_sem, jE, reduceIte, jA, jM, jS, jL, jD, jB, g0, g1, bref, g3, z0, w1, w2, t1, t2, c1, r1, r2]) | (refine qp (k6) (by simp only [go_sem, jE, reduceIte, jA, jM, jS, jL, jD, jB, g0, g1, bref, g3, z0, w1, w2, t1, t2, c1, r1, r2]; first | done | rfl) rfl (by simp only [go_sem, Nat.reduceLT]) rfl rfl ?_; simp only [go_sem, jE, reduceIte, jA, jM, jS, jL, jD, jB, g0, g1, bref, g3, z0, w1, w2, t1, t2, c1, r1, r2]) | (refine qp (k7) (by simp only [go_sem, jE, reduceIte, jA, jM, jS, jL, jD, jB, g0, g1, bref, g3, z0, w1, w2, t1, t2, c1, r1, r2]; first | done | rfl) rfl (by simp only [go_sem, Nat.reduceLT]) rfl rfl ?_; simp only [go_sem, jE, reduceIte, jA, jM, jS, jL, jD, jB, g0, g1, bref, g3, z0, w1, w2, t1, t2, c1, r1, r2]))
  refine Aw.rw (rwL (l' := [(12, .t (iT (0 : Nat))), (11, .t (.c (.h 0))), (10, .t (bT true)), (7, .t (runT a)), (5, .t (.c (.ph 1 0 0)))]) (os := [some (eRow (a1 ++ a2)), some (stO s)]) (M := [59, 13]) (n' := 2) (by repeat (first | exact trivial | refine ⟨rfl, rfl, ?_⟩)) (by rfl) (by simp only [go_sem, jE, reduceIte, jA, jM, jS, jL, jD, jB, List.map_append]; first | done | rfl) (by decide) (by unfold idM; decide)) ?_
  refine Aw.setL (l' := [(12, .t (iT (0 : Nat))), (11, .t (runT (a1 ++ a2))), (10, .t (bT true)), (7, .t (runT a)), (5, .t (.c (.ph 1 0 0)))]) (os' := [none, some (stO s)]) (n' := 2) [0] (by repeat (first | exact trivial | refine ⟨SetA.same rfl, ?_⟩ | refine ⟨SetA.row rfl rfl (by decide), ?_⟩)) (by repeat (first | exact trivial | refine ⟨rfl, rfl, ?_⟩ | show SubL _ _ _ _)) (by decide) ?_
  rw [← e3]
  refine Aw_loop_rw (ι := { i : Nat // i ≤ a.length }) (fun q => S [(12, .t (iT (q.1 : Nat))), (11, .t (runT a)), (10, .t (bT true)), (7, .t (runT a)), (5, .t (.c (.ph 1 0 0)))] (hpL [none, some (stO s)]) 2) (fun q => a.length - q.1) ⟨0, Nat.zero_le _⟩ ?_
  rintro ⟨i, hi⟩
  dsimp only
  by_cases hlt : i < a.length
  · have g4 : decide ((i : Int) < (a.length : Int)) = true := decide_eq_true (by omega)
    have w5 := wrap_succ hlt (by omega)
    obtain ⟨e, hx⟩ : ∃ e, a[i]? = some e := ⟨_, List.getElem?_eq_getElem hlt⟩
    have he := tt i e hx
    have w4 : IntKind.i64.wrap (s.time + 1 + (i : Int)) = s.time + 1 + (i : Int) := wrap_in (by omega) (by omega)
    have g5 : decide (e.time = s.time + 1 + (i : Int)) = true := decide_eq_true he
    repeat (first | apply Aw_seq | apply Aw_block | apply Aw_skip | apply Aw_exit | refine Aw_condt rfl ?_ | refine Aw_condf rfl ?_ | ((first | refine qr ?_ | refine qd (by kernel_rfl) (by kernel_rfl) ?_); simp only [go_sem, jE, reduceIte, jA, jM, jS, jL, jD, jB, g4, w3, w4, w5, hx, g5]) | refine dk (by kernel_rfl) ?_)
    refine ⟨⟨i + 1, hlt⟩, [0, 1], ?_, rwL (by repeat (first | exact trivial | refine ⟨rfl, rfl, ?_⟩)) (by rfl) (by simp only [go_sem, jE, reduceIte, jA, jM, jS, jL, jD, jB]; first | done | rfl) (by decide) (by unfold idM; decide)⟩
    show a.length - (i + 1) < a.length - i; omega
  · have g4 : decide ((i : Int) < (a.length : Int)) = false := decide_eq_false (by omega)
    repeat (first | apply Aw_seq | apply Aw_block | apply Aw_skip | apply Aw_exit | refine Aw_condt rfl ?_ | refine Aw_condf rfl ?_ | ((first | refine qr ?_ | refine qd (by kernel_rfl) (by kernel_rfl) ?_); simp only [go_sem, jE, reduceIte, jA, jM, jS, jL, jD, jB, g4]) | refine dk (by kernel_rfl) ?_ | (refine qp (k3) (by simp only [go_sem, jE, reduceIte, jA, jM, jS, jL, jD, jB, g4]; first | done | rfl) rfl (by simp only [go_sem, Nat.reduceLT]) rfl rfl ?_; simp only [go_sem, jE, reduceIte, jA, jM, jS, jL, jD, jB, g4]))
    exact Aw_ret (ret0 (.inl rfl) (by simp only [go_sem, jE, reduceIte, jA, jM, jS, jL, jD, jB]; rfl) (by rfl) rfl)
end Go.Proofs.YtjolcfkepcmjnaaGreat.Ab
