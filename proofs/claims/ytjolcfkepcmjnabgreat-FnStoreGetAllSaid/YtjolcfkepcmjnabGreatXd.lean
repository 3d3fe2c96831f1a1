/-
  Contracts: what can be done to a store, the reference's. No condition.
  Contracts: a time that is held, or freed, the reference's. No condition.
  Contracts: deeds, one behind the other, the reference's. No condition.
  Contracts: what deeds write, the reference's. No condition.
  Contract: deeds, one behind the other, that leave a store of its own, the reference's. No condition.
  Rules for rows that are lent. No condition.
  Plain law: a small number is its own remainder. No condition.
  Contracts: what reads a code, and draws a number from it. No condition.
  Contracts: a key that is put into its place, the reference's. No condition.
  The drawn number, and a key that is put into its place. No condition.
  Contracts: keys that are drawn, the reference's. No condition.
  Contracts: keys near others that are drawn, the reference's. No condition.
  Contracts: deeds that are drawn, the reference's. No condition.
  Contracts: all that was put, drawn, the reference's. No condition.
  Contract: a store that is drawn, the reference's. No condition.
  What deeds keep of a store. No condition.
  What deeds keep of a store's sieves. No condition.
  Contract: a store that is drawn, some spoilt, the reference's. No condition.
  Contract: a store that is drawn for its check, the reference's. No condition.
-/
import Derived.Test.YtjolcfkepcmjnabGreatXc
namespace Go.Proofs.YtjolcfkepcmjnabGreat.Ab
open Nat (reduceEqDiff reduceAdd reduceMul reduceSub reduceLT reduceLeDiff)
set_option linter.deprecated false
set_option linter.unusedVariables false
set_option linter.unusedSimpArgs false
open Go Go.Proofs
set_option maxRecDepth 10000
set_option maxHeartbeats 8000000
abbrev resO (o : Option Sto) : AV := .tup [stT (o.getD zSto), bT o.isSome]
/-- What is given: a store of its own, or nothing. -/
def OwnR (f : FuncId) (args : List TV) (o : Option Sto) : Prop := (∀ x, o = some x → AC Tryz.prog f args noHp 0 ⟨.tup [hT x, bT true], hpL (hS x), 4⟩) ∧ (o = none → AC Tryz.prog f args noHp 0 ⟨.tup [zA, bT false], noHp, 0⟩)
theorem OwnR.set {f : FuncId} {args : List TV} {o : Option Sto} (h : OwnR f args o) : AC Tryz.prog f args noHp 0 ⟨resO o, noHp, 0⟩ := by
  cases o with
  | none => exact AC.nilR (h.2 rfl) zA_nil
  | some x => exact AC.settle0 [0, 1, 2, 3] (h.1 x rfl) (.cons (.cons (SetC.row0 rfl rfl) (.cons (SetC.row0 rfl rfl) (.cons (SetC.row0 rfl rfl) (.cons (.inl rfl) (.cons (.inl rfl) (.cons (SetC.row0 rfl rfl) .nil)))))) (.cons (.inl rfl) .nil)) rfl
theorem l12Add_own (s : Sto) (e : Ent) (hs : SmSt s) (he : smK e.key) : OwnR 154 [stT s, entT e] (addM s e) := ⟨fun x h => l12Add_okR s x e hs he h, fun h => l12Add_no s e hs he h⟩
def nextT (s : Sto) : Int := IntKind.i64.wrap (s.time + 1)
def putM (s : Sto) (k : ByteArray) (v : Int) : Option Sto := addM s ⟨k, v, false, nextT s⟩
def takeM (s : Sto) (k : ByteArray) : Option Sto := addM s ⟨k, 0, true, nextT s⟩
theorem storePutS_own (s : Sto) (k : ByteArray) (v : Int) (hs : SmSt s) (hk : smK k) : OwnR 145 [stT s, sT k, iT v] (putM s k v) := by
  obtain ⟨h1, h2⟩ := l12Add_own s ⟨k, v, false, nextT s⟩ hs hk
  refine ⟨fun x hx => ?_, fun hx => ?_⟩
  · have h := h1 x hx
    unfold nextT at h
    refine AC_of Tryz.func145 rfl Tryz.ntmps145 Tryz.results145 (by kernel_rfl) rfl ?_
    simp only [List.zipIdx, List.map, Nat.zero_add, Nat.reduceAdd]
    repeat (first | apply Aw_seq | apply Aw_block | apply Aw_skip | apply Aw_exit | refine Aw_condt rfl ?_ | refine Aw_condf rfl ?_ | ((first | refine qr ?_ | refine qd (by kernel_rfl) (by kernel_rfl) ?_); simp only [go_sem, reduceEqDiff, reduceIte, reduceAdd, reduceMul, reduceSub, reduceLT, reduceLeDiff, Nat.reduceBEq]) | refine dk (by kernel_rfl) ?_ | (refine qx (call_N (L := []) (h) rfl (.cons (.nm rfl) (.cons (.nm rfl) (.nil))) (.inl rfl) rfl) (by simp only [go_sem, reduceEqDiff, reduceIte, reduceAdd, reduceMul, reduceSub, reduceLT, reduceLeDiff, Nat.reduceBEq]; first | done | rfl) rfl (by simp only [go_sem, Nat.reduceLT]) ?_; simp only [go_sem, reduceEqDiff, reduceIte, reduceAdd, reduceMul, reduceSub, reduceLT, reduceLeDiff, Nat.reduceBEq]))
    exact Aw_ret (retL (M := [10, 11, 12, 13]) (.inl rfl) (by simp only [go_sem, reduceEqDiff, reduceIte, reduceAdd, reduceMul, reduceSub, reduceLT, reduceLeDiff, Nat.reduceBEq]; first | done | rfl) rfl rfl (by rfl) (by simp only [go_sem, reduceEqDiff, reduceIte, reduceAdd, reduceMul, reduceSub, reduceLT, reduceLeDiff, Nat.reduceBEq]; first | done | rfl | (and_intros <;> rfl)) (by decide) (by intro m hm; first | omega | (rcases m with _ | _ | _ | _ | _ | _ | m <;> first | exact ⟨by decide, rfl⟩ | omega)))
  · have h := h2 hx
    unfold nextT at h
    refine AC_of Tryz.func145 rfl Tryz.ntmps145 Tryz.results145 (by kernel_rfl) rfl ?_
    simp only [List.zipIdx, List.map, Nat.zero_add, Nat.reduceAdd]
    repeat (first | apply Aw_seq | apply Aw_block | apply Aw_skip | apply Aw_exit | refine Aw_condt rfl ?_ | refine Aw_condf rfl ?_ | ((first | refine qr ?_ | refine qd (by kernel_rfl) (by kernel_rfl) ?_); simp only [go_sem, reduceEqDiff, reduceIte, reduceAdd, reduceMul, reduceSub, reduceLT, reduceLeDiff, Nat.reduceBEq]) | refine dk (by kernel_rfl) ?_ | (refine qp (h) (by simp only [go_sem, reduceEqDiff, reduceIte, reduceAdd, reduceMul, reduceSub, reduceLT, reduceLeDiff, Nat.reduceBEq]; first | done | rfl) rfl (by simp only [go_sem, Nat.reduceLT]) rfl rfl ?_; simp only [go_sem, reduceEqDiff, reduceIte, reduceAdd, reduceMul, reduceSub, reduceLT, reduceLeDiff, Nat.reduceBEq]))
    exact Aw_ret (ret0 (.inl rfl) (by simp only [go_sem, reduceEqDiff, reduceIte, reduceAdd, reduceMul, reduceSub, reduceLT, reduceLeDiff, Nat.reduceBEq]; rfl) (by rfl) rfl)
theorem storeTakeS_own (s : Sto) (k : ByteArray) (hs : SmSt s) (hk : smK k) : OwnR 146 [stT s, sT k] (takeM s k) := by
  obtain ⟨h1, h2⟩ := l12Add_own s ⟨k, 0, true, nextT s⟩ hs hk
  refine ⟨fun x hx => ?_, fun hx => ?_⟩
  · have h := h1 x hx
    unfold nextT at h
    refine AC_of Tryz.func146 rfl Tryz.ntmps146 Tryz.results146 (by kernel_rfl) rfl ?_
    simp only [List.zipIdx, List.map, Nat.zero_add, Nat.reduceAdd]
    repeat (first | apply Aw_seq | apply Aw_block | apply Aw_skip | apply Aw_exit | refine Aw_condt rfl ?_ | refine Aw_condf rfl ?_ | ((first | refine qr ?_ | refine qd (by kernel_rfl) (by kernel_rfl) ?_); simp only [go_sem, reduceEqDiff, reduceIte, reduceAdd, reduceMul, reduceSub, reduceLT, reduceLeDiff, Nat.reduceBEq]) | refine dk (by kernel_rfl) ?_ | (refine qx (call_N (L := []) (h) rfl (.cons (.nm rfl) (.cons (.nm rfl) (.nil))) (.inl rfl) rfl) (by simp only [go_sem, reduceEqDiff, reduceIte, reduceAdd, reduceMul, reduceSub, reduceLT, reduceLeDiff, Nat.reduceBEq]; first | done | rfl) rfl (by simp only [go_sem, Nat.reduceLT]) ?_; simp only [go_sem, reduceEqDiff, reduceIte, reduceAdd, reduceMul, reduceSub, reduceLT, reduceLeDiff, Nat.reduceBEq]))
    exact Aw_ret (retL (M := [9, 10, 11, 12]) (.inl rfl) (by simp only [go_sem, reduceEqDiff, reduceIte, reduceAdd, reduceMul, reduceSub, reduceLT, reduceLeDiff, Nat.reduceBEq]; first | done | rfl) rfl rfl (by rfl) (by simp only [go_sem, reduceEqDiff, reduceIte, reduceAdd, reduceMul, reduceSub, reduceLT, reduceLeDiff, Nat.reduceBEq]; first | done | rfl | (and_intros <;> rfl)) (by decide) (by intro m hm; first | omega | (rcases m with _ | _ | _ | _ | _ | _ | m <;> first | exact ⟨by decide, rfl⟩ | omega)))
  · have h := h2 hx
    unfold nextT at h
    refine AC_of Tryz.func146 rfl Tryz.ntmps146 Tryz.results146 (by kernel_rfl) rfl ?_
    simp only [List.zipIdx, List.map, Nat.zero_add, Nat.reduceAdd]
    repeat (first | apply Aw_seq | apply Aw_block | apply Aw_skip | apply Aw_exit | refine Aw_condt rfl ?_ | refine Aw_condf rfl ?_ | ((first | refine qr ?_ | refine qd (by kernel_rfl) (by kernel_rfl) ?_); simp only [go_sem, reduceEqDiff, reduceIte, reduceAdd, reduceMul, reduceSub, reduceLT, reduceLeDiff, Nat.reduceBEq]) | refine dk (by kernel_rfl) ?_ | (refine qp (h) (by simp only [go_sem, reduceEqDiff, reduceIte, reduceAdd, reduceMul, reduceSub, reduceLT, reduceLeDiff, Nat.reduceBEq]; first | done | rfl) rfl (by simp only [go_sem, Nat.reduceLT]) rfl rfl ?_; simp only [go_sem, reduceEqDiff, reduceIte, reduceAdd, reduceMul, reduceSub, reduceLT, reduceLeDiff, Nat.reduceBEq]))
    exact Aw_ret (ret0 (.inl rfl) (by simp only [go_sem, reduceEqDiff, reduceIte, reduceAdd, reduceMul, reduceSub, reduceLT, reduceLeDiff, Nat.reduceBEq]; rfl) (by rfl) rfl)
def sDownM (s : Sto) : Option Sto := if storeS s = true then downM s else none
theorem storeDownS_own (s : Sto) (hs : SmSt s) : OwnR 149 [stT s] (sDownM s) := by
  have k1 := sstoreOk_ac s hs
  unfold sDownM
  cases c1 : storeS s
  · rw [c1] at k1
    refine ⟨fun x hx => (by cases hx), fun _ => ?_⟩
    refine AC_of Tryz.func149 rfl Tryz.ntmps149 Tryz.results149 (by kernel_rfl) rfl ?_
    simp only [List.zipIdx, List.map, Nat.zero_add, Nat.reduceAdd]
    repeat (first | apply Aw_seq | apply Aw_block | apply Aw_skip | apply Aw_exit | refine Aw_condt rfl ?_ | refine Aw_condf rfl ?_ | ((first | refine qr ?_ | refine qd (by kernel_rfl) (by kernel_rfl) ?_); simp only [go_sem, reduceEqDiff, reduceIte, reduceAdd, reduceMul, reduceSub, reduceLT, reduceLeDiff, Nat.reduceBEq]) | refine dk (by kernel_rfl) ?_ | (refine qp (k1) (by simp only [go_sem, reduceEqDiff, reduceIte, reduceAdd, reduceMul, reduceSub, reduceLT, reduceLeDiff, Nat.reduceBEq]; first | done | rfl) rfl (by simp only [go_sem, Nat.reduceLT]) rfl rfl ?_; simp only [go_sem, reduceEqDiff, reduceIte, reduceAdd, reduceMul, reduceSub, reduceLT, reduceLeDiff, Nat.reduceBEq]))
    exact Aw_ret (ret0 (.inl rfl) (by simp only [go_sem, reduceEqDiff, reduceIte, reduceAdd, reduceMul, reduceSub, reduceLT, reduceLeDiff, Nat.reduceBEq]; rfl) (by rfl) rfl)
  rw [c1] at k1
  rw [if_pos rfl]
  have k3 := copyV_ac s hs c1
  obtain ⟨h1, h2, h3, h4, h5, _⟩ := storeS_facts c1
  refine ⟨fun x hd => ?_, fun hd => ?_⟩
  · have k4 := l12Down_ok s x (valid_sm hs c1) hs.top (by omega) hd
    refine AC_of Tryz.func149 rfl Tryz.ntmps149 Tryz.results149 (by kernel_rfl) rfl ?_
    simp only [List.zipIdx, List.map, Nat.zero_add, Nat.reduceAdd]
    repeat (first | apply Aw_seq | apply Aw_block | apply Aw_skip | apply Aw_exit | refine Aw_condt rfl ?_ | refine Aw_condf rfl ?_ | ((first | refine qr ?_ | refine qd (by kernel_rfl) (by kernel_rfl) ?_); simp only [go_sem, reduceEqDiff, reduceIte, reduceAdd, reduceMul, reduceSub, reduceLT, reduceLeDiff, Nat.reduceBEq]) | refine dk (by kernel_rfl) ?_ | (refine qp (k1) (by simp only [go_sem, reduceEqDiff, reduceIte, reduceAdd, reduceMul, reduceSub, reduceLT, reduceLeDiff, Nat.reduceBEq]; first | done | rfl) rfl (by simp only [go_sem, Nat.reduceLT]) rfl rfl ?_; simp only [go_sem, reduceEqDiff, reduceIte, reduceAdd, reduceMul, reduceSub, reduceLT, reduceLeDiff, Nat.reduceBEq]) | (refine qx (call_N (L := []) (k3) rfl (.cons (.nm rfl) (.nil)) (.inl rfl) rfl) (by simp only [go_sem, reduceEqDiff, reduceIte, reduceAdd, reduceMul, reduceSub, reduceLT, reduceLeDiff, Nat.reduceBEq]; first | done | rfl) rfl (by simp only [go_sem, Nat.reduceLT]) ?_; simp only [go_sem, reduceEqDiff, reduceIte, reduceAdd, reduceMul, reduceSub, reduceLT, reduceLeDiff, Nat.reduceBEq]) | (refine qx (call_L (N' := [6, 7, 8, 9]) (L := []) (k4) rfl (.cons (.nm rfl) (.nil)) (by decide) (by decide) (by decide) (by simp only [go_sem, reduceEqDiff, reduceIte, reduceAdd, reduceMul, reduceSub, reduceLT, reduceLeDiff, Nat.reduceBEq]; first | done | rfl) (.inl rfl) rfl (by decide)) (by simp only [go_sem, reduceEqDiff, reduceIte, reduceAdd, reduceMul, reduceSub, reduceLT, reduceLeDiff, Nat.reduceBEq]; first | done | rfl) rfl (by simp only [go_sem, Nat.reduceLT]) ?_; simp only [go_sem, reduceEqDiff, reduceIte, reduceAdd, reduceMul, reduceSub, reduceLT, reduceLeDiff, Nat.reduceBEq]))
    exact Aw_ret (retL (M := [6, 7, 10, 9]) (.inl rfl) (by simp only [go_sem, reduceEqDiff, reduceIte, reduceAdd, reduceMul, reduceSub, reduceLT, reduceLeDiff, Nat.reduceBEq]; first | done | rfl) rfl rfl (by rfl) (by simp only [go_sem, reduceEqDiff, reduceIte, reduceAdd, reduceMul, reduceSub, reduceLT, reduceLeDiff, Nat.reduceBEq]; first | done | rfl | (and_intros <;> rfl)) (by decide) (by intro m hm; first | omega | (rcases m with _ | _ | _ | _ | _ | _ | m <;> first | exact ⟨by decide, rfl⟩ | omega)))
  · have k4 := l12Down_no s (valid_sm hs c1) hs.top (by omega) hd
    refine AC_of Tryz.func149 rfl Tryz.ntmps149 Tryz.results149 (by kernel_rfl) rfl ?_
    simp only [List.zipIdx, List.map, Nat.zero_add, Nat.reduceAdd]
    repeat (first | apply Aw_seq | apply Aw_block | apply Aw_skip | apply Aw_exit | refine Aw_condt rfl ?_ | refine Aw_condf rfl ?_ | ((first | refine qr ?_ | refine qd (by kernel_rfl) (by kernel_rfl) ?_); simp only [go_sem, reduceEqDiff, reduceIte, reduceAdd, reduceMul, reduceSub, reduceLT, reduceLeDiff, Nat.reduceBEq]) | refine dk (by kernel_rfl) ?_ | (refine qp (k1) (by simp only [go_sem, reduceEqDiff, reduceIte, reduceAdd, reduceMul, reduceSub, reduceLT, reduceLeDiff, Nat.reduceBEq]; first | done | rfl) rfl (by simp only [go_sem, Nat.reduceLT]) rfl rfl ?_; simp only [go_sem, reduceEqDiff, reduceIte, reduceAdd, reduceMul, reduceSub, reduceLT, reduceLeDiff, Nat.reduceBEq]) | (refine qx (call_N (L := []) (k3) rfl (.cons (.nm rfl) (.nil)) (.inl rfl) rfl) (by simp only [go_sem, reduceEqDiff, reduceIte, reduceAdd, reduceMul, reduceSub, reduceLT, reduceLeDiff, Nat.reduceBEq]; first | done | rfl) rfl (by simp only [go_sem, Nat.reduceLT]) ?_; simp only [go_sem, reduceEqDiff, reduceIte, reduceAdd, reduceMul, reduceSub, reduceLT, reduceLeDiff, Nat.reduceBEq]) | (refine qx (call_L (N' := [6, 7, 8, 9]) (L := []) (k4) rfl (.cons (.nm rfl) (.nil)) (by decide) (by decide) (by decide) (by simp only [go_sem, reduceEqDiff, reduceIte, reduceAdd, reduceMul, reduceSub, reduceLT, reduceLeDiff, Nat.reduceBEq]; first | done | rfl) (.inl rfl) rfl (by decide)) (by simp only [go_sem, reduceEqDiff, reduceIte, reduceAdd, reduceMul, reduceSub, reduceLT, reduceLeDiff, Nat.reduceBEq]; first | done | rfl) rfl (by simp only [go_sem, Nat.reduceLT]) ?_; simp only [go_sem, reduceEqDiff, reduceIte, reduceAdd, reduceMul, reduceSub, reduceLT, reduceLeDiff, Nat.reduceBEq]))
    exact Aw_ret (ret0 (.inl rfl) (by simp only [go_sem, reduceEqDiff, reduceIte, reduceAdd, reduceMul, reduceSub, reduceLT, reduceLeDiff, Nat.reduceBEq]; rfl) (by rfl) rfl)
def sJoinM (s : Sto) (l : Int) : Option Sto := if (storeS s && inB 0 l 1) = true then (setM s l.toNat []).bind fun x => intoM (1 - l.toNat) x (l.toNat + 1) (s.levels.getD l.toNat []) else none
theorem smR_nil : SmR [] := ⟨by simp, by simp⟩
theorem keysM_nil : keysM [] = [] := rfl
theorem sieve_nil {keep : Nat} (hk : keep ≤ 5) : sieveM [] keep = some (eSve keep) := by
  unfold sieveM
  rw [if_pos ⟨rfl, inKeep hk⟩, show Int.toNat (keep : Int) = keep from rfl, bfs0]
  rfl
theorem storeJoinS_own (s : Sto) (l : Int) (hs : SmSt s) : OwnR 150 [stT s, iT l] (sJoinM s l) := by
  have k1 := sstoreOk_ac s hs
  unfold sJoinM
  cases c1 : storeS s
  · rw [c1] at k1
    refine ⟨fun x hx => by simp at hx, fun _ => ?_⟩
    refine AC_of Tryz.func150 rfl Tryz.ntmps150 Tryz.results150 (by kernel_rfl) rfl ?_
    simp only [List.zipIdx, List.map, Nat.zero_add, Nat.reduceAdd]
    repeat (first | apply Aw_seq | apply Aw_block | apply Aw_skip | apply Aw_exit | refine Aw_condt rfl ?_ | refine Aw_condf rfl ?_ | ((first | refine qr ?_ | refine qd (by kernel_rfl) (by kernel_rfl) ?_); simp only [go_sem, reduceEqDiff, reduceIte, reduceAdd, reduceMul, reduceSub, reduceLT, reduceLeDiff, Nat.reduceBEq]) | refine dk (by kernel_rfl) ?_ | (refine qp (k1) (by simp only [go_sem, reduceEqDiff, reduceIte, reduceAdd, reduceMul, reduceSub, reduceLT, reduceLeDiff, Nat.reduceBEq]; first | done | rfl) rfl (by simp only [go_sem, Nat.reduceLT]) rfl rfl ?_; simp only [go_sem, reduceEqDiff, reduceIte, reduceAdd, reduceMul, reduceSub, reduceLT, reduceLeDiff, Nat.reduceBEq]))
    exact Aw_ret (ret0 (.inl rfl) (by simp only [go_sem, reduceEqDiff, reduceIte, reduceAdd, reduceMul, reduceSub, reduceLT, reduceLeDiff, Nat.reduceBEq]; rfl) (by rfl) rfl)
  rw [c1] at k1
  cases c2 : inB 0 l 1
  · refine ⟨fun x hx => by simp at hx, fun _ => ?_⟩
    refine AC_of Tryz.func150 rfl Tryz.ntmps150 Tryz.results150 (by kernel_rfl) rfl ?_
    simp only [List.zipIdx, List.map, Nat.zero_add, Nat.reduceAdd]
    repeat (first | apply Aw_seq | apply Aw_block | apply Aw_skip | apply Aw_exit | refine Aw_condt rfl ?_ | refine Aw_condf rfl ?_ | ((first | refine qr ?_ | refine qd (by kernel_rfl) (by kernel_rfl) ?_); simp only [go_sem, reduceEqDiff, reduceIte, reduceAdd, reduceMul, reduceSub, reduceLT, reduceLeDiff, Nat.reduceBEq, c2]) | refine dk (by kernel_rfl) ?_ | (refine qp (k1) (by simp only [go_sem, reduceEqDiff, reduceIte, reduceAdd, reduceMul, reduceSub, reduceLT, reduceLeDiff, Nat.reduceBEq, c2]; first | done | rfl) rfl (by simp only [go_sem, Nat.reduceLT]) rfl rfl ?_; simp only [go_sem, reduceEqDiff, reduceIte, reduceAdd, reduceMul, reduceSub, reduceLT, reduceLeDiff, Nat.reduceBEq, c2]) | (refine qp (l6In_ac _ _ _) (by simp only [go_sem, reduceEqDiff, reduceIte, reduceAdd, reduceMul, reduceSub, reduceLT, reduceLeDiff, Nat.reduceBEq, c2]; first | done | rfl) rfl (by simp only [go_sem, Nat.reduceLT]) rfl rfl ?_; simp only [go_sem, reduceEqDiff, reduceIte, reduceAdd, reduceMul, reduceSub, reduceLT, reduceLeDiff, Nat.reduceBEq, c2]))
    exact Aw_ret (ret0 (.inl rfl) (by simp only [go_sem, reduceEqDiff, reduceIte, reduceAdd, reduceMul, reduceSub, reduceLT, reduceLeDiff, Nat.reduceBEq]; rfl) (by rfl) rfl)
  have k3 := copyV_ac s hs c1
  have sm := valid_sm hs c1
  obtain ⟨h1, h2, h3, h4, h5, _, h7⟩ := storeS_facts c1
  rw [if_pos (show (true && true) = true from rfl)]
  obtain ⟨n, hn, rfl⟩ : ∃ n : Nat, n ≤ 1 ∧ l = n := by
    unfold inB at c2
    rw [Bool.and_eq_true] at c2
    have h1 := of_decide_eq_true c2.1; have h2 := of_decide_eq_true c2.2
    exact ⟨l.toNat, by omega, by omega⟩
  rw [show Int.toNat (n : Int) = n from rfl]
  obtain ⟨kn, hk, hkk⟩ : ∃ m : Nat, m ≤ 5 ∧ s.keep = m := by
    unfold inB at h7
    rw [Bool.and_eq_true] at h7
    have h1 := of_decide_eq_true h7.1; have h2 := of_decide_eq_true h7.2
    exact ⟨s.keep.toNat, by omega, by omega⟩
  obtain ⟨x, hset⟩ : ∃ x, setM s n [] = some x := by unfold setM; rw [keysM_nil, hkk, sieve_nil hk]; exact ⟨_, if_pos (Nat.zero_le _)⟩
  have smx : SmH x := setM_sm sm (by omega) smR_nil hset
  obtain ⟨q, hq⟩ : ∃ q, s.levels[n]? = some q := ⟨_, List.getElem?_eq_getElem (by omega)⟩
  have hqd : s.levels.getD n [] = q := by simp [List.getD, hq]
  obtain ⟨hq1, hq2⟩ := sm.lev q (List.mem_of_getElem? hq)
  have hlt := (List.getElem?_eq_some_iff.1 hq).1
  have k4 := l12Set_ok s x n [] (by omega) hlt (by omega) smR_nil hset
  have w1 : IntKind.i64.wrap ((n : Int) + 1) = ((n + 1 : Nat) : Int) := wrap_succ (m := n + 1) (by omega) (by omega)
  obtain ⟨i1, i2⟩ := into_ac (1 - n) x (n + 1) q (by omega) smx hq1 hq2
  rw [hset, Option.bind_some, hqd]
  refine ⟨fun y hin => ?_, fun hin => ?_⟩
  · have k5 := i1 y hin
    refine AC_of Tryz.func150 rfl Tryz.ntmps150 Tryz.results150 (by kernel_rfl) rfl ?_
    simp only [List.zipIdx, List.map, Nat.zero_add, Nat.reduceAdd]
    repeat (first | apply Aw_seq | apply Aw_block | apply Aw_skip | apply Aw_exit | refine Aw_condt rfl ?_ | refine Aw_condf rfl ?_ | ((first | refine qr ?_ | refine qd (by kernel_rfl) (by kernel_rfl) ?_); simp only [go_sem, reduceEqDiff, reduceIte, reduceAdd, reduceMul, reduceSub, reduceLT, reduceLeDiff, Nat.reduceBEq, c2, w1, hq, hlt]) | refine dk (by kernel_rfl) ?_ | (refine qp (k1) (by simp only [go_sem, reduceEqDiff, reduceIte, reduceAdd, reduceMul, reduceSub, reduceLT, reduceLeDiff, Nat.reduceBEq, c2, w1, hq, hlt]; first | done | rfl) rfl (by simp only [go_sem, Nat.reduceLT]) rfl rfl ?_; simp only [go_sem, reduceEqDiff, reduceIte, reduceAdd, reduceMul, reduceSub, reduceLT, reduceLeDiff, Nat.reduceBEq, c2, w1, hq, hlt]) | (refine qp (l6In_ac _ _ _) (by simp only [go_sem, reduceEqDiff, reduceIte, reduceAdd, reduceMul, reduceSub, reduceLT, reduceLeDiff, Nat.reduceBEq, c2, w1, hq, hlt]; first | done | rfl) rfl (by simp only [go_sem, Nat.reduceLT]) rfl rfl ?_; simp only [go_sem, reduceEqDiff, reduceIte, reduceAdd, reduceMul, reduceSub, reduceLT, reduceLeDiff, Nat.reduceBEq, c2, w1, hq, hlt]) | (refine qx (call_N (L := []) (k3) rfl (.cons (.nm rfl) (.nil)) (.inl rfl) rfl) (by simp only [go_sem, reduceEqDiff, reduceIte, reduceAdd, reduceMul, reduceSub, reduceLT, reduceLeDiff, Nat.reduceBEq, c2, w1, hq, hlt]; first | done | rfl) rfl (by simp only [go_sem, Nat.reduceLT]) ?_; simp only [go_sem, reduceEqDiff, reduceIte, reduceAdd, reduceMul, reduceSub, reduceLT, reduceLeDiff, Nat.reduceBEq, c2, w1, hq, hlt]) | (refine qx (call_L (N' := [10, 11, 12, 13, 23]) (L := []) (k4) rfl (.cons (.nm rfl) (.cons (.nm rfl) (.cons (.nm rfl) (.nil)))) (by decide) (by decide) (by decide) (by simp only [go_sem, reduceEqDiff, reduceIte, reduceAdd, reduceMul, reduceSub, reduceLT, reduceLeDiff, Nat.reduceBEq, c2, w1, hq, hlt]; first | done | rfl) (.inl rfl) rfl (by decide)) (by simp only [go_sem, reduceEqDiff, reduceIte, reduceAdd, reduceMul, reduceSub, reduceLT, reduceLeDiff, Nat.reduceBEq, c2, w1, hq, hlt]; first | done | rfl) rfl (by simp only [go_sem, Nat.reduceLT]) ?_; simp only [go_sem, reduceEqDiff, reduceIte, reduceAdd, reduceMul, reduceSub, reduceLT, reduceLeDiff, Nat.reduceBEq, c2, w1, hq, hlt]) | (refine qx (call_L (N' := [10, 11, 12, 13]) (L := []) (k5) rfl (.cons (.nm rfl) (.cons (.nm rfl) (.cons (.nm rfl) (.nil)))) (by decide) (by decide) (by decide) (by simp only [go_sem, reduceEqDiff, reduceIte, reduceAdd, reduceMul, reduceSub, reduceLT, reduceLeDiff, Nat.reduceBEq, c2, w1, hq, hlt]; first | done | rfl) (.inl rfl) rfl (by decide)) (by simp only [go_sem, reduceEqDiff, reduceIte, reduceAdd, reduceMul, reduceSub, reduceLT, reduceLeDiff, Nat.reduceBEq, c2, w1, hq, hlt]; first | done | rfl) rfl (by simp only [go_sem, Nat.reduceLT]) ?_; simp only [go_sem, reduceEqDiff, reduceIte, reduceAdd, reduceMul, reduceSub, reduceLT, reduceLeDiff, Nat.reduceBEq, c2, w1, hq, hlt]))
    exact Aw_ret (retL (M := [10, 11, 12, 13]) (.inl rfl) (by simp only [go_sem, reduceEqDiff, reduceIte, reduceAdd, reduceMul, reduceSub, reduceLT, reduceLeDiff, Nat.reduceBEq]; first | done | rfl) rfl rfl (by rfl) (by simp only [go_sem, reduceEqDiff, reduceIte, reduceAdd, reduceMul, reduceSub, reduceLT, reduceLeDiff, Nat.reduceBEq]; first | done | rfl | (and_intros <;> rfl)) (by decide) (by intro m hm; first | omega | (rcases m with _ | _ | _ | _ | _ | _ | m <;> first | exact ⟨by decide, rfl⟩ | omega)))
  · have k5 := i2 hin
    refine AC_of Tryz.func150 rfl Tryz.ntmps150 Tryz.results150 (by kernel_rfl) rfl ?_
    simp only [List.zipIdx, List.map, Nat.zero_add, Nat.reduceAdd]
    repeat (first | apply Aw_seq | apply Aw_block | apply Aw_skip | apply Aw_exit | refine Aw_condt rfl ?_ | refine Aw_condf rfl ?_ | ((first | refine qr ?_ | refine qd (by kernel_rfl) (by kernel_rfl) ?_); simp only [go_sem, reduceEqDiff, reduceIte, reduceAdd, reduceMul, reduceSub, reduceLT, reduceLeDiff, Nat.reduceBEq, c2, w1, hq, hlt]) | refine dk (by kernel_rfl) ?_ | (refine qp (k1) (by simp only [go_sem, reduceEqDiff, reduceIte, reduceAdd, reduceMul, reduceSub, reduceLT, reduceLeDiff, Nat.reduceBEq, c2, w1, hq, hlt]; first | done | rfl) rfl (by simp only [go_sem, Nat.reduceLT]) rfl rfl ?_; simp only [go_sem, reduceEqDiff, reduceIte, reduceAdd, reduceMul, reduceSub, reduceLT, reduceLeDiff, Nat.reduceBEq, c2, w1, hq, hlt]) | (refine qp (l6In_ac _ _ _) (by simp only [go_sem, reduceEqDiff, reduceIte, reduceAdd, reduceMul, reduceSub, reduceLT, reduceLeDiff, Nat.reduceBEq, c2, w1, hq, hlt]; first | done | rfl) rfl (by simp only [go_sem, Nat.reduceLT]) rfl rfl ?_; simp only [go_sem, reduceEqDiff, reduceIte, reduceAdd, reduceMul, reduceSub, reduceLT, reduceLeDiff, Nat.reduceBEq, c2, w1, hq, hlt]) | (refine qx (call_N (L := []) (k3) rfl (.cons (.nm rfl) (.nil)) (.inl rfl) rfl) (by simp only [go_sem, reduceEqDiff, reduceIte, reduceAdd, reduceMul, reduceSub, reduceLT, reduceLeDiff, Nat.reduceBEq, c2, w1, hq, hlt]; first | done | rfl) rfl (by simp only [go_sem, Nat.reduceLT]) ?_; simp only [go_sem, reduceEqDiff, reduceIte, reduceAdd, reduceMul, reduceSub, reduceLT, reduceLeDiff, Nat.reduceBEq, c2, w1, hq, hlt]) | (refine qx (call_L (N' := [10, 11, 12, 13, 23]) (L := []) (k4) rfl (.cons (.nm rfl) (.cons (.nm rfl) (.cons (.nm rfl) (.nil)))) (by decide) (by decide) (by decide) (by simp only [go_sem, reduceEqDiff, reduceIte, reduceAdd, reduceMul, reduceSub, reduceLT, reduceLeDiff, Nat.reduceBEq, c2, w1, hq, hlt]; first | done | rfl) (.inl rfl) rfl (by decide)) (by simp only [go_sem, reduceEqDiff, reduceIte, reduceAdd, reduceMul, reduceSub, reduceLT, reduceLeDiff, Nat.reduceBEq, c2, w1, hq, hlt]; first | done | rfl) rfl (by simp only [go_sem, Nat.reduceLT]) ?_; simp only [go_sem, reduceEqDiff, reduceIte, reduceAdd, reduceMul, reduceSub, reduceLT, reduceLeDiff, Nat.reduceBEq, c2, w1, hq, hlt]) | (refine qx (call_L (N' := [10, 11, 12, 13]) (L := []) (k5) rfl (.cons (.nm rfl) (.cons (.nm rfl) (.cons (.nm rfl) (.nil)))) (by decide) (by decide) (by decide) (by simp only [go_sem, reduceEqDiff, reduceIte, reduceAdd, reduceMul, reduceSub, reduceLT, reduceLeDiff, Nat.reduceBEq, c2, w1, hq, hlt]; first | done | rfl) (.inl rfl) rfl (by decide)) (by simp only [go_sem, reduceEqDiff, reduceIte, reduceAdd, reduceMul, reduceSub, reduceLT, reduceLeDiff, Nat.reduceBEq, c2, w1, hq, hlt]; first | done | rfl) rfl (by simp only [go_sem, Nat.reduceLT]) ?_; simp only [go_sem, reduceEqDiff, reduceIte, reduceAdd, reduceMul, reduceSub, reduceLT, reduceLeDiff, Nat.reduceBEq, c2, w1, hq, hlt]))
    exact Aw_ret (ret0 (.inl rfl) (by simp only [go_sem, reduceEqDiff, reduceIte, reduceAdd, reduceMul, reduceSub, reduceLT, reduceLeDiff, Nat.reduceBEq]; rfl) (by rfl) rfl)
def heldTs (s : Sto) : List Int := if s.times.getLast? = some s.time then s.times else s.times ++ [s.time]
def holdM (s : Sto) : Option Sto := if storeS s = true then (if timesM (heldTs s) s.time = true then some { s with times := heldTs s } else none) else none
abbrev zH : AV := .tup [zA, iT 0, bT false]
def OwnH (f : FuncId) (args : List TV) (o : Option Sto) : Prop := (∀ x, o = some x → AC Tryz.prog f args noHp 0 ⟨.tup [hT x, iT x.time, bT true], hpL (hS x), 4⟩) ∧ (o = none → AC Tryz.prog f args noHp 0 ⟨zH, noHp, 0⟩)
theorem storeHoldS_own (s : Sto) (hs : SmSt s) : OwnH 147 [stT s] (holdM s) := by
  have k1 := sstoreOk_ac s hs
  unfold holdM
  cases c1 : storeS s
  · rw [c1] at k1
    refine ⟨fun x hx => by simp at hx, fun _ => ?_⟩
    refine AC_of Tryz.func147 rfl Tryz.ntmps147 Tryz.results147 (by kernel_rfl) rfl ?_
    simp only [List.zipIdx, List.map, Nat.zero_add, Nat.reduceAdd]
    repeat (first | apply Aw_seq | apply Aw_block | apply Aw_skip | apply Aw_exit | refine Aw_condt rfl ?_ | refine Aw_condf rfl ?_ | ((first | refine qr ?_ | refine qd (by kernel_rfl) (by kernel_rfl) ?_); simp only [go_sem, reduceEqDiff, reduceIte, reduceAdd, reduceMul, reduceSub, reduceLT, reduceLeDiff, Nat.reduceBEq]) | refine dk (by kernel_rfl) ?_ | (refine qp (k1) (by simp only [go_sem, reduceEqDiff, reduceIte, reduceAdd, reduceMul, reduceSub, reduceLT, reduceLeDiff, Nat.reduceBEq]; first | done | rfl) rfl (by simp only [go_sem, Nat.reduceLT]) rfl rfl ?_; simp only [go_sem, reduceEqDiff, reduceIte, reduceAdd, reduceMul, reduceSub, reduceLT, reduceLeDiff, Nat.reduceBEq]))
    exact Aw_ret (ret0 (.inl rfl) (by simp only [go_sem, reduceEqDiff, reduceIte, reduceAdd, reduceMul, reduceSub, reduceLT, reduceLeDiff, Nat.reduceBEq]; rfl) (by rfl) rfl)
  rw [c1] at k1
  rw [if_pos rfl]
  have k3 := copyV_ac s hs c1
  obtain ⟨h1, h2, h3, h4, h5, _⟩ := storeS_facts c1
  have hap : (s.times.length + 1) * 8 ≤ 140737488355328 := by omega
  have hapA : ∀ (pre : s.times = [] ∨ ∃ j y, s.times.length = j + 1 ∧ s.times[j]? = some y ∧ decide (y = s.time) = false), OwnH 147 [stT s] (if timesM (s.times ++ [s.time]) s.time = true then some { s with times := s.times ++ [s.time] } else none) := by
    intro pre
    have k4 := (l12Times_ac (s.times ++ [s.time]) s.time (by simp; omega)).toL0
    simp only [intsT, List.map_append, List.map_cons, List.map_nil, intD] at k4
    cases c2 : timesM (s.times ++ [s.time]) s.time
    · rw [c2] at k4
      refine ⟨fun x hx => by simp at hx, fun _ => ?_⟩
      rcases pre with hz | ⟨j, y, hj, hy, hne⟩
      · have z0 : decide (((s.times.length : Nat) : Int) = 0) = true := by rw [hz]; rfl
        refine AC_of Tryz.func147 rfl Tryz.ntmps147 Tryz.results147 (by kernel_rfl) rfl ?_
        simp only [List.zipIdx, List.map, Nat.zero_add, Nat.reduceAdd]
        repeat (first | apply Aw_seq | apply Aw_block | apply Aw_skip | apply Aw_exit | refine Aw_condt rfl ?_ | refine Aw_condf rfl ?_ | ((first | refine qr ?_ | refine qd (by kernel_rfl) (by kernel_rfl) ?_); simp only [go_sem, reduceEqDiff, reduceIte, reduceAdd, reduceMul, reduceSub, reduceLT, reduceLeDiff, Nat.reduceBEq, z0, hap]) | refine dk (by kernel_rfl) ?_ | (refine qp (k1) (by simp only [go_sem, reduceEqDiff, reduceIte, reduceAdd, reduceMul, reduceSub, reduceLT, reduceLeDiff, Nat.reduceBEq, z0, hap]; first | done | rfl) rfl (by simp only [go_sem, Nat.reduceLT]) rfl rfl ?_; simp only [go_sem, reduceEqDiff, reduceIte, reduceAdd, reduceMul, reduceSub, reduceLT, reduceLeDiff, Nat.reduceBEq, z0, hap]) | (refine qx (call_N (L := []) (k3) rfl (.cons (.nm rfl) (.nil)) (.inl rfl) rfl) (by simp only [go_sem, reduceEqDiff, reduceIte, reduceAdd, reduceMul, reduceSub, reduceLT, reduceLeDiff, Nat.reduceBEq, z0, hap]; first | done | rfl) rfl (by simp only [go_sem, Nat.reduceLT]) ?_; simp only [go_sem, reduceEqDiff, reduceIte, reduceAdd, reduceMul, reduceSub, reduceLT, reduceLeDiff, Nat.reduceBEq, z0, hap]) | (refine qx (call_N (L := [25]) (k4) rfl (.cons (arg_lend (m := 25) rfl (by simp)) (.cons (.nm rfl) (.nil))) (.inr ⟨rfl, by simp⟩) rfl) (by simp only [go_sem, reduceEqDiff, reduceIte, reduceAdd, reduceMul, reduceSub, reduceLT, reduceLeDiff, Nat.reduceBEq, z0, hap]; first | done | rfl) rfl (by simp only [go_sem, Nat.reduceLT]) ?_; simp only [go_sem, reduceEqDiff, reduceIte, reduceAdd, reduceMul, reduceSub, reduceLT, reduceLeDiff, Nat.reduceBEq, z0, hap]))
        exact Aw_ret (ret0 (.inl rfl) (by simp only [go_sem, reduceEqDiff, reduceIte, reduceAdd, reduceMul, reduceSub, reduceLT, reduceLeDiff, Nat.reduceBEq]; rfl) (by rfl) rfl)
      · have z0 : decide (((s.times.length : Nat) : Int) = 0) = false := decide_eq_false (by omega)
        have w1 : IntKind.i64.wrap (((s.times.length : Nat) : Int) - 1) = (j : Int) := by rw [hj]; exact wrap_pred (m := j + 1) (by omega) (by omega)
        have hjl : j < s.times.length := by omega
        refine AC_of Tryz.func147 rfl Tryz.ntmps147 Tryz.results147 (by kernel_rfl) rfl ?_
        simp only [List.zipIdx, List.map, Nat.zero_add, Nat.reduceAdd]
        repeat (first | apply Aw_seq | apply Aw_block | apply Aw_skip | apply Aw_exit | refine Aw_condt rfl ?_ | refine Aw_condf rfl ?_ | ((first | refine qr ?_ | refine qd (by kernel_rfl) (by kernel_rfl) ?_); simp only [go_sem, reduceEqDiff, reduceIte, reduceAdd, reduceMul, reduceSub, reduceLT, reduceLeDiff, Nat.reduceBEq, z0, hap, w1, hy, hne, hjl]) | refine dk (by kernel_rfl) ?_ | (refine qp (k1) (by simp only [go_sem, reduceEqDiff, reduceIte, reduceAdd, reduceMul, reduceSub, reduceLT, reduceLeDiff, Nat.reduceBEq, z0, hap, w1, hy, hne, hjl]; first | done | rfl) rfl (by simp only [go_sem, Nat.reduceLT]) rfl rfl ?_; simp only [go_sem, reduceEqDiff, reduceIte, reduceAdd, reduceMul, reduceSub, reduceLT, reduceLeDiff, Nat.reduceBEq, z0, hap, w1, hy, hne, hjl]) | (refine qx (call_N (L := []) (k3) rfl (.cons (.nm rfl) (.nil)) (.inl rfl) rfl) (by simp only [go_sem, reduceEqDiff, reduceIte, reduceAdd, reduceMul, reduceSub, reduceLT, reduceLeDiff, Nat.reduceBEq, z0, hap, w1, hy, hne, hjl]; first | done | rfl) rfl (by simp only [go_sem, Nat.reduceLT]) ?_; simp only [go_sem, reduceEqDiff, reduceIte, reduceAdd, reduceMul, reduceSub, reduceLT, reduceLeDiff, Nat.reduceBEq, z0, hap, w1, hy, hne, hjl]) | (refine qx (call_N (L := [34]) (k4) rfl (.cons (arg_lend (m := 34) rfl (by simp)) (.cons (.nm rfl) (.nil))) (.inr ⟨rfl, by simp⟩) rfl) (by simp only [go_sem, reduceEqDiff, reduceIte, reduceAdd, reduceMul, reduceSub, reduceLT, reduceLeDiff, Nat.reduceBEq, z0, hap, w1, hy, hne, hjl]; first | done | rfl) rfl (by simp only [go_sem, Nat.reduceLT]) ?_; simp only [go_sem, reduceEqDiff, reduceIte, reduceAdd, reduceMul, reduceSub, reduceLT, reduceLeDiff, Nat.reduceBEq, z0, hap, w1, hy, hne, hjl]))
        exact Aw_ret (ret0 (.inl rfl) (by simp only [go_sem, reduceEqDiff, reduceIte, reduceAdd, reduceMul, reduceSub, reduceLT, reduceLeDiff, Nat.reduceBEq]; rfl) (by rfl) rfl)
    · rw [c2] at k4
      refine ⟨fun x hx => ?_, fun hx => by simp at hx⟩
      obtain rfl := Option.some.inj (show some { s with times := s.times ++ [s.time] } = some x from hx)
      rcases pre with hz | ⟨j, y, hj, hy, hne⟩
      · have z0 : decide (((s.times.length : Nat) : Int) = 0) = true := by rw [hz]; rfl
        refine AC_of Tryz.func147 rfl Tryz.ntmps147 Tryz.results147 (by kernel_rfl) rfl ?_
        simp only [List.zipIdx, List.map, Nat.zero_add, Nat.reduceAdd]
        repeat (first | apply Aw_seq | apply Aw_block | apply Aw_skip | apply Aw_exit | refine Aw_condt rfl ?_ | refine Aw_condf rfl ?_ | ((first | refine qr ?_ | refine qd (by kernel_rfl) (by kernel_rfl) ?_); simp only [go_sem, reduceEqDiff, reduceIte, reduceAdd, reduceMul, reduceSub, reduceLT, reduceLeDiff, Nat.reduceBEq, z0, hap]) | refine dk (by kernel_rfl) ?_ | (refine qp (k1) (by simp only [go_sem, reduceEqDiff, reduceIte, reduceAdd, reduceMul, reduceSub, reduceLT, reduceLeDiff, Nat.reduceBEq, z0, hap]; first | done | rfl) rfl (by simp only [go_sem, Nat.reduceLT]) rfl rfl ?_; simp only [go_sem, reduceEqDiff, reduceIte, reduceAdd, reduceMul, reduceSub, reduceLT, reduceLeDiff, Nat.reduceBEq, z0, hap]) | (refine qx (call_N (L := []) (k3) rfl (.cons (.nm rfl) (.nil)) (.inl rfl) rfl) (by simp only [go_sem, reduceEqDiff, reduceIte, reduceAdd, reduceMul, reduceSub, reduceLT, reduceLeDiff, Nat.reduceBEq, z0, hap]; first | done | rfl) rfl (by simp only [go_sem, Nat.reduceLT]) ?_; simp only [go_sem, reduceEqDiff, reduceIte, reduceAdd, reduceMul, reduceSub, reduceLT, reduceLeDiff, Nat.reduceBEq, z0, hap]) | (refine qx (call_N (L := [25]) (k4) rfl (.cons (arg_lend (m := 25) rfl (by simp)) (.cons (.nm rfl) (.nil))) (.inr ⟨rfl, by simp⟩) rfl) (by simp only [go_sem, reduceEqDiff, reduceIte, reduceAdd, reduceMul, reduceSub, reduceLT, reduceLeDiff, Nat.reduceBEq, z0, hap]; first | done | rfl) rfl (by simp only [go_sem, Nat.reduceLT]) ?_; simp only [go_sem, reduceEqDiff, reduceIte, reduceAdd, reduceMul, reduceSub, reduceLT, reduceLeDiff, Nat.reduceBEq, z0, hap]))
        exact Aw_ret (retL (M := [7, 8, 9, 25]) (.inl rfl) (by simp only [go_sem, reduceEqDiff, reduceIte, reduceAdd, reduceMul, reduceSub, reduceLT, reduceLeDiff, Nat.reduceBEq]; first | done | rfl) rfl rfl (by rfl) (by simp only [go_sem, reduceEqDiff, reduceIte, reduceAdd, reduceMul, reduceSub, reduceLT, reduceLeDiff, Nat.reduceBEq, List.map_append, List.map_cons, List.map_nil]; first | done | rfl | (and_intros <;> rfl)) (by decide) (by intro m hm; first | omega | (rcases m with _ | _ | _ | _ | _ | _ | m <;> first | exact ⟨by decide, rfl⟩ | omega)))
      · have z0 : decide (((s.times.length : Nat) : Int) = 0) = false := decide_eq_false (by omega)
        have w1 : IntKind.i64.wrap (((s.times.length : Nat) : Int) - 1) = (j : Int) := by rw [hj]; exact wrap_pred (m := j + 1) (by omega) (by omega)
        have hjl : j < s.times.length := by omega
        refine AC_of Tryz.func147 rfl Tryz.ntmps147 Tryz.results147 (by kernel_rfl) rfl ?_
        simp only [List.zipIdx, List.map, Nat.zero_add, Nat.reduceAdd]
        repeat (first | apply Aw_seq | apply Aw_block | apply Aw_skip | apply Aw_exit | refine Aw_condt rfl ?_ | refine Aw_condf rfl ?_ | ((first | refine qr ?_ | refine qd (by kernel_rfl) (by kernel_rfl) ?_); simp only [go_sem, reduceEqDiff, reduceIte, reduceAdd, reduceMul, reduceSub, reduceLT, reduceLeDiff, Nat.reduceBEq, z0, hap, w1, hy, hne, hjl]) | refine dk (by kernel_rfl) ?_ | (refine qp (k1) (by simp only [go_sem, reduceEqDiff, reduceIte, reduceAdd, reduceMul, reduceSub, reduceLT, reduceLeDiff, Nat.reduceBEq, z0, hap, w1, hy, hne, hjl]; first | done | rfl) rfl (by simp only [go_sem, Nat.reduceLT]) rfl rfl ?_; simp only [go_sem, reduceEqDiff, reduceIte, reduceAdd, reduceMul, reduceSub, reduceLT, reduceLeDiff, Nat.reduceBEq, z0, hap, w1, hy, hne, hjl]) | (refine qx (call_N (L := []) (k3) rfl (.cons (.nm rfl) (.nil)) (.inl rfl) rfl) (by simp only [go_sem, reduceEqDiff, reduceIte, reduceAdd, reduceMul, reduceSub, reduceLT, reduceLeDiff, Nat.reduceBEq, z0, hap, w1, hy, hne, hjl]; first | done | rfl) rfl (by simp only [go_sem, Nat.reduceLT]) ?_; simp only [go_sem, reduceEqDiff, reduceIte, reduceAdd, reduceMul, reduceSub, reduceLT, reduceLeDiff, Nat.reduceBEq, z0, hap, w1, hy, hne, hjl]) | (refine qx (call_N (L := [34]) (k4) rfl (.cons (arg_lend (m := 34) rfl (by simp)) (.cons (.nm rfl) (.nil))) (.inr ⟨rfl, by simp⟩) rfl) (by simp only [go_sem, reduceEqDiff, reduceIte, reduceAdd, reduceMul, reduceSub, reduceLT, reduceLeDiff, Nat.reduceBEq, z0, hap, w1, hy, hne, hjl]; first | done | rfl) rfl (by simp only [go_sem, Nat.reduceLT]) ?_; simp only [go_sem, reduceEqDiff, reduceIte, reduceAdd, reduceMul, reduceSub, reduceLT, reduceLeDiff, Nat.reduceBEq, z0, hap, w1, hy, hne, hjl]))
        exact Aw_ret (retL (M := [7, 8, 9, 34]) (.inl rfl) (by simp only [go_sem, reduceEqDiff, reduceIte, reduceAdd, reduceMul, reduceSub, reduceLT, reduceLeDiff, Nat.reduceBEq]; first | done | rfl) rfl rfl (by rfl) (by simp only [go_sem, reduceEqDiff, reduceIte, reduceAdd, reduceMul, reduceSub, reduceLT, reduceLeDiff, Nat.reduceBEq, List.map_append, List.map_cons, List.map_nil]; first | done | rfl | (and_intros <;> rfl)) (by decide) (by intro m hm; first | omega | (rcases m with _ | _ | _ | _ | _ | _ | m <;> first | exact ⟨by decide, rfl⟩ | omega)))
  by_cases hz : s.times = []
  · have hh : heldTs s = s.times ++ [s.time] := by unfold heldTs; rw [hz]; simp
    rw [hh]
    exact hapA (.inl hz)
  · obtain ⟨j, hj⟩ : ∃ j, s.times.length = j + 1 := ⟨s.times.length - 1, by have := List.length_pos_iff.2 hz; omega⟩
    obtain ⟨y, hy⟩ : ∃ y, s.times[j]? = some y := ⟨_, List.getElem?_eq_getElem (by omega)⟩
    have hlast : s.times.getLast? = some y := by rw [List.getLast?_eq_getElem?, hj]; exact hy
    cases c3 : decide (y = s.time)
    · have hh : heldTs s = s.times ++ [s.time] := by
        unfold heldTs; rw [hlast, if_neg]
        intro e; rw [Option.some.inj e] at c3; simp at c3
      rw [hh]
      exact hapA (.inr ⟨j, y, hj, hy, c3⟩)
    · have hh : heldTs s = s.times := by unfold heldTs; rw [hlast, of_decide_eq_true c3, if_pos rfl]
      rw [hh]
      have k4 := (l12Times_ac s.times s.time (by omega)).toL0
      have z0 : decide (((s.times.length : Nat) : Int) = 0) = false := decide_eq_false (by omega)
      have w1 : IntKind.i64.wrap (((s.times.length : Nat) : Int) - 1) = (j : Int) := by rw [hj]; exact wrap_pred (m := j + 1) (by omega) (by omega)
      have hjl : j < s.times.length := by omega
      cases c2 : timesM s.times s.time
      · rw [c2] at k4
        refine ⟨fun x hx => by simp at hx, fun _ => ?_⟩
        refine AC_of Tryz.func147 rfl Tryz.ntmps147 Tryz.results147 (by kernel_rfl) rfl ?_
        simp only [List.zipIdx, List.map, Nat.zero_add, Nat.reduceAdd]
        repeat (first | apply Aw_seq | apply Aw_block | apply Aw_skip | apply Aw_exit | refine Aw_condt rfl ?_ | refine Aw_condf rfl ?_ | ((first | refine qr ?_ | refine qd (by kernel_rfl) (by kernel_rfl) ?_); simp only [go_sem, reduceEqDiff, reduceIte, reduceAdd, reduceMul, reduceSub, reduceLT, reduceLeDiff, Nat.reduceBEq, z0, w1, hy, c3, hjl]) | refine dk (by kernel_rfl) ?_ | (refine qp (k1) (by simp only [go_sem, reduceEqDiff, reduceIte, reduceAdd, reduceMul, reduceSub, reduceLT, reduceLeDiff, Nat.reduceBEq, z0, w1, hy, c3, hjl]; first | done | rfl) rfl (by simp only [go_sem, Nat.reduceLT]) rfl rfl ?_; simp only [go_sem, reduceEqDiff, reduceIte, reduceAdd, reduceMul, reduceSub, reduceLT, reduceLeDiff, Nat.reduceBEq, z0, w1, hy, c3, hjl]) | (refine qx (call_N (L := []) (k3) rfl (.cons (.nm rfl) (.nil)) (.inl rfl) rfl) (by simp only [go_sem, reduceEqDiff, reduceIte, reduceAdd, reduceMul, reduceSub, reduceLT, reduceLeDiff, Nat.reduceBEq, z0, w1, hy, c3, hjl]; first | done | rfl) rfl (by simp only [go_sem, Nat.reduceLT]) ?_; simp only [go_sem, reduceEqDiff, reduceIte, reduceAdd, reduceMul, reduceSub, reduceLT, reduceLeDiff, Nat.reduceBEq, z0, w1, hy, c3, hjl]) | (refine qx (call_N (L := [10]) (k4) rfl (.cons (arg_lend (m := 10) rfl (by simp)) (.cons (.nm rfl) (.nil))) (.inr ⟨rfl, by simp⟩) rfl) (by simp only [go_sem, reduceEqDiff, reduceIte, reduceAdd, reduceMul, reduceSub, reduceLT, reduceLeDiff, Nat.reduceBEq, z0, w1, hy, c3, hjl]; first | done | rfl) rfl (by simp only [go_sem, Nat.reduceLT]) ?_; simp only [go_sem, reduceEqDiff, reduceIte, reduceAdd, reduceMul, reduceSub, reduceLT, reduceLeDiff, Nat.reduceBEq, z0, w1, hy, c3, hjl]))
        exact Aw_ret (ret0 (.inl rfl) (by simp only [go_sem, reduceEqDiff, reduceIte, reduceAdd, reduceMul, reduceSub, reduceLT, reduceLeDiff, Nat.reduceBEq]; rfl) (by rfl) rfl)
      · rw [c2] at k4
        refine ⟨fun x hx => ?_, fun hx => by simp at hx⟩
        obtain rfl := Option.some.inj (show some { s with times := s.times } = some x from hx)
        refine AC_of Tryz.func147 rfl Tryz.ntmps147 Tryz.results147 (by kernel_rfl) rfl ?_
        simp only [List.zipIdx, List.map, Nat.zero_add, Nat.reduceAdd]
        repeat (first | apply Aw_seq | apply Aw_block | apply Aw_skip | apply Aw_exit | refine Aw_condt rfl ?_ | refine Aw_condf rfl ?_ | ((first | refine qr ?_ | refine qd (by kernel_rfl) (by kernel_rfl) ?_); simp only [go_sem, reduceEqDiff, reduceIte, reduceAdd, reduceMul, reduceSub, reduceLT, reduceLeDiff, Nat.reduceBEq, z0, w1, hy, c3, hjl]) | refine dk (by kernel_rfl) ?_ | (refine qp (k1) (by simp only [go_sem, reduceEqDiff, reduceIte, reduceAdd, reduceMul, reduceSub, reduceLT, reduceLeDiff, Nat.reduceBEq, z0, w1, hy, c3, hjl]; first | done | rfl) rfl (by simp only [go_sem, Nat.reduceLT]) rfl rfl ?_; simp only [go_sem, reduceEqDiff, reduceIte, reduceAdd, reduceMul, reduceSub, reduceLT, reduceLeDiff, Nat.reduceBEq, z0, w1, hy, c3, hjl]) | (refine qx (call_N (L := []) (k3) rfl (.cons (.nm rfl) (.nil)) (.inl rfl) rfl) (by simp only [go_sem, reduceEqDiff, reduceIte, reduceAdd, reduceMul, reduceSub, reduceLT, reduceLeDiff, Nat.reduceBEq, z0, w1, hy, c3, hjl]; first | done | rfl) rfl (by simp only [go_sem, Nat.reduceLT]) ?_; simp only [go_sem, reduceEqDiff, reduceIte, reduceAdd, reduceMul, reduceSub, reduceLT, reduceLeDiff, Nat.reduceBEq, z0, w1, hy, c3, hjl]) | (refine qx (call_N (L := [10]) (k4) rfl (.cons (arg_lend (m := 10) rfl (by simp)) (.cons (.nm rfl) (.nil))) (.inr ⟨rfl, by simp⟩) rfl) (by simp only [go_sem, reduceEqDiff, reduceIte, reduceAdd, reduceMul, reduceSub, reduceLT, reduceLeDiff, Nat.reduceBEq, z0, w1, hy, c3, hjl]; first | done | rfl) rfl (by simp only [go_sem, Nat.reduceLT]) ?_; simp only [go_sem, reduceEqDiff, reduceIte, reduceAdd, reduceMul, reduceSub, reduceLT, reduceLeDiff, Nat.reduceBEq, z0, w1, hy, c3, hjl]))
        exact Aw_ret (retL (M := [7, 8, 9, 10]) (.inl rfl) (by simp only [go_sem, reduceEqDiff, reduceIte, reduceAdd, reduceMul, reduceSub, reduceLT, reduceLeDiff, Nat.reduceBEq]; first | done | rfl) rfl rfl (by rfl) (by simp only [go_sem, reduceEqDiff, reduceIte, reduceAdd, reduceMul, reduceSub, reduceLT, reduceLeDiff, Nat.reduceBEq]; first | done | rfl | (and_intros <;> rfl)) (by decide) (by intro m hm; first | omega | (rcases m with _ | _ | _ | _ | _ | _ | m <;> first | exact ⟨by decide, rfl⟩ | omega)))
def freeAt (ts : List Int) (t : Int) (i : Nat) : List Int := match ts[i]? with
  | some x => if x = t then [] else [x]
  | none => []
def freeTs (ts : List Int) (t : Int) : List Int := colI ts.length (freeAt ts t)
theorem freeAt_len (ts : List Int) (t : Int) (i : Nat) : (freeAt ts t i).length ≤ 1 := by unfold freeAt; split <;> (try split) <;> simp
def freeM (s : Sto) (t : Int) : Option Sto := if storeS s = true then (if (freeTs s.times t).length = s.times.length then none else some { s with times := freeTs s.times t }) else none
def stHd (s : Sto) : Obj := ⟨34, 6, false, [[.h 5, .h 0, .h 1, .d (.s (.int .i64 s.keep)), .d (.s (.int .i64 s.time)), .h 6]]⟩
@[go_sem] theorem r_stHd (s : Sto) : stHd s = ⟨34, 6, false, [[.h 5, .h 0, .h 1, .d (.s (.int .i64 s.keep)), .d (.s (.int .i64 s.time)), .h 6]]⟩ := rfl
theorem storeFreeS_own (s : Sto) (t : Int) (hs : SmSt s) : OwnR 148 [stT s, iT t] (freeM s t) := by
  have k1 := sstoreOk_ac s hs
  unfold freeM
  cases c1 : storeS s
  · rw [c1] at k1
    refine ⟨fun x hx => by simp at hx, fun _ => ?_⟩
    refine AC_of Tryz.func148 rfl Tryz.ntmps148 Tryz.results148 (by kernel_rfl) rfl ?_
    simp only [List.zipIdx, List.map, Nat.zero_add, Nat.reduceAdd]
    repeat (first | apply Aw_seq | apply Aw_block | apply Aw_skip | apply Aw_exit | refine Aw_condt rfl ?_ | refine Aw_condf rfl ?_ | ((first | refine qr ?_ | refine qd (by kernel_rfl) (by kernel_rfl) ?_); simp only [go_sem, reduceEqDiff, reduceIte, reduceAdd, reduceMul, reduceSub, reduceLT, reduceLeDiff, Nat.reduceBEq]) | refine dk (by kernel_rfl) ?_ | (refine qp (k1) (by simp only [go_sem, reduceEqDiff, reduceIte, reduceAdd, reduceMul, reduceSub, reduceLT, reduceLeDiff, Nat.reduceBEq]; first | done | rfl) rfl (by simp only [go_sem, Nat.reduceLT]) rfl rfl ?_; simp only [go_sem, reduceEqDiff, reduceIte, reduceAdd, reduceMul, reduceSub, reduceLT, reduceLeDiff, Nat.reduceBEq]))
    exact Aw_ret (ret0 (.inl rfl) (by simp only [go_sem, reduceEqDiff, reduceIte, reduceAdd, reduceMul, reduceSub, reduceLT, reduceLeDiff, Nat.reduceBEq]; rfl) (by rfl) rfl)
  rw [c1] at k1
  rw [if_pos rfl]
  have k3 := copyV_ac s hs c1
  obtain ⟨h1, h2, h3, h4, h5, _⟩ := storeS_facts c1
  by_cases hc : (freeTs s.times t).length = s.times.length
  · rw [if_pos hc]
    have hci : decide ((((freeTs s.times t).length : Nat) : Int) = ((s.times.length : Nat) : Int)) = true := decide_eq_true (by omega)
    refine ⟨fun x hx => by simp at hx, fun _ => ?_⟩
    refine AC_of Tryz.func148 rfl Tryz.ntmps148 Tryz.results148 (by kernel_rfl) rfl ?_
    simp only [List.zipIdx, List.map, Nat.zero_add, Nat.reduceAdd]
    repeat (first | apply Aw_seq | apply Aw_block | apply Aw_skip | apply Aw_exit | refine Aw_condt rfl ?_ | refine Aw_condf rfl ?_ | ((first | refine qr ?_ | refine qd (by kernel_rfl) (by kernel_rfl) ?_); simp only [go_sem, reduceEqDiff, reduceIte, reduceAdd, reduceMul, reduceSub, reduceLT, reduceLeDiff, Nat.reduceBEq]) | refine dk (by kernel_rfl) ?_ | (refine qp (k1) (by simp only [go_sem, reduceEqDiff, reduceIte, reduceAdd, reduceMul, reduceSub, reduceLT, reduceLeDiff, Nat.reduceBEq]; first | done | rfl) rfl (by simp only [go_sem, Nat.reduceLT]) rfl rfl ?_; simp only [go_sem, reduceEqDiff, reduceIte, reduceAdd, reduceMul, reduceSub, reduceLT, reduceLeDiff, Nat.reduceBEq]) | (refine qx (call_N (L := []) (k3) rfl (.cons (.nm rfl) (.nil)) (.inl rfl) rfl) (by simp only [go_sem, reduceEqDiff, reduceIte, reduceAdd, reduceMul, reduceSub, reduceLT, reduceLeDiff, Nat.reduceBEq]; first | done | rfl) rfl (by simp only [go_sem, Nat.reduceLT]) ?_; simp only [go_sem, reduceEqDiff, reduceIte, reduceAdd, reduceMul, reduceSub, reduceLT, reduceLeDiff, Nat.reduceBEq]))
    refine Aw.rw (rwL (l' := [(7, .t (iT (0 : Nat))), (6, .t (.c (.h 4))), (5, .t (bT false)), (4, .t (.c (.ph 3 0 0))), (2, .t (.c (.ph 2 0 0))), (1, .t (iT t))]) (os := [some (lvRow s.levels), some (svRow s.sieves), some (stHd s), some zO, some (dRow 3 1 ((colI 0 (freeAt s.times t)).map intD)), some (eRow s.top), some (tmRow s.times)]) (M := [6, 7, 0, 1, 11, 8, 9]) (n' := 7) (by repeat (first | exact trivial | refine ⟨rfl, rfl, ?_⟩)) (by rfl) (by simp only [go_sem, reduceEqDiff, reduceIte, reduceAdd, reduceMul, reduceSub, reduceLT, reduceLeDiff, Nat.reduceBEq, colI_0, List.map_nil]; first | done | rfl) (by decide) (by intro m hm; first | omega | (rcases m with _ | _ | _ | _ | _ | _ | m <;> first | exact ⟨by decide, rfl⟩ | omega))) ?_
    refine Aw_loop_rw (ι := { i : Nat // i ≤ s.times.length }) (fun q => S [(7, .t (iT (q.1 : Nat))), (6, .t (.c (.h 4))), (5, .t (bT false)), (4, .t (.c (.ph 3 0 0))), (2, .t (.c (.ph 2 0 0))), (1, .t (iT t))] (hpL [some (lvRow s.levels), some (svRow s.sieves), some (stHd s), some zO, some (dRow 3 1 ((colI q.1 (freeAt s.times t)).map intD)), some (eRow s.top), some (tmRow s.times)]) 7) (fun q => s.times.length - q.1) ⟨0, Nat.zero_le _⟩ ?_
    rintro ⟨i, hi⟩
    dsimp only
    by_cases hlt : i < s.times.length
    · have g1 : (i : Int) < (s.times.length : Int) := by omega
      have w1 := wrap_succ hlt (by omega)
      obtain ⟨x, hx⟩ : ∃ e, s.times[i]? = some e := ⟨_, List.getElem?_eq_getElem hlt⟩
      have hb : ((colI i (freeAt s.times t)).length + 1) * 8 ≤ 140737488355328 := by have := colI_len (n := i) (freeAt_len s.times t); omega
      cases c : decide (x = t)
      · have hcc : colI (i + 1) (freeAt s.times t) = colI i (freeAt s.times t) ++ [x] := by rw [colI_succ]; simp at c; simp [freeAt, hx, c]
        repeat (first | apply Aw_seq | apply Aw_block | apply Aw_skip | apply Aw_exit | refine Aw_condt rfl ?_ | refine Aw_condf rfl ?_ | ((first | refine qr ?_ | refine qd (by kernel_rfl) (by kernel_rfl) ?_); simp only [go_sem, reduceEqDiff, reduceIte, reduceAdd, reduceMul, reduceSub, reduceLT, reduceLeDiff, Nat.reduceBEq, g1, w1, hlt, hx, c, hb]) | refine dk (by kernel_rfl) ?_)
        refine ⟨⟨i + 1, hlt⟩, [0, 1, 2, 3, 26, 5, 6], ?_, rwL (by repeat (first | exact trivial | refine ⟨rfl, rfl, ?_⟩)) (by rfl) (by simp only [go_sem, reduceEqDiff, reduceIte, reduceAdd, reduceMul, reduceSub, reduceLT, reduceLeDiff, Nat.reduceBEq, hcc, List.map_append, List.map_cons, List.map_nil]; first | done | rfl) (by decide) (by intro m hm; first | omega | (rcases m with _ | _ | _ | _ | _ | _ | m <;> first | exact ⟨by decide, rfl⟩ | omega))⟩
        show s.times.length - (i + 1) < s.times.length - i; omega
      · have hcc : colI (i + 1) (freeAt s.times t) = colI i (freeAt s.times t) := by rw [colI_succ]; simp at c; simp [freeAt, hx, c]
        repeat (first | apply Aw_seq | apply Aw_block | apply Aw_skip | apply Aw_exit | refine Aw_condt rfl ?_ | refine Aw_condf rfl ?_ | ((first | refine qr ?_ | refine qd (by kernel_rfl) (by kernel_rfl) ?_); simp only [go_sem, reduceEqDiff, reduceIte, reduceAdd, reduceMul, reduceSub, reduceLT, reduceLeDiff, Nat.reduceBEq, g1, w1, hlt, hx, c]) | refine dk (by kernel_rfl) ?_)
        refine ⟨⟨i + 1, hlt⟩, [0, 1, 2, 3, 4, 5, 6], ?_, rwL (by repeat (first | exact trivial | refine ⟨rfl, rfl, ?_⟩)) (by rfl) (by simp only [go_sem, reduceEqDiff, reduceIte, reduceAdd, reduceMul, reduceSub, reduceLT, reduceLeDiff, Nat.reduceBEq, hcc]; first | done | rfl) (by decide) (by intro m hm; first | omega | (rcases m with _ | _ | _ | _ | _ | _ | m <;> first | exact ⟨by decide, rfl⟩ | omega))⟩
        show s.times.length - (i + 1) < s.times.length - i; omega
    · have g1 : ¬ (i : Int) < (s.times.length : Int) := by omega
      obtain rfl : i = s.times.length := by omega
      have ef : colI s.times.length (freeAt s.times t) = freeTs s.times t := rfl
      rw [ef]
      repeat (first | apply Aw_seq | apply Aw_block | apply Aw_skip | apply Aw_exit | refine Aw_condt rfl ?_ | refine Aw_condf rfl ?_ | ((first | refine qr ?_ | refine qd (by kernel_rfl) (by kernel_rfl) ?_); simp only [go_sem, reduceEqDiff, reduceIte, reduceAdd, reduceMul, reduceSub, reduceLT, reduceLeDiff, Nat.reduceBEq, g1, hci]) | refine dk (by kernel_rfl) ?_)
      exact Aw_ret (ret0 (.inl rfl) (by simp only [go_sem, reduceEqDiff, reduceIte, reduceAdd, reduceMul, reduceSub, reduceLT, reduceLeDiff, Nat.reduceBEq]; rfl) (by rfl) rfl)
  · rw [if_neg hc]
    have hci : decide ((((freeTs s.times t).length : Nat) : Int) = ((s.times.length : Nat) : Int)) = false := decide_eq_false (by omega)
    refine ⟨fun x hx => ?_, fun hx => by simp at hx⟩
    obtain rfl := Option.some.inj hx
    refine AC_of Tryz.func148 rfl Tryz.ntmps148 Tryz.results148 (by kernel_rfl) rfl ?_
    simp only [List.zipIdx, List.map, Nat.zero_add, Nat.reduceAdd]
    repeat (first | apply Aw_seq | apply Aw_block | apply Aw_skip | apply Aw_exit | refine Aw_condt rfl ?_ | refine Aw_condf rfl ?_ | ((first | refine qr ?_ | refine qd (by kernel_rfl) (by kernel_rfl) ?_); simp only [go_sem, reduceEqDiff, reduceIte, reduceAdd, reduceMul, reduceSub, reduceLT, reduceLeDiff, Nat.reduceBEq]) | refine dk (by kernel_rfl) ?_ | (refine qp (k1) (by simp only [go_sem, reduceEqDiff, reduceIte, reduceAdd, reduceMul, reduceSub, reduceLT, reduceLeDiff, Nat.reduceBEq]; first | done | rfl) rfl (by simp only [go_sem, Nat.reduceLT]) rfl rfl ?_; simp only [go_sem, reduceEqDiff, reduceIte, reduceAdd, reduceMul, reduceSub, reduceLT, reduceLeDiff, Nat.reduceBEq]) | (refine qx (call_N (L := []) (k3) rfl (.cons (.nm rfl) (.nil)) (.inl rfl) rfl) (by simp only [go_sem, reduceEqDiff, reduceIte, reduceAdd, reduceMul, reduceSub, reduceLT, reduceLeDiff, Nat.reduceBEq]; first | done | rfl) rfl (by simp only [go_sem, Nat.reduceLT]) ?_; simp only [go_sem, reduceEqDiff, reduceIte, reduceAdd, reduceMul, reduceSub, reduceLT, reduceLeDiff, Nat.reduceBEq]))
    refine Aw.rw (rwL (l' := [(7, .t (iT (0 : Nat))), (6, .t (.c (.h 4))), (5, .t (bT false)), (4, .t (.c (.ph 3 0 0))), (2, .t (.c (.ph 2 0 0))), (1, .t (iT t))]) (os := [some (lvRow s.levels), some (svRow s.sieves), some (stHd s), some zO, some (dRow 3 1 ((colI 0 (freeAt s.times t)).map intD)), some (eRow s.top), some (tmRow s.times)]) (M := [6, 7, 0, 1, 11, 8, 9]) (n' := 7) (by repeat (first | exact trivial | refine ⟨rfl, rfl, ?_⟩)) (by rfl) (by simp only [go_sem, reduceEqDiff, reduceIte, reduceAdd, reduceMul, reduceSub, reduceLT, reduceLeDiff, Nat.reduceBEq, colI_0, List.map_nil]; first | done | rfl) (by decide) (by intro m hm; first | omega | (rcases m with _ | _ | _ | _ | _ | _ | m <;> first | exact ⟨by decide, rfl⟩ | omega))) ?_
    refine Aw_loop_rw (ι := { i : Nat // i ≤ s.times.length }) (fun q => S [(7, .t (iT (q.1 : Nat))), (6, .t (.c (.h 4))), (5, .t (bT false)), (4, .t (.c (.ph 3 0 0))), (2, .t (.c (.ph 2 0 0))), (1, .t (iT t))] (hpL [some (lvRow s.levels), some (svRow s.sieves), some (stHd s), some zO, some (dRow 3 1 ((colI q.1 (freeAt s.times t)).map intD)), some (eRow s.top), some (tmRow s.times)]) 7) (fun q => s.times.length - q.1) ⟨0, Nat.zero_le _⟩ ?_
    rintro ⟨i, hi⟩
    dsimp only
    by_cases hlt : i < s.times.length
    · have g1 : (i : Int) < (s.times.length : Int) := by omega
      have w1 := wrap_succ hlt (by omega)
      obtain ⟨x, hx⟩ : ∃ e, s.times[i]? = some e := ⟨_, List.getElem?_eq_getElem hlt⟩
      have hb : ((colI i (freeAt s.times t)).length + 1) * 8 ≤ 140737488355328 := by have := colI_len (n := i) (freeAt_len s.times t); omega
      cases c : decide (x = t)
      · have hcc : colI (i + 1) (freeAt s.times t) = colI i (freeAt s.times t) ++ [x] := by rw [colI_succ]; simp at c; simp [freeAt, hx, c]
        repeat (first | apply Aw_seq | apply Aw_block | apply Aw_skip | apply Aw_exit | refine Aw_condt rfl ?_ | refine Aw_condf rfl ?_ | ((first | refine qr ?_ | refine qd (by kernel_rfl) (by kernel_rfl) ?_); simp only [go_sem, reduceEqDiff, reduceIte, reduceAdd, reduceMul, reduceSub, reduceLT, reduceLeDiff, Nat.reduceBEq, g1, w1, hlt, hx, c, hb]) | refine dk (by kernel_rfl) ?_)
        refine ⟨⟨i + 1, hlt⟩, [0, 1, 2, 3, 26, 5, 6], ?_, rwL (by repeat (first | exact trivial | refine ⟨rfl, rfl, ?_⟩)) (by rfl) (by simp only [go_sem, reduceEqDiff, reduceIte, reduceAdd, reduceMul, reduceSub, reduceLT, reduceLeDiff, Nat.reduceBEq, hcc, List.map_append, List.map_cons, List.map_nil]; first | done | rfl) (by decide) (by intro m hm; first | omega | (rcases m with _ | _ | _ | _ | _ | _ | m <;> first | exact ⟨by decide, rfl⟩ | omega))⟩
        show s.times.length - (i + 1) < s.times.length - i; omega
      · have hcc : colI (i + 1) (freeAt s.times t) = colI i (freeAt s.times t) := by rw [colI_succ]; simp at c; simp [freeAt, hx, c]
        repeat (first | apply Aw_seq | apply Aw_block | apply Aw_skip | apply Aw_exit | refine Aw_condt rfl ?_ | refine Aw_condf rfl ?_ | ((first | refine qr ?_ | refine qd (by kernel_rfl) (by kernel_rfl) ?_); simp only [go_sem, reduceEqDiff, reduceIte, reduceAdd, reduceMul, reduceSub, reduceLT, reduceLeDiff, Nat.reduceBEq, g1, w1, hlt, hx, c]) | refine dk (by kernel_rfl) ?_)
        refine ⟨⟨i + 1, hlt⟩, [0, 1, 2, 3, 4, 5, 6], ?_, rwL (by repeat (first | exact trivial | refine ⟨rfl, rfl, ?_⟩)) (by rfl) (by simp only [go_sem, reduceEqDiff, reduceIte, reduceAdd, reduceMul, reduceSub, reduceLT, reduceLeDiff, Nat.reduceBEq, hcc]; first | done | rfl) (by decide) (by intro m hm; first | omega | (rcases m with _ | _ | _ | _ | _ | _ | m <;> first | exact ⟨by decide, rfl⟩ | omega))⟩
        show s.times.length - (i + 1) < s.times.length - i; omega
    · have g1 : ¬ (i : Int) < (s.times.length : Int) := by omega
      obtain rfl : i = s.times.length := by omega
      have ef : colI s.times.length (freeAt s.times t) = freeTs s.times t := rfl
      rw [ef]
      repeat (first | apply Aw_seq | apply Aw_block | apply Aw_skip | apply Aw_exit | refine Aw_condt rfl ?_ | refine Aw_condf rfl ?_ | ((first | refine qr ?_ | refine qd (by kernel_rfl) (by kernel_rfl) ?_); simp only [go_sem, reduceEqDiff, reduceIte, reduceAdd, reduceMul, reduceSub, reduceLT, reduceLeDiff, Nat.reduceBEq, g1, hci]) | refine dk (by kernel_rfl) ?_)
      exact Aw_ret (retL (M := [0, 1, 5, 4]) (.inl rfl) (by simp only [go_sem, reduceEqDiff, reduceIte, reduceAdd, reduceMul, reduceSub, reduceLT, reduceLeDiff, Nat.reduceBEq]; first | done | rfl) rfl rfl (by rfl) (by simp only [go_sem, reduceEqDiff, reduceIte, reduceAdd, reduceMul, reduceSub, reduceLT, reduceLeDiff, Nat.reduceBEq]; first | done | rfl | (and_intros <;> rfl)) (by decide) (by intro m hm; first | omega | (rcases m with _ | _ | _ | _ | _ | _ | m <;> first | exact ⟨by decide, rfl⟩ | omega)))
structure Deed where
  kind : Int
  key : ByteArray
  num : Int
def deedD (d : Deed) : List D := [.s (.int .i64 d.kind), .s (.string d.key), .s (.int .i64 d.num)]
@[go_sem] theorem r_deedD (d : Deed) : deedD d = [.s (.int .i64 d.kind), .s (.string d.key), .s (.int .i64 d.num)] := rfl
abbrev deedT (d : Deed) : TV := .agg [.d (.s (.int .i64 d.kind)), .d (.s (.string d.key)), .d (.s (.int .i64 d.num))]
abbrev deedsT (ds : List Deed) : TV := .c (.d (.rs 3 (ds.map deedD)))
def doM (s : Sto) (d : Deed) : Option Sto := if d.kind = 1 then putM s d.key d.num else if d.kind = 2 then takeM s d.key else if d.kind = 3 then holdM s else if d.kind = 4 then freeM s d.num else if d.kind = 5 then sDownM s else if d.kind = 6 then sJoinM s d.num else none
theorem l13Do_own (s : Sto) (d : Deed) (hs : SmSt s) (hk : smK d.key) : OwnR 135 [stT s, deedT d] (doM s d) := by
  unfold doM
  cases c1 : decide (d.kind = 1)
  case true =>
    rw [if_pos (of_decide_eq_true c1)]
    obtain ⟨a1, a2⟩ := storePutS_own s d.key d.num hs hk
    refine ⟨fun x hx => ?_, fun hx => ?_⟩
    · have k := a1 x hx
      refine AC_of Tryz.func135 rfl Tryz.ntmps135 Tryz.results135 (by kernel_rfl) rfl ?_
      simp only [List.zipIdx, List.map, Nat.zero_add, Nat.reduceAdd]
      repeat (first | apply Aw_seq | apply Aw_block | apply Aw_skip | apply Aw_exit | refine Aw_condt rfl ?_ | refine Aw_condf rfl ?_ | ((first | refine qr ?_ | refine qd (by kernel_rfl) (by kernel_rfl) ?_); simp only [go_sem, reduceEqDiff, reduceIte, reduceAdd, reduceMul, reduceSub, reduceLT, reduceLeDiff, Nat.reduceBEq, c1]) | refine dk (by kernel_rfl) ?_ | (refine qx (call_N (L := []) (k) rfl (.cons (.nm rfl) (.cons (.nm rfl) (.cons (.nm rfl) (.nil)))) (.inl rfl) rfl) (by simp only [go_sem, reduceEqDiff, reduceIte, reduceAdd, reduceMul, reduceSub, reduceLT, reduceLeDiff, Nat.reduceBEq, c1]; first | done | rfl) rfl (by simp only [go_sem, Nat.reduceLT]) ?_; simp only [go_sem, reduceEqDiff, reduceIte, reduceAdd, reduceMul, reduceSub, reduceLT, reduceLeDiff, Nat.reduceBEq, c1]))
      exact Aw_ret (retL (M := [13, 14, 15, 16]) (.inl rfl) (by simp only [go_sem, reduceEqDiff, reduceIte, reduceAdd, reduceMul, reduceSub, reduceLT, reduceLeDiff, Nat.reduceBEq]; first | done | rfl) rfl rfl (by rfl) (by simp only [go_sem, reduceEqDiff, reduceIte, reduceAdd, reduceMul, reduceSub, reduceLT, reduceLeDiff, Nat.reduceBEq]; first | done | rfl | (and_intros <;> rfl)) (by decide) (by intro m hm; first | omega | (rcases m with _ | _ | _ | _ | _ | _ | m <;> first | exact ⟨by decide, rfl⟩ | omega)))
    · have k := a2 hx
      refine AC_of Tryz.func135 rfl Tryz.ntmps135 Tryz.results135 (by kernel_rfl) rfl ?_
      simp only [List.zipIdx, List.map, Nat.zero_add, Nat.reduceAdd]
      repeat (first | apply Aw_seq | apply Aw_block | apply Aw_skip | apply Aw_exit | refine Aw_condt rfl ?_ | refine Aw_condf rfl ?_ | ((first | refine qr ?_ | refine qd (by kernel_rfl) (by kernel_rfl) ?_); simp only [go_sem, reduceEqDiff, reduceIte, reduceAdd, reduceMul, reduceSub, reduceLT, reduceLeDiff, Nat.reduceBEq, c1]) | refine dk (by kernel_rfl) ?_ | (refine qp (k) (by simp only [go_sem, reduceEqDiff, reduceIte, reduceAdd, reduceMul, reduceSub, reduceLT, reduceLeDiff, Nat.reduceBEq, c1]; first | done | rfl) rfl (by simp only [go_sem, Nat.reduceLT]) rfl rfl ?_; simp only [go_sem, reduceEqDiff, reduceIte, reduceAdd, reduceMul, reduceSub, reduceLT, reduceLeDiff, Nat.reduceBEq, c1]))
      exact Aw_ret (ret0 (.inl rfl) (by simp only [go_sem, reduceEqDiff, reduceIte, reduceAdd, reduceMul, reduceSub, reduceLT, reduceLeDiff, Nat.reduceBEq]; rfl) (by rfl) rfl)
  rw [if_neg (of_decide_eq_false c1)]
  cases c2 : decide (d.kind = 2)
  case true =>
    rw [if_pos (of_decide_eq_true c2)]
    obtain ⟨a1, a2⟩ := storeTakeS_own s d.key hs hk
    refine ⟨fun x hx => ?_, fun hx => ?_⟩
    · have k := a1 x hx
      refine AC_of Tryz.func135 rfl Tryz.ntmps135 Tryz.results135 (by kernel_rfl) rfl ?_
      simp only [List.zipIdx, List.map, Nat.zero_add, Nat.reduceAdd]
      repeat (first | apply Aw_seq | apply Aw_block | apply Aw_skip | apply Aw_exit | refine Aw_condt rfl ?_ | refine Aw_condf rfl ?_ | ((first | refine qr ?_ | refine qd (by kernel_rfl) (by kernel_rfl) ?_); simp only [go_sem, reduceEqDiff, reduceIte, reduceAdd, reduceMul, reduceSub, reduceLT, reduceLeDiff, Nat.reduceBEq, c1, c2]) | refine dk (by kernel_rfl) ?_ | (refine qx (call_N (L := []) (k) rfl (.cons (.nm rfl) (.cons (.nm rfl) (.nil))) (.inl rfl) rfl) (by simp only [go_sem, reduceEqDiff, reduceIte, reduceAdd, reduceMul, reduceSub, reduceLT, reduceLeDiff, Nat.reduceBEq, c1, c2]; first | done | rfl) rfl (by simp only [go_sem, Nat.reduceLT]) ?_; simp only [go_sem, reduceEqDiff, reduceIte, reduceAdd, reduceMul, reduceSub, reduceLT, reduceLeDiff, Nat.reduceBEq, c1, c2]))
      exact Aw_ret (retL (M := [13, 14, 15, 16]) (.inl rfl) (by simp only [go_sem, reduceEqDiff, reduceIte, reduceAdd, reduceMul, reduceSub, reduceLT, reduceLeDiff, Nat.reduceBEq]; first | done | rfl) rfl rfl (by rfl) (by simp only [go_sem, reduceEqDiff, reduceIte, reduceAdd, reduceMul, reduceSub, reduceLT, reduceLeDiff, Nat.reduceBEq]; first | done | rfl | (and_intros <;> rfl)) (by decide) (by intro m hm; first | omega | (rcases m with _ | _ | _ | _ | _ | _ | m <;> first | exact ⟨by decide, rfl⟩ | omega)))
    · have k := a2 hx
      refine AC_of Tryz.func135 rfl Tryz.ntmps135 Tryz.results135 (by kernel_rfl) rfl ?_
      simp only [List.zipIdx, List.map, Nat.zero_add, Nat.reduceAdd]
      repeat (first | apply Aw_seq | apply Aw_block | apply Aw_skip | apply Aw_exit | refine Aw_condt rfl ?_ | refine Aw_condf rfl ?_ | ((first | refine qr ?_ | refine qd (by kernel_rfl) (by kernel_rfl) ?_); simp only [go_sem, reduceEqDiff, reduceIte, reduceAdd, reduceMul, reduceSub, reduceLT, reduceLeDiff, Nat.reduceBEq, c1, c2]) | refine dk (by kernel_rfl) ?_ | (refine qp (k) (by simp only [go_sem, reduceEqDiff, reduceIte, reduceAdd, reduceMul, reduceSub, reduceLT, reduceLeDiff, Nat.reduceBEq, c1, c2]; first | done | rfl) rfl (by simp only [go_sem, Nat.reduceLT]) rfl rfl ?_; simp only [go_sem, reduceEqDiff, reduceIte, reduceAdd, reduceMul, reduceSub, reduceLT, reduceLeDiff, Nat.reduceBEq, c1, c2]))
      exact Aw_ret (ret0 (.inl rfl) (by simp only [go_sem, reduceEqDiff, reduceIte, reduceAdd, reduceMul, reduceSub, reduceLT, reduceLeDiff, Nat.reduceBEq]; rfl) (by rfl) rfl)
  rw [if_neg (of_decide_eq_false c2)]
  cases c3 : decide (d.kind = 3)
  case true =>
    rw [if_pos (of_decide_eq_true c3)]
    obtain ⟨a1, a2⟩ := storeHoldS_own s hs
    refine ⟨fun x hx => ?_, fun hx => ?_⟩
    · have k := a1 x hx
      refine AC_of Tryz.func135 rfl Tryz.ntmps135 Tryz.results135 (by kernel_rfl) rfl ?_
      simp only [List.zipIdx, List.map, Nat.zero_add, Nat.reduceAdd]
      repeat (first | apply Aw_seq | apply Aw_block | apply Aw_skip | apply Aw_exit | refine Aw_condt rfl ?_ | refine Aw_condf rfl ?_ | ((first | refine qr ?_ | refine qd (by kernel_rfl) (by kernel_rfl) ?_); simp only [go_sem, reduceEqDiff, reduceIte, reduceAdd, reduceMul, reduceSub, reduceLT, reduceLeDiff, Nat.reduceBEq, c1, c2, c3]) | refine dk (by kernel_rfl) ?_ | (refine qx (call_N (L := []) (k) rfl (.cons (.nm rfl) (.nil)) (.inl rfl) rfl) (by simp only [go_sem, reduceEqDiff, reduceIte, reduceAdd, reduceMul, reduceSub, reduceLT, reduceLeDiff, Nat.reduceBEq, c1, c2, c3]; first | done | rfl) rfl (by simp only [go_sem, Nat.reduceLT]) ?_; simp only [go_sem, reduceEqDiff, reduceIte, reduceAdd, reduceMul, reduceSub, reduceLT, reduceLeDiff, Nat.reduceBEq, c1, c2, c3]))
      exact Aw_ret (retL (M := [13, 14, 15, 16]) (.inl rfl) (by simp only [go_sem, reduceEqDiff, reduceIte, reduceAdd, reduceMul, reduceSub, reduceLT, reduceLeDiff, Nat.reduceBEq]; first | done | rfl) rfl rfl (by rfl) (by simp only [go_sem, reduceEqDiff, reduceIte, reduceAdd, reduceMul, reduceSub, reduceLT, reduceLeDiff, Nat.reduceBEq]; first | done | rfl | (and_intros <;> rfl)) (by decide) (by intro m hm; first | omega | (rcases m with _ | _ | _ | _ | _ | _ | m <;> first | exact ⟨by decide, rfl⟩ | omega)))
    · have k := a2 hx
      refine AC_of Tryz.func135 rfl Tryz.ntmps135 Tryz.results135 (by kernel_rfl) rfl ?_
      simp only [List.zipIdx, List.map, Nat.zero_add, Nat.reduceAdd]
      repeat (first | apply Aw_seq | apply Aw_block | apply Aw_skip | apply Aw_exit | refine Aw_condt rfl ?_ | refine Aw_condf rfl ?_ | ((first | refine qr ?_ | refine qd (by kernel_rfl) (by kernel_rfl) ?_); simp only [go_sem, reduceEqDiff, reduceIte, reduceAdd, reduceMul, reduceSub, reduceLT, reduceLeDiff, Nat.reduceBEq, c1, c2, c3]) | refine dk (by kernel_rfl) ?_ | (refine qp (k) (by simp only [go_sem, reduceEqDiff, reduceIte, reduceAdd, reduceMul, reduceSub, reduceLT, reduceLeDiff, Nat.reduceBEq, c1, c2, c3]; first | done | rfl) rfl (by simp only [go_sem, Nat.reduceLT]) rfl rfl ?_; simp only [go_sem, reduceEqDiff, reduceIte, reduceAdd, reduceMul, reduceSub, reduceLT, reduceLeDiff, Nat.reduceBEq, c1, c2, c3]))
      exact Aw_ret (ret0 (.inl rfl) (by simp only [go_sem, reduceEqDiff, reduceIte, reduceAdd, reduceMul, reduceSub, reduceLT, reduceLeDiff, Nat.reduceBEq]; rfl) (by rfl) rfl)
  rw [if_neg (of_decide_eq_false c3)]
  cases c4 : decide (d.kind = 4)
  case true =>
    rw [if_pos (of_decide_eq_true c4)]
    obtain ⟨a1, a2⟩ := storeFreeS_own s d.num hs
    refine ⟨fun x hx => ?_, fun hx => ?_⟩
    · have k := a1 x hx
      refine AC_of Tryz.func135 rfl Tryz.ntmps135 Tryz.results135 (by kernel_rfl) rfl ?_
      simp only [List.zipIdx, List.map, Nat.zero_add, Nat.reduceAdd]
      repeat (first | apply Aw_seq | apply Aw_block | apply Aw_skip | apply Aw_exit | refine Aw_condt rfl ?_ | refine Aw_condf rfl ?_ | ((first | refine qr ?_ | refine qd (by kernel_rfl) (by kernel_rfl) ?_); simp only [go_sem, reduceEqDiff, reduceIte, reduceAdd, reduceMul, reduceSub, reduceLT, reduceLeDiff, Nat.reduceBEq, c1, c2, c3, c4]) | refine dk (by kernel_rfl) ?_ | (refine qx (call_N (L := []) (k) rfl (.cons (.nm rfl) (.cons (.nm rfl) (.nil))) (.inl rfl) rfl) (by simp only [go_sem, reduceEqDiff, reduceIte, reduceAdd, reduceMul, reduceSub, reduceLT, reduceLeDiff, Nat.reduceBEq, c1, c2, c3, c4]; first | done | rfl) rfl (by simp only [go_sem, Nat.reduceLT]) ?_; simp only [go_sem, reduceEqDiff, reduceIte, reduceAdd, reduceMul, reduceSub, reduceLT, reduceLeDiff, Nat.reduceBEq, c1, c2, c3, c4]))
      exact Aw_ret (retL (M := [17, 18, 19, 20]) (.inl rfl) (by simp only [go_sem, reduceEqDiff, reduceIte, reduceAdd, reduceMul, reduceSub, reduceLT, reduceLeDiff, Nat.reduceBEq]; first | done | rfl) rfl rfl (by rfl) (by simp only [go_sem, reduceEqDiff, reduceIte, reduceAdd, reduceMul, reduceSub, reduceLT, reduceLeDiff, Nat.reduceBEq]; first | done | rfl | (and_intros <;> rfl)) (by decide) (by intro m hm; first | omega | (rcases m with _ | _ | _ | _ | _ | _ | m <;> first | exact ⟨by decide, rfl⟩ | omega)))
    · have k := a2 hx
      refine AC_of Tryz.func135 rfl Tryz.ntmps135 Tryz.results135 (by kernel_rfl) rfl ?_
      simp only [List.zipIdx, List.map, Nat.zero_add, Nat.reduceAdd]
      repeat (first | apply Aw_seq | apply Aw_block | apply Aw_skip | apply Aw_exit | refine Aw_condt rfl ?_ | refine Aw_condf rfl ?_ | ((first | refine qr ?_ | refine qd (by kernel_rfl) (by kernel_rfl) ?_); simp only [go_sem, reduceEqDiff, reduceIte, reduceAdd, reduceMul, reduceSub, reduceLT, reduceLeDiff, Nat.reduceBEq, c1, c2, c3, c4]) | refine dk (by kernel_rfl) ?_ | (refine qp (k) (by simp only [go_sem, reduceEqDiff, reduceIte, reduceAdd, reduceMul, reduceSub, reduceLT, reduceLeDiff, Nat.reduceBEq, c1, c2, c3, c4]; first | done | rfl) rfl (by simp only [go_sem, Nat.reduceLT]) rfl rfl ?_; simp only [go_sem, reduceEqDiff, reduceIte, reduceAdd, reduceMul, reduceSub, reduceLT, reduceLeDiff, Nat.reduceBEq, c1, c2, c3, c4]))
      exact Aw_ret (ret0 (.inl rfl) (by simp only [go_sem, reduceEqDiff, reduceIte, reduceAdd, reduceMul, reduceSub, reduceLT, reduceLeDiff, Nat.reduceBEq]; rfl) (by rfl) rfl)
  rw [if_neg (of_decide_eq_false c4)]
  cases c5 : decide (d.kind = 5)
  case true =>
    rw [if_pos (of_decide_eq_true c5)]
    obtain ⟨a1, a2⟩ := storeDownS_own s hs
    refine ⟨fun x hx => ?_, fun hx => ?_⟩
    · have k := a1 x hx
      refine AC_of Tryz.func135 rfl Tryz.ntmps135 Tryz.results135 (by kernel_rfl) rfl ?_
      simp only [List.zipIdx, List.map, Nat.zero_add, Nat.reduceAdd]
      repeat (first | apply Aw_seq | apply Aw_block | apply Aw_skip | apply Aw_exit | refine Aw_condt rfl ?_ | refine Aw_condf rfl ?_ | ((first | refine qr ?_ | refine qd (by kernel_rfl) (by kernel_rfl) ?_); simp only [go_sem, reduceEqDiff, reduceIte, reduceAdd, reduceMul, reduceSub, reduceLT, reduceLeDiff, Nat.reduceBEq, c1, c2, c3, c4, c5]) | refine dk (by kernel_rfl) ?_ | (refine qx (call_N (L := []) (k) rfl (.cons (.nm rfl) (.nil)) (.inl rfl) rfl) (by simp only [go_sem, reduceEqDiff, reduceIte, reduceAdd, reduceMul, reduceSub, reduceLT, reduceLeDiff, Nat.reduceBEq, c1, c2, c3, c4, c5]; first | done | rfl) rfl (by simp only [go_sem, Nat.reduceLT]) ?_; simp only [go_sem, reduceEqDiff, reduceIte, reduceAdd, reduceMul, reduceSub, reduceLT, reduceLeDiff, Nat.reduceBEq, c1, c2, c3, c4, c5]))
      exact Aw_ret (retL (M := [17, 18, 19, 20]) (.inl rfl) (by simp only [go_sem, reduceEqDiff, reduceIte, reduceAdd, reduceMul, reduceSub, reduceLT, reduceLeDiff, Nat.reduceBEq]; first | done | rfl) rfl rfl (by rfl) (by simp only [go_sem, reduceEqDiff, reduceIte, reduceAdd, reduceMul, reduceSub, reduceLT, reduceLeDiff, Nat.reduceBEq]; first | done | rfl | (and_intros <;> rfl)) (by decide) (by intro m hm; first | omega | (rcases m with _ | _ | _ | _ | _ | _ | m <;> first | exact ⟨by decide, rfl⟩ | omega)))
    · have k := a2 hx
      refine AC_of Tryz.func135 rfl Tryz.ntmps135 Tryz.results135 (by kernel_rfl) rfl ?_
      simp only [List.zipIdx, List.map, Nat.zero_add, Nat.reduceAdd]
      repeat (first | apply Aw_seq | apply Aw_block | apply Aw_skip | apply Aw_exit | refine Aw_condt rfl ?_ | refine Aw_condf rfl ?_ | ((first | refine qr ?_ | refine qd (by kernel_rfl) (by kernel_rfl) ?_); simp only [go_sem, reduceEqDiff, reduceIte, reduceAdd, reduceMul, reduceSub, reduceLT, reduceLeDiff, Nat.reduceBEq, c1, c2, c3, c4, c5]) | refine dk (by kernel_rfl) ?_ | (refine qp (k) (by simp only [go_sem, reduceEqDiff, reduceIte, reduceAdd, reduceMul, reduceSub, reduceLT, reduceLeDiff, Nat.reduceBEq, c1, c2, c3, c4, c5]; first | done | rfl) rfl (by simp only [go_sem, Nat.reduceLT]) rfl rfl ?_; simp only [go_sem, reduceEqDiff, reduceIte, reduceAdd, reduceMul, reduceSub, reduceLT, reduceLeDiff, Nat.reduceBEq, c1, c2, c3, c4, c5]))
      exact Aw_ret (ret0 (.inl rfl) (by simp only [go_sem, reduceEqDiff, reduceIte, reduceAdd, reduceMul, reduceSub, reduceLT, reduceLeDiff, Nat.reduceBEq]; rfl) (by rfl) rfl)
  rw [if_neg (of_decide_eq_false c5)]
  cases c6 : decide (d.kind = 6)
  case true =>
    rw [if_pos (of_decide_eq_true c6)]
    obtain ⟨a1, a2⟩ := storeJoinS_own s d.num hs
    refine ⟨fun x hx => ?_, fun hx => ?_⟩
    · have k := a1 x hx
      refine AC_of Tryz.func135 rfl Tryz.ntmps135 Tryz.results135 (by kernel_rfl) rfl ?_
      simp only [List.zipIdx, List.map, Nat.zero_add, Nat.reduceAdd]
      repeat (first | apply Aw_seq | apply Aw_block | apply Aw_skip | apply Aw_exit | refine Aw_condt rfl ?_ | refine Aw_condf rfl ?_ | ((first | refine qr ?_ | refine qd (by kernel_rfl) (by kernel_rfl) ?_); simp only [go_sem, reduceEqDiff, reduceIte, reduceAdd, reduceMul, reduceSub, reduceLT, reduceLeDiff, Nat.reduceBEq, c1, c2, c3, c4, c5, c6]) | refine dk (by kernel_rfl) ?_ | (refine qx (call_N (L := []) (k) rfl (.cons (.nm rfl) (.cons (.nm rfl) (.nil))) (.inl rfl) rfl) (by simp only [go_sem, reduceEqDiff, reduceIte, reduceAdd, reduceMul, reduceSub, reduceLT, reduceLeDiff, Nat.reduceBEq, c1, c2, c3, c4, c5, c6]; first | done | rfl) rfl (by simp only [go_sem, Nat.reduceLT]) ?_; simp only [go_sem, reduceEqDiff, reduceIte, reduceAdd, reduceMul, reduceSub, reduceLT, reduceLeDiff, Nat.reduceBEq, c1, c2, c3, c4, c5, c6]))
      exact Aw_ret (retL (M := [21, 22, 23, 24]) (.inl rfl) (by simp only [go_sem, reduceEqDiff, reduceIte, reduceAdd, reduceMul, reduceSub, reduceLT, reduceLeDiff, Nat.reduceBEq]; first | done | rfl) rfl rfl (by rfl) (by simp only [go_sem, reduceEqDiff, reduceIte, reduceAdd, reduceMul, reduceSub, reduceLT, reduceLeDiff, Nat.reduceBEq]; first | done | rfl | (and_intros <;> rfl)) (by decide) (by intro m hm; first | omega | (rcases m with _ | _ | _ | _ | _ | _ | m <;> first | exact ⟨by decide, rfl⟩ | omega)))
    · have k := a2 hx
      refine AC_of Tryz.func135 rfl Tryz.ntmps135 Tryz.results135 (by kernel_rfl) rfl ?_
      simp only [List.zipIdx, List.map, Nat.zero_add, Nat.reduceAdd]
      repeat (first | apply Aw_seq | apply Aw_block | apply Aw_skip | apply Aw_exit | refine Aw_condt rfl ?_ | refine Aw_condf rfl ?_ | ((first | refine qr ?_ | refine qd (by kernel_rfl) (by kernel_rfl) ?_); simp only [go_sem, reduceEqDiff, reduceIte, reduceAdd, reduceMul, reduceSub, reduceLT, reduceLeDiff, Nat.reduceBEq, c1, c2, c3, c4, c5, c6]) | refine dk (by kernel_rfl) ?_ | (refine qp (k) (by simp only [go_sem, reduceEqDiff, reduceIte, reduceAdd, reduceMul, reduceSub, reduceLT, reduceLeDiff, Nat.reduceBEq, c1, c2, c3, c4, c5, c6]; first | done | rfl) rfl (by simp only [go_sem, Nat.reduceLT]) rfl rfl ?_; simp only [go_sem, reduceEqDiff, reduceIte, reduceAdd, reduceMul, reduceSub, reduceLT, reduceLeDiff, Nat.reduceBEq, c1, c2, c3, c4, c5, c6]))
      exact Aw_ret (ret0 (.inl rfl) (by simp only [go_sem, reduceEqDiff, reduceIte, reduceAdd, reduceMul, reduceSub, reduceLT, reduceLeDiff, Nat.reduceBEq]; rfl) (by rfl) rfl)
  rw [if_neg (of_decide_eq_false c6)]
  refine ⟨fun x hx => (by cases hx), fun _ => ?_⟩
  refine AC_of Tryz.func135 rfl Tryz.ntmps135 Tryz.results135 (by kernel_rfl) rfl ?_
  simp only [List.zipIdx, List.map, Nat.zero_add, Nat.reduceAdd]
  repeat (first | apply Aw_seq | apply Aw_block | apply Aw_skip | apply Aw_exit | refine Aw_condt rfl ?_ | refine Aw_condf rfl ?_ | ((first | refine qr ?_ | refine qd (by kernel_rfl) (by kernel_rfl) ?_); simp only [go_sem, reduceEqDiff, reduceIte, reduceAdd, reduceMul, reduceSub, reduceLT, reduceLeDiff, Nat.reduceBEq, c1, c2, c3, c4, c5, c6]) | refine dk (by kernel_rfl) ?_)
  exact Aw_ret (ret0 (.inl rfl) (by simp only [go_sem, reduceEqDiff, reduceIte, reduceAdd, reduceMul, reduceSub, reduceLT, reduceLeDiff, Nat.reduceBEq]; rfl) (by rfl) rfl)
theorem l13Do_ac (s : Sto) (d : Deed) (hs : SmSt s) (hk : smK d.key) : AC Tryz.prog 135 [stT s, deedT d] noHp 0 ⟨resO (doM s d), noHp, 0⟩ := (l13Do_own s d hs hk).set
theorem setM_st {s s' : Sto} {i : Nat} {r : List Ent} (hs : SmSt s) (hr : SmR r) (h : setM s i r = some s') : SmSt s' := by
  obtain ⟨x, rfl, hx, hl⟩ := setM_ok h
  refine ⟨hs.top, fun q hq => ?_, by simpa using hs.ll, by simpa using hs.sl, fun y hy => ?_, hs.tl⟩
  · rcases List.mem_or_eq_of_mem_set hq with h | rfl
    · exact hs.lev q h
    · exact hr
  · rcases List.mem_or_eq_of_mem_set hy with h | rfl
    · exact hs.rl y h
    · exact sieveM_len hx
theorem intoM_st : ∀ (d : Nat) {s s' : Sto} {i : Nat} {r : List Ent}, i + d = 2 → SmH s → SmSt s → SmR r → r.length ≤ 1000 → intoM d s i r = some s' → SmSt s'
  | 0, s, s', i, r, hi, hh, hs, hr, hl, h => by
    have hq : SmR (s.levels.getD i []) ∧ (s.levels.getD i []).length ≤ 1000 := by
      rw [List.getD_eq_getElem?_getD, List.getElem?_eq_getElem (by rw [hh.ll]; omega)]; exact hh.lev _ (List.getElem_mem _)
    exact setM_st hs (smR_trim (smR_join hr hq.1 hl hq.2) _ _) h
  | d + 1, s, s', i, r, hi, hh, hs, hr, hl, h => by
    have hq : SmR (s.levels.getD i []) ∧ (s.levels.getD i []).length ≤ 1000 := by
      rw [List.getD_eq_getElem?_getD, List.getElem?_eq_getElem (by rw [hh.ll]; omega)]; exact hh.lev _ (List.getElem_mem _)
    simp only [intoM] at h
    split at h
    · rename_i x hx
      obtain rfl := Option.some.inj h
      exact setM_st hs (smR_trim (smR_join hr hq.1 hl hq.2) _ _) hx
    · obtain ⟨s1, h1, h2⟩ := Option.bind_eq_some_iff.1 h
      exact setM_st (intoM_st d (by omega) hh hs hq.1 hq.2 h1) (smR_trim hr _ _) h2
theorem downM_st {s s' : Sto} (hs : SmSt s) (hv : storeS s = true) (h : downM s = some s') : SmSt s' ∧ s'.top = [] := by
  have sm := valid_sm hs hv
  obtain ⟨h1, h2, h3, h4, h5, _⟩ := storeS_facts hv
  have g : SmSt (noTop s) := ⟨smR_nil, hs.lev, hs.ll, hs.sl, hs.rl, hs.tl⟩
  exact ⟨intoM_st 2 (s := noTop s) rfl ⟨sm.ll, sm.sl, sm.lev, sm.tl⟩ g hs.top (by omega) h, (intoM_sm 2 (s := noTop s) (i := 0) rfl ⟨sm.ll, sm.sl, sm.lev, sm.tl⟩ hs.top (by omega) h).2.2.1⟩
theorem smR_one {e : Ent} (h : smK e.key) : SmR [e] := ⟨by simp, by simpa using h⟩
theorem addM_st {s s' : Sto} {e : Ent} (hs : SmSt s) (he : smK e.key) (h : addM s e = some s') : SmSt s' := by
  unfold addM at h
  split at h
  · rename_i hc
    rw [Bool.and_eq_true] at hc
    obtain ⟨h1, h2, h3, h4, h5, _⟩ := storeS_facts hc.1
    split at h
    · obtain ⟨x, hx, rfl⟩ := Option.map_eq_some_iff.1 h
      obtain ⟨g, gt⟩ := downM_st hs hc.1 hx
      exact ⟨smR_join (smR_one he) g.top (by simp) (by rw [gt]; simp), g.lev, g.ll, g.sl, g.rl, g.tl⟩
    · obtain rfl := Option.some.inj h
      exact ⟨smR_join (smR_one he) hs.top (by simp) (by omega), hs.lev, hs.ll, hs.sl, hs.rl, hs.tl⟩
  · cases h
theorem doM_st {s s' : Sto} {d : Deed} (hs : SmSt s) (hk : smK d.key) (h : doM s d = some s') : SmSt s' := by
  unfold doM at h
  split at h
  · exact addM_st (e := ⟨d.key, d.num, false, nextT s⟩) hs hk h
  split at h
  · exact addM_st (e := ⟨d.key, 0, true, nextT s⟩) hs hk h
  split at h
  · unfold holdM at h
    split at h
    · rename_i hv
      obtain ⟨h1, h2, h3, h4, h5, _⟩ := storeS_facts hv
      split at h
      · obtain rfl := Option.some.inj h
        have hl : (heldTs s).length ≤ 1099511627776 := by
          unfold heldTs
          split
          · omega
          · simp only [List.length_append, List.length_cons, List.length_nil]; omega
        exact ⟨hs.top, hs.lev, hs.ll, hs.sl, hs.rl, hl⟩
      · cases h
    · cases h
  split at h
  · unfold freeM at h
    split at h
    · split at h
      · cases h
      · obtain rfl := Option.some.inj h
        exact ⟨hs.top, hs.lev, hs.ll, hs.sl, hs.rl, Nat.le_trans (colI_len (freeAt_len _ _)) hs.tl⟩
    · cases h
  split at h
  · unfold sDownM at h
    split at h
    · rename_i hv; exact (downM_st hs hv h).1
    · cases h
  split at h
  · unfold sJoinM at h
    split at h
    · rename_i hc
      rw [Bool.and_eq_true] at hc
      have sm := valid_sm hs hc.1
      have c2 := hc.2
      unfold inB at c2
      rw [Bool.and_eq_true] at c2
      have g1 := of_decide_eq_true c2.1; have g2 := of_decide_eq_true c2.2
      obtain ⟨x, hx, h2⟩ := Option.bind_eq_some_iff.1 h
      have smx := setM_sm sm (by omega) smR_nil hx
      have hq : SmR (s.levels.getD d.num.toNat []) ∧ (s.levels.getD d.num.toNat []).length ≤ 1000 := by
        rw [List.getD_eq_getElem?_getD, List.getElem?_eq_getElem (by rw [sm.ll]; omega)]; exact sm.lev _ (List.getElem_mem _)
      exact intoM_st _ (by omega) smx (setM_st hs smR_nil hx) hq.1 hq.2 h2
    · cases h
  · cases h
/-- The entry that a deed writes. -/
def entOf (d : Deed) (x : Sto) : Ent := if d.kind = 2 then ⟨d.key, 0, true, x.time⟩ else ⟨d.key, d.num, false, x.time⟩
def pastStep (q : Sto × List Ent) (d : Deed) : Sto × List Ent := match doM q.1 d with
  | none => q
  | some x => (x, if q.1.time < x.time then q.2 ++ [entOf d x] else q.2)
def pastTo (s : Sto) (ds : List Deed) (i : Nat) : Sto × List Ent := (ds.take i).foldl pastStep (s, [])
theorem pastTo_succ {s : Sto} {ds : List Deed} {i : Nat} {d : Deed} (h : ds[i]? = some d) : pastTo s ds (i + 1) = pastStep (pastTo s ds i) d := by
  unfold pastTo
  rw [List.take_add_one, h]
  simp [List.foldl_append]
structure SmD (ds : List Deed) : Prop where
  key : ∀ d ∈ ds, smK d.key
theorem pastTo_st {s : Sto} {ds : List Deed} (hs : SmSt s) (hd : SmD ds) : ∀ i, i ≤ ds.length → SmSt (pastTo s ds i).1 ∧ (pastTo s ds i).2.length ≤ i ∧ ∀ e ∈ (pastTo s ds i).2, smK e.key := by
  intro i
  induction i with
  | zero => intro _; exact ⟨hs, by simp [pastTo], by simp [pastTo]⟩
  | succ i ih =>
    intro hi
    obtain ⟨h1, h2, h3⟩ := ih (by omega)
    obtain ⟨d, hd2⟩ : ∃ d, ds[i]? = some d := ⟨_, List.getElem?_eq_getElem (by omega)⟩
    have hk := hd.key d (List.mem_of_getElem? hd2)
    rw [pastTo_succ hd2]
    unfold pastStep
    cases hm : doM (pastTo s ds i).1 d with
    | none => dsimp only; exact ⟨h1, by omega, h3⟩
    | some x =>
      refine ⟨doM_st h1 hk hm, ?_, ?_⟩
      · dsimp only; split
        · simp; omega
        · omega
      · dsimp only; split
        · intro e he
          rcases List.mem_append.1 he with he | he
          · exact h3 e he
          · obtain rfl : e = entOf d x := by simpa using he
            unfold entOf; split <;> exact hk
        · exact h3
theorem arg_sto {hp : Hp} {N' L : List Nat} {a b c d : Nat} {s : Sto} (ha : hp a = some (lvRow s.levels)) (hb : hp b = some (svRow s.sieves)) (hc : hp c = some (eRow s.top)) (hd : hp d = some (tmRow s.times)) (hL : a ∈ L ∧ b ∈ L ∧ c ∈ L ∧ d ∈ L) :
    Arg hp N' L (.agg [.h c, .h a, .h b, .d (.s (.int .i64 s.keep)), .d (.s (.int .i64 s.time)), .h d]) (stT s) := by
  obtain ⟨h1, h2, h3, h4⟩ := hL
  refine .ln (n := 1) ?_ ?_
  · have e1 := lend_dRow (hp := hp) ha 0
    have e2 := lend_dRow (hp := hp) hb 0
    have e3 := lend_dRow (hp := hp) hc 0
    have e4 := lend_dRow (hp := hp) hd 0
    have e5 : ∀ x, lendC hp (0 + 1) (.d x) = some x := fun _ => rfl
    show (([.h c, .h a, .h b, .d (.s (.int .i64 s.keep)), .d (.s (.int .i64 s.time)), .h d] : List CV).mapM (lendC hp (0 + 1))).map _ = _
    simp only [List.mapM_cons, List.mapM_nil, e1, e2, e3, e4, e5]
    rfl
  · intro z hz m hm
    simp only [TV.cells, List.mem_cons, List.not_mem_nil, or_false] at hz
    rcases hz with rfl | rfl | rfl | rfl | rfl | rfl
    · rw [lendN_dRow hc 0 m hm]; exact h3
    · rw [lendN_dRow ha 0 m hm]; exact h1
    · rw [lendN_dRow hb 0 m hm]; exact h2
    · simp [lendN] at hm
    · simp [lendN] at hm
    · rw [lendN_dRow hd 0 m hm]; exact h4
def stHo (s : Sto) : Obj := ⟨34, 6, false, [[.h 2, .h 0, .h 1, .d (.s (.int .i64 s.keep)), .d (.s (.int .i64 s.time)), .h 3]]⟩
@[go_sem] theorem r_stHo (s : Sto) : stHo s = ⟨34, 6, false, [[.h 2, .h 0, .h 1, .d (.s (.int .i64 s.keep)), .d (.s (.int .i64 s.time)), .h 3]]⟩ := rfl
def ownO (s : Sto) : List (Option Obj) := [some (lvRow s.levels), some (svRow s.sieves), some (eRow s.top), some (tmRow s.times), some (stHo s), some zO]
@[go_sem] theorem r_ownO (s : Sto) : ownO s = [some (lvRow s.levels), some (svRow s.sieves), some (eRow s.top), some (tmRow s.times), some (stHo s), some zO] := rfl
def datO (s : Sto) : List (Option Obj) := [none, none, none, none, some (stO s), some zO]
@[go_sem] theorem r_datO (s : Sto) : datO s = [none, none, none, none, some (stO s), some zO] := rfl
def phO (J i : Nat) (s : Sto) : List (Option Obj) := if J ≤ i then ownO s else datO s
theorem phO_own {J i : Nat} (s : Sto) (h : J ≤ i) : phO J i s = ownO s := if_pos h
theorem phO_dat {J i : Nat} (s : Sto) (h : i < J) : phO J i s = datO s := if_neg (by omega)
theorem phW (s : Sto) : ownO s = [some (lvRow s.levels), some (svRow s.sieves), some (eRow s.top), some (tmRow s.times), some (stHo s), some zO] := rfl
theorem phD (s : Sto) : datO s = [none, none, none, none, some (stO s), some zO] := rfl
/-- The last one for which it does not hold. -/
theorem lastF (F : Nat → Prop) : ∀ n, ∃ J, J ≤ n ∧ (∀ i, J ≤ i → i < n → F i) ∧ (∀ i, i + 1 = J → ¬ F i)
  | 0 => ⟨0, Nat.le_refl _, fun i _ h => absurd h (by omega), fun i h => absurd h (by omega)⟩
  | n + 1 => by
    obtain ⟨J, h1, h2, h3⟩ := lastF F n
    by_cases h : F n
    · refine ⟨J, by omega, fun i hi hn => ?_, h3⟩
      by_cases e : i = n
      · subst e; exact h
      · exact h2 i hi (by omega)
    · refine ⟨n + 1, by omega, fun i hi hn => by omega, fun i hi => ?_⟩
      obtain rfl : i = n := by omega
      exact h
abbrev pdS (ds : List Deed) (i : Nat) : List (Nat × AV) := [(6, .t (iT i)), (5, .t (bT false)), (4, .t (.c (.ph 5 0 0))), (2, .t (.c (.ph 4 0 0))), (1, .t (deedsT ds))]
theorem settle_own {P : Program} {N k : Nat} {x : Code} {Q : Exit → St → Prop} {s : Sto} {ds : List Deed} {i : Nat} (q : Aw P N k x Q (S (pdS ds i) (hpL (datO s)) 6)) : Aw P N k x Q (S (pdS ds i) (hpL (ownO s)) 6) :=
  Aw.setS (l := [(6, .t (iT i)), (5, .t (bT false)), (4, .t (.c (.ph 5 0 0))), (2, .t (.c (.ph 4 0 0))), (1, .t (deedsT ds))]) (l' := [(6, .t (iT i)), (5, .t (bT false)), (4, .t (.c (.ph 5 0 0))), (2, .t (.c (.ph 4 0 0))), (1, .t (deedsT ds))]) (os := [some (lvRow s.levels), some (svRow s.sieves), some (eRow s.top), some (tmRow s.times), some (stHo s), some zO]) (os' := [none, none, none, none, some (stO s), some zO]) [0, 1, 2, 3] ⟨SetA.same rfl, SetA.same rfl, SetA.same rfl, SetA.same rfl, SetA.same rfl, trivial⟩
    ⟨.inr ⟨rfl, rfl, rfl, .cons (.cons (SetC.row0 rfl rfl) (.cons (SetC.row0 rfl rfl) (.cons (SetC.row0 rfl rfl) (.cons (.inl rfl) (.cons (.inl rfl) (.cons (SetC.row0 rfl rfl) .nil)))))) .nil⟩, rfl, .inl rfl, rfl, trivial⟩ (Nat.le_refl _) q
theorem pastDo_ac (s : Sto) (ds : List Deed) (hs : SmSt s) (hv : storeS s = true) (hd : SmD ds) (hl : ds.length ≤ 40) : AC Tryz.prog 117 [stT s, deedsT ds] noHp 0 ⟨.tup [hT (pastTo s ds ds.length).1, bT true], hpL (hS (pastTo s ds ds.length).1), 4⟩ := by
  refine AC_of Tryz.func117 rfl Tryz.ntmps117 Tryz.results117 (by kernel_rfl) rfl ?_
  simp only [List.zipIdx, List.map, Nat.zero_add, Nat.reduceAdd]
  have k1 := sstoreOk_ac s hs
  rw [hv] at k1
  have k3 := copyV_ac s hs hv
  have g2 : decide ((40 : Int) < (ds.length : Int)) = false := decide_eq_false (by omega)
  have e0 : (pastTo s ds 0).1 = s := rfl
  obtain ⟨J, j1, j2, j3⟩ := lastF (fun i => ∀ d, ds[i]? = some d → doM (pastTo s ds i).1 d = none) ds.length
  repeat (first | apply Aw_seq | apply Aw_block | apply Aw_skip | apply Aw_exit | refine Aw_condt rfl ?_ | refine Aw_condf rfl ?_ | ((first | refine qr ?_ | refine qd (by kernel_rfl) (by kernel_rfl) ?_); simp only [go_sem, reduceEqDiff, reduceIte, reduceAdd, reduceMul, reduceSub, reduceLT, reduceLeDiff, Nat.reduceBEq, g2]) | refine dk (by kernel_rfl) ?_ | (refine qp (k1) (by simp only [go_sem, reduceEqDiff, reduceIte, reduceAdd, reduceMul, reduceSub, reduceLT, reduceLeDiff, Nat.reduceBEq, g2]; first | done | rfl) rfl (by simp only [go_sem, Nat.reduceLT]) rfl rfl ?_; simp only [go_sem, reduceEqDiff, reduceIte, reduceAdd, reduceMul, reduceSub, reduceLT, reduceLeDiff, Nat.reduceBEq, g2]) | (refine qx (call_N (L := []) (k3) rfl (.cons (.nm rfl) (.nil)) (.inl rfl) rfl) (by simp only [go_sem, reduceEqDiff, reduceIte, reduceAdd, reduceMul, reduceSub, reduceLT, reduceLeDiff, Nat.reduceBEq, g2]; first | done | rfl) rfl (by simp only [go_sem, Nat.reduceLT]) ?_; simp only [go_sem, reduceEqDiff, reduceIte, reduceAdd, reduceMul, reduceSub, reduceLT, reduceLeDiff, Nat.reduceBEq, g2]))
  refine Aw.rw (rwL (l' := [(6, .t (iT (0 : Nat))), (5, .t (bT false)), (4, .t (.c (.ph 5 0 0))), (2, .t (.c (.ph 4 0 0))), (1, .t (deedsT ds))]) (os := [some (lvRow s.levels), some (svRow s.sieves), some (eRow s.top), some (tmRow s.times), some (stHo s), some zO]) (M := [11, 12, 13, 14, 0, 1]) (n' := 6) (by repeat (first | exact trivial | refine ⟨rfl, rfl, ?_⟩)) (by rfl) (by simp only [go_sem, reduceEqDiff, reduceIte, reduceAdd, reduceMul, reduceSub, reduceLT, reduceLeDiff, Nat.reduceBEq]; first | done | rfl) (by decide) (by intro m hm; first | omega | (rcases m with _ | _ | _ | _ | _ | _ | m <;> first | exact ⟨by decide, rfl⟩ | omega))) ?_
  change Aw _ _ _ _ _ (S (pdS ds 0) (hpL (ownO s)) 6)
  have start : ∀ {P : Program} {N k : Nat} {x : Code} {Q : Exit → St → Prop}, Aw P N k x Q (S (pdS ds 0) (hpL (phO J 0 (pastTo s ds 0).1)) 6) → Aw P N k x Q (S (pdS ds 0) (hpL (ownO s)) 6) := by
    intro P N k x Q h
    by_cases j0 : J ≤ 0
    · rw [phO_own _ j0] at h; exact h
    · rw [phO_dat _ (by omega)] at h; exact settle_own h
  refine start ?_
  refine Aw_loop_rw (ι := { i : Nat // i ≤ ds.length }) (fun q => S (pdS ds q.1) (hpL (phO J q.1 (pastTo s ds q.1).1)) 6) (fun q => ds.length - q.1) ⟨0, Nat.zero_le _⟩ ?_
  rintro ⟨i, hi⟩
  dsimp only
  by_cases hlt : i < ds.length
  · have g1 : (i : Int) < (ds.length : Int) := by omega
    have w1 := wrap_succ hlt (by omega)
    obtain ⟨d, hx⟩ : ∃ e, ds[i]? = some e := ⟨_, List.getElem?_eq_getElem hlt⟩
    have hk := hd.key d (List.mem_of_getElem? hx)
    obtain ⟨p1, p2, p3⟩ := pastTo_st hs hd i hi
    have e1 := pastTo_succ (s := s) hx
    have f1 := j2 i
    have f2 := j3 i
    simp only [hx, Option.some.injEq, forall_eq'] at f1 f2
    obtain ⟨a1, a2⟩ := l13Do_own (pastTo s ds i).1 d p1 hk
    generalize pastTo s ds i = q at p1 p2 p3 e1 f1 f2 a1 a2 ⊢
    obtain ⟨cs, out⟩ := q
    dsimp only at p1 p2 p3 f1 f2 a1 a2 ⊢
    cases hm : doM cs d with
    | none =>
      have e2 : (pastTo s ds (i + 1)).1 = cs := by rw [e1]; unfold pastStep; simp only [hm]
      by_cases hJ : J ≤ i
      · have k2 := (a2 hm).toL0
        have e3 : phO J (i + 1) (pastTo s ds (i + 1)).1 = ownO cs := by rw [e2, phO_own _ (by omega)]
        rw [phO_own _ hJ, phW]
        repeat (first | apply Aw_seq | apply Aw_block | apply Aw_skip | apply Aw_exit | refine Aw_condt rfl ?_ | refine Aw_condf rfl ?_ | ((first | refine qr ?_ | refine qd (by kernel_rfl) (by kernel_rfl) ?_); simp only [go_sem, reduceEqDiff, reduceIte, reduceAdd, reduceMul, reduceSub, reduceLT, reduceLeDiff, Nat.reduceBEq, g1, w1, hx]) | refine dk (by kernel_rfl) ?_ | (refine qx (call_N (L := [0, 1, 2, 3]) (k2) rfl (.cons (arg_sto (a := 0) (b := 1) (c := 2) (d := 3) rfl rfl rfl rfl (by simp)) (.cons (.nm rfl) (.nil))) (.inr ⟨rfl, by simp⟩) rfl) (by simp only [go_sem, reduceEqDiff, reduceIte, reduceAdd, reduceMul, reduceSub, reduceLT, reduceLeDiff, Nat.reduceBEq, g1, w1, hx]; first | done | rfl) rfl (by simp only [go_sem, Nat.reduceLT]) ?_; simp only [go_sem, reduceEqDiff, reduceIte, reduceAdd, reduceMul, reduceSub, reduceLT, reduceLeDiff, Nat.reduceBEq, g1, w1, hx]))
        refine ⟨⟨i + 1, hlt⟩, [0, 1, 2, 3, 4, 5], ?_, ?_⟩
        rotate_left
        dsimp only
        rw [e3, phW]
        exact rwL (by repeat (first | exact trivial | refine ⟨rfl, rfl, ?_⟩)) (by rfl) (by simp only [go_sem, reduceEqDiff, reduceIte, reduceAdd, reduceMul, reduceSub, reduceLT, reduceLeDiff, Nat.reduceBEq]; first | done | rfl) (by decide) (by intro m hm; first | omega | (rcases m with _ | _ | _ | _ | _ | _ | m <;> first | exact ⟨by decide, rfl⟩ | omega))
        show ds.length - (i + 1) < ds.length - i; omega
      · have k2 := a2 hm
        have hJ2 : i + 1 < J := by
          rcases Nat.lt_or_ge (i + 1) J with h | h
          · exact h
          · exact absurd hm (f2 (by omega))
        have e3 : phO J (i + 1) (pastTo s ds (i + 1)).1 = datO cs := by rw [e2, phO_dat _ hJ2]
        rw [phO_dat _ (by omega)]
        unfold datO
        repeat (first | apply Aw_seq | apply Aw_block | apply Aw_skip | apply Aw_exit | refine Aw_condt rfl ?_ | refine Aw_condf rfl ?_ | ((first | refine qr ?_ | refine qd (by kernel_rfl) (by kernel_rfl) ?_); simp only [go_sem, reduceEqDiff, reduceIte, reduceAdd, reduceMul, reduceSub, reduceLT, reduceLeDiff, Nat.reduceBEq, g1, w1, hx]) | refine dk (by kernel_rfl) ?_ | (refine qp (k2) (by simp only [go_sem, reduceEqDiff, reduceIte, reduceAdd, reduceMul, reduceSub, reduceLT, reduceLeDiff, Nat.reduceBEq, g1, w1, hx]; first | done | rfl) rfl (by simp only [go_sem, Nat.reduceLT]) rfl rfl ?_; simp only [go_sem, reduceEqDiff, reduceIte, reduceAdd, reduceMul, reduceSub, reduceLT, reduceLeDiff, Nat.reduceBEq, g1, w1, hx]))
        refine ⟨⟨i + 1, hlt⟩, [0, 1, 2, 3, 4, 5], ?_, ?_⟩
        rotate_left
        dsimp only
        rw [e3, phD]
        exact rwL (by repeat (first | exact trivial | refine ⟨rfl, rfl, ?_⟩)) (by rfl) (by simp only [go_sem, reduceEqDiff, reduceIte, reduceAdd, reduceMul, reduceSub, reduceLT, reduceLeDiff, Nat.reduceBEq]; first | done | rfl) (by decide) (by intro m hm; first | omega | (rcases m with _ | _ | _ | _ | _ | _ | m <;> first | exact ⟨by decide, rfl⟩ | omega))
        show ds.length - (i + 1) < ds.length - i; omega
    | some x =>
      have e2 : (pastTo s ds (i + 1)).1 = x := by rw [e1]; unfold pastStep; simp only [hm]
      have hJ : i < J := by
        rcases Nat.lt_or_ge i J with h | h
        · exact h
        · have := f1 h hlt; rw [hm] at this; cases this
      rw [phO_dat _ hJ]
      unfold datO
      by_cases hJ2 : i + 1 < J
      · have k2 : AC Tryz.prog 135 [stT cs, deedT d] noHp 0 ⟨.tup [stT x, bT true], noHp, 0⟩ := by
          have := l13Do_ac cs d p1 hk; rw [hm] at this; exact this
        have e3 : phO J (i + 1) (pastTo s ds (i + 1)).1 = datO x := by rw [e2, phO_dat _ hJ2]
        repeat (first | apply Aw_seq | apply Aw_block | apply Aw_skip | apply Aw_exit | refine Aw_condt rfl ?_ | refine Aw_condf rfl ?_ | ((first | refine qr ?_ | refine qd (by kernel_rfl) (by kernel_rfl) ?_); simp only [go_sem, reduceEqDiff, reduceIte, reduceAdd, reduceMul, reduceSub, reduceLT, reduceLeDiff, Nat.reduceBEq, g1, w1, hx]) | refine dk (by kernel_rfl) ?_ | (refine qp (k2) (by simp only [go_sem, reduceEqDiff, reduceIte, reduceAdd, reduceMul, reduceSub, reduceLT, reduceLeDiff, Nat.reduceBEq, g1, w1, hx]; first | done | rfl) rfl (by simp only [go_sem, Nat.reduceLT]) rfl rfl ?_; simp only [go_sem, reduceEqDiff, reduceIte, reduceAdd, reduceMul, reduceSub, reduceLT, reduceLeDiff, Nat.reduceBEq, g1, w1, hx]))
        refine ⟨⟨i + 1, hlt⟩, [0, 1, 2, 3, 4, 5], ?_, ?_⟩
        rotate_left
        dsimp only
        rw [e3, phD]
        exact rwL (by repeat (first | exact trivial | refine ⟨rfl, rfl, ?_⟩)) (by rfl) (by simp only [go_sem, reduceEqDiff, reduceIte, reduceAdd, reduceMul, reduceSub, reduceLT, reduceLeDiff, Nat.reduceBEq]; first | done | rfl) (by decide) (by intro m hm; first | omega | (rcases m with _ | _ | _ | _ | _ | _ | m <;> first | exact ⟨by decide, rfl⟩ | omega))
        show ds.length - (i + 1) < ds.length - i; omega
      · have k2 := a1 x hm
        have e3 : phO J (i + 1) (pastTo s ds (i + 1)).1 = ownO x := by rw [e2, phO_own _ (by omega)]
        repeat (first | apply Aw_seq | apply Aw_block | apply Aw_skip | apply Aw_exit | refine Aw_condt rfl ?_ | refine Aw_condf rfl ?_ | ((first | refine qr ?_ | refine qd (by kernel_rfl) (by kernel_rfl) ?_); simp only [go_sem, reduceEqDiff, reduceIte, reduceAdd, reduceMul, reduceSub, reduceLT, reduceLeDiff, Nat.reduceBEq, g1, w1, hx]) | refine dk (by kernel_rfl) ?_ | (refine qx (call_N (L := []) (k2) rfl (.cons (.nm rfl) (.cons (.nm rfl) (.nil))) (.inl rfl) rfl) (by simp only [go_sem, reduceEqDiff, reduceIte, reduceAdd, reduceMul, reduceSub, reduceLT, reduceLeDiff, Nat.reduceBEq, g1, w1, hx]; first | done | rfl) rfl (by simp only [go_sem, Nat.reduceLT]) ?_; simp only [go_sem, reduceEqDiff, reduceIte, reduceAdd, reduceMul, reduceSub, reduceLT, reduceLeDiff, Nat.reduceBEq, g1, w1, hx]))
        refine ⟨⟨i + 1, hlt⟩, [15, 16, 17, 18, 4, 5], ?_, ?_⟩
        rotate_left
        dsimp only
        rw [e3, phW]
        exact rwL (by repeat (first | exact trivial | refine ⟨rfl, rfl, ?_⟩)) (by rfl) (by simp only [go_sem, reduceEqDiff, reduceIte, reduceAdd, reduceMul, reduceSub, reduceLT, reduceLeDiff, Nat.reduceBEq]; first | done | rfl) (by decide) (by intro m hm; first | omega | (rcases m with _ | _ | _ | _ | _ | _ | m <;> first | exact ⟨by decide, rfl⟩ | omega))
        show ds.length - (i + 1) < ds.length - i; omega
  · have g1 : ¬ (i : Int) < (ds.length : Int) := by omega
    obtain rfl : i = ds.length := by omega
    rw [phO_own _ j1]
    unfold ownO
    generalize (pastTo s ds ds.length).1 = x
    repeat (first | apply Aw_seq | apply Aw_block | apply Aw_skip | apply Aw_exit | refine Aw_condt rfl ?_ | refine Aw_condf rfl ?_ | ((first | refine qr ?_ | refine qd (by kernel_rfl) (by kernel_rfl) ?_); simp only [go_sem, reduceEqDiff, reduceIte, reduceAdd, reduceMul, reduceSub, reduceLT, reduceLeDiff, Nat.reduceBEq, g1]) | refine dk (by kernel_rfl) ?_)
    exact Aw_ret (retL (M := [0, 1, 2, 3]) (.inl rfl) (by simp only [go_sem, reduceEqDiff, reduceIte, reduceAdd, reduceMul, reduceSub, reduceLT, reduceLeDiff, Nat.reduceBEq]; first | done | rfl) rfl rfl (by rfl) (by simp only [go_sem, reduceEqDiff, reduceIte, reduceAdd, reduceMul, reduceSub, reduceLT, reduceLeDiff, Nat.reduceBEq]; first | done | rfl | (and_intros <;> rfl)) (by decide) (by intro m hm; first | omega | (rcases m with _ | _ | _ | _ | _ | _ | m <;> first | exact ⟨by decide, rfl⟩ | omega)))
theorem wn {x : Int} {m : Nat} (e : x = (m : Int)) (h : m ≤ 1099511627776) : IntKind.i64.wrap x = (m : Int) := by rw [e]; exact wrap_nat h
def u8D (n : Int) : List D := [.s (.int .u8 n)]
@[go_sem] theorem r_u8D (n : Int) : u8D n = [.s (.int .u8 n)] := rfl
abbrev bytesT (b : List Int) : TV := .c (.d (.rs 1 (b.map u8D)))
def rdO (b : List Int) (p : Nat) : Obj := ⟨109, 2, false, [[.d (.rs 1 (b.map u8D)), .d (.s (.int .i64 p))]]⟩
@[go_sem] theorem r_rdO (b : List Int) (p : Nat) : rdO b p = ⟨109, 2, false, [[.d (.rs 1 (b.map u8D)), .d (.s (.int .i64 p))]]⟩ := rfl
def byteL (b : List Int) : Prop := b.length ≤ 2000 ∧ ∀ c ∈ b, 0 ≤ c ∧ c ≤ 255
theorem l6Open_ac (b : List Int) (hl : b.length ≤ 1099511627776) : AC Tryz.prog 40 [bytesT b] noHp 0 ⟨.t (.c (.ph 0 0 0)), hpL [some (rdO (b.take 2000) 0)], 1⟩ := by
  refine AC_of Tryz.func40 rfl Tryz.ntmps40 Tryz.results40 (by kernel_rfl) rfl ?_
  simp only [List.zipIdx, List.map, Nat.zero_add, Nat.reduceAdd]
  by_cases h : b.length ≤ 2000
  · have g1 : decide ((2000 : Int) < (b.length : Int)) = false := decide_eq_false (by omega)
    rw [List.take_of_length_le h]
    repeat (first | apply Aw_seq | apply Aw_block | apply Aw_skip | apply Aw_exit | refine Aw_condt rfl ?_ | refine Aw_condf rfl ?_ | ((first | refine qr ?_ | refine qd (by kernel_rfl) (by kernel_rfl) ?_); simp only [go_sem, reduceEqDiff, reduceIte, reduceAdd, reduceMul, reduceSub, reduceLT, reduceLeDiff, Nat.reduceBEq, g1]) | refine dk (by kernel_rfl) ?_)
    exact Aw_ret (retL (M := [6]) (.inl rfl) (by simp only [go_sem, reduceEqDiff, reduceIte, reduceAdd, reduceMul, reduceSub, reduceLT, reduceLeDiff, Nat.reduceBEq]; first | done | rfl) rfl rfl (by rfl) (by simp only [go_sem, reduceEqDiff, reduceIte, reduceAdd, reduceMul, reduceSub, reduceLT, reduceLeDiff, Nat.reduceBEq]; first | done | rfl | (and_intros <;> rfl)) (by decide) (by intro m hm; first | omega | (rcases m with _ | _ | _ | _ | _ | _ | m <;> first | exact ⟨by decide, rfl⟩ | omega)))
  · have g1 : decide ((2000 : Int) < (b.length : Int)) = true := decide_eq_true (by omega)
    have g2 : ((2000 : Int) ≤ (b.length : Int)) = True := eq_true (by omega)
    have g3 : ((0 : Int) ≤ 2000) = True := eq_true (by omega)
    have g4 : Int.toNat 2000 = 2000 := rfl
    have g5 : (List.map u8D b).take 2000 = List.map u8D (b.take 2000) := by rw [List.map_take]
    repeat (first | apply Aw_seq | apply Aw_block | apply Aw_skip | apply Aw_exit | refine Aw_condt rfl ?_ | refine Aw_condf rfl ?_ | ((first | refine qr ?_ | refine qd (by kernel_rfl) (by kernel_rfl) ?_); simp only [go_sem, reduceEqDiff, reduceIte, reduceAdd, reduceMul, reduceSub, reduceLT, reduceLeDiff, Nat.reduceBEq, g1, g2, g3, g4, g5]) | refine dk (by kernel_rfl) ?_)
    exact Aw_ret (retL (M := [9]) (.inl rfl) (by simp only [go_sem, reduceEqDiff, reduceIte, reduceAdd, reduceMul, reduceSub, reduceLT, reduceLeDiff, Nat.reduceBEq]; first | done | rfl) rfl rfl (by rfl) (by simp only [go_sem, reduceEqDiff, reduceIte, reduceAdd, reduceMul, reduceSub, reduceLT, reduceLeDiff, Nat.reduceBEq]; first | done | rfl | (and_intros <;> rfl)) (by decide) (by intro m hm; first | omega | (rcases m with _ | _ | _ | _ | _ | _ | m <;> first | exact ⟨by decide, rfl⟩ | omega)))
theorem xorN (X Y : Nat) (hX : X ≤ 1099511627776) (hY : Y ≤ 1099511627776) : ∃ v : Nat, IntKind.i64.wrap (((BitVec.ofInt IntKind.i64.bits (X : Int) ^^^ BitVec.ofInt IntKind.i64.bits (Y : Int)).toNat : Nat) : Int) = v := by
  have e62 : (2 : Nat) ^ 62 = 4611686018427387904 := by decide
  have e64 : (2 : Nat) ^ 64 = 18446744073709551616 := by decide
  have hx := Nat.xor_lt_two_pow (n := 62) (show X < 2 ^ 62 by omega) (show Y < 2 ^ 62 by omega)
  have hb : ∀ q : Nat, q < 2 ^ 62 → (BitVec.ofInt IntKind.i64.bits (q : Int)).toNat = q := fun q hq => by
    show (BitVec.ofInt 64 (q : Int)).toNat = q
    rw [BitVec.ofInt_natCast, BitVec.toNat_ofNat]; exact Nat.mod_eq_of_lt (by omega)
  refine ⟨X ^^^ Y, ?_⟩
  rw [BitVec.toNat_xor, hb X (by omega), hb Y (by omega)]
  simp only [IntKind.wrap, IntKind.bits, IntKind.signed]
  simp
  omega
theorem byte_at {b : List Int} (hb : byteL b) {i : Nat} (h : i < b.length) : ∃ n : Nat, n ≤ 255 ∧ b[i]? = some (n : Int) := by
  have := hb.2 b[i] (List.getElem_mem h)
  exact ⟨b[i].toNat, by omega, by rw [List.getElem?_eq_getElem h]; congr 1; omega⟩
theorem pick_ac (b : List Int) (p : Nat) (n : Int) (hb : byteL b) (hp : p ≤ 1000000) (hn : n ≤ 1099511627776) : ∃ v : Nat, (1 ≤ n → (v : Int) < n) ∧ (¬ 1 ≤ n → v = 0) ∧ AC Tryz.prog 81 [.c (.ph 0 0 0), iT n] (hpL [some (rdO b p)]) 1 ⟨.t (iT v), hpL [some (rdO b (p + 1))], 1⟩ := by
  have w1 : IntKind.i64.wrap ((p : Int) + 1) = ((p + 1 : Nat) : Int) := wn (by omega) (by omega)
  have w2 : IntKind.i64.wrap (((p + 1 : Nat) : Int) - 1) = (p : Int) := wn (by omega) (by omega)
  have z0 : ((0 : Nat) : Int) = 0 := rfl
  by_cases c1 : 1 ≤ n
  case neg =>
    refine ⟨0, fun h => absurd h c1, fun _ => rfl, ?_⟩
    have g1 : decide (n < 1) = true := decide_eq_true (by omega)
    refine AC_of Tryz.func81 rfl Tryz.ntmps81 Tryz.results81 (by kernel_rfl) rfl ?_
    simp only [List.zipIdx, List.map, Nat.zero_add, Nat.reduceAdd]
    repeat (first | apply Aw_seq | apply Aw_block | apply Aw_skip | apply Aw_exit | refine Aw_condt rfl ?_ | refine Aw_condf rfl ?_ | ((first | refine qr ?_ | refine qd (by kernel_rfl) (by kernel_rfl) ?_); simp only [go_sem, reduceEqDiff, reduceIte, reduceAdd, reduceMul, reduceSub, reduceLT, reduceLeDiff, Nat.reduceBEq, w1, g1]) | refine dk (by kernel_rfl) ?_)
    exact Aw_ret (retL (M := [0]) (.inl rfl) (by simp only [go_sem, reduceEqDiff, reduceIte, reduceAdd, reduceMul, reduceSub, reduceLT, reduceLeDiff, Nat.reduceBEq]; first | done | rfl) rfl rfl (by rfl) (by simp only [go_sem, reduceEqDiff, reduceIte, reduceAdd, reduceMul, reduceSub, reduceLT, reduceLeDiff, Nat.reduceBEq]; first | done | rfl | (and_intros <;> rfl)) (by decide) (by intro m hm; first | omega | (rcases m with _ | _ | _ | _ | _ | _ | m <;> first | exact ⟨by decide, rfl⟩ | omega)))
  have g1 : decide (n < 1) = false := decide_eq_false (by omega)
  have gn : (n = 0) = False := eq_false (by omega)
  by_cases c2 : b.length = 0
  · refine ⟨0, fun _ => by omega, fun h => absurd c1 h, ?_⟩
    have g2 : decide (((b.length : Nat) : Int) = 0) = true := decide_eq_true (by omega)
    refine AC_of Tryz.func81 rfl Tryz.ntmps81 Tryz.results81 (by kernel_rfl) rfl ?_
    simp only [List.zipIdx, List.map, Nat.zero_add, Nat.reduceAdd]
    repeat (first | apply Aw_seq | apply Aw_block | apply Aw_skip | apply Aw_exit | refine Aw_condt rfl ?_ | refine Aw_condf rfl ?_ | ((first | refine qr ?_ | refine qd (by kernel_rfl) (by kernel_rfl) ?_); simp only [go_sem, reduceEqDiff, reduceIte, reduceAdd, reduceMul, reduceSub, reduceLT, reduceLeDiff, Nat.reduceBEq, w1, g1, g2]) | refine dk (by kernel_rfl) ?_)
    exact Aw_ret (retL (M := [0]) (.inl rfl) (by simp only [go_sem, reduceEqDiff, reduceIte, reduceAdd, reduceMul, reduceSub, reduceLT, reduceLeDiff, Nat.reduceBEq]; first | done | rfl) rfl rfl (by rfl) (by simp only [go_sem, reduceEqDiff, reduceIte, reduceAdd, reduceMul, reduceSub, reduceLT, reduceLeDiff, Nat.reduceBEq]; first | done | rfl | (and_intros <;> rfl)) (by decide) (by intro m hm; first | omega | (rcases m with _ | _ | _ | _ | _ | _ | m <;> first | exact ⟨by decide, rfl⟩ | omega)))
  have g2 : decide (((b.length : Nat) : Int) = 0) = false := decide_eq_false (by omega)
  have gl : (((b.length : Nat) : Int) = 0) = False := eq_false (by omega)
  have hL := hb.1
  have tm : ∀ x : Nat, ∃ v : Nat, (x : Int).tmod n = v ∧ (v : Int) < n := fun x => by
    have h1 := Int.tmod_nonneg n (show (0 : Int) ≤ (x : Int) by omega)
    have h2 := Int.tmod_lt_of_pos (x : Int) (show (0 : Int) < n by omega)
    exact ⟨((x : Int).tmod n).toNat, by omega, by omega⟩
  by_cases c3 : p < b.length
  · obtain ⟨x, hx1, hx⟩ := byte_at hb c3
    obtain ⟨v, hv, hv2⟩ := tm x
    refine ⟨v, fun _ => hv2, fun h => absurd c1 h, ?_⟩
    have g3 : decide ((p : Int) < ((b.length : Nat) : Int)) = true := decide_eq_true (by omega)
    have wx : IntKind.i64.wrap (x : Int) = x := wrap_nat (by omega)
    refine AC_of Tryz.func81 rfl Tryz.ntmps81 Tryz.results81 (by kernel_rfl) rfl ?_
    simp only [List.zipIdx, List.map, Nat.zero_add, Nat.reduceAdd]
    repeat (first | apply Aw_seq | apply Aw_block | apply Aw_skip | apply Aw_exit | refine Aw_condt rfl ?_ | refine Aw_condf rfl ?_ | ((first | refine qr ?_ | refine qd (by kernel_rfl) (by kernel_rfl) ?_); simp only [go_sem, reduceEqDiff, reduceIte, reduceAdd, reduceMul, reduceSub, reduceLT, reduceLeDiff, Nat.reduceBEq, w1, w2, g1, g2, g3, hx, wx, gn, hv]) | refine dk (by kernel_rfl) ?_)
    exact Aw_ret (retL (M := [0]) (.inl rfl) (by simp only [go_sem, reduceEqDiff, reduceIte, reduceAdd, reduceMul, reduceSub, reduceLT, reduceLeDiff, Nat.reduceBEq]; first | done | rfl) rfl rfl (by rfl) (by simp only [go_sem, reduceEqDiff, reduceIte, reduceAdd, reduceMul, reduceSub, reduceLT, reduceLeDiff, Nat.reduceBEq]; first | done | rfl | (and_intros <;> rfl)) (by decide) (by intro m hm; first | omega | (rcases m with _ | _ | _ | _ | _ | _ | m <;> first | exact ⟨by decide, rfl⟩ | omega)))
  · have g3 : decide ((p : Int) < ((b.length : Nat) : Int)) = false := decide_eq_false (by omega)
    have hi1 : p % b.length < b.length := Nat.mod_lt _ (by omega)
    have hi2 : (p * 7 + 3) % b.length < b.length := Nat.mod_lt _ (by omega)
    obtain ⟨x1, b1, hx1⟩ := byte_at hb hi1
    obtain ⟨x2, b2, hx2⟩ := byte_at hb hi2
    have hq : p / b.length ≤ p := Nat.div_le_self _ _
    have t1 : (p : Int).tmod ((b.length : Nat) : Int) = ((p % b.length : Nat) : Int) := rfl
    have e7 : IntKind.i64.wrap ((p : Int) * 7) = ((p * 7 : Nat) : Int) := wn (by omega) (by omega)
    have e73 : IntKind.i64.wrap (((p * 7 : Nat) : Int) + 3) = ((p * 7 + 3 : Nat) : Int) := wn (by omega) (by omega)
    have t2 : ((p * 7 + 3 : Nat) : Int).tmod ((b.length : Nat) : Int) = (((p * 7 + 3) % b.length : Nat) : Int) := rfl
    have t3 : (p : Int).tdiv ((b.length : Nat) : Int) = ((p / b.length : Nat) : Int) := rfl
    obtain ⟨q, hqe⟩ : ∃ q, q = p / b.length := ⟨_, rfl⟩
    rw [← hqe] at t3 hq
    have wq : IntKind.i64.wrap (q : Int) = q := wrap_nat (by omega)
    have wx1 : IntKind.i64.wrap (x1 : Int) = x1 := wrap_nat (by omega)
    have wx2 : IntKind.i64.wrap (x2 : Int) = x2 := wrap_nat (by omega)
    have m1 : IntKind.i64.wrap ((x1 : Int) * 131) = ((x1 * 131 : Nat) : Int) := wn (by omega) (by omega)
    have m2 : IntKind.i64.wrap ((x2 : Int) * 1117) = ((x2 * 1117 : Nat) : Int) := wn (by omega) (by omega)
    have m3 : IntKind.i64.wrap (((x1 * 131 : Nat) : Int) + ((x2 * 1117 : Nat) : Int)) = ((x1 * 131 + x2 * 1117 : Nat) : Int) := wn (by omega) (by omega)
    have m4 : IntKind.i64.wrap ((p : Int) * 29) = ((p * 29 : Nat) : Int) := wn (by omega) (by omega)
    have m5 : IntKind.i64.wrap (((x1 * 131 + x2 * 1117 : Nat) : Int) + ((p * 29 : Nat) : Int)) = ((x1 * 131 + x2 * 1117 + p * 29 : Nat) : Int) := wn (by omega) (by omega)
    have m6 : IntKind.i64.wrap ((q : Int) * 53) = ((q * 53 : Nat) : Int) := wn (by omega) (by omega)
    obtain ⟨X, hX⟩ : ∃ X, X = x1 * 131 + x2 * 1117 + p * 29 + q * 53 := ⟨_, rfl⟩
    have m7 : IntKind.i64.wrap (((x1 * 131 + x2 * 1117 + p * 29 : Nat) : Int) + ((q * 53 : Nat) : Int)) = (X : Int) := wn (by omega) (by omega)
    have t4 : (X : Int).tdiv 64 = ((X / 64 : Nat) : Int) := rfl
    have m8 : IntKind.i64.wrap ((X / 64 : Nat) : Int) = ((X / 64 : Nat) : Int) := wrap_nat (by omega)
    have s0 : ((64 : Int) = 0) = False := eq_false (by decide)
    obtain ⟨u, hu⟩ := xorN X (X / 64) (by omega) (by omega)
    obtain ⟨v, hv, hv2⟩ := tm u
    refine ⟨v, fun _ => hv2, fun h => absurd c1 h, ?_⟩
    refine AC_of Tryz.func81 rfl Tryz.ntmps81 Tryz.results81 (by kernel_rfl) rfl ?_
    simp only [List.zipIdx, List.map, Nat.zero_add, Nat.reduceAdd]
    repeat (first | apply Aw_seq | apply Aw_block | apply Aw_skip | apply Aw_exit | refine Aw_condt rfl ?_ | refine Aw_condf rfl ?_ | ((first | refine qr ?_ | refine qd (by kernel_rfl) (by kernel_rfl) ?_); simp only [go_sem, reduceEqDiff, reduceIte, reduceAdd, reduceMul, reduceSub, reduceLT, reduceLeDiff, Nat.reduceBEq, w1, w2, g1, g2, gl, g3, t1, hx1, wx1, m1, e7, e73, t2, hx2, wx2, m2, m3, m4, m5, t3, wq, m6, m7, t4, m8, s0, gn]) | refine dk (by kernel_rfl) ?_)
    generalize hg : IntKind.i64.wrap ((BitVec.toNat _ : Nat) : Int) = w
    obtain rfl : w = (u : Int) := hg.symm.trans hu
    rw [hv]
    exact Aw_ret (retL (M := [0]) (.inl rfl) (by simp only [go_sem, reduceEqDiff, reduceIte, reduceAdd, reduceMul, reduceSub, reduceLT, reduceLeDiff, Nat.reduceBEq]; first | done | rfl) rfl rfl (by rfl) (by simp only [go_sem, reduceEqDiff, reduceIte, reduceAdd, reduceMul, reduceSub, reduceLT, reduceLeDiff, Nat.reduceBEq]; first | done | rfl | (and_intros <;> rfl)) (by decide) (by intro m hm; first | omega | (rcases m with _ | _ | _ | _ | _ | _ | m <;> first | exact ⟨by decide, rfl⟩ | omega)))
def putL (k : ByteArray) : List ByteArray → Bool → List ByteArray → Option (List ByteArray)
  | [], done, out => some (if done = true then out else out ++ [k])
  | x :: r, done, out => if x = k then none else putL k r (done || !klt x k) ((if (!done && !klt x k) = true then out ++ [k] else out) ++ [x])
def putK (ks : List ByteArray) (k : ByteArray) : List ByteArray := (putL k ks false []).getD ks
theorem putL_mem {k : ByteArray} : ∀ {xs : List ByteArray} {d : Bool} {out o : List ByteArray}, putL k xs d out = some o → (∀ y ∈ o, y ∈ out ∨ y ∈ xs ∨ y = k) ∧ o.length ≤ out.length + xs.length + (if d = true then 0 else 1)
  | [], d, out, o, h => by
    simp only [putL, Option.some.injEq] at h
    subst h
    cases d
    · exact ⟨fun y hy => by simp at hy; rcases hy with h | h; exact .inl h; exact .inr (.inr h), by simp⟩
    · exact ⟨fun y hy => .inl (by simpa using hy), by simp⟩
  | x :: r, d, out, o, h => by
    simp only [putL] at h
    split at h
    · cases h
    · obtain ⟨h1, h2⟩ := putL_mem h
      constructor
      · intro y hy
        rcases h1 y hy with h | h | h
        · rcases List.mem_append.1 h with h | h
          · split at h
            · rcases List.mem_append.1 h with h | h
              · exact .inl h
              · exact .inr (.inr (by simpa using h))
            · exact .inl h
          · exact .inr (.inl (by simp at h; simp [h]))
        · exact .inr (.inl (by simp [h]))
        · exact .inr (.inr h)
      · refine Nat.le_trans h2 ?_
        cases d <;> cases klt x k <;> simp <;> omega
@[go_sem] theorem d_ft2 (e k : Nat) (a : List (List D)) (x y : D) : (⟨e, k, true, List.map (fun x => List.map CV.d x) a ++ [[.d x], [.d y]]⟩ : Obj) = dRow e k (a ++ [[x], [y]]) := by simp [dRow]
theorem lenA {α : Type} {out : List α} {i : Nat} {k x : α} (h : out.length ≤ i + (if false = true then 1 else 0)) : (out ++ [k] ++ [x]).length ≤ i + 1 + (if true = true then 1 else 0) := by simp at h ⊢; omega
theorem lenB {α : Type} {out : List α} {i : Nat} {b : Bool} {x : α} (h : out.length ≤ i + (if b = true then 1 else 0)) : (out ++ [x]).length ≤ i + 1 + (if b = true then 1 else 0) := by cases b <;> simp at h ⊢ <;> omega
theorem lenC {α : Type} {out : List α} {i n : Nat} {b : Bool} (h : out.length ≤ i + (if b = true then 1 else 0)) (hi : i ≤ n) (hn : n ≤ 4000000) : (out.length + 1) * 16 ≤ 140737488355328 ∧ (out.length + 1 + 1) * 16 ≤ 140737488355328 := by cases b <;> simp at h <;> omega
structure PuI (ks : List ByteArray) (k : ByteArray) where
  i : Nat
  d : Bool
  out : List ByteArray
  hi : i ≤ ks.length
  hl : out.length ≤ i + (if d = true then 1 else 0)
  h : putL k (ks.drop i) d out = putL k ks false []
theorem l2Put_no (ks : List ByteArray) (k : ByteArray) (hl : ks.length ≤ 4000000) (h0 : putL k ks false [] = none) : AC Tryz.prog 151 [strsT ks, sT k] noHp 0 ⟨.t (strsT ks), noHp, 0⟩ := by
  refine AC_of Tryz.func151 rfl Tryz.ntmps151 Tryz.results151 (by kernel_rfl) rfl ?_
  simp only [List.zipIdx, List.map, Nat.zero_add, Nat.reduceAdd]
  repeat (first | apply Aw_seq | apply Aw_block | apply Aw_skip | apply Aw_exit | refine Aw_condt rfl ?_ | refine Aw_condf rfl ?_ | ((first | refine qr ?_ | refine qd (by kernel_rfl) (by kernel_rfl) ?_); simp only [go_sem, reduceEqDiff, reduceIte, reduceAdd, reduceMul, reduceSub, reduceLT, reduceLeDiff, Nat.reduceBEq]) | refine dk (by kernel_rfl) ?_)
  refine Aw.rw (rwL (l' := [(7, .t (iT (0 : Nat))), (6, .t (bT false)), (5, .t (.c (.h 0))), (1, .t (sT k)), (0, .t (strsT ks))]) (os := [some (kRow [])]) (M := [1]) (n' := 1) (by repeat (first | exact trivial | refine ⟨rfl, rfl, ?_⟩)) (by rfl) (by simp only [go_sem, reduceEqDiff, reduceIte, reduceAdd, reduceMul, reduceSub, reduceLT, reduceLeDiff, Nat.reduceBEq, List.map_nil]; first | done | rfl) (by decide) (by intro m hm; first | omega | (rcases m with _ | _ | _ | _ | _ | _ | m <;> first | exact ⟨by decide, rfl⟩ | omega))) ?_
  refine Aw_loop_rw (ι := PuI ks k) (fun q => S [(7, .t (iT (q.i : Nat))), (6, .t (bT q.d)), (5, .t (.c (.h 0))), (1, .t (sT k)), (0, .t (strsT ks))] (hpL [some (kRow q.out)]) 1) (fun q => ks.length - q.i) ⟨0, false, [], Nat.zero_le _, by simp, rfl⟩ ?_
  rintro ⟨i, d, out, hi, hlo, h⟩
  dsimp only
  by_cases hlt : i < ks.length
  · have g1 : (i : Int) < (ks.length : Int) := by omega
    have w1 := wrap_succ hlt (by omega)
    obtain ⟨x, hx⟩ : ∃ e, ks[i]? = some e := ⟨_, List.getElem?_eq_getElem hlt⟩
    have hd : ks.drop i = x :: ks.drop (i + 1) := by rw [List.drop_eq_getElem_cons hlt]; congr 1; rw [List.getElem?_eq_getElem hlt] at hx; exact Option.some.inj hx
    obtain ⟨q1, q2⟩ := lenC hlo hi hl
    rw [hd] at h
    cases c1 : decide (x = k)
    · have hne := of_decide_eq_false c1
      simp only [putL, if_neg hne] at h
      cases d
      · cases c2 : klt x k
        · have h' : putL k (ks.drop (i + 1)) true (out ++ [k] ++ [x]) = putL k ks false [] := by rw [← h, c2]; rfl
          repeat (first | apply Aw_seq | apply Aw_block | apply Aw_skip | apply Aw_exit | refine Aw_condt rfl ?_ | refine Aw_condf rfl ?_ | ((first | refine qr ?_ | refine qd (by kernel_rfl) (by kernel_rfl) ?_); simp only [go_sem, reduceEqDiff, reduceIte, reduceAdd, reduceMul, reduceSub, reduceLT, reduceLeDiff, Nat.reduceBEq, g1, w1, hx, c1, c2, q1, q2]) | refine dk (by kernel_rfl) ?_)
          refine ⟨⟨i + 1, true, out ++ [k] ++ [x], hlt, lenA hlo, h'⟩, [33], ?_, rwL (by repeat (first | exact trivial | refine ⟨rfl, rfl, ?_⟩)) (by rfl) (by simp only [go_sem, reduceEqDiff, reduceIte, reduceAdd, reduceMul, reduceSub, reduceLT, reduceLeDiff, Nat.reduceBEq, List.map_append, List.map_cons, List.map_nil, List.append_assoc]; first | done | rfl) (by decide) (by intro m hm; first | omega | (rcases m with _ | _ | _ | _ | _ | _ | m <;> first | exact ⟨by decide, rfl⟩ | omega))⟩
          show ks.length - (i + 1) < ks.length - i; omega
        · have h' : putL k (ks.drop (i + 1)) false (out ++ [x]) = putL k ks false [] := by rw [← h, c2]; rfl
          repeat (first | apply Aw_seq | apply Aw_block | apply Aw_skip | apply Aw_exit | refine Aw_condt rfl ?_ | refine Aw_condf rfl ?_ | ((first | refine qr ?_ | refine qd (by kernel_rfl) (by kernel_rfl) ?_); simp only [go_sem, reduceEqDiff, reduceIte, reduceAdd, reduceMul, reduceSub, reduceLT, reduceLeDiff, Nat.reduceBEq, g1, w1, hx, c1, c2, q1]) | refine dk (by kernel_rfl) ?_)
          refine ⟨⟨i + 1, false, out ++ [x], hlt, lenB hlo, h'⟩, [27], ?_, rwL (by repeat (first | exact trivial | refine ⟨rfl, rfl, ?_⟩)) (by rfl) (by simp only [go_sem, reduceEqDiff, reduceIte, reduceAdd, reduceMul, reduceSub, reduceLT, reduceLeDiff, Nat.reduceBEq, List.map_append, List.map_cons, List.map_nil]; first | done | rfl) (by decide) (by intro m hm; first | omega | (rcases m with _ | _ | _ | _ | _ | _ | m <;> first | exact ⟨by decide, rfl⟩ | omega))⟩
          show ks.length - (i + 1) < ks.length - i; omega
      · have h' : putL k (ks.drop (i + 1)) true (out ++ [x]) = putL k ks false [] := by rw [← h]; cases klt x k <;> rfl
        repeat (first | apply Aw_seq | apply Aw_block | apply Aw_skip | apply Aw_exit | refine Aw_condt rfl ?_ | refine Aw_condf rfl ?_ | ((first | refine qr ?_ | refine qd (by kernel_rfl) (by kernel_rfl) ?_); simp only [go_sem, reduceEqDiff, reduceIte, reduceAdd, reduceMul, reduceSub, reduceLT, reduceLeDiff, Nat.reduceBEq, g1, w1, hx, c1, q1]) | refine dk (by kernel_rfl) ?_)
        refine ⟨⟨i + 1, true, out ++ [x], hlt, lenB hlo, h'⟩, [21], ?_, rwL (by repeat (first | exact trivial | refine ⟨rfl, rfl, ?_⟩)) (by rfl) (by simp only [go_sem, reduceEqDiff, reduceIte, reduceAdd, reduceMul, reduceSub, reduceLT, reduceLeDiff, Nat.reduceBEq, List.map_append, List.map_cons, List.map_nil]; first | done | rfl) (by decide) (by intro m hm; first | omega | (rcases m with _ | _ | _ | _ | _ | _ | m <;> first | exact ⟨by decide, rfl⟩ | omega))⟩
        show ks.length - (i + 1) < ks.length - i; omega
    · repeat (first | apply Aw_seq | apply Aw_block | apply Aw_skip | apply Aw_exit | refine Aw_condt rfl ?_ | refine Aw_condf rfl ?_ | ((first | refine qr ?_ | refine qd (by kernel_rfl) (by kernel_rfl) ?_); simp only [go_sem, reduceEqDiff, reduceIte, reduceAdd, reduceMul, reduceSub, reduceLT, reduceLeDiff, Nat.reduceBEq, g1, hx, c1]) | refine dk (by kernel_rfl) ?_)
      exact Aw_ret (ret0 (.inl rfl) (by simp only [go_sem, reduceEqDiff, reduceIte, reduceAdd, reduceMul, reduceSub, reduceLT, reduceLeDiff, Nat.reduceBEq]; rfl) (by rfl) rfl)
  · have g1 : ¬ (i : Int) < (ks.length : Int) := by omega
    rw [List.drop_eq_nil_of_le (by omega), h0] at h
    simp [putL] at h
theorem l2Put_ok (ks o : List ByteArray) (k : ByteArray) (hl : ks.length ≤ 4000000) (h0 : putL k ks false [] = some o) : AC Tryz.prog 151 [strsT ks, sT k] noHp 0 ⟨.t (.c (.h 0)), hpL [some (kRow o)], 1⟩ := by
  refine AC_of Tryz.func151 rfl Tryz.ntmps151 Tryz.results151 (by kernel_rfl) rfl ?_
  simp only [List.zipIdx, List.map, Nat.zero_add, Nat.reduceAdd]
  repeat (first | apply Aw_seq | apply Aw_block | apply Aw_skip | apply Aw_exit | refine Aw_condt rfl ?_ | refine Aw_condf rfl ?_ | ((first | refine qr ?_ | refine qd (by kernel_rfl) (by kernel_rfl) ?_); simp only [go_sem, reduceEqDiff, reduceIte, reduceAdd, reduceMul, reduceSub, reduceLT, reduceLeDiff, Nat.reduceBEq]) | refine dk (by kernel_rfl) ?_)
  refine Aw.rw (rwL (l' := [(7, .t (iT (0 : Nat))), (6, .t (bT false)), (5, .t (.c (.h 0))), (1, .t (sT k)), (0, .t (strsT ks))]) (os := [some (kRow [])]) (M := [1]) (n' := 1) (by repeat (first | exact trivial | refine ⟨rfl, rfl, ?_⟩)) (by rfl) (by simp only [go_sem, reduceEqDiff, reduceIte, reduceAdd, reduceMul, reduceSub, reduceLT, reduceLeDiff, Nat.reduceBEq, List.map_nil]; first | done | rfl) (by decide) (by intro m hm; first | omega | (rcases m with _ | _ | _ | _ | _ | _ | m <;> first | exact ⟨by decide, rfl⟩ | omega))) ?_
  refine Aw_loop_rw (ι := PuI ks k) (fun q => S [(7, .t (iT (q.i : Nat))), (6, .t (bT q.d)), (5, .t (.c (.h 0))), (1, .t (sT k)), (0, .t (strsT ks))] (hpL [some (kRow q.out)]) 1) (fun q => ks.length - q.i) ⟨0, false, [], Nat.zero_le _, by simp, rfl⟩ ?_
  rintro ⟨i, d, out, hi, hlo, h⟩
  dsimp only
  by_cases hlt : i < ks.length
  · have g1 : (i : Int) < (ks.length : Int) := by omega
    have w1 := wrap_succ hlt (by omega)
    obtain ⟨x, hx⟩ : ∃ e, ks[i]? = some e := ⟨_, List.getElem?_eq_getElem hlt⟩
    have hd : ks.drop i = x :: ks.drop (i + 1) := by rw [List.drop_eq_getElem_cons hlt]; congr 1; rw [List.getElem?_eq_getElem hlt] at hx; exact Option.some.inj hx
    obtain ⟨q1, q2⟩ := lenC hlo hi hl
    rw [hd] at h
    cases c1 : decide (x = k)
    · have hne := of_decide_eq_false c1
      simp only [putL, if_neg hne] at h
      cases d
      · cases c2 : klt x k
        · have h' : putL k (ks.drop (i + 1)) true (out ++ [k] ++ [x]) = putL k ks false [] := by rw [← h, c2]; rfl
          repeat (first | apply Aw_seq | apply Aw_block | apply Aw_skip | apply Aw_exit | refine Aw_condt rfl ?_ | refine Aw_condf rfl ?_ | ((first | refine qr ?_ | refine qd (by kernel_rfl) (by kernel_rfl) ?_); simp only [go_sem, reduceEqDiff, reduceIte, reduceAdd, reduceMul, reduceSub, reduceLT, reduceLeDiff, Nat.reduceBEq, g1, w1, hx, c1, c2, q1, q2]) | refine dk (by kernel_rfl) ?_)
          refine ⟨⟨i + 1, true, out ++ [k] ++ [x], hlt, lenA hlo, h'⟩, [33], ?_, rwL (by repeat (first | exact trivial | refine ⟨rfl, rfl, ?_⟩)) (by rfl) (by simp only [go_sem, reduceEqDiff, reduceIte, reduceAdd, reduceMul, reduceSub, reduceLT, reduceLeDiff, Nat.reduceBEq, List.map_append, List.map_cons, List.map_nil, List.append_assoc]; first | done | rfl) (by decide) (by intro m hm; first | omega | (rcases m with _ | _ | _ | _ | _ | _ | m <;> first | exact ⟨by decide, rfl⟩ | omega))⟩
          show ks.length - (i + 1) < ks.length - i; omega
        · have h' : putL k (ks.drop (i + 1)) false (out ++ [x]) = putL k ks false [] := by rw [← h, c2]; rfl
          repeat (first | apply Aw_seq | apply Aw_block | apply Aw_skip | apply Aw_exit | refine Aw_condt rfl ?_ | refine Aw_condf rfl ?_ | ((first | refine qr ?_ | refine qd (by kernel_rfl) (by kernel_rfl) ?_); simp only [go_sem, reduceEqDiff, reduceIte, reduceAdd, reduceMul, reduceSub, reduceLT, reduceLeDiff, Nat.reduceBEq, g1, w1, hx, c1, c2, q1]) | refine dk (by kernel_rfl) ?_)
          refine ⟨⟨i + 1, false, out ++ [x], hlt, lenB hlo, h'⟩, [27], ?_, rwL (by repeat (first | exact trivial | refine ⟨rfl, rfl, ?_⟩)) (by rfl) (by simp only [go_sem, reduceEqDiff, reduceIte, reduceAdd, reduceMul, reduceSub, reduceLT, reduceLeDiff, Nat.reduceBEq, List.map_append, List.map_cons, List.map_nil]; first | done | rfl) (by decide) (by intro m hm; first | omega | (rcases m with _ | _ | _ | _ | _ | _ | m <;> first | exact ⟨by decide, rfl⟩ | omega))⟩
          show ks.length - (i + 1) < ks.length - i; omega
      · have h' : putL k (ks.drop (i + 1)) true (out ++ [x]) = putL k ks false [] := by rw [← h]; cases klt x k <;> rfl
        repeat (first | apply Aw_seq | apply Aw_block | apply Aw_skip | apply Aw_exit | refine Aw_condt rfl ?_ | refine Aw_condf rfl ?_ | ((first | refine qr ?_ | refine qd (by kernel_rfl) (by kernel_rfl) ?_); simp only [go_sem, reduceEqDiff, reduceIte, reduceAdd, reduceMul, reduceSub, reduceLT, reduceLeDiff, Nat.reduceBEq, g1, w1, hx, c1, q1]) | refine dk (by kernel_rfl) ?_)
        refine ⟨⟨i + 1, true, out ++ [x], hlt, lenB hlo, h'⟩, [21], ?_, rwL (by repeat (first | exact trivial | refine ⟨rfl, rfl, ?_⟩)) (by rfl) (by simp only [go_sem, reduceEqDiff, reduceIte, reduceAdd, reduceMul, reduceSub, reduceLT, reduceLeDiff, Nat.reduceBEq, List.map_append, List.map_cons, List.map_nil]; first | done | rfl) (by decide) (by intro m hm; first | omega | (rcases m with _ | _ | _ | _ | _ | _ | m <;> first | exact ⟨by decide, rfl⟩ | omega))⟩
        show ks.length - (i + 1) < ks.length - i; omega
    · rw [h0] at h
      simp [putL, of_decide_eq_true c1] at h
  · have g1 : ¬ (i : Int) < (ks.length : Int) := by omega
    obtain ⟨q1, q2⟩ := lenC hlo hi hl
    rw [List.drop_eq_nil_of_le (by omega), h0] at h
    cases d
    · have ho : o = out ++ [k] := by simpa [putL] using h.symm
      subst ho
      repeat (first | apply Aw_seq | apply Aw_block | apply Aw_skip | apply Aw_exit | refine Aw_condt rfl ?_ | refine Aw_condf rfl ?_ | ((first | refine qr ?_ | refine qd (by kernel_rfl) (by kernel_rfl) ?_); simp only [go_sem, reduceEqDiff, reduceIte, reduceAdd, reduceMul, reduceSub, reduceLT, reduceLeDiff, Nat.reduceBEq, g1, q1]) | refine dk (by kernel_rfl) ?_)
      exact Aw_ret (retL (M := [10]) (.inl rfl) (by simp only [go_sem, reduceEqDiff, reduceIte, reduceAdd, reduceMul, reduceSub, reduceLT, reduceLeDiff, Nat.reduceBEq]; first | done | rfl) rfl rfl (by rfl) (by simp only [go_sem, reduceEqDiff, reduceIte, reduceAdd, reduceMul, reduceSub, reduceLT, reduceLeDiff, Nat.reduceBEq, List.map_append, List.map_cons, List.map_nil]; first | done | rfl | (and_intros <;> rfl)) (by decide) (by intro m hm; first | omega | (rcases m with _ | _ | _ | _ | _ | _ | m <;> first | exact ⟨by decide, rfl⟩ | omega)))
    · have ho : o = out := by simpa [putL] using h.symm
      subst ho
      repeat (first | apply Aw_seq | apply Aw_block | apply Aw_skip | apply Aw_exit | refine Aw_condt rfl ?_ | refine Aw_condf rfl ?_ | ((first | refine qr ?_ | refine qd (by kernel_rfl) (by kernel_rfl) ?_); simp only [go_sem, reduceEqDiff, reduceIte, reduceAdd, reduceMul, reduceSub, reduceLT, reduceLeDiff, Nat.reduceBEq, g1]) | refine dk (by kernel_rfl) ?_)
      exact Aw_ret (retL (M := [0]) (.inl rfl) (by simp only [go_sem, reduceEqDiff, reduceIte, reduceAdd, reduceMul, reduceSub, reduceLT, reduceLeDiff, Nat.reduceBEq]; first | done | rfl) rfl rfl (by rfl) (by simp only [go_sem, reduceEqDiff, reduceIte, reduceAdd, reduceMul, reduceSub, reduceLT, reduceLeDiff, Nat.reduceBEq]; first | done | rfl | (and_intros <;> rfl)) (by decide) (by intro m hm; first | omega | (rcases m with _ | _ | _ | _ | _ | _ | m <;> first | exact ⟨by decide, rfl⟩ | omega)))
theorem l2Put_ac (ks : List ByteArray) (k : ByteArray) (hl : ks.length ≤ 4000000) : AC Tryz.prog 151 [strsT ks, sT k] noHp 0 ⟨.t (strsT (putK ks k)), noHp, 0⟩ := by
  unfold putK
  cases h : putL k ks false [] with
  | none => exact l2Put_no ks k hl h
  | some o => exact AC.settle0 [0] (l2Put_ok ks o k hl h) (SetC.row0 rfl rfl) rfl
theorem putK_mem {ks : List ByteArray} {k : ByteArray} : (∀ y ∈ putK ks k, y ∈ ks ∨ y = k) ∧ (putK ks k).length ≤ ks.length + 1 := by
  unfold putK
  cases h : putL k ks false [] with
  | none => exact ⟨fun y hy => .inl hy, by simp⟩
  | some o =>
    obtain ⟨h1, h2⟩ := putL_mem h
    exact ⟨fun y hy => by rcases h1 y hy with h | h | h; simp at h; exact .inl h; exact .inr h, by simpa using h2⟩

open Classical in
noncomputable def pickV (b : List Int) (p : Nat) (n : Int) : Nat := if h : byteL b ∧ p ≤ 1000000 ∧ n ≤ 1099511627776 then Classical.choose (pick_ac b p n h.1 h.2.1 h.2.2) else 0
theorem pickV_ac {b : List Int} {p : Nat} {n : Int} (hb : byteL b) (hp : p ≤ 1000000) (hn : n ≤ 1099511627776) : AC Tryz.prog 81 [.c (.ph 0 0 0), iT n] (hpL [some (rdO b p)]) 1 ⟨.t (iT (pickV b p n)), hpL [some (rdO b (p + 1))], 1⟩ := by
  unfold pickV
  rw [dif_pos ⟨hb, hp, hn⟩]
  exact (Classical.choose_spec (pick_ac b p n hb hp hn)).2.2
theorem pickV_lt {b : List Int} {p : Nat} {n : Int} (hb : byteL b) (hp : p ≤ 1000000) (hn : n ≤ 1099511627776) (h1 : 1 ≤ n) : (pickV b p n : Int) < n := by
  unfold pickV
  rw [dif_pos ⟨hb, hp, hn⟩]
  exact (Classical.choose_spec (pick_ac b p n hb hp hn)).1 h1
noncomputable def ofV (b : List Int) (p : Nat) (l : List ByteArray) : ByteArray := l.getD (pickV b p (l.length : Int)) zs
theorem ofV_at {b : List Int} {p : Nat} {l : List ByteArray} (hb : byteL b) (hp : p ≤ 1000000) (h0 : 0 < l.length) (h1 : l.length ≤ 10000) : l[pickV b p (l.length : Int)]? = some (ofV b p l) := by
  have := pickV_lt (n := (l.length : Int)) hb hp (by omega) (by omega)
  unfold ofV
  rw [List.getD_eq_getElem?_getD, List.getElem?_eq_getElem (by omega)]; rfl
theorem of_ac {b : List Int} {p : Nat} {l : List ByteArray} (hb : byteL b) (hp : p ≤ 1000000) (h0 : 0 < l.length) (h1 : l.length ≤ 10000) : AC Tryz.prog 120 [.c (.ph 0 0 0), .c (.h 1)] (hpL [some (rdO b p), some (kRow l)]) 2 ⟨.t (sT (ofV b p l)), hpL [some (rdO b (p + 1)), none], 2⟩ := by
  refine AC_of Tryz.func120 rfl Tryz.ntmps120 Tryz.results120 (by kernel_rfl) rfl ?_
  simp only [List.zipIdx, List.map, Nat.zero_add, Nat.reduceAdd]
  have k := pickV_ac (n := (l.length : Int)) hb hp (by omega)
  have hx := ofV_at hb hp h0 h1
  have hlt := (List.getElem?_eq_some_iff.1 hx).1
  repeat (first | apply Aw_seq | apply Aw_block | apply Aw_skip | apply Aw_exit | refine Aw_condt rfl ?_ | refine Aw_condf rfl ?_ | ((first | refine qr ?_ | refine qd (by kernel_rfl) (by kernel_rfl) ?_); simp only [go_sem, reduceEqDiff, reduceIte, reduceAdd, reduceMul, reduceSub, reduceLT, reduceLeDiff, Nat.reduceBEq, hx, hlt]) | refine dk (by kernel_rfl) ?_ | (refine qx (call_L (N' := [0]) (L := []) (k) rfl (.cons (.nm rfl) (.cons (.nm rfl) (.nil))) (by decide) (by decide) (by decide) (by simp only [go_sem, reduceEqDiff, reduceIte, reduceAdd, reduceMul, reduceSub, reduceLT, reduceLeDiff, Nat.reduceBEq, hx, hlt]; first | done | rfl) (.inl rfl) rfl (by decide)) (by simp only [go_sem, reduceEqDiff, reduceIte, reduceAdd, reduceMul, reduceSub, reduceLT, reduceLeDiff, Nat.reduceBEq, hx, hlt]; first | done | rfl) rfl (by simp only [go_sem, Nat.reduceLT]) ?_; simp only [go_sem, reduceEqDiff, reduceIte, reduceAdd, reduceMul, reduceSub, reduceLT, reduceLeDiff, Nat.reduceBEq, hx, hlt]))
  exact Aw_ret (retL (M := [0, 1]) (.inl rfl) (by simp only [go_sem, reduceEqDiff, reduceIte, reduceAdd, reduceMul, reduceSub, reduceLT, reduceLeDiff, Nat.reduceBEq]; first | done | rfl) rfl rfl (by rfl) (by simp only [go_sem, reduceEqDiff, reduceIte, reduceAdd, reduceMul, reduceSub, reduceLT, reduceLeDiff, Nat.reduceBEq]; first | done | rfl | (and_intros <;> rfl)) (by decide) (by intro m hm; first | omega | (rcases m with _ | _ | _ | _ | _ | _ | m <;> first | exact ⟨by decide, rfl⟩ | omega)))
@[go_sem] theorem d_five (e k : Nat) (a b c d f : D) : (⟨e, k, true, [[.d a], [.d b], [.d c], [.d d], [.d f]]⟩ : Obj) = dRow e k [[a], [b], [c], [d], [f]] := rfl
@[go_sem] theorem d_three (e k : Nat) (a b c : D) : (⟨e, k, true, [[.d a], [.d b], [.d c]]⟩ : Obj) = dRow e k [[a], [b], [c]] := rfl
def five : List ByteArray := [bs [97], bs [98], bs [97], bs [99], bs [100]]
def three : List ByteArray := [bs [97], bs [98], bs [100]]
theorem ofV_mem {b : List Int} {p : Nat} {l : List ByteArray} (hb : byteL b) (hp : p ≤ 1000000) (h0 : 0 < l.length) (h1 : l.length ≤ 10000) : ofV b p l ∈ l := List.mem_of_getElem? (ofV_at hb hp h0 h1)
theorem five_size {s : ByteArray} (h : s ∈ five) : s.size = 1 := by
  have : five.all (fun s => s.size == 1) = true := rfl
  simpa using List.all_eq_true.1 this s h
theorem three_size {s : ByteArray} (h : s ∈ three) : s.size = 1 := by
  have : three.all (fun s => s.size == 1) = true := rfl
  simpa using List.all_eq_true.1 this s h
noncomputable def keyL (b : List Int) : Nat → ByteArray → Nat → ByteArray × Nat
  | 0, s, p => (s, p)
  | n + 1, s, p => keyL b n (s ++ ofV b p five) (p + 1)
noncomputable def keyV (b : List Int) (p : Nat) : ByteArray × Nat := keyL b (pickV b p 6) zs (p + 1)
theorem keyL_fin {b : List Int} (hb : byteL b) : ∀ (n : Nat) (s : ByteArray) (p : Nat), p + n ≤ 1000000 → (keyL b n s p).1.size = s.size + n ∧ (keyL b n s p).2 = p + n
  | 0, s, p, _ => ⟨rfl, rfl⟩
  | n + 1, s, p, h => by
    have h1 := five_size (ofV_mem (l := five) hb (show p ≤ 1000000 by omega) (by decide) (by decide))
    obtain ⟨h2, h3⟩ := keyL_fin hb n (s ++ ofV b p five) (p + 1) (by omega)
    have e : (s ++ ofV b p five).size = s.size + 1 := by rw [ByteArray.size_append, h1]
    exact ⟨by simp only [keyL]; rw [h2, e]; omega, by simp only [keyL]; rw [h3]; omega⟩
theorem keyV_fin {b : List Int} (hb : byteL b) {p : Nat} (hp : p ≤ 900000) : (keyV b p).1.size ≤ 5 ∧ (keyV b p).2 ≤ p + 6 := by
  have h := pickV_lt (n := 6) hb (show p ≤ 1000000 by omega) (by omega) (by omega)
  obtain ⟨h1, h2⟩ := keyL_fin hb (pickV b p 6) zs (p + 1) (by omega)
  have z : zs.size = 0 := rfl
  unfold keyV
  rw [h1, h2, z]
  constructor <;> omega
structure KyI (b : List Int) (p0 : Nat) where
  n : Nat
  s : ByteArray
  p : Nat
  hn : n ≤ 5
  hs : s.size + n ≤ 100
  hp : p + n ≤ 1000000
  h : keyL b n s p = keyV b p0
theorem l71Key_ac {b : List Int} {p : Nat} (hb : byteL b) (hp : p ≤ 900000) : AC Tryz.prog 119 [.c (.ph 0 0 0)] (hpL [some (rdO b p)]) 1 ⟨.t (sT (keyV b p).1), hpL [some (rdO b (keyV b p).2)], 1⟩ := by
  refine AC_of Tryz.func119 rfl Tryz.ntmps119 Tryz.results119 (by kernel_rfl) rfl ?_
  simp only [List.zipIdx, List.map, Nat.zero_add, Nat.reduceAdd]
  have k := pickV_ac (n := 6) hb (show p ≤ 1000000 by omega) (by omega)
  have h6 := pickV_lt (n := 6) hb (show p ≤ 1000000 by omega) (by omega) (by omega)
  repeat (first | apply Aw_seq | apply Aw_block | apply Aw_skip | apply Aw_exit | refine Aw_condt rfl ?_ | refine Aw_condf rfl ?_ | ((first | refine qr ?_ | refine qd (by kernel_rfl) (by kernel_rfl) ?_); simp only [go_sem, reduceEqDiff, reduceIte, reduceAdd, reduceMul, reduceSub, reduceLT, reduceLeDiff, Nat.reduceBEq]) | refine dk (by kernel_rfl) ?_ | (refine qx (call_L (N' := [0]) (L := []) (k) rfl (.cons (.nm rfl) (.cons (.nm rfl) (.nil))) (by decide) (by decide) (by decide) (by simp only [go_sem, reduceEqDiff, reduceIte, reduceAdd, reduceMul, reduceSub, reduceLT, reduceLeDiff, Nat.reduceBEq]; first | done | rfl) (.inl rfl) rfl (by decide)) (by simp only [go_sem, reduceEqDiff, reduceIte, reduceAdd, reduceMul, reduceSub, reduceLT, reduceLeDiff, Nat.reduceBEq]; first | done | rfl) rfl (by simp only [go_sem, Nat.reduceLT]) ?_; simp only [go_sem, reduceEqDiff, reduceIte, reduceAdd, reduceMul, reduceSub, reduceLT, reduceLeDiff, Nat.reduceBEq]))
  refine Aw.rw (rwL (l' := [(4, .t (iT (pickV b p 6 : Nat))), (3, .t (sT zs)), (0, .t (.c (.ph 0 0 0)))]) (os := [some (rdO b (p + 1))]) (M := [0]) (n' := 1) (by repeat (first | exact trivial | refine ⟨rfl, rfl, ?_⟩)) (by rfl) (by simp only [go_sem, reduceEqDiff, reduceIte, reduceAdd, reduceMul, reduceSub, reduceLT, reduceLeDiff, Nat.reduceBEq]; first | done | rfl) (by decide) (by intro m hm; first | omega | (rcases m with _ | _ | _ | _ | _ | _ | m <;> first | exact ⟨by decide, rfl⟩ | omega))) ?_
  refine Aw_loop_rw (ι := KyI b p) (fun q => S [(4, .t (iT (q.n : Nat))), (3, .t (sT q.s)), (0, .t (.c (.ph 0 0 0)))] (hpL [some (rdO b q.p)]) 1) (fun q => q.n) ⟨pickV b p 6, zs, p + 1, by omega, by show 0 + _ ≤ _; omega, by omega, rfl⟩ ?_
  rintro ⟨n, s, q, hn, hs, hq, h⟩
  dsimp only
  rcases n with _ | n
  · have g1 : decide ((0 : Int) < ((0 : Nat) : Int)) = false := rfl
    rw [← h]
    repeat (first | apply Aw_seq | apply Aw_block | apply Aw_skip | apply Aw_exit | refine Aw_condt rfl ?_ | refine Aw_condf rfl ?_ | ((first | refine qr ?_ | refine qd (by kernel_rfl) (by kernel_rfl) ?_); simp only [go_sem, reduceEqDiff, reduceIte, reduceAdd, reduceMul, reduceSub, reduceLT, reduceLeDiff, Nat.reduceBEq, g1]) | refine dk (by kernel_rfl) ?_)
    exact Aw_ret (retL (M := [0]) (.inl rfl) (by simp only [go_sem, reduceEqDiff, reduceIte, reduceAdd, reduceMul, reduceSub, reduceLT, reduceLeDiff, Nat.reduceBEq]; first | done | rfl) rfl rfl (by rfl) (by simp only [go_sem, reduceEqDiff, reduceIte, reduceAdd, reduceMul, reduceSub, reduceLT, reduceLeDiff, Nat.reduceBEq, keyL]; first | done | rfl | (and_intros <;> rfl)) (by decide) (by intro m hm; first | omega | (rcases m with _ | _ | _ | _ | _ | _ | m <;> first | exact ⟨by decide, rfl⟩ | omega)))
  · have g1 : decide ((0 : Int) < ((n + 1 : Nat) : Int)) = true := decide_eq_true (by omega)
    have w1 : IntKind.i64.wrap (((n + 1 : Nat) : Int) - 1) = (n : Int) := wn (by omega) (by omega)
    have ko : AC Tryz.prog 120 [.c (.ph 0 0 0), .c (.h 1)] (hpL [some (rdO b q), some (kRow [bs [97], bs [98], bs [97], bs [99], bs [100]])]) 2 ⟨.t (sT (ofV b q five)), hpL [some (rdO b (q + 1)), none], 2⟩ := of_ac (l := five) hb (show q ≤ 1000000 by omega) (by decide) (by decide)
    have e5 := five_size (ofV_mem (l := five) hb (show q ≤ 1000000 by omega) (by decide) (by decide))
    have gs : (s.size + (ofV b q five).size ≤ 9223372036854775807) = True := eq_true (by rw [e5]; omega)
    have hs2 : (s ++ ofV b q five).size = s.size + 1 := by rw [ByteArray.size_append, e5]
    repeat (first | apply Aw_seq | apply Aw_block | apply Aw_skip | apply Aw_exit | refine Aw_condt rfl ?_ | refine Aw_condf rfl ?_ | ((first | refine qr ?_ | refine qd (by kernel_rfl) (by kernel_rfl) ?_); simp only [go_sem, reduceEqDiff, reduceIte, reduceAdd, reduceMul, reduceSub, reduceLT, reduceLeDiff, Nat.reduceBEq, g1, w1, gs]) | refine dk (by kernel_rfl) ?_ | (refine qx (call_L (N' := [0, 5]) (L := []) (ko) rfl (.cons (.nm rfl) (.cons (.nm rfl) (.nil))) (by decide) (by decide) (by decide) (by simp only [go_sem, reduceEqDiff, reduceIte, reduceAdd, reduceMul, reduceSub, reduceLT, reduceLeDiff, Nat.reduceBEq, g1, w1, gs]; first | done | rfl) (.inl rfl) rfl (by decide)) (by simp only [go_sem, reduceEqDiff, reduceIte, reduceAdd, reduceMul, reduceSub, reduceLT, reduceLeDiff, Nat.reduceBEq, g1, w1, gs]; first | done | rfl) rfl (by simp only [go_sem, Nat.reduceLT]) ?_; simp only [go_sem, reduceEqDiff, reduceIte, reduceAdd, reduceMul, reduceSub, reduceLT, reduceLeDiff, Nat.reduceBEq, g1, w1, gs]))
    refine ⟨⟨n, s ++ ofV b q five, q + 1, by omega, by rw [hs2]; omega, by omega, h⟩, [0], ?_, rwL (by repeat (first | exact trivial | refine ⟨rfl, rfl, ?_⟩)) (by rfl) (by simp only [go_sem, reduceEqDiff, reduceIte, reduceAdd, reduceMul, reduceSub, reduceLT, reduceLeDiff, Nat.reduceBEq]; first | done | rfl) (by decide) (by intro m hm; first | omega | (rcases m with _ | _ | _ | _ | _ | _ | m <;> first | exact ⟨by decide, rfl⟩ | omega))⟩
    show n < n + 1; omega
noncomputable def nearV (b : List Int) (p : Nat) (l : List ByteArray) : ByteArray × Nat :=
  if l.length = 0 then keyV b p else if pickV b p 4 = 0 then keyV b (p + 1) else
    let k := ofV b (p + 1) l
    if pickV b (p + 2) 4 = 0 then (k.extract 0 (pickV b (p + 3) ((k.size + 1 : Nat) : Int)), p + 4)
    else if pickV b (p + 2) 4 = 1 then (if k.size < 5 then (k ++ ofV b (p + 3) three, p + 4) else (k, p + 3)) else (k, p + 3)
theorem nearV_fin {b : List Int} (hb : byteL b) {p K : Nat} {l : List ByteArray} (hp : p ≤ 800000) (hl : l.length ≤ 10000) (hK : 5 ≤ K) (hs : ∀ s ∈ l, s.size ≤ K) : (nearV b p l).1.size ≤ K ∧ (nearV b p l).2 ≤ p + 7 := by
  unfold nearV
  split
  · have := keyV_fin hb (show p ≤ 900000 by omega); omega
  split
  · have := keyV_fin hb (show p + 1 ≤ 900000 by omega); omega
  have hk := hs _ (ofV_mem (l := l) hb (show p + 1 ≤ 1000000 by omega) (by omega) hl)
  dsimp only
  split
  · exact ⟨by rw [ByteArray.size_extract]; omega, by dsimp only; omega⟩
  split
  · split
    · have h3 := three_size (ofV_mem (l := three) hb (show p + 3 ≤ 1000000 by omega) (by decide) (by decide))
      exact ⟨by rw [ByteArray.size_append, h3]; omega, by dsimp only; omega⟩
    · exact ⟨hk, by dsimp only; omega⟩
  · exact ⟨hk, by dsimp only; omega⟩
theorem l71Near_ac {b : List Int} {p : Nat} {l : List ByteArray} (hb : byteL b) (hp : p ≤ 800000) (hl : l.length ≤ 10000) (hs : ∀ s ∈ l, s.size ≤ 1000000) : AC Tryz.prog 83 [.c (.ph 0 0 0), strsT l] (hpL [some (rdO b p)]) 1 ⟨.t (sT (nearV b p l).1), hpL [some (rdO b (nearV b p l).2)], 1⟩ := by
  by_cases c0 : l.length = 0
  · have e : nearV b p l = keyV b p := by unfold nearV; rw [if_pos c0]
    have g0 : decide (((l.length : Nat) : Int) = 0) = true := decide_eq_true (by omega)
    have kk := l71Key_ac hb (show p ≤ 900000 by omega)
    rw [e]
    refine AC_of Tryz.func83 rfl Tryz.ntmps83 Tryz.results83 (by kernel_rfl) rfl ?_
    simp only [List.zipIdx, List.map, Nat.zero_add, Nat.reduceAdd]
    repeat (first | apply Aw_seq | apply Aw_block | apply Aw_skip | apply Aw_exit | refine Aw_condt rfl ?_ | refine Aw_condf rfl ?_ | ((first | refine qr ?_ | refine qd (by kernel_rfl) (by kernel_rfl) ?_); simp only [go_sem, reduceEqDiff, reduceIte, reduceAdd, reduceMul, reduceSub, reduceLT, reduceLeDiff, Nat.reduceBEq, g0]) | refine dk (by kernel_rfl) ?_ | (refine qx (call_L (N' := [0]) (L := []) (kk) rfl (.cons (.nm rfl) (.nil)) (by decide) (by decide) (by decide) (by simp only [go_sem, reduceEqDiff, reduceIte, reduceAdd, reduceMul, reduceSub, reduceLT, reduceLeDiff, Nat.reduceBEq, g0]; first | done | rfl) (.inl rfl) rfl (by decide)) (by simp only [go_sem, reduceEqDiff, reduceIte, reduceAdd, reduceMul, reduceSub, reduceLT, reduceLeDiff, Nat.reduceBEq, g0]; first | done | rfl) rfl (by simp only [go_sem, Nat.reduceLT]) ?_; simp only [go_sem, reduceEqDiff, reduceIte, reduceAdd, reduceMul, reduceSub, reduceLT, reduceLeDiff, Nat.reduceBEq, g0]))
    exact Aw_ret (retL (M := [0]) (.inl rfl) (by simp only [go_sem, reduceEqDiff, reduceIte, reduceAdd, reduceMul, reduceSub, reduceLT, reduceLeDiff, Nat.reduceBEq]; first | done | rfl) rfl rfl (by rfl) (by simp only [go_sem, reduceEqDiff, reduceIte, reduceAdd, reduceMul, reduceSub, reduceLT, reduceLeDiff, Nat.reduceBEq]; first | done | rfl | (and_intros <;> rfl)) (by decide) (by intro m hm; first | omega | (rcases m with _ | _ | _ | _ | _ | _ | m <;> first | exact ⟨by decide, rfl⟩ | omega)))
  have g0 : decide (((l.length : Nat) : Int) = 0) = false := decide_eq_false (by omega)
  have k1 := pickV_ac (n := 4) hb (show p ≤ 1000000 by omega) (by omega)
  by_cases c1 : pickV b p 4 = 0
  · have e : nearV b p l = keyV b (p + 1) := by unfold nearV; rw [if_neg c0, if_pos c1]
    have kk := l71Key_ac hb (show p + 1 ≤ 900000 by omega)
    have g1 : decide (((pickV b p 4 : Nat) : Int) = 0) = true := decide_eq_true (by omega)
    rw [e]
    refine AC_of Tryz.func83 rfl Tryz.ntmps83 Tryz.results83 (by kernel_rfl) rfl ?_
    simp only [List.zipIdx, List.map, Nat.zero_add, Nat.reduceAdd]
    repeat (first | apply Aw_seq | apply Aw_block | apply Aw_skip | apply Aw_exit | refine Aw_condt rfl ?_ | refine Aw_condf rfl ?_ | ((first | refine qr ?_ | refine qd (by kernel_rfl) (by kernel_rfl) ?_); simp only [go_sem, reduceEqDiff, reduceIte, reduceAdd, reduceMul, reduceSub, reduceLT, reduceLeDiff, Nat.reduceBEq, g0, g1]) | refine dk (by kernel_rfl) ?_ | (refine qx (call_L (N' := [0]) (L := []) (k1) rfl (.cons (.nm rfl) (.cons (.nm rfl) (.nil))) (by decide) (by decide) (by decide) (by simp only [go_sem, reduceEqDiff, reduceIte, reduceAdd, reduceMul, reduceSub, reduceLT, reduceLeDiff, Nat.reduceBEq, g0, g1]; first | done | rfl) (.inl rfl) rfl (by decide)) (by simp only [go_sem, reduceEqDiff, reduceIte, reduceAdd, reduceMul, reduceSub, reduceLT, reduceLeDiff, Nat.reduceBEq, g0, g1]; first | done | rfl) rfl (by simp only [go_sem, Nat.reduceLT]) ?_; simp only [go_sem, reduceEqDiff, reduceIte, reduceAdd, reduceMul, reduceSub, reduceLT, reduceLeDiff, Nat.reduceBEq, g0, g1]) | (refine qx (call_L (N' := [0]) (L := []) (kk) rfl (.cons (.nm rfl) (.nil)) (by decide) (by decide) (by decide) (by simp only [go_sem, reduceEqDiff, reduceIte, reduceAdd, reduceMul, reduceSub, reduceLT, reduceLeDiff, Nat.reduceBEq, g0, g1]; first | done | rfl) (.inl rfl) rfl (by decide)) (by simp only [go_sem, reduceEqDiff, reduceIte, reduceAdd, reduceMul, reduceSub, reduceLT, reduceLeDiff, Nat.reduceBEq, g0, g1]; first | done | rfl) rfl (by simp only [go_sem, Nat.reduceLT]) ?_; simp only [go_sem, reduceEqDiff, reduceIte, reduceAdd, reduceMul, reduceSub, reduceLT, reduceLeDiff, Nat.reduceBEq, g0, g1]))
    exact Aw_ret (retL (M := [0]) (.inl rfl) (by simp only [go_sem, reduceEqDiff, reduceIte, reduceAdd, reduceMul, reduceSub, reduceLT, reduceLeDiff, Nat.reduceBEq]; first | done | rfl) rfl rfl (by rfl) (by simp only [go_sem, reduceEqDiff, reduceIte, reduceAdd, reduceMul, reduceSub, reduceLT, reduceLeDiff, Nat.reduceBEq]; first | done | rfl | (and_intros <;> rfl)) (by decide) (by intro m hm; first | omega | (rcases m with _ | _ | _ | _ | _ | _ | m <;> first | exact ⟨by decide, rfl⟩ | omega)))
  have g1 : decide (((pickV b p 4 : Nat) : Int) = 0) = false := decide_eq_false (by omega)
  have k2 := pickV_ac (n := (l.length : Int)) hb (show p + 1 ≤ 1000000 by omega) (by omega)
  have k3 := pickV_ac (n := 4) hb (show p + 1 + 1 ≤ 1000000 by omega) (by omega)
  have hx := ofV_at hb (show p + 1 ≤ 1000000 by omega) (show 0 < l.length by omega) hl
  obtain ⟨k, hk⟩ : ∃ k, k = ofV b (p + 1) l := ⟨_, rfl⟩
  rw [← hk] at hx
  have hks := hs k (List.mem_of_getElem? hx)
  by_cases c2 : pickV b (p + 1 + 1) 4 = 0
  · have e : nearV b p l = (k.extract 0 (pickV b (p + 1 + 1 + 1) ((k.size + 1 : Nat) : Int)), p + 4) := by unfold nearV; rw [if_neg c0, if_neg c1]; dsimp only; rw [if_pos c2, ← hk]
    have g2 : decide (((pickV b (p + 1 + 1) 4 : Nat) : Int) = 0) = true := decide_eq_true (by omega)
    have w1 : IntKind.i64.wrap ((k.size : Int) + 1) = ((k.size + 1 : Nat) : Int) := wn (by omega) (by omega)
    have k4 := pickV_ac (n := ((k.size + 1 : Nat) : Int)) hb (show p + 1 + 1 + 1 ≤ 1000000 by omega) (by omega)
    have h4 := pickV_lt (n := ((k.size + 1 : Nat) : Int)) hb (show p + 1 + 1 + 1 ≤ 1000000 by omega) (by omega) (by omega)
    have s1 : ((0 : Int) ≤ ((pickV b (p + 1 + 1 + 1) ((k.size + 1 : Nat) : Int) : Nat) : Int)) = True := eq_true (by omega)
    have s2 : (((pickV b (p + 1 + 1 + 1) ((k.size + 1 : Nat) : Int) : Nat) : Int) ≤ (k.size : Int)) = True := eq_true (by omega)
    have s3 : Int.toNat ((pickV b (p + 1 + 1 + 1) ((k.size + 1 : Nat) : Int) : Nat) : Int) = pickV b (p + 1 + 1 + 1) ((k.size + 1 : Nat) : Int) := rfl
    have s4 : Int.toNat 0 = 0 := rfl
    rw [e]
    refine AC_of Tryz.func83 rfl Tryz.ntmps83 Tryz.results83 (by kernel_rfl) rfl ?_
    simp only [List.zipIdx, List.map, Nat.zero_add, Nat.reduceAdd]
    repeat (first | apply Aw_seq | apply Aw_block | apply Aw_skip | apply Aw_exit | refine Aw_condt rfl ?_ | refine Aw_condf rfl ?_ | ((first | refine qr ?_ | refine qd (by kernel_rfl) (by kernel_rfl) ?_); simp only [go_sem, reduceEqDiff, reduceIte, reduceAdd, reduceMul, reduceSub, reduceLT, reduceLeDiff, Nat.reduceBEq, g0, g1, hx, g2, w1, s1, s2, s3, s4]) | refine dk (by kernel_rfl) ?_ | (refine qx (call_L (N' := [0]) (L := []) (k1) rfl (.cons (.nm rfl) (.cons (.nm rfl) (.nil))) (by decide) (by decide) (by decide) (by simp only [go_sem, reduceEqDiff, reduceIte, reduceAdd, reduceMul, reduceSub, reduceLT, reduceLeDiff, Nat.reduceBEq, g0, g1, hx, g2, w1, s1, s2, s3, s4]; first | done | rfl) (.inl rfl) rfl (by decide)) (by simp only [go_sem, reduceEqDiff, reduceIte, reduceAdd, reduceMul, reduceSub, reduceLT, reduceLeDiff, Nat.reduceBEq, g0, g1, hx, g2, w1, s1, s2, s3, s4]; first | done | rfl) rfl (by simp only [go_sem, Nat.reduceLT]) ?_; simp only [go_sem, reduceEqDiff, reduceIte, reduceAdd, reduceMul, reduceSub, reduceLT, reduceLeDiff, Nat.reduceBEq, g0, g1, hx, g2, w1, s1, s2, s3, s4]) | (refine qx (call_L (N' := [0]) (L := []) (k2) rfl (.cons (.nm rfl) (.cons (.nm rfl) (.nil))) (by decide) (by decide) (by decide) (by simp only [go_sem, reduceEqDiff, reduceIte, reduceAdd, reduceMul, reduceSub, reduceLT, reduceLeDiff, Nat.reduceBEq, g0, g1, hx, g2, w1, s1, s2, s3, s4]; first | done | rfl) (.inl rfl) rfl (by decide)) (by simp only [go_sem, reduceEqDiff, reduceIte, reduceAdd, reduceMul, reduceSub, reduceLT, reduceLeDiff, Nat.reduceBEq, g0, g1, hx, g2, w1, s1, s2, s3, s4]; first | done | rfl) rfl (by simp only [go_sem, Nat.reduceLT]) ?_; simp only [go_sem, reduceEqDiff, reduceIte, reduceAdd, reduceMul, reduceSub, reduceLT, reduceLeDiff, Nat.reduceBEq, g0, g1, hx, g2, w1, s1, s2, s3, s4]) | (refine qx (call_L (N' := [0]) (L := []) (k3) rfl (.cons (.nm rfl) (.cons (.nm rfl) (.nil))) (by decide) (by decide) (by decide) (by simp only [go_sem, reduceEqDiff, reduceIte, reduceAdd, reduceMul, reduceSub, reduceLT, reduceLeDiff, Nat.reduceBEq, g0, g1, hx, g2, w1, s1, s2, s3, s4]; first | done | rfl) (.inl rfl) rfl (by decide)) (by simp only [go_sem, reduceEqDiff, reduceIte, reduceAdd, reduceMul, reduceSub, reduceLT, reduceLeDiff, Nat.reduceBEq, g0, g1, hx, g2, w1, s1, s2, s3, s4]; first | done | rfl) rfl (by simp only [go_sem, Nat.reduceLT]) ?_; simp only [go_sem, reduceEqDiff, reduceIte, reduceAdd, reduceMul, reduceSub, reduceLT, reduceLeDiff, Nat.reduceBEq, g0, g1, hx, g2, w1, s1, s2, s3, s4]) | (refine qx (call_L (N' := [0]) (L := []) (k4) rfl (.cons (.nm rfl) (.cons (.nm rfl) (.nil))) (by decide) (by decide) (by decide) (by simp only [go_sem, reduceEqDiff, reduceIte, reduceAdd, reduceMul, reduceSub, reduceLT, reduceLeDiff, Nat.reduceBEq, g0, g1, hx, g2, w1, s1, s2, s3, s4]; first | done | rfl) (.inl rfl) rfl (by decide)) (by simp only [go_sem, reduceEqDiff, reduceIte, reduceAdd, reduceMul, reduceSub, reduceLT, reduceLeDiff, Nat.reduceBEq, g0, g1, hx, g2, w1, s1, s2, s3, s4]; first | done | rfl) rfl (by simp only [go_sem, Nat.reduceLT]) ?_; simp only [go_sem, reduceEqDiff, reduceIte, reduceAdd, reduceMul, reduceSub, reduceLT, reduceLeDiff, Nat.reduceBEq, g0, g1, hx, g2, w1, s1, s2, s3, s4]))
    exact Aw_ret (retL (M := [0]) (.inl rfl) (by simp only [go_sem, reduceEqDiff, reduceIte, reduceAdd, reduceMul, reduceSub, reduceLT, reduceLeDiff, Nat.reduceBEq]; first | done | rfl) rfl rfl (by rfl) (by simp only [go_sem, reduceEqDiff, reduceIte, reduceAdd, reduceMul, reduceSub, reduceLT, reduceLeDiff, Nat.reduceBEq]; first | done | rfl | (and_intros <;> rfl)) (by decide) (by intro m hm; first | omega | (rcases m with _ | _ | _ | _ | _ | _ | m <;> first | exact ⟨by decide, rfl⟩ | omega)))
  have g2 : decide (((pickV b (p + 1 + 1) 4 : Nat) : Int) = 0) = false := decide_eq_false (by omega)
  by_cases c3 : pickV b (p + 1 + 1) 4 = 1
  · have g3 : decide (((pickV b (p + 1 + 1) 4 : Nat) : Int) = 1) = true := decide_eq_true (by omega)
    by_cases c4 : k.size < 5
    · have e : nearV b p l = (k ++ ofV b (p + 1 + 1 + 1) three, p + 4) := by unfold nearV; rw [if_neg c0, if_neg c1]; dsimp only; rw [if_neg c2, if_pos c3, ← hk, if_pos c4]
      have g4 : decide ((k.size : Int) < 5) = true := decide_eq_true (by omega)
      have e3 := three_size (ofV_mem (l := three) hb (show p + 1 + 1 + 1 ≤ 1000000 by omega) (by decide) (by decide))
      have gs : (k.size + (ofV b (p + 1 + 1 + 1) three).size ≤ 9223372036854775807) = True := eq_true (by rw [e3]; omega)
      have ko : AC Tryz.prog 120 [.c (.ph 0 0 0), .c (.h 1)] (hpL [some (rdO b (p + 1 + 1 + 1)), some (kRow [bs [97], bs [98], bs [100]])]) 2 ⟨.t (sT (ofV b (p + 1 + 1 + 1) three)), hpL [some (rdO b (p + 1 + 1 + 1 + 1)), none], 2⟩ := of_ac (l := three) hb (show p + 1 + 1 + 1 ≤ 1000000 by omega) (by decide) (by decide)
      rw [e]
      refine AC_of Tryz.func83 rfl Tryz.ntmps83 Tryz.results83 (by kernel_rfl) rfl ?_
      simp only [List.zipIdx, List.map, Nat.zero_add, Nat.reduceAdd]
      repeat (first | apply Aw_seq | apply Aw_block | apply Aw_skip | apply Aw_exit | refine Aw_condt rfl ?_ | refine Aw_condf rfl ?_ | ((first | refine qr ?_ | refine qd (by kernel_rfl) (by kernel_rfl) ?_); simp only [go_sem, reduceEqDiff, reduceIte, reduceAdd, reduceMul, reduceSub, reduceLT, reduceLeDiff, Nat.reduceBEq, g0, g1, hx, g2, g3, g4, gs]) | refine dk (by kernel_rfl) ?_ | (refine qx (call_L (N' := [0]) (L := []) (k1) rfl (.cons (.nm rfl) (.cons (.nm rfl) (.nil))) (by decide) (by decide) (by decide) (by simp only [go_sem, reduceEqDiff, reduceIte, reduceAdd, reduceMul, reduceSub, reduceLT, reduceLeDiff, Nat.reduceBEq, g0, g1, hx, g2, g3, g4, gs]; first | done | rfl) (.inl rfl) rfl (by decide)) (by simp only [go_sem, reduceEqDiff, reduceIte, reduceAdd, reduceMul, reduceSub, reduceLT, reduceLeDiff, Nat.reduceBEq, g0, g1, hx, g2, g3, g4, gs]; first | done | rfl) rfl (by simp only [go_sem, Nat.reduceLT]) ?_; simp only [go_sem, reduceEqDiff, reduceIte, reduceAdd, reduceMul, reduceSub, reduceLT, reduceLeDiff, Nat.reduceBEq, g0, g1, hx, g2, g3, g4, gs]) | (refine qx (call_L (N' := [0]) (L := []) (k2) rfl (.cons (.nm rfl) (.cons (.nm rfl) (.nil))) (by decide) (by decide) (by decide) (by simp only [go_sem, reduceEqDiff, reduceIte, reduceAdd, reduceMul, reduceSub, reduceLT, reduceLeDiff, Nat.reduceBEq, g0, g1, hx, g2, g3, g4, gs]; first | done | rfl) (.inl rfl) rfl (by decide)) (by simp only [go_sem, reduceEqDiff, reduceIte, reduceAdd, reduceMul, reduceSub, reduceLT, reduceLeDiff, Nat.reduceBEq, g0, g1, hx, g2, g3, g4, gs]; first | done | rfl) rfl (by simp only [go_sem, Nat.reduceLT]) ?_; simp only [go_sem, reduceEqDiff, reduceIte, reduceAdd, reduceMul, reduceSub, reduceLT, reduceLeDiff, Nat.reduceBEq, g0, g1, hx, g2, g3, g4, gs]) | (refine qx (call_L (N' := [0]) (L := []) (k3) rfl (.cons (.nm rfl) (.cons (.nm rfl) (.nil))) (by decide) (by decide) (by decide) (by simp only [go_sem, reduceEqDiff, reduceIte, reduceAdd, reduceMul, reduceSub, reduceLT, reduceLeDiff, Nat.reduceBEq, g0, g1, hx, g2, g3, g4, gs]; first | done | rfl) (.inl rfl) rfl (by decide)) (by simp only [go_sem, reduceEqDiff, reduceIte, reduceAdd, reduceMul, reduceSub, reduceLT, reduceLeDiff, Nat.reduceBEq, g0, g1, hx, g2, g3, g4, gs]; first | done | rfl) rfl (by simp only [go_sem, Nat.reduceLT]) ?_; simp only [go_sem, reduceEqDiff, reduceIte, reduceAdd, reduceMul, reduceSub, reduceLT, reduceLeDiff, Nat.reduceBEq, g0, g1, hx, g2, g3, g4, gs]) | (refine qx (call_L (N' := [0, 26]) (L := []) (ko) rfl (.cons (.nm rfl) (.cons (.nm rfl) (.nil))) (by decide) (by decide) (by decide) (by simp only [go_sem, reduceEqDiff, reduceIte, reduceAdd, reduceMul, reduceSub, reduceLT, reduceLeDiff, Nat.reduceBEq, g0, g1, hx, g2, g3, g4, gs]; first | done | rfl) (.inl rfl) rfl (by decide)) (by simp only [go_sem, reduceEqDiff, reduceIte, reduceAdd, reduceMul, reduceSub, reduceLT, reduceLeDiff, Nat.reduceBEq, g0, g1, hx, g2, g3, g4, gs]; first | done | rfl) rfl (by simp only [go_sem, Nat.reduceLT]) ?_; simp only [go_sem, reduceEqDiff, reduceIte, reduceAdd, reduceMul, reduceSub, reduceLT, reduceLeDiff, Nat.reduceBEq, g0, g1, hx, g2, g3, g4, gs]))
      exact Aw_ret (retL (M := [0]) (.inl rfl) (by simp only [go_sem, reduceEqDiff, reduceIte, reduceAdd, reduceMul, reduceSub, reduceLT, reduceLeDiff, Nat.reduceBEq]; first | done | rfl) rfl rfl (by rfl) (by simp only [go_sem, reduceEqDiff, reduceIte, reduceAdd, reduceMul, reduceSub, reduceLT, reduceLeDiff, Nat.reduceBEq]; first | done | rfl | (and_intros <;> rfl)) (by decide) (by intro m hm; first | omega | (rcases m with _ | _ | _ | _ | _ | _ | m <;> first | exact ⟨by decide, rfl⟩ | omega)))
    · have e : nearV b p l = (k, p + 3) := by unfold nearV; rw [if_neg c0, if_neg c1]; dsimp only; rw [if_neg c2, if_pos c3, ← hk, if_neg c4]
      have g4 : decide ((k.size : Int) < 5) = false := decide_eq_false (by omega)
      rw [e]
      refine AC_of Tryz.func83 rfl Tryz.ntmps83 Tryz.results83 (by kernel_rfl) rfl ?_
      simp only [List.zipIdx, List.map, Nat.zero_add, Nat.reduceAdd]
      repeat (first | apply Aw_seq | apply Aw_block | apply Aw_skip | apply Aw_exit | refine Aw_condt rfl ?_ | refine Aw_condf rfl ?_ | ((first | refine qr ?_ | refine qd (by kernel_rfl) (by kernel_rfl) ?_); simp only [go_sem, reduceEqDiff, reduceIte, reduceAdd, reduceMul, reduceSub, reduceLT, reduceLeDiff, Nat.reduceBEq, g0, g1, hx, g2, g3, g4]) | refine dk (by kernel_rfl) ?_ | (refine qx (call_L (N' := [0]) (L := []) (k1) rfl (.cons (.nm rfl) (.cons (.nm rfl) (.nil))) (by decide) (by decide) (by decide) (by simp only [go_sem, reduceEqDiff, reduceIte, reduceAdd, reduceMul, reduceSub, reduceLT, reduceLeDiff, Nat.reduceBEq, g0, g1, hx, g2, g3, g4]; first | done | rfl) (.inl rfl) rfl (by decide)) (by simp only [go_sem, reduceEqDiff, reduceIte, reduceAdd, reduceMul, reduceSub, reduceLT, reduceLeDiff, Nat.reduceBEq, g0, g1, hx, g2, g3, g4]; first | done | rfl) rfl (by simp only [go_sem, Nat.reduceLT]) ?_; simp only [go_sem, reduceEqDiff, reduceIte, reduceAdd, reduceMul, reduceSub, reduceLT, reduceLeDiff, Nat.reduceBEq, g0, g1, hx, g2, g3, g4]) | (refine qx (call_L (N' := [0]) (L := []) (k2) rfl (.cons (.nm rfl) (.cons (.nm rfl) (.nil))) (by decide) (by decide) (by decide) (by simp only [go_sem, reduceEqDiff, reduceIte, reduceAdd, reduceMul, reduceSub, reduceLT, reduceLeDiff, Nat.reduceBEq, g0, g1, hx, g2, g3, g4]; first | done | rfl) (.inl rfl) rfl (by decide)) (by simp only [go_sem, reduceEqDiff, reduceIte, reduceAdd, reduceMul, reduceSub, reduceLT, reduceLeDiff, Nat.reduceBEq, g0, g1, hx, g2, g3, g4]; first | done | rfl) rfl (by simp only [go_sem, Nat.reduceLT]) ?_; simp only [go_sem, reduceEqDiff, reduceIte, reduceAdd, reduceMul, reduceSub, reduceLT, reduceLeDiff, Nat.reduceBEq, g0, g1, hx, g2, g3, g4]) | (refine qx (call_L (N' := [0]) (L := []) (k3) rfl (.cons (.nm rfl) (.cons (.nm rfl) (.nil))) (by decide) (by decide) (by decide) (by simp only [go_sem, reduceEqDiff, reduceIte, reduceAdd, reduceMul, reduceSub, reduceLT, reduceLeDiff, Nat.reduceBEq, g0, g1, hx, g2, g3, g4]; first | done | rfl) (.inl rfl) rfl (by decide)) (by simp only [go_sem, reduceEqDiff, reduceIte, reduceAdd, reduceMul, reduceSub, reduceLT, reduceLeDiff, Nat.reduceBEq, g0, g1, hx, g2, g3, g4]; first | done | rfl) rfl (by simp only [go_sem, Nat.reduceLT]) ?_; simp only [go_sem, reduceEqDiff, reduceIte, reduceAdd, reduceMul, reduceSub, reduceLT, reduceLeDiff, Nat.reduceBEq, g0, g1, hx, g2, g3, g4]))
      exact Aw_ret (retL (M := [0]) (.inl rfl) (by simp only [go_sem, reduceEqDiff, reduceIte, reduceAdd, reduceMul, reduceSub, reduceLT, reduceLeDiff, Nat.reduceBEq]; first | done | rfl) rfl rfl (by rfl) (by simp only [go_sem, reduceEqDiff, reduceIte, reduceAdd, reduceMul, reduceSub, reduceLT, reduceLeDiff, Nat.reduceBEq]; first | done | rfl | (and_intros <;> rfl)) (by decide) (by intro m hm; first | omega | (rcases m with _ | _ | _ | _ | _ | _ | m <;> first | exact ⟨by decide, rfl⟩ | omega)))
  · have g3 : decide (((pickV b (p + 1 + 1) 4 : Nat) : Int) = 1) = false := decide_eq_false (by omega)
    have e : nearV b p l = (k, p + 3) := by unfold nearV; rw [if_neg c0, if_neg c1]; dsimp only; rw [if_neg c2, if_neg c3, ← hk]
    rw [e]
    refine AC_of Tryz.func83 rfl Tryz.ntmps83 Tryz.results83 (by kernel_rfl) rfl ?_
    simp only [List.zipIdx, List.map, Nat.zero_add, Nat.reduceAdd]
    repeat (first | apply Aw_seq | apply Aw_block | apply Aw_skip | apply Aw_exit | refine Aw_condt rfl ?_ | refine Aw_condf rfl ?_ | ((first | refine qr ?_ | refine qd (by kernel_rfl) (by kernel_rfl) ?_); simp only [go_sem, reduceEqDiff, reduceIte, reduceAdd, reduceMul, reduceSub, reduceLT, reduceLeDiff, Nat.reduceBEq, g0, g1, hx, g2, g3]) | refine dk (by kernel_rfl) ?_ | (refine qx (call_L (N' := [0]) (L := []) (k1) rfl (.cons (.nm rfl) (.cons (.nm rfl) (.nil))) (by decide) (by decide) (by decide) (by simp only [go_sem, reduceEqDiff, reduceIte, reduceAdd, reduceMul, reduceSub, reduceLT, reduceLeDiff, Nat.reduceBEq, g0, g1, hx, g2, g3]; first | done | rfl) (.inl rfl) rfl (by decide)) (by simp only [go_sem, reduceEqDiff, reduceIte, reduceAdd, reduceMul, reduceSub, reduceLT, reduceLeDiff, Nat.reduceBEq, g0, g1, hx, g2, g3]; first | done | rfl) rfl (by simp only [go_sem, Nat.reduceLT]) ?_; simp only [go_sem, reduceEqDiff, reduceIte, reduceAdd, reduceMul, reduceSub, reduceLT, reduceLeDiff, Nat.reduceBEq, g0, g1, hx, g2, g3]) | (refine qx (call_L (N' := [0]) (L := []) (k2) rfl (.cons (.nm rfl) (.cons (.nm rfl) (.nil))) (by decide) (by decide) (by decide) (by simp only [go_sem, reduceEqDiff, reduceIte, reduceAdd, reduceMul, reduceSub, reduceLT, reduceLeDiff, Nat.reduceBEq, g0, g1, hx, g2, g3]; first | done | rfl) (.inl rfl) rfl (by decide)) (by simp only [go_sem, reduceEqDiff, reduceIte, reduceAdd, reduceMul, reduceSub, reduceLT, reduceLeDiff, Nat.reduceBEq, g0, g1, hx, g2, g3]; first | done | rfl) rfl (by simp only [go_sem, Nat.reduceLT]) ?_; simp only [go_sem, reduceEqDiff, reduceIte, reduceAdd, reduceMul, reduceSub, reduceLT, reduceLeDiff, Nat.reduceBEq, g0, g1, hx, g2, g3]) | (refine qx (call_L (N' := [0]) (L := []) (k3) rfl (.cons (.nm rfl) (.cons (.nm rfl) (.nil))) (by decide) (by decide) (by decide) (by simp only [go_sem, reduceEqDiff, reduceIte, reduceAdd, reduceMul, reduceSub, reduceLT, reduceLeDiff, Nat.reduceBEq, g0, g1, hx, g2, g3]; first | done | rfl) (.inl rfl) rfl (by decide)) (by simp only [go_sem, reduceEqDiff, reduceIte, reduceAdd, reduceMul, reduceSub, reduceLT, reduceLeDiff, Nat.reduceBEq, g0, g1, hx, g2, g3]; first | done | rfl) rfl (by simp only [go_sem, Nat.reduceLT]) ?_; simp only [go_sem, reduceEqDiff, reduceIte, reduceAdd, reduceMul, reduceSub, reduceLT, reduceLeDiff, Nat.reduceBEq, g0, g1, hx, g2, g3]))
    exact Aw_ret (retL (M := [0]) (.inl rfl) (by simp only [go_sem, reduceEqDiff, reduceIte, reduceAdd, reduceMul, reduceSub, reduceLT, reduceLeDiff, Nat.reduceBEq]; first | done | rfl) rfl rfl (by rfl) (by simp only [go_sem, reduceEqDiff, reduceIte, reduceAdd, reduceMul, reduceSub, reduceLT, reduceLeDiff, Nat.reduceBEq]; first | done | rfl | (and_intros <;> rfl)) (by decide) (by intro m hm; first | omega | (rcases m with _ | _ | _ | _ | _ | _ | m <;> first | exact ⟨by decide, rfl⟩ | omega)))
noncomputable def keysL (b : List Int) : Nat → List ByteArray → Nat → List ByteArray × Nat
  | 0, l, p => (l, p)
  | n + 1, l, p => keysL b n (putK l (nearV b p l).1) (nearV b p l).2
noncomputable def keysV (b : List Int) (p : Nat) (most : Nat) : List ByteArray × Nat := keysL b (pickV b p ((most + 1 : Nat) : Int)) [] (p + 1)
theorem keysL_fin {b : List Int} (hb : byteL b) : ∀ (n : Nat) (l : List ByteArray) (p : Nat), p + 7 * n ≤ 700000 → l.length + n ≤ 1000 → (∀ s ∈ l, s.size ≤ 5) → (keysL b n l p).1.length ≤ l.length + n ∧ (∀ s ∈ (keysL b n l p).1, s.size ≤ 5) ∧ (keysL b n l p).2 ≤ p + 7 * n
  | 0, l, p, _, _, h => ⟨by simp [keysL], h, by simp [keysL]⟩
  | n + 1, l, p, h1, h2, h3 => by
    obtain ⟨a1, a2⟩ := nearV_fin hb (p := p) (K := 5) (l := l) (by omega) (by omega) (by omega) h3
    obtain ⟨b1, b2⟩ := putK_mem (ks := l) (k := (nearV b p l).1)
    obtain ⟨c1, c2, c3⟩ := keysL_fin hb n (putK l (nearV b p l).1) (nearV b p l).2 (by omega) (by omega) (fun s hs => by
      rcases b1 s hs with h | h
      · exact h3 s h
      · rw [h]; exact a1)
    exact ⟨by simp only [keysL]; omega, by simp only [keysL]; exact c2, by simp only [keysL]; omega⟩
theorem keysV_fin {b : List Int} (hb : byteL b) {p most : Nat} (hp : p ≤ 600000) (hm : most ≤ 100) : (keysV b p most).1.length ≤ most ∧ (∀ s ∈ (keysV b p most).1, s.size ≤ 5) ∧ (keysV b p most).2 ≤ p + 1 + 7 * most := by
  have h := pickV_lt (n := ((most + 1 : Nat) : Int)) hb (show p ≤ 1000000 by omega) (by omega) (by omega)
  obtain ⟨h1, h2, h3⟩ := keysL_fin hb (pickV b p ((most + 1 : Nat) : Int)) [] (p + 1) (by omega) (by show 0 + _ ≤ _; omega) (by simp)
  unfold keysV
  rw [show ([] : List ByteArray).length = 0 from rfl] at h1
  exact ⟨by omega, h2, by omega⟩
structure KsI (b : List Int) (p0 most : Nat) where
  n : Nat
  l : List ByteArray
  p : Nat
  hn : l.length + n ≤ 1000
  hs : ∀ s ∈ l, s.size ≤ 5
  hp : p + 7 * n ≤ 700000
  h : keysL b n l p = keysV b p0 most
theorem l71Keys_ac {b : List Int} {p most : Nat} (hb : byteL b) (hp : p ≤ 600000) (hm : most ≤ 100) : AC Tryz.prog 136 [.c (.ph 0 0 0), iT most] (hpL [some (rdO b p)]) 1 ⟨.t (strsT (keysV b p most).1), hpL [some (rdO b (keysV b p most).2)], 1⟩ := by
  refine AC_of Tryz.func136 rfl Tryz.ntmps136 Tryz.results136 (by kernel_rfl) rfl ?_
  simp only [List.zipIdx, List.map, Nat.zero_add, Nat.reduceAdd]
  have w0 : IntKind.i64.wrap ((most : Int) + 1) = ((most + 1 : Nat) : Int) := wn (by omega) (by omega)
  have k := pickV_ac (n := ((most + 1 : Nat) : Int)) hb (show p ≤ 1000000 by omega) (by omega)
  have h6 := pickV_lt (n := ((most + 1 : Nat) : Int)) hb (show p ≤ 1000000 by omega) (by omega) (by omega)
  repeat (first | apply Aw_seq | apply Aw_block | apply Aw_skip | apply Aw_exit | refine Aw_condt rfl ?_ | refine Aw_condf rfl ?_ | ((first | refine qr ?_ | refine qd (by kernel_rfl) (by kernel_rfl) ?_); simp only [go_sem, reduceEqDiff, reduceIte, reduceAdd, reduceMul, reduceSub, reduceLT, reduceLeDiff, Nat.reduceBEq, w0]) | refine dk (by kernel_rfl) ?_ | (refine qx (call_L (N' := [0]) (L := []) (k) rfl (.cons (.nm rfl) (.cons (.nm rfl) (.nil))) (by decide) (by decide) (by decide) (by simp only [go_sem, reduceEqDiff, reduceIte, reduceAdd, reduceMul, reduceSub, reduceLT, reduceLeDiff, Nat.reduceBEq, w0]; first | done | rfl) (.inl rfl) rfl (by decide)) (by simp only [go_sem, reduceEqDiff, reduceIte, reduceAdd, reduceMul, reduceSub, reduceLT, reduceLeDiff, Nat.reduceBEq, w0]; first | done | rfl) rfl (by simp only [go_sem, Nat.reduceLT]) ?_; simp only [go_sem, reduceEqDiff, reduceIte, reduceAdd, reduceMul, reduceSub, reduceLT, reduceLeDiff, Nat.reduceBEq, w0]))
  refine Aw.rw (rwL (l' := [(6, .t (iT (pickV b p ((most + 1 : Nat) : Int) : Nat))), (5, .t (.c (.h 1))), (0, .t (.c (.ph 0 0 0)))]) (os := [some (rdO b (p + 1)), some (kRow [])]) (M := [0, 2]) (n' := 2) (by repeat (first | exact trivial | refine ⟨rfl, rfl, ?_⟩)) (by rfl) (by simp only [go_sem, reduceEqDiff, reduceIte, reduceAdd, reduceMul, reduceSub, reduceLT, reduceLeDiff, Nat.reduceBEq, List.map_nil]; first | done | rfl) (by decide) (by intro m hm; first | omega | (rcases m with _ | _ | _ | _ | _ | _ | m <;> first | exact ⟨by decide, rfl⟩ | omega))) ?_
  refine Aw.setL (l' := [(6, .t (iT (pickV b p ((most + 1 : Nat) : Int) : Nat))), (5, .t (strsT [])), (0, .t (.c (.ph 0 0 0)))]) (os' := [some (rdO b (p + 1))]) (n' := 2) [1] (by repeat (first | exact trivial | refine ⟨SetA.same rfl, ?_⟩ | refine ⟨SetA.row rfl rfl (by decide), ?_⟩)) (by repeat (first | exact trivial | refine ⟨rfl, rfl, ?_⟩ | show SubL _ _ _ _)) (by decide) ?_
  refine Aw_loop_rw (ι := KsI b p most) (fun q => S [(6, .t (iT (q.n : Nat))), (5, .t (strsT q.l)), (0, .t (.c (.ph 0 0 0)))] (hpL [some (rdO b q.p)]) 2) (fun q => q.n) ⟨pickV b p ((most + 1 : Nat) : Int), [], p + 1, by show 0 + _ ≤ _; omega, by simp, by omega, rfl⟩ ?_
  rintro ⟨n, l, q, hn, hs, hq, h⟩
  dsimp only
  rcases n with _ | n
  · have g1 : decide ((0 : Int) < ((0 : Nat) : Int)) = false := rfl
    rw [← h]
    repeat (first | apply Aw_seq | apply Aw_block | apply Aw_skip | apply Aw_exit | refine Aw_condt rfl ?_ | refine Aw_condf rfl ?_ | ((first | refine qr ?_ | refine qd (by kernel_rfl) (by kernel_rfl) ?_); simp only [go_sem, reduceEqDiff, reduceIte, reduceAdd, reduceMul, reduceSub, reduceLT, reduceLeDiff, Nat.reduceBEq, g1]) | refine dk (by kernel_rfl) ?_)
    exact Aw_ret (retL (M := [0]) (.inl rfl) (by simp only [go_sem, reduceEqDiff, reduceIte, reduceAdd, reduceMul, reduceSub, reduceLT, reduceLeDiff, Nat.reduceBEq]; first | done | rfl) rfl rfl (by rfl) (by simp only [go_sem, reduceEqDiff, reduceIte, reduceAdd, reduceMul, reduceSub, reduceLT, reduceLeDiff, Nat.reduceBEq, keysL]; first | done | rfl | (and_intros <;> rfl)) (by decide) (by intro m hm; first | omega | (rcases m with _ | _ | _ | _ | _ | _ | m <;> first | exact ⟨by decide, rfl⟩ | omega)))
  · have g1 : decide ((0 : Int) < ((n + 1 : Nat) : Int)) = true := decide_eq_true (by omega)
    have w1 : IntKind.i64.wrap (((n + 1 : Nat) : Int) - 1) = (n : Int) := wn (by omega) (by omega)
    have kn := l71Near_ac (l := l) hb (show q ≤ 800000 by omega) (by omega) (fun s h => by have := hs s h; omega)
    have kp := l2Put_ac l (nearV b q l).1 (by omega)
    obtain ⟨a1, a2⟩ := nearV_fin hb (p := q) (K := 5) (l := l) (by omega) (by omega) (by omega) hs
    obtain ⟨b1, b2⟩ := putK_mem (ks := l) (k := (nearV b q l).1)
    repeat (first | apply Aw_seq | apply Aw_block | apply Aw_skip | apply Aw_exit | refine Aw_condt rfl ?_ | refine Aw_condf rfl ?_ | ((first | refine qr ?_ | refine qd (by kernel_rfl) (by kernel_rfl) ?_); simp only [go_sem, reduceEqDiff, reduceIte, reduceAdd, reduceMul, reduceSub, reduceLT, reduceLeDiff, Nat.reduceBEq, g1, w1]) | refine dk (by kernel_rfl) ?_ | (refine qp (kp) (by simp only [go_sem, reduceEqDiff, reduceIte, reduceAdd, reduceMul, reduceSub, reduceLT, reduceLeDiff, Nat.reduceBEq, g1, w1]; first | done | rfl) rfl (by simp only [go_sem, Nat.reduceLT]) rfl rfl ?_; simp only [go_sem, reduceEqDiff, reduceIte, reduceAdd, reduceMul, reduceSub, reduceLT, reduceLeDiff, Nat.reduceBEq, g1, w1]) | (refine qx (call_L (N' := [0]) (L := []) (kn) rfl (.cons (.nm rfl) (.cons (.nm rfl) (.nil))) (by decide) (by decide) (by decide) (by simp only [go_sem, reduceEqDiff, reduceIte, reduceAdd, reduceMul, reduceSub, reduceLT, reduceLeDiff, Nat.reduceBEq, g1, w1]; first | done | rfl) (.inl rfl) rfl (by decide)) (by simp only [go_sem, reduceEqDiff, reduceIte, reduceAdd, reduceMul, reduceSub, reduceLT, reduceLeDiff, Nat.reduceBEq, g1, w1]; first | done | rfl) rfl (by simp only [go_sem, Nat.reduceLT]) ?_; simp only [go_sem, reduceEqDiff, reduceIte, reduceAdd, reduceMul, reduceSub, reduceLT, reduceLeDiff, Nat.reduceBEq, g1, w1]))
    refine ⟨⟨n, putK l (nearV b q l).1, (nearV b q l).2, by omega, fun s hs2 => (b1 s hs2).elim (hs s) (fun e => by rw [e]; exact a1), by omega, h⟩, [0], ?_, rwL (by repeat (first | exact trivial | refine ⟨rfl, rfl, ?_⟩)) (by rfl) (by simp only [go_sem, reduceEqDiff, reduceIte, reduceAdd, reduceMul, reduceSub, reduceLT, reduceLeDiff, Nat.reduceBEq]; first | done | rfl) (by decide) (by intro m hm; first | omega | (rcases m with _ | _ | _ | _ | _ | _ | m <;> first | exact ⟨by decide, rfl⟩ | omega))⟩
    show n < n + 1; omega
noncomputable def deedV (b : List Int) (p : Nat) (l : List ByteArray) : Deed × Nat :=
  if pickV b p 10 < 5 then (⟨1, (nearV b (p + 1) l).1, (pickV b (nearV b (p + 1) l).2 100 : Nat)⟩, (nearV b (p + 1) l).2 + 1)
  else if pickV b p 10 = 5 then (⟨2, (nearV b (p + 1) l).1, 0⟩, (nearV b (p + 1) l).2)
  else if pickV b p 10 = 6 then (⟨3, zs, 0⟩, p + 1)
  else if pickV b p 10 = 7 then (⟨4, zs, (pickV b (p + 1) 20 : Nat)⟩, p + 2)
  else if pickV b p 10 = 8 then (⟨5, zs, 0⟩, p + 1)
  else (⟨6, zs, (pickV b (p + 1) 3 : Nat)⟩, p + 2)
theorem deedV_fin {b : List Int} (hb : byteL b) {p : Nat} {l : List ByteArray} (hp : p ≤ 500000) (hl : l.length ≤ 1000) (hs : ∀ s ∈ l, s.size ≤ 5) : (deedV b p l).1.key.size ≤ 5 ∧ (deedV b p l).2 ≤ p + 9 := by
  have h := nearV_fin hb (p := p + 1) (K := 5) (l := l) (by omega) (by omega) (by omega) hs
  have z : zs.size = 0 := rfl
  unfold deedV
  (repeat' split) <;> dsimp only <;> (constructor <;> omega)
theorem l71Deed_ac {b : List Int} {p : Nat} {l : List ByteArray} (hb : byteL b) (hp : p ≤ 500000) (hl : l.length ≤ 1000) (hs : ∀ s ∈ l, s.size ≤ 5) : AC Tryz.prog 137 [.c (.ph 0 0 0), strsT l] (hpL [some (rdO b p)]) 1 ⟨.t (deedT (deedV b p l).1), hpL [some (rdO b (deedV b p l).2)], 1⟩ := by
  have k1 := pickV_ac (n := 10) hb (show p ≤ 1000000 by omega) (by omega)
  have h1 := pickV_lt (n := 10) hb (show p ≤ 1000000 by omega) (by omega) (by omega)
  have kn := l71Near_ac (l := l) hb (show p + 1 ≤ 800000 by omega) (by omega) (fun s h => by have := hs s h; omega)
  have hn := nearV_fin hb (p := p + 1) (K := 5) (l := l) (by omega) (by omega) (by omega) hs
  have k2 := pickV_ac (n := 100) hb (show (nearV b (p + 1) l).2 ≤ 1000000 by omega) (by omega)
  have k3 := pickV_ac (n := 20) hb (show p + 1 ≤ 1000000 by omega) (by omega)
  have k4 := pickV_ac (n := 3) hb (show p + 1 ≤ 1000000 by omega) (by omega)
  have hc : pickV b p 10 = 0 ∨ pickV b p 10 = 1 ∨ pickV b p 10 = 2 ∨ pickV b p 10 = 3 ∨ pickV b p 10 = 4 ∨ pickV b p 10 = 5 ∨ pickV b p 10 = 6 ∨ pickV b p 10 = 7 ∨ pickV b p 10 = 8 ∨ pickV b p 10 = 9 := by omega
  unfold deedV
  rcases hc with hv | hv | hv | hv | hv | hv | hv | hv | hv | hv
  · rw [hv] at k1
    have g0 : decide (((0 : Nat) : Int) = 0) = true := rfl
    simp only [hv]
    rw [if_pos (show 0 < 5 by decide)]
    refine AC_of Tryz.func137 rfl Tryz.ntmps137 Tryz.results137 (by kernel_rfl) rfl ?_
    simp only [List.zipIdx, List.map, Nat.zero_add, Nat.reduceAdd]
    repeat (first | apply Aw_seq | apply Aw_block | apply Aw_skip | apply Aw_exit | refine Aw_condt rfl ?_ | refine Aw_condf rfl ?_ | ((first | refine qr ?_ | refine qd (by kernel_rfl) (by kernel_rfl) ?_); simp only [go_sem, reduceEqDiff, reduceIte, reduceAdd, reduceMul, reduceSub, reduceLT, reduceLeDiff, Nat.reduceBEq, g0]) | refine dk (by kernel_rfl) ?_ | (refine qx (call_L (N' := [0]) (L := []) (k1) rfl (.cons (.nm rfl) (.cons (.nm rfl) (.nil))) (by decide) (by decide) (by decide) (by simp only [go_sem, reduceEqDiff, reduceIte, reduceAdd, reduceMul, reduceSub, reduceLT, reduceLeDiff, Nat.reduceBEq, g0]; first | done | rfl) (.inl rfl) rfl (by decide)) (by simp only [go_sem, reduceEqDiff, reduceIte, reduceAdd, reduceMul, reduceSub, reduceLT, reduceLeDiff, Nat.reduceBEq, g0]; first | done | rfl) rfl (by simp only [go_sem, Nat.reduceLT]) ?_; simp only [go_sem, reduceEqDiff, reduceIte, reduceAdd, reduceMul, reduceSub, reduceLT, reduceLeDiff, Nat.reduceBEq, g0]) | (refine qx (call_L (N' := [0]) (L := []) (kn) rfl (.cons (.nm rfl) (.cons (.nm rfl) (.nil))) (by decide) (by decide) (by decide) (by simp only [go_sem, reduceEqDiff, reduceIte, reduceAdd, reduceMul, reduceSub, reduceLT, reduceLeDiff, Nat.reduceBEq, g0]; first | done | rfl) (.inl rfl) rfl (by decide)) (by simp only [go_sem, reduceEqDiff, reduceIte, reduceAdd, reduceMul, reduceSub, reduceLT, reduceLeDiff, Nat.reduceBEq, g0]; first | done | rfl) rfl (by simp only [go_sem, Nat.reduceLT]) ?_; simp only [go_sem, reduceEqDiff, reduceIte, reduceAdd, reduceMul, reduceSub, reduceLT, reduceLeDiff, Nat.reduceBEq, g0]) | (refine qx (call_L (N' := [0]) (L := []) (k2) rfl (.cons (.nm rfl) (.cons (.nm rfl) (.nil))) (by decide) (by decide) (by decide) (by simp only [go_sem, reduceEqDiff, reduceIte, reduceAdd, reduceMul, reduceSub, reduceLT, reduceLeDiff, Nat.reduceBEq, g0]; first | done | rfl) (.inl rfl) rfl (by decide)) (by simp only [go_sem, reduceEqDiff, reduceIte, reduceAdd, reduceMul, reduceSub, reduceLT, reduceLeDiff, Nat.reduceBEq, g0]; first | done | rfl) rfl (by simp only [go_sem, Nat.reduceLT]) ?_; simp only [go_sem, reduceEqDiff, reduceIte, reduceAdd, reduceMul, reduceSub, reduceLT, reduceLeDiff, Nat.reduceBEq, g0]))
    exact Aw_ret (retL (M := [0]) (.inl rfl) (by simp only [go_sem, reduceEqDiff, reduceIte, reduceAdd, reduceMul, reduceSub, reduceLT, reduceLeDiff, Nat.reduceBEq]; first | done | rfl) rfl rfl (by rfl) (by simp only [go_sem, reduceEqDiff, reduceIte, reduceAdd, reduceMul, reduceSub, reduceLT, reduceLeDiff, Nat.reduceBEq]; first | done | rfl | (and_intros <;> rfl)) (by decide) (by intro m hm; first | omega | (rcases m with _ | _ | _ | _ | _ | _ | m <;> first | exact ⟨by decide, rfl⟩ | omega)))
  · rw [hv] at k1
    have g0 : decide (((1 : Nat) : Int) = 0) = false := rfl
    have g1 : decide (((1 : Nat) : Int) = 1) = true := rfl
    simp only [hv]
    rw [if_pos (show 1 < 5 by decide)]
    refine AC_of Tryz.func137 rfl Tryz.ntmps137 Tryz.results137 (by kernel_rfl) rfl ?_
    simp only [List.zipIdx, List.map, Nat.zero_add, Nat.reduceAdd]
    repeat (first | apply Aw_seq | apply Aw_block | apply Aw_skip | apply Aw_exit | refine Aw_condt rfl ?_ | refine Aw_condf rfl ?_ | ((first | refine qr ?_ | refine qd (by kernel_rfl) (by kernel_rfl) ?_); simp only [go_sem, reduceEqDiff, reduceIte, reduceAdd, reduceMul, reduceSub, reduceLT, reduceLeDiff, Nat.reduceBEq, g0, g1]) | refine dk (by kernel_rfl) ?_ | (refine qx (call_L (N' := [0]) (L := []) (k1) rfl (.cons (.nm rfl) (.cons (.nm rfl) (.nil))) (by decide) (by decide) (by decide) (by simp only [go_sem, reduceEqDiff, reduceIte, reduceAdd, reduceMul, reduceSub, reduceLT, reduceLeDiff, Nat.reduceBEq, g0, g1]; first | done | rfl) (.inl rfl) rfl (by decide)) (by simp only [go_sem, reduceEqDiff, reduceIte, reduceAdd, reduceMul, reduceSub, reduceLT, reduceLeDiff, Nat.reduceBEq, g0, g1]; first | done | rfl) rfl (by simp only [go_sem, Nat.reduceLT]) ?_; simp only [go_sem, reduceEqDiff, reduceIte, reduceAdd, reduceMul, reduceSub, reduceLT, reduceLeDiff, Nat.reduceBEq, g0, g1]) | (refine qx (call_L (N' := [0]) (L := []) (kn) rfl (.cons (.nm rfl) (.cons (.nm rfl) (.nil))) (by decide) (by decide) (by decide) (by simp only [go_sem, reduceEqDiff, reduceIte, reduceAdd, reduceMul, reduceSub, reduceLT, reduceLeDiff, Nat.reduceBEq, g0, g1]; first | done | rfl) (.inl rfl) rfl (by decide)) (by simp only [go_sem, reduceEqDiff, reduceIte, reduceAdd, reduceMul, reduceSub, reduceLT, reduceLeDiff, Nat.reduceBEq, g0, g1]; first | done | rfl) rfl (by simp only [go_sem, Nat.reduceLT]) ?_; simp only [go_sem, reduceEqDiff, reduceIte, reduceAdd, reduceMul, reduceSub, reduceLT, reduceLeDiff, Nat.reduceBEq, g0, g1]) | (refine qx (call_L (N' := [0]) (L := []) (k2) rfl (.cons (.nm rfl) (.cons (.nm rfl) (.nil))) (by decide) (by decide) (by decide) (by simp only [go_sem, reduceEqDiff, reduceIte, reduceAdd, reduceMul, reduceSub, reduceLT, reduceLeDiff, Nat.reduceBEq, g0, g1]; first | done | rfl) (.inl rfl) rfl (by decide)) (by simp only [go_sem, reduceEqDiff, reduceIte, reduceAdd, reduceMul, reduceSub, reduceLT, reduceLeDiff, Nat.reduceBEq, g0, g1]; first | done | rfl) rfl (by simp only [go_sem, Nat.reduceLT]) ?_; simp only [go_sem, reduceEqDiff, reduceIte, reduceAdd, reduceMul, reduceSub, reduceLT, reduceLeDiff, Nat.reduceBEq, g0, g1]))
    exact Aw_ret (retL (M := [0]) (.inl rfl) (by simp only [go_sem, reduceEqDiff, reduceIte, reduceAdd, reduceMul, reduceSub, reduceLT, reduceLeDiff, Nat.reduceBEq]; first | done | rfl) rfl rfl (by rfl) (by simp only [go_sem, reduceEqDiff, reduceIte, reduceAdd, reduceMul, reduceSub, reduceLT, reduceLeDiff, Nat.reduceBEq]; first | done | rfl | (and_intros <;> rfl)) (by decide) (by intro m hm; first | omega | (rcases m with _ | _ | _ | _ | _ | _ | m <;> first | exact ⟨by decide, rfl⟩ | omega)))
  · rw [hv] at k1
    have g0 : decide (((2 : Nat) : Int) = 0) = false := rfl
    have g1 : decide (((2 : Nat) : Int) = 1) = false := rfl
    have g2 : decide (((2 : Nat) : Int) = 2) = true := rfl
    simp only [hv]
    rw [if_pos (show 2 < 5 by decide)]
    refine AC_of Tryz.func137 rfl Tryz.ntmps137 Tryz.results137 (by kernel_rfl) rfl ?_
    simp only [List.zipIdx, List.map, Nat.zero_add, Nat.reduceAdd]
    repeat (first | apply Aw_seq | apply Aw_block | apply Aw_skip | apply Aw_exit | refine Aw_condt rfl ?_ | refine Aw_condf rfl ?_ | ((first | refine qr ?_ | refine qd (by kernel_rfl) (by kernel_rfl) ?_); simp only [go_sem, reduceEqDiff, reduceIte, reduceAdd, reduceMul, reduceSub, reduceLT, reduceLeDiff, Nat.reduceBEq, g0, g1, g2]) | refine dk (by kernel_rfl) ?_ | (refine qx (call_L (N' := [0]) (L := []) (k1) rfl (.cons (.nm rfl) (.cons (.nm rfl) (.nil))) (by decide) (by decide) (by decide) (by simp only [go_sem, reduceEqDiff, reduceIte, reduceAdd, reduceMul, reduceSub, reduceLT, reduceLeDiff, Nat.reduceBEq, g0, g1, g2]; first | done | rfl) (.inl rfl) rfl (by decide)) (by simp only [go_sem, reduceEqDiff, reduceIte, reduceAdd, reduceMul, reduceSub, reduceLT, reduceLeDiff, Nat.reduceBEq, g0, g1, g2]; first | done | rfl) rfl (by simp only [go_sem, Nat.reduceLT]) ?_; simp only [go_sem, reduceEqDiff, reduceIte, reduceAdd, reduceMul, reduceSub, reduceLT, reduceLeDiff, Nat.reduceBEq, g0, g1, g2]) | (refine qx (call_L (N' := [0]) (L := []) (kn) rfl (.cons (.nm rfl) (.cons (.nm rfl) (.nil))) (by decide) (by decide) (by decide) (by simp only [go_sem, reduceEqDiff, reduceIte, reduceAdd, reduceMul, reduceSub, reduceLT, reduceLeDiff, Nat.reduceBEq, g0, g1, g2]; first | done | rfl) (.inl rfl) rfl (by decide)) (by simp only [go_sem, reduceEqDiff, reduceIte, reduceAdd, reduceMul, reduceSub, reduceLT, reduceLeDiff, Nat.reduceBEq, g0, g1, g2]; first | done | rfl) rfl (by simp only [go_sem, Nat.reduceLT]) ?_; simp only [go_sem, reduceEqDiff, reduceIte, reduceAdd, reduceMul, reduceSub, reduceLT, reduceLeDiff, Nat.reduceBEq, g0, g1, g2]) | (refine qx (call_L (N' := [0]) (L := []) (k2) rfl (.cons (.nm rfl) (.cons (.nm rfl) (.nil))) (by decide) (by decide) (by decide) (by simp only [go_sem, reduceEqDiff, reduceIte, reduceAdd, reduceMul, reduceSub, reduceLT, reduceLeDiff, Nat.reduceBEq, g0, g1, g2]; first | done | rfl) (.inl rfl) rfl (by decide)) (by simp only [go_sem, reduceEqDiff, reduceIte, reduceAdd, reduceMul, reduceSub, reduceLT, reduceLeDiff, Nat.reduceBEq, g0, g1, g2]; first | done | rfl) rfl (by simp only [go_sem, Nat.reduceLT]) ?_; simp only [go_sem, reduceEqDiff, reduceIte, reduceAdd, reduceMul, reduceSub, reduceLT, reduceLeDiff, Nat.reduceBEq, g0, g1, g2]))
    exact Aw_ret (retL (M := [0]) (.inl rfl) (by simp only [go_sem, reduceEqDiff, reduceIte, reduceAdd, reduceMul, reduceSub, reduceLT, reduceLeDiff, Nat.reduceBEq]; first | done | rfl) rfl rfl (by rfl) (by simp only [go_sem, reduceEqDiff, reduceIte, reduceAdd, reduceMul, reduceSub, reduceLT, reduceLeDiff, Nat.reduceBEq]; first | done | rfl | (and_intros <;> rfl)) (by decide) (by intro m hm; first | omega | (rcases m with _ | _ | _ | _ | _ | _ | m <;> first | exact ⟨by decide, rfl⟩ | omega)))
  · rw [hv] at k1
    have g0 : decide (((3 : Nat) : Int) = 0) = false := rfl
    have g1 : decide (((3 : Nat) : Int) = 1) = false := rfl
    have g2 : decide (((3 : Nat) : Int) = 2) = false := rfl
    have g3 : decide (((3 : Nat) : Int) = 3) = true := rfl
    simp only [hv]
    rw [if_pos (show 3 < 5 by decide)]
    refine AC_of Tryz.func137 rfl Tryz.ntmps137 Tryz.results137 (by kernel_rfl) rfl ?_
    simp only [List.zipIdx, List.map, Nat.zero_add, Nat.reduceAdd]
    repeat (first | apply Aw_seq | apply Aw_block | apply Aw_skip | apply Aw_exit | refine Aw_condt rfl ?_ | refine Aw_condf rfl ?_ | ((first | refine qr ?_ | refine qd (by kernel_rfl) (by kernel_rfl) ?_); simp only [go_sem, reduceEqDiff, reduceIte, reduceAdd, reduceMul, reduceSub, reduceLT, reduceLeDiff, Nat.reduceBEq, g0, g1, g2, g3]) | refine dk (by kernel_rfl) ?_ | (refine qx (call_L (N' := [0]) (L := []) (k1) rfl (.cons (.nm rfl) (.cons (.nm rfl) (.nil))) (by decide) (by decide) (by decide) (by simp only [go_sem, reduceEqDiff, reduceIte, reduceAdd, reduceMul, reduceSub, reduceLT, reduceLeDiff, Nat.reduceBEq, g0, g1, g2, g3]; first | done | rfl) (.inl rfl) rfl (by decide)) (by simp only [go_sem, reduceEqDiff, reduceIte, reduceAdd, reduceMul, reduceSub, reduceLT, reduceLeDiff, Nat.reduceBEq, g0, g1, g2, g3]; first | done | rfl) rfl (by simp only [go_sem, Nat.reduceLT]) ?_; simp only [go_sem, reduceEqDiff, reduceIte, reduceAdd, reduceMul, reduceSub, reduceLT, reduceLeDiff, Nat.reduceBEq, g0, g1, g2, g3]) | (refine qx (call_L (N' := [0]) (L := []) (kn) rfl (.cons (.nm rfl) (.cons (.nm rfl) (.nil))) (by decide) (by decide) (by decide) (by simp only [go_sem, reduceEqDiff, reduceIte, reduceAdd, reduceMul, reduceSub, reduceLT, reduceLeDiff, Nat.reduceBEq, g0, g1, g2, g3]; first | done | rfl) (.inl rfl) rfl (by decide)) (by simp only [go_sem, reduceEqDiff, reduceIte, reduceAdd, reduceMul, reduceSub, reduceLT, reduceLeDiff, Nat.reduceBEq, g0, g1, g2, g3]; first | done | rfl) rfl (by simp only [go_sem, Nat.reduceLT]) ?_; simp only [go_sem, reduceEqDiff, reduceIte, reduceAdd, reduceMul, reduceSub, reduceLT, reduceLeDiff, Nat.reduceBEq, g0, g1, g2, g3]) | (refine qx (call_L (N' := [0]) (L := []) (k2) rfl (.cons (.nm rfl) (.cons (.nm rfl) (.nil))) (by decide) (by decide) (by decide) (by simp only [go_sem, reduceEqDiff, reduceIte, reduceAdd, reduceMul, reduceSub, reduceLT, reduceLeDiff, Nat.reduceBEq, g0, g1, g2, g3]; first | done | rfl) (.inl rfl) rfl (by decide)) (by simp only [go_sem, reduceEqDiff, reduceIte, reduceAdd, reduceMul, reduceSub, reduceLT, reduceLeDiff, Nat.reduceBEq, g0, g1, g2, g3]; first | done | rfl) rfl (by simp only [go_sem, Nat.reduceLT]) ?_; simp only [go_sem, reduceEqDiff, reduceIte, reduceAdd, reduceMul, reduceSub, reduceLT, reduceLeDiff, Nat.reduceBEq, g0, g1, g2, g3]))
    exact Aw_ret (retL (M := [0]) (.inl rfl) (by simp only [go_sem, reduceEqDiff, reduceIte, reduceAdd, reduceMul, reduceSub, reduceLT, reduceLeDiff, Nat.reduceBEq]; first | done | rfl) rfl rfl (by rfl) (by simp only [go_sem, reduceEqDiff, reduceIte, reduceAdd, reduceMul, reduceSub, reduceLT, reduceLeDiff, Nat.reduceBEq]; first | done | rfl | (and_intros <;> rfl)) (by decide) (by intro m hm; first | omega | (rcases m with _ | _ | _ | _ | _ | _ | m <;> first | exact ⟨by decide, rfl⟩ | omega)))
  · rw [hv] at k1
    have g0 : decide (((4 : Nat) : Int) = 0) = false := rfl
    have g1 : decide (((4 : Nat) : Int) = 1) = false := rfl
    have g2 : decide (((4 : Nat) : Int) = 2) = false := rfl
    have g3 : decide (((4 : Nat) : Int) = 3) = false := rfl
    have g4 : decide (((4 : Nat) : Int) = 4) = true := rfl
    simp only [hv]
    rw [if_pos (show 4 < 5 by decide)]
    refine AC_of Tryz.func137 rfl Tryz.ntmps137 Tryz.results137 (by kernel_rfl) rfl ?_
    simp only [List.zipIdx, List.map, Nat.zero_add, Nat.reduceAdd]
    repeat (first | apply Aw_seq | apply Aw_block | apply Aw_skip | apply Aw_exit | refine Aw_condt rfl ?_ | refine Aw_condf rfl ?_ | ((first | refine qr ?_ | refine qd (by kernel_rfl) (by kernel_rfl) ?_); simp only [go_sem, reduceEqDiff, reduceIte, reduceAdd, reduceMul, reduceSub, reduceLT, reduceLeDiff, Nat.reduceBEq, g0, g1, g2, g3, g4]) | refine dk (by kernel_rfl) ?_ | (refine qx (call_L (N' := [0]) (L := []) (k1) rfl (.cons (.nm rfl) (.cons (.nm rfl) (.nil))) (by decide) (by decide) (by decide) (by simp only [go_sem, reduceEqDiff, reduceIte, reduceAdd, reduceMul, reduceSub, reduceLT, reduceLeDiff, Nat.reduceBEq, g0, g1, g2, g3, g4]; first | done | rfl) (.inl rfl) rfl (by decide)) (by simp only [go_sem, reduceEqDiff, reduceIte, reduceAdd, reduceMul, reduceSub, reduceLT, reduceLeDiff, Nat.reduceBEq, g0, g1, g2, g3, g4]; first | done | rfl) rfl (by simp only [go_sem, Nat.reduceLT]) ?_; simp only [go_sem, reduceEqDiff, reduceIte, reduceAdd, reduceMul, reduceSub, reduceLT, reduceLeDiff, Nat.reduceBEq, g0, g1, g2, g3, g4]) | (refine qx (call_L (N' := [0]) (L := []) (kn) rfl (.cons (.nm rfl) (.cons (.nm rfl) (.nil))) (by decide) (by decide) (by decide) (by simp only [go_sem, reduceEqDiff, reduceIte, reduceAdd, reduceMul, reduceSub, reduceLT, reduceLeDiff, Nat.reduceBEq, g0, g1, g2, g3, g4]; first | done | rfl) (.inl rfl) rfl (by decide)) (by simp only [go_sem, reduceEqDiff, reduceIte, reduceAdd, reduceMul, reduceSub, reduceLT, reduceLeDiff, Nat.reduceBEq, g0, g1, g2, g3, g4]; first | done | rfl) rfl (by simp only [go_sem, Nat.reduceLT]) ?_; simp only [go_sem, reduceEqDiff, reduceIte, reduceAdd, reduceMul, reduceSub, reduceLT, reduceLeDiff, Nat.reduceBEq, g0, g1, g2, g3, g4]) | (refine qx (call_L (N' := [0]) (L := []) (k2) rfl (.cons (.nm rfl) (.cons (.nm rfl) (.nil))) (by decide) (by decide) (by decide) (by simp only [go_sem, reduceEqDiff, reduceIte, reduceAdd, reduceMul, reduceSub, reduceLT, reduceLeDiff, Nat.reduceBEq, g0, g1, g2, g3, g4]; first | done | rfl) (.inl rfl) rfl (by decide)) (by simp only [go_sem, reduceEqDiff, reduceIte, reduceAdd, reduceMul, reduceSub, reduceLT, reduceLeDiff, Nat.reduceBEq, g0, g1, g2, g3, g4]; first | done | rfl) rfl (by simp only [go_sem, Nat.reduceLT]) ?_; simp only [go_sem, reduceEqDiff, reduceIte, reduceAdd, reduceMul, reduceSub, reduceLT, reduceLeDiff, Nat.reduceBEq, g0, g1, g2, g3, g4]))
    exact Aw_ret (retL (M := [0]) (.inl rfl) (by simp only [go_sem, reduceEqDiff, reduceIte, reduceAdd, reduceMul, reduceSub, reduceLT, reduceLeDiff, Nat.reduceBEq]; first | done | rfl) rfl rfl (by rfl) (by simp only [go_sem, reduceEqDiff, reduceIte, reduceAdd, reduceMul, reduceSub, reduceLT, reduceLeDiff, Nat.reduceBEq]; first | done | rfl | (and_intros <;> rfl)) (by decide) (by intro m hm; first | omega | (rcases m with _ | _ | _ | _ | _ | _ | m <;> first | exact ⟨by decide, rfl⟩ | omega)))
  · rw [hv] at k1
    have g0 : decide (((5 : Nat) : Int) = 0) = false := rfl
    have g1 : decide (((5 : Nat) : Int) = 1) = false := rfl
    have g2 : decide (((5 : Nat) : Int) = 2) = false := rfl
    have g3 : decide (((5 : Nat) : Int) = 3) = false := rfl
    have g4 : decide (((5 : Nat) : Int) = 4) = false := rfl
    have g5 : decide (((5 : Nat) : Int) = 5) = true := rfl
    simp only [hv]
    rw [if_neg (show ¬ 5 < 5 by decide), if_pos trivial]
    refine AC_of Tryz.func137 rfl Tryz.ntmps137 Tryz.results137 (by kernel_rfl) rfl ?_
    simp only [List.zipIdx, List.map, Nat.zero_add, Nat.reduceAdd]
    repeat (first | apply Aw_seq | apply Aw_block | apply Aw_skip | apply Aw_exit | refine Aw_condt rfl ?_ | refine Aw_condf rfl ?_ | ((first | refine qr ?_ | refine qd (by kernel_rfl) (by kernel_rfl) ?_); simp only [go_sem, reduceEqDiff, reduceIte, reduceAdd, reduceMul, reduceSub, reduceLT, reduceLeDiff, Nat.reduceBEq, g0, g1, g2, g3, g4, g5]) | refine dk (by kernel_rfl) ?_ | (refine qx (call_L (N' := [0]) (L := []) (k1) rfl (.cons (.nm rfl) (.cons (.nm rfl) (.nil))) (by decide) (by decide) (by decide) (by simp only [go_sem, reduceEqDiff, reduceIte, reduceAdd, reduceMul, reduceSub, reduceLT, reduceLeDiff, Nat.reduceBEq, g0, g1, g2, g3, g4, g5]; first | done | rfl) (.inl rfl) rfl (by decide)) (by simp only [go_sem, reduceEqDiff, reduceIte, reduceAdd, reduceMul, reduceSub, reduceLT, reduceLeDiff, Nat.reduceBEq, g0, g1, g2, g3, g4, g5]; first | done | rfl) rfl (by simp only [go_sem, Nat.reduceLT]) ?_; simp only [go_sem, reduceEqDiff, reduceIte, reduceAdd, reduceMul, reduceSub, reduceLT, reduceLeDiff, Nat.reduceBEq, g0, g1, g2, g3, g4, g5]) | (refine qx (call_L (N' := [0]) (L := []) (kn) rfl (.cons (.nm rfl) (.cons (.nm rfl) (.nil))) (by decide) (by decide) (by decide) (by simp only [go_sem, reduceEqDiff, reduceIte, reduceAdd, reduceMul, reduceSub, reduceLT, reduceLeDiff, Nat.reduceBEq, g0, g1, g2, g3, g4, g5]; first | done | rfl) (.inl rfl) rfl (by decide)) (by simp only [go_sem, reduceEqDiff, reduceIte, reduceAdd, reduceMul, reduceSub, reduceLT, reduceLeDiff, Nat.reduceBEq, g0, g1, g2, g3, g4, g5]; first | done | rfl) rfl (by simp only [go_sem, Nat.reduceLT]) ?_; simp only [go_sem, reduceEqDiff, reduceIte, reduceAdd, reduceMul, reduceSub, reduceLT, reduceLeDiff, Nat.reduceBEq, g0, g1, g2, g3, g4, g5]))
    exact Aw_ret (retL (M := [0]) (.inl rfl) (by simp only [go_sem, reduceEqDiff, reduceIte, reduceAdd, reduceMul, reduceSub, reduceLT, reduceLeDiff, Nat.reduceBEq]; first | done | rfl) rfl rfl (by rfl) (by simp only [go_sem, reduceEqDiff, reduceIte, reduceAdd, reduceMul, reduceSub, reduceLT, reduceLeDiff, Nat.reduceBEq]; first | done | rfl | (and_intros <;> rfl)) (by decide) (by intro m hm; first | omega | (rcases m with _ | _ | _ | _ | _ | _ | m <;> first | exact ⟨by decide, rfl⟩ | omega)))
  · rw [hv] at k1
    have g0 : decide (((6 : Nat) : Int) = 0) = false := rfl
    have g1 : decide (((6 : Nat) : Int) = 1) = false := rfl
    have g2 : decide (((6 : Nat) : Int) = 2) = false := rfl
    have g3 : decide (((6 : Nat) : Int) = 3) = false := rfl
    have g4 : decide (((6 : Nat) : Int) = 4) = false := rfl
    have g5 : decide (((6 : Nat) : Int) = 5) = false := rfl
    have g6 : decide (((6 : Nat) : Int) = 6) = true := rfl
    simp only [hv]
    rw [if_neg (show ¬ 6 < 5 by decide), if_neg (show ¬ (6 = 5) by decide), if_pos trivial]
    refine AC_of Tryz.func137 rfl Tryz.ntmps137 Tryz.results137 (by kernel_rfl) rfl ?_
    simp only [List.zipIdx, List.map, Nat.zero_add, Nat.reduceAdd]
    repeat (first | apply Aw_seq | apply Aw_block | apply Aw_skip | apply Aw_exit | refine Aw_condt rfl ?_ | refine Aw_condf rfl ?_ | ((first | refine qr ?_ | refine qd (by kernel_rfl) (by kernel_rfl) ?_); simp only [go_sem, reduceEqDiff, reduceIte, reduceAdd, reduceMul, reduceSub, reduceLT, reduceLeDiff, Nat.reduceBEq, g0, g1, g2, g3, g4, g5, g6]) | refine dk (by kernel_rfl) ?_ | (refine qx (call_L (N' := [0]) (L := []) (k1) rfl (.cons (.nm rfl) (.cons (.nm rfl) (.nil))) (by decide) (by decide) (by decide) (by simp only [go_sem, reduceEqDiff, reduceIte, reduceAdd, reduceMul, reduceSub, reduceLT, reduceLeDiff, Nat.reduceBEq, g0, g1, g2, g3, g4, g5, g6]; first | done | rfl) (.inl rfl) rfl (by decide)) (by simp only [go_sem, reduceEqDiff, reduceIte, reduceAdd, reduceMul, reduceSub, reduceLT, reduceLeDiff, Nat.reduceBEq, g0, g1, g2, g3, g4, g5, g6]; first | done | rfl) rfl (by simp only [go_sem, Nat.reduceLT]) ?_; simp only [go_sem, reduceEqDiff, reduceIte, reduceAdd, reduceMul, reduceSub, reduceLT, reduceLeDiff, Nat.reduceBEq, g0, g1, g2, g3, g4, g5, g6]))
    exact Aw_ret (retL (M := [0]) (.inl rfl) (by simp only [go_sem, reduceEqDiff, reduceIte, reduceAdd, reduceMul, reduceSub, reduceLT, reduceLeDiff, Nat.reduceBEq]; first | done | rfl) rfl rfl (by rfl) (by simp only [go_sem, reduceEqDiff, reduceIte, reduceAdd, reduceMul, reduceSub, reduceLT, reduceLeDiff, Nat.reduceBEq]; first | done | rfl | (and_intros <;> rfl)) (by decide) (by intro m hm; first | omega | (rcases m with _ | _ | _ | _ | _ | _ | m <;> first | exact ⟨by decide, rfl⟩ | omega)))
  · rw [hv] at k1
    have g0 : decide (((7 : Nat) : Int) = 0) = false := rfl
    have g1 : decide (((7 : Nat) : Int) = 1) = false := rfl
    have g2 : decide (((7 : Nat) : Int) = 2) = false := rfl
    have g3 : decide (((7 : Nat) : Int) = 3) = false := rfl
    have g4 : decide (((7 : Nat) : Int) = 4) = false := rfl
    have g5 : decide (((7 : Nat) : Int) = 5) = false := rfl
    have g6 : decide (((7 : Nat) : Int) = 6) = false := rfl
    have g7 : decide (((7 : Nat) : Int) = 7) = true := rfl
    simp only [hv]
    rw [if_neg (show ¬ 7 < 5 by decide), if_neg (show ¬ (7 = 5) by decide), if_neg (show ¬ (7 = 6) by decide), if_pos trivial]
    refine AC_of Tryz.func137 rfl Tryz.ntmps137 Tryz.results137 (by kernel_rfl) rfl ?_
    simp only [List.zipIdx, List.map, Nat.zero_add, Nat.reduceAdd]
    repeat (first | apply Aw_seq | apply Aw_block | apply Aw_skip | apply Aw_exit | refine Aw_condt rfl ?_ | refine Aw_condf rfl ?_ | ((first | refine qr ?_ | refine qd (by kernel_rfl) (by kernel_rfl) ?_); simp only [go_sem, reduceEqDiff, reduceIte, reduceAdd, reduceMul, reduceSub, reduceLT, reduceLeDiff, Nat.reduceBEq, g0, g1, g2, g3, g4, g5, g6, g7]) | refine dk (by kernel_rfl) ?_ | (refine qx (call_L (N' := [0]) (L := []) (k1) rfl (.cons (.nm rfl) (.cons (.nm rfl) (.nil))) (by decide) (by decide) (by decide) (by simp only [go_sem, reduceEqDiff, reduceIte, reduceAdd, reduceMul, reduceSub, reduceLT, reduceLeDiff, Nat.reduceBEq, g0, g1, g2, g3, g4, g5, g6, g7]; first | done | rfl) (.inl rfl) rfl (by decide)) (by simp only [go_sem, reduceEqDiff, reduceIte, reduceAdd, reduceMul, reduceSub, reduceLT, reduceLeDiff, Nat.reduceBEq, g0, g1, g2, g3, g4, g5, g6, g7]; first | done | rfl) rfl (by simp only [go_sem, Nat.reduceLT]) ?_; simp only [go_sem, reduceEqDiff, reduceIte, reduceAdd, reduceMul, reduceSub, reduceLT, reduceLeDiff, Nat.reduceBEq, g0, g1, g2, g3, g4, g5, g6, g7]) | (refine qx (call_L (N' := [0]) (L := []) (k3) rfl (.cons (.nm rfl) (.cons (.nm rfl) (.nil))) (by decide) (by decide) (by decide) (by simp only [go_sem, reduceEqDiff, reduceIte, reduceAdd, reduceMul, reduceSub, reduceLT, reduceLeDiff, Nat.reduceBEq, g0, g1, g2, g3, g4, g5, g6, g7]; first | done | rfl) (.inl rfl) rfl (by decide)) (by simp only [go_sem, reduceEqDiff, reduceIte, reduceAdd, reduceMul, reduceSub, reduceLT, reduceLeDiff, Nat.reduceBEq, g0, g1, g2, g3, g4, g5, g6, g7]; first | done | rfl) rfl (by simp only [go_sem, Nat.reduceLT]) ?_; simp only [go_sem, reduceEqDiff, reduceIte, reduceAdd, reduceMul, reduceSub, reduceLT, reduceLeDiff, Nat.reduceBEq, g0, g1, g2, g3, g4, g5, g6, g7]))
    exact Aw_ret (retL (M := [0]) (.inl rfl) (by simp only [go_sem, reduceEqDiff, reduceIte, reduceAdd, reduceMul, reduceSub, reduceLT, reduceLeDiff, Nat.reduceBEq]; first | done | rfl) rfl rfl (by rfl) (by simp only [go_sem, reduceEqDiff, reduceIte, reduceAdd, reduceMul, reduceSub, reduceLT, reduceLeDiff, Nat.reduceBEq]; first | done | rfl | (and_intros <;> rfl)) (by decide) (by intro m hm; first | omega | (rcases m with _ | _ | _ | _ | _ | _ | m <;> first | exact ⟨by decide, rfl⟩ | omega)))
  · rw [hv] at k1
    have g0 : decide (((8 : Nat) : Int) = 0) = false := rfl
    have g1 : decide (((8 : Nat) : Int) = 1) = false := rfl
    have g2 : decide (((8 : Nat) : Int) = 2) = false := rfl
    have g3 : decide (((8 : Nat) : Int) = 3) = false := rfl
    have g4 : decide (((8 : Nat) : Int) = 4) = false := rfl
    have g5 : decide (((8 : Nat) : Int) = 5) = false := rfl
    have g6 : decide (((8 : Nat) : Int) = 6) = false := rfl
    have g7 : decide (((8 : Nat) : Int) = 7) = false := rfl
    have g8 : decide (((8 : Nat) : Int) = 8) = true := rfl
    simp only [hv]
    rw [if_neg (show ¬ 8 < 5 by decide), if_neg (show ¬ (8 = 5) by decide), if_neg (show ¬ (8 = 6) by decide), if_neg (show ¬ (8 = 7) by decide), if_pos trivial]
    refine AC_of Tryz.func137 rfl Tryz.ntmps137 Tryz.results137 (by kernel_rfl) rfl ?_
    simp only [List.zipIdx, List.map, Nat.zero_add, Nat.reduceAdd]
    repeat (first | apply Aw_seq | apply Aw_block | apply Aw_skip | apply Aw_exit | refine Aw_condt rfl ?_ | refine Aw_condf rfl ?_ | ((first | refine qr ?_ | refine qd (by kernel_rfl) (by kernel_rfl) ?_); simp only [go_sem, reduceEqDiff, reduceIte, reduceAdd, reduceMul, reduceSub, reduceLT, reduceLeDiff, Nat.reduceBEq, g0, g1, g2, g3, g4, g5, g6, g7, g8]) | refine dk (by kernel_rfl) ?_ | (refine qx (call_L (N' := [0]) (L := []) (k1) rfl (.cons (.nm rfl) (.cons (.nm rfl) (.nil))) (by decide) (by decide) (by decide) (by simp only [go_sem, reduceEqDiff, reduceIte, reduceAdd, reduceMul, reduceSub, reduceLT, reduceLeDiff, Nat.reduceBEq, g0, g1, g2, g3, g4, g5, g6, g7, g8]; first | done | rfl) (.inl rfl) rfl (by decide)) (by simp only [go_sem, reduceEqDiff, reduceIte, reduceAdd, reduceMul, reduceSub, reduceLT, reduceLeDiff, Nat.reduceBEq, g0, g1, g2, g3, g4, g5, g6, g7, g8]; first | done | rfl) rfl (by simp only [go_sem, Nat.reduceLT]) ?_; simp only [go_sem, reduceEqDiff, reduceIte, reduceAdd, reduceMul, reduceSub, reduceLT, reduceLeDiff, Nat.reduceBEq, g0, g1, g2, g3, g4, g5, g6, g7, g8]))
    exact Aw_ret (retL (M := [0]) (.inl rfl) (by simp only [go_sem, reduceEqDiff, reduceIte, reduceAdd, reduceMul, reduceSub, reduceLT, reduceLeDiff, Nat.reduceBEq]; first | done | rfl) rfl rfl (by rfl) (by simp only [go_sem, reduceEqDiff, reduceIte, reduceAdd, reduceMul, reduceSub, reduceLT, reduceLeDiff, Nat.reduceBEq]; first | done | rfl | (and_intros <;> rfl)) (by decide) (by intro m hm; first | omega | (rcases m with _ | _ | _ | _ | _ | _ | m <;> first | exact ⟨by decide, rfl⟩ | omega)))
  · rw [hv] at k1
    have g0 : decide (((9 : Nat) : Int) = 0) = false := rfl
    have g1 : decide (((9 : Nat) : Int) = 1) = false := rfl
    have g2 : decide (((9 : Nat) : Int) = 2) = false := rfl
    have g3 : decide (((9 : Nat) : Int) = 3) = false := rfl
    have g4 : decide (((9 : Nat) : Int) = 4) = false := rfl
    have g5 : decide (((9 : Nat) : Int) = 5) = false := rfl
    have g6 : decide (((9 : Nat) : Int) = 6) = false := rfl
    have g7 : decide (((9 : Nat) : Int) = 7) = false := rfl
    have g8 : decide (((9 : Nat) : Int) = 8) = false := rfl
    simp only [hv]
    rw [if_neg (show ¬ 9 < 5 by decide), if_neg (show ¬ (9 = 5) by decide), if_neg (show ¬ (9 = 6) by decide), if_neg (show ¬ (9 = 7) by decide), if_neg (show ¬ (9 = 8) by decide)]
    refine AC_of Tryz.func137 rfl Tryz.ntmps137 Tryz.results137 (by kernel_rfl) rfl ?_
    simp only [List.zipIdx, List.map, Nat.zero_add, Nat.reduceAdd]
    repeat (first | apply Aw_seq | apply Aw_block | apply Aw_skip | apply Aw_exit | refine Aw_condt rfl ?_ | refine Aw_condf rfl ?_ | ((first | refine qr ?_ | refine qd (by kernel_rfl) (by kernel_rfl) ?_); simp only [go_sem, reduceEqDiff, reduceIte, reduceAdd, reduceMul, reduceSub, reduceLT, reduceLeDiff, Nat.reduceBEq, g0, g1, g2, g3, g4, g5, g6, g7, g8]) | refine dk (by kernel_rfl) ?_ | (refine qx (call_L (N' := [0]) (L := []) (k1) rfl (.cons (.nm rfl) (.cons (.nm rfl) (.nil))) (by decide) (by decide) (by decide) (by simp only [go_sem, reduceEqDiff, reduceIte, reduceAdd, reduceMul, reduceSub, reduceLT, reduceLeDiff, Nat.reduceBEq, g0, g1, g2, g3, g4, g5, g6, g7, g8]; first | done | rfl) (.inl rfl) rfl (by decide)) (by simp only [go_sem, reduceEqDiff, reduceIte, reduceAdd, reduceMul, reduceSub, reduceLT, reduceLeDiff, Nat.reduceBEq, g0, g1, g2, g3, g4, g5, g6, g7, g8]; first | done | rfl) rfl (by simp only [go_sem, Nat.reduceLT]) ?_; simp only [go_sem, reduceEqDiff, reduceIte, reduceAdd, reduceMul, reduceSub, reduceLT, reduceLeDiff, Nat.reduceBEq, g0, g1, g2, g3, g4, g5, g6, g7, g8]) | (refine qx (call_L (N' := [0]) (L := []) (k4) rfl (.cons (.nm rfl) (.cons (.nm rfl) (.nil))) (by decide) (by decide) (by decide) (by simp only [go_sem, reduceEqDiff, reduceIte, reduceAdd, reduceMul, reduceSub, reduceLT, reduceLeDiff, Nat.reduceBEq, g0, g1, g2, g3, g4, g5, g6, g7, g8]; first | done | rfl) (.inl rfl) rfl (by decide)) (by simp only [go_sem, reduceEqDiff, reduceIte, reduceAdd, reduceMul, reduceSub, reduceLT, reduceLeDiff, Nat.reduceBEq, g0, g1, g2, g3, g4, g5, g6, g7, g8]; first | done | rfl) rfl (by simp only [go_sem, Nat.reduceLT]) ?_; simp only [go_sem, reduceEqDiff, reduceIte, reduceAdd, reduceMul, reduceSub, reduceLT, reduceLeDiff, Nat.reduceBEq, g0, g1, g2, g3, g4, g5, g6, g7, g8]))
    exact Aw_ret (retL (M := [0]) (.inl rfl) (by simp only [go_sem, reduceEqDiff, reduceIte, reduceAdd, reduceMul, reduceSub, reduceLT, reduceLeDiff, Nat.reduceBEq]; first | done | rfl) rfl rfl (by rfl) (by simp only [go_sem, reduceEqDiff, reduceIte, reduceAdd, reduceMul, reduceSub, reduceLT, reduceLeDiff, Nat.reduceBEq]; first | done | rfl | (and_intros <;> rfl)) (by decide) (by intro m hm; first | omega | (rcases m with _ | _ | _ | _ | _ | _ | m <;> first | exact ⟨by decide, rfl⟩ | omega)))
noncomputable def deedsL (b : List Int) (l : List ByteArray) : Nat → List Deed → Nat → List Deed × Nat
  | 0, o, p => (o, p)
  | n + 1, o, p => deedsL b l n (o ++ [(deedV b p l).1]) (deedV b p l).2
theorem deedsL_fin {b : List Int} (hb : byteL b) {l : List ByteArray} (hl : l.length ≤ 1000) (hs : ∀ s ∈ l, s.size ≤ 5) : ∀ (n : Nat) (o : List Deed) (p : Nat), p + 9 * n ≤ 500000 → o.length + n ≤ 1000 → (∀ d ∈ o, d.key.size ≤ 5) → (deedsL b l n o p).1.length = o.length + n ∧ (∀ d ∈ (deedsL b l n o p).1, d.key.size ≤ 5) ∧ (deedsL b l n o p).2 ≤ p + 9 * n
  | 0, o, p, _, _, h => ⟨by simp [deedsL], h, by simp [deedsL]⟩
  | n + 1, o, p, h1, h2, h3 => by
    obtain ⟨a1, a2⟩ := deedV_fin hb (p := p) (l := l) (by omega) hl hs
    obtain ⟨c1, c2, c3⟩ := deedsL_fin hb hl hs n (o ++ [(deedV b p l).1]) (deedV b p l).2 (by omega) (by simp; omega) (fun d hd => by
      rcases List.mem_append.1 hd with h | h
      · exact h3 d h
      · obtain rfl : d = (deedV b p l).1 := by simpa using h
        exact a1)
    simp only [List.length_append, List.length_cons, List.length_nil] at c1
    exact ⟨by simp only [deedsL]; omega, by simp only [deedsL]; exact c2, by simp only [deedsL]; omega⟩
def xTxt : ByteArray := bs [120]
noncomputable def deedsV (b : List Int) (p : Nat) (most : Nat) : List Deed × Nat :=
  let K := keysV b p 5
  let n := pickV b K.2 ((most + 1 : Nat) : Int)
  let r := deedsL b K.1 n [] (K.2 + 1)
  if pickV b r.2 24 = 0 then (r.1 ++ [⟨IntKind.i64.wrap (((pickV b (r.2 + 1) 9 : Nat) : Int) - 1), xTxt, -1⟩], r.2 + 2) else (r.1, r.2 + 1)
theorem deedsV_fin {b : List Int} (hb : byteL b) {p most : Nat} (hp : p ≤ 100000) (hm : most ≤ 100) : (deedsV b p most).1.length ≤ most + 1 ∧ (∀ d ∈ (deedsV b p most).1, d.key.size ≤ 5) ∧ (deedsV b p most).2 ≤ p + 2000 := by
  obtain ⟨a1, a2, a3⟩ := keysV_fin hb (p := p) (most := 5) (by omega) (by omega)
  have h1 := pickV_lt (n := ((most + 1 : Nat) : Int)) hb (show (keysV b p 5).2 ≤ 1000000 by omega) (by omega) (by omega)
  obtain ⟨c1, c2, c3⟩ := deedsL_fin hb (l := (keysV b p 5).1) (by omega) a2 (pickV b (keysV b p 5).2 ((most + 1 : Nat) : Int)) [] ((keysV b p 5).2 + 1) (by omega) (by show 0 + _ ≤ _; omega) (by simp)
  rw [show ([] : List Deed).length = 0 from rfl] at c1
  unfold deedsV
  dsimp only
  split
  · refine ⟨by simp only [List.length_append, List.length_cons, List.length_nil]; omega, fun d hd => ?_, by dsimp only; omega⟩
    rcases List.mem_append.1 hd with h | h
    · exact c2 d h
    · obtain rfl := by simpa using h
      show xTxt.size ≤ 5
      decide
  · exact ⟨by dsimp only; omega, c2, by dsimp only; omega⟩
def dsRow (ds : List Deed) : Obj := dRow 162 3 (ds.map deedD)
@[go_sem] theorem r_dsRow (ds : List Deed) : dsRow ds = dRow 162 3 (ds.map deedD) := rfl
structure DsI (b : List Int) (l : List ByteArray) (R : List Deed × Nat) where
  n : Nat
  o : List Deed
  p : Nat
  hn : o.length + n ≤ 1000
  hp : p + 9 * n ≤ 500000
  h : deedsL b l n o p = R
theorem l71Deeds_ac {b : List Int} {p most : Nat} (hb : byteL b) (hp : p ≤ 100000) (hm : most ≤ 100) : AC Tryz.prog 118 [.c (.ph 0 0 0), iT most] (hpL [some (rdO b p)]) 1 ⟨.t (.c (.h 1)), hpL [some (rdO b (deedsV b p most).2), some (dsRow (deedsV b p most).1)], 2⟩ := by
  refine AC_of Tryz.func118 rfl Tryz.ntmps118 Tryz.results118 (by kernel_rfl) rfl ?_
  simp only [List.zipIdx, List.map, Nat.zero_add, Nat.reduceAdd]
  have w0 : IntKind.i64.wrap ((most : Int) + 1) = ((most + 1 : Nat) : Int) := wn (by omega) (by omega)
  obtain ⟨a1, a2, a3⟩ := keysV_fin hb (p := p) (most := 5) (by omega) (by omega)
  have kk := l71Keys_ac (most := 5) hb (show p ≤ 600000 by omega) (by omega)
  rw [show ((5 : Nat) : Int) = 5 from rfl] at kk
  have k := pickV_ac (n := ((most + 1 : Nat) : Int)) hb (show (keysV b p 5).2 ≤ 1000000 by omega) (by omega)
  have h6 := pickV_lt (n := ((most + 1 : Nat) : Int)) hb (show (keysV b p 5).2 ≤ 1000000 by omega) (by omega) (by omega)
  obtain ⟨R, hR⟩ : ∃ R, R = deedsL b (keysV b p 5).1 (pickV b (keysV b p 5).2 ((most + 1 : Nat) : Int)) [] ((keysV b p 5).2 + 1) := ⟨_, rfl⟩
  obtain ⟨c1, c2, c3⟩ := deedsL_fin hb (l := (keysV b p 5).1) (by omega) a2 (pickV b (keysV b p 5).2 ((most + 1 : Nat) : Int)) [] ((keysV b p 5).2 + 1) (by omega) (by show 0 + _ ≤ _; omega) (by simp)
  rw [← hR] at c1 c2 c3
  rw [show ([] : List Deed).length = 0 from rfl] at c1
  have hV : deedsV b p most = if pickV b R.2 24 = 0 then (R.1 ++ [⟨IntKind.i64.wrap (((pickV b (R.2 + 1) 9 : Nat) : Int) - 1), xTxt, -1⟩], R.2 + 2) else (R.1, R.2 + 1) := by rw [hR]; rfl
  rw [hV]
  repeat (first | apply Aw_seq | apply Aw_block | apply Aw_skip | apply Aw_exit | refine Aw_condt rfl ?_ | refine Aw_condf rfl ?_ | ((first | refine qr ?_ | refine qd (by kernel_rfl) (by kernel_rfl) ?_); simp only [go_sem, reduceEqDiff, reduceIte, reduceAdd, reduceMul, reduceSub, reduceLT, reduceLeDiff, Nat.reduceBEq, w0]) | refine dk (by kernel_rfl) ?_ | (refine qx (call_L (N' := [0]) (L := []) (kk) rfl (.cons (.nm rfl) (.cons (.nm rfl) (.nil))) (by decide) (by decide) (by decide) (by simp only [go_sem, reduceEqDiff, reduceIte, reduceAdd, reduceMul, reduceSub, reduceLT, reduceLeDiff, Nat.reduceBEq, w0]; first | done | rfl) (.inl rfl) rfl (by decide)) (by simp only [go_sem, reduceEqDiff, reduceIte, reduceAdd, reduceMul, reduceSub, reduceLT, reduceLeDiff, Nat.reduceBEq, w0]; first | done | rfl) rfl (by simp only [go_sem, Nat.reduceLT]) ?_; simp only [go_sem, reduceEqDiff, reduceIte, reduceAdd, reduceMul, reduceSub, reduceLT, reduceLeDiff, Nat.reduceBEq, w0]) | (refine qx (call_L (N' := [0]) (L := []) (k) rfl (.cons (.nm rfl) (.cons (.nm rfl) (.nil))) (by decide) (by decide) (by decide) (by simp only [go_sem, reduceEqDiff, reduceIte, reduceAdd, reduceMul, reduceSub, reduceLT, reduceLeDiff, Nat.reduceBEq, w0]; first | done | rfl) (.inl rfl) rfl (by decide)) (by simp only [go_sem, reduceEqDiff, reduceIte, reduceAdd, reduceMul, reduceSub, reduceLT, reduceLeDiff, Nat.reduceBEq, w0]; first | done | rfl) rfl (by simp only [go_sem, Nat.reduceLT]) ?_; simp only [go_sem, reduceEqDiff, reduceIte, reduceAdd, reduceMul, reduceSub, reduceLT, reduceLeDiff, Nat.reduceBEq, w0]))
  refine Aw.rw (rwL (l' := [(7, .t (iT (pickV b (keysV b p 5).2 ((most + 1 : Nat) : Int) : Nat))), (6, .t (.c (.h 1))), (5, .t (strsT (keysV b p 5).1)), (0, .t (.c (.ph 0 0 0)))]) (os := [some (rdO b ((keysV b p 5).2 + 1)), some (dsRow [])]) (M := [0, 4]) (n' := 2) (by repeat (first | exact trivial | refine ⟨rfl, rfl, ?_⟩)) (by rfl) (by simp only [go_sem, reduceEqDiff, reduceIte, reduceAdd, reduceMul, reduceSub, reduceLT, reduceLeDiff, Nat.reduceBEq, List.map_nil]; first | done | rfl) (by decide) (by intro m hm; first | omega | (rcases m with _ | _ | _ | _ | _ | _ | m <;> first | exact ⟨by decide, rfl⟩ | omega))) ?_
  refine Aw_loop_rw (ι := DsI b (keysV b p 5).1 R) (fun q => S [(7, .t (iT (q.n : Nat))), (6, .t (.c (.h 1))), (5, .t (strsT (keysV b p 5).1)), (0, .t (.c (.ph 0 0 0)))] (hpL [some (rdO b q.p), some (dsRow q.o)]) 2) (fun q => q.n) ⟨pickV b (keysV b p 5).2 ((most + 1 : Nat) : Int), [], (keysV b p 5).2 + 1, by show 0 + _ ≤ _; omega, by omega, hR.symm⟩ ?_
  rintro ⟨n, o, q, hn, hq, h⟩
  dsimp only
  rcases n with _ | n
  · have g1 : decide ((0 : Int) < ((0 : Nat) : Int)) = false := rfl
    have ho : R = (o, q) := h.symm
    rw [ho]
    rw [ho] at c1 c2 c3
    dsimp only at c1 c2 c3 ⊢
    have k24 := pickV_ac (n := 24) hb (show q ≤ 1000000 by omega) (by omega)
    by_cases c : pickV b q 24 = 0
    · have g2 : decide (((pickV b q 24 : Nat) : Int) = 0) = true := decide_eq_true (by omega)
      have k9 := pickV_ac (n := 9) hb (show q + 1 ≤ 1000000 by omega) (by omega)
      have hap : (o.length + 1) * 32 ≤ 140737488355328 := by omega
      rw [if_pos c]
      dsimp only
      repeat (first | apply Aw_seq | apply Aw_block | apply Aw_skip | apply Aw_exit | refine Aw_condt rfl ?_ | refine Aw_condf rfl ?_ | ((first | refine qr ?_ | refine qd (by kernel_rfl) (by kernel_rfl) ?_); simp only [go_sem, reduceEqDiff, reduceIte, reduceAdd, reduceMul, reduceSub, reduceLT, reduceLeDiff, Nat.reduceBEq, g1, g2, hap, xTxt]) | refine dk (by kernel_rfl) ?_ | (refine qx (call_L (N' := [0]) (L := []) (k24) rfl (.cons (.nm rfl) (.cons (.nm rfl) (.nil))) (by decide) (by decide) (by decide) (by simp only [go_sem, reduceEqDiff, reduceIte, reduceAdd, reduceMul, reduceSub, reduceLT, reduceLeDiff, Nat.reduceBEq, g1, g2, hap, xTxt]; first | done | rfl) (.inl rfl) rfl (by decide)) (by simp only [go_sem, reduceEqDiff, reduceIte, reduceAdd, reduceMul, reduceSub, reduceLT, reduceLeDiff, Nat.reduceBEq, g1, g2, hap, xTxt]; first | done | rfl) rfl (by simp only [go_sem, Nat.reduceLT]) ?_; simp only [go_sem, reduceEqDiff, reduceIte, reduceAdd, reduceMul, reduceSub, reduceLT, reduceLeDiff, Nat.reduceBEq, g1, g2, hap, xTxt]) | (refine qx (call_L (N' := [0]) (L := []) (k9) rfl (.cons (.nm rfl) (.cons (.nm rfl) (.nil))) (by decide) (by decide) (by decide) (by simp only [go_sem, reduceEqDiff, reduceIte, reduceAdd, reduceMul, reduceSub, reduceLT, reduceLeDiff, Nat.reduceBEq, g1, g2, hap, xTxt]; first | done | rfl) (.inl rfl) rfl (by decide)) (by simp only [go_sem, reduceEqDiff, reduceIte, reduceAdd, reduceMul, reduceSub, reduceLT, reduceLeDiff, Nat.reduceBEq, g1, g2, hap, xTxt]; first | done | rfl) rfl (by simp only [go_sem, Nat.reduceLT]) ?_; simp only [go_sem, reduceEqDiff, reduceIte, reduceAdd, reduceMul, reduceSub, reduceLT, reduceLeDiff, Nat.reduceBEq, g1, g2, hap, xTxt]))
      exact Aw_ret (retL (M := [0, 11]) (.inl rfl) (by simp only [go_sem, reduceEqDiff, reduceIte, reduceAdd, reduceMul, reduceSub, reduceLT, reduceLeDiff, Nat.reduceBEq]; first | done | rfl) rfl rfl (by rfl) (by simp only [go_sem, reduceEqDiff, reduceIte, reduceAdd, reduceMul, reduceSub, reduceLT, reduceLeDiff, Nat.reduceBEq, List.map_append, List.map_cons, List.map_nil, xTxt]; first | done | rfl | (and_intros <;> rfl)) (by decide) (by intro m hm; first | omega | (rcases m with _ | _ | _ | _ | _ | _ | m <;> first | exact ⟨by decide, rfl⟩ | omega)))
    · have g2 : decide (((pickV b q 24 : Nat) : Int) = 0) = false := decide_eq_false (by omega)
      rw [if_neg c]
      dsimp only
      repeat (first | apply Aw_seq | apply Aw_block | apply Aw_skip | apply Aw_exit | refine Aw_condt rfl ?_ | refine Aw_condf rfl ?_ | ((first | refine qr ?_ | refine qd (by kernel_rfl) (by kernel_rfl) ?_); simp only [go_sem, reduceEqDiff, reduceIte, reduceAdd, reduceMul, reduceSub, reduceLT, reduceLeDiff, Nat.reduceBEq, g1, g2]) | refine dk (by kernel_rfl) ?_ | (refine qx (call_L (N' := [0]) (L := []) (k24) rfl (.cons (.nm rfl) (.cons (.nm rfl) (.nil))) (by decide) (by decide) (by decide) (by simp only [go_sem, reduceEqDiff, reduceIte, reduceAdd, reduceMul, reduceSub, reduceLT, reduceLeDiff, Nat.reduceBEq, g1, g2]; first | done | rfl) (.inl rfl) rfl (by decide)) (by simp only [go_sem, reduceEqDiff, reduceIte, reduceAdd, reduceMul, reduceSub, reduceLT, reduceLeDiff, Nat.reduceBEq, g1, g2]; first | done | rfl) rfl (by simp only [go_sem, Nat.reduceLT]) ?_; simp only [go_sem, reduceEqDiff, reduceIte, reduceAdd, reduceMul, reduceSub, reduceLT, reduceLeDiff, Nat.reduceBEq, g1, g2]))
      exact Aw_ret (retL (M := [0, 1]) (.inl rfl) (by simp only [go_sem, reduceEqDiff, reduceIte, reduceAdd, reduceMul, reduceSub, reduceLT, reduceLeDiff, Nat.reduceBEq]; first | done | rfl) rfl rfl (by rfl) (by simp only [go_sem, reduceEqDiff, reduceIte, reduceAdd, reduceMul, reduceSub, reduceLT, reduceLeDiff, Nat.reduceBEq]; first | done | rfl | (and_intros <;> rfl)) (by decide) (by intro m hm; first | omega | (rcases m with _ | _ | _ | _ | _ | _ | m <;> first | exact ⟨by decide, rfl⟩ | omega)))
  · have g1 : decide ((0 : Int) < ((n + 1 : Nat) : Int)) = true := decide_eq_true (by omega)
    have w1 : IntKind.i64.wrap (((n + 1 : Nat) : Int) - 1) = (n : Int) := wn (by omega) (by omega)
    have kd := l71Deed_ac (l := (keysV b p 5).1) hb (show q ≤ 500000 by omega) (by omega) a2
    have hd := deedV_fin hb (p := q) (l := (keysV b p 5).1) (by omega) (by omega) a2
    have hap : (o.length + 1) * 32 ≤ 140737488355328 := by omega
    repeat (first | apply Aw_seq | apply Aw_block | apply Aw_skip | apply Aw_exit | refine Aw_condt rfl ?_ | refine Aw_condf rfl ?_ | ((first | refine qr ?_ | refine qd (by kernel_rfl) (by kernel_rfl) ?_); simp only [go_sem, reduceEqDiff, reduceIte, reduceAdd, reduceMul, reduceSub, reduceLT, reduceLeDiff, Nat.reduceBEq, g1, w1, hap]) | refine dk (by kernel_rfl) ?_ | (refine qx (call_L (N' := [0]) (L := []) (kd) rfl (.cons (.nm rfl) (.cons (.nm rfl) (.nil))) (by decide) (by decide) (by decide) (by simp only [go_sem, reduceEqDiff, reduceIte, reduceAdd, reduceMul, reduceSub, reduceLT, reduceLeDiff, Nat.reduceBEq, g1, w1, hap]; first | done | rfl) (.inl rfl) rfl (by decide)) (by simp only [go_sem, reduceEqDiff, reduceIte, reduceAdd, reduceMul, reduceSub, reduceLT, reduceLeDiff, Nat.reduceBEq, g1, w1, hap]; first | done | rfl) rfl (by simp only [go_sem, Nat.reduceLT]) ?_; simp only [go_sem, reduceEqDiff, reduceIte, reduceAdd, reduceMul, reduceSub, reduceLT, reduceLeDiff, Nat.reduceBEq, g1, w1, hap]))
    refine ⟨⟨n, o ++ [(deedV b q (keysV b p 5).1).1], (deedV b q (keysV b p 5).1).2, by simp; omega, by omega, h⟩, [0, 8], ?_, rwL (by repeat (first | exact trivial | refine ⟨rfl, rfl, ?_⟩)) (by rfl) (by simp only [go_sem, reduceEqDiff, reduceIte, reduceAdd, reduceMul, reduceSub, reduceLT, reduceLeDiff, Nat.reduceBEq, List.map_append, List.map_cons, List.map_nil]; first | done | rfl) (by decide) (by intro m hm; first | omega | (rcases m with _ | _ | _ | _ | _ | _ | m <;> first | exact ⟨by decide, rfl⟩ | omega))⟩
    show n < n + 1; omega
theorem eSto_st (keep : Int) : SmSt (eSto keep) := ⟨smR_nil, fun r hr => by simp [eSto] at hr; subst hr; exact smR_nil, by simp [eSto], by simp [eSto], fun x hx => by simp [eSto] at hx; subst hx; simp [eSve], by simp [eSto]⟩
theorem l71DeedsS_ac {b : List Int} {p most : Nat} (hb : byteL b) (hp : p ≤ 100000) (hm : most ≤ 100) : AC Tryz.prog 118 [.c (.ph 0 0 0), iT most] (hpL [some (rdO b p)]) 1 ⟨.t (deedsT (deedsV b p most).1), hpL [some (rdO b (deedsV b p most).2), none], 2⟩ :=
  AC.setS [1] (l71Deeds_ac hb hp hm) (SetC.row0 rfl rfl) ⟨.inl rfl, rfl, trivial⟩
/-- How much a drawn store's sieves keep. -/
def kpN : Nat → Nat
  | 0 => 0
  | 1 => 1
  | 2 => 1
  | 3 => 2
  | _ => 5
theorem kpN_le : ∀ n, kpN n ≤ 5
  | 0 => by decide
  | 1 => by decide
  | 2 => by decide
  | 3 => by decide
  | n + 4 => Nat.le_refl 5
noncomputable def stoV (b : List Int) (p : Nat) : Sto × Nat := ((pastTo (eSto (kpN (pickV b p 5) : Nat)) (deedsV b (p + 1) 30).1 (deedsV b (p + 1) 30).1.length).1, (deedsV b (p + 1) 30).2)
abbrev hT1 (s : Sto) : TV := .agg [.h 3, .h 1, .h 2, .d (.s (.int .i64 s.keep)), .d (.s (.int .i64 s.time)), .h 4]
theorem sveEq_refl (x : Sve) : sveEq x x = true := by unfold sveEq; simp
theorem eSto_ok {k : Nat} (hk : k ≤ 5) : storeS (eSto (k : Nat)) = true := by
  have h0 : sieveM (keysM []) (k : Int) = some (eSve k) := by rw [keysM_nil]; exact sieve_nil hk
  have hl : ∀ i, i < 3 → sAt (eSto (k : Nat)) i = true := by
    intro i hi
    have lv : lvM (k : Int) i [] (eSve k) = true := by
      unfold lvM
      rw [h0]
      have : runOk [] = true := rfl
      rw [this]
      simp [sveEq_refl]
    have nw : newestM [] [] 0 = true := rfl
    have sp : ∀ j, j < 3 → (decide (j ≤ i) || sPair (eSto (k : Nat)) i j) = true := by
      intro j hj
      have : sPair (eSto (k : Nat)) i j = true := by
        match i, hi, j, hj with
        | 0, _, 0, _ => rfl
        | 0, _, 1, _ => rfl
        | 0, _, 2, _ => rfl
        | 1, _, 0, _ => rfl
        | 1, _, 1, _ => rfl
        | 1, _, 2, _ => rfl
        | 2, _, 0, _ => rfl
        | 2, _, 1, _ => rfl
        | 2, _, 2, _ => rfl
      rw [this]; simp
    unfold sAt
    rw [allI_t sp]
    match i, hi with
    | 0, _ => simpa [eSto] using ⟨lv, nw⟩
    | 1, _ => simpa [eSto] using ⟨lv, nw⟩
    | 2, _ => simpa [eSto] using ⟨lv, nw⟩
  unfold storeS
  rw [allI_t hl]
  unfold headS
  have h1 : inB 0 (k : Int) 5 = true := inKeep hk
  simp only [eSto, h1]
  rfl
theorem l71Store_ac {b : List Int} {p : Nat} (hb : byteL b) (hp : p ≤ 90000) : AC Tryz.prog 80 [.c (.ph 0 0 0)] (hpL [some (rdO b p)]) 1 ⟨.t (hT1 (stoV b p).1), hpL [some (rdO b (stoV b p).2), some (lvRow (stoV b p).1.levels), some (svRow (stoV b p).1.sieves), some (eRow (stoV b p).1.top), some (tmRow (stoV b p).1.times)], 5⟩ := by
  refine AC_of Tryz.func80 rfl Tryz.ntmps80 Tryz.results80 (by kernel_rfl) rfl ?_
  simp only [List.zipIdx, List.map, Nat.zero_add, Nat.reduceAdd]
  obtain ⟨d1, d2, d3⟩ := deedsV_fin hb (p := p + 1) (most := 30) (by omega) (by omega)
  have k5 := pickV_ac (n := 5) hb (show p ≤ 1000000 by omega) (by omega)
  have h5 := pickV_lt (n := 5) hb (show p ≤ 1000000 by omega) (by omega) (by omega)
  obtain ⟨v, hv⟩ : ∃ v, v = pickV b p 5 := ⟨_, rfl⟩
  rw [← hv] at k5 h5
  have k1 := sstoreNew_ok (kpN v) (kpN_le v)
  have kd := l71DeedsS_ac (p := p + 1) (most := 30) hb (by omega) (by omega)
  rw [show ((30 : Nat) : Int) = 30 from rfl] at kd
  have kp := pastDo_ac (eSto (kpN v : Nat)) (deedsV b (p + 1) 30).1 (eSto_st _) (eSto_ok (kpN_le v)) ⟨fun d hd => by have := d2 d hd; unfold smK; omega⟩ (by omega)
  unfold stoV
  rw [← hv]
  dsimp only
  generalize (pastTo (eSto (kpN v : Nat)) (deedsV b (p + 1) 30).1 (deedsV b (p + 1) 30).1.length).1 = x at kp ⊢
  have hx : ([[.d (.s (.int .i64 0))], [.d (.s (.int .i64 1))], [.d (.s (.int .i64 1))], [.d (.s (.int .i64 2))], [.d (.s (.int .i64 5))]] : List (List CV))[v]? = some [.d (.s (.int .i64 (kpN v : Nat)))] := by
    match v, h5 with
    | 0, _ => rfl
    | 1, _ => rfl
    | 2, _ => rfl
    | 3, _ => rfl
    | 4, _ => rfl
  have hlt : v < 5 := by omega
  repeat (first | apply Aw_seq | apply Aw_block | apply Aw_skip | apply Aw_exit | refine Aw_condt rfl ?_ | refine Aw_condf rfl ?_ | ((first | refine qr ?_ | refine qd (by kernel_rfl) (by kernel_rfl) ?_); simp only [go_sem, reduceEqDiff, reduceIte, reduceAdd, reduceMul, reduceSub, reduceLT, reduceLeDiff, Nat.reduceBEq, hx, hlt]) | refine dk (by kernel_rfl) ?_ | (refine qp (k1) (by simp only [go_sem, reduceEqDiff, reduceIte, reduceAdd, reduceMul, reduceSub, reduceLT, reduceLeDiff, Nat.reduceBEq, hx, hlt]; first | done | rfl) rfl (by simp only [go_sem, Nat.reduceLT]) rfl rfl ?_; simp only [go_sem, reduceEqDiff, reduceIte, reduceAdd, reduceMul, reduceSub, reduceLT, reduceLeDiff, Nat.reduceBEq, hx, hlt]) | (refine qx (call_L (N' := [0]) (L := []) (k5) rfl (.cons (.nm rfl) (.cons (.nm rfl) (.nil))) (by decide) (by decide) (by decide) (by simp only [go_sem, reduceEqDiff, reduceIte, reduceAdd, reduceMul, reduceSub, reduceLT, reduceLeDiff, Nat.reduceBEq, hx, hlt]; first | done | rfl) (.inl rfl) rfl (by decide)) (by simp only [go_sem, reduceEqDiff, reduceIte, reduceAdd, reduceMul, reduceSub, reduceLT, reduceLeDiff, Nat.reduceBEq, hx, hlt]; first | done | rfl) rfl (by simp only [go_sem, Nat.reduceLT]) ?_; simp only [go_sem, reduceEqDiff, reduceIte, reduceAdd, reduceMul, reduceSub, reduceLT, reduceLeDiff, Nat.reduceBEq, hx, hlt]) | (refine qx (call_L (N' := [0]) (L := []) (kd) rfl (.cons (.nm rfl) (.cons (.nm rfl) (.nil))) (by decide) (by decide) (by decide) (by simp only [go_sem, reduceEqDiff, reduceIte, reduceAdd, reduceMul, reduceSub, reduceLT, reduceLeDiff, Nat.reduceBEq, hx, hlt]; first | done | rfl) (.inl rfl) rfl (by decide)) (by simp only [go_sem, reduceEqDiff, reduceIte, reduceAdd, reduceMul, reduceSub, reduceLT, reduceLeDiff, Nat.reduceBEq, hx, hlt]; first | done | rfl) rfl (by simp only [go_sem, Nat.reduceLT]) ?_; simp only [go_sem, reduceEqDiff, reduceIte, reduceAdd, reduceMul, reduceSub, reduceLT, reduceLeDiff, Nat.reduceBEq, hx, hlt]) | (refine qx (call_N (L := []) (kp) rfl (.cons (.nm rfl) (.cons (.nm rfl) (.nil))) (.inl rfl) rfl) (by simp only [go_sem, reduceEqDiff, reduceIte, reduceAdd, reduceMul, reduceSub, reduceLT, reduceLeDiff, Nat.reduceBEq, hx, hlt]; first | done | rfl) rfl (by simp only [go_sem, Nat.reduceLT]) ?_; simp only [go_sem, reduceEqDiff, reduceIte, reduceAdd, reduceMul, reduceSub, reduceLT, reduceLeDiff, Nat.reduceBEq, hx, hlt]))
  exact Aw_ret (retL (M := [0, 15, 16, 17, 18]) (.inl rfl) (by simp only [go_sem, reduceEqDiff, reduceIte, reduceAdd, reduceMul, reduceSub, reduceLT, reduceLeDiff, Nat.reduceBEq]; first | done | rfl) rfl rfl (by rfl) (by simp only [go_sem, reduceEqDiff, reduceIte, reduceAdd, reduceMul, reduceSub, reduceLT, reduceLeDiff, Nat.reduceBEq]; first | done | rfl | (and_intros <;> rfl)) (by decide) (by intro m hm; first | omega | (rcases m with _ | _ | _ | _ | _ | _ | m <;> first | exact ⟨by decide, rfl⟩ | omega)))
structure InvS (s : Sto) : Prop where
  h : SmH s
  t0 : 0 ≤ s.time
  t1 : s.time ≤ 999
  tp : s.top.length ≤ 1000
theorem inv_of {s : Sto} (hs : SmSt s) (hv : storeS s = true) : InvS s := by
  obtain ⟨h1, h2, h3, h4, h5, h6, _⟩ := storeS_facts hv
  unfold inB at h6
  rw [Bool.and_eq_true] at h6
  have g1 := of_decide_eq_true h6.1; have g2 := of_decide_eq_true h6.2
  exact ⟨valid_sm hs hv, g1, g2, by omega⟩
theorem downM_inv {s x : Sto} (hs : SmSt s) (hv : storeS s = true) (h : downM s = some x) : InvS x := by
  have v := inv_of hs hv
  obtain ⟨g1, g2, g3, g4, g5⟩ := intoM_sm 2 (s := noTop s) (i := 0) rfl ⟨v.h.ll, v.h.sl, v.h.lev, v.h.tl⟩ hs.top v.tp h
  refine ⟨g1, ?_, ?_, ?_⟩
  · rw [g4]; exact v.t0
  · rw [g4]; exact v.t1
  · rw [g3]; simp [noTop]
theorem addM_inv {s x : Sto} {e : Ent} (hs : SmSt s) (h : addM s e = some x) : InvS x := by
  unfold addM at h
  split at h
  · rename_i hc
    rw [Bool.and_eq_true] at hc
    have he : 0 ≤ e.time ∧ e.time ≤ 999 := by
      have := hc.2
      unfold entOk inB at this
      simp only [Bool.and_eq_true, decide_eq_true_eq] at this
      omega
    obtain ⟨h1, h2, h3, h4, h5, _⟩ := storeS_facts hc.1
    split at h
    · obtain ⟨y, hy, rfl⟩ := Option.map_eq_some_iff.1 h
      obtain ⟨g, gt⟩ := downM_st hs hc.1 hy
      have v := downM_inv hs hc.1 hy
      exact ⟨⟨v.h.ll, v.h.sl, v.h.lev, v.h.tl⟩, he.1, he.2, by show (joinM [e] y.top).length ≤ 1000; rw [joinM_len, gt]; simp⟩
    · obtain rfl := Option.some.inj h
      have v := inv_of hs hc.1
      exact ⟨⟨v.h.ll, v.h.sl, v.h.lev, v.h.tl⟩, he.1, he.2, by show (joinM [e] s.top).length ≤ 1000; rw [joinM_len]; simp; omega⟩
  · cases h
theorem doM_inv {s x : Sto} {d : Deed} (hs : SmSt s) (h : doM s d = some x) : InvS x := by
  unfold doM at h
  split at h
  · exact addM_inv (e := ⟨d.key, d.num, false, nextT s⟩) hs h
  split at h
  · exact addM_inv (e := ⟨d.key, 0, true, nextT s⟩) hs h
  split at h
  · unfold holdM at h
    split at h
    · rename_i hv
      have v := inv_of hs hv
      obtain ⟨h1, h2, h3, h4, h5, _⟩ := storeS_facts hv
      split at h
      · obtain rfl := Option.some.inj h
        have hl : (heldTs s).length ≤ 1000 := by
          unfold heldTs
          split
          · omega
          · simp only [List.length_append, List.length_cons, List.length_nil]; omega
        exact ⟨⟨v.h.ll, v.h.sl, v.h.lev, hl⟩, v.t0, v.t1, v.tp⟩
      · cases h
    · cases h
  split at h
  · unfold freeM at h
    split at h
    · rename_i hv
      have v := inv_of hs hv
      split at h
      · cases h
      · obtain rfl := Option.some.inj h
        exact ⟨⟨v.h.ll, v.h.sl, v.h.lev, Nat.le_trans (colI_len (freeAt_len _ _)) v.h.tl⟩, v.t0, v.t1, v.tp⟩
    · cases h
  split at h
  · unfold sDownM at h
    split at h
    · rename_i hv; exact downM_inv hs hv h
    · cases h
  split at h
  · unfold sJoinM at h
    split at h
    · rename_i hc
      rw [Bool.and_eq_true] at hc
      have v := inv_of hs hc.1
      have sm := valid_sm hs hc.1
      have c2 := hc.2
      unfold inB at c2
      rw [Bool.and_eq_true] at c2
      have g1 := of_decide_eq_true c2.1; have g2 := of_decide_eq_true c2.2
      obtain ⟨y, hy, h2⟩ := Option.bind_eq_some_iff.1 h
      have smx := setM_sm sm (by omega) smR_nil hy
      have hq : SmR (s.levels.getD d.num.toNat []) ∧ (s.levels.getD d.num.toNat []).length ≤ 1000 := by
        rw [List.getD_eq_getElem?_getD, List.getElem?_eq_getElem (by rw [sm.ll]; omega)]; exact sm.lev _ (List.getElem_mem _)
      obtain ⟨q1, q2, q3, q4⟩ := setM_times hy
      obtain ⟨k1, k2, k3, k4, k5⟩ := intoM_sm _ (by omega) smx hq.1 hq.2 h2
      refine ⟨k1, ?_, ?_, ?_⟩
      · rw [k4, q3]; exact v.t0
      · rw [k4, q3]; exact v.t1
      · rw [k3, q2]; exact v.tp
    · cases h
  · cases h
theorem pastTo_inv {s : Sto} {ds : List Deed} (hs : SmSt s) (hi : InvS s) (hd : SmD ds) : ∀ i, i ≤ ds.length → InvS (pastTo s ds i).1 := by
  intro i
  induction i with
  | zero => intro _; exact hi
  | succ i ih =>
    intro hl
    have v := ih (by omega)
    obtain ⟨p1, p2, p3⟩ := pastTo_st hs hd i (by omega)
    obtain ⟨d, hd2⟩ : ∃ d, ds[i]? = some d := ⟨_, List.getElem?_eq_getElem (by omega)⟩
    rw [pastTo_succ hd2]
    unfold pastStep
    cases hm : doM (pastTo s ds i).1 d with
    | none => exact v
    | some x => exact doM_inv p1 hm
theorem stoV_fin {b : List Int} (hb : byteL b) {p : Nat} (hp : p ≤ 90000) : InvS (stoV b p).1 ∧ SmSt (stoV b p).1 ∧ (stoV b p).2 ≤ p + 2001 := by
  obtain ⟨d1, d2, d3⟩ := deedsV_fin hb (p := p + 1) (most := 30) (by omega) (by omega)
  have hd : SmD (deedsV b (p + 1) 30).1 := ⟨fun d hd => by have := d2 d hd; unfold smK; omega⟩
  unfold stoV
  refine ⟨pastTo_inv (eSto_st _) (inv_of (eSto_st _) (eSto_ok (kpN_le _))) hd _ (Nat.le_refl _), (pastTo_st (eSto_st _) hd _ (Nat.le_refl _)).1, by dsimp only; omega⟩
theorem bfs_let {keep : Nat} : ∀ (n : Nat) (q : List (List ByteArray × Nat)), (∀ f ∈ q, Fork f) → (bfs keep n q).letters.length ≤ wts q
  | 0, q, _ => by simp [bfs, zPut]
  | n + 1, [], _ => by simp [bfs, zPut]
  | n + 1, f :: q, h => by
    have hff := h f (by simp)
    have ih := bfs_let (keep := keep) n (q ++ (node keep f).kids) fun g hg => by
      rcases List.mem_append.1 hg with hg | hg
      · exact h g (List.mem_cons_of_mem _ hg)
      · exact node_fork hff g hg
    have rb := runs_b keep f.2 hff.dep 49 (spl f.2 f.1)
    rw [spl_flat f.2 _ f.1 (Nat.le_refl _)] at rb
    have rl := (runs_len keep f.2 49 (spl f.2 f.1)).1
    have e1 : (node keep f).letters.length + wts (node keep f).kids < wt f := by unfold node wt; omega
    simp only [bfs, Put.add, List.length_append]
    rw [wts_app] at ih
    rw [wts_cons]
    omega
theorem sieveM_let {ks : List ByteArray} {keep : Int} {z : Sve} (h : sieveM ks keep = some z) : z.letters.size ≤ 1000 := by
  unfold sieveM at h
  split at h
  · rename_i hc
    obtain ⟨hl, hf, _⟩ := ksOk_iff hc.1
    have e := Option.some.inj h
    rw [← e]
    show (bs (bfsF keep.toNat [(ks, 0)]).letters).size ≤ _
    rw [bs_size]
    have hb := bfs_let (keep := keep.toNat) (wts [(ks, 0)]) [(ks, 0)] fun f hf' => by rw [List.mem_singleton.1 hf']; exact hf
    have e2 : wts [(ks, 0)] ≤ 200 := by rw [wts_one]; unfold wt; simp only []; omega
    unfold bfsF
    omega
  · cases h
def LetS (s : Sto) : Prop := ∀ x ∈ s.sieves, x.letters.size ≤ 1000
theorem setM_let {s x : Sto} {i : Nat} {r : List Ent} (hs : LetS s) (h : setM s i r = some x) : LetS x := by
  obtain ⟨y, rfl, hy, _⟩ := setM_ok h
  intro z hz
  rcases List.mem_or_eq_of_mem_set hz with h | rfl
  · exact hs z h
  · exact sieveM_let hy
theorem intoM_let : ∀ (d : Nat) {s x : Sto} {i : Nat} {r : List Ent}, LetS s → intoM d s i r = some x → LetS x
  | 0, s, x, i, r, hs, h => setM_let hs h
  | d + 1, s, x, i, r, hs, h => by
    simp only [intoM] at h
    split at h
    · rename_i y hy
      obtain rfl := Option.some.inj h
      exact setM_let hs hy
    · obtain ⟨s1, h1, h2⟩ := Option.bind_eq_some_iff.1 h
      exact setM_let (intoM_let d hs h1) h2
theorem downM_let {s x : Sto} (hs : LetS s) (h : downM s = some x) : LetS x := intoM_let 2 (s := noTop s) hs h
theorem addM_let {s x : Sto} {e : Ent} (hs : LetS s) (h : addM s e = some x) : LetS x := by
  unfold addM at h
  split at h
  · split at h
    · obtain ⟨y, hy, rfl⟩ := Option.map_eq_some_iff.1 h
      exact (downM_let hs hy : LetS y)
    · obtain rfl := Option.some.inj h; exact hs
  · cases h
theorem doM_let {s x : Sto} {d : Deed} (hs : LetS s) (h : doM s d = some x) : LetS x := by
  unfold doM at h
  split at h
  · exact addM_let (e := ⟨d.key, d.num, false, nextT s⟩) hs h
  split at h
  · exact addM_let (e := ⟨d.key, 0, true, nextT s⟩) hs h
  split at h
  · unfold holdM at h
    split at h
    · split at h
      · obtain rfl := Option.some.inj h; exact hs
      · cases h
    · cases h
  split at h
  · unfold freeM at h
    split at h
    · split at h
      · cases h
      · obtain rfl := Option.some.inj h; exact hs
    · cases h
  split at h
  · unfold sDownM at h
    split at h
    · exact downM_let hs h
    · cases h
  split at h
  · unfold sJoinM at h
    split at h
    · obtain ⟨y, hy, h2⟩ := Option.bind_eq_some_iff.1 h
      exact intoM_let _ (setM_let hs hy) h2
    · cases h
  · cases h
theorem pastTo_let {s : Sto} {ds : List Deed} (hs : LetS s) : ∀ i, i ≤ ds.length → LetS (pastTo s ds i).1 := by
  intro i
  induction i with
  | zero => intro _; exact hs
  | succ i ih =>
    intro hl
    have v := ih (by omega)
    obtain ⟨d, hd2⟩ : ∃ d, ds[i]? = some d := ⟨_, List.getElem?_eq_getElem (by omega)⟩
    rw [pastTo_succ hd2]
    unfold pastStep
    cases hm : doM (pastTo s ds i).1 d with
    | none => exact v
    | some x => exact doM_let v hm
theorem stoV_let (b : List Int) (p : Nat) : LetS (stoV b p).1 := by
  unfold stoV
  refine pastTo_let ?_ _ (Nat.le_refl _)
  intro x hx
  simp [eSto] at hx
  subst hx
  show ByteArray.size zs ≤ 1000
  decide
/-- A store, its top a row of its own. -/
abbrev toT (s : Sto) : TV := .agg [.h 1, .d (.rs 1 (s.levels.map lvD)), .d (.rs 5 (s.sieves.map sveD)), .d (.s (.int .i64 s.keep)), .d (.s (.int .i64 s.time)), .d (.rs 1 (s.times.map intD))]
theorem l71StoreT_ac {b : List Int} {p : Nat} (hb : byteL b) (hp : p ≤ 90000) : AC Tryz.prog 80 [.c (.ph 0 0 0)] (hpL [some (rdO b p)]) 1 ⟨.t (toT (stoV b p).1), hpL [some (rdO b (stoV b p).2), some (eRow (stoV b p).1.top)], 2⟩ := by
  have h := AC.setS [1, 2, 4] (l71Store_ac hb hp) (y := .t (.agg [.h 3, .d (.rs 1 ((stoV b p).1.levels.map lvD)), .d (.rs 5 ((stoV b p).1.sieves.map sveD)), .d (.s (.int .i64 (stoV b p).1.keep)), .d (.s (.int .i64 (stoV b p).1.time)), .d (.rs 1 ((stoV b p).1.times.map intD))])) (os' := [some (rdO b (stoV b p).2), none, none, some (eRow (stoV b p).1.top), none])
    (.cons (.inl rfl) (.cons (SetC.row0 rfl rfl) (.cons (SetC.row0 rfl rfl) (.cons (.inl rfl) (.cons (.inl rfl) (.cons (SetC.row0 rfl rfl) .nil)))))) ⟨.inl rfl, rfl, .inl rfl, rfl, trivial⟩
  refine AC.sel (M := [0, 3]) h rfl rfl (selL rfl ?_) (by decide) fun m hm => ?_
  · simp only [go_sem, LeftL]
  · obtain rfl : m = 0 := by omega
    exact ⟨by decide, rfl⟩
/-- And its times. -/
theorem l71StoreM_ac {b : List Int} {p : Nat} (hb : byteL b) (hp : p ≤ 90000) : AC Tryz.prog 80 [.c (.ph 0 0 0)] (hpL [some (rdO b p)]) 1 ⟨.t (.agg [.h 1, .d (.rs 1 ((stoV b p).1.levels.map lvD)), .d (.rs 5 ((stoV b p).1.sieves.map sveD)), .d (.s (.int .i64 (stoV b p).1.keep)), .d (.s (.int .i64 (stoV b p).1.time)), .h 2]), hpL [some (rdO b (stoV b p).2), some (eRow (stoV b p).1.top), some (tmRow (stoV b p).1.times)], 3⟩ := by
  have h := AC.setS [1, 2] (l71Store_ac hb hp) (y := .t (.agg [.h 3, .d (.rs 1 ((stoV b p).1.levels.map lvD)), .d (.rs 5 ((stoV b p).1.sieves.map sveD)), .d (.s (.int .i64 (stoV b p).1.keep)), .d (.s (.int .i64 (stoV b p).1.time)), .h 4])) (os' := [some (rdO b (stoV b p).2), none, none, some (eRow (stoV b p).1.top), some (tmRow (stoV b p).1.times)])
    (.cons (.inl rfl) (.cons (SetC.row0 rfl rfl) (.cons (SetC.row0 rfl rfl) (.cons (.inl rfl) (.cons (.inl rfl) (.cons (.inl rfl) .nil)))))) ⟨.inl rfl, rfl, .inl rfl, rfl, .inl rfl, rfl, trivial⟩
  refine AC.sel (M := [0, 3, 4]) h rfl rfl (selL rfl ?_) (by decide) fun m hm => ?_
  · simp only [go_sem, LeftL]
  · obtain rfl : m = 0 := by omega
    exact ⟨by decide, rfl⟩
/-- And its sieves. -/
theorem l71StoreV_ac {b : List Int} {p : Nat} (hb : byteL b) (hp : p ≤ 90000) : AC Tryz.prog 80 [.c (.ph 0 0 0)] (hpL [some (rdO b p)]) 1 ⟨.t (.agg [.h 1, .d (.rs 1 ((stoV b p).1.levels.map lvD)), .h 2, .d (.s (.int .i64 (stoV b p).1.keep)), .d (.s (.int .i64 (stoV b p).1.time)), .d (.rs 1 ((stoV b p).1.times.map intD))]), hpL [some (rdO b (stoV b p).2), some (eRow (stoV b p).1.top), some (svRow (stoV b p).1.sieves)], 3⟩ := by
  have h := AC.setS [1, 4] (l71Store_ac hb hp) (y := .t (.agg [.h 3, .d (.rs 1 ((stoV b p).1.levels.map lvD)), .h 2, .d (.s (.int .i64 (stoV b p).1.keep)), .d (.s (.int .i64 (stoV b p).1.time)), .d (.rs 1 ((stoV b p).1.times.map intD))])) (os' := [some (rdO b (stoV b p).2), none, some (svRow (stoV b p).1.sieves), some (eRow (stoV b p).1.top), none])
    (.cons (.inl rfl) (.cons (SetC.row0 rfl rfl) (.cons (.inl rfl) (.cons (.inl rfl) (.cons (.inl rfl) (.cons (SetC.row0 rfl rfl) .nil)))))) ⟨.inl rfl, rfl, .inl rfl, rfl, .inl rfl, rfl, trivial⟩
  refine AC.sel (M := [0, 3, 2]) h rfl rfl (selL rfl ?_) (by decide) fun m hm => ?_
  · simp only [go_sem, LeftL]
  · obtain rfl : m = 0 := by omega
    exact ⟨by decide, rfl⟩
def sp0 (s : Sto) (v : Nat) : Sto := { s with time := if v = 0 then -1 else 1000 }
def sp1 (s : Sto) : Sto := { s with times := s.times ++ [s.time + 1] }
def sp2 (s : Sto) : Sto := { s with levels := s.levels.drop 1 }
def upL (x : Sve) : Sve := { x with letters := x.letters ++ bs [97] }
def sp3 (s : Sto) : Sto := { s with sieves := s.sieves.modifyHead upL }
def sp4 (s : Sto) : Sto := { s with keep := 6 }
def sp5 (s : Sto) : Sto := { s with top := s.top ++ [⟨⟨#[]⟩, 0, false, 0⟩] }
noncomputable def spoV (b : List Int) (p : Nat) : Sto × Nat :=
  let s := stoV b p
  if pickV b s.2 14 ≠ 0 then (s.1, s.2 + 1)
  else if pickV b (s.2 + 1) 6 = 0 then (sp0 s.1 (pickV b (s.2 + 2) 2), s.2 + 3)
  else if pickV b (s.2 + 1) 6 = 1 then (sp1 s.1, s.2 + 2)
  else if pickV b (s.2 + 1) 6 = 2 then (sp2 s.1, s.2 + 2)
  else if pickV b (s.2 + 1) 6 = 3 then (sp3 s.1, s.2 + 2)
  else if pickV b (s.2 + 1) 6 = 4 then (sp4 s.1, s.2 + 2)
  else (sp5 s.1, s.2 + 2)
theorem l71Spoilt_ac {b : List Int} {p : Nat} (hb : byteL b) (hp : p ≤ 90000) : AC Tryz.prog 41 [.c (.ph 0 0 0)] (hpL [some (rdO b p)]) 1 ⟨.t (toT (spoV b p).1), hpL [some (rdO b (spoV b p).2), some (eRow (spoV b p).1.top)], 2⟩ := by
  obtain ⟨inv, st, hq⟩ := stoV_fin hb hp
  have hlet := stoV_let b p
  have kT := l71StoreT_ac hb hp
  have kM := l71StoreM_ac hb hp
  have kV := l71StoreV_ac hb hp
  unfold spoV
  generalize stoV b p = sq at inv st hq hlet kT kM kV ⊢
  obtain ⟨s, q⟩ := sq
  dsimp only at inv st hq hlet kT kM kV ⊢
  have k14 := pickV_ac (n := 14) hb (show q ≤ 1000000 by omega) (by omega)
  have k6 := pickV_ac (n := 6) hb (show q + 1 ≤ 1000000 by omega) (by omega)
  have l6 := pickV_lt (n := 6) hb (show q + 1 ≤ 1000000 by omega) (by omega) (by omega)
  by_cases c0 : pickV b q 14 = 0
  case neg =>
    rw [if_pos c0]
    have g0 : decide ((0 : Int) < ((pickV b q 14 : Nat) : Int)) = true := decide_eq_true (by omega)
    refine AC_of Tryz.func41 rfl Tryz.ntmps41 Tryz.results41 (by kernel_rfl) rfl ?_
    simp only [List.zipIdx, List.map, Nat.zero_add, Nat.reduceAdd]
    repeat (first | apply Aw_seq | apply Aw_block | apply Aw_skip | apply Aw_exit | refine Aw_condt rfl ?_ | refine Aw_condf rfl ?_ | ((first | refine qr ?_ | refine qd (by kernel_rfl) (by kernel_rfl) ?_); simp only [go_sem, reduceEqDiff, reduceIte, reduceAdd, reduceMul, reduceSub, reduceLT, reduceLeDiff, Nat.reduceBEq, g0]) | refine dk (by kernel_rfl) ?_ | (refine qx (call_L (N' := [0]) (L := []) (kT) rfl (.cons (.nm rfl) (.nil)) (by decide) (by decide) (by decide) (by simp only [go_sem, reduceEqDiff, reduceIte, reduceAdd, reduceMul, reduceSub, reduceLT, reduceLeDiff, Nat.reduceBEq, g0]; first | done | rfl) (.inl rfl) rfl (by decide)) (by simp only [go_sem, reduceEqDiff, reduceIte, reduceAdd, reduceMul, reduceSub, reduceLT, reduceLeDiff, Nat.reduceBEq, g0]; first | done | rfl) rfl (by simp only [go_sem, Nat.reduceLT]) ?_; simp only [go_sem, reduceEqDiff, reduceIte, reduceAdd, reduceMul, reduceSub, reduceLT, reduceLeDiff, Nat.reduceBEq, g0]) | (refine qx (call_L (N' := [0]) (L := []) (k14) rfl (.cons (.nm rfl) (.cons (.nm rfl) (.nil))) (by decide) (by decide) (by decide) (by simp only [go_sem, reduceEqDiff, reduceIte, reduceAdd, reduceMul, reduceSub, reduceLT, reduceLeDiff, Nat.reduceBEq, g0]; first | done | rfl) (.inl rfl) rfl (by decide)) (by simp only [go_sem, reduceEqDiff, reduceIte, reduceAdd, reduceMul, reduceSub, reduceLT, reduceLeDiff, Nat.reduceBEq, g0]; first | done | rfl) rfl (by simp only [go_sem, Nat.reduceLT]) ?_; simp only [go_sem, reduceEqDiff, reduceIte, reduceAdd, reduceMul, reduceSub, reduceLT, reduceLeDiff, Nat.reduceBEq, g0]))
    exact Aw_ret (retL (M := [0, 3]) (.inl rfl) (by simp only [go_sem, reduceEqDiff, reduceIte, reduceAdd, reduceMul, reduceSub, reduceLT, reduceLeDiff, Nat.reduceBEq]; first | done | rfl) rfl rfl (by rfl) (by simp only [go_sem, reduceEqDiff, reduceIte, reduceAdd, reduceMul, reduceSub, reduceLT, reduceLeDiff, Nat.reduceBEq]; first | done | rfl | (and_intros <;> rfl)) (by decide) (by intro m hm; first | omega | (rcases m with _ | _ | _ | _ | _ | _ | m <;> first | exact ⟨by decide, rfl⟩ | omega)))
  rw [if_neg (by omega)]
  have g0 : decide ((0 : Int) < ((pickV b q 14 : Nat) : Int)) = false := decide_eq_false (by omega)
  by_cases c1 : pickV b (q + 1) 6 = 0
  case pos =>
    rw [if_pos c1]
    have d0 : decide (((pickV b (q + 1) 6 : Nat) : Int) = 0) = true := decide_eq_true (by omega)
    have k2 := pickV_ac (n := 2) hb (show q + 1 + 1 ≤ 1000000 by omega) (by omega)
    have l2 := pickV_lt (n := 2) hb (show q + 1 + 1 ≤ 1000000 by omega) (by omega) (by omega)
    obtain ⟨v, hv⟩ : ∃ v, v = pickV b (q + 2) 2 := ⟨_, rfl⟩
    change AC Tryz.prog _ _ _ _ ⟨.t (iT (pickV b (q + 2) 2 : Nat)), _, _⟩ at k2
    change ((pickV b (q + 2) 2 : Nat) : Int) < 2 at l2
    rw [← hv] at k2 l2 ⊢
    have hvl : v < 2 := by omega
    have hx : ([[.d (.s (.int .i64 (-1)))], [.d (.s (.int .i64 1000))]] : List (List CV))[v]? = some [.d (.s (.int .i64 (if v = 0 then -1 else 1000)))] := by
      match v, hvl with
      | 0, _ => rfl
      | 1, _ => rfl
    refine AC_of Tryz.func41 rfl Tryz.ntmps41 Tryz.results41 (by kernel_rfl) rfl ?_
    simp only [List.zipIdx, List.map, Nat.zero_add, Nat.reduceAdd]
    repeat (first | apply Aw_seq | apply Aw_block | apply Aw_skip | apply Aw_exit | refine Aw_condt rfl ?_ | refine Aw_condf rfl ?_ | ((first | refine qr ?_ | refine qd (by kernel_rfl) (by kernel_rfl) ?_); simp only [go_sem, reduceEqDiff, reduceIte, reduceAdd, reduceMul, reduceSub, reduceLT, reduceLeDiff, Nat.reduceBEq, g0, d0, hvl, hx]) | refine dk (by kernel_rfl) ?_ | (refine qx (call_L (N' := [0]) (L := []) (kT) rfl (.cons (.nm rfl) (.nil)) (by decide) (by decide) (by decide) (by simp only [go_sem, reduceEqDiff, reduceIte, reduceAdd, reduceMul, reduceSub, reduceLT, reduceLeDiff, Nat.reduceBEq, g0, d0, hvl, hx]; first | done | rfl) (.inl rfl) rfl (by decide)) (by simp only [go_sem, reduceEqDiff, reduceIte, reduceAdd, reduceMul, reduceSub, reduceLT, reduceLeDiff, Nat.reduceBEq, g0, d0, hvl, hx]; first | done | rfl) rfl (by simp only [go_sem, Nat.reduceLT]) ?_; simp only [go_sem, reduceEqDiff, reduceIte, reduceAdd, reduceMul, reduceSub, reduceLT, reduceLeDiff, Nat.reduceBEq, g0, d0, hvl, hx]) | (refine qx (call_L (N' := [0]) (L := []) (k14) rfl (.cons (.nm rfl) (.cons (.nm rfl) (.nil))) (by decide) (by decide) (by decide) (by simp only [go_sem, reduceEqDiff, reduceIte, reduceAdd, reduceMul, reduceSub, reduceLT, reduceLeDiff, Nat.reduceBEq, g0, d0, hvl, hx]; first | done | rfl) (.inl rfl) rfl (by decide)) (by simp only [go_sem, reduceEqDiff, reduceIte, reduceAdd, reduceMul, reduceSub, reduceLT, reduceLeDiff, Nat.reduceBEq, g0, d0, hvl, hx]; first | done | rfl) rfl (by simp only [go_sem, Nat.reduceLT]) ?_; simp only [go_sem, reduceEqDiff, reduceIte, reduceAdd, reduceMul, reduceSub, reduceLT, reduceLeDiff, Nat.reduceBEq, g0, d0, hvl, hx]) | (refine qx (call_L (N' := [0]) (L := []) (k6) rfl (.cons (.nm rfl) (.cons (.nm rfl) (.nil))) (by decide) (by decide) (by decide) (by simp only [go_sem, reduceEqDiff, reduceIte, reduceAdd, reduceMul, reduceSub, reduceLT, reduceLeDiff, Nat.reduceBEq, g0, d0, hvl, hx]; first | done | rfl) (.inl rfl) rfl (by decide)) (by simp only [go_sem, reduceEqDiff, reduceIte, reduceAdd, reduceMul, reduceSub, reduceLT, reduceLeDiff, Nat.reduceBEq, g0, d0, hvl, hx]; first | done | rfl) rfl (by simp only [go_sem, Nat.reduceLT]) ?_; simp only [go_sem, reduceEqDiff, reduceIte, reduceAdd, reduceMul, reduceSub, reduceLT, reduceLeDiff, Nat.reduceBEq, g0, d0, hvl, hx]) | (refine qx (call_L (N' := [0]) (L := []) (k2) rfl (.cons (.nm rfl) (.cons (.nm rfl) (.nil))) (by decide) (by decide) (by decide) (by simp only [go_sem, reduceEqDiff, reduceIte, reduceAdd, reduceMul, reduceSub, reduceLT, reduceLeDiff, Nat.reduceBEq, g0, d0, hvl, hx]; first | done | rfl) (.inl rfl) rfl (by decide)) (by simp only [go_sem, reduceEqDiff, reduceIte, reduceAdd, reduceMul, reduceSub, reduceLT, reduceLeDiff, Nat.reduceBEq, g0, d0, hvl, hx]; first | done | rfl) rfl (by simp only [go_sem, Nat.reduceLT]) ?_; simp only [go_sem, reduceEqDiff, reduceIte, reduceAdd, reduceMul, reduceSub, reduceLT, reduceLeDiff, Nat.reduceBEq, g0, d0, hvl, hx]))
    exact Aw_ret (retL (M := [0, 3]) (.inl rfl) (by simp only [go_sem, reduceEqDiff, reduceIte, reduceAdd, reduceMul, reduceSub, reduceLT, reduceLeDiff, Nat.reduceBEq]; first | done | rfl) rfl rfl (by rfl) (by simp only [go_sem, reduceEqDiff, reduceIte, reduceAdd, reduceMul, reduceSub, reduceLT, reduceLeDiff, Nat.reduceBEq]; first | done | rfl | (and_intros <;> rfl)) (by decide) (by intro m hm; first | omega | (rcases m with _ | _ | _ | _ | _ | _ | m <;> first | exact ⟨by decide, rfl⟩ | omega)))
  have d0 : decide (((pickV b (q + 1) 6 : Nat) : Int) = 0) = false := decide_eq_false (by omega)
  rw [if_neg c1]
  by_cases c2 : pickV b (q + 1) 6 = 1
  case pos =>
    rw [if_pos c2]
    have d1 : decide (((pickV b (q + 1) 6 : Nat) : Int) = 1) = true := decide_eq_true (by omega)
    have w1 : IntKind.i64.wrap (s.time + 1) = s.time + 1 := wrap_in (by have := inv.t0; omega) (by have := inv.t1; omega)
    have hap : (s.times.length + 1) * 8 ≤ 140737488355328 := by have := inv.h.tl; omega
    have h : AC Tryz.prog 41 [.c (.ph 0 0 0)] (hpL [some (rdO b p)]) 1 ⟨.t (.agg [.h 1, .d (.rs 1 (s.levels.map lvD)), .d (.rs 5 (s.sieves.map sveD)), .d (.s (.int .i64 s.keep)), .d (.s (.int .i64 s.time)), .h 2]), hpL [some (rdO b (q + 2)), some (eRow s.top), some (tmRow (s.times ++ [s.time + 1]))], 3⟩ := by
      refine AC_of Tryz.func41 rfl Tryz.ntmps41 Tryz.results41 (by kernel_rfl) rfl ?_
      simp only [List.zipIdx, List.map, Nat.zero_add, Nat.reduceAdd]
      repeat (first | apply Aw_seq | apply Aw_block | apply Aw_skip | apply Aw_exit | refine Aw_condt rfl ?_ | refine Aw_condf rfl ?_ | ((first | refine qr ?_ | refine qd (by kernel_rfl) (by kernel_rfl) ?_); simp only [go_sem, reduceEqDiff, reduceIte, reduceAdd, reduceMul, reduceSub, reduceLT, reduceLeDiff, Nat.reduceBEq, g0, d0, d1, w1, hap]) | refine dk (by kernel_rfl) ?_ | (refine qx (call_L (N' := [0]) (L := []) (kM) rfl (.cons (.nm rfl) (.nil)) (by decide) (by decide) (by decide) (by simp only [go_sem, reduceEqDiff, reduceIte, reduceAdd, reduceMul, reduceSub, reduceLT, reduceLeDiff, Nat.reduceBEq, g0, d0, d1, w1, hap]; first | done | rfl) (.inl rfl) rfl (by decide)) (by simp only [go_sem, reduceEqDiff, reduceIte, reduceAdd, reduceMul, reduceSub, reduceLT, reduceLeDiff, Nat.reduceBEq, g0, d0, d1, w1, hap]; first | done | rfl) rfl (by simp only [go_sem, Nat.reduceLT]) ?_; simp only [go_sem, reduceEqDiff, reduceIte, reduceAdd, reduceMul, reduceSub, reduceLT, reduceLeDiff, Nat.reduceBEq, g0, d0, d1, w1, hap]) | (refine qx (call_L (N' := [0]) (L := []) (k14) rfl (.cons (.nm rfl) (.cons (.nm rfl) (.nil))) (by decide) (by decide) (by decide) (by simp only [go_sem, reduceEqDiff, reduceIte, reduceAdd, reduceMul, reduceSub, reduceLT, reduceLeDiff, Nat.reduceBEq, g0, d0, d1, w1, hap]; first | done | rfl) (.inl rfl) rfl (by decide)) (by simp only [go_sem, reduceEqDiff, reduceIte, reduceAdd, reduceMul, reduceSub, reduceLT, reduceLeDiff, Nat.reduceBEq, g0, d0, d1, w1, hap]; first | done | rfl) rfl (by simp only [go_sem, Nat.reduceLT]) ?_; simp only [go_sem, reduceEqDiff, reduceIte, reduceAdd, reduceMul, reduceSub, reduceLT, reduceLeDiff, Nat.reduceBEq, g0, d0, d1, w1, hap]) | (refine qx (call_L (N' := [0]) (L := []) (k6) rfl (.cons (.nm rfl) (.cons (.nm rfl) (.nil))) (by decide) (by decide) (by decide) (by simp only [go_sem, reduceEqDiff, reduceIte, reduceAdd, reduceMul, reduceSub, reduceLT, reduceLeDiff, Nat.reduceBEq, g0, d0, d1, w1, hap]; first | done | rfl) (.inl rfl) rfl (by decide)) (by simp only [go_sem, reduceEqDiff, reduceIte, reduceAdd, reduceMul, reduceSub, reduceLT, reduceLeDiff, Nat.reduceBEq, g0, d0, d1, w1, hap]; first | done | rfl) rfl (by simp only [go_sem, Nat.reduceLT]) ?_; simp only [go_sem, reduceEqDiff, reduceIte, reduceAdd, reduceMul, reduceSub, reduceLT, reduceLeDiff, Nat.reduceBEq, g0, d0, d1, w1, hap]))
      exact Aw_ret (retL (M := [0, 3, 20]) (.inl rfl) (by simp only [go_sem, reduceEqDiff, reduceIte, reduceAdd, reduceMul, reduceSub, reduceLT, reduceLeDiff, Nat.reduceBEq]; first | done | rfl) rfl rfl (by rfl) (by simp only [go_sem, reduceEqDiff, reduceIte, reduceAdd, reduceMul, reduceSub, reduceLT, reduceLeDiff, Nat.reduceBEq, List.map_append, List.map_cons, List.map_nil]; first | done | rfl | (and_intros <;> rfl)) (by decide) (by intro m hm; first | omega | (rcases m with _ | _ | _ | _ | _ | _ | m <;> first | exact ⟨by decide, rfl⟩ | omega)))
    refine AC.sel (M := [0, 1]) (AC.setS [2] h (y := .t (toT (sp1 s))) (os' := [some (rdO b (q + 2)), some (eRow s.top), none]) (.cons (.inl rfl) (.cons (.inl rfl) (.cons (.inl rfl) (.cons (.inl rfl) (.cons (.inl rfl) (.cons (SetC.row0 rfl rfl) .nil)))))) ⟨.inl rfl, rfl, .inl rfl, rfl, trivial⟩) rfl rfl (selL rfl ?_) (by decide) fun m hm => ?_
    · simp only [go_sem, LeftL, sp1]
    · obtain rfl : m = 0 := by omega
      exact ⟨by decide, rfl⟩
  have d1 : decide (((pickV b (q + 1) 6 : Nat) : Int) = 1) = false := decide_eq_false (by omega)
  rw [if_neg c2]
  by_cases c3 : pickV b (q + 1) 6 = 2
  case pos =>
    rw [if_pos c3]
    have d2 : decide (((pickV b (q + 1) 6 : Nat) : Int) = 2) = true := decide_eq_true (by omega)
    have hl : s.levels.length = 3 := inv.h.ll
    have e2 : List.drop (Int.toNat 1) (List.take 3 (s.levels.map lvD)) = (s.levels.drop 1).map lvD := by rw [List.take_of_length_le (by simp [hl]), List.map_drop]; rfl
    refine AC_of Tryz.func41 rfl Tryz.ntmps41 Tryz.results41 (by kernel_rfl) rfl ?_
    simp only [List.zipIdx, List.map, Nat.zero_add, Nat.reduceAdd]
    repeat (first | apply Aw_seq | apply Aw_block | apply Aw_skip | apply Aw_exit | refine Aw_condt rfl ?_ | refine Aw_condf rfl ?_ | ((first | refine qr ?_ | refine qd (by kernel_rfl) (by kernel_rfl) ?_); simp only [go_sem, reduceEqDiff, reduceIte, reduceAdd, reduceMul, reduceSub, reduceLT, reduceLeDiff, Nat.reduceBEq, g0, d0, d1, d2, hl, e2]) | refine dk (by kernel_rfl) ?_ | (refine qx (call_L (N' := [0]) (L := []) (kT) rfl (.cons (.nm rfl) (.nil)) (by decide) (by decide) (by decide) (by simp only [go_sem, reduceEqDiff, reduceIte, reduceAdd, reduceMul, reduceSub, reduceLT, reduceLeDiff, Nat.reduceBEq, g0, d0, d1, d2, hl, e2]; first | done | rfl) (.inl rfl) rfl (by decide)) (by simp only [go_sem, reduceEqDiff, reduceIte, reduceAdd, reduceMul, reduceSub, reduceLT, reduceLeDiff, Nat.reduceBEq, g0, d0, d1, d2, hl, e2]; first | done | rfl) rfl (by simp only [go_sem, Nat.reduceLT]) ?_; simp only [go_sem, reduceEqDiff, reduceIte, reduceAdd, reduceMul, reduceSub, reduceLT, reduceLeDiff, Nat.reduceBEq, g0, d0, d1, d2, hl, e2]) | (refine qx (call_L (N' := [0]) (L := []) (k14) rfl (.cons (.nm rfl) (.cons (.nm rfl) (.nil))) (by decide) (by decide) (by decide) (by simp only [go_sem, reduceEqDiff, reduceIte, reduceAdd, reduceMul, reduceSub, reduceLT, reduceLeDiff, Nat.reduceBEq, g0, d0, d1, d2, hl, e2]; first | done | rfl) (.inl rfl) rfl (by decide)) (by simp only [go_sem, reduceEqDiff, reduceIte, reduceAdd, reduceMul, reduceSub, reduceLT, reduceLeDiff, Nat.reduceBEq, g0, d0, d1, d2, hl, e2]; first | done | rfl) rfl (by simp only [go_sem, Nat.reduceLT]) ?_; simp only [go_sem, reduceEqDiff, reduceIte, reduceAdd, reduceMul, reduceSub, reduceLT, reduceLeDiff, Nat.reduceBEq, g0, d0, d1, d2, hl, e2]) | (refine qx (call_L (N' := [0]) (L := []) (k6) rfl (.cons (.nm rfl) (.cons (.nm rfl) (.nil))) (by decide) (by decide) (by decide) (by simp only [go_sem, reduceEqDiff, reduceIte, reduceAdd, reduceMul, reduceSub, reduceLT, reduceLeDiff, Nat.reduceBEq, g0, d0, d1, d2, hl, e2]; first | done | rfl) (.inl rfl) rfl (by decide)) (by simp only [go_sem, reduceEqDiff, reduceIte, reduceAdd, reduceMul, reduceSub, reduceLT, reduceLeDiff, Nat.reduceBEq, g0, d0, d1, d2, hl, e2]; first | done | rfl) rfl (by simp only [go_sem, Nat.reduceLT]) ?_; simp only [go_sem, reduceEqDiff, reduceIte, reduceAdd, reduceMul, reduceSub, reduceLT, reduceLeDiff, Nat.reduceBEq, g0, d0, d1, d2, hl, e2]))
    exact Aw_ret (retL (M := [0, 3]) (.inl rfl) (by simp only [go_sem, reduceEqDiff, reduceIte, reduceAdd, reduceMul, reduceSub, reduceLT, reduceLeDiff, Nat.reduceBEq]; first | done | rfl) rfl rfl (by rfl) (by simp only [go_sem, reduceEqDiff, reduceIte, reduceAdd, reduceMul, reduceSub, reduceLT, reduceLeDiff, Nat.reduceBEq]; first | done | rfl | (and_intros <;> rfl)) (by decide) (by intro m hm; first | omega | (rcases m with _ | _ | _ | _ | _ | _ | m <;> first | exact ⟨by decide, rfl⟩ | omega)))
  have d2 : decide (((pickV b (q + 1) 6 : Nat) : Int) = 2) = false := decide_eq_false (by omega)
  rw [if_neg c3]
  by_cases c4 : pickV b (q + 1) 6 = 3
  case pos =>
    rw [if_pos c4]
    have d3 : decide (((pickV b (q + 1) 6 : Nat) : Int) = 3) = true := decide_eq_true (by omega)
    obtain ⟨x, y, z, hxyz⟩ := len3 inv.h.sl
    have hsz : x.letters.size ≤ 1000 := hlet x (by rw [hxyz]; simp)
    have hap : x.letters.size ≤ 9223372036854775806 := by omega
    rw [hxyz] at kV
    have h : AC Tryz.prog 41 [.c (.ph 0 0 0)] (hpL [some (rdO b p)]) 1 ⟨.t (.agg [.h 1, .d (.rs 1 (s.levels.map lvD)), .h 2, .d (.s (.int .i64 s.keep)), .d (.s (.int .i64 s.time)), .d (.rs 1 (s.times.map intD))]), hpL [some (rdO b (q + 2)), some (eRow s.top), some (svRow [upL x, y, z])], 3⟩ := by
      refine AC_of Tryz.func41 rfl Tryz.ntmps41 Tryz.results41 (by kernel_rfl) rfl ?_
      simp only [List.zipIdx, List.map, Nat.zero_add, Nat.reduceAdd]
      repeat (first | apply Aw_seq | apply Aw_block | apply Aw_skip | apply Aw_exit | refine Aw_condt rfl ?_ | refine Aw_condf rfl ?_ | ((first | refine qr ?_ | refine qd (by kernel_rfl) (by kernel_rfl) ?_); simp only [go_sem, reduceEqDiff, reduceIte, reduceAdd, reduceMul, reduceSub, reduceLT, reduceLeDiff, Nat.reduceBEq, g0, d0, d1, d2, d3, hap]) | refine dk (by kernel_rfl) ?_ | (refine qx (call_L (N' := [0]) (L := []) (kV) rfl (.cons (.nm rfl) (.nil)) (by decide) (by decide) (by decide) (by simp only [go_sem, reduceEqDiff, reduceIte, reduceAdd, reduceMul, reduceSub, reduceLT, reduceLeDiff, Nat.reduceBEq, g0, d0, d1, d2, d3, hap]; first | done | rfl) (.inl rfl) rfl (by decide)) (by simp only [go_sem, reduceEqDiff, reduceIte, reduceAdd, reduceMul, reduceSub, reduceLT, reduceLeDiff, Nat.reduceBEq, g0, d0, d1, d2, d3, hap]; first | done | rfl) rfl (by simp only [go_sem, Nat.reduceLT]) ?_; simp only [go_sem, reduceEqDiff, reduceIte, reduceAdd, reduceMul, reduceSub, reduceLT, reduceLeDiff, Nat.reduceBEq, g0, d0, d1, d2, d3, hap]) | (refine qx (call_L (N' := [0]) (L := []) (k14) rfl (.cons (.nm rfl) (.cons (.nm rfl) (.nil))) (by decide) (by decide) (by decide) (by simp only [go_sem, reduceEqDiff, reduceIte, reduceAdd, reduceMul, reduceSub, reduceLT, reduceLeDiff, Nat.reduceBEq, g0, d0, d1, d2, d3, hap]; first | done | rfl) (.inl rfl) rfl (by decide)) (by simp only [go_sem, reduceEqDiff, reduceIte, reduceAdd, reduceMul, reduceSub, reduceLT, reduceLeDiff, Nat.reduceBEq, g0, d0, d1, d2, d3, hap]; first | done | rfl) rfl (by simp only [go_sem, Nat.reduceLT]) ?_; simp only [go_sem, reduceEqDiff, reduceIte, reduceAdd, reduceMul, reduceSub, reduceLT, reduceLeDiff, Nat.reduceBEq, g0, d0, d1, d2, d3, hap]) | (refine qx (call_L (N' := [0]) (L := []) (k6) rfl (.cons (.nm rfl) (.cons (.nm rfl) (.nil))) (by decide) (by decide) (by decide) (by simp only [go_sem, reduceEqDiff, reduceIte, reduceAdd, reduceMul, reduceSub, reduceLT, reduceLeDiff, Nat.reduceBEq, g0, d0, d1, d2, d3, hap]; first | done | rfl) (.inl rfl) rfl (by decide)) (by simp only [go_sem, reduceEqDiff, reduceIte, reduceAdd, reduceMul, reduceSub, reduceLT, reduceLeDiff, Nat.reduceBEq, g0, d0, d1, d2, d3, hap]; first | done | rfl) rfl (by simp only [go_sem, Nat.reduceLT]) ?_; simp only [go_sem, reduceEqDiff, reduceIte, reduceAdd, reduceMul, reduceSub, reduceLT, reduceLeDiff, Nat.reduceBEq, g0, d0, d1, d2, d3, hap]))
      exact Aw_ret (retL (M := [0, 3, 4]) (.inl rfl) (by simp only [go_sem, reduceEqDiff, reduceIte, reduceAdd, reduceMul, reduceSub, reduceLT, reduceLeDiff, Nat.reduceBEq]; first | done | rfl) rfl rfl (by rfl) (by simp only [go_sem, reduceEqDiff, reduceIte, reduceAdd, reduceMul, reduceSub, reduceLT, reduceLeDiff, Nat.reduceBEq, upL]; first | done | rfl | (and_intros <;> rfl)) (by decide) (by intro m hm; first | omega | (rcases m with _ | _ | _ | _ | _ | _ | m <;> first | exact ⟨by decide, rfl⟩ | omega)))
    have e3 : (sp3 s).sieves = [upL x, y, z] := by unfold sp3; rw [hxyz]; rfl
    show AC Tryz.prog 41 [.c (.ph 0 0 0)] (hpL [some (rdO b p)]) 1 ⟨.t (.agg [.h 1, .d (.rs 1 (s.levels.map lvD)), .d (.rs 5 ((sp3 s).sieves.map sveD)), .d (.s (.int .i64 s.keep)), .d (.s (.int .i64 s.time)), .d (.rs 1 (s.times.map intD))]), hpL [some (rdO b (q + 2)), some (eRow s.top)], 2⟩
    rw [e3]
    refine AC.sel (M := [0, 1]) (AC.setS [2] h (y := .t (.agg [.h 1, .d (.rs 1 (s.levels.map lvD)), .d (.rs 5 ([upL x, y, z].map sveD)), .d (.s (.int .i64 s.keep)), .d (.s (.int .i64 s.time)), .d (.rs 1 (s.times.map intD))])) (os' := [some (rdO b (q + 2)), some (eRow s.top), none]) (.cons (.inl rfl) (.cons (.inl rfl) (.cons (SetC.row0 rfl rfl) (.cons (.inl rfl) (.cons (.inl rfl) (.cons (.inl rfl) .nil)))))) ⟨.inl rfl, rfl, .inl rfl, rfl, trivial⟩) rfl rfl (selL rfl ?_) (by decide) fun m hm => ?_
    · simp only [go_sem, LeftL]
    · obtain rfl : m = 0 := by omega
      exact ⟨by decide, rfl⟩
  have d3 : decide (((pickV b (q + 1) 6 : Nat) : Int) = 3) = false := decide_eq_false (by omega)
  rw [if_neg c4]
  by_cases c5 : pickV b (q + 1) 6 = 4
  case pos =>
    rw [if_pos c5]
    have d4 : decide (((pickV b (q + 1) 6 : Nat) : Int) = 4) = true := decide_eq_true (by omega)
    refine AC_of Tryz.func41 rfl Tryz.ntmps41 Tryz.results41 (by kernel_rfl) rfl ?_
    simp only [List.zipIdx, List.map, Nat.zero_add, Nat.reduceAdd]
    repeat (first | apply Aw_seq | apply Aw_block | apply Aw_skip | apply Aw_exit | refine Aw_condt rfl ?_ | refine Aw_condf rfl ?_ | ((first | refine qr ?_ | refine qd (by kernel_rfl) (by kernel_rfl) ?_); simp only [go_sem, reduceEqDiff, reduceIte, reduceAdd, reduceMul, reduceSub, reduceLT, reduceLeDiff, Nat.reduceBEq, g0, d0, d1, d2, d3, d4]) | refine dk (by kernel_rfl) ?_ | (refine qx (call_L (N' := [0]) (L := []) (kT) rfl (.cons (.nm rfl) (.nil)) (by decide) (by decide) (by decide) (by simp only [go_sem, reduceEqDiff, reduceIte, reduceAdd, reduceMul, reduceSub, reduceLT, reduceLeDiff, Nat.reduceBEq, g0, d0, d1, d2, d3, d4]; first | done | rfl) (.inl rfl) rfl (by decide)) (by simp only [go_sem, reduceEqDiff, reduceIte, reduceAdd, reduceMul, reduceSub, reduceLT, reduceLeDiff, Nat.reduceBEq, g0, d0, d1, d2, d3, d4]; first | done | rfl) rfl (by simp only [go_sem, Nat.reduceLT]) ?_; simp only [go_sem, reduceEqDiff, reduceIte, reduceAdd, reduceMul, reduceSub, reduceLT, reduceLeDiff, Nat.reduceBEq, g0, d0, d1, d2, d3, d4]) | (refine qx (call_L (N' := [0]) (L := []) (k14) rfl (.cons (.nm rfl) (.cons (.nm rfl) (.nil))) (by decide) (by decide) (by decide) (by simp only [go_sem, reduceEqDiff, reduceIte, reduceAdd, reduceMul, reduceSub, reduceLT, reduceLeDiff, Nat.reduceBEq, g0, d0, d1, d2, d3, d4]; first | done | rfl) (.inl rfl) rfl (by decide)) (by simp only [go_sem, reduceEqDiff, reduceIte, reduceAdd, reduceMul, reduceSub, reduceLT, reduceLeDiff, Nat.reduceBEq, g0, d0, d1, d2, d3, d4]; first | done | rfl) rfl (by simp only [go_sem, Nat.reduceLT]) ?_; simp only [go_sem, reduceEqDiff, reduceIte, reduceAdd, reduceMul, reduceSub, reduceLT, reduceLeDiff, Nat.reduceBEq, g0, d0, d1, d2, d3, d4]) | (refine qx (call_L (N' := [0]) (L := []) (k6) rfl (.cons (.nm rfl) (.cons (.nm rfl) (.nil))) (by decide) (by decide) (by decide) (by simp only [go_sem, reduceEqDiff, reduceIte, reduceAdd, reduceMul, reduceSub, reduceLT, reduceLeDiff, Nat.reduceBEq, g0, d0, d1, d2, d3, d4]; first | done | rfl) (.inl rfl) rfl (by decide)) (by simp only [go_sem, reduceEqDiff, reduceIte, reduceAdd, reduceMul, reduceSub, reduceLT, reduceLeDiff, Nat.reduceBEq, g0, d0, d1, d2, d3, d4]; first | done | rfl) rfl (by simp only [go_sem, Nat.reduceLT]) ?_; simp only [go_sem, reduceEqDiff, reduceIte, reduceAdd, reduceMul, reduceSub, reduceLT, reduceLeDiff, Nat.reduceBEq, g0, d0, d1, d2, d3, d4]))
    exact Aw_ret (retL (M := [0, 3]) (.inl rfl) (by simp only [go_sem, reduceEqDiff, reduceIte, reduceAdd, reduceMul, reduceSub, reduceLT, reduceLeDiff, Nat.reduceBEq]; first | done | rfl) rfl rfl (by rfl) (by simp only [go_sem, reduceEqDiff, reduceIte, reduceAdd, reduceMul, reduceSub, reduceLT, reduceLeDiff, Nat.reduceBEq]; first | done | rfl | (and_intros <;> rfl)) (by decide) (by intro m hm; first | omega | (rcases m with _ | _ | _ | _ | _ | _ | m <;> first | exact ⟨by decide, rfl⟩ | omega)))
  have d4 : decide (((pickV b (q + 1) 6 : Nat) : Int) = 4) = false := decide_eq_false (by omega)
  rw [if_neg c5]
  have hap : (s.top.length + 1) * 40 ≤ 140737488355328 := by have := inv.tp; omega
  refine AC_of Tryz.func41 rfl Tryz.ntmps41 Tryz.results41 (by kernel_rfl) rfl ?_
  simp only [List.zipIdx, List.map, Nat.zero_add, Nat.reduceAdd]
  repeat (first | apply Aw_seq | apply Aw_block | apply Aw_skip | apply Aw_exit | refine Aw_condt rfl ?_ | refine Aw_condf rfl ?_ | ((first | refine qr ?_ | refine qd (by kernel_rfl) (by kernel_rfl) ?_); simp only [go_sem, reduceEqDiff, reduceIte, reduceAdd, reduceMul, reduceSub, reduceLT, reduceLeDiff, Nat.reduceBEq, g0, d0, d1, d2, d3, d4, hap]) | refine dk (by kernel_rfl) ?_ | (refine qx (call_L (N' := [0]) (L := []) (kT) rfl (.cons (.nm rfl) (.nil)) (by decide) (by decide) (by decide) (by simp only [go_sem, reduceEqDiff, reduceIte, reduceAdd, reduceMul, reduceSub, reduceLT, reduceLeDiff, Nat.reduceBEq, g0, d0, d1, d2, d3, d4, hap]; first | done | rfl) (.inl rfl) rfl (by decide)) (by simp only [go_sem, reduceEqDiff, reduceIte, reduceAdd, reduceMul, reduceSub, reduceLT, reduceLeDiff, Nat.reduceBEq, g0, d0, d1, d2, d3, d4, hap]; first | done | rfl) rfl (by simp only [go_sem, Nat.reduceLT]) ?_; simp only [go_sem, reduceEqDiff, reduceIte, reduceAdd, reduceMul, reduceSub, reduceLT, reduceLeDiff, Nat.reduceBEq, g0, d0, d1, d2, d3, d4, hap]) | (refine qx (call_L (N' := [0]) (L := []) (k14) rfl (.cons (.nm rfl) (.cons (.nm rfl) (.nil))) (by decide) (by decide) (by decide) (by simp only [go_sem, reduceEqDiff, reduceIte, reduceAdd, reduceMul, reduceSub, reduceLT, reduceLeDiff, Nat.reduceBEq, g0, d0, d1, d2, d3, d4, hap]; first | done | rfl) (.inl rfl) rfl (by decide)) (by simp only [go_sem, reduceEqDiff, reduceIte, reduceAdd, reduceMul, reduceSub, reduceLT, reduceLeDiff, Nat.reduceBEq, g0, d0, d1, d2, d3, d4, hap]; first | done | rfl) rfl (by simp only [go_sem, Nat.reduceLT]) ?_; simp only [go_sem, reduceEqDiff, reduceIte, reduceAdd, reduceMul, reduceSub, reduceLT, reduceLeDiff, Nat.reduceBEq, g0, d0, d1, d2, d3, d4, hap]) | (refine qx (call_L (N' := [0]) (L := []) (k6) rfl (.cons (.nm rfl) (.cons (.nm rfl) (.nil))) (by decide) (by decide) (by decide) (by simp only [go_sem, reduceEqDiff, reduceIte, reduceAdd, reduceMul, reduceSub, reduceLT, reduceLeDiff, Nat.reduceBEq, g0, d0, d1, d2, d3, d4, hap]; first | done | rfl) (.inl rfl) rfl (by decide)) (by simp only [go_sem, reduceEqDiff, reduceIte, reduceAdd, reduceMul, reduceSub, reduceLT, reduceLeDiff, Nat.reduceBEq, g0, d0, d1, d2, d3, d4, hap]; first | done | rfl) rfl (by simp only [go_sem, Nat.reduceLT]) ?_; simp only [go_sem, reduceEqDiff, reduceIte, reduceAdd, reduceMul, reduceSub, reduceLT, reduceLeDiff, Nat.reduceBEq, g0, d0, d1, d2, d3, d4, hap]))
  exact Aw_ret (retL (M := [0, 23]) (.inl rfl) (by simp only [go_sem, reduceEqDiff, reduceIte, reduceAdd, reduceMul, reduceSub, reduceLT, reduceLeDiff, Nat.reduceBEq]; first | done | rfl) rfl rfl (by rfl) (by simp only [go_sem, reduceEqDiff, reduceIte, reduceAdd, reduceMul, reduceSub, reduceLT, reduceLeDiff, Nat.reduceBEq, sp5, List.map_append, List.map_cons, List.map_nil]; first | done | rfl | (and_intros <;> rfl)) (by decide) (by intro m hm; first | omega | (rcases m with _ | _ | _ | _ | _ | _ | m <;> first | exact ⟨by decide, rfl⟩ | omega)))
structure SpS (s : Sto) : Prop where
  st : SmSt s
  t0 : -1 ≤ s.time
  t1 : s.time ≤ 1000
theorem spoV_fin {b : List Int} (hb : byteL b) {p : Nat} (hp : p ≤ 90000) : SpS (spoV b p).1 ∧ (spoV b p).2 ≤ p + 2010 := by
  obtain ⟨inv, st, hq⟩ := stoV_fin hb hp
  unfold spoV
  generalize stoV b p = sq at inv st hq ⊢
  obtain ⟨s, q⟩ := sq
  dsimp only at inv st hq ⊢
  have i0 := inv.t0
  have i1 := inv.t1
  have hll := inv.h.ll
  have htl := inv.h.tl
  have base : SpS s := ⟨st, by omega, by omega⟩
  split
  · exact ⟨base, by dsimp only; omega⟩
  split
  · refine ⟨⟨⟨st.top, st.lev, st.ll, st.sl, st.rl, st.tl⟩, ?_, ?_⟩, by dsimp only; omega⟩
    · show -1 ≤ (if _ = 0 then (-1 : Int) else 1000); split <;> omega
    · show (if _ = 0 then (-1 : Int) else 1000) ≤ 1000; split <;> omega
  split
  · exact ⟨⟨⟨st.top, st.lev, st.ll, st.sl, st.rl, by show (s.times ++ [s.time + 1]).length ≤ _; rw [List.length_append]; simp; omega⟩, by show -1 ≤ s.time; omega, by show s.time ≤ 1000; omega⟩, by dsimp only; omega⟩
  split
  · exact ⟨⟨⟨st.top, fun r hr => st.lev r (List.mem_of_mem_drop hr), by show (s.levels.drop 1).length ≤ _; rw [List.length_drop]; omega, st.sl, st.rl, st.tl⟩, by show -1 ≤ s.time; omega, by show s.time ≤ 1000; omega⟩, by dsimp only; omega⟩
  split
  · refine ⟨⟨⟨st.top, st.lev, st.ll, ?_, ?_, st.tl⟩, by show -1 ≤ s.time; omega, by show s.time ≤ 1000; omega⟩, by dsimp only; omega⟩
    · show (s.sieves.modifyHead upL).length ≤ _; rw [List.length_modifyHead]; exact st.sl
    · intro x hx
      replace hx : x ∈ s.sieves.modifyHead upL := hx
      have hr := st.rl
      cases hs : s.sieves with
      | nil => rw [hs] at hx; simp at hx
      | cons y r =>
        rw [hs] at hx hr
        rcases List.mem_cons.1 (show x ∈ upL y :: r from hx) with rfl | h
        · exact hr y (by simp)
        · exact hr x (List.mem_cons_of_mem _ h)
  split
  · exact ⟨⟨⟨st.top, st.lev, st.ll, st.sl, st.rl, st.tl⟩, by show -1 ≤ s.time; omega, by show s.time ≤ 1000; omega⟩, by dsimp only; omega⟩
  · refine ⟨⟨⟨⟨?_, ?_⟩, st.lev, st.ll, st.sl, st.rl, st.tl⟩, by show -1 ≤ s.time; omega, by show s.time ≤ 1000; omega⟩, by dsimp only; omega⟩
    · show (s.top ++ [_]).length ≤ _; rw [List.length_append]; have := inv.tp; simp; omega
    · intro e he
      rcases List.mem_append.1 (show e ∈ s.top ++ [_] from he) with h | h
      · exact st.top.key e h
      · obtain rfl := List.mem_singleton.1 h
        show (ByteArray.size ⟨#[]⟩) ≤ _
        decide
end Go.Proofs.YtjolcfkepcmjnabGreat.Ab
