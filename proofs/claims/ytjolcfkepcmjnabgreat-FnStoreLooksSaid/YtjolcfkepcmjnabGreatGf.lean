/-
  Contracts: what is found in a store, and how many sieves may have a key, the program's. No condition.
  Contracts: what a store has of a key, how many sieves may have it, the program's. No condition.
  Contracts: what a store has of a key, how many sieves may have it, the reference's. No condition.
  Plain law: a sieve may have each of its keys; with all letters kept it has no other one. No condition.
  Whatever argument of the seat's kinds can be read as data is plain data of the machine's: lemmas, kind by kind (whole numbers, bools, strings, slices, structs). No condition.
  Contract: the law of looking into sieves gives true, whatever the code. No condition.
-/
import Derived.Test.YtjolcfkepcmjnabGreatGe
import Derived.Test.YtjolcfkepcmjnabGreatGc
import Derived.Deep.Slices
import Derived.ChangeArms
import Derived.DataReads
import Derived.Below
namespace Go.Proofs.YtjolcfkepcmjnabGreat.Ab
open Nat (reduceEqDiff reduceAdd reduceMul reduceSub reduceLT reduceLeDiff)
set_option linter.deprecated false
set_option linter.unusedVariables false
set_option linter.unusedSimpArgs false
open Go Go.Proofs
set_option maxRecDepth 10000
set_option maxHeartbeats 8000000
/-- A store that is one, by its levels and sieves. -/
structure VSt (s : Sto) : Prop where
  ll : s.levels.length = 3
  sl : s.sieves.length = 3
  sv : ∀ (i : Nat) (r : List Ent) (x : Sve), s.levels[i]? = some r → s.sieves[i]? = some x → SvIs s.keep.toNat (keysM r) x ∧ sieveM (keysM r) s.keep = some x ∧ runOk r = true
  kp : 0 ≤ s.keep ∧ s.keep ≤ 5
  tl : s.times.length ≤ 3
theorem vst_of {s : Sto} (h : storeS s = true) : VSt s := by
  unfold storeS headS at h
  simp only [Bool.and_eq_true] at h
  obtain ⟨⟨⟨⟨⟨⟨⟨h1, h2⟩, h3⟩, h4⟩, h5⟩, h6⟩, h7⟩, h8⟩ := h
  have hl := of_decide_eq_true h1
  have hsl := of_decide_eq_true h2
  unfold inB at h3
  simp only [Bool.and_eq_true, decide_eq_true_eq] at h3
  refine ⟨hl, hsl, fun i r x hr hx => ?_, h3, by unfold timesM at h5; rw [Bool.and_eq_true] at h5; exact of_decide_eq_true h5.2⟩
  have := allI_iff.1 h8 i (by have := (List.getElem?_eq_some_iff.1 hr).1; omega)
  unfold sAt at this
  rw [hr, hx] at this
  simp only [Bool.and_eq_true] at this
  have hlv := this.1.1
  unfold lvM at hlv
  simp only [Bool.and_eq_true] at hlv
  obtain ⟨⟨⟨hv1, _⟩, hv3⟩, hv4⟩ := hlv
  cases hs : sieveM (keysM r) s.keep with
  | none => rw [hs] at hv3; cases hv3
  | some y =>
    rw [hs] at hv4
    have : y = x := sveEq_iff.1 hv4
    subst this
    exact ⟨svIs_of hs, rfl, hv1⟩
def findL (keep : Nat) (k : ByteArray) (t : Int) : List (List Ent) → Option Ent
  | [] => none
  | r :: rs => match (if hasM keep (keysM r) k = true then atM r k t else none) with
    | some e => some e
    | none => findL keep k t rs
structure FnI (s : Sto) (k : ByteArray) (t : Int) (R : Option Ent) where
  i : Nat
  hi : i ≤ 3
  hf : findL s.keep.toNat k t (s.levels.drop i) = R
def ksO (k : ByteArray) : Obj := ⟨9, 1, false, [[.d (.s (.string k))]]⟩
@[go_sem] theorem r_ksO (k : ByteArray) : ksO k = ⟨9, 1, false, [[.d (.s (.string k))]]⟩ := rfl
theorem looks1_ac {keep : Nat} {ks : List ByteArray} {x : Sve} (h : SvIs keep ks x) (k : ByteArray) (hk : smK k) : AC Tryz.prog 43 [sveP x, .c (.ph 0 0 0)] (hpL [some (ksO k)]) 1 ⟨.t (bT (hasM keep ks k)), hpL [some (ksO k)], 1⟩ := by
  have k1 := has_ac h k hk
  refine AC_of Tryz.func43 rfl Tryz.ntmps43 Tryz.results43 (by kernel_rfl) rfl ?_
  simp only [List.zipIdx, List.map, Nat.zero_add, Nat.reduceAdd]
  repeat (first | apply Aw_seq | apply Aw_block | apply Aw_skip | apply Aw_exit | refine Aw_condt rfl ?_ | refine Aw_condf rfl ?_ | ((first | refine qr ?_ | refine qd (by kernel_rfl) (by kernel_rfl) ?_); simp only [go_sem, reduceEqDiff, reduceIte, reduceAdd, reduceMul, reduceSub, reduceLT, reduceLeDiff, Nat.reduceBEq]) | refine dk (by kernel_rfl) ?_ | (refine qp (k1) (by simp only [go_sem, reduceEqDiff, reduceIte, reduceAdd, reduceMul, reduceSub, reduceLT, reduceLeDiff, Nat.reduceBEq]; first | done | rfl) rfl (by simp only [go_sem, Nat.reduceLT]) rfl rfl ?_; simp only [go_sem, reduceEqDiff, reduceIte, reduceAdd, reduceMul, reduceSub, reduceLT, reduceLeDiff, Nat.reduceBEq]))
  exact Aw_ret (retL (M := [0]) (.inl rfl) (by simp only [go_sem, reduceEqDiff, reduceIte, reduceAdd, reduceMul, reduceSub, reduceLT, reduceLeDiff, Nat.reduceBEq]; first | done | rfl) rfl rfl (by rfl) (by simp only [go_sem, reduceEqDiff, reduceIte, reduceAdd, reduceMul, reduceSub, reduceLT, reduceLeDiff, Nat.reduceBEq]; first | done | rfl | (and_intros <;> rfl)) (by decide) (by intro m hm; first | omega | (rcases m with _ | _ | _ | _ | _ | _ | m <;> first | exact ⟨by decide, rfl⟩ | omega)))
def looksM (s : Sto) (k : ByteArray) : Nat := (s.levels.filter fun r => hasM s.keep.toNat (keysM r) k).length
theorem count_looks (s : Sto) (hv : VSt s) (k : ByteArray) (hk : smK k) : AC Tryz.prog 33 [stT s, .c (.fn 43 [.ph 0 0 0])] (hpL [some (ksO k)]) 1 ⟨.t (iT (looksM s k : Nat)), hpL [some (ksO k)], 1⟩ := by
  obtain ⟨top, levels, sieves, keep, time, times⟩ := s
  obtain ⟨a, b, c, rfl⟩ := len3 hv.ll
  obtain ⟨x, y, z, rfl⟩ := len3 hv.sl
  have k1 := looks1_ac (hv.sv 0 a x rfl rfl).1 k hk
  have k2 := looks1_ac (hv.sv 1 b y rfl rfl).1 k hk
  have k3 := looks1_ac (hv.sv 2 c z rfl rfl).1 k hk
  unfold looksM
  simp only [List.filter_cons, List.filter_nil]
  have l0 : decide ((0 : Int) < 3) = true := rfl
  have l1 : decide ((1 : Int) < 3) = true := rfl
  have l2 : decide ((2 : Int) < 3) = true := rfl
  have l3 : decide ((3 : Int) < 3) = false := rfl
  have w0 : IntKind.i64.wrap ((0 : Int) + 1) = 1 := rfl
  have w1 : IntKind.i64.wrap ((1 : Int) + 1) = 2 := rfl
  have w2 : IntKind.i64.wrap ((2 : Int) + 1) = 3 := rfl
  dsimp only at k1 k2 k3 ⊢
  generalize hasM keep.toNat (keysM a) k = ba at k1 ⊢
  generalize hasM keep.toNat (keysM b) k = bb at k2 ⊢
  generalize hasM keep.toNat (keysM c) k = bc at k3 ⊢
  cases ba <;> cases bb <;> cases bc
  · refine AC_of Tryz.func33 rfl Tryz.ntmps33 Tryz.results33 (by kernel_rfl) rfl ?_
    simp only [List.zipIdx, List.map, Nat.zero_add, Nat.reduceAdd]
    repeat (first | apply Aw_seq | apply Aw_block | apply Aw_skip | apply Aw_exit | refine Aw_condt rfl ?_ | refine Aw_condf rfl ?_ | ((first | refine qr ?_ | refine qd (by kernel_rfl) (by kernel_rfl) ?_); simp only [go_sem, reduceEqDiff, reduceIte, reduceAdd, reduceMul, reduceSub, reduceLT, reduceLeDiff, Nat.reduceBEq]) | refine dk (by kernel_rfl) ?_)
    refine Aw_rounds 4 ?_
    refine AwR_succ ?_
    repeat (first | apply Aw_seq | apply Aw_block | apply Aw_skip | apply Aw_exit | refine Aw_condt rfl ?_ | refine Aw_condf rfl ?_ | ((first | refine qr ?_ | refine qd (by kernel_rfl) (by kernel_rfl) ?_); simp only [go_sem, reduceEqDiff, reduceIte, reduceAdd, reduceMul, reduceSub, reduceLT, reduceLeDiff, Nat.reduceBEq, l0, l1, l2, l3, w0, w1, w2]) | refine dk (by kernel_rfl) ?_ | (refine ex_callv (by simp only [go_sem, reduceEqDiff, reduceIte, reduceAdd, reduceMul, reduceSub, reduceLT, reduceLeDiff, Nat.reduceBEq, l0, l1, l2, l3, w0, w1, w2]; first | done | rfl) (call_V (N' := [0]) (L := []) 1 (k1) rfl (.cons (.nm rfl) (.nil)) (by first | exact .cons (arg_nm rfl rfl) (.nil) | (simp only [capT, List.map]; exact .cons (arg_nm rfl rfl) (.nil))) (by decide) (by decide) (by decide) (by simp only [go_sem, reduceEqDiff, reduceIte, reduceAdd, reduceMul, reduceSub, reduceLT, reduceLeDiff, Nat.reduceBEq, l0, l1, l2, l3, w0, w1, w2]; first | done | rfl) (.inl rfl) rfl (by decide)) (by simp only [go_sem, reduceEqDiff, reduceIte, reduceAdd, reduceMul, reduceSub, reduceLT, reduceLeDiff, Nat.reduceBEq, l0, l1, l2, l3, w0, w1, w2]; first | done | rfl) rfl (by simp only [go_sem, Nat.reduceLT]) ?_; simp only [go_sem, reduceEqDiff, reduceIte, reduceAdd, reduceMul, reduceSub, reduceLT, reduceLeDiff, Nat.reduceBEq, l0, l1, l2, l3, w0, w1, w2]) | (refine ex_callv (by simp only [go_sem, reduceEqDiff, reduceIte, reduceAdd, reduceMul, reduceSub, reduceLT, reduceLeDiff, Nat.reduceBEq, l0, l1, l2, l3, w0, w1, w2]; first | done | rfl) (call_V (N' := [0]) (L := []) 1 (k2) rfl (.cons (.nm rfl) (.nil)) (by first | exact .cons (arg_nm rfl rfl) (.nil) | (simp only [capT, List.map]; exact .cons (arg_nm rfl rfl) (.nil))) (by decide) (by decide) (by decide) (by simp only [go_sem, reduceEqDiff, reduceIte, reduceAdd, reduceMul, reduceSub, reduceLT, reduceLeDiff, Nat.reduceBEq, l0, l1, l2, l3, w0, w1, w2]; first | done | rfl) (.inl rfl) rfl (by decide)) (by simp only [go_sem, reduceEqDiff, reduceIte, reduceAdd, reduceMul, reduceSub, reduceLT, reduceLeDiff, Nat.reduceBEq, l0, l1, l2, l3, w0, w1, w2]; first | done | rfl) rfl (by simp only [go_sem, Nat.reduceLT]) ?_; simp only [go_sem, reduceEqDiff, reduceIte, reduceAdd, reduceMul, reduceSub, reduceLT, reduceLeDiff, Nat.reduceBEq, l0, l1, l2, l3, w0, w1, w2]) | (refine ex_callv (by simp only [go_sem, reduceEqDiff, reduceIte, reduceAdd, reduceMul, reduceSub, reduceLT, reduceLeDiff, Nat.reduceBEq, l0, l1, l2, l3, w0, w1, w2]; first | done | rfl) (call_V (N' := [0]) (L := []) 1 (k3) rfl (.cons (.nm rfl) (.nil)) (by first | exact .cons (arg_nm rfl rfl) (.nil) | (simp only [capT, List.map]; exact .cons (arg_nm rfl rfl) (.nil))) (by decide) (by decide) (by decide) (by simp only [go_sem, reduceEqDiff, reduceIte, reduceAdd, reduceMul, reduceSub, reduceLT, reduceLeDiff, Nat.reduceBEq, l0, l1, l2, l3, w0, w1, w2]; first | done | rfl) (.inl rfl) rfl (by decide)) (by simp only [go_sem, reduceEqDiff, reduceIte, reduceAdd, reduceMul, reduceSub, reduceLT, reduceLeDiff, Nat.reduceBEq, l0, l1, l2, l3, w0, w1, w2]; first | done | rfl) rfl (by simp only [go_sem, Nat.reduceLT]) ?_; simp only [go_sem, reduceEqDiff, reduceIte, reduceAdd, reduceMul, reduceSub, reduceLT, reduceLeDiff, Nat.reduceBEq, l0, l1, l2, l3, w0, w1, w2]))
    exact Aw_ret (retL (M := [0]) (.inl rfl) (by simp only [go_sem, reduceEqDiff, reduceIte, reduceAdd, reduceMul, reduceSub, reduceLT, reduceLeDiff, Nat.reduceBEq]; first | done | rfl) rfl rfl (by rfl) (by simp only [go_sem, reduceEqDiff, reduceIte, reduceAdd, reduceMul, reduceSub, reduceLT, reduceLeDiff, Nat.reduceBEq]; first | done | rfl | (and_intros <;> rfl)) (by decide) (by intro m hm; first | omega | (rcases m with _ | _ | _ | _ | _ | _ | m <;> first | exact ⟨by decide, rfl⟩ | omega)))
  · refine AC_of Tryz.func33 rfl Tryz.ntmps33 Tryz.results33 (by kernel_rfl) rfl ?_
    simp only [List.zipIdx, List.map, Nat.zero_add, Nat.reduceAdd]
    repeat (first | apply Aw_seq | apply Aw_block | apply Aw_skip | apply Aw_exit | refine Aw_condt rfl ?_ | refine Aw_condf rfl ?_ | ((first | refine qr ?_ | refine qd (by kernel_rfl) (by kernel_rfl) ?_); simp only [go_sem, reduceEqDiff, reduceIte, reduceAdd, reduceMul, reduceSub, reduceLT, reduceLeDiff, Nat.reduceBEq]) | refine dk (by kernel_rfl) ?_)
    refine Aw_rounds 4 ?_
    refine AwR_succ ?_
    repeat (first | apply Aw_seq | apply Aw_block | apply Aw_skip | apply Aw_exit | refine Aw_condt rfl ?_ | refine Aw_condf rfl ?_ | ((first | refine qr ?_ | refine qd (by kernel_rfl) (by kernel_rfl) ?_); simp only [go_sem, reduceEqDiff, reduceIte, reduceAdd, reduceMul, reduceSub, reduceLT, reduceLeDiff, Nat.reduceBEq, l0, l1, l2, l3, w0, w1, w2]) | refine dk (by kernel_rfl) ?_ | (refine ex_callv (by simp only [go_sem, reduceEqDiff, reduceIte, reduceAdd, reduceMul, reduceSub, reduceLT, reduceLeDiff, Nat.reduceBEq, l0, l1, l2, l3, w0, w1, w2]; first | done | rfl) (call_V (N' := [0]) (L := []) 1 (k1) rfl (.cons (.nm rfl) (.nil)) (by first | exact .cons (arg_nm rfl rfl) (.nil) | (simp only [capT, List.map]; exact .cons (arg_nm rfl rfl) (.nil))) (by decide) (by decide) (by decide) (by simp only [go_sem, reduceEqDiff, reduceIte, reduceAdd, reduceMul, reduceSub, reduceLT, reduceLeDiff, Nat.reduceBEq, l0, l1, l2, l3, w0, w1, w2]; first | done | rfl) (.inl rfl) rfl (by decide)) (by simp only [go_sem, reduceEqDiff, reduceIte, reduceAdd, reduceMul, reduceSub, reduceLT, reduceLeDiff, Nat.reduceBEq, l0, l1, l2, l3, w0, w1, w2]; first | done | rfl) rfl (by simp only [go_sem, Nat.reduceLT]) ?_; simp only [go_sem, reduceEqDiff, reduceIte, reduceAdd, reduceMul, reduceSub, reduceLT, reduceLeDiff, Nat.reduceBEq, l0, l1, l2, l3, w0, w1, w2]) | (refine ex_callv (by simp only [go_sem, reduceEqDiff, reduceIte, reduceAdd, reduceMul, reduceSub, reduceLT, reduceLeDiff, Nat.reduceBEq, l0, l1, l2, l3, w0, w1, w2]; first | done | rfl) (call_V (N' := [0]) (L := []) 1 (k2) rfl (.cons (.nm rfl) (.nil)) (by first | exact .cons (arg_nm rfl rfl) (.nil) | (simp only [capT, List.map]; exact .cons (arg_nm rfl rfl) (.nil))) (by decide) (by decide) (by decide) (by simp only [go_sem, reduceEqDiff, reduceIte, reduceAdd, reduceMul, reduceSub, reduceLT, reduceLeDiff, Nat.reduceBEq, l0, l1, l2, l3, w0, w1, w2]; first | done | rfl) (.inl rfl) rfl (by decide)) (by simp only [go_sem, reduceEqDiff, reduceIte, reduceAdd, reduceMul, reduceSub, reduceLT, reduceLeDiff, Nat.reduceBEq, l0, l1, l2, l3, w0, w1, w2]; first | done | rfl) rfl (by simp only [go_sem, Nat.reduceLT]) ?_; simp only [go_sem, reduceEqDiff, reduceIte, reduceAdd, reduceMul, reduceSub, reduceLT, reduceLeDiff, Nat.reduceBEq, l0, l1, l2, l3, w0, w1, w2]) | (refine ex_callv (by simp only [go_sem, reduceEqDiff, reduceIte, reduceAdd, reduceMul, reduceSub, reduceLT, reduceLeDiff, Nat.reduceBEq, l0, l1, l2, l3, w0, w1, w2]; first | done | rfl) (call_V (N' := [0]) (L := []) 1 (k3) rfl (.cons (.nm rfl) (.nil)) (by first | exact .cons (arg_nm rfl rfl) (.nil) | (simp only [capT, List.map]; exact .cons (arg_nm rfl rfl) (.nil))) (by decide) (by decide) (by decide) (by simp only [go_sem, reduceEqDiff, reduceIte, reduceAdd, reduceMul, reduceSub, reduceLT, reduceLeDiff, Nat.reduceBEq, l0, l1, l2, l3, w0, w1, w2]; first | done | rfl) (.inl rfl) rfl (by decide)) (by simp only [go_sem, reduceEqDiff, reduceIte, reduceAdd, reduceMul, reduceSub, reduceLT, reduceLeDiff, Nat.reduceBEq, l0, l1, l2, l3, w0, w1, w2]; first | done | rfl) rfl (by simp only [go_sem, Nat.reduceLT]) ?_; simp only [go_sem, reduceEqDiff, reduceIte, reduceAdd, reduceMul, reduceSub, reduceLT, reduceLeDiff, Nat.reduceBEq, l0, l1, l2, l3, w0, w1, w2]))
    exact Aw_ret (retL (M := [0]) (.inl rfl) (by simp only [go_sem, reduceEqDiff, reduceIte, reduceAdd, reduceMul, reduceSub, reduceLT, reduceLeDiff, Nat.reduceBEq]; first | done | rfl) rfl rfl (by rfl) (by simp only [go_sem, reduceEqDiff, reduceIte, reduceAdd, reduceMul, reduceSub, reduceLT, reduceLeDiff, Nat.reduceBEq]; first | done | rfl | (and_intros <;> rfl)) (by decide) (by intro m hm; first | omega | (rcases m with _ | _ | _ | _ | _ | _ | m <;> first | exact ⟨by decide, rfl⟩ | omega)))
  · refine AC_of Tryz.func33 rfl Tryz.ntmps33 Tryz.results33 (by kernel_rfl) rfl ?_
    simp only [List.zipIdx, List.map, Nat.zero_add, Nat.reduceAdd]
    repeat (first | apply Aw_seq | apply Aw_block | apply Aw_skip | apply Aw_exit | refine Aw_condt rfl ?_ | refine Aw_condf rfl ?_ | ((first | refine qr ?_ | refine qd (by kernel_rfl) (by kernel_rfl) ?_); simp only [go_sem, reduceEqDiff, reduceIte, reduceAdd, reduceMul, reduceSub, reduceLT, reduceLeDiff, Nat.reduceBEq]) | refine dk (by kernel_rfl) ?_)
    refine Aw_rounds 4 ?_
    refine AwR_succ ?_
    repeat (first | apply Aw_seq | apply Aw_block | apply Aw_skip | apply Aw_exit | refine Aw_condt rfl ?_ | refine Aw_condf rfl ?_ | ((first | refine qr ?_ | refine qd (by kernel_rfl) (by kernel_rfl) ?_); simp only [go_sem, reduceEqDiff, reduceIte, reduceAdd, reduceMul, reduceSub, reduceLT, reduceLeDiff, Nat.reduceBEq, l0, l1, l2, l3, w0, w1, w2]) | refine dk (by kernel_rfl) ?_ | (refine ex_callv (by simp only [go_sem, reduceEqDiff, reduceIte, reduceAdd, reduceMul, reduceSub, reduceLT, reduceLeDiff, Nat.reduceBEq, l0, l1, l2, l3, w0, w1, w2]; first | done | rfl) (call_V (N' := [0]) (L := []) 1 (k1) rfl (.cons (.nm rfl) (.nil)) (by first | exact .cons (arg_nm rfl rfl) (.nil) | (simp only [capT, List.map]; exact .cons (arg_nm rfl rfl) (.nil))) (by decide) (by decide) (by decide) (by simp only [go_sem, reduceEqDiff, reduceIte, reduceAdd, reduceMul, reduceSub, reduceLT, reduceLeDiff, Nat.reduceBEq, l0, l1, l2, l3, w0, w1, w2]; first | done | rfl) (.inl rfl) rfl (by decide)) (by simp only [go_sem, reduceEqDiff, reduceIte, reduceAdd, reduceMul, reduceSub, reduceLT, reduceLeDiff, Nat.reduceBEq, l0, l1, l2, l3, w0, w1, w2]; first | done | rfl) rfl (by simp only [go_sem, Nat.reduceLT]) ?_; simp only [go_sem, reduceEqDiff, reduceIte, reduceAdd, reduceMul, reduceSub, reduceLT, reduceLeDiff, Nat.reduceBEq, l0, l1, l2, l3, w0, w1, w2]) | (refine ex_callv (by simp only [go_sem, reduceEqDiff, reduceIte, reduceAdd, reduceMul, reduceSub, reduceLT, reduceLeDiff, Nat.reduceBEq, l0, l1, l2, l3, w0, w1, w2]; first | done | rfl) (call_V (N' := [0]) (L := []) 1 (k2) rfl (.cons (.nm rfl) (.nil)) (by first | exact .cons (arg_nm rfl rfl) (.nil) | (simp only [capT, List.map]; exact .cons (arg_nm rfl rfl) (.nil))) (by decide) (by decide) (by decide) (by simp only [go_sem, reduceEqDiff, reduceIte, reduceAdd, reduceMul, reduceSub, reduceLT, reduceLeDiff, Nat.reduceBEq, l0, l1, l2, l3, w0, w1, w2]; first | done | rfl) (.inl rfl) rfl (by decide)) (by simp only [go_sem, reduceEqDiff, reduceIte, reduceAdd, reduceMul, reduceSub, reduceLT, reduceLeDiff, Nat.reduceBEq, l0, l1, l2, l3, w0, w1, w2]; first | done | rfl) rfl (by simp only [go_sem, Nat.reduceLT]) ?_; simp only [go_sem, reduceEqDiff, reduceIte, reduceAdd, reduceMul, reduceSub, reduceLT, reduceLeDiff, Nat.reduceBEq, l0, l1, l2, l3, w0, w1, w2]) | (refine ex_callv (by simp only [go_sem, reduceEqDiff, reduceIte, reduceAdd, reduceMul, reduceSub, reduceLT, reduceLeDiff, Nat.reduceBEq, l0, l1, l2, l3, w0, w1, w2]; first | done | rfl) (call_V (N' := [0]) (L := []) 1 (k3) rfl (.cons (.nm rfl) (.nil)) (by first | exact .cons (arg_nm rfl rfl) (.nil) | (simp only [capT, List.map]; exact .cons (arg_nm rfl rfl) (.nil))) (by decide) (by decide) (by decide) (by simp only [go_sem, reduceEqDiff, reduceIte, reduceAdd, reduceMul, reduceSub, reduceLT, reduceLeDiff, Nat.reduceBEq, l0, l1, l2, l3, w0, w1, w2]; first | done | rfl) (.inl rfl) rfl (by decide)) (by simp only [go_sem, reduceEqDiff, reduceIte, reduceAdd, reduceMul, reduceSub, reduceLT, reduceLeDiff, Nat.reduceBEq, l0, l1, l2, l3, w0, w1, w2]; first | done | rfl) rfl (by simp only [go_sem, Nat.reduceLT]) ?_; simp only [go_sem, reduceEqDiff, reduceIte, reduceAdd, reduceMul, reduceSub, reduceLT, reduceLeDiff, Nat.reduceBEq, l0, l1, l2, l3, w0, w1, w2]))
    exact Aw_ret (retL (M := [0]) (.inl rfl) (by simp only [go_sem, reduceEqDiff, reduceIte, reduceAdd, reduceMul, reduceSub, reduceLT, reduceLeDiff, Nat.reduceBEq]; first | done | rfl) rfl rfl (by rfl) (by simp only [go_sem, reduceEqDiff, reduceIte, reduceAdd, reduceMul, reduceSub, reduceLT, reduceLeDiff, Nat.reduceBEq]; first | done | rfl | (and_intros <;> rfl)) (by decide) (by intro m hm; first | omega | (rcases m with _ | _ | _ | _ | _ | _ | m <;> first | exact ⟨by decide, rfl⟩ | omega)))
  · refine AC_of Tryz.func33 rfl Tryz.ntmps33 Tryz.results33 (by kernel_rfl) rfl ?_
    simp only [List.zipIdx, List.map, Nat.zero_add, Nat.reduceAdd]
    repeat (first | apply Aw_seq | apply Aw_block | apply Aw_skip | apply Aw_exit | refine Aw_condt rfl ?_ | refine Aw_condf rfl ?_ | ((first | refine qr ?_ | refine qd (by kernel_rfl) (by kernel_rfl) ?_); simp only [go_sem, reduceEqDiff, reduceIte, reduceAdd, reduceMul, reduceSub, reduceLT, reduceLeDiff, Nat.reduceBEq]) | refine dk (by kernel_rfl) ?_)
    refine Aw_rounds 4 ?_
    refine AwR_succ ?_
    repeat (first | apply Aw_seq | apply Aw_block | apply Aw_skip | apply Aw_exit | refine Aw_condt rfl ?_ | refine Aw_condf rfl ?_ | ((first | refine qr ?_ | refine qd (by kernel_rfl) (by kernel_rfl) ?_); simp only [go_sem, reduceEqDiff, reduceIte, reduceAdd, reduceMul, reduceSub, reduceLT, reduceLeDiff, Nat.reduceBEq, l0, l1, l2, l3, w0, w1, w2]) | refine dk (by kernel_rfl) ?_ | (refine ex_callv (by simp only [go_sem, reduceEqDiff, reduceIte, reduceAdd, reduceMul, reduceSub, reduceLT, reduceLeDiff, Nat.reduceBEq, l0, l1, l2, l3, w0, w1, w2]; first | done | rfl) (call_V (N' := [0]) (L := []) 1 (k1) rfl (.cons (.nm rfl) (.nil)) (by first | exact .cons (arg_nm rfl rfl) (.nil) | (simp only [capT, List.map]; exact .cons (arg_nm rfl rfl) (.nil))) (by decide) (by decide) (by decide) (by simp only [go_sem, reduceEqDiff, reduceIte, reduceAdd, reduceMul, reduceSub, reduceLT, reduceLeDiff, Nat.reduceBEq, l0, l1, l2, l3, w0, w1, w2]; first | done | rfl) (.inl rfl) rfl (by decide)) (by simp only [go_sem, reduceEqDiff, reduceIte, reduceAdd, reduceMul, reduceSub, reduceLT, reduceLeDiff, Nat.reduceBEq, l0, l1, l2, l3, w0, w1, w2]; first | done | rfl) rfl (by simp only [go_sem, Nat.reduceLT]) ?_; simp only [go_sem, reduceEqDiff, reduceIte, reduceAdd, reduceMul, reduceSub, reduceLT, reduceLeDiff, Nat.reduceBEq, l0, l1, l2, l3, w0, w1, w2]) | (refine ex_callv (by simp only [go_sem, reduceEqDiff, reduceIte, reduceAdd, reduceMul, reduceSub, reduceLT, reduceLeDiff, Nat.reduceBEq, l0, l1, l2, l3, w0, w1, w2]; first | done | rfl) (call_V (N' := [0]) (L := []) 1 (k2) rfl (.cons (.nm rfl) (.nil)) (by first | exact .cons (arg_nm rfl rfl) (.nil) | (simp only [capT, List.map]; exact .cons (arg_nm rfl rfl) (.nil))) (by decide) (by decide) (by decide) (by simp only [go_sem, reduceEqDiff, reduceIte, reduceAdd, reduceMul, reduceSub, reduceLT, reduceLeDiff, Nat.reduceBEq, l0, l1, l2, l3, w0, w1, w2]; first | done | rfl) (.inl rfl) rfl (by decide)) (by simp only [go_sem, reduceEqDiff, reduceIte, reduceAdd, reduceMul, reduceSub, reduceLT, reduceLeDiff, Nat.reduceBEq, l0, l1, l2, l3, w0, w1, w2]; first | done | rfl) rfl (by simp only [go_sem, Nat.reduceLT]) ?_; simp only [go_sem, reduceEqDiff, reduceIte, reduceAdd, reduceMul, reduceSub, reduceLT, reduceLeDiff, Nat.reduceBEq, l0, l1, l2, l3, w0, w1, w2]) | (refine ex_callv (by simp only [go_sem, reduceEqDiff, reduceIte, reduceAdd, reduceMul, reduceSub, reduceLT, reduceLeDiff, Nat.reduceBEq, l0, l1, l2, l3, w0, w1, w2]; first | done | rfl) (call_V (N' := [0]) (L := []) 1 (k3) rfl (.cons (.nm rfl) (.nil)) (by first | exact .cons (arg_nm rfl rfl) (.nil) | (simp only [capT, List.map]; exact .cons (arg_nm rfl rfl) (.nil))) (by decide) (by decide) (by decide) (by simp only [go_sem, reduceEqDiff, reduceIte, reduceAdd, reduceMul, reduceSub, reduceLT, reduceLeDiff, Nat.reduceBEq, l0, l1, l2, l3, w0, w1, w2]; first | done | rfl) (.inl rfl) rfl (by decide)) (by simp only [go_sem, reduceEqDiff, reduceIte, reduceAdd, reduceMul, reduceSub, reduceLT, reduceLeDiff, Nat.reduceBEq, l0, l1, l2, l3, w0, w1, w2]; first | done | rfl) rfl (by simp only [go_sem, Nat.reduceLT]) ?_; simp only [go_sem, reduceEqDiff, reduceIte, reduceAdd, reduceMul, reduceSub, reduceLT, reduceLeDiff, Nat.reduceBEq, l0, l1, l2, l3, w0, w1, w2]))
    exact Aw_ret (retL (M := [0]) (.inl rfl) (by simp only [go_sem, reduceEqDiff, reduceIte, reduceAdd, reduceMul, reduceSub, reduceLT, reduceLeDiff, Nat.reduceBEq]; first | done | rfl) rfl rfl (by rfl) (by simp only [go_sem, reduceEqDiff, reduceIte, reduceAdd, reduceMul, reduceSub, reduceLT, reduceLeDiff, Nat.reduceBEq]; first | done | rfl | (and_intros <;> rfl)) (by decide) (by intro m hm; first | omega | (rcases m with _ | _ | _ | _ | _ | _ | m <;> first | exact ⟨by decide, rfl⟩ | omega)))
  · refine AC_of Tryz.func33 rfl Tryz.ntmps33 Tryz.results33 (by kernel_rfl) rfl ?_
    simp only [List.zipIdx, List.map, Nat.zero_add, Nat.reduceAdd]
    repeat (first | apply Aw_seq | apply Aw_block | apply Aw_skip | apply Aw_exit | refine Aw_condt rfl ?_ | refine Aw_condf rfl ?_ | ((first | refine qr ?_ | refine qd (by kernel_rfl) (by kernel_rfl) ?_); simp only [go_sem, reduceEqDiff, reduceIte, reduceAdd, reduceMul, reduceSub, reduceLT, reduceLeDiff, Nat.reduceBEq]) | refine dk (by kernel_rfl) ?_)
    refine Aw_rounds 4 ?_
    refine AwR_succ ?_
    repeat (first | apply Aw_seq | apply Aw_block | apply Aw_skip | apply Aw_exit | refine Aw_condt rfl ?_ | refine Aw_condf rfl ?_ | ((first | refine qr ?_ | refine qd (by kernel_rfl) (by kernel_rfl) ?_); simp only [go_sem, reduceEqDiff, reduceIte, reduceAdd, reduceMul, reduceSub, reduceLT, reduceLeDiff, Nat.reduceBEq, l0, l1, l2, l3, w0, w1, w2]) | refine dk (by kernel_rfl) ?_ | (refine ex_callv (by simp only [go_sem, reduceEqDiff, reduceIte, reduceAdd, reduceMul, reduceSub, reduceLT, reduceLeDiff, Nat.reduceBEq, l0, l1, l2, l3, w0, w1, w2]; first | done | rfl) (call_V (N' := [0]) (L := []) 1 (k1) rfl (.cons (.nm rfl) (.nil)) (by first | exact .cons (arg_nm rfl rfl) (.nil) | (simp only [capT, List.map]; exact .cons (arg_nm rfl rfl) (.nil))) (by decide) (by decide) (by decide) (by simp only [go_sem, reduceEqDiff, reduceIte, reduceAdd, reduceMul, reduceSub, reduceLT, reduceLeDiff, Nat.reduceBEq, l0, l1, l2, l3, w0, w1, w2]; first | done | rfl) (.inl rfl) rfl (by decide)) (by simp only [go_sem, reduceEqDiff, reduceIte, reduceAdd, reduceMul, reduceSub, reduceLT, reduceLeDiff, Nat.reduceBEq, l0, l1, l2, l3, w0, w1, w2]; first | done | rfl) rfl (by simp only [go_sem, Nat.reduceLT]) ?_; simp only [go_sem, reduceEqDiff, reduceIte, reduceAdd, reduceMul, reduceSub, reduceLT, reduceLeDiff, Nat.reduceBEq, l0, l1, l2, l3, w0, w1, w2]) | (refine ex_callv (by simp only [go_sem, reduceEqDiff, reduceIte, reduceAdd, reduceMul, reduceSub, reduceLT, reduceLeDiff, Nat.reduceBEq, l0, l1, l2, l3, w0, w1, w2]; first | done | rfl) (call_V (N' := [0]) (L := []) 1 (k2) rfl (.cons (.nm rfl) (.nil)) (by first | exact .cons (arg_nm rfl rfl) (.nil) | (simp only [capT, List.map]; exact .cons (arg_nm rfl rfl) (.nil))) (by decide) (by decide) (by decide) (by simp only [go_sem, reduceEqDiff, reduceIte, reduceAdd, reduceMul, reduceSub, reduceLT, reduceLeDiff, Nat.reduceBEq, l0, l1, l2, l3, w0, w1, w2]; first | done | rfl) (.inl rfl) rfl (by decide)) (by simp only [go_sem, reduceEqDiff, reduceIte, reduceAdd, reduceMul, reduceSub, reduceLT, reduceLeDiff, Nat.reduceBEq, l0, l1, l2, l3, w0, w1, w2]; first | done | rfl) rfl (by simp only [go_sem, Nat.reduceLT]) ?_; simp only [go_sem, reduceEqDiff, reduceIte, reduceAdd, reduceMul, reduceSub, reduceLT, reduceLeDiff, Nat.reduceBEq, l0, l1, l2, l3, w0, w1, w2]) | (refine ex_callv (by simp only [go_sem, reduceEqDiff, reduceIte, reduceAdd, reduceMul, reduceSub, reduceLT, reduceLeDiff, Nat.reduceBEq, l0, l1, l2, l3, w0, w1, w2]; first | done | rfl) (call_V (N' := [0]) (L := []) 1 (k3) rfl (.cons (.nm rfl) (.nil)) (by first | exact .cons (arg_nm rfl rfl) (.nil) | (simp only [capT, List.map]; exact .cons (arg_nm rfl rfl) (.nil))) (by decide) (by decide) (by decide) (by simp only [go_sem, reduceEqDiff, reduceIte, reduceAdd, reduceMul, reduceSub, reduceLT, reduceLeDiff, Nat.reduceBEq, l0, l1, l2, l3, w0, w1, w2]; first | done | rfl) (.inl rfl) rfl (by decide)) (by simp only [go_sem, reduceEqDiff, reduceIte, reduceAdd, reduceMul, reduceSub, reduceLT, reduceLeDiff, Nat.reduceBEq, l0, l1, l2, l3, w0, w1, w2]; first | done | rfl) rfl (by simp only [go_sem, Nat.reduceLT]) ?_; simp only [go_sem, reduceEqDiff, reduceIte, reduceAdd, reduceMul, reduceSub, reduceLT, reduceLeDiff, Nat.reduceBEq, l0, l1, l2, l3, w0, w1, w2]))
    exact Aw_ret (retL (M := [0]) (.inl rfl) (by simp only [go_sem, reduceEqDiff, reduceIte, reduceAdd, reduceMul, reduceSub, reduceLT, reduceLeDiff, Nat.reduceBEq]; first | done | rfl) rfl rfl (by rfl) (by simp only [go_sem, reduceEqDiff, reduceIte, reduceAdd, reduceMul, reduceSub, reduceLT, reduceLeDiff, Nat.reduceBEq]; first | done | rfl | (and_intros <;> rfl)) (by decide) (by intro m hm; first | omega | (rcases m with _ | _ | _ | _ | _ | _ | m <;> first | exact ⟨by decide, rfl⟩ | omega)))
  · refine AC_of Tryz.func33 rfl Tryz.ntmps33 Tryz.results33 (by kernel_rfl) rfl ?_
    simp only [List.zipIdx, List.map, Nat.zero_add, Nat.reduceAdd]
    repeat (first | apply Aw_seq | apply Aw_block | apply Aw_skip | apply Aw_exit | refine Aw_condt rfl ?_ | refine Aw_condf rfl ?_ | ((first | refine qr ?_ | refine qd (by kernel_rfl) (by kernel_rfl) ?_); simp only [go_sem, reduceEqDiff, reduceIte, reduceAdd, reduceMul, reduceSub, reduceLT, reduceLeDiff, Nat.reduceBEq]) | refine dk (by kernel_rfl) ?_)
    refine Aw_rounds 4 ?_
    refine AwR_succ ?_
    repeat (first | apply Aw_seq | apply Aw_block | apply Aw_skip | apply Aw_exit | refine Aw_condt rfl ?_ | refine Aw_condf rfl ?_ | ((first | refine qr ?_ | refine qd (by kernel_rfl) (by kernel_rfl) ?_); simp only [go_sem, reduceEqDiff, reduceIte, reduceAdd, reduceMul, reduceSub, reduceLT, reduceLeDiff, Nat.reduceBEq, l0, l1, l2, l3, w0, w1, w2]) | refine dk (by kernel_rfl) ?_ | (refine ex_callv (by simp only [go_sem, reduceEqDiff, reduceIte, reduceAdd, reduceMul, reduceSub, reduceLT, reduceLeDiff, Nat.reduceBEq, l0, l1, l2, l3, w0, w1, w2]; first | done | rfl) (call_V (N' := [0]) (L := []) 1 (k1) rfl (.cons (.nm rfl) (.nil)) (by first | exact .cons (arg_nm rfl rfl) (.nil) | (simp only [capT, List.map]; exact .cons (arg_nm rfl rfl) (.nil))) (by decide) (by decide) (by decide) (by simp only [go_sem, reduceEqDiff, reduceIte, reduceAdd, reduceMul, reduceSub, reduceLT, reduceLeDiff, Nat.reduceBEq, l0, l1, l2, l3, w0, w1, w2]; first | done | rfl) (.inl rfl) rfl (by decide)) (by simp only [go_sem, reduceEqDiff, reduceIte, reduceAdd, reduceMul, reduceSub, reduceLT, reduceLeDiff, Nat.reduceBEq, l0, l1, l2, l3, w0, w1, w2]; first | done | rfl) rfl (by simp only [go_sem, Nat.reduceLT]) ?_; simp only [go_sem, reduceEqDiff, reduceIte, reduceAdd, reduceMul, reduceSub, reduceLT, reduceLeDiff, Nat.reduceBEq, l0, l1, l2, l3, w0, w1, w2]) | (refine ex_callv (by simp only [go_sem, reduceEqDiff, reduceIte, reduceAdd, reduceMul, reduceSub, reduceLT, reduceLeDiff, Nat.reduceBEq, l0, l1, l2, l3, w0, w1, w2]; first | done | rfl) (call_V (N' := [0]) (L := []) 1 (k2) rfl (.cons (.nm rfl) (.nil)) (by first | exact .cons (arg_nm rfl rfl) (.nil) | (simp only [capT, List.map]; exact .cons (arg_nm rfl rfl) (.nil))) (by decide) (by decide) (by decide) (by simp only [go_sem, reduceEqDiff, reduceIte, reduceAdd, reduceMul, reduceSub, reduceLT, reduceLeDiff, Nat.reduceBEq, l0, l1, l2, l3, w0, w1, w2]; first | done | rfl) (.inl rfl) rfl (by decide)) (by simp only [go_sem, reduceEqDiff, reduceIte, reduceAdd, reduceMul, reduceSub, reduceLT, reduceLeDiff, Nat.reduceBEq, l0, l1, l2, l3, w0, w1, w2]; first | done | rfl) rfl (by simp only [go_sem, Nat.reduceLT]) ?_; simp only [go_sem, reduceEqDiff, reduceIte, reduceAdd, reduceMul, reduceSub, reduceLT, reduceLeDiff, Nat.reduceBEq, l0, l1, l2, l3, w0, w1, w2]) | (refine ex_callv (by simp only [go_sem, reduceEqDiff, reduceIte, reduceAdd, reduceMul, reduceSub, reduceLT, reduceLeDiff, Nat.reduceBEq, l0, l1, l2, l3, w0, w1, w2]; first | done | rfl) (call_V (N' := [0]) (L := []) 1 (k3) rfl (.cons (.nm rfl) (.nil)) (by first | exact .cons (arg_nm rfl rfl) (.nil) | (simp only [capT, List.map]; exact .cons (arg_nm rfl rfl) (.nil))) (by decide) (by decide) (by decide) (by simp only [go_sem, reduceEqDiff, reduceIte, reduceAdd, reduceMul, reduceSub, reduceLT, reduceLeDiff, Nat.reduceBEq, l0, l1, l2, l3, w0, w1, w2]; first | done | rfl) (.inl rfl) rfl (by decide)) (by simp only [go_sem, reduceEqDiff, reduceIte, reduceAdd, reduceMul, reduceSub, reduceLT, reduceLeDiff, Nat.reduceBEq, l0, l1, l2, l3, w0, w1, w2]; first | done | rfl) rfl (by simp only [go_sem, Nat.reduceLT]) ?_; simp only [go_sem, reduceEqDiff, reduceIte, reduceAdd, reduceMul, reduceSub, reduceLT, reduceLeDiff, Nat.reduceBEq, l0, l1, l2, l3, w0, w1, w2]))
    exact Aw_ret (retL (M := [0]) (.inl rfl) (by simp only [go_sem, reduceEqDiff, reduceIte, reduceAdd, reduceMul, reduceSub, reduceLT, reduceLeDiff, Nat.reduceBEq]; first | done | rfl) rfl rfl (by rfl) (by simp only [go_sem, reduceEqDiff, reduceIte, reduceAdd, reduceMul, reduceSub, reduceLT, reduceLeDiff, Nat.reduceBEq]; first | done | rfl | (and_intros <;> rfl)) (by decide) (by intro m hm; first | omega | (rcases m with _ | _ | _ | _ | _ | _ | m <;> first | exact ⟨by decide, rfl⟩ | omega)))
  · refine AC_of Tryz.func33 rfl Tryz.ntmps33 Tryz.results33 (by kernel_rfl) rfl ?_
    simp only [List.zipIdx, List.map, Nat.zero_add, Nat.reduceAdd]
    repeat (first | apply Aw_seq | apply Aw_block | apply Aw_skip | apply Aw_exit | refine Aw_condt rfl ?_ | refine Aw_condf rfl ?_ | ((first | refine qr ?_ | refine qd (by kernel_rfl) (by kernel_rfl) ?_); simp only [go_sem, reduceEqDiff, reduceIte, reduceAdd, reduceMul, reduceSub, reduceLT, reduceLeDiff, Nat.reduceBEq]) | refine dk (by kernel_rfl) ?_)
    refine Aw_rounds 4 ?_
    refine AwR_succ ?_
    repeat (first | apply Aw_seq | apply Aw_block | apply Aw_skip | apply Aw_exit | refine Aw_condt rfl ?_ | refine Aw_condf rfl ?_ | ((first | refine qr ?_ | refine qd (by kernel_rfl) (by kernel_rfl) ?_); simp only [go_sem, reduceEqDiff, reduceIte, reduceAdd, reduceMul, reduceSub, reduceLT, reduceLeDiff, Nat.reduceBEq, l0, l1, l2, l3, w0, w1, w2]) | refine dk (by kernel_rfl) ?_ | (refine ex_callv (by simp only [go_sem, reduceEqDiff, reduceIte, reduceAdd, reduceMul, reduceSub, reduceLT, reduceLeDiff, Nat.reduceBEq, l0, l1, l2, l3, w0, w1, w2]; first | done | rfl) (call_V (N' := [0]) (L := []) 1 (k1) rfl (.cons (.nm rfl) (.nil)) (by first | exact .cons (arg_nm rfl rfl) (.nil) | (simp only [capT, List.map]; exact .cons (arg_nm rfl rfl) (.nil))) (by decide) (by decide) (by decide) (by simp only [go_sem, reduceEqDiff, reduceIte, reduceAdd, reduceMul, reduceSub, reduceLT, reduceLeDiff, Nat.reduceBEq, l0, l1, l2, l3, w0, w1, w2]; first | done | rfl) (.inl rfl) rfl (by decide)) (by simp only [go_sem, reduceEqDiff, reduceIte, reduceAdd, reduceMul, reduceSub, reduceLT, reduceLeDiff, Nat.reduceBEq, l0, l1, l2, l3, w0, w1, w2]; first | done | rfl) rfl (by simp only [go_sem, Nat.reduceLT]) ?_; simp only [go_sem, reduceEqDiff, reduceIte, reduceAdd, reduceMul, reduceSub, reduceLT, reduceLeDiff, Nat.reduceBEq, l0, l1, l2, l3, w0, w1, w2]) | (refine ex_callv (by simp only [go_sem, reduceEqDiff, reduceIte, reduceAdd, reduceMul, reduceSub, reduceLT, reduceLeDiff, Nat.reduceBEq, l0, l1, l2, l3, w0, w1, w2]; first | done | rfl) (call_V (N' := [0]) (L := []) 1 (k2) rfl (.cons (.nm rfl) (.nil)) (by first | exact .cons (arg_nm rfl rfl) (.nil) | (simp only [capT, List.map]; exact .cons (arg_nm rfl rfl) (.nil))) (by decide) (by decide) (by decide) (by simp only [go_sem, reduceEqDiff, reduceIte, reduceAdd, reduceMul, reduceSub, reduceLT, reduceLeDiff, Nat.reduceBEq, l0, l1, l2, l3, w0, w1, w2]; first | done | rfl) (.inl rfl) rfl (by decide)) (by simp only [go_sem, reduceEqDiff, reduceIte, reduceAdd, reduceMul, reduceSub, reduceLT, reduceLeDiff, Nat.reduceBEq, l0, l1, l2, l3, w0, w1, w2]; first | done | rfl) rfl (by simp only [go_sem, Nat.reduceLT]) ?_; simp only [go_sem, reduceEqDiff, reduceIte, reduceAdd, reduceMul, reduceSub, reduceLT, reduceLeDiff, Nat.reduceBEq, l0, l1, l2, l3, w0, w1, w2]) | (refine ex_callv (by simp only [go_sem, reduceEqDiff, reduceIte, reduceAdd, reduceMul, reduceSub, reduceLT, reduceLeDiff, Nat.reduceBEq, l0, l1, l2, l3, w0, w1, w2]; first | done | rfl) (call_V (N' := [0]) (L := []) 1 (k3) rfl (.cons (.nm rfl) (.nil)) (by first | exact .cons (arg_nm rfl rfl) (.nil) | (simp only [capT, List.map]; exact .cons (arg_nm rfl rfl) (.nil))) (by decide) (by decide) (by decide) (by simp only [go_sem, reduceEqDiff, reduceIte, reduceAdd, reduceMul, reduceSub, reduceLT, reduceLeDiff, Nat.reduceBEq, l0, l1, l2, l3, w0, w1, w2]; first | done | rfl) (.inl rfl) rfl (by decide)) (by simp only [go_sem, reduceEqDiff, reduceIte, reduceAdd, reduceMul, reduceSub, reduceLT, reduceLeDiff, Nat.reduceBEq, l0, l1, l2, l3, w0, w1, w2]; first | done | rfl) rfl (by simp only [go_sem, Nat.reduceLT]) ?_; simp only [go_sem, reduceEqDiff, reduceIte, reduceAdd, reduceMul, reduceSub, reduceLT, reduceLeDiff, Nat.reduceBEq, l0, l1, l2, l3, w0, w1, w2]))
    exact Aw_ret (retL (M := [0]) (.inl rfl) (by simp only [go_sem, reduceEqDiff, reduceIte, reduceAdd, reduceMul, reduceSub, reduceLT, reduceLeDiff, Nat.reduceBEq]; first | done | rfl) rfl rfl (by rfl) (by simp only [go_sem, reduceEqDiff, reduceIte, reduceAdd, reduceMul, reduceSub, reduceLT, reduceLeDiff, Nat.reduceBEq]; first | done | rfl | (and_intros <;> rfl)) (by decide) (by intro m hm; first | omega | (rcases m with _ | _ | _ | _ | _ | _ | m <;> first | exact ⟨by decide, rfl⟩ | omega)))
  · refine AC_of Tryz.func33 rfl Tryz.ntmps33 Tryz.results33 (by kernel_rfl) rfl ?_
    simp only [List.zipIdx, List.map, Nat.zero_add, Nat.reduceAdd]
    repeat (first | apply Aw_seq | apply Aw_block | apply Aw_skip | apply Aw_exit | refine Aw_condt rfl ?_ | refine Aw_condf rfl ?_ | ((first | refine qr ?_ | refine qd (by kernel_rfl) (by kernel_rfl) ?_); simp only [go_sem, reduceEqDiff, reduceIte, reduceAdd, reduceMul, reduceSub, reduceLT, reduceLeDiff, Nat.reduceBEq]) | refine dk (by kernel_rfl) ?_)
    refine Aw_rounds 4 ?_
    refine AwR_succ ?_
    repeat (first | apply Aw_seq | apply Aw_block | apply Aw_skip | apply Aw_exit | refine Aw_condt rfl ?_ | refine Aw_condf rfl ?_ | ((first | refine qr ?_ | refine qd (by kernel_rfl) (by kernel_rfl) ?_); simp only [go_sem, reduceEqDiff, reduceIte, reduceAdd, reduceMul, reduceSub, reduceLT, reduceLeDiff, Nat.reduceBEq, l0, l1, l2, l3, w0, w1, w2]) | refine dk (by kernel_rfl) ?_ | (refine ex_callv (by simp only [go_sem, reduceEqDiff, reduceIte, reduceAdd, reduceMul, reduceSub, reduceLT, reduceLeDiff, Nat.reduceBEq, l0, l1, l2, l3, w0, w1, w2]; first | done | rfl) (call_V (N' := [0]) (L := []) 1 (k1) rfl (.cons (.nm rfl) (.nil)) (by first | exact .cons (arg_nm rfl rfl) (.nil) | (simp only [capT, List.map]; exact .cons (arg_nm rfl rfl) (.nil))) (by decide) (by decide) (by decide) (by simp only [go_sem, reduceEqDiff, reduceIte, reduceAdd, reduceMul, reduceSub, reduceLT, reduceLeDiff, Nat.reduceBEq, l0, l1, l2, l3, w0, w1, w2]; first | done | rfl) (.inl rfl) rfl (by decide)) (by simp only [go_sem, reduceEqDiff, reduceIte, reduceAdd, reduceMul, reduceSub, reduceLT, reduceLeDiff, Nat.reduceBEq, l0, l1, l2, l3, w0, w1, w2]; first | done | rfl) rfl (by simp only [go_sem, Nat.reduceLT]) ?_; simp only [go_sem, reduceEqDiff, reduceIte, reduceAdd, reduceMul, reduceSub, reduceLT, reduceLeDiff, Nat.reduceBEq, l0, l1, l2, l3, w0, w1, w2]) | (refine ex_callv (by simp only [go_sem, reduceEqDiff, reduceIte, reduceAdd, reduceMul, reduceSub, reduceLT, reduceLeDiff, Nat.reduceBEq, l0, l1, l2, l3, w0, w1, w2]; first | done | rfl) (call_V (N' := [0]) (L := []) 1 (k2) rfl (.cons (.nm rfl) (.nil)) (by first | exact .cons (arg_nm rfl rfl) (.nil) | (simp only [capT, List.map]; exact .cons (arg_nm rfl rfl) (.nil))) (by decide) (by decide) (by decide) (by simp only [go_sem, reduceEqDiff, reduceIte, reduceAdd, reduceMul, reduceSub, reduceLT, reduceLeDiff, Nat.reduceBEq, l0, l1, l2, l3, w0, w1, w2]; first | done | rfl) (.inl rfl) rfl (by decide)) (by simp only [go_sem, reduceEqDiff, reduceIte, reduceAdd, reduceMul, reduceSub, reduceLT, reduceLeDiff, Nat.reduceBEq, l0, l1, l2, l3, w0, w1, w2]; first | done | rfl) rfl (by simp only [go_sem, Nat.reduceLT]) ?_; simp only [go_sem, reduceEqDiff, reduceIte, reduceAdd, reduceMul, reduceSub, reduceLT, reduceLeDiff, Nat.reduceBEq, l0, l1, l2, l3, w0, w1, w2]) | (refine ex_callv (by simp only [go_sem, reduceEqDiff, reduceIte, reduceAdd, reduceMul, reduceSub, reduceLT, reduceLeDiff, Nat.reduceBEq, l0, l1, l2, l3, w0, w1, w2]; first | done | rfl) (call_V (N' := [0]) (L := []) 1 (k3) rfl (.cons (.nm rfl) (.nil)) (by first | exact .cons (arg_nm rfl rfl) (.nil) | (simp only [capT, List.map]; exact .cons (arg_nm rfl rfl) (.nil))) (by decide) (by decide) (by decide) (by simp only [go_sem, reduceEqDiff, reduceIte, reduceAdd, reduceMul, reduceSub, reduceLT, reduceLeDiff, Nat.reduceBEq, l0, l1, l2, l3, w0, w1, w2]; first | done | rfl) (.inl rfl) rfl (by decide)) (by simp only [go_sem, reduceEqDiff, reduceIte, reduceAdd, reduceMul, reduceSub, reduceLT, reduceLeDiff, Nat.reduceBEq, l0, l1, l2, l3, w0, w1, w2]; first | done | rfl) rfl (by simp only [go_sem, Nat.reduceLT]) ?_; simp only [go_sem, reduceEqDiff, reduceIte, reduceAdd, reduceMul, reduceSub, reduceLT, reduceLeDiff, Nat.reduceBEq, l0, l1, l2, l3, w0, w1, w2]))
    exact Aw_ret (retL (M := [0]) (.inl rfl) (by simp only [go_sem, reduceEqDiff, reduceIte, reduceAdd, reduceMul, reduceSub, reduceLT, reduceLeDiff, Nat.reduceBEq]; first | done | rfl) rfl rfl (by rfl) (by simp only [go_sem, reduceEqDiff, reduceIte, reduceAdd, reduceMul, reduceSub, reduceLT, reduceLeDiff, Nat.reduceBEq]; first | done | rfl | (and_intros <;> rfl)) (by decide) (by intro m hm; first | omega | (rcases m with _ | _ | _ | _ | _ | _ | m <;> first | exact ⟨by decide, rfl⟩ | omega)))
theorem storeOkI_ac (s : Sto) (hs : SmSt s) : AC Tryz.prog 31 [stT s] noHp 0 ⟨.t (bT (storeS s)), noHp, 0⟩ := by
  have k := storeOk_ac s hs
  rw [store_eq] at k
  exact k
def looksI (s : Sto) (k : ByteArray) : Int := if (storeS s && keyOk k) = true then (looksM s k : Nat) else -1
theorem storeLooks_ac (s : Sto) (hs : SmSt s) (k : ByteArray) (hk : smK k) : AC Tryz.prog 12 [stT s, sT k] noHp 0 ⟨.t (iT (looksI s k)), noHp, 0⟩ := by
  have k1 := storeOkI_ac s hs
  have k2 := keyOk_ac k hk
  unfold looksI
  refine AC_of Tryz.func12 rfl Tryz.ntmps12 Tryz.results12 (by kernel_rfl) rfl ?_
  simp only [List.zipIdx, List.map, Nat.zero_add, Nat.reduceAdd]
  cases c1 : storeS s
  · rw [c1] at k1
    repeat (first | apply Aw_seq | apply Aw_block | apply Aw_skip | apply Aw_exit | refine Aw_condt rfl ?_ | refine Aw_condf rfl ?_ | ((first | refine qr ?_ | refine qd (by kernel_rfl) (by kernel_rfl) ?_); simp only [go_sem, reduceEqDiff, reduceIte, reduceAdd, reduceMul, reduceSub, reduceLT, reduceLeDiff, Nat.reduceBEq]) | refine dk (by kernel_rfl) ?_ | (refine qp (k1) (by simp only [go_sem, reduceEqDiff, reduceIte, reduceAdd, reduceMul, reduceSub, reduceLT, reduceLeDiff, Nat.reduceBEq]; first | done | rfl) rfl (by simp only [go_sem, Nat.reduceLT]) rfl rfl ?_; simp only [go_sem, reduceEqDiff, reduceIte, reduceAdd, reduceMul, reduceSub, reduceLT, reduceLeDiff, Nat.reduceBEq]))
    exact Aw_ret (ret0 (.inl rfl) (by simp only [go_sem, reduceEqDiff, reduceIte, reduceAdd, reduceMul, reduceSub, reduceLT, reduceLeDiff, Nat.reduceBEq]; rfl) (by rfl) rfl)
  · rw [c1] at k1
    have k3 := count_looks s (vst_of c1) k hk
    unfold ksO at k3
    cases c2 : keyOk k
    · rw [c2] at k2
      repeat (first | apply Aw_seq | apply Aw_block | apply Aw_skip | apply Aw_exit | refine Aw_condt rfl ?_ | refine Aw_condf rfl ?_ | ((first | refine qr ?_ | refine qd (by kernel_rfl) (by kernel_rfl) ?_); simp only [go_sem, reduceEqDiff, reduceIte, reduceAdd, reduceMul, reduceSub, reduceLT, reduceLeDiff, Nat.reduceBEq]) | refine dk (by kernel_rfl) ?_ | (refine qp (k1) (by simp only [go_sem, reduceEqDiff, reduceIte, reduceAdd, reduceMul, reduceSub, reduceLT, reduceLeDiff, Nat.reduceBEq]; first | done | rfl) rfl (by simp only [go_sem, Nat.reduceLT]) rfl rfl ?_; simp only [go_sem, reduceEqDiff, reduceIte, reduceAdd, reduceMul, reduceSub, reduceLT, reduceLeDiff, Nat.reduceBEq]) | (refine qp (k2) (by simp only [go_sem, reduceEqDiff, reduceIte, reduceAdd, reduceMul, reduceSub, reduceLT, reduceLeDiff, Nat.reduceBEq]; first | done | rfl) rfl (by simp only [go_sem, Nat.reduceLT]) rfl rfl ?_; simp only [go_sem, reduceEqDiff, reduceIte, reduceAdd, reduceMul, reduceSub, reduceLT, reduceLeDiff, Nat.reduceBEq]))
      exact Aw_ret (ret0 (.inl rfl) (by simp only [go_sem, reduceEqDiff, reduceIte, reduceAdd, reduceMul, reduceSub, reduceLT, reduceLeDiff, Nat.reduceBEq]; rfl) (by rfl) rfl)
    · rw [c2] at k2
      repeat (first | apply Aw_seq | apply Aw_block | apply Aw_skip | apply Aw_exit | refine Aw_condt rfl ?_ | refine Aw_condf rfl ?_ | ((first | refine qr ?_ | refine qd (by kernel_rfl) (by kernel_rfl) ?_); simp only [go_sem, reduceEqDiff, reduceIte, reduceAdd, reduceMul, reduceSub, reduceLT, reduceLeDiff, Nat.reduceBEq]) | refine dk (by kernel_rfl) ?_ | (refine qp (k1) (by simp only [go_sem, reduceEqDiff, reduceIte, reduceAdd, reduceMul, reduceSub, reduceLT, reduceLeDiff, Nat.reduceBEq]; first | done | rfl) rfl (by simp only [go_sem, Nat.reduceLT]) rfl rfl ?_; simp only [go_sem, reduceEqDiff, reduceIte, reduceAdd, reduceMul, reduceSub, reduceLT, reduceLeDiff, Nat.reduceBEq]) | (refine qp (k2) (by simp only [go_sem, reduceEqDiff, reduceIte, reduceAdd, reduceMul, reduceSub, reduceLT, reduceLeDiff, Nat.reduceBEq]; first | done | rfl) rfl (by simp only [go_sem, Nat.reduceLT]) rfl rfl ?_; simp only [go_sem, reduceEqDiff, reduceIte, reduceAdd, reduceMul, reduceSub, reduceLT, reduceLeDiff, Nat.reduceBEq]) | (refine qx (call_L (N' := [1]) (L := []) (k3) rfl (.cons (.nm rfl) (.cons (.nm rfl) (.nil))) (by decide) (by decide) (by decide) (by simp only [go_sem, reduceEqDiff, reduceIte, reduceAdd, reduceMul, reduceSub, reduceLT, reduceLeDiff, Nat.reduceBEq]; first | done | rfl) (.inl rfl) rfl (by decide)) (by simp only [go_sem, reduceEqDiff, reduceIte, reduceAdd, reduceMul, reduceSub, reduceLT, reduceLeDiff, Nat.reduceBEq]; first | done | rfl) rfl (by simp only [go_sem, Nat.reduceLT]) ?_; simp only [go_sem, reduceEqDiff, reduceIte, reduceAdd, reduceMul, reduceSub, reduceLT, reduceLeDiff, Nat.reduceBEq]))
      exact Aw_ret (ret0 (.inl rfl) (by simp only [go_sem, reduceEqDiff, reduceIte, reduceAdd, reduceMul, reduceSub, reduceLT, reduceLeDiff, Nat.reduceBEq]; rfl) (by rfl) rfl)
theorem VSt.has {s : Sto} (hv : VSt s) {i : Nat} {r : List Ent} {x : Sve} (hr : s.levels[i]? = some r) (hx : s.sieves[i]? = some x) {k : ByteArray} (hk : keyOk k = true) : AC Tryz.prog 45 [sveP x, sT k] noHp 0 ⟨.t (bT (hasM s.keep.toNat (keysM r) k)), noHp, 0⟩ := by
  obtain ⟨h1, h2, _⟩ := hv.sv i r x hr hx
  refine sieveHas_ac h1 ?_ k hk
  rw [show ((s.keep.toNat : Nat) : Int) = s.keep by have := hv.kp; omega]
  exact h2
def lkT (s : Sto) (k : ByteArray) (i : Nat) : Nat := ((s.levels.take i).filter fun r => hasM s.keep.toNat (keysM r) k).length
theorem lkT_succ {s : Sto} {k : ByteArray} {i : Nat} {r : List Ent} (h : s.levels[i]? = some r) : lkT s k (i + 1) = lkT s k i + (if hasM s.keep.toNat (keysM r) k = true then 1 else 0) := by
  unfold lkT
  rw [List.take_add_one, h, List.filter_append, List.length_append]
  cases c : hasM s.keep.toNat (keysM r) k <;> simp [c]
theorem lkT_le (s : Sto) (k : ByteArray) (i : Nat) : lkT s k i ≤ i := Nat.le_trans (List.length_filter_le _ _) (by rw [List.length_take]; omega)
theorem sstoreLooks_ac (s : Sto) (hs : SmSt s) (k : ByteArray) (hk : smK k) : AC Tryz.prog 13 [stT s, sT k] noHp 0 ⟨.t (iT (looksI s k)), noHp, 0⟩ := by
  have k1 := sstoreOk_ac s hs
  have k2 := skeyOk_ac k hk
  unfold looksI
  refine AC_of Tryz.func13 rfl Tryz.ntmps13 Tryz.results13 (by kernel_rfl) rfl ?_
  simp only [List.zipIdx, List.map, Nat.zero_add, Nat.reduceAdd]
  cases c1 : storeS s
  · rw [c1] at k1
    repeat (first | apply Aw_seq | apply Aw_block | apply Aw_skip | apply Aw_exit | refine Aw_condt rfl ?_ | refine Aw_condf rfl ?_ | ((first | refine qr ?_ | refine qd (by kernel_rfl) (by kernel_rfl) ?_); simp only [go_sem, reduceEqDiff, reduceIte, reduceAdd, reduceMul, reduceSub, reduceLT, reduceLeDiff, Nat.reduceBEq]) | refine dk (by kernel_rfl) ?_ | (refine qp (k1) (by simp only [go_sem, reduceEqDiff, reduceIte, reduceAdd, reduceMul, reduceSub, reduceLT, reduceLeDiff, Nat.reduceBEq]; first | done | rfl) rfl (by simp only [go_sem, Nat.reduceLT]) rfl rfl ?_; simp only [go_sem, reduceEqDiff, reduceIte, reduceAdd, reduceMul, reduceSub, reduceLT, reduceLeDiff, Nat.reduceBEq]))
    exact Aw_ret (ret0 (.inl rfl) (by simp only [go_sem, reduceEqDiff, reduceIte, reduceAdd, reduceMul, reduceSub, reduceLT, reduceLeDiff, Nat.reduceBEq]; rfl) (by rfl) rfl)
  · rw [c1] at k1
    have hv := vst_of c1
    cases c2 : keyOk k
    · rw [c2] at k2
      repeat (first | apply Aw_seq | apply Aw_block | apply Aw_skip | apply Aw_exit | refine Aw_condt rfl ?_ | refine Aw_condf rfl ?_ | ((first | refine qr ?_ | refine qd (by kernel_rfl) (by kernel_rfl) ?_); simp only [go_sem, reduceEqDiff, reduceIte, reduceAdd, reduceMul, reduceSub, reduceLT, reduceLeDiff, Nat.reduceBEq]) | refine dk (by kernel_rfl) ?_ | (refine qp (k1) (by simp only [go_sem, reduceEqDiff, reduceIte, reduceAdd, reduceMul, reduceSub, reduceLT, reduceLeDiff, Nat.reduceBEq]; first | done | rfl) rfl (by simp only [go_sem, Nat.reduceLT]) rfl rfl ?_; simp only [go_sem, reduceEqDiff, reduceIte, reduceAdd, reduceMul, reduceSub, reduceLT, reduceLeDiff, Nat.reduceBEq]) | (refine qp (k2) (by simp only [go_sem, reduceEqDiff, reduceIte, reduceAdd, reduceMul, reduceSub, reduceLT, reduceLeDiff, Nat.reduceBEq]; first | done | rfl) rfl (by simp only [go_sem, Nat.reduceLT]) rfl rfl ?_; simp only [go_sem, reduceEqDiff, reduceIte, reduceAdd, reduceMul, reduceSub, reduceLT, reduceLeDiff, Nat.reduceBEq]))
      exact Aw_ret (ret0 (.inl rfl) (by simp only [go_sem, reduceEqDiff, reduceIte, reduceAdd, reduceMul, reduceSub, reduceLT, reduceLeDiff, Nat.reduceBEq]; rfl) (by rfl) rfl)
    · rw [c2] at k2
      have hll := hv.ll
      have hsl := hv.sl
      have e3 : looksM s k = lkT s k 3 := by unfold looksM lkT; rw [List.take_of_length_le (by omega)]
      rw [e3]
      repeat (first | apply Aw_seq | apply Aw_block | apply Aw_skip | apply Aw_exit | refine Aw_condt rfl ?_ | refine Aw_condf rfl ?_ | ((first | refine qr ?_ | refine qd (by kernel_rfl) (by kernel_rfl) ?_); simp only [go_sem, reduceEqDiff, reduceIte, reduceAdd, reduceMul, reduceSub, reduceLT, reduceLeDiff, Nat.reduceBEq]) | refine dk (by kernel_rfl) ?_ | (refine qp (k1) (by simp only [go_sem, reduceEqDiff, reduceIte, reduceAdd, reduceMul, reduceSub, reduceLT, reduceLeDiff, Nat.reduceBEq]; first | done | rfl) rfl (by simp only [go_sem, Nat.reduceLT]) rfl rfl ?_; simp only [go_sem, reduceEqDiff, reduceIte, reduceAdd, reduceMul, reduceSub, reduceLT, reduceLeDiff, Nat.reduceBEq]) | (refine qp (k2) (by simp only [go_sem, reduceEqDiff, reduceIte, reduceAdd, reduceMul, reduceSub, reduceLT, reduceLeDiff, Nat.reduceBEq]; first | done | rfl) rfl (by simp only [go_sem, Nat.reduceLT]) rfl rfl ?_; simp only [go_sem, reduceEqDiff, reduceIte, reduceAdd, reduceMul, reduceSub, reduceLT, reduceLeDiff, Nat.reduceBEq]))
      refine Aw.rw (rwL (l' := [(6, .t (iT (0 : Nat))), (5, .t (iT (lkT s k 0 : Nat))), (2, .t (.c (.ph 0 0 0))), (1, .t (sT k))]) (os := [some (stO s)]) (M := [0]) (n' := 1) (by repeat (first | exact trivial | refine ⟨rfl, rfl, ?_⟩)) (by rfl) (by simp only [go_sem, reduceEqDiff, reduceIte, reduceAdd, reduceMul, reduceSub, reduceLT, reduceLeDiff, Nat.reduceBEq]; first | done | rfl) (by decide) (by intro m hm; first | omega | (rcases m with _ | _ | _ | _ | _ | _ | m <;> first | exact ⟨by decide, rfl⟩ | omega))) ?_
      refine Aw_loop_rw (ι := { i : Nat // i ≤ 3 }) (fun q => S [(6, .t (iT (q.1 : Nat))), (5, .t (iT (lkT s k q.1 : Nat))), (2, .t (.c (.ph 0 0 0))), (1, .t (sT k))] (hpL [some (stO s)]) 1) (fun q => 3 - q.1) ⟨0, Nat.zero_le _⟩ ?_
      rintro ⟨i, hi⟩
      dsimp only
      by_cases hlt : i < 3
      · have g1 : decide ((i : Int) < (s.sieves.length : Int)) = true := decide_eq_true (by omega)
        have w := wrap_succ hlt (by omega)
        obtain ⟨r, hr⟩ : ∃ r, s.levels[i]? = some r := ⟨_, List.getElem?_eq_getElem (by omega)⟩
        obtain ⟨x, hx⟩ : ∃ x, s.sieves[i]? = some x := ⟨_, List.getElem?_eq_getElem (by omega)⟩
        have k3 := hv.has hr hx c2
        have hsu := lkT_succ (k := k) hr
        have hle := lkT_le s k i
        cases c3 : hasM s.keep.toNat (keysM r) k
        · rw [c3] at k3
          rw [c3, if_neg (by simp), Nat.add_zero] at hsu
          repeat (first | apply Aw_seq | apply Aw_block | apply Aw_skip | apply Aw_exit | refine Aw_condt rfl ?_ | refine Aw_condf rfl ?_ | ((first | refine qr ?_ | refine qd (by kernel_rfl) (by kernel_rfl) ?_); simp only [go_sem, reduceEqDiff, reduceIte, reduceAdd, reduceMul, reduceSub, reduceLT, reduceLeDiff, Nat.reduceBEq, g1, w, hx]) | refine dk (by kernel_rfl) ?_ | (refine qp (k3) (by simp only [go_sem, reduceEqDiff, reduceIte, reduceAdd, reduceMul, reduceSub, reduceLT, reduceLeDiff, Nat.reduceBEq, g1, w, hx]; first | done | rfl) rfl (by simp only [go_sem, Nat.reduceLT]) rfl rfl ?_; simp only [go_sem, reduceEqDiff, reduceIte, reduceAdd, reduceMul, reduceSub, reduceLT, reduceLeDiff, Nat.reduceBEq, g1, w, hx]))
          refine ⟨⟨i + 1, hlt⟩, [0], ?_, ?_⟩
          rotate_left
          dsimp only
          rw [hsu]
          exact rwL (by repeat (first | exact trivial | refine ⟨rfl, rfl, ?_⟩)) (by rfl) (by simp only [go_sem, reduceEqDiff, reduceIte, reduceAdd, reduceMul, reduceSub, reduceLT, reduceLeDiff, Nat.reduceBEq]; first | done | rfl) (by decide) (by intro m hm; first | omega | (rcases m with _ | _ | _ | _ | _ | _ | m <;> first | exact ⟨by decide, rfl⟩ | omega))
          show 3 - (i + 1) < 3 - i; omega
        · rw [c3] at k3
          rw [c3, if_pos rfl] at hsu
          have w2 : IntKind.i64.wrap ((lkT s k i : Int) + 1) = ((lkT s k i + 1 : Nat) : Int) := wn (by omega) (by omega)
          repeat (first | apply Aw_seq | apply Aw_block | apply Aw_skip | apply Aw_exit | refine Aw_condt rfl ?_ | refine Aw_condf rfl ?_ | ((first | refine qr ?_ | refine qd (by kernel_rfl) (by kernel_rfl) ?_); simp only [go_sem, reduceEqDiff, reduceIte, reduceAdd, reduceMul, reduceSub, reduceLT, reduceLeDiff, Nat.reduceBEq, g1, w, w2, hx]) | refine dk (by kernel_rfl) ?_ | (refine qp (k3) (by simp only [go_sem, reduceEqDiff, reduceIte, reduceAdd, reduceMul, reduceSub, reduceLT, reduceLeDiff, Nat.reduceBEq, g1, w, w2, hx]; first | done | rfl) rfl (by simp only [go_sem, Nat.reduceLT]) rfl rfl ?_; simp only [go_sem, reduceEqDiff, reduceIte, reduceAdd, reduceMul, reduceSub, reduceLT, reduceLeDiff, Nat.reduceBEq, g1, w, w2, hx]))
          refine ⟨⟨i + 1, hlt⟩, [0], ?_, ?_⟩
          rotate_left
          dsimp only
          rw [hsu]
          exact rwL (by repeat (first | exact trivial | refine ⟨rfl, rfl, ?_⟩)) (by rfl) (by simp only [go_sem, reduceEqDiff, reduceIte, reduceAdd, reduceMul, reduceSub, reduceLT, reduceLeDiff, Nat.reduceBEq]; first | done | rfl) (by decide) (by intro m hm; first | omega | (rcases m with _ | _ | _ | _ | _ | _ | m <;> first | exact ⟨by decide, rfl⟩ | omega))
          show 3 - (i + 1) < 3 - i; omega
      · have g1 : decide ((i : Int) < (s.sieves.length : Int)) = false := decide_eq_false (by omega)
        obtain rfl : i = 3 := by omega
        repeat (first | apply Aw_seq | apply Aw_block | apply Aw_skip | apply Aw_exit | refine Aw_condt rfl ?_ | refine Aw_condf rfl ?_ | ((first | refine qr ?_ | refine qd (by kernel_rfl) (by kernel_rfl) ?_); simp only [go_sem, reduceEqDiff, reduceIte, reduceAdd, reduceMul, reduceSub, reduceLT, reduceLeDiff, Nat.reduceBEq, g1]) | refine dk (by kernel_rfl) ?_)
        exact Aw_ret (ret0 (.inl rfl) (by simp only [go_sem, reduceEqDiff, reduceIte, reduceAdd, reduceMul, reduceSub, reduceLT, reduceLeDiff, Nat.reduceBEq]; rfl) (by rfl) rfl)
theorem walk_mem {k : ByteArray} : ∀ (n : Nat) {f : List ByteArray × Nat}, Fork f → f.2 + n = 6 → k ∈ f.1 → ∃ b, walkT k n f = some b ∧ b.1 = [k]
  | 0, f, hf, hn, _ => by have := hf.dep; omega
  | n + 1, f, hf, hn, hk => by
    have hfl := spl_flat f.2 _ f.1 (Nat.le_refl _)
    rw [← hfl] at hk
    obtain ⟨g, hg, hkg⟩ := List.mem_flatten.1 hk
    have hb : ((g, f.2) : Br) ∈ brs f := List.mem_map.2 ⟨g, hg, rfl⟩
    have hl := (brs_lab hb k hkg).2
    have hh : hitB k f.2 (g, f.2) = true := decide_eq_true hl.symm
    cases hx : (brs f).find? (hitB k f.2) with
    | none => exact absurd hh (List.find?_eq_none.1 hx _ hb)
    | some b =>
      have hbm := List.mem_of_find?_eq_some hx
      have hbh : bLet b = lab k f.2 := of_decide_eq_true (show hitB k f.2 _ = true from List.find?_some hx)
      have e : b = (g, f.2) := by
        obtain ⟨i, hi, ei⟩ := List.getElem_of_mem hbm
        obtain ⟨j, hj, ej⟩ := List.getElem_of_mem hb
        have hp := List.pairwise_iff_getElem.1 (brs_lt hf)
        rcases Nat.lt_trichotomy i j with h | h | h
        · have := hp i j hi hj h
          rw [ei, ej, hbh, hl] at this; omega
        · subst h; rw [← ei, ← ej]
        · have := hp j i hj hi h
          rw [ei, ej, hbh, hl] at this; omega
      simp only [walkT, hx]
      cases c : bMul b
      · refine ⟨b, by simp, ?_⟩
        obtain ⟨y, hy⟩ := bMul_one hbm c
        rw [hy]
        rw [e] at hy
        have : k ∈ [y] := by rw [← hy]; exact hkg
        rw [List.mem_singleton.1 this]
      · simp only [if_true]
        refine walk_mem n (bKid_fork hf hbm c) ?_ ?_
        · obtain ⟨h1, _⟩ := brs_mem hbm
          show b.2 + 1 + n = 6
          omega
        · show k ∈ b.1
          rw [e]; exact hkg
theorem tail_l (k : ByteArray) (d : Nat) : (tailT k d).data.toList = k.data.toList.drop (d + 1) := by
  unfold tailT
  rw [ByteArray.data_extract, Array.toList_extract, size_l, List.extract_eq_take_drop]
  rcases Nat.lt_or_ge (d + 1) k.data.toList.length with h | h
  · rw [Nat.min_eq_left (by omega), List.take_of_length_le (by simp)]
  · rw [Nat.min_eq_right h, List.drop_of_length_le (Nat.le_refl _), List.drop_of_length_le h]; simp
theorem has_mem {keep : Nat} {ks : List ByteArray} (hf : Fork (ks, 0)) {k : ByteArray} (h : k ∈ ks) : hasM keep ks k = true := by
  obtain ⟨b, h1, h2⟩ := walk_mem 6 hf rfl h
  rw [hasM_res, h1]
  show fits keep k b = true
  have ht : (tailT k b.2).data.toList = k.data.toList.drop (b.2 + 1) := tail_l k b.2
  have hc : (bCut keep b).data.toList = (k.data.toList.drop (b.2 + 1)).take keep := by unfold bCut; rw [h2, List.headD_cons, cut_l]
  have hs : (bCut keep b).size = min keep (k.data.toList.drop (b.2 + 1)).length := by rw [size_l, hc, List.length_take]
  have ok := (hf.ok k h).1
  unfold fits
  by_cases c : whole keep b = true
  · rw [if_pos c]
    refine decide_eq_true (ext_l ?_)
    rw [ht, hc]
    unfold whole at c
    rw [Bool.or_eq_true, decide_eq_true_eq, decide_eq_true_eq] at c
    rcases c with c | c
    · have hd : b.2 ≤ k.size ∨ k.size < b.2 := by omega
      unfold bLet at c
      rw [h2, List.headD_cons] at c
      have e : k.data.toList.drop (b.2 + 1) = [] := by
        rcases hd with hd | hd
        · have := (lab_end ok hd).1 c
          rw [size_l] at this
          exact List.drop_of_length_le (by omega)
        · rw [size_l] at hd
          exact List.drop_of_length_le (by omega)
      rw [e]; simp
    · rw [List.take_of_length_le (by omega)]
  · rw [if_neg c]
    unfold begB
    rw [Bool.and_eq_true, decide_eq_true_eq, decide_eq_true_eq]
    have e1 : (bCut keep b).size ≤ (tailT k b.2).size := by rw [hs, size_l, ht]; omega
    refine ⟨e1, ext_l ?_⟩
    rw [extract_list, ht, hs, hc]
    rcases Nat.le_total keep (k.data.toList.drop (b.2 + 1)).length with h | h
    · rw [Nat.min_eq_left h]
    · rw [Nat.min_eq_right h, List.take_of_length_le (Nat.le_refl _), List.take_of_length_le h]
theorem walk_way {k : ByteArray} (hk : keyOk k = true) : ∀ (n : Nat) {f : List ByteArray × Nat} {b : Br}, Fork f → (∀ x ∈ f.1, x.data.toList.take f.2 = k.data.toList.take f.2) → f.2 ≤ k.size → walkT k n f = some b → ∃ x, b.1 = [x] ∧ x ∈ f.1 ∧ b.2 ≤ k.size ∧ b.2 ≤ x.size ∧ bLet b = lab k b.2 ∧ lab x b.2 = bLet b ∧ x.data.toList.take b.2 = k.data.toList.take b.2
  | 0, _, _, _, _, _, h => by simp [walkT] at h
  | n + 1, f, b, hf, hw, hd, h => by
    simp only [walkT] at h
    cases hx : (brs f).find? (hitB k f.2) with
    | none => rw [hx] at h; simp at h
    | some y =>
      rw [hx] at h
      simp only at h
      have hbm := List.mem_of_find?_eq_some hx
      have hbh : bLet y = lab k f.2 := of_decide_eq_true (show hitB k f.2 _ = true from List.find?_some hx)
      obtain ⟨h1, h2, _⟩ := brs_mem hbm
      cases c : bMul y
      · rw [c] at h
        simp only [Bool.false_eq_true, if_false, Option.some.injEq] at h
        subst h
        obtain ⟨x, e⟩ := bMul_one hbm c
        have hxm : x ∈ y.1 := by rw [e]; simp
        obtain ⟨hin, hl⟩ := brs_lab hbm x hxm
        rw [h1]
        exact ⟨x, e, hin, hd, (hf.ok x hin).2, hbh, hl, hw x hin⟩
      · rw [c] at h
        simp only [if_true] at h
        have hkf := bKid_fork hf hbm c
        have hne : lab k f.2 ≠ 45 := by rw [← hbh]; exact bMul_45 hf hbm c
        have hsz : k.size ≠ f.2 := fun e => hne ((lab_end hk hd).2 e)
        have hw2 : ∀ x ∈ (bKid y).1, x.data.toList.take (bKid y).2 = k.data.toList.take (bKid y).2 := by
          intro x hxm
          show x.data.toList.take (y.2 + 1) = k.data.toList.take (y.2 + 1)
          obtain ⟨hin, hl⟩ := brs_lab hbm x hxm
          have hxs := (hf.ok x hin).2
          have hx1 : f.2 + 1 ≤ x.size := by
            have := (hkf.ok x hxm).2
            have e2 : (bKid y).2 = f.2 + 1 := by unfold bKid; rw [h1]
            omega
          rw [hbh] at hl
          rw [lab_l hxs, lab_l hd] at hl
          rw [size_l] at hx1 hsz hd
          rw [List.getElem?_eq_getElem (by omega), List.getElem?_eq_getElem (by omega)] at hl
          rw [h1, List.take_add_one, List.take_add_one, hw x hin, List.getElem?_eq_getElem (by omega), List.getElem?_eq_getElem (by omega)]
          simp only at hl
          rw [hl]
        obtain ⟨x, e, hin, r⟩ := walk_way hk n hkf hw2 (by show y.2 + 1 ≤ k.size; omega) h
        exact ⟨x, e, h2.subset hin, r⟩
/-- All that is kept is the key. -/
theorem has_all {ks : List ByteArray} (hf : Fork (ks, 0)) {k : ByteArray} (hk : keyOk k = true) (h : hasM 5 ks k = true) : k ∈ ks := by
  rw [hasM_res] at h
  cases hw : walkT k 6 (ks, 0) with
  | none => rw [hw] at h; simp [resH'] at h
  | some b =>
    rw [hw] at h
    have h : fits 5 k b = true := h
    obtain ⟨x, e, hin, d1, d2, l1, l2, ht⟩ := walk_way hk 6 hf (fun x _ => by simp) (Nat.zero_le _) hw
    have hx := (hf.ok x hin).1
    have x5 := keyOk_size hx
    have hc : (bCut 5 b).data.toList = x.data.toList.drop (b.2 + 1) := by
      unfold bCut
      rw [e, List.headD_cons, cut_l, List.take_of_length_le]
      rw [List.length_drop, ← size_l]; omega
    have hwh : whole 5 b = true := by
      unfold whole
      by_cases c : bLet b = 45
      · rw [decide_eq_true c]; rfl
      · have hs : x.size ≠ b.2 := fun hs => c (by rw [← l2]; exact (lab_end hx d2).2 hs)
        have : (bCut 5 b).size < 5 := by rw [size_l, hc, List.length_drop, ← size_l]; omega
        rw [decide_eq_true this]; simp
    unfold fits at h
    rw [if_pos hwh] at h
    have h := of_decide_eq_true h
    have hl : k.data.toList.drop (b.2 + 1) = x.data.toList.drop (b.2 + 1) := by rw [← tail_l, h, hc]
    have hlab : lab x b.2 = lab k b.2 := by rw [l2, l1]
    have h1 : x.data.toList.take (b.2 + 1) = k.data.toList.take (b.2 + 1) := by
      by_cases c : k.size = b.2
      · have hxs := (lab_end hx d2).1 (by rw [hlab]; exact (lab_end hk d1).2 c)
        rw [size_l] at c hxs
        rw [List.take_of_length_le (by omega), List.take_of_length_le (by omega)]
        rw [List.take_of_length_le (by omega), List.take_of_length_le (by omega)] at ht
        exact ht
      · have hxs : x.size ≠ b.2 := fun hs => c ((lab_end hk d1).1 (by rw [← hlab]; exact (lab_end hx d2).2 hs))
        rw [lab_l d2, lab_l d1] at hlab
        rw [size_l] at c hxs d1 d2
        rw [List.getElem?_eq_getElem (by omega), List.getElem?_eq_getElem (by omega)] at hlab
        rw [List.take_add_one, List.take_add_one, ht, List.getElem?_eq_getElem (by omega), List.getElem?_eq_getElem (by omega)]
        simp only at hlab
        rw [hlab]
    have : k = x := ext_l (by rw [← List.take_append_drop (b.2 + 1) k.data.toList, ← List.take_append_drop (b.2 + 1) x.data.toList, h1, hl])
    rw [this]; exact hin
theorem has_iff {ks : List ByteArray} (hf : Fork (ks, 0)) {k : ByteArray} (hk : keyOk k = true) : hasM 5 ks k = true ↔ k ∈ ks := ⟨has_all hf hk, has_mem hf⟩
open Go Go.Proofs Go.Deep Go.WideShapes Go.ChangeShapes Go.RowKit
theorem cell_lt {w : World} {a : Addr} {v : Value} (h : w.cell? a = some v) : a.block < w.heap.size := by
  apply Classical.byContradiction
  intro hn
  have : w.heap[a.block]? = none := Array.getElem?_eq_none (by omega)
  simp [World.cell?, this] at h
/-- What is read as data of type t is, cell by cell, the data that f tells of a value that is ok. -/
structure RdB {α : Type} (P : Program) (t : TypeId) (f : α → List D) (ok : α → Prop) : Prop where
  down : ∀ {H : Type} {enc : TypeId × Value → H} {w : World} {base : Nat} {spare : Nat → Bool} {held : Bool} {fuel : Nat} {cs : List Value} {x : DataW H × List MemPlace},
    DataW.trod enc P w base spare held fuel t cs = some x → ∃ y, All2 (RepD w (· < w.heap.size)) (f y) cs ∧ ok y
theorem RdB.int {P : Program} {t : TypeId} {k : IntKind} (ht : P.underlying t = some (.int k)) : RdB P t (fun n : Int => [.s (.int k n)]) (fun n => (Lit.int k n).wf = true) :=
  ⟨fun h => by obtain ⟨n, rfl, _, hw⟩ := DataW.trod_int ht h; exact ⟨n, .cons (.s rfl) .nil, hw⟩⟩
theorem RdB.bool {P : Program} {t : TypeId} (ht : P.underlying t = some .bool) : RdB P t (fun b : Bool => [.s (.bool b)]) (fun _ => True) :=
  ⟨fun h => by obtain ⟨b, rfl, _⟩ := DataW.trod_bool ht h; exact ⟨b, .cons (.s rfl) .nil, trivial⟩⟩
theorem RdB.str {P : Program} {t : TypeId} (ht : P.underlying t = some .string) : RdB P t (fun s : ByteArray => [.s (.string s)]) (fun s => s.size ≤ maxLen) :=
  ⟨fun h => by obtain ⟨s, rfl, _, hs⟩ := DataW.trod_string ht h; exact ⟨s, .cons (.s rfl) .nil, hs⟩⟩
theorem RdB.slice {α : Type} {P : Program} {t e k : Nat} {f : α → List D} {ok : α → Prop} (ht : P.underlying t = some (.slice e)) (hc : P.cellsOf e = k) (hd : RdB P e f ok) :
    RdB P t (fun xs : List α => [.rs k (xs.map f)]) (fun xs => xs.length ≤ maxLen ∧ ∀ x ∈ xs, ok x) := by
  refine ⟨fun {H enc w base spare held fuel cs x} h => ?_⟩
  rcases open_slice ht h with ⟨rfl, rfl⟩ | ⟨a, len, cap, m, n, D, Pl, rfl, hb, hl, hm, hmm, rfl, hx⟩
  · exact ⟨[], .cons (.rs (A := none) (cap := 0) (fun _ _ => .bool false) (Nat.le_refl _) (Nat.zero_le _) (by simp) (fun i j hi => absurd hi (by simp)) (fun i j cs x hi => by simp at hi)) .nil, by simp, by simp⟩
  · have hlm : len ≤ m := by rw [hmm]; split <;> omega
    have hy : ∀ i : _root_.Fin len, ∃ y, ∃ cs', w.cells? base (a.add (i.1 * P.cellsOf e)) (P.cellsOf e) = some cs' ∧ All2 (RepD w (· < w.heap.size)) (f y) cs' ∧ ok y := fun i => by
      obtain ⟨cs', h1, h2⟩ := hx i.1 (by omega)
      obtain ⟨y, h3, h4⟩ := hd.down h2
      exact ⟨y, cs', h1, h3, h4⟩
    have hsp : ∀ i : _root_.Fin len, ∃ cs', w.cells? base (a.add (i.1 * P.cellsOf e)) (P.cellsOf e) = some cs' ∧ All2 (RepD w (· < w.heap.size)) (f (Classical.choose (hy i))) cs' ∧ ok (Classical.choose (hy i)) := fun i => Classical.choose_spec (hy i)
    have hlen : (List.ofFn fun i : _root_.Fin len => Classical.choose (hy i)).length = len := List.length_ofFn
    have hget : ∀ {j : Nat} {p : α}, (List.ofFn fun i : _root_.Fin len => Classical.choose (hy i))[j]? = some p → ∃ cs', w.cells? base (a.add (j * k)) k = some cs' ∧ All2 (RepD w (· < w.heap.size)) (f p) cs' := fun {j p} hj => by
      have hjl : j < len := by
        have := (List.getElem?_eq_some_iff.1 hj).1
        rwa [hlen] at this
      rw [List.getElem?_ofFn, dif_pos hjl] at hj
      obtain rfl := Option.some.inj hj
      obtain ⟨cs', h1, h2, _⟩ := hsp ⟨j, hjl⟩
      rw [hc] at h1
      exact ⟨cs', h1, h2⟩
    have hbk : ∀ n, (a.add n).block = a.block := fun n => by unfold Addr.add; split <;> rfl
    have hcell : ∀ i, i < len → ∃ cs' : List Value, cs'.length = k ∧ ∀ j, j < k → w.cell? (a.add (i * k + j)) = cs'[j]? := fun i hi => by
      obtain ⟨cs', h1, _⟩ := hsp ⟨i, hi⟩
      rw [hc] at h1
      obtain ⟨_, h3, h4⟩ := World.cells?_some h1
      refine ⟨cs', h3, fun j hj => ?_⟩
      have := h4 j hj
      rw [Deep.add_add] at this
      exact this
    refine ⟨List.ofFn fun i : _root_.Fin len => Classical.choose (hy i), .cons ?_ .nil, by rw [hlen]; omega, ?_⟩
    · have := RepD.rs (w := w) (S := (· < w.heap.size)) (k := k) (els := (List.ofFn fun i : _root_.Fin len => Classical.choose (hy i)).map f) (A := some a) (cap := cap) (fun i j => (w.cell? (a.add (i * k + j))).getD (.bool false)) (by rw [List.length_map, hlen]; exact hl) hm ?_ ?_ ?_
      · rw [List.length_map, hlen] at this; exact this
      · intro cs hcs
        obtain ⟨p, hp, rfl⟩ := List.mem_map.1 hcs
        obtain ⟨j, hj⟩ := List.mem_iff_getElem?.1 hp
        obtain ⟨cs', h1, h2⟩ := hget hj
        rw [h2.len]; exact (World.cells?_some h1).2.1
      · intro i j hi hj
        rw [List.length_map, hlen] at hi
        obtain ⟨cs', h1, h2⟩ := hcell i hi
        have h3 := h2 j hj
        rw [List.getElem?_eq_getElem (by omega)] at h3
        refine ⟨a, rfl, ?_, ?_⟩
        · have := cell_lt h3; rwa [hbk] at this
        · simp only [h3]; rfl
      · intro i j cs x hi hj
        rw [List.getElem?_map] at hi
        obtain ⟨p, hp, rfl⟩ := Option.map_eq_some_iff.1 hi
        obtain ⟨cs', h1, h2⟩ := hget hp
        obtain ⟨_, h3, h4⟩ := World.cells?_some h1
        obtain ⟨v, hv, hr⟩ := h2.get hj
        have hjk : j < k := by have := (List.getElem?_eq_some_iff.1 hv).1; omega
        have := h4 j hjk
        rw [Deep.add_add, hv] at this
        simp only [this]
        exact hr
    · intro x hx
      obtain ⟨i, rfl⟩ := List.mem_ofFn.1 hx
      exact (hsp i).choose_spec.2.2
/-- The fields of a struct, from a cell on. -/
structure FRdB {α : Type} (P : Program) (off : Nat) (fs : List Field) (sz : Nat) (f : α → List D) (ok : α → Prop) : Prop where
  down : ∀ {H : Type} {enc : TypeId × Value → H} {w : World} {base : Nat} {spare : Nat → Bool} {held : Bool} {n : Nat} {cs : List Value} (ys : List (DataW H × List MemPlace)),
    cs.length = off + sz → ys.length = fs.length → (∀ (i : Nat) (f : Field), fs[i]? = some f → DataW.trod enc P w base spare held n f.type ((cs.drop f.offset).take (P.cellsOf f.type)) = ys[i]?) → ∃ y, All2 (RepD w (· < w.heap.size)) (f y) (cs.drop off) ∧ ok y
theorem FRdB.last {α : Type} {P : Program} {off sz : Nat} {f : Field} {d : α → List D} {ok : α → Prop} (ho : f.offset = off) (hc : P.cellsOf f.type = sz) (hd : RdB P f.type d ok) : FRdB P off [f] sz d ok := by
  refine ⟨fun {H enc w base spare held n cs} ys hl hy h => ?_⟩
  have h0 := h 0 f rfl
  rw [ho, hc, List.take_of_length_le (by rw [List.length_drop]; omega)] at h0
  have h1 : 0 < ys.length := by rw [hy]; simp
  rw [List.getElem?_eq_getElem h1] at h0
  exact hd.down h0
theorem FRdB.cons {α β : Type} {P : Program} {off sa sb : Nat} {f : Field} {fs : List Field} {a : α → List D} {b : β → List D} {oka : α → Prop} {okb : β → Prop} (ho : f.offset = off) (hc : P.cellsOf f.type = sa) (ha : RdB P f.type a oka) (hb : FRdB P (off + sa) fs sb b okb) :
    FRdB P off (f :: fs) (sa + sb) (fun y : α × β => a y.1 ++ b y.2) (fun y => oka y.1 ∧ okb y.2) := by
  refine ⟨fun {H enc w base spare held n cs} ys hl hy h => ?_⟩
  have h0 := h 0 f rfl
  rw [ho, hc] at h0
  match ys, hy with
  | [], hy => simp at hy
  | y0 :: ys, hy =>
    obtain ⟨x, h1, h2⟩ := ha.down (x := y0) h0
    obtain ⟨z, h3, h4⟩ := hb.down (cs := cs) ys (by omega) (by simpa using hy) (fun i g hg => by simpa using h (i + 1) g (by simpa using hg))
    refine ⟨(x, z), ?_, h2, h4⟩
    have := h1.app h3
    rw [← List.drop_drop, List.take_append_drop] at this
    exact this
theorem RdB.struct {α : Type} {P : Program} {t sz : Nat} {fs : Array Field} {d : α → List D} {ok : α → Prop} (ht : P.underlying t = some (.struct fs)) (hc : P.cellsOf t = sz) (hf : FRdB P 0 fs.toList sz d ok) : RdB P t d ok := by
  refine ⟨fun {H enc w base spare held fuel cs x} h => ?_⟩
  obtain ⟨xs, n, _, _, hl, hx, hi⟩ := DataW.trod_struct ht h
  have := hf.down (cs := cs) xs (by omega) (by simpa using hx) (fun i f hf => hi i f (by simpa using hf))
  simpa using this
/-- An argument that is a struct; one that is a slice. -/
theorem RdB.argS {α H : Type} {enc : TypeId × Value → H} {P : Program} {w : World} {base : Nat} {spare : Nat → Bool} {held : Bool} {t : TypeId} {d : α → List D} {ok : α → Prop} {cs : Array Value} {x : DataW H} {p : List MemPlace}
    (hd : RdB P t d ok) (h : DataW.Trod enc P w base spare held t (.agg cs) x p) : ∃ y : α, All2 (RepD w (· < w.heap.size)) (d y) cs.toList ∧ ok y := by
  obtain ⟨fuel, hf⟩ := h
  exact hd.down hf
theorem RdB.arg1 {α H : Type} {enc : TypeId × Value → H} {P : Program} {w : World} {base : Nat} {spare : Nat → Bool} {held : Bool} {t : TypeId} {d : α → D} {ok : α → Prop} {a : Option Addr} {len cap : Nat} {x : DataW H} {p : List MemPlace}
    (hd : RdB P t (fun y => [d y]) ok) (h : DataW.Trod enc P w base spare held t (.slice a len cap) x p) : ∃ y : α, RepD w (· < w.heap.size) (d y) (.slice a len cap) ∧ ok y := by
  obtain ⟨fuel, hf⟩ := h
  obtain ⟨y, h1, h2⟩ := hd.down hf
  simp [Value.cells] at h1
  cases h1 with
  | cons h _ => exact ⟨y, h, h2⟩
/-- A law's contract, of data alone: it gives its value, and leaves what was there. -/
theorem AC.run {P : Program} {f : FuncId} {args : List TV} {b : Bool} {n : Nat} (h : AC P f args noHp 0 ⟨.t (bT b), noHp, n⟩) {W : World} {vs : List Value} (hv : All2 (RepT ⟨W, fun _ => 0, fun _ => .bool false, fun _ => 0, (· < W.heap.size), fun _ => False⟩) args vs) :
    Calls P f vs.toArray W fun e W' => e = .returned (.bool b) ∧ Below W.heap.size W W' := by
  have g : Good ⟨W, fun _ => 0, fun _ => .bool false, fun _ => 0, (· < W.heap.size), fun _ => False⟩ noHp := by
    refine ⟨fun m o hm => ?_, fun m o hm => ?_, fun b hb => ?_, fun m o m' o' b hm => ?_, fun b hb => hb⟩
    · simp [noHp] at hm
    · simp [noHp] at hm
    · obtain ⟨m, o, hm, _⟩ := hb; simp [noHp] at hm
    · simp [noHp] at hm
  refine Calls.mono (h.2 _ vs g (fun m hm => hm.elim) hv) fun e w' => ?_
  rintro ⟨v, c', rfl, rfl, t, _, r, _⟩
  refine ⟨by rw [show v = .bool b by cases r; rfl], t.os, t.tape, t.output, t.size, fun k hk => t.keep k hk ?_⟩
  rintro ⟨m, o, hm, _⟩
  simp [noHp] at hm
def okY (c : List Int) : Prop := c.length ≤ maxLen ∧ ∀ x ∈ c, (Lit.int .u8 x).wf = true
theorem okY.byte {c : List Int} (h : okY c) : byteL (c.take 2000) := by
  refine ⟨by rw [List.length_take]; omega, fun x hx => ?_⟩
  have := h.2 x (List.mem_of_mem_take hx)
  simp only [Lit.wf, IntKind.min, IntKind.max, Bool.and_eq_true, decide_eq_true_eq] at this
  simp [IntKind.signed, IntKind.bits] at this
  omega
theorem rdBytes : RdB Tryz.prog 38 (fun r => [.rs 1 (r.map u8D)]) okY := RdB.slice Tryz.underlying38 (by kernel_rfl) (RdB.int Tryz.underlying5)
def inM (ks : List ByteArray) (k : ByteArray) : Bool := ks.any fun x => decide (x = k)
theorem inM_iff {ks : List ByteArray} {k : ByteArray} : inM ks k = true ↔ k ∈ ks := by
  unfold inM
  rw [List.any_eq_true]
  constructor
  · rintro ⟨x, hx, e⟩; rw [← of_decide_eq_true e]; exact hx
  · intro h; exact ⟨k, h, decide_eq_true rfl⟩
theorem ltIn_ac (ks : List ByteArray) (k : ByteArray) (hl : ks.length ≤ 1000) : AC Tryz.prog 14 [strsT ks, sT k] noHp 0 ⟨.t (bT (inM ks k)), noHp, 0⟩ := by
  refine AC_of Tryz.func14 rfl Tryz.ntmps14 Tryz.results14 (by kernel_rfl) rfl ?_
  simp only [List.zipIdx, List.map, Nat.zero_add, Nat.reduceAdd]
  repeat (first | apply Aw_seq | apply Aw_block | apply Aw_skip | apply Aw_exit | refine Aw_condt rfl ?_ | refine Aw_condf rfl ?_ | ((first | refine qr ?_ | refine qd (by kernel_rfl) (by kernel_rfl) ?_); simp only [go_sem, reduceEqDiff, reduceIte, reduceAdd, reduceMul, reduceSub, reduceLT, reduceLeDiff, Nat.reduceBEq]) | refine dk (by kernel_rfl) ?_)
  refine Aw.rw (rwL (l' := [(5, .t (iT (0 : Nat))), (1, .t (sT k)), (0, .t (strsT ks))]) (os := []) (M := []) (n' := 0) (by repeat (first | exact trivial | refine ⟨rfl, rfl, ?_⟩)) (by rfl) (by simp only [go_sem, reduceEqDiff, reduceIte, reduceAdd, reduceMul, reduceSub, reduceLT, reduceLeDiff, Nat.reduceBEq]; first | done | rfl) (by decide) (by intro m hm; first | omega | (rcases m with _ | _ | _ | _ | _ | _ | m <;> first | exact ⟨by decide, rfl⟩ | omega))) ?_
  refine Aw_loop_rw (ι := { j : Nat // j ≤ ks.length ∧ ∀ q, q < j → ∀ y, ks[q]? = some y → decide (y = k) = false }) (fun q => S [(5, .t (iT (q.1 : Nat))), (1, .t (sT k)), (0, .t (strsT ks))] (hpL []) 0) (fun q => ks.length - q.1) ⟨0, Nat.zero_le _, fun j hj => absurd hj (by omega)⟩ ?_
  rintro ⟨j, hj, hq⟩
  dsimp only
  by_cases hjl : j < ks.length
  · have g1 : decide ((j : Int) < (ks.length : Int)) = true := decide_eq_true (by omega)
    have g2 := wrap_succ hjl (by omega)
    obtain ⟨y, hy⟩ : ∃ e, ks[j]? = some e := ⟨_, List.getElem?_eq_getElem hjl⟩
    cases c1 : decide (y = k)
    · have nx : ∀ q, q < j + 1 → ∀ z, ks[q]? = some z → decide (z = k) = false := fun q hqj z hz => by
        rcases Nat.lt_succ_iff_lt_or_eq.1 hqj with h | rfl
        · exact hq q h z hz
        · rw [hy] at hz; rw [← Option.some.inj hz]; exact c1
      repeat (first | apply Aw_seq | apply Aw_block | apply Aw_skip | apply Aw_exit | refine Aw_condt rfl ?_ | refine Aw_condf rfl ?_ | ((first | refine qr ?_ | refine qd (by kernel_rfl) (by kernel_rfl) ?_); simp only [go_sem, reduceEqDiff, reduceIte, reduceAdd, reduceMul, reduceSub, reduceLT, reduceLeDiff, Nat.reduceBEq, g1, hy, g2, c1]) | refine dk (by kernel_rfl) ?_)
      refine ⟨⟨j + 1, by omega, nx⟩, [], ?_, rwL (by repeat (first | exact trivial | refine ⟨rfl, rfl, ?_⟩)) (by rfl) (by simp only [go_sem, reduceEqDiff, reduceIte, reduceAdd, reduceMul, reduceSub, reduceLT, reduceLeDiff, Nat.reduceBEq]; first | done | rfl) (by decide) (by intro m hm; first | omega | (rcases m with _ | _ | _ | _ | _ | _ | m <;> first | exact ⟨by decide, rfl⟩ | omega))⟩
      show ks.length - (j + 1) < ks.length - j; omega
    · have e : inM ks k = true := inM_iff.2 (by rw [← of_decide_eq_true c1]; exact List.mem_of_getElem? hy)
      rw [e]
      repeat (first | apply Aw_seq | apply Aw_block | apply Aw_skip | apply Aw_exit | refine Aw_condt rfl ?_ | refine Aw_condf rfl ?_ | ((first | refine qr ?_ | refine qd (by kernel_rfl) (by kernel_rfl) ?_); simp only [go_sem, reduceEqDiff, reduceIte, reduceAdd, reduceMul, reduceSub, reduceLT, reduceLeDiff, Nat.reduceBEq, g1, hy, g2, c1]) | refine dk (by kernel_rfl) ?_)
      exact Aw_ret (ret0 (.inl rfl) (by simp only [go_sem, reduceEqDiff, reduceIte, reduceAdd, reduceMul, reduceSub, reduceLT, reduceLeDiff, Nat.reduceBEq]; rfl) (by rfl) rfl)
  · have g1 : decide ((j : Int) < (ks.length : Int)) = false := decide_eq_false (by omega)
    have e : inM ks k = false := by
      unfold inM
      refine List.any_eq_false.2 fun x hx => ?_
      obtain ⟨i, hi⟩ := List.mem_iff_getElem?.1 hx
      rw [hq i (by have := (List.getElem?_eq_some_iff.1 hi).1; omega) x hi]; simp
    rw [e]
    repeat (first | apply Aw_seq | apply Aw_block | apply Aw_skip | apply Aw_exit | refine Aw_condt rfl ?_ | refine Aw_condf rfl ?_ | ((first | refine qr ?_ | refine qd (by kernel_rfl) (by kernel_rfl) ?_); simp only [go_sem, reduceEqDiff, reduceIte, reduceAdd, reduceMul, reduceSub, reduceLT, reduceLeDiff, Nat.reduceBEq, g1]) | refine dk (by kernel_rfl) ?_)
    exact Aw_ret (ret0 (.inl rfl) (by simp only [go_sem, reduceEqDiff, reduceIte, reduceAdd, reduceMul, reduceSub, reduceLT, reduceLeDiff, Nat.reduceBEq]; rfl) (by rfl) rfl)
def leT (s : Sto) (k : ByteArray) (i : Nat) : Nat := ((s.levels.take i).filter fun r => inM (keysM r) k).length
theorem leT_succ {s : Sto} {k : ByteArray} {i : Nat} {r : List Ent} (h : s.levels[i]? = some r) : leT s k (i + 1) = leT s k i + (if inM (keysM r) k = true then 1 else 0) := by
  unfold leT
  rw [List.take_add_one, h, List.filter_append, List.length_append]
  cases c : inM (keysM r) k <;> simp [c]
theorem leT_le (s : Sto) (k : ByteArray) (i : Nat) : leT s k i ≤ i := Nat.le_trans (List.length_filter_le _ _) (by rw [List.length_take]; omega)
theorem VSt.fork {s : Sto} (hv : VSt s) {r : List Ent} (hr : r ∈ s.levels) : Fork (keysM r, 0) ∧ runOk r = true := by
  obtain ⟨i, hi⟩ := List.mem_iff_getElem?.1 hr
  have hil := (List.getElem?_eq_some_iff.1 hi).1
  have hll := hv.ll
  have hsl := hv.sl
  obtain ⟨h1, _, h3⟩ := hv.sv i r _ hi (List.getElem?_eq_getElem (show i < s.sieves.length by omega))
  exact ⟨h1.hf, h3⟩
theorem le_lk {s : Sto} (hv : VSt s) (k : ByteArray) : leT s k 3 ≤ looksM s k := by
  have hll := hv.ll
  unfold leT looksM
  rw [List.take_of_length_le (by omega), ← List.countP_eq_length_filter, ← List.countP_eq_length_filter]
  exact List.countP_mono_left fun r hr h => has_mem (hv.fork hr).1 (inM_iff.1 h)
theorem le_eq {s : Sto} (hv : VSt s) {k : ByteArray} (hk : keyOk k = true) (h5 : s.keep.toNat = 5) : leT s k 3 = looksM s k := by
  have hll := hv.ll
  unfold leT looksM
  rw [List.take_of_length_le (by omega), h5]
  congr 1
  refine List.filter_congr fun r hr => ?_
  rw [Bool.eq_iff_iff, inM_iff]
  exact (has_iff (hv.fork hr).1 hk).symm
theorem law_StoreLooksD (c : List Int) (ho : okY c) : AC Tryz.prog 4 [bytesT c] noHp 0 ⟨.t (bT true), noHp, 0⟩ := by
  refine AC_of Tryz.func4 rfl Tryz.ntmps4 Tryz.results4 (by kernel_rfl) rfl ?_
  simp only [List.zipIdx, List.map, Nat.zero_add, Nat.reduceAdd]
  by_cases hc : c.length ≤ 1048576
  case neg =>
    have g0 : decide ((1048576 : Int) < (c.length : Int)) = true := decide_eq_true (by omega)
    repeat (first | apply Aw_seq | apply Aw_block | apply Aw_skip | apply Aw_exit | refine Aw_condt rfl ?_ | refine Aw_condf rfl ?_ | ((first | refine qr ?_ | refine qd (by kernel_rfl) (by kernel_rfl) ?_); simp only [go_sem, reduceEqDiff, reduceIte, reduceAdd, reduceMul, reduceSub, reduceLT, reduceLeDiff, Nat.reduceBEq, g0]) | refine dk (by kernel_rfl) ?_)
    exact Aw_ret (ret0 (.inl rfl) (by simp only [go_sem, reduceEqDiff, reduceIte, reduceAdd, reduceMul, reduceSub, reduceLT, reduceLeDiff, Nat.reduceBEq]; rfl) (by rfl) rfl)
  have g0 : decide ((1048576 : Int) < (c.length : Int)) = false := decide_eq_false (by omega)
  have hb := ho.byte
  have k0 := drawStoreLooks_ac c (by omega) hb
  obtain ⟨hs, hk⟩ := dslV_st hb
  generalize dslV (c.take 2000) = sk at k0 hs hk
  obtain ⟨s, k⟩ := sk
  dsimp only at k0 hs hk
  have k1 := storeLooks_ac s hs k hk
  have k2 := sstoreLooks_ac s hs k hk
  by_cases hv0 : (storeS s && keyOk k) = true
  case neg =>
    have e : looksI s k = -1 := if_neg hv0
    rw [e] at k1 k2
    have g1 : decide ((-1 : Int) < 0) = true := rfl
    repeat (first | apply Aw_seq | apply Aw_block | apply Aw_skip | apply Aw_exit | refine Aw_condt rfl ?_ | refine Aw_condf rfl ?_ | ((first | refine qr ?_ | refine qd (by kernel_rfl) (by kernel_rfl) ?_); simp only [go_sem, reduceEqDiff, reduceIte, reduceAdd, reduceMul, reduceSub, reduceLT, reduceLeDiff, Nat.reduceBEq, g0, g1, iref]) | refine dk (by kernel_rfl) ?_ | (refine qp (k0) (by simp only [go_sem, reduceEqDiff, reduceIte, reduceAdd, reduceMul, reduceSub, reduceLT, reduceLeDiff, Nat.reduceBEq, g0, g1, iref]; first | done | rfl) rfl (by simp only [go_sem, Nat.reduceLT]) rfl rfl ?_; simp only [go_sem, reduceEqDiff, reduceIte, reduceAdd, reduceMul, reduceSub, reduceLT, reduceLeDiff, Nat.reduceBEq, g0, g1, iref]) | (refine qp (k1) (by simp only [go_sem, reduceEqDiff, reduceIte, reduceAdd, reduceMul, reduceSub, reduceLT, reduceLeDiff, Nat.reduceBEq, g0, g1, iref]; first | done | rfl) rfl (by simp only [go_sem, Nat.reduceLT]) rfl rfl ?_; simp only [go_sem, reduceEqDiff, reduceIte, reduceAdd, reduceMul, reduceSub, reduceLT, reduceLeDiff, Nat.reduceBEq, g0, g1, iref]) | (refine qp (k2) (by simp only [go_sem, reduceEqDiff, reduceIte, reduceAdd, reduceMul, reduceSub, reduceLT, reduceLeDiff, Nat.reduceBEq, g0, g1, iref]; first | done | rfl) rfl (by simp only [go_sem, Nat.reduceLT]) rfl rfl ?_; simp only [go_sem, reduceEqDiff, reduceIte, reduceAdd, reduceMul, reduceSub, reduceLT, reduceLeDiff, Nat.reduceBEq, g0, g1, iref]))
    exact Aw_ret (ret0 (.inl rfl) (by simp only [go_sem, reduceEqDiff, reduceIte, reduceAdd, reduceMul, reduceSub, reduceLT, reduceLeDiff, Nat.reduceBEq]; rfl) (by rfl) rfl)
  have e : looksI s k = (looksM s k : Nat) := if_pos hv0
  rw [e] at k1 k2
  rw [Bool.and_eq_true] at hv0
  have hv := vst_of hv0.1
  have hll := hv.ll
  have hle := le_lk hv k
  have heq := le_eq hv (k := k) hv0.2
  have hl3 : looksM s k ≤ 3 := by
    have h3 := lkT_le s k 3
    have : looksM s k = lkT s k 3 := by unfold looksM lkT; rw [List.take_of_length_le (by omega)]
    omega
  generalize looksM s k = n at k1 k2 hle heq hl3
  have g1 : decide ((n : Int) < 0) = false := decide_eq_false (by omega)
  repeat (first | apply Aw_seq | apply Aw_block | apply Aw_skip | apply Aw_exit | refine Aw_condt rfl ?_ | refine Aw_condf rfl ?_ | ((first | refine qr ?_ | refine qd (by kernel_rfl) (by kernel_rfl) ?_); simp only [go_sem, reduceEqDiff, reduceIte, reduceAdd, reduceMul, reduceSub, reduceLT, reduceLeDiff, Nat.reduceBEq, g0, g1, iref]) | refine dk (by kernel_rfl) ?_ | (refine qp (k0) (by simp only [go_sem, reduceEqDiff, reduceIte, reduceAdd, reduceMul, reduceSub, reduceLT, reduceLeDiff, Nat.reduceBEq, g0, g1, iref]; first | done | rfl) rfl (by simp only [go_sem, Nat.reduceLT]) rfl rfl ?_; simp only [go_sem, reduceEqDiff, reduceIte, reduceAdd, reduceMul, reduceSub, reduceLT, reduceLeDiff, Nat.reduceBEq, g0, g1, iref]) | (refine qp (k1) (by simp only [go_sem, reduceEqDiff, reduceIte, reduceAdd, reduceMul, reduceSub, reduceLT, reduceLeDiff, Nat.reduceBEq, g0, g1, iref]; first | done | rfl) rfl (by simp only [go_sem, Nat.reduceLT]) rfl rfl ?_; simp only [go_sem, reduceEqDiff, reduceIte, reduceAdd, reduceMul, reduceSub, reduceLT, reduceLeDiff, Nat.reduceBEq, g0, g1, iref]) | (refine qp (k2) (by simp only [go_sem, reduceEqDiff, reduceIte, reduceAdd, reduceMul, reduceSub, reduceLT, reduceLeDiff, Nat.reduceBEq, g0, g1, iref]; first | done | rfl) rfl (by simp only [go_sem, Nat.reduceLT]) rfl rfl ?_; simp only [go_sem, reduceEqDiff, reduceIte, reduceAdd, reduceMul, reduceSub, reduceLT, reduceLeDiff, Nat.reduceBEq, g0, g1, iref]))
  refine Aw.rw (rwL (l' := [(7, .t (iT (0 : Nat))), (6, .t (iT (leT s k 0 : Nat))), (5, .t (iT (n : Nat))), (4, .t (sT k)), (3, .t (.c (.ph 0 0 0)))]) (os := [some (stO s)]) (M := [8]) (n' := 1) (by repeat (first | exact trivial | refine ⟨rfl, rfl, ?_⟩)) (by rfl) (by simp only [go_sem, reduceEqDiff, reduceIte, reduceAdd, reduceMul, reduceSub, reduceLT, reduceLeDiff, Nat.reduceBEq]; first | done | rfl) (by decide) (by intro m hm; first | omega | (rcases m with _ | _ | _ | _ | _ | _ | m <;> first | exact ⟨by decide, rfl⟩ | omega))) ?_
  refine Aw_loop_rw (ι := { i : Nat // i ≤ 3 }) (fun q => S [(7, .t (iT (q.1 : Nat))), (6, .t (iT (leT s k q.1 : Nat))), (5, .t (iT (n : Nat))), (4, .t (sT k)), (3, .t (.c (.ph 0 0 0)))] (hpL [some (stO s)]) 1) (fun q => 3 - q.1) ⟨0, Nat.zero_le _⟩ ?_
  rintro ⟨i, hi⟩
  dsimp only
  by_cases hlt : i < 3
  · have g2 : decide ((i : Int) < (s.levels.length : Int)) = true := decide_eq_true (by omega)
    have w := wrap_succ hlt (by omega)
    obtain ⟨r, hr⟩ : ∃ r, s.levels[i]? = some r := ⟨_, List.getElem?_eq_getElem (by omega)⟩
    have hrm := List.mem_of_getElem? hr
    have k3 := runKeysS_ac r (hs.lev r hrm)
    rw [if_pos (hv.fork hrm).2] at k3
    have hkl : (keysM r).length ≤ 1000 := by have h1 := keysM_len r; have h2 := (run_pw (hv.fork hrm).2).2.2; omega
    have k4 := ltIn_ac (keysM r) k hkl
    have hsu := leT_succ (k := k) hr
    have hle2 := leT_le s k i
    cases c3 : inM (keysM r) k
    · rw [c3] at k4
      rw [c3, if_neg (by simp), Nat.add_zero] at hsu
      repeat (first | apply Aw_seq | apply Aw_block | apply Aw_skip | apply Aw_exit | refine Aw_condt rfl ?_ | refine Aw_condf rfl ?_ | ((first | refine qr ?_ | refine qd (by kernel_rfl) (by kernel_rfl) ?_); simp only [go_sem, reduceEqDiff, reduceIte, reduceAdd, reduceMul, reduceSub, reduceLT, reduceLeDiff, Nat.reduceBEq, g2, w, hr]) | refine dk (by kernel_rfl) ?_ | (refine qp (k3) (by simp only [go_sem, reduceEqDiff, reduceIte, reduceAdd, reduceMul, reduceSub, reduceLT, reduceLeDiff, Nat.reduceBEq, g2, w, hr]; first | done | rfl) rfl (by simp only [go_sem, Nat.reduceLT]) rfl rfl ?_; simp only [go_sem, reduceEqDiff, reduceIte, reduceAdd, reduceMul, reduceSub, reduceLT, reduceLeDiff, Nat.reduceBEq, g2, w, hr]) | (refine qp (k4) (by simp only [go_sem, reduceEqDiff, reduceIte, reduceAdd, reduceMul, reduceSub, reduceLT, reduceLeDiff, Nat.reduceBEq, g2, w, hr]; first | done | rfl) rfl (by simp only [go_sem, Nat.reduceLT]) rfl rfl ?_; simp only [go_sem, reduceEqDiff, reduceIte, reduceAdd, reduceMul, reduceSub, reduceLT, reduceLeDiff, Nat.reduceBEq, g2, w, hr]))
      refine ⟨⟨i + 1, hlt⟩, [0], ?_, ?_⟩
      rotate_left
      dsimp only
      rw [hsu]
      exact rwL (by repeat (first | exact trivial | refine ⟨rfl, rfl, ?_⟩)) (by rfl) (by simp only [go_sem, reduceEqDiff, reduceIte, reduceAdd, reduceMul, reduceSub, reduceLT, reduceLeDiff, Nat.reduceBEq]; first | done | rfl) (by decide) (by intro m hm; first | omega | (rcases m with _ | _ | _ | _ | _ | _ | m <;> first | exact ⟨by decide, rfl⟩ | omega))
      show 3 - (i + 1) < 3 - i; omega
    · rw [c3] at k4
      rw [c3, if_pos rfl] at hsu
      have w2 : IntKind.i64.wrap ((leT s k i : Int) + 1) = ((leT s k i + 1 : Nat) : Int) := wn (by omega) (by omega)
      repeat (first | apply Aw_seq | apply Aw_block | apply Aw_skip | apply Aw_exit | refine Aw_condt rfl ?_ | refine Aw_condf rfl ?_ | ((first | refine qr ?_ | refine qd (by kernel_rfl) (by kernel_rfl) ?_); simp only [go_sem, reduceEqDiff, reduceIte, reduceAdd, reduceMul, reduceSub, reduceLT, reduceLeDiff, Nat.reduceBEq, g2, w, w2, hr]) | refine dk (by kernel_rfl) ?_ | (refine qp (k3) (by simp only [go_sem, reduceEqDiff, reduceIte, reduceAdd, reduceMul, reduceSub, reduceLT, reduceLeDiff, Nat.reduceBEq, g2, w, w2, hr]; first | done | rfl) rfl (by simp only [go_sem, Nat.reduceLT]) rfl rfl ?_; simp only [go_sem, reduceEqDiff, reduceIte, reduceAdd, reduceMul, reduceSub, reduceLT, reduceLeDiff, Nat.reduceBEq, g2, w, w2, hr]) | (refine qp (k4) (by simp only [go_sem, reduceEqDiff, reduceIte, reduceAdd, reduceMul, reduceSub, reduceLT, reduceLeDiff, Nat.reduceBEq, g2, w, w2, hr]; first | done | rfl) rfl (by simp only [go_sem, Nat.reduceLT]) rfl rfl ?_; simp only [go_sem, reduceEqDiff, reduceIte, reduceAdd, reduceMul, reduceSub, reduceLT, reduceLeDiff, Nat.reduceBEq, g2, w, w2, hr]))
      refine ⟨⟨i + 1, hlt⟩, [0], ?_, ?_⟩
      rotate_left
      dsimp only
      rw [hsu]
      exact rwL (by repeat (first | exact trivial | refine ⟨rfl, rfl, ?_⟩)) (by rfl) (by simp only [go_sem, reduceEqDiff, reduceIte, reduceAdd, reduceMul, reduceSub, reduceLT, reduceLeDiff, Nat.reduceBEq]; first | done | rfl) (by decide) (by intro m hm; first | omega | (rcases m with _ | _ | _ | _ | _ | _ | m <;> first | exact ⟨by decide, rfl⟩ | omega))
      show 3 - (i + 1) < 3 - i; omega
  · have g2 : decide ((i : Int) < (s.levels.length : Int)) = false := decide_eq_false (by omega)
    obtain rfl : i = 3 := by omega
    have hkp := hv.kp
    generalize leT s k 3 = m at hle heq ⊢
    have g3 : decide ((m : Int) ≤ (n : Int)) = true := decide_eq_true (by omega)
    have g4 : decide ((n : Int) ≤ 3) = true := decide_eq_true (by omega)
    by_cases c5 : s.keep < 5
    · have g5 : decide (s.keep < 5) = true := decide_eq_true c5
      repeat (first | apply Aw_seq | apply Aw_block | apply Aw_skip | apply Aw_exit | refine Aw_condt rfl ?_ | refine Aw_condf rfl ?_ | ((first | refine qr ?_ | refine qd (by kernel_rfl) (by kernel_rfl) ?_); simp only [go_sem, reduceEqDiff, reduceIte, reduceAdd, reduceMul, reduceSub, reduceLT, reduceLeDiff, Nat.reduceBEq, g2, g3, g4, g5]) | refine dk (by kernel_rfl) ?_)
      exact Aw_ret (ret0 (.inl rfl) (by simp only [go_sem, reduceEqDiff, reduceIte, reduceAdd, reduceMul, reduceSub, reduceLT, reduceLeDiff, Nat.reduceBEq]; rfl) (by rfl) rfl)
    · have g5 : decide (s.keep < 5) = false := decide_eq_false c5
      have g6 : decide ((n : Int) = (m : Int)) = true := decide_eq_true (by have := heq (by omega); omega)
      repeat (first | apply Aw_seq | apply Aw_block | apply Aw_skip | apply Aw_exit | refine Aw_condt rfl ?_ | refine Aw_condf rfl ?_ | ((first | refine qr ?_ | refine qd (by kernel_rfl) (by kernel_rfl) ?_); simp only [go_sem, reduceEqDiff, reduceIte, reduceAdd, reduceMul, reduceSub, reduceLT, reduceLeDiff, Nat.reduceBEq, g2, g3, g4, g5, g6]) | refine dk (by kernel_rfl) ?_)
      exact Aw_ret (ret0 (.inl rfl) (by simp only [go_sem, reduceEqDiff, reduceIte, reduceAdd, reduceMul, reduceSub, reduceLT, reduceLeDiff, Nat.reduceBEq]; rfl) (by rfl) rfl)
end Go.Proofs.YtjolcfkepcmjnabGreat.Ab
