/-
  Contracts: deeds that are drawn, the reference's. No condition.
  Contracts: all that was put, drawn, the reference's. No condition.
  Contract: a store that is drawn, the reference's. No condition.
  What deeds keep of a store. No condition.
  What deeds keep of a store's sieves. No condition.
  Contract: a store that is drawn, some spoilt, the reference's. No condition.
  Contract: a store that is drawn for its check, the reference's. No condition.
  Plain law: keys of stores that are drawn are short, and few. No condition.
  Contracts: a store, a key and a time that are drawn, the reference's. No condition.
  Contract: runs that are the same. No condition.
  Contracts: texts, sieves that are the same. No condition.
  Whatever argument of the seat's kinds can be read as data is plain data of the machine's: lemmas, kind by kind (whole numbers, bools, strings, slices, structs). No condition.
  Contracts: stores that are the same; a store, a key and a value that are drawn. No condition.
  Contract: the law of room gives true, whatever the code. No condition.
-/
import Derived.Test.YtjolcfkepcmjnaaGreatYf
import Derived.Test.YtjolcfkepcmjnaaGreatYc
import Derived.Test.YtjolcfkepcmjnaaGreatYe
import Derived.Deep.Slices
import Derived.ChangeArms
import Derived.DataReads
import Derived.Below
namespace Go.Proofs.YtjolcfkepcmjnaaGreat.Ab
open Nat renaming reduceEqDiff → jE, reduceAdd → jA, reduceMul → jM, reduceSub → jS, reduceLT → jL, reduceLeDiff → jD, reduceBEq → jB
set_option linter.deprecated false
set_option linter.unusedVariables false
set_option linter.unusedSimpArgs false
open Go Go.Proofs
set_option maxRecDepth 10000
set_option maxHeartbeats 8000000
noncomputable def deedV (b : List Int) (p : Nat) (l : List ByteArray) : Deed × Nat :=
  if pickV b p 10 < 5 then (⟨1, (nearV b (p + 1) l).1, (pickV b (nearV b (p + 1) l).2 100 : Nat)⟩, (nearV b (p + 1) l).2 + 1)
  else if pickV b p 10 = 5 then (⟨2, (nearV b (p + 1) l).1, 0⟩, (nearV b (p + 1) l).2)
  else if pickV b p 10 = 6 then (⟨3, zs, 0⟩, p + 1)
  else if pickV b p 10 = 7 then (⟨4, zs, (pickV b (p + 1) 20 : Nat)⟩, p + 2)
  else if pickV b p 10 = 8 then (⟨5, zs, 0⟩, p + 1)
  else (⟨6, zs, (pickV b (p + 1) 3 : Nat)⟩, p + 2)
theorem deedV_fin {b : List Int} (hb : byteL b) {p : Nat} {l : List ByteArray} (hp : p ≤ 500000) (hl : l.length ≤ 1000) (hs : ∀ s ∈ l, s.size ≤ 5) : (deedV b p l).1.key.size ≤ 5 ∧ (deedV b p l).2 ≤ p + 9 := by
  have h := nearV_fin hb (p := p + 1) (K := 5) (l := l) (by omega) (by omega) (by omega) hs
  have z : zs.size = 0 := rfl
  unfold deedV
  (repeat' split) <;> dsimp only <;> (constructor <;> omega)
theorem l71Deed_ac {b : List Int} {p : Nat} {l : List ByteArray} (hb : byteL b) (hp : p ≤ 500000) (hl : l.length ≤ 1000) (hs : ∀ s ∈ l, s.size ≤ 5) : AC Tryz.prog 106 [.c (.ph 0 0 0), strsT l] (hpL [some (rdO b p)]) 1 ⟨.t (deedT (deedV b p l).1), hpL [some (rdO b (deedV b p l).2)], 1⟩ := by
  have k1 := pickV_ac (n := 10) hb (show p ≤ 1000000 by omega) (by omega)
  have h1 := pickV_lt (n := 10) hb (show p ≤ 1000000 by omega) (by omega) (by omega)
  have kn := l71Near_ac (l := l) hb (show p + 1 ≤ 800000 by omega) (by omega) (fun s h => by have := hs s h; omega)
  have hn := nearV_fin hb (p := p + 1) (K := 5) (l := l) (by omega) (by omega) (by omega) hs
  have k2 := pickV_ac (n := 100) hb (show (nearV b (p + 1) l).2 ≤ 1000000 by omega) (by omega)
  have k3 := pickV_ac (n := 20) hb (show p + 1 ≤ 1000000 by omega) (by omega)
  have k4 := pickV_ac (n := 3) hb (show p + 1 ≤ 1000000 by omega) (by omega)
  have hc : pickV b p 10 = 0 ∨ pickV b p 10 = 1 ∨ pickV b p 10 = 2 ∨ pickV b p 10 = 3 ∨ pickV b p 10 = 4 ∨ pickV b p 10 = 5 ∨ pickV b p 10 = 6 ∨ pickV b p 10 = 7 ∨ pickV b p 10 = 8 ∨ pickV b p 10 = 9 := by omega
  unfold deedV
  rcases hc with hv | hv | hv | hv | hv | hv | hv | hv | hv | hv
  · rw [hv] at k1
    have g0 : decide (((0 : Nat) : Int) = 0) = true := rfl
    simp only [hv]
    rw [if_pos (show 0 < 5 by decide)]
    refine AC_of Tryz.func106 rfl Tryz.ntmps106 Tryz.results106 (by kernel_rfl) rfl ?_
    simp only [List.zipIdx, List.map, Nat.zero_add, Nat.reduceAdd]
    repeat (first | apply Aw_seq | apply Aw_block | apply Aw_skip | apply Aw_exit | refine Aw_condt rfl ?_ | refine Aw_condf rfl ?_ | ((first | refine qr ?_ | refine qd (by kernel_rfl) (by kernel_rfl) ?_); simp only [go_sem, jE, reduceIte, jA, jM, jS, jL, jD, jB, g0]) | refine dk (by kernel_rfl) ?_ | (refine qx (call_L (N' := [0]) (L := []) (k1) rfl (.cons (.nm rfl) (.cons (.nm rfl) (.nil))) (by decide) (by decide) (by decide) (by simp only [go_sem, jE, reduceIte, jA, jM, jS, jL, jD, jB, g0]; first | done | rfl) (.inl rfl) rfl (by decide)) (by simp only [go_sem, jE, reduceIte, jA, jM, jS, jL, jD, jB, g0]; first | done | rfl) rfl (by simp only [go_sem, Nat.reduceLT]) ?_; simp only [go_sem, jE, reduceIte, jA, jM, jS, jL, jD, jB, g0]) | (refine qx (call_L (N' := [0]) (L := []) (kn) rfl (.cons (.nm rfl) (.cons (.nm rfl) (.nil))) (by decide) (by decide) (by decide) (by simp only [go_sem, jE, reduceIte, jA, jM, jS, jL, jD, jB, g0]; first | done | rfl) (.inl rfl) rfl (by decide)) (by simp only [go_sem, jE, reduceIte, jA, jM, jS, jL, jD, jB, g0]; first | done | rfl) rfl (by simp only [go_sem, Nat.reduceLT]) ?_; simp only [go_sem, jE, reduceIte, jA, jM, jS, jL, jD, jB, g0]) | (refine qx (call_L (N' := [0]) (L := []) (k2) rfl (.cons (.nm rfl) (.cons (.nm rfl) (.nil))) (by decide) (by decide) (by decide) (by simp only [go_sem, jE, reduceIte, jA, jM, jS, jL, jD, jB, g0]; first | done | rfl) (.inl rfl) rfl (by decide)) (by simp only [go_sem, jE, reduceIte, jA, jM, jS, jL, jD, jB, g0]; first | done | rfl) rfl (by simp only [go_sem, Nat.reduceLT]) ?_; simp only [go_sem, jE, reduceIte, jA, jM, jS, jL, jD, jB, g0]))
    exact Aw_ret (retL (M := [0]) (.inl rfl) (by simp only [go_sem, jE, reduceIte, jA, jM, jS, jL, jD, jB]; first | done | rfl) rfl rfl (by rfl) (by simp only [go_sem, jE, reduceIte, jA, jM, jS, jL, jD, jB]; first | done | rfl | (and_intros <;> rfl)) (by decide) (by unfold idM; decide))
  · rw [hv] at k1
    have g0 : decide (((1 : Nat) : Int) = 0) = false := rfl
    have g1 : decide (((1 : Nat) : Int) = 1) = true := rfl
    simp only [hv]
    rw [if_pos (show 1 < 5 by decide)]
    refine AC_of Tryz.func106 rfl Tryz.ntmps106 Tryz.results106 (by kernel_rfl) rfl ?_
    simp only [List.zipIdx, List.map, Nat.zero_add, Nat.reduceAdd]
    repeat (first | apply Aw_seq | apply Aw_block | apply Aw_skip | apply Aw_exit | refine Aw_condt rfl ?_ | refine Aw_condf rfl ?_ | ((first | refine qr ?_ | refine qd (by kernel_rfl) (by kernel_rfl) ?_); simp only [go_sem, jE, reduceIte, jA, jM, jS, jL, jD, jB, g0, g1]) | refine dk (by kernel_rfl) ?_ | (refine qx (call_L (N' := [0]) (L := []) (k1) rfl (.cons (.nm rfl) (.cons (.nm rfl) (.nil))) (by decide) (by decide) (by decide) (by simp only [go_sem, jE, reduceIte, jA, jM, jS, jL, jD, jB, g0, g1]; first | done | rfl) (.inl rfl) rfl (by decide)) (by simp only [go_sem, jE, reduceIte, jA, jM, jS, jL, jD, jB, g0, g1]; first | done | rfl) rfl (by simp only [go_sem, Nat.reduceLT]) ?_; simp only [go_sem, jE, reduceIte, jA, jM, jS, jL, jD, jB, g0, g1]) | (refine qx (call_L (N' := [0]) (L := []) (kn) rfl (.cons (.nm rfl) (.cons (.nm rfl) (.nil))) (by decide) (by decide) (by decide) (by simp only [go_sem, jE, reduceIte, jA, jM, jS, jL, jD, jB, g0, g1]; first | done | rfl) (.inl rfl) rfl (by decide)) (by simp only [go_sem, jE, reduceIte, jA, jM, jS, jL, jD, jB, g0, g1]; first | done | rfl) rfl (by simp only [go_sem, Nat.reduceLT]) ?_; simp only [go_sem, jE, reduceIte, jA, jM, jS, jL, jD, jB, g0, g1]) | (refine qx (call_L (N' := [0]) (L := []) (k2) rfl (.cons (.nm rfl) (.cons (.nm rfl) (.nil))) (by decide) (by decide) (by decide) (by simp only [go_sem, jE, reduceIte, jA, jM, jS, jL, jD, jB, g0, g1]; first | done | rfl) (.inl rfl) rfl (by decide)) (by simp only [go_sem, jE, reduceIte, jA, jM, jS, jL, jD, jB, g0, g1]; first | done | rfl) rfl (by simp only [go_sem, Nat.reduceLT]) ?_; simp only [go_sem, jE, reduceIte, jA, jM, jS, jL, jD, jB, g0, g1]))
    exact Aw_ret (retL (M := [0]) (.inl rfl) (by simp only [go_sem, jE, reduceIte, jA, jM, jS, jL, jD, jB]; first | done | rfl) rfl rfl (by rfl) (by simp only [go_sem, jE, reduceIte, jA, jM, jS, jL, jD, jB]; first | done | rfl | (and_intros <;> rfl)) (by decide) (by unfold idM; decide))
  · rw [hv] at k1
    have g0 : decide (((2 : Nat) : Int) = 0) = false := rfl
    have g1 : decide (((2 : Nat) : Int) = 1) = false := rfl
    have g2 : decide (((2 : Nat) : Int) = 2) = true := rfl
    simp only [hv]
    rw [if_pos (show 2 < 5 by decide)]
    refine AC_of Tryz.func106 rfl Tryz.ntmps106 Tryz.results106 (by kernel_rfl) rfl ?_
    simp only [List.zipIdx, List.map, Nat.zero_add, Nat.reduceAdd]
    repeat (first | apply Aw_seq | apply Aw_block | apply Aw_skip | apply Aw_exit | refine Aw_condt rfl ?_ | refine Aw_condf rfl ?_ | ((first | refine qr ?_ | refine qd (by kernel_rfl) (by kernel_rfl) ?_); simp only [go_sem, jE, reduceIte, jA, jM, jS, jL, jD, jB, g0, g1, g2]) | refine dk (by kernel_rfl) ?_ | (refine qx (call_L (N' := [0]) (L := []) (k1) rfl (.cons (.nm rfl) (.cons (.nm rfl) (.nil))) (by decide) (by decide) (by decide) (by simp only [go_sem, jE, reduceIte, jA, jM, jS, jL, jD, jB, g0, g1, g2]; first | done | rfl) (.inl rfl) rfl (by decide)) (by simp only [go_sem, jE, reduceIte, jA, jM, jS, jL, jD, jB, g0, g1, g2]; first | done | rfl) rfl (by simp only [go_sem, Nat.reduceLT]) ?_; simp only [go_sem, jE, reduceIte, jA, jM, jS, jL, jD, jB, g0, g1, g2]) | (refine qx (call_L (N' := [0]) (L := []) (kn) rfl (.cons (.nm rfl) (.cons (.nm rfl) (.nil))) (by decide) (by decide) (by decide) (by simp only [go_sem, jE, reduceIte, jA, jM, jS, jL, jD, jB, g0, g1, g2]; first | done | rfl) (.inl rfl) rfl (by decide)) (by simp only [go_sem, jE, reduceIte, jA, jM, jS, jL, jD, jB, g0, g1, g2]; first | done | rfl) rfl (by simp only [go_sem, Nat.reduceLT]) ?_; simp only [go_sem, jE, reduceIte, jA, jM, jS, jL, jD, jB, g0, g1, g2]) | (refine qx (call_L (N' := [0]) (L := []) (k2) rfl (.cons (.nm rfl) (.cons (.nm rfl) (.nil))) (by decide) (by decide) (by decide) (by simp only [go_sem, jE, reduceIte, jA, jM, jS, jL, jD, jB, g0, g1, g2]; first | done | rfl) (.inl rfl) rfl (by decide)) (by simp only [go_sem, jE, reduceIte, jA, jM, jS, jL, jD, jB, g0, g1, g2]; first | done | rfl) rfl (by simp only [go_sem, Nat.reduceLT]) ?_; simp only [go_sem, jE, reduceIte, jA, jM, jS, jL, jD, jB, g0, g1, g2]))
    exact Aw_ret (retL (M := [0]) (.inl rfl) (by simp only [go_sem, jE, reduceIte, jA, jM, jS, jL, jD, jB]; first | done | rfl) rfl rfl (by rfl) (by simp only [go_sem, jE, reduceIte, jA, jM, jS, jL, jD, jB]; first | done | rfl | (and_intros <;> rfl)) (by decide) (by unfold idM; decide))
  · rw [hv] at k1
    have g0 : decide (((3 : Nat) : Int) = 0) = false := rfl
    have g1 : decide (((3 : Nat) : Int) = 1) = false := rfl
    have g2 : decide (((3 : Nat) : Int) = 2) = false := rfl
    have g3 : decide (((3 : Nat) : Int) = 3) = true := rfl
    simp only [hv]
    rw [if_pos (show 3 < 5 by decide)]
    refine AC_of Tryz.func106 rfl Tryz.ntmps106 Tryz.results106 (by kernel_rfl) rfl ?_
    simp only [List.zipIdx, List.map, Nat.zero_add, Nat.reduceAdd]
    repeat (first | apply Aw_seq | apply Aw_block | apply Aw_skip | apply Aw_exit | refine Aw_condt rfl ?_ | refine Aw_condf rfl ?_ | ((first | refine qr ?_ | refine qd (by kernel_rfl) (by kernel_rfl) ?_); simp only [go_sem, jE, reduceIte, jA, jM, jS, jL, jD, jB, g0, g1, g2, g3]) | refine dk (by kernel_rfl) ?_ | (refine qx (call_L (N' := [0]) (L := []) (k1) rfl (.cons (.nm rfl) (.cons (.nm rfl) (.nil))) (by decide) (by decide) (by decide) (by simp only [go_sem, jE, reduceIte, jA, jM, jS, jL, jD, jB, g0, g1, g2, g3]; first | done | rfl) (.inl rfl) rfl (by decide)) (by simp only [go_sem, jE, reduceIte, jA, jM, jS, jL, jD, jB, g0, g1, g2, g3]; first | done | rfl) rfl (by simp only [go_sem, Nat.reduceLT]) ?_; simp only [go_sem, jE, reduceIte, jA, jM, jS, jL, jD, jB, g0, g1, g2, g3]) | (refine qx (call_L (N' := [0]) (L := []) (kn) rfl (.cons (.nm rfl) (.cons (.nm rfl) (.nil))) (by decide) (by decide) (by decide) (by simp only [go_sem, jE, reduceIte, jA, jM, jS, jL, jD, jB, g0, g1, g2, g3]; first | done | rfl) (.inl rfl) rfl (by decide)) (by simp only [go_sem, jE, reduceIte, jA, jM, jS, jL, jD, jB, g0, g1, g2, g3]; first | done | rfl) rfl (by simp only [go_sem, Nat.reduceLT]) ?_; simp only [go_sem, jE, reduceIte, jA, jM, jS, jL, jD, jB, g0, g1, g2, g3]) | (refine qx (call_L (N' := [0]) (L := []) (k2) rfl (.cons (.nm rfl) (.cons (.nm rfl) (.nil))) (by decide) (by decide) (by decide) (by simp only [go_sem, jE, reduceIte, jA, jM, jS, jL, jD, jB, g0, g1, g2, g3]; first | done | rfl) (.inl rfl) rfl (by decide)) (by simp only [go_sem, jE, reduceIte, jA, jM, jS, jL, jD, jB, g0, g1, g2, g3]; first | done | rfl) rfl (by simp only [go_sem, Nat.reduceLT]) ?_; simp only [go_sem, jE, reduceIte, jA, jM, jS, jL, jD, jB, g0, g1, g2, g3]))
    exact Aw_ret (retL (M := [0]) (.inl rfl) (by simp only [go_sem, jE, reduceIte, jA, jM, jS, jL, jD, jB]; first | done | rfl) rfl rfl (by rfl) (by simp only [go_sem, jE, reduceIte, jA, jM, jS, jL, jD, jB]; first | done | rfl | (and_intros <;> rfl)) (by decide) (by unfold idM; decide))
  · rw [hv] at k1
    have g0 : decide (((4 : Nat) : Int) = 0) = false := rfl
    have g1 : decide (((4 : Nat) : Int) = 1) = false := rfl
    have g2 : decide (((4 : Nat) : Int) = 2) = false := rfl
    have g3 : decide (((4 : Nat) : Int) = 3) = false := rfl
    have g4 : decide (((4 : Nat) : Int) = 4) = true := rfl
    simp only [hv]
    rw [if_pos (show 4 < 5 by decide)]
    refine AC_of Tryz.func106 rfl Tryz.ntmps106 Tryz.results106 (by kernel_rfl) rfl ?_
    simp only [List.zipIdx, List.map, Nat.zero_add, Nat.reduceAdd]
    repeat (first | apply Aw_seq | apply Aw_block | apply Aw_skip | apply Aw_exit | refine Aw_condt rfl ?_ | refine Aw_condf rfl ?_ | ((first | refine qr ?_ | refine qd (by kernel_rfl) (by kernel_rfl) ?_); simp only [go_sem, jE, reduceIte, jA, jM, jS, jL, jD, jB, g0, g1, g2, g3, g4]) | refine dk (by kernel_rfl) ?_ | (refine qx (call_L (N' := [0]) (L := []) (k1) rfl (.cons (.nm rfl) (.cons (.nm rfl) (.nil))) (by decide) (by decide) (by decide) (by simp only [go_sem, jE, reduceIte, jA, jM, jS, jL, jD, jB, g0, g1, g2, g3, g4]; first | done | rfl) (.inl rfl) rfl (by decide)) (by simp only [go_sem, jE, reduceIte, jA, jM, jS, jL, jD, jB, g0, g1, g2, g3, g4]; first | done | rfl) rfl (by simp only [go_sem, Nat.reduceLT]) ?_; simp only [go_sem, jE, reduceIte, jA, jM, jS, jL, jD, jB, g0, g1, g2, g3, g4]) | (refine qx (call_L (N' := [0]) (L := []) (kn) rfl (.cons (.nm rfl) (.cons (.nm rfl) (.nil))) (by decide) (by decide) (by decide) (by simp only [go_sem, jE, reduceIte, jA, jM, jS, jL, jD, jB, g0, g1, g2, g3, g4]; first | done | rfl) (.inl rfl) rfl (by decide)) (by simp only [go_sem, jE, reduceIte, jA, jM, jS, jL, jD, jB, g0, g1, g2, g3, g4]; first | done | rfl) rfl (by simp only [go_sem, Nat.reduceLT]) ?_; simp only [go_sem, jE, reduceIte, jA, jM, jS, jL, jD, jB, g0, g1, g2, g3, g4]) | (refine qx (call_L (N' := [0]) (L := []) (k2) rfl (.cons (.nm rfl) (.cons (.nm rfl) (.nil))) (by decide) (by decide) (by decide) (by simp only [go_sem, jE, reduceIte, jA, jM, jS, jL, jD, jB, g0, g1, g2, g3, g4]; first | done | rfl) (.inl rfl) rfl (by decide)) (by simp only [go_sem, jE, reduceIte, jA, jM, jS, jL, jD, jB, g0, g1, g2, g3, g4]; first | done | rfl) rfl (by simp only [go_sem, Nat.reduceLT]) ?_; simp only [go_sem, jE, reduceIte, jA, jM, jS, jL, jD, jB, g0, g1, g2, g3, g4]))
    exact Aw_ret (retL (M := [0]) (.inl rfl) (by simp only [go_sem, jE, reduceIte, jA, jM, jS, jL, jD, jB]; first | done | rfl) rfl rfl (by rfl) (by simp only [go_sem, jE, reduceIte, jA, jM, jS, jL, jD, jB]; first | done | rfl | (and_intros <;> rfl)) (by decide) (by unfold idM; decide))
  · rw [hv] at k1
    have g0 : decide (((5 : Nat) : Int) = 0) = false := rfl
    have g1 : decide (((5 : Nat) : Int) = 1) = false := rfl
    have g2 : decide (((5 : Nat) : Int) = 2) = false := rfl
    have g3 : decide (((5 : Nat) : Int) = 3) = false := rfl
    have g4 : decide (((5 : Nat) : Int) = 4) = false := rfl
    have g5 : decide (((5 : Nat) : Int) = 5) = true := rfl
    simp only [hv]
    rw [if_neg (show ¬ 5 < 5 by decide), if_pos trivial]
    refine AC_of Tryz.func106 rfl Tryz.ntmps106 Tryz.results106 (by kernel_rfl) rfl ?_
    simp only [List.zipIdx, List.map, Nat.zero_add, Nat.reduceAdd]
    repeat (first | apply Aw_seq | apply Aw_block | apply Aw_skip | apply Aw_exit | refine Aw_condt rfl ?_ | refine Aw_condf rfl ?_ | ((first | refine qr ?_ | refine qd (by kernel_rfl) (by kernel_rfl) ?_); simp only [go_sem, jE, reduceIte, jA, jM, jS, jL, jD, jB, g0, g1, g2, g3, g4, g5]) | refine dk (by kernel_rfl) ?_ | (refine qx (call_L (N' := [0]) (L := []) (k1) rfl (.cons (.nm rfl) (.cons (.nm rfl) (.nil))) (by decide) (by decide) (by decide) (by simp only [go_sem, jE, reduceIte, jA, jM, jS, jL, jD, jB, g0, g1, g2, g3, g4, g5]; first | done | rfl) (.inl rfl) rfl (by decide)) (by simp only [go_sem, jE, reduceIte, jA, jM, jS, jL, jD, jB, g0, g1, g2, g3, g4, g5]; first | done | rfl) rfl (by simp only [go_sem, Nat.reduceLT]) ?_; simp only [go_sem, jE, reduceIte, jA, jM, jS, jL, jD, jB, g0, g1, g2, g3, g4, g5]) | (refine qx (call_L (N' := [0]) (L := []) (kn) rfl (.cons (.nm rfl) (.cons (.nm rfl) (.nil))) (by decide) (by decide) (by decide) (by simp only [go_sem, jE, reduceIte, jA, jM, jS, jL, jD, jB, g0, g1, g2, g3, g4, g5]; first | done | rfl) (.inl rfl) rfl (by decide)) (by simp only [go_sem, jE, reduceIte, jA, jM, jS, jL, jD, jB, g0, g1, g2, g3, g4, g5]; first | done | rfl) rfl (by simp only [go_sem, Nat.reduceLT]) ?_; simp only [go_sem, jE, reduceIte, jA, jM, jS, jL, jD, jB, g0, g1, g2, g3, g4, g5]))
    exact Aw_ret (retL (M := [0]) (.inl rfl) (by simp only [go_sem, jE, reduceIte, jA, jM, jS, jL, jD, jB]; first | done | rfl) rfl rfl (by rfl) (by simp only [go_sem, jE, reduceIte, jA, jM, jS, jL, jD, jB]; first | done | rfl | (and_intros <;> rfl)) (by decide) (by unfold idM; decide))
  · rw [hv] at k1
    have g0 : decide (((6 : Nat) : Int) = 0) = false := rfl
    have g1 : decide (((6 : Nat) : Int) = 1) = false := rfl
    have g2 : decide (((6 : Nat) : Int) = 2) = false := rfl
    have g3 : decide (((6 : Nat) : Int) = 3) = false := rfl
    have g4 : decide (((6 : Nat) : Int) = 4) = false := rfl
    have g5 : decide (((6 : Nat) : Int) = 5) = false := rfl
    have g6 : decide (((6 : Nat) : Int) = 6) = true := rfl
    simp only [hv]
    rw [if_neg (show ¬ 6 < 5 by decide), if_neg (show ¬ (6 = 5) by decide), if_pos trivial]
    refine AC_of Tryz.func106 rfl Tryz.ntmps106 Tryz.results106 (by kernel_rfl) rfl ?_
    simp only [List.zipIdx, List.map, Nat.zero_add, Nat.reduceAdd]
    repeat (first | apply Aw_seq | apply Aw_block | apply Aw_skip | apply Aw_exit | refine Aw_condt rfl ?_ | refine Aw_condf rfl ?_ | ((first | refine qr ?_ | refine qd (by kernel_rfl) (by kernel_rfl) ?_); simp only [go_sem, jE, reduceIte, jA, jM, jS, jL, jD, jB, g0, g1, g2, g3, g4, g5, g6]) | refine dk (by kernel_rfl) ?_ | (refine qx (call_L (N' := [0]) (L := []) (k1) rfl (.cons (.nm rfl) (.cons (.nm rfl) (.nil))) (by decide) (by decide) (by decide) (by simp only [go_sem, jE, reduceIte, jA, jM, jS, jL, jD, jB, g0, g1, g2, g3, g4, g5, g6]; first | done | rfl) (.inl rfl) rfl (by decide)) (by simp only [go_sem, jE, reduceIte, jA, jM, jS, jL, jD, jB, g0, g1, g2, g3, g4, g5, g6]; first | done | rfl) rfl (by simp only [go_sem, Nat.reduceLT]) ?_; simp only [go_sem, jE, reduceIte, jA, jM, jS, jL, jD, jB, g0, g1, g2, g3, g4, g5, g6]))
    exact Aw_ret (retL (M := [0]) (.inl rfl) (by simp only [go_sem, jE, reduceIte, jA, jM, jS, jL, jD, jB]; first | done | rfl) rfl rfl (by rfl) (by simp only [go_sem, jE, reduceIte, jA, jM, jS, jL, jD, jB]; first | done | rfl | (and_intros <;> rfl)) (by decide) (by unfold idM; decide))
  · rw [hv] at k1
    have g0 : decide (((7 : Nat) : Int) = 0) = false := rfl
    have g1 : decide (((7 : Nat) : Int) = 1) = false := rfl
    have g2 : decide (((7 : Nat) : Int) = 2) = false := rfl
    have g3 : decide (((7 : Nat) : Int) = 3) = false := rfl
    have g4 : decide (((7 : Nat) : Int) = 4) = false := rfl
    have g5 : decide (((7 : Nat) : Int) = 5) = false := rfl
    have g6 : decide (((7 : Nat) : Int) = 6) = false := rfl
    have g7 : decide (((7 : Nat) : Int) = 7) = true := rfl
    simp only [hv]
    rw [if_neg (show ¬ 7 < 5 by decide), if_neg (show ¬ (7 = 5) by decide), if_neg (show ¬ (7 = 6) by decide), if_pos trivial]
    refine AC_of Tryz.func106 rfl Tryz.ntmps106 Tryz.results106 (by kernel_rfl) rfl ?_
    simp only [List.zipIdx, List.map, Nat.zero_add, Nat.reduceAdd]
    repeat (first | apply Aw_seq | apply Aw_block | apply Aw_skip | apply Aw_exit | refine Aw_condt rfl ?_ | refine Aw_condf rfl ?_ | ((first | refine qr ?_ | refine qd (by kernel_rfl) (by kernel_rfl) ?_); simp only [go_sem, jE, reduceIte, jA, jM, jS, jL, jD, jB, g0, g1, g2, g3, g4, g5, g6, g7]) | refine dk (by kernel_rfl) ?_ | (refine qx (call_L (N' := [0]) (L := []) (k1) rfl (.cons (.nm rfl) (.cons (.nm rfl) (.nil))) (by decide) (by decide) (by decide) (by simp only [go_sem, jE, reduceIte, jA, jM, jS, jL, jD, jB, g0, g1, g2, g3, g4, g5, g6, g7]; first | done | rfl) (.inl rfl) rfl (by decide)) (by simp only [go_sem, jE, reduceIte, jA, jM, jS, jL, jD, jB, g0, g1, g2, g3, g4, g5, g6, g7]; first | done | rfl) rfl (by simp only [go_sem, Nat.reduceLT]) ?_; simp only [go_sem, jE, reduceIte, jA, jM, jS, jL, jD, jB, g0, g1, g2, g3, g4, g5, g6, g7]) | (refine qx (call_L (N' := [0]) (L := []) (k3) rfl (.cons (.nm rfl) (.cons (.nm rfl) (.nil))) (by decide) (by decide) (by decide) (by simp only [go_sem, jE, reduceIte, jA, jM, jS, jL, jD, jB, g0, g1, g2, g3, g4, g5, g6, g7]; first | done | rfl) (.inl rfl) rfl (by decide)) (by simp only [go_sem, jE, reduceIte, jA, jM, jS, jL, jD, jB, g0, g1, g2, g3, g4, g5, g6, g7]; first | done | rfl) rfl (by simp only [go_sem, Nat.reduceLT]) ?_; simp only [go_sem, jE, reduceIte, jA, jM, jS, jL, jD, jB, g0, g1, g2, g3, g4, g5, g6, g7]))
    exact Aw_ret (retL (M := [0]) (.inl rfl) (by simp only [go_sem, jE, reduceIte, jA, jM, jS, jL, jD, jB]; first | done | rfl) rfl rfl (by rfl) (by simp only [go_sem, jE, reduceIte, jA, jM, jS, jL, jD, jB]; first | done | rfl | (and_intros <;> rfl)) (by decide) (by unfold idM; decide))
  · rw [hv] at k1
    have g0 : decide (((8 : Nat) : Int) = 0) = false := rfl
    have g1 : decide (((8 : Nat) : Int) = 1) = false := rfl
    have g2 : decide (((8 : Nat) : Int) = 2) = false := rfl
    have g3 : decide (((8 : Nat) : Int) = 3) = false := rfl
    have g4 : decide (((8 : Nat) : Int) = 4) = false := rfl
    have g5 : decide (((8 : Nat) : Int) = 5) = false := rfl
    have g6 : decide (((8 : Nat) : Int) = 6) = false := rfl
    have g7 : decide (((8 : Nat) : Int) = 7) = false := rfl
    have g8 : decide (((8 : Nat) : Int) = 8) = true := rfl
    simp only [hv]
    rw [if_neg (show ¬ 8 < 5 by decide), if_neg (show ¬ (8 = 5) by decide), if_neg (show ¬ (8 = 6) by decide), if_neg (show ¬ (8 = 7) by decide), if_pos trivial]
    refine AC_of Tryz.func106 rfl Tryz.ntmps106 Tryz.results106 (by kernel_rfl) rfl ?_
    simp only [List.zipIdx, List.map, Nat.zero_add, Nat.reduceAdd]
    repeat (first | apply Aw_seq | apply Aw_block | apply Aw_skip | apply Aw_exit | refine Aw_condt rfl ?_ | refine Aw_condf rfl ?_ | ((first | refine qr ?_ | refine qd (by kernel_rfl) (by kernel_rfl) ?_); simp only [go_sem, jE, reduceIte, jA, jM, jS, jL, jD, jB, g0, g1, g2, g3, g4, g5, g6, g7, g8]) | refine dk (by kernel_rfl) ?_ | (refine qx (call_L (N' := [0]) (L := []) (k1) rfl (.cons (.nm rfl) (.cons (.nm rfl) (.nil))) (by decide) (by decide) (by decide) (by simp only [go_sem, jE, reduceIte, jA, jM, jS, jL, jD, jB, g0, g1, g2, g3, g4, g5, g6, g7, g8]; first | done | rfl) (.inl rfl) rfl (by decide)) (by simp only [go_sem, jE, reduceIte, jA, jM, jS, jL, jD, jB, g0, g1, g2, g3, g4, g5, g6, g7, g8]; first | done | rfl) rfl (by simp only [go_sem, Nat.reduceLT]) ?_; simp only [go_sem, jE, reduceIte, jA, jM, jS, jL, jD, jB, g0, g1, g2, g3, g4, g5, g6, g7, g8]))
    exact Aw_ret (retL (M := [0]) (.inl rfl) (by simp only [go_sem, jE, reduceIte, jA, jM, jS, jL, jD, jB]; first | done | rfl) rfl rfl (by rfl) (by simp only [go_sem, jE, reduceIte, jA, jM, jS, jL, jD, jB]; first | done | rfl | (and_intros <;> rfl)) (by decide) (by unfold idM; decide))
  · rw [hv] at k1
    have g0 : decide (((9 : Nat) : Int) = 0) = false := rfl
    have g1 : decide (((9 : Nat) : Int) = 1) = false := rfl
    have g2 : decide (((9 : Nat) : Int) = 2) = false := rfl
    have g3 : decide (((9 : Nat) : Int) = 3) = false := rfl
    have g4 : decide (((9 : Nat) : Int) = 4) = false := rfl
    have g5 : decide (((9 : Nat) : Int) = 5) = false := rfl
    have g6 : decide (((9 : Nat) : Int) = 6) = false := rfl
    have g7 : decide (((9 : Nat) : Int) = 7) = false := rfl
    have g8 : decide (((9 : Nat) : Int) = 8) = false := rfl
    simp only [hv]
    rw [if_neg (show ¬ 9 < 5 by decide), if_neg (show ¬ (9 = 5) by decide), if_neg (show ¬ (9 = 6) by decide), if_neg (show ¬ (9 = 7) by decide), if_neg (show ¬ (9 = 8) by decide)]
    refine AC_of Tryz.func106 rfl Tryz.ntmps106 Tryz.results106 (by kernel_rfl) rfl ?_
    simp only [List.zipIdx, List.map, Nat.zero_add, Nat.reduceAdd]
    repeat (first | apply Aw_seq | apply Aw_block | apply Aw_skip | apply Aw_exit | refine Aw_condt rfl ?_ | refine Aw_condf rfl ?_ | ((first | refine qr ?_ | refine qd (by kernel_rfl) (by kernel_rfl) ?_); simp only [go_sem, jE, reduceIte, jA, jM, jS, jL, jD, jB, g0, g1, g2, g3, g4, g5, g6, g7, g8]) | refine dk (by kernel_rfl) ?_ | (refine qx (call_L (N' := [0]) (L := []) (k1) rfl (.cons (.nm rfl) (.cons (.nm rfl) (.nil))) (by decide) (by decide) (by decide) (by simp only [go_sem, jE, reduceIte, jA, jM, jS, jL, jD, jB, g0, g1, g2, g3, g4, g5, g6, g7, g8]; first | done | rfl) (.inl rfl) rfl (by decide)) (by simp only [go_sem, jE, reduceIte, jA, jM, jS, jL, jD, jB, g0, g1, g2, g3, g4, g5, g6, g7, g8]; first | done | rfl) rfl (by simp only [go_sem, Nat.reduceLT]) ?_; simp only [go_sem, jE, reduceIte, jA, jM, jS, jL, jD, jB, g0, g1, g2, g3, g4, g5, g6, g7, g8]) | (refine qx (call_L (N' := [0]) (L := []) (k4) rfl (.cons (.nm rfl) (.cons (.nm rfl) (.nil))) (by decide) (by decide) (by decide) (by simp only [go_sem, jE, reduceIte, jA, jM, jS, jL, jD, jB, g0, g1, g2, g3, g4, g5, g6, g7, g8]; first | done | rfl) (.inl rfl) rfl (by decide)) (by simp only [go_sem, jE, reduceIte, jA, jM, jS, jL, jD, jB, g0, g1, g2, g3, g4, g5, g6, g7, g8]; first | done | rfl) rfl (by simp only [go_sem, Nat.reduceLT]) ?_; simp only [go_sem, jE, reduceIte, jA, jM, jS, jL, jD, jB, g0, g1, g2, g3, g4, g5, g6, g7, g8]))
    exact Aw_ret (retL (M := [0]) (.inl rfl) (by simp only [go_sem, jE, reduceIte, jA, jM, jS, jL, jD, jB]; first | done | rfl) rfl rfl (by rfl) (by simp only [go_sem, jE, reduceIte, jA, jM, jS, jL, jD, jB]; first | done | rfl | (and_intros <;> rfl)) (by decide) (by unfold idM; decide))
noncomputable def deedsL (b : List Int) (l : List ByteArray) : Nat → List Deed → Nat → List Deed × Nat
  | 0, o, p => (o, p)
  | n + 1, o, p => deedsL b l n (o ++ [(deedV b p l).1]) (deedV b p l).2
theorem deedsL_fin {b : List Int} (hb : byteL b) {l : List ByteArray} (hl : l.length ≤ 1000) (hs : ∀ s ∈ l, s.size ≤ 5) : ∀ (n : Nat) (o : List Deed) (p : Nat), p + 9 * n ≤ 500000 → o.length + n ≤ 1000 → (∀ d ∈ o, d.key.size ≤ 5) → (deedsL b l n o p).1.length = o.length + n ∧ (∀ d ∈ (deedsL b l n o p).1, d.key.size ≤ 5) ∧ (deedsL b l n o p).2 ≤ p + 9 * n
  | 0, o, p, _, _, h => ⟨by simp [deedsL], h, by simp [deedsL]⟩
  | n + 1, o, p, h1, h2, h3 => by
    obtain ⟨a1, a2⟩ := deedV_fin hb (p := p) (l := l) (by omega) hl hs
    obtain ⟨c1, c2, c3⟩ := deedsL_fin hb hl hs n (o ++ [(deedV b p l).1]) (deedV b p l).2 (by omega) (by simp; omega) (fun d hd => by
      rcases List.mem_append.1 hd with h | h
      · exact h3 d h
      · obtain rfl : d = (deedV b p l).1 := by simpa using h
        exact a1)
    simp only [List.length_append, List.length_cons, List.length_nil] at c1
    exact ⟨by simp only [deedsL]; omega, by simp only [deedsL]; exact c2, by simp only [deedsL]; omega⟩
def xTxt : ByteArray := bs [120]
noncomputable def deedsV (b : List Int) (p : Nat) (most : Nat) : List Deed × Nat :=
  let K := keysV b p 5
  let n := pickV b K.2 ((most + 1 : Nat) : Int)
  let r := deedsL b K.1 n [] (K.2 + 1)
  if pickV b r.2 24 = 0 then (r.1 ++ [⟨IntKind.i64.wrap (((pickV b (r.2 + 1) 9 : Nat) : Int) - 1), xTxt, -1⟩], r.2 + 2) else (r.1, r.2 + 1)
theorem deedsV_fin {b : List Int} (hb : byteL b) {p most : Nat} (hp : p ≤ 100000) (hm : most ≤ 100) : (deedsV b p most).1.length ≤ most + 1 ∧ (∀ d ∈ (deedsV b p most).1, d.key.size ≤ 5) ∧ (deedsV b p most).2 ≤ p + 2000 := by
  obtain ⟨a1, a2, a3⟩ := keysV_fin hb (p := p) (most := 5) (by omega) (by omega)
  have h1 := pickV_lt (n := ((most + 1 : Nat) : Int)) hb (show (keysV b p 5).2 ≤ 1000000 by omega) (by omega) (by omega)
  obtain ⟨c1, c2, c3⟩ := deedsL_fin hb (l := (keysV b p 5).1) (by omega) a2 (pickV b (keysV b p 5).2 ((most + 1 : Nat) : Int)) [] ((keysV b p 5).2 + 1) (by omega) (by show 0 + _ ≤ _; omega) (by simp)
  rw [show ([] : List Deed).length = 0 from rfl] at c1
  unfold deedsV
  dsimp only
  split
  · refine ⟨by simp only [List.length_append, List.length_cons, List.length_nil]; omega, fun d hd => ?_, by dsimp only; omega⟩
    rcases List.mem_append.1 hd with h | h
    · exact c2 d h
    · obtain rfl := by simpa using h
      show xTxt.size ≤ 5
      decide
  · exact ⟨by dsimp only; omega, c2, by dsimp only; omega⟩
def dsRow (ds : List Deed) : Obj := dRow 89 3 (ds.map deedD)
@[go_sem] theorem r_dsRow (ds : List Deed) : dsRow ds = dRow 89 3 (ds.map deedD) := rfl
structure DsI (b : List Int) (l : List ByteArray) (R : List Deed × Nat) where
  n : Nat
  o : List Deed
  p : Nat
  hn : o.length + n ≤ 1000
  hp : p + 9 * n ≤ 500000
  h : deedsL b l n o p = R
theorem l71Deeds_ac {b : List Int} {p most : Nat} (hb : byteL b) (hp : p ≤ 100000) (hm : most ≤ 100) : AC Tryz.prog 52 [.c (.ph 0 0 0), iT most] (hpL [some (rdO b p)]) 1 ⟨.t (.c (.h 1)), hpL [some (rdO b (deedsV b p most).2), some (dsRow (deedsV b p most).1)], 2⟩ := by
  refine AC_of Tryz.func52 rfl Tryz.ntmps52 Tryz.results52 (by kernel_rfl) rfl ?_
  simp only [List.zipIdx, List.map, Nat.zero_add, Nat.reduceAdd]
  have w0 : IntKind.i64.wrap ((most : Int) + 1) = ((most + 1 : Nat) : Int) := wn (by omega) (by omega)
  obtain ⟨a1, a2, a3⟩ := keysV_fin hb (p := p) (most := 5) (by omega) (by omega)
  have kk := l71Keys_ac (most := 5) hb (show p ≤ 600000 by omega) (by omega)
  rw [show ((5 : Nat) : Int) = 5 from rfl] at kk
  have k := pickV_ac (n := ((most + 1 : Nat) : Int)) hb (show (keysV b p 5).2 ≤ 1000000 by omega) (by omega)
  have h6 := pickV_lt (n := ((most + 1 : Nat) : Int)) hb (show (keysV b p 5).2 ≤ 1000000 by omega) (by omega) (by omega)
  obtain ⟨R, hR⟩ : ∃ R, R = deedsL b (keysV b p 5).1 (pickV b (keysV b p 5).2 ((most + 1 : Nat) : Int)) [] ((keysV b p 5).2 + 1) := ⟨_, rfl⟩
  obtain ⟨c1, c2, c3⟩ := deedsL_fin hb (l := (keysV b p 5).1) (by omega) a2 (pickV b (keysV b p 5).2 ((most + 1 : Nat) : Int)) [] ((keysV b p 5).2 + 1) (by omega) (by show 0 + _ ≤ _; omega) (by simp)
  rw [← hR] at c1 c2 c3
  rw [show ([] : List Deed).length = 0 from rfl] at c1
  have hV : deedsV b p most = if pickV b R.2 24 = 0 then (R.1 ++ [⟨IntKind.i64.wrap (((pickV b (R.2 + 1) 9 : Nat) : Int) - 1), xTxt, -1⟩], R.2 + 2) else (R.1, R.2 + 1) := by rw [hR]; rfl
  rw [hV]
  repeat (first | apply Aw_seq | apply Aw_block | apply Aw_skip | apply Aw_exit | refine Aw_condt rfl ?_ | refine Aw_condf rfl ?_ | ((first | refine qr ?_ | refine qd (by kernel_rfl) (by kernel_rfl) ?_); simp only [go_sem, jE, reduceIte, jA, jM, jS, jL, jD, jB, w0]) | refine dk (by kernel_rfl) ?_ | (refine qx (call_L (N' := [0]) (L := []) (kk) rfl (.cons (.nm rfl) (.cons (.nm rfl) (.nil))) (by decide) (by decide) (by decide) (by simp only [go_sem, jE, reduceIte, jA, jM, jS, jL, jD, jB, w0]; first | done | rfl) (.inl rfl) rfl (by decide)) (by simp only [go_sem, jE, reduceIte, jA, jM, jS, jL, jD, jB, w0]; first | done | rfl) rfl (by simp only [go_sem, Nat.reduceLT]) ?_; simp only [go_sem, jE, reduceIte, jA, jM, jS, jL, jD, jB, w0]) | (refine qx (call_L (N' := [0]) (L := []) (k) rfl (.cons (.nm rfl) (.cons (.nm rfl) (.nil))) (by decide) (by decide) (by decide) (by simp only [go_sem, jE, reduceIte, jA, jM, jS, jL, jD, jB, w0]; first | done | rfl) (.inl rfl) rfl (by decide)) (by simp only [go_sem, jE, reduceIte, jA, jM, jS, jL, jD, jB, w0]; first | done | rfl) rfl (by simp only [go_sem, Nat.reduceLT]) ?_; simp only [go_sem, jE, reduceIte, jA, jM, jS, jL, jD, jB, w0]))
  refine Aw.rw (rwL (l' := [(7, .t (iT (pickV b (keysV b p 5).2 ((most + 1 : Nat) : Int) : Nat))), (6, .t (.c (.h 1))), (5, .t (strsT (keysV b p 5).1)), (0, .t (.c (.ph 0 0 0)))]) (os := [some (rdO b ((keysV b p 5).2 + 1)), some (dsRow [])]) (M := [0, 4]) (n' := 2) (by repeat (first | exact trivial | refine ⟨rfl, rfl, ?_⟩)) (by rfl) (by simp only [go_sem, jE, reduceIte, jA, jM, jS, jL, jD, jB, List.map_nil]; first | done | rfl) (by decide) (by unfold idM; decide)) ?_
  refine Aw_loop_rw (ι := DsI b (keysV b p 5).1 R) (fun q => S [(7, .t (iT (q.n : Nat))), (6, .t (.c (.h 1))), (5, .t (strsT (keysV b p 5).1)), (0, .t (.c (.ph 0 0 0)))] (hpL [some (rdO b q.p), some (dsRow q.o)]) 2) (fun q => q.n) ⟨pickV b (keysV b p 5).2 ((most + 1 : Nat) : Int), [], (keysV b p 5).2 + 1, by show 0 + _ ≤ _; omega, by omega, hR.symm⟩ ?_
  rintro ⟨n, o, q, hn, hq, h⟩
  dsimp only
  rcases n with _ | n
  · have g1 : decide ((0 : Int) < ((0 : Nat) : Int)) = false := rfl
    have ho : R = (o, q) := h.symm
    rw [ho]
    rw [ho] at c1 c2 c3
    dsimp only at c1 c2 c3 ⊢
    have k24 := pickV_ac (n := 24) hb (show q ≤ 1000000 by omega) (by omega)
    by_cases c : pickV b q 24 = 0
    · have g2 : decide (((pickV b q 24 : Nat) : Int) = 0) = true := decide_eq_true (by omega)
      have k9 := pickV_ac (n := 9) hb (show q + 1 ≤ 1000000 by omega) (by omega)
      have hap : (o.length + 1) * 32 ≤ 140737488355328 := by omega
      rw [if_pos c]
      dsimp only
      repeat (first | apply Aw_seq | apply Aw_block | apply Aw_skip | apply Aw_exit | refine Aw_condt rfl ?_ | refine Aw_condf rfl ?_ | ((first | refine qr ?_ | refine qd (by kernel_rfl) (by kernel_rfl) ?_); simp only [go_sem, jE, reduceIte, jA, jM, jS, jL, jD, jB, g1, g2, hap, xTxt]) | refine dk (by kernel_rfl) ?_ | (refine qx (call_L (N' := [0]) (L := []) (k24) rfl (.cons (.nm rfl) (.cons (.nm rfl) (.nil))) (by decide) (by decide) (by decide) (by simp only [go_sem, jE, reduceIte, jA, jM, jS, jL, jD, jB, g1, g2, hap, xTxt]; first | done | rfl) (.inl rfl) rfl (by decide)) (by simp only [go_sem, jE, reduceIte, jA, jM, jS, jL, jD, jB, g1, g2, hap, xTxt]; first | done | rfl) rfl (by simp only [go_sem, Nat.reduceLT]) ?_; simp only [go_sem, jE, reduceIte, jA, jM, jS, jL, jD, jB, g1, g2, hap, xTxt]) | (refine qx (call_L (N' := [0]) (L := []) (k9) rfl (.cons (.nm rfl) (.cons (.nm rfl) (.nil))) (by decide) (by decide) (by decide) (by simp only [go_sem, jE, reduceIte, jA, jM, jS, jL, jD, jB, g1, g2, hap, xTxt]; first | done | rfl) (.inl rfl) rfl (by decide)) (by simp only [go_sem, jE, reduceIte, jA, jM, jS, jL, jD, jB, g1, g2, hap, xTxt]; first | done | rfl) rfl (by simp only [go_sem, Nat.reduceLT]) ?_; simp only [go_sem, jE, reduceIte, jA, jM, jS, jL, jD, jB, g1, g2, hap, xTxt]))
      exact Aw_ret (retL (M := [0, 11]) (.inl rfl) (by simp only [go_sem, jE, reduceIte, jA, jM, jS, jL, jD, jB]; first | done | rfl) rfl rfl (by rfl) (by simp only [go_sem, jE, reduceIte, jA, jM, jS, jL, jD, jB, List.map_append, List.map_cons, List.map_nil, xTxt]; first | done | rfl | (and_intros <;> rfl)) (by decide) (by unfold idM; decide))
    · have g2 : decide (((pickV b q 24 : Nat) : Int) = 0) = false := decide_eq_false (by omega)
      rw [if_neg c]
      dsimp only
      repeat (first | apply Aw_seq | apply Aw_block | apply Aw_skip | apply Aw_exit | refine Aw_condt rfl ?_ | refine Aw_condf rfl ?_ | ((first | refine qr ?_ | refine qd (by kernel_rfl) (by kernel_rfl) ?_); simp only [go_sem, jE, reduceIte, jA, jM, jS, jL, jD, jB, g1, g2]) | refine dk (by kernel_rfl) ?_ | (refine qx (call_L (N' := [0]) (L := []) (k24) rfl (.cons (.nm rfl) (.cons (.nm rfl) (.nil))) (by decide) (by decide) (by decide) (by simp only [go_sem, jE, reduceIte, jA, jM, jS, jL, jD, jB, g1, g2]; first | done | rfl) (.inl rfl) rfl (by decide)) (by simp only [go_sem, jE, reduceIte, jA, jM, jS, jL, jD, jB, g1, g2]; first | done | rfl) rfl (by simp only [go_sem, Nat.reduceLT]) ?_; simp only [go_sem, jE, reduceIte, jA, jM, jS, jL, jD, jB, g1, g2]))
      exact Aw_ret (retL (M := [0, 1]) (.inl rfl) (by simp only [go_sem, jE, reduceIte, jA, jM, jS, jL, jD, jB]; first | done | rfl) rfl rfl (by rfl) (by simp only [go_sem, jE, reduceIte, jA, jM, jS, jL, jD, jB]; first | done | rfl | (and_intros <;> rfl)) (by decide) (by unfold idM; decide))
  · have g1 : decide ((0 : Int) < ((n + 1 : Nat) : Int)) = true := decide_eq_true (by omega)
    have w1 : IntKind.i64.wrap (((n + 1 : Nat) : Int) - 1) = (n : Int) := wn (by omega) (by omega)
    have kd := l71Deed_ac (l := (keysV b p 5).1) hb (show q ≤ 500000 by omega) (by omega) a2
    have hd := deedV_fin hb (p := q) (l := (keysV b p 5).1) (by omega) (by omega) a2
    have hap : (o.length + 1) * 32 ≤ 140737488355328 := by omega
    repeat (first | apply Aw_seq | apply Aw_block | apply Aw_skip | apply Aw_exit | refine Aw_condt rfl ?_ | refine Aw_condf rfl ?_ | ((first | refine qr ?_ | refine qd (by kernel_rfl) (by kernel_rfl) ?_); simp only [go_sem, jE, reduceIte, jA, jM, jS, jL, jD, jB, g1, w1, hap]) | refine dk (by kernel_rfl) ?_ | (refine qx (call_L (N' := [0]) (L := []) (kd) rfl (.cons (.nm rfl) (.cons (.nm rfl) (.nil))) (by decide) (by decide) (by decide) (by simp only [go_sem, jE, reduceIte, jA, jM, jS, jL, jD, jB, g1, w1, hap]; first | done | rfl) (.inl rfl) rfl (by decide)) (by simp only [go_sem, jE, reduceIte, jA, jM, jS, jL, jD, jB, g1, w1, hap]; first | done | rfl) rfl (by simp only [go_sem, Nat.reduceLT]) ?_; simp only [go_sem, jE, reduceIte, jA, jM, jS, jL, jD, jB, g1, w1, hap]))
    refine ⟨⟨n, o ++ [(deedV b q (keysV b p 5).1).1], (deedV b q (keysV b p 5).1).2, by simp; omega, by omega, h⟩, [0, 8], ?_, rwL (by repeat (first | exact trivial | refine ⟨rfl, rfl, ?_⟩)) (by rfl) (by simp only [go_sem, jE, reduceIte, jA, jM, jS, jL, jD, jB, List.map_append, List.map_cons, List.map_nil]; first | done | rfl) (by decide) (by unfold idM; decide)⟩
    show n < n + 1; omega
theorem eSto_st (keep : Int) : SmSt (eSto keep) := ⟨smR_nil, fun r hr => by simp [eSto] at hr; subst hr; exact smR_nil, by simp [eSto], by simp [eSto], fun x hx => by simp [eSto] at hx; subst hx; simp [eSve], by simp [eSto]⟩
theorem l71DeedsS_ac {b : List Int} {p most : Nat} (hb : byteL b) (hp : p ≤ 100000) (hm : most ≤ 100) : AC Tryz.prog 52 [.c (.ph 0 0 0), iT most] (hpL [some (rdO b p)]) 1 ⟨.t (deedsT (deedsV b p most).1), hpL [some (rdO b (deedsV b p most).2), none], 2⟩ :=
  AC.setS [1] (l71Deeds_ac hb hp hm) (SetC.row0 rfl rfl) ⟨.inl rfl, rfl, trivial⟩
/-- How much a drawn store's sieves keep. -/
def kpN : Nat → Nat
  | 0 => 0
  | 1 => 1
  | 2 => 1
  | 3 => 2
  | _ => 5
theorem kpN_le : ∀ n, kpN n ≤ 5
  | 0 => by decide
  | 1 => by decide
  | 2 => by decide
  | 3 => by decide
  | n + 4 => Nat.le_refl 5
noncomputable def stoV (b : List Int) (p : Nat) : Sto × Nat := ((pastTo (eSto (kpN (pickV b p 5) : Nat)) (deedsV b (p + 1) 30).1 (deedsV b (p + 1) 30).1.length).1, (deedsV b (p + 1) 30).2)
abbrev hT1 (s : Sto) : TV := .agg [.h 3, .h 1, .h 2, .d (.s (.int .i64 s.keep)), .d (.s (.int .i64 s.time)), .h 4]
theorem sveEq_refl (x : Sve) : sveEq x x = true := by unfold sveEq; simp
theorem eSto_ok {k : Nat} (hk : k ≤ 5) : storeS (eSto (k : Nat)) = true := by
  have h0 : sieveM (keysM []) (k : Int) = some (eSve k) := by rw [keysM_nil]; exact sieve_nil hk
  have hl : ∀ i, i < 3 → sAt (eSto (k : Nat)) i = true := by
    intro i hi
    have lv : lvM (k : Int) i [] (eSve k) = true := by
      unfold lvM
      rw [h0]
      have : runOk [] = true := rfl
      rw [this]
      simp [sveEq_refl]
    have nw : newestM [] [] 0 = true := rfl
    have sp : ∀ j, j < 3 → (decide (j ≤ i) || sPair (eSto (k : Nat)) i j) = true := by
      intro j hj
      have : sPair (eSto (k : Nat)) i j = true := by
        match i, hi, j, hj with
        | 0, _, 0, _ => rfl
        | 0, _, 1, _ => rfl
        | 0, _, 2, _ => rfl
        | 1, _, 0, _ => rfl
        | 1, _, 1, _ => rfl
        | 1, _, 2, _ => rfl
        | 2, _, 0, _ => rfl
        | 2, _, 1, _ => rfl
        | 2, _, 2, _ => rfl
      rw [this]; simp
    unfold sAt
    rw [allI_t sp]
    match i, hi with
    | 0, _ => simpa [eSto] using ⟨lv, nw⟩
    | 1, _ => simpa [eSto] using ⟨lv, nw⟩
    | 2, _ => simpa [eSto] using ⟨lv, nw⟩
  unfold storeS
  rw [allI_t hl]
  unfold headS
  have h1 : inB 0 (k : Int) 5 = true := inKeep hk
  simp only [eSto, h1]
  rfl
theorem l71Store_ac {b : List Int} {p : Nat} (hb : byteL b) (hp : p ≤ 90000) : AC Tryz.prog 88 [.c (.ph 0 0 0)] (hpL [some (rdO b p)]) 1 ⟨.t (hT1 (stoV b p).1), hpL [some (rdO b (stoV b p).2), some (lvRow (stoV b p).1.levels), some (svRow (stoV b p).1.sieves), some (eRow (stoV b p).1.top), some (tmRow (stoV b p).1.times)], 5⟩ := by
  refine AC_of Tryz.func88 rfl Tryz.ntmps88 Tryz.results88 (by kernel_rfl) rfl ?_
  simp only [List.zipIdx, List.map, Nat.zero_add, Nat.reduceAdd]
  obtain ⟨d1, d2, d3⟩ := deedsV_fin hb (p := p + 1) (most := 30) (by omega) (by omega)
  have k5 := pickV_ac (n := 5) hb (show p ≤ 1000000 by omega) (by omega)
  have h5 := pickV_lt (n := 5) hb (show p ≤ 1000000 by omega) (by omega) (by omega)
  obtain ⟨v, hv⟩ : ∃ v, v = pickV b p 5 := ⟨_, rfl⟩
  rw [← hv] at k5 h5
  have k1 := sstoreNew_ok (kpN v) (kpN_le v)
  have kd := l71DeedsS_ac (p := p + 1) (most := 30) hb (by omega) (by omega)
  rw [show ((30 : Nat) : Int) = 30 from rfl] at kd
  have kp := pastDo_ac (eSto (kpN v : Nat)) (deedsV b (p + 1) 30).1 (eSto_st _) (eSto_ok (kpN_le v)) ⟨fun d hd => by have := d2 d hd; unfold smK; omega⟩ (by omega)
  unfold stoV
  rw [← hv]
  dsimp only
  generalize (pastTo (eSto (kpN v : Nat)) (deedsV b (p + 1) 30).1 (deedsV b (p + 1) 30).1.length).1 = x at kp ⊢
  have hx : ([[.d (.s (.int .i64 0))], [.d (.s (.int .i64 1))], [.d (.s (.int .i64 1))], [.d (.s (.int .i64 2))], [.d (.s (.int .i64 5))]] : List (List CV))[v]? = some [.d (.s (.int .i64 (kpN v : Nat)))] := by
    match v, h5 with
    | 0, _ => rfl
    | 1, _ => rfl
    | 2, _ => rfl
    | 3, _ => rfl
    | 4, _ => rfl
  have hlt : v < 5 := by omega
  repeat (first | apply Aw_seq | apply Aw_block | apply Aw_skip | apply Aw_exit | refine Aw_condt rfl ?_ | refine Aw_condf rfl ?_ | ((first | refine qr ?_ | refine qd (by kernel_rfl) (by kernel_rfl) ?_); simp only [go_sem, jE, reduceIte, jA, jM, jS, jL, jD, jB, hx, hlt]) | refine dk (by kernel_rfl) ?_ | (refine qp (k1) (by simp only [go_sem, jE, reduceIte, jA, jM, jS, jL, jD, jB, hx, hlt]; first | done | rfl) rfl (by simp only [go_sem, Nat.reduceLT]) rfl rfl ?_; simp only [go_sem, jE, reduceIte, jA, jM, jS, jL, jD, jB, hx, hlt]) | (refine qx (call_L (N' := [0]) (L := []) (k5) rfl (.cons (.nm rfl) (.cons (.nm rfl) (.nil))) (by decide) (by decide) (by decide) (by simp only [go_sem, jE, reduceIte, jA, jM, jS, jL, jD, jB, hx, hlt]; first | done | rfl) (.inl rfl) rfl (by decide)) (by simp only [go_sem, jE, reduceIte, jA, jM, jS, jL, jD, jB, hx, hlt]; first | done | rfl) rfl (by simp only [go_sem, Nat.reduceLT]) ?_; simp only [go_sem, jE, reduceIte, jA, jM, jS, jL, jD, jB, hx, hlt]) | (refine qx (call_L (N' := [0]) (L := []) (kd) rfl (.cons (.nm rfl) (.cons (.nm rfl) (.nil))) (by decide) (by decide) (by decide) (by simp only [go_sem, jE, reduceIte, jA, jM, jS, jL, jD, jB, hx, hlt]; first | done | rfl) (.inl rfl) rfl (by decide)) (by simp only [go_sem, jE, reduceIte, jA, jM, jS, jL, jD, jB, hx, hlt]; first | done | rfl) rfl (by simp only [go_sem, Nat.reduceLT]) ?_; simp only [go_sem, jE, reduceIte, jA, jM, jS, jL, jD, jB, hx, hlt]) | (refine qx (call_N (L := []) (kp) rfl (.cons (.nm rfl) (.cons (.nm rfl) (.nil))) (.inl rfl) rfl) (by simp only [go_sem, jE, reduceIte, jA, jM, jS, jL, jD, jB, hx, hlt]; first | done | rfl) rfl (by simp only [go_sem, Nat.reduceLT]) ?_; simp only [go_sem, jE, reduceIte, jA, jM, jS, jL, jD, jB, hx, hlt]))
  exact Aw_ret (retL (M := [0, 15, 16, 17, 18]) (.inl rfl) (by simp only [go_sem, jE, reduceIte, jA, jM, jS, jL, jD, jB]; first | done | rfl) rfl rfl (by rfl) (by simp only [go_sem, jE, reduceIte, jA, jM, jS, jL, jD, jB]; first | done | rfl | (and_intros <;> rfl)) (by decide) (by unfold idM; decide))
structure InvS (s : Sto) : Prop where
  h : SmH s
  t0 : 0 ≤ s.time
  t1 : s.time ≤ 999
  tp : s.top.length ≤ 1000
theorem inv_of {s : Sto} (hs : SmSt s) (hv : storeS s = true) : InvS s := by
  obtain ⟨h1, h2, h3, h4, h5, h6, _⟩ := storeS_facts hv
  unfold inB at h6
  rw [Bool.and_eq_true] at h6
  have g1 := of_decide_eq_true h6.1; have g2 := of_decide_eq_true h6.2
  exact ⟨valid_sm hs hv, g1, g2, by omega⟩
theorem downM_inv {s x : Sto} (hs : SmSt s) (hv : storeS s = true) (h : downM s = some x) : InvS x := by
  have v := inv_of hs hv
  obtain ⟨g1, g2, g3, g4, g5⟩ := intoM_sm 2 (s := noTop s) (i := 0) rfl ⟨v.h.ll, v.h.sl, v.h.lev, v.h.tl⟩ hs.top v.tp h
  refine ⟨g1, ?_, ?_, ?_⟩
  · rw [g4]; exact v.t0
  · rw [g4]; exact v.t1
  · rw [g3]; simp [noTop]
theorem addM_inv {s x : Sto} {e : Ent} (hs : SmSt s) (h : addM s e = some x) : InvS x := by
  unfold addM at h
  split at h
  · rename_i hc
    rw [Bool.and_eq_true] at hc
    have he : 0 ≤ e.time ∧ e.time ≤ 999 := by
      have := hc.2
      unfold entOk inB at this
      simp only [Bool.and_eq_true, decide_eq_true_eq] at this
      omega
    obtain ⟨h1, h2, h3, h4, h5, _⟩ := storeS_facts hc.1
    split at h
    · obtain ⟨y, hy, rfl⟩ := Option.map_eq_some_iff.1 h
      obtain ⟨g, gt⟩ := downM_st hs hc.1 hy
      have v := downM_inv hs hc.1 hy
      exact ⟨⟨v.h.ll, v.h.sl, v.h.lev, v.h.tl⟩, he.1, he.2, by show (joinM [e] y.top).length ≤ 1000; rw [joinM_len, gt]; simp⟩
    · obtain rfl := Option.some.inj h
      have v := inv_of hs hc.1
      exact ⟨⟨v.h.ll, v.h.sl, v.h.lev, v.h.tl⟩, he.1, he.2, by show (joinM [e] s.top).length ≤ 1000; rw [joinM_len]; simp; omega⟩
  · cases h
theorem doM_inv {s x : Sto} {d : Deed} (hs : SmSt s) (h : doM s d = some x) : InvS x := by
  unfold doM at h
  split at h
  · exact addM_inv (e := ⟨d.key, d.num, false, nextT s⟩) hs h
  split at h
  · exact addM_inv (e := ⟨d.key, 0, true, nextT s⟩) hs h
  split at h
  · unfold holdM at h
    split at h
    · rename_i hv
      have v := inv_of hs hv
      obtain ⟨h1, h2, h3, h4, h5, _⟩ := storeS_facts hv
      split at h
      · obtain rfl := Option.some.inj h
        have hl : (heldTs s).length ≤ 1000 := by
          unfold heldTs
          split
          · omega
          · simp only [List.length_append, List.length_cons, List.length_nil]; omega
        exact ⟨⟨v.h.ll, v.h.sl, v.h.lev, hl⟩, v.t0, v.t1, v.tp⟩
      · cases h
    · cases h
  split at h
  · unfold freeM at h
    split at h
    · rename_i hv
      have v := inv_of hs hv
      split at h
      · cases h
      · obtain rfl := Option.some.inj h
        exact ⟨⟨v.h.ll, v.h.sl, v.h.lev, Nat.le_trans (colI_len (freeAt_len _ _)) v.h.tl⟩, v.t0, v.t1, v.tp⟩
    · cases h
  split at h
  · unfold sDownM at h
    split at h
    · rename_i hv; exact downM_inv hs hv h
    · cases h
  split at h
  · unfold sJoinM at h
    split at h
    · rename_i hc
      rw [Bool.and_eq_true] at hc
      have v := inv_of hs hc.1
      have sm := valid_sm hs hc.1
      have c2 := hc.2
      unfold inB at c2
      rw [Bool.and_eq_true] at c2
      have g1 := of_decide_eq_true c2.1; have g2 := of_decide_eq_true c2.2
      obtain ⟨y, hy, h2⟩ := Option.bind_eq_some_iff.1 h
      have smx := setM_sm sm (by omega) smR_nil hy
      have hq : SmR (s.levels.getD d.num.toNat []) ∧ (s.levels.getD d.num.toNat []).length ≤ 1000 := by
        rw [List.getD_eq_getElem?_getD, List.getElem?_eq_getElem (by rw [sm.ll]; omega)]; exact sm.lev _ (List.getElem_mem _)
      obtain ⟨q1, q2, q3, q4⟩ := setM_times hy
      obtain ⟨k1, k2, k3, k4, k5⟩ := intoM_sm _ (by omega) smx hq.1 hq.2 h2
      refine ⟨k1, ?_, ?_, ?_⟩
      · rw [k4, q3]; exact v.t0
      · rw [k4, q3]; exact v.t1
      · rw [k3, q2]; exact v.tp
    · cases h
  · cases h
theorem pastTo_inv {s : Sto} {ds : List Deed} (hs : SmSt s) (hi : InvS s) (hd : SmD ds) : ∀ i, i ≤ ds.length → InvS (pastTo s ds i).1 := by
  intro i
  induction i with
  | zero => intro _; exact hi
  | succ i ih =>
    intro hl
    have v := ih (by omega)
    obtain ⟨p1, p2, p3⟩ := pastTo_st hs hd i (by omega)
    obtain ⟨d, hd2⟩ : ∃ d, ds[i]? = some d := ⟨_, List.getElem?_eq_getElem (by omega)⟩
    rw [pastTo_succ hd2]
    unfold pastStep
    cases hm : doM (pastTo s ds i).1 d with
    | none => exact v
    | some x => exact doM_inv p1 hm
theorem stoV_fin {b : List Int} (hb : byteL b) {p : Nat} (hp : p ≤ 90000) : InvS (stoV b p).1 ∧ SmSt (stoV b p).1 ∧ (stoV b p).2 ≤ p + 2001 := by
  obtain ⟨d1, d2, d3⟩ := deedsV_fin hb (p := p + 1) (most := 30) (by omega) (by omega)
  have hd : SmD (deedsV b (p + 1) 30).1 := ⟨fun d hd => by have := d2 d hd; unfold smK; omega⟩
  unfold stoV
  refine ⟨pastTo_inv (eSto_st _) (inv_of (eSto_st _) (eSto_ok (kpN_le _))) hd _ (Nat.le_refl _), (pastTo_st (eSto_st _) hd _ (Nat.le_refl _)).1, by dsimp only; omega⟩
theorem bfs_let {keep : Nat} : ∀ (n : Nat) (q : List (List ByteArray × Nat)), (∀ f ∈ q, Fork f) → (bfs keep n q).letters.length ≤ wts q
  | 0, q, _ => by simp [bfs, zPut]
  | n + 1, [], _ => by simp [bfs, zPut]
  | n + 1, f :: q, h => by
    have hff := h f (by simp)
    have ih := bfs_let (keep := keep) n (q ++ (node keep f).kids) fun g hg => by
      rcases List.mem_append.1 hg with hg | hg
      · exact h g (List.mem_cons_of_mem _ hg)
      · exact node_fork hff g hg
    have rb := runs_b keep f.2 hff.dep 49 (spl f.2 f.1)
    rw [spl_flat f.2 _ f.1 (Nat.le_refl _)] at rb
    have rl := (runs_len keep f.2 49 (spl f.2 f.1)).1
    have e1 : (node keep f).letters.length + wts (node keep f).kids < wt f := by unfold node wt; omega
    simp only [bfs, Put.add, List.length_append]
    rw [wts_app] at ih
    rw [wts_cons]
    omega
theorem sieveM_let {ks : List ByteArray} {keep : Int} {z : Sve} (h : sieveM ks keep = some z) : z.letters.size ≤ 1000 := by
  unfold sieveM at h
  split at h
  · rename_i hc
    obtain ⟨hl, hf, _⟩ := ksOk_iff hc.1
    have e := Option.some.inj h
    rw [← e]
    show (bs (bfsF keep.toNat [(ks, 0)]).letters).size ≤ _
    rw [bs_size]
    have hb := bfs_let (keep := keep.toNat) (wts [(ks, 0)]) [(ks, 0)] fun f hf' => by rw [List.mem_singleton.1 hf']; exact hf
    have e2 : wts [(ks, 0)] ≤ 200 := by rw [wts_one]; unfold wt; simp only []; omega
    unfold bfsF
    omega
  · cases h
def LetS (s : Sto) : Prop := ∀ x ∈ s.sieves, x.letters.size ≤ 1000
theorem setM_let {s x : Sto} {i : Nat} {r : List Ent} (hs : LetS s) (h : setM s i r = some x) : LetS x := by
  obtain ⟨y, rfl, hy, _⟩ := setM_ok h
  intro z hz
  rcases List.mem_or_eq_of_mem_set hz with h | rfl
  · exact hs z h
  · exact sieveM_let hy
theorem intoM_let : ∀ (d : Nat) {s x : Sto} {i : Nat} {r : List Ent}, LetS s → intoM d s i r = some x → LetS x
  | 0, s, x, i, r, hs, h => setM_let hs h
  | d + 1, s, x, i, r, hs, h => by
    simp only [intoM] at h
    split at h
    · rename_i y hy
      obtain rfl := Option.some.inj h
      exact setM_let hs hy
    · obtain ⟨s1, h1, h2⟩ := Option.bind_eq_some_iff.1 h
      exact setM_let (intoM_let d hs h1) h2
theorem downM_let {s x : Sto} (hs : LetS s) (h : downM s = some x) : LetS x := intoM_let 2 (s := noTop s) hs h
theorem addM_let {s x : Sto} {e : Ent} (hs : LetS s) (h : addM s e = some x) : LetS x := by
  unfold addM at h
  split at h
  · split at h
    · obtain ⟨y, hy, rfl⟩ := Option.map_eq_some_iff.1 h
      exact (downM_let hs hy : LetS y)
    · obtain rfl := Option.some.inj h; exact hs
  · cases h
theorem doM_let {s x : Sto} {d : Deed} (hs : LetS s) (h : doM s d = some x) : LetS x := by
  unfold doM at h
  split at h
  · exact addM_let (e := ⟨d.key, d.num, false, nextT s⟩) hs h
  split at h
  · exact addM_let (e := ⟨d.key, 0, true, nextT s⟩) hs h
  split at h
  · unfold holdM at h
    split at h
    · split at h
      · obtain rfl := Option.some.inj h; exact hs
      · cases h
    · cases h
  split at h
  · unfold freeM at h
    split at h
    · split at h
      · cases h
      · obtain rfl := Option.some.inj h; exact hs
    · cases h
  split at h
  · unfold sDownM at h
    split at h
    · exact downM_let hs h
    · cases h
  split at h
  · unfold sJoinM at h
    split at h
    · obtain ⟨y, hy, h2⟩ := Option.bind_eq_some_iff.1 h
      exact intoM_let _ (setM_let hs hy) h2
    · cases h
  · cases h
theorem pastTo_let {s : Sto} {ds : List Deed} (hs : LetS s) : ∀ i, i ≤ ds.length → LetS (pastTo s ds i).1 := by
  intro i
  induction i with
  | zero => intro _; exact hs
  | succ i ih =>
    intro hl
    have v := ih (by omega)
    obtain ⟨d, hd2⟩ : ∃ d, ds[i]? = some d := ⟨_, List.getElem?_eq_getElem (by omega)⟩
    rw [pastTo_succ hd2]
    unfold pastStep
    cases hm : doM (pastTo s ds i).1 d with
    | none => exact v
    | some x => exact doM_let v hm
theorem stoV_let (b : List Int) (p : Nat) : LetS (stoV b p).1 := by
  unfold stoV
  refine pastTo_let ?_ _ (Nat.le_refl _)
  intro x hx
  simp [eSto] at hx
  subst hx
  show ByteArray.size zs ≤ 1000
  decide
/-- A store, its top a row of its own. -/
abbrev toT (s : Sto) : TV := .agg [.h 1, .d (.rs 1 (s.levels.map lvD)), .d (.rs 5 (s.sieves.map sveD)), .d (.s (.int .i64 s.keep)), .d (.s (.int .i64 s.time)), .d (.rs 1 (s.times.map intD))]
theorem l71StoreT_ac {b : List Int} {p : Nat} (hb : byteL b) (hp : p ≤ 90000) : AC Tryz.prog 88 [.c (.ph 0 0 0)] (hpL [some (rdO b p)]) 1 ⟨.t (toT (stoV b p).1), hpL [some (rdO b (stoV b p).2), some (eRow (stoV b p).1.top)], 2⟩ := by
  have h := AC.setS [1, 2, 4] (l71Store_ac hb hp) (y := .t (.agg [.h 3, .d (.rs 1 ((stoV b p).1.levels.map lvD)), .d (.rs 5 ((stoV b p).1.sieves.map sveD)), .d (.s (.int .i64 (stoV b p).1.keep)), .d (.s (.int .i64 (stoV b p).1.time)), .d (.rs 1 ((stoV b p).1.times.map intD))])) (os' := [some (rdO b (stoV b p).2), none, none, some (eRow (stoV b p).1.top), none])
    (.cons (.inl rfl) (.cons (SetC.row0 rfl rfl) (.cons (SetC.row0 rfl rfl) (.cons (.inl rfl) (.cons (.inl rfl) (.cons (SetC.row0 rfl rfl) .nil)))))) ⟨.inl rfl, rfl, .inl rfl, rfl, trivial⟩
  refine AC.sel (M := [0, 3]) h rfl rfl (selL rfl ?_) (by decide) fun m hm => ?_
  · simp only [go_sem, LeftL]
  · obtain rfl : m = 0 := by omega
    exact ⟨by decide, rfl⟩
/-- And its times. -/
theorem l71StoreM_ac {b : List Int} {p : Nat} (hb : byteL b) (hp : p ≤ 90000) : AC Tryz.prog 88 [.c (.ph 0 0 0)] (hpL [some (rdO b p)]) 1 ⟨.t (.agg [.h 1, .d (.rs 1 ((stoV b p).1.levels.map lvD)), .d (.rs 5 ((stoV b p).1.sieves.map sveD)), .d (.s (.int .i64 (stoV b p).1.keep)), .d (.s (.int .i64 (stoV b p).1.time)), .h 2]), hpL [some (rdO b (stoV b p).2), some (eRow (stoV b p).1.top), some (tmRow (stoV b p).1.times)], 3⟩ := by
  have h := AC.setS [1, 2] (l71Store_ac hb hp) (y := .t (.agg [.h 3, .d (.rs 1 ((stoV b p).1.levels.map lvD)), .d (.rs 5 ((stoV b p).1.sieves.map sveD)), .d (.s (.int .i64 (stoV b p).1.keep)), .d (.s (.int .i64 (stoV b p).1.time)), .h 4])) (os' := [some (rdO b (stoV b p).2), none, none, some (eRow (stoV b p).1.top), some (tmRow (stoV b p).1.times)])
    (.cons (.inl rfl) (.cons (SetC.row0 rfl rfl) (.cons (SetC.row0 rfl rfl) (.cons (.inl rfl) (.cons (.inl rfl) (.cons (.inl rfl) .nil)))))) ⟨.inl rfl, rfl, .inl rfl, rfl, .inl rfl, rfl, trivial⟩
  refine AC.sel (M := [0, 3, 4]) h rfl rfl (selL rfl ?_) (by decide) fun m hm => ?_
  · simp only [go_sem, LeftL]
  · obtain rfl : m = 0 := by omega
    exact ⟨by decide, rfl⟩
/-- And its sieves. -/
theorem l71StoreV_ac {b : List Int} {p : Nat} (hb : byteL b) (hp : p ≤ 90000) : AC Tryz.prog 88 [.c (.ph 0 0 0)] (hpL [some (rdO b p)]) 1 ⟨.t (.agg [.h 1, .d (.rs 1 ((stoV b p).1.levels.map lvD)), .h 2, .d (.s (.int .i64 (stoV b p).1.keep)), .d (.s (.int .i64 (stoV b p).1.time)), .d (.rs 1 ((stoV b p).1.times.map intD))]), hpL [some (rdO b (stoV b p).2), some (eRow (stoV b p).1.top), some (svRow (stoV b p).1.sieves)], 3⟩ := by
  have h := AC.setS [1, 4] (l71Store_ac hb hp) (y := .t (.agg [.h 3, .d (.rs 1 ((stoV b p).1.levels.map lvD)), .h 2, .d (.s (.int .i64 (stoV b p).1.keep)), .d (.s (.int .i64 (stoV b p).1.time)), .d (.rs 1 ((stoV b p).1.times.map intD))])) (os' := [some (rdO b (stoV b p).2), none, some (svRow (stoV b p).1.sieves), some (eRow (stoV b p).1.top), none])
    (.cons (.inl rfl) (.cons (SetC.row0 rfl rfl) (.cons (.inl rfl) (.cons (.inl rfl) (.cons (.inl rfl) (.cons (SetC.row0 rfl rfl) .nil)))))) ⟨.inl rfl, rfl, .inl rfl, rfl, .inl rfl, rfl, trivial⟩
  refine AC.sel (M := [0, 3, 2]) h rfl rfl (selL rfl ?_) (by decide) fun m hm => ?_
  · simp only [go_sem, LeftL]
  · obtain rfl : m = 0 := by omega
    exact ⟨by decide, rfl⟩
def sp0 (s : Sto) (v : Nat) : Sto := { s with time := if v = 0 then -1 else 1000 }
def sp1 (s : Sto) : Sto := { s with times := s.times ++ [s.time + 1] }
def sp2 (s : Sto) : Sto := { s with levels := s.levels.drop 1 }
def upL (x : Sve) : Sve := { x with letters := x.letters ++ bs [97] }
def sp3 (s : Sto) : Sto := { s with sieves := s.sieves.modifyHead upL }
def sp4 (s : Sto) : Sto := { s with keep := 6 }
def sp5 (s : Sto) : Sto := { s with top := s.top ++ [⟨⟨#[]⟩, 0, false, 0⟩] }
noncomputable def spoV (b : List Int) (p : Nat) : Sto × Nat :=
  let s := stoV b p
  if pickV b s.2 14 ≠ 0 then (s.1, s.2 + 1)
  else if pickV b (s.2 + 1) 6 = 0 then (sp0 s.1 (pickV b (s.2 + 2) 2), s.2 + 3)
  else if pickV b (s.2 + 1) 6 = 1 then (sp1 s.1, s.2 + 2)
  else if pickV b (s.2 + 1) 6 = 2 then (sp2 s.1, s.2 + 2)
  else if pickV b (s.2 + 1) 6 = 3 then (sp3 s.1, s.2 + 2)
  else if pickV b (s.2 + 1) 6 = 4 then (sp4 s.1, s.2 + 2)
  else (sp5 s.1, s.2 + 2)
theorem l71Spoilt_ac {b : List Int} {p : Nat} (hb : byteL b) (hp : p ≤ 90000) : AC Tryz.prog 34 [.c (.ph 0 0 0)] (hpL [some (rdO b p)]) 1 ⟨.t (toT (spoV b p).1), hpL [some (rdO b (spoV b p).2), some (eRow (spoV b p).1.top)], 2⟩ := by
  obtain ⟨inv, st, hq⟩ := stoV_fin hb hp
  have hlet := stoV_let b p
  have kT := l71StoreT_ac hb hp
  have kM := l71StoreM_ac hb hp
  have kV := l71StoreV_ac hb hp
  unfold spoV
  generalize stoV b p = sq at inv st hq hlet kT kM kV ⊢
  obtain ⟨s, q⟩ := sq
  dsimp only at inv st hq hlet kT kM kV ⊢
  have k14 := pickV_ac (n := 14) hb (show q ≤ 1000000 by omega) (by omega)
  have k6 := pickV_ac (n := 6) hb (show q + 1 ≤ 1000000 by omega) (by omega)
  have l6 := pickV_lt (n := 6) hb (show q + 1 ≤ 1000000 by omega) (by omega) (by omega)
  by_cases c0 : pickV b q 14 = 0
  case neg =>
    rw [if_pos c0]
    have g0 : decide ((0 : Int) < ((pickV b q 14 : Nat) : Int)) = true := decide_eq_true (by omega)
    refine AC_of Tryz.func34 rfl Tryz.ntmps34 Tryz.results34 (by kernel_rfl) rfl ?_
    simp only [List.zipIdx, List.map, Nat.zero_add, Nat.reduceAdd]
    repeat (first | apply Aw_seq | apply Aw_block | apply Aw_skip | apply Aw_exit | refine Aw_condt rfl ?_ | refine Aw_condf rfl ?_ | ((first | refine qr ?_ | refine qd (by kernel_rfl) (by kernel_rfl) ?_); simp only [go_sem, jE, reduceIte, jA, jM, jS, jL, jD, jB, g0]) | refine dk (by kernel_rfl) ?_ | (refine qx (call_L (N' := [0]) (L := []) (kT) rfl (.cons (.nm rfl) (.nil)) (by decide) (by decide) (by decide) (by simp only [go_sem, jE, reduceIte, jA, jM, jS, jL, jD, jB, g0]; first | done | rfl) (.inl rfl) rfl (by decide)) (by simp only [go_sem, jE, reduceIte, jA, jM, jS, jL, jD, jB, g0]; first | done | rfl) rfl (by simp only [go_sem, Nat.reduceLT]) ?_; simp only [go_sem, jE, reduceIte, jA, jM, jS, jL, jD, jB, g0]) | (refine qx (call_L (N' := [0]) (L := []) (k14) rfl (.cons (.nm rfl) (.cons (.nm rfl) (.nil))) (by decide) (by decide) (by decide) (by simp only [go_sem, jE, reduceIte, jA, jM, jS, jL, jD, jB, g0]; first | done | rfl) (.inl rfl) rfl (by decide)) (by simp only [go_sem, jE, reduceIte, jA, jM, jS, jL, jD, jB, g0]; first | done | rfl) rfl (by simp only [go_sem, Nat.reduceLT]) ?_; simp only [go_sem, jE, reduceIte, jA, jM, jS, jL, jD, jB, g0]))
    exact Aw_ret (retL (M := [0, 3]) (.inl rfl) (by simp only [go_sem, jE, reduceIte, jA, jM, jS, jL, jD, jB]; first | done | rfl) rfl rfl (by rfl) (by simp only [go_sem, jE, reduceIte, jA, jM, jS, jL, jD, jB]; first | done | rfl | (and_intros <;> rfl)) (by decide) (by unfold idM; decide))
  rw [if_neg (by omega)]
  have g0 : decide ((0 : Int) < ((pickV b q 14 : Nat) : Int)) = false := decide_eq_false (by omega)
  by_cases c1 : pickV b (q + 1) 6 = 0
  case pos =>
    rw [if_pos c1]
    have d0 : decide (((pickV b (q + 1) 6 : Nat) : Int) = 0) = true := decide_eq_true (by omega)
    have k2 := pickV_ac (n := 2) hb (show q + 1 + 1 ≤ 1000000 by omega) (by omega)
    have l2 := pickV_lt (n := 2) hb (show q + 1 + 1 ≤ 1000000 by omega) (by omega) (by omega)
    obtain ⟨v, hv⟩ : ∃ v, v = pickV b (q + 2) 2 := ⟨_, rfl⟩
    change AC Tryz.prog _ _ _ _ ⟨.t (iT (pickV b (q + 2) 2 : Nat)), _, _⟩ at k2
    change ((pickV b (q + 2) 2 : Nat) : Int) < 2 at l2
    rw [← hv] at k2 l2 ⊢
    have hvl : v < 2 := by omega
    have hx : ([[.d (.s (.int .i64 (-1)))], [.d (.s (.int .i64 1000))]] : List (List CV))[v]? = some [.d (.s (.int .i64 (if v = 0 then -1 else 1000)))] := by
      match v, hvl with
      | 0, _ => rfl
      | 1, _ => rfl
    refine AC_of Tryz.func34 rfl Tryz.ntmps34 Tryz.results34 (by kernel_rfl) rfl ?_
    simp only [List.zipIdx, List.map, Nat.zero_add, Nat.reduceAdd]
    repeat (first | apply Aw_seq | apply Aw_block | apply Aw_skip | apply Aw_exit | refine Aw_condt rfl ?_ | refine Aw_condf rfl ?_ | ((first | refine qr ?_ | refine qd (by kernel_rfl) (by kernel_rfl) ?_); simp only [go_sem, jE, reduceIte, jA, jM, jS, jL, jD, jB, g0, d0, hvl, hx]) | refine dk (by kernel_rfl) ?_ | (refine qx (call_L (N' := [0]) (L := []) (kT) rfl (.cons (.nm rfl) (.nil)) (by decide) (by decide) (by decide) (by simp only [go_sem, jE, reduceIte, jA, jM, jS, jL, jD, jB, g0, d0, hvl, hx]; first | done | rfl) (.inl rfl) rfl (by decide)) (by simp only [go_sem, jE, reduceIte, jA, jM, jS, jL, jD, jB, g0, d0, hvl, hx]; first | done | rfl) rfl (by simp only [go_sem, Nat.reduceLT]) ?_; simp only [go_sem, jE, reduceIte, jA, jM, jS, jL, jD, jB, g0, d0, hvl, hx]) | (refine qx (call_L (N' := [0]) (L := []) (k14) rfl (.cons (.nm rfl) (.cons (.nm rfl) (.nil))) (by decide) (by decide) (by decide) (by simp only [go_sem, jE, reduceIte, jA, jM, jS, jL, jD, jB, g0, d0, hvl, hx]; first | done | rfl) (.inl rfl) rfl (by decide)) (by simp only [go_sem, jE, reduceIte, jA, jM, jS, jL, jD, jB, g0, d0, hvl, hx]; first | done | rfl) rfl (by simp only [go_sem, Nat.reduceLT]) ?_; simp only [go_sem, jE, reduceIte, jA, jM, jS, jL, jD, jB, g0, d0, hvl, hx]) | (refine qx (call_L (N' := [0]) (L := []) (k6) rfl (.cons (.nm rfl) (.cons (.nm rfl) (.nil))) (by decide) (by decide) (by decide) (by simp only [go_sem, jE, reduceIte, jA, jM, jS, jL, jD, jB, g0, d0, hvl, hx]; first | done | rfl) (.inl rfl) rfl (by decide)) (by simp only [go_sem, jE, reduceIte, jA, jM, jS, jL, jD, jB, g0, d0, hvl, hx]; first | done | rfl) rfl (by simp only [go_sem, Nat.reduceLT]) ?_; simp only [go_sem, jE, reduceIte, jA, jM, jS, jL, jD, jB, g0, d0, hvl, hx]) | (refine qx (call_L (N' := [0]) (L := []) (k2) rfl (.cons (.nm rfl) (.cons (.nm rfl) (.nil))) (by decide) (by decide) (by decide) (by simp only [go_sem, jE, reduceIte, jA, jM, jS, jL, jD, jB, g0, d0, hvl, hx]; first | done | rfl) (.inl rfl) rfl (by decide)) (by simp only [go_sem, jE, reduceIte, jA, jM, jS, jL, jD, jB, g0, d0, hvl, hx]; first | done | rfl) rfl (by simp only [go_sem, Nat.reduceLT]) ?_; simp only [go_sem, jE, reduceIte, jA, jM, jS, jL, jD, jB, g0, d0, hvl, hx]))
    exact Aw_ret (retL (M := [0, 3]) (.inl rfl) (by simp only [go_sem, jE, reduceIte, jA, jM, jS, jL, jD, jB]; first | done | rfl) rfl rfl (by rfl) (by simp only [go_sem, jE, reduceIte, jA, jM, jS, jL, jD, jB]; first | done | rfl | (and_intros <;> rfl)) (by decide) (by unfold idM; decide))
  have d0 : decide (((pickV b (q + 1) 6 : Nat) : Int) = 0) = false := decide_eq_false (by omega)
  rw [if_neg c1]
  by_cases c2 : pickV b (q + 1) 6 = 1
  case pos =>
    rw [if_pos c2]
    have d1 : decide (((pickV b (q + 1) 6 : Nat) : Int) = 1) = true := decide_eq_true (by omega)
    have w1 : IntKind.i64.wrap (s.time + 1) = s.time + 1 := wrap_in (by have := inv.t0; omega) (by have := inv.t1; omega)
    have hap : (s.times.length + 1) * 8 ≤ 140737488355328 := by have := inv.h.tl; omega
    have h : AC Tryz.prog 34 [.c (.ph 0 0 0)] (hpL [some (rdO b p)]) 1 ⟨.t (.agg [.h 1, .d (.rs 1 (s.levels.map lvD)), .d (.rs 5 (s.sieves.map sveD)), .d (.s (.int .i64 s.keep)), .d (.s (.int .i64 s.time)), .h 2]), hpL [some (rdO b (q + 2)), some (eRow s.top), some (tmRow (s.times ++ [s.time + 1]))], 3⟩ := by
      refine AC_of Tryz.func34 rfl Tryz.ntmps34 Tryz.results34 (by kernel_rfl) rfl ?_
      simp only [List.zipIdx, List.map, Nat.zero_add, Nat.reduceAdd]
      repeat (first | apply Aw_seq | apply Aw_block | apply Aw_skip | apply Aw_exit | refine Aw_condt rfl ?_ | refine Aw_condf rfl ?_ | ((first | refine qr ?_ | refine qd (by kernel_rfl) (by kernel_rfl) ?_); simp only [go_sem, jE, reduceIte, jA, jM, jS, jL, jD, jB, g0, d0, d1, w1, hap]) | refine dk (by kernel_rfl) ?_ | (refine qx (call_L (N' := [0]) (L := []) (kM) rfl (.cons (.nm rfl) (.nil)) (by decide) (by decide) (by decide) (by simp only [go_sem, jE, reduceIte, jA, jM, jS, jL, jD, jB, g0, d0, d1, w1, hap]; first | done | rfl) (.inl rfl) rfl (by decide)) (by simp only [go_sem, jE, reduceIte, jA, jM, jS, jL, jD, jB, g0, d0, d1, w1, hap]; first | done | rfl) rfl (by simp only [go_sem, Nat.reduceLT]) ?_; simp only [go_sem, jE, reduceIte, jA, jM, jS, jL, jD, jB, g0, d0, d1, w1, hap]) | (refine qx (call_L (N' := [0]) (L := []) (k14) rfl (.cons (.nm rfl) (.cons (.nm rfl) (.nil))) (by decide) (by decide) (by decide) (by simp only [go_sem, jE, reduceIte, jA, jM, jS, jL, jD, jB, g0, d0, d1, w1, hap]; first | done | rfl) (.inl rfl) rfl (by decide)) (by simp only [go_sem, jE, reduceIte, jA, jM, jS, jL, jD, jB, g0, d0, d1, w1, hap]; first | done | rfl) rfl (by simp only [go_sem, Nat.reduceLT]) ?_; simp only [go_sem, jE, reduceIte, jA, jM, jS, jL, jD, jB, g0, d0, d1, w1, hap]) | (refine qx (call_L (N' := [0]) (L := []) (k6) rfl (.cons (.nm rfl) (.cons (.nm rfl) (.nil))) (by decide) (by decide) (by decide) (by simp only [go_sem, jE, reduceIte, jA, jM, jS, jL, jD, jB, g0, d0, d1, w1, hap]; first | done | rfl) (.inl rfl) rfl (by decide)) (by simp only [go_sem, jE, reduceIte, jA, jM, jS, jL, jD, jB, g0, d0, d1, w1, hap]; first | done | rfl) rfl (by simp only [go_sem, Nat.reduceLT]) ?_; simp only [go_sem, jE, reduceIte, jA, jM, jS, jL, jD, jB, g0, d0, d1, w1, hap]))
      exact Aw_ret (retL (M := [0, 3, 20]) (.inl rfl) (by simp only [go_sem, jE, reduceIte, jA, jM, jS, jL, jD, jB]; first | done | rfl) rfl rfl (by rfl) (by simp only [go_sem, jE, reduceIte, jA, jM, jS, jL, jD, jB, List.map_append, List.map_cons, List.map_nil]; first | done | rfl | (and_intros <;> rfl)) (by decide) (by unfold idM; decide))
    refine AC.sel (M := [0, 1]) (AC.setS [2] h (y := .t (toT (sp1 s))) (os' := [some (rdO b (q + 2)), some (eRow s.top), none]) (.cons (.inl rfl) (.cons (.inl rfl) (.cons (.inl rfl) (.cons (.inl rfl) (.cons (.inl rfl) (.cons (SetC.row0 rfl rfl) .nil)))))) ⟨.inl rfl, rfl, .inl rfl, rfl, trivial⟩) rfl rfl (selL rfl ?_) (by decide) fun m hm => ?_
    · simp only [go_sem, LeftL, sp1]
    · obtain rfl : m = 0 := by omega
      exact ⟨by decide, rfl⟩
  have d1 : decide (((pickV b (q + 1) 6 : Nat) : Int) = 1) = false := decide_eq_false (by omega)
  rw [if_neg c2]
  by_cases c3 : pickV b (q + 1) 6 = 2
  case pos =>
    rw [if_pos c3]
    have d2 : decide (((pickV b (q + 1) 6 : Nat) : Int) = 2) = true := decide_eq_true (by omega)
    have hl : s.levels.length = 3 := inv.h.ll
    have e2 : List.drop (Int.toNat 1) (List.take 3 (s.levels.map lvD)) = (s.levels.drop 1).map lvD := by rw [List.take_of_length_le (by simp [hl]), List.map_drop]; rfl
    refine AC_of Tryz.func34 rfl Tryz.ntmps34 Tryz.results34 (by kernel_rfl) rfl ?_
    simp only [List.zipIdx, List.map, Nat.zero_add, Nat.reduceAdd]
    repeat (first | apply Aw_seq | apply Aw_block | apply Aw_skip | apply Aw_exit | refine Aw_condt rfl ?_ | refine Aw_condf rfl ?_ | ((first | refine qr ?_ | refine qd (by kernel_rfl) (by kernel_rfl) ?_); simp only [go_sem, jE, reduceIte, jA, jM, jS, jL, jD, jB, g0, d0, d1, d2, hl, e2]) | refine dk (by kernel_rfl) ?_ | (refine qx (call_L (N' := [0]) (L := []) (kT) rfl (.cons (.nm rfl) (.nil)) (by decide) (by decide) (by decide) (by simp only [go_sem, jE, reduceIte, jA, jM, jS, jL, jD, jB, g0, d0, d1, d2, hl, e2]; first | done | rfl) (.inl rfl) rfl (by decide)) (by simp only [go_sem, jE, reduceIte, jA, jM, jS, jL, jD, jB, g0, d0, d1, d2, hl, e2]; first | done | rfl) rfl (by simp only [go_sem, Nat.reduceLT]) ?_; simp only [go_sem, jE, reduceIte, jA, jM, jS, jL, jD, jB, g0, d0, d1, d2, hl, e2]) | (refine qx (call_L (N' := [0]) (L := []) (k14) rfl (.cons (.nm rfl) (.cons (.nm rfl) (.nil))) (by decide) (by decide) (by decide) (by simp only [go_sem, jE, reduceIte, jA, jM, jS, jL, jD, jB, g0, d0, d1, d2, hl, e2]; first | done | rfl) (.inl rfl) rfl (by decide)) (by simp only [go_sem, jE, reduceIte, jA, jM, jS, jL, jD, jB, g0, d0, d1, d2, hl, e2]; first | done | rfl) rfl (by simp only [go_sem, Nat.reduceLT]) ?_; simp only [go_sem, jE, reduceIte, jA, jM, jS, jL, jD, jB, g0, d0, d1, d2, hl, e2]) | (refine qx (call_L (N' := [0]) (L := []) (k6) rfl (.cons (.nm rfl) (.cons (.nm rfl) (.nil))) (by decide) (by decide) (by decide) (by simp only [go_sem, jE, reduceIte, jA, jM, jS, jL, jD, jB, g0, d0, d1, d2, hl, e2]; first | done | rfl) (.inl rfl) rfl (by decide)) (by simp only [go_sem, jE, reduceIte, jA, jM, jS, jL, jD, jB, g0, d0, d1, d2, hl, e2]; first | done | rfl) rfl (by simp only [go_sem, Nat.reduceLT]) ?_; simp only [go_sem, jE, reduceIte, jA, jM, jS, jL, jD, jB, g0, d0, d1, d2, hl, e2]))
    exact Aw_ret (retL (M := [0, 3]) (.inl rfl) (by simp only [go_sem, jE, reduceIte, jA, jM, jS, jL, jD, jB]; first | done | rfl) rfl rfl (by rfl) (by simp only [go_sem, jE, reduceIte, jA, jM, jS, jL, jD, jB]; first | done | rfl | (and_intros <;> rfl)) (by decide) (by unfold idM; decide))
  have d2 : decide (((pickV b (q + 1) 6 : Nat) : Int) = 2) = false := decide_eq_false (by omega)
  rw [if_neg c3]
  by_cases c4 : pickV b (q + 1) 6 = 3
  case pos =>
    rw [if_pos c4]
    have d3 : decide (((pickV b (q + 1) 6 : Nat) : Int) = 3) = true := decide_eq_true (by omega)
    obtain ⟨x, y, z, hxyz⟩ := len3 inv.h.sl
    have hsz : x.letters.size ≤ 1000 := hlet x (by rw [hxyz]; simp)
    have hap : x.letters.size ≤ 9223372036854775806 := by omega
    rw [hxyz] at kV
    have h : AC Tryz.prog 34 [.c (.ph 0 0 0)] (hpL [some (rdO b p)]) 1 ⟨.t (.agg [.h 1, .d (.rs 1 (s.levels.map lvD)), .h 2, .d (.s (.int .i64 s.keep)), .d (.s (.int .i64 s.time)), .d (.rs 1 (s.times.map intD))]), hpL [some (rdO b (q + 2)), some (eRow s.top), some (svRow [upL x, y, z])], 3⟩ := by
      refine AC_of Tryz.func34 rfl Tryz.ntmps34 Tryz.results34 (by kernel_rfl) rfl ?_
      simp only [List.zipIdx, List.map, Nat.zero_add, Nat.reduceAdd]
      repeat (first | apply Aw_seq | apply Aw_block | apply Aw_skip | apply Aw_exit | refine Aw_condt rfl ?_ | refine Aw_condf rfl ?_ | ((first | refine qr ?_ | refine qd (by kernel_rfl) (by kernel_rfl) ?_); simp only [go_sem, jE, reduceIte, jA, jM, jS, jL, jD, jB, g0, d0, d1, d2, d3, hap]) | refine dk (by kernel_rfl) ?_ | (refine qx (call_L (N' := [0]) (L := []) (kV) rfl (.cons (.nm rfl) (.nil)) (by decide) (by decide) (by decide) (by simp only [go_sem, jE, reduceIte, jA, jM, jS, jL, jD, jB, g0, d0, d1, d2, d3, hap]; first | done | rfl) (.inl rfl) rfl (by decide)) (by simp only [go_sem, jE, reduceIte, jA, jM, jS, jL, jD, jB, g0, d0, d1, d2, d3, hap]; first | done | rfl) rfl (by simp only [go_sem, Nat.reduceLT]) ?_; simp only [go_sem, jE, reduceIte, jA, jM, jS, jL, jD, jB, g0, d0, d1, d2, d3, hap]) | (refine qx (call_L (N' := [0]) (L := []) (k14) rfl (.cons (.nm rfl) (.cons (.nm rfl) (.nil))) (by decide) (by decide) (by decide) (by simp only [go_sem, jE, reduceIte, jA, jM, jS, jL, jD, jB, g0, d0, d1, d2, d3, hap]; first | done | rfl) (.inl rfl) rfl (by decide)) (by simp only [go_sem, jE, reduceIte, jA, jM, jS, jL, jD, jB, g0, d0, d1, d2, d3, hap]; first | done | rfl) rfl (by simp only [go_sem, Nat.reduceLT]) ?_; simp only [go_sem, jE, reduceIte, jA, jM, jS, jL, jD, jB, g0, d0, d1, d2, d3, hap]) | (refine qx (call_L (N' := [0]) (L := []) (k6) rfl (.cons (.nm rfl) (.cons (.nm rfl) (.nil))) (by decide) (by decide) (by decide) (by simp only [go_sem, jE, reduceIte, jA, jM, jS, jL, jD, jB, g0, d0, d1, d2, d3, hap]; first | done | rfl) (.inl rfl) rfl (by decide)) (by simp only [go_sem, jE, reduceIte, jA, jM, jS, jL, jD, jB, g0, d0, d1, d2, d3, hap]; first | done | rfl) rfl (by simp only [go_sem, Nat.reduceLT]) ?_; simp only [go_sem, jE, reduceIte, jA, jM, jS, jL, jD, jB, g0, d0, d1, d2, d3, hap]))
      exact Aw_ret (retL (M := [0, 3, 4]) (.inl rfl) (by simp only [go_sem, jE, reduceIte, jA, jM, jS, jL, jD, jB]; first | done | rfl) rfl rfl (by rfl) (by simp only [go_sem, jE, reduceIte, jA, jM, jS, jL, jD, jB, upL]; first | done | rfl | (and_intros <;> rfl)) (by decide) (by unfold idM; decide))
    have e3 : (sp3 s).sieves = [upL x, y, z] := by unfold sp3; rw [hxyz]; rfl
    show AC Tryz.prog 34 [.c (.ph 0 0 0)] (hpL [some (rdO b p)]) 1 ⟨.t (.agg [.h 1, .d (.rs 1 (s.levels.map lvD)), .d (.rs 5 ((sp3 s).sieves.map sveD)), .d (.s (.int .i64 s.keep)), .d (.s (.int .i64 s.time)), .d (.rs 1 (s.times.map intD))]), hpL [some (rdO b (q + 2)), some (eRow s.top)], 2⟩
    rw [e3]
    refine AC.sel (M := [0, 1]) (AC.setS [2] h (y := .t (.agg [.h 1, .d (.rs 1 (s.levels.map lvD)), .d (.rs 5 ([upL x, y, z].map sveD)), .d (.s (.int .i64 s.keep)), .d (.s (.int .i64 s.time)), .d (.rs 1 (s.times.map intD))])) (os' := [some (rdO b (q + 2)), some (eRow s.top), none]) (.cons (.inl rfl) (.cons (.inl rfl) (.cons (SetC.row0 rfl rfl) (.cons (.inl rfl) (.cons (.inl rfl) (.cons (.inl rfl) .nil)))))) ⟨.inl rfl, rfl, .inl rfl, rfl, trivial⟩) rfl rfl (selL rfl ?_) (by decide) fun m hm => ?_
    · simp only [go_sem, LeftL]
    · obtain rfl : m = 0 := by omega
      exact ⟨by decide, rfl⟩
  have d3 : decide (((pickV b (q + 1) 6 : Nat) : Int) = 3) = false := decide_eq_false (by omega)
  rw [if_neg c4]
  by_cases c5 : pickV b (q + 1) 6 = 4
  case pos =>
    rw [if_pos c5]
    have d4 : decide (((pickV b (q + 1) 6 : Nat) : Int) = 4) = true := decide_eq_true (by omega)
    refine AC_of Tryz.func34 rfl Tryz.ntmps34 Tryz.results34 (by kernel_rfl) rfl ?_
    simp only [List.zipIdx, List.map, Nat.zero_add, Nat.reduceAdd]
    repeat (first | apply Aw_seq | apply Aw_block | apply Aw_skip | apply Aw_exit | refine Aw_condt rfl ?_ | refine Aw_condf rfl ?_ | ((first | refine qr ?_ | refine qd (by kernel_rfl) (by kernel_rfl) ?_); simp only [go_sem, jE, reduceIte, jA, jM, jS, jL, jD, jB, g0, d0, d1, d2, d3, d4]) | refine dk (by kernel_rfl) ?_ | (refine qx (call_L (N' := [0]) (L := []) (kT) rfl (.cons (.nm rfl) (.nil)) (by decide) (by decide) (by decide) (by simp only [go_sem, jE, reduceIte, jA, jM, jS, jL, jD, jB, g0, d0, d1, d2, d3, d4]; first | done | rfl) (.inl rfl) rfl (by decide)) (by simp only [go_sem, jE, reduceIte, jA, jM, jS, jL, jD, jB, g0, d0, d1, d2, d3, d4]; first | done | rfl) rfl (by simp only [go_sem, Nat.reduceLT]) ?_; simp only [go_sem, jE, reduceIte, jA, jM, jS, jL, jD, jB, g0, d0, d1, d2, d3, d4]) | (refine qx (call_L (N' := [0]) (L := []) (k14) rfl (.cons (.nm rfl) (.cons (.nm rfl) (.nil))) (by decide) (by decide) (by decide) (by simp only [go_sem, jE, reduceIte, jA, jM, jS, jL, jD, jB, g0, d0, d1, d2, d3, d4]; first | done | rfl) (.inl rfl) rfl (by decide)) (by simp only [go_sem, jE, reduceIte, jA, jM, jS, jL, jD, jB, g0, d0, d1, d2, d3, d4]; first | done | rfl) rfl (by simp only [go_sem, Nat.reduceLT]) ?_; simp only [go_sem, jE, reduceIte, jA, jM, jS, jL, jD, jB, g0, d0, d1, d2, d3, d4]) | (refine qx (call_L (N' := [0]) (L := []) (k6) rfl (.cons (.nm rfl) (.cons (.nm rfl) (.nil))) (by decide) (by decide) (by decide) (by simp only [go_sem, jE, reduceIte, jA, jM, jS, jL, jD, jB, g0, d0, d1, d2, d3, d4]; first | done | rfl) (.inl rfl) rfl (by decide)) (by simp only [go_sem, jE, reduceIte, jA, jM, jS, jL, jD, jB, g0, d0, d1, d2, d3, d4]; first | done | rfl) rfl (by simp only [go_sem, Nat.reduceLT]) ?_; simp only [go_sem, jE, reduceIte, jA, jM, jS, jL, jD, jB, g0, d0, d1, d2, d3, d4]))
    exact Aw_ret (retL (M := [0, 3]) (.inl rfl) (by simp only [go_sem, jE, reduceIte, jA, jM, jS, jL, jD, jB]; first | done | rfl) rfl rfl (by rfl) (by simp only [go_sem, jE, reduceIte, jA, jM, jS, jL, jD, jB]; first | done | rfl | (and_intros <;> rfl)) (by decide) (by unfold idM; decide))
  have d4 : decide (((pickV b (q + 1) 6 : Nat) : Int) = 4) = false := decide_eq_false (by omega)
  rw [if_neg c5]
  have hap : (s.top.length + 1) * 40 ≤ 140737488355328 := by have := inv.tp; omega
  refine AC_of Tryz.func34 rfl Tryz.ntmps34 Tryz.results34 (by kernel_rfl) rfl ?_
  simp only [List.zipIdx, List.map, Nat.zero_add, Nat.reduceAdd]
  repeat (first | apply Aw_seq | apply Aw_block | apply Aw_skip | apply Aw_exit | refine Aw_condt rfl ?_ | refine Aw_condf rfl ?_ | ((first | refine qr ?_ | refine qd (by kernel_rfl) (by kernel_rfl) ?_); simp only [go_sem, jE, reduceIte, jA, jM, jS, jL, jD, jB, g0, d0, d1, d2, d3, d4, hap]) | refine dk (by kernel_rfl) ?_ | (refine qx (call_L (N' := [0]) (L := []) (kT) rfl (.cons (.nm rfl) (.nil)) (by decide) (by decide) (by decide) (by simp only [go_sem, jE, reduceIte, jA, jM, jS, jL, jD, jB, g0, d0, d1, d2, d3, d4, hap]; first | done | rfl) (.inl rfl) rfl (by decide)) (by simp only [go_sem, jE, reduceIte, jA, jM, jS, jL, jD, jB, g0, d0, d1, d2, d3, d4, hap]; first | done | rfl) rfl (by simp only [go_sem, Nat.reduceLT]) ?_; simp only [go_sem, jE, reduceIte, jA, jM, jS, jL, jD, jB, g0, d0, d1, d2, d3, d4, hap]) | (refine qx (call_L (N' := [0]) (L := []) (k14) rfl (.cons (.nm rfl) (.cons (.nm rfl) (.nil))) (by decide) (by decide) (by decide) (by simp only [go_sem, jE, reduceIte, jA, jM, jS, jL, jD, jB, g0, d0, d1, d2, d3, d4, hap]; first | done | rfl) (.inl rfl) rfl (by decide)) (by simp only [go_sem, jE, reduceIte, jA, jM, jS, jL, jD, jB, g0, d0, d1, d2, d3, d4, hap]; first | done | rfl) rfl (by simp only [go_sem, Nat.reduceLT]) ?_; simp only [go_sem, jE, reduceIte, jA, jM, jS, jL, jD, jB, g0, d0, d1, d2, d3, d4, hap]) | (refine qx (call_L (N' := [0]) (L := []) (k6) rfl (.cons (.nm rfl) (.cons (.nm rfl) (.nil))) (by decide) (by decide) (by decide) (by simp only [go_sem, jE, reduceIte, jA, jM, jS, jL, jD, jB, g0, d0, d1, d2, d3, d4, hap]; first | done | rfl) (.inl rfl) rfl (by decide)) (by simp only [go_sem, jE, reduceIte, jA, jM, jS, jL, jD, jB, g0, d0, d1, d2, d3, d4, hap]; first | done | rfl) rfl (by simp only [go_sem, Nat.reduceLT]) ?_; simp only [go_sem, jE, reduceIte, jA, jM, jS, jL, jD, jB, g0, d0, d1, d2, d3, d4, hap]))
  exact Aw_ret (retL (M := [0, 23]) (.inl rfl) (by simp only [go_sem, jE, reduceIte, jA, jM, jS, jL, jD, jB]; first | done | rfl) rfl rfl (by rfl) (by simp only [go_sem, jE, reduceIte, jA, jM, jS, jL, jD, jB, sp5, List.map_append, List.map_cons, List.map_nil]; first | done | rfl | (and_intros <;> rfl)) (by decide) (by unfold idM; decide))
structure SpS (s : Sto) : Prop where
  st : SmSt s
  t0 : -1 ≤ s.time
  t1 : s.time ≤ 1000
theorem spoV_fin {b : List Int} (hb : byteL b) {p : Nat} (hp : p ≤ 90000) : SpS (spoV b p).1 ∧ (spoV b p).2 ≤ p + 2010 := by
  obtain ⟨inv, st, hq⟩ := stoV_fin hb hp
  unfold spoV
  generalize stoV b p = sq at inv st hq ⊢
  obtain ⟨s, q⟩ := sq
  dsimp only at inv st hq ⊢
  have i0 := inv.t0
  have i1 := inv.t1
  have hll := inv.h.ll
  have htl := inv.h.tl
  have base : SpS s := ⟨st, by omega, by omega⟩
  split
  · exact ⟨base, by dsimp only; omega⟩
  split
  · refine ⟨⟨⟨st.top, st.lev, st.ll, st.sl, st.rl, st.tl⟩, ?_, ?_⟩, by dsimp only; omega⟩
    · show -1 ≤ (if _ = 0 then (-1 : Int) else 1000); split <;> omega
    · show (if _ = 0 then (-1 : Int) else 1000) ≤ 1000; split <;> omega
  split
  · exact ⟨⟨⟨st.top, st.lev, st.ll, st.sl, st.rl, by show (s.times ++ [s.time + 1]).length ≤ _; rw [List.length_append]; simp; omega⟩, by show -1 ≤ s.time; omega, by show s.time ≤ 1000; omega⟩, by dsimp only; omega⟩
  split
  · exact ⟨⟨⟨st.top, fun r hr => st.lev r (List.mem_of_mem_drop hr), by show (s.levels.drop 1).length ≤ _; rw [List.length_drop]; omega, st.sl, st.rl, st.tl⟩, by show -1 ≤ s.time; omega, by show s.time ≤ 1000; omega⟩, by dsimp only; omega⟩
  split
  · refine ⟨⟨⟨st.top, st.lev, st.ll, ?_, ?_, st.tl⟩, by show -1 ≤ s.time; omega, by show s.time ≤ 1000; omega⟩, by dsimp only; omega⟩
    · show (s.sieves.modifyHead upL).length ≤ _; rw [List.length_modifyHead]; exact st.sl
    · intro x hx
      replace hx : x ∈ s.sieves.modifyHead upL := hx
      have hr := st.rl
      cases hs : s.sieves with
      | nil => rw [hs] at hx; simp at hx
      | cons y r =>
        rw [hs] at hx hr
        rcases List.mem_cons.1 (show x ∈ upL y :: r from hx) with rfl | h
        · exact hr y (by simp)
        · exact hr x (List.mem_cons_of_mem _ h)
  split
  · exact ⟨⟨⟨st.top, st.lev, st.ll, st.sl, st.rl, st.tl⟩, by show -1 ≤ s.time; omega, by show s.time ≤ 1000; omega⟩, by dsimp only; omega⟩
  · refine ⟨⟨⟨⟨?_, ?_⟩, st.lev, st.ll, st.sl, st.rl, st.tl⟩, by show -1 ≤ s.time; omega, by show s.time ≤ 1000; omega⟩, by dsimp only; omega⟩
    · show (s.top ++ [_]).length ≤ _; rw [List.length_append]; have := inv.tp; simp; omega
    · intro e he
      rcases List.mem_append.1 (show e ∈ s.top ++ [_] from he) with h | h
      · exact st.top.key e h
      · obtain rfl := List.mem_singleton.1 h
        show (ByteArray.size ⟨#[]⟩) ≤ _
        decide
def Sk (r : List Ent) : Prop := ∀ e ∈ r, e.key.size ≤ 5
def LvK (s : Sto) : Prop := ∀ r ∈ s.levels, Sk r
theorem sk_run {r : List Ent} (h : runOk r = true) : Sk r := fun e he => by
  have := (run_pw h).2.1 e he
  unfold entOk at this
  simp only [Bool.and_eq_true] at this
  exact keyOk_size this.1.1.1
theorem LvK.get {s : Sto} (h : LvK s) (i : Nat) : Sk (s.levels.getD i []) := by
  rw [List.getD_eq_getElem?_getD]
  rcases Nat.lt_or_ge i s.levels.length with c | c
  · rw [List.getElem?_eq_getElem c]; exact h _ (List.getElem_mem c)
  · rw [List.getElem?_eq_none c]; intro e he; simp at he
theorem setM_key {s s' : Sto} {i : Nat} {r : List Ent} (hs : LvK s) (hr : Sk r) (h : setM s i r = some s') : LvK s' := by
  obtain ⟨x, rfl, hx, hl⟩ := setM_ok h
  intro q hq
  rcases List.mem_or_eq_of_mem_set hq with h | rfl
  · exact hs q h
  · exact hr
theorem sk_join {a b : List Ent} (ha : Sk a) (hb : Sk b) : Sk (joinM a b) := fun e he => (mem_joinM he).elim (ha e) (hb e)
theorem sk_trim {a : List Ent} (ha : Sk a) (ts : List Int) (b : Bool) : Sk (trimM a ts b) := fun e he => ha e (mem_trimM he)
theorem intoM_key : ∀ (d : Nat) {s s' : Sto} {i : Nat} {r : List Ent}, LvK s → Sk r → intoM d s i r = some s' → LvK s'
  | 0, s, s', i, r, hs, hr, h => setM_key hs (sk_trim (sk_join hr (hs.get i)) _ _) h
  | d + 1, s, s', i, r, hs, hr, h => by
    simp only [intoM] at h
    split at h
    · rename_i x hx
      obtain rfl := Option.some.inj h
      exact setM_key hs (sk_trim (sk_join hr (hs.get i)) _ _) hx
    · obtain ⟨s1, h1, h2⟩ := Option.bind_eq_some_iff.1 h
      exact setM_key (intoM_key d hs (hs.get i) h1) (sk_trim hr _ _) h2
theorem intoM_topK : ∀ (d : Nat) {s s' : Sto} {i : Nat} {r : List Ent}, intoM d s i r = some s' → s'.top = s.top
  | 0, s, s', i, r, h => (setM_times h).2.1
  | d + 1, s, s', i, r, h => by
    simp only [intoM] at h
    split at h
    · rename_i x hx
      obtain rfl := Option.some.inj h
      exact (setM_times hx).2.1
    · obtain ⟨s1, h1, h2⟩ := Option.bind_eq_some_iff.1 h
      rw [(setM_times h2).2.1, intoM_topK d h1]
theorem into_top0 {s x : Sto} (h : downM s = some x) : x.top = [] := intoM_topK 2 (s := { s with top := [] }) h
structure KeyP (s : Sto) : Prop where
  top : Sk s.top
  lev : LvK s
theorem key_ok {s : Sto} (h : storeS s = true) : KeyP s := by
  have hl : runOk s.top = true ∧ ∀ r ∈ s.levels, runOk r = true := by
    unfold storeS headS at h
    simp only [Bool.and_eq_true] at h
    obtain ⟨⟨⟨⟨⟨⟨⟨h1, h2⟩, h3⟩, h4⟩, h5⟩, h6⟩, h7⟩, h8⟩ := h
    refine ⟨h6, fun r hr => ?_⟩
    obtain ⟨i, hi⟩ := List.mem_iff_getElem?.1 hr
    have hil := (List.getElem?_eq_some_iff.1 hi).1
    have e1 := of_decide_eq_true h1
    have e2 := of_decide_eq_true h2
    have := allI_iff.1 h8 i (by omega)
    unfold sAt at this
    rw [hi, List.getElem?_eq_getElem (show i < s.sieves.length by omega)] at this
    simp only [Bool.and_eq_true] at this
    have l := this.1.1
    unfold lvM at l
    simp only [Bool.and_eq_true] at l
    exact l.1.1.1
  exact ⟨sk_run hl.1, fun r hr => sk_run (hl.2 r hr)⟩
theorem downM_key {s x : Sto} (hk : KeyP s) (h : downM s = some x) : LvK x := intoM_key 2 (s := { s with top := [] }) hk.lev hk.top h
theorem addM_key {s x : Sto} {e : Ent} (hk : e.key.size ≤ 5) (h : addM s e = some x) : KeyP x := by
  unfold addM at h
  split at h
  · rename_i hc
    rw [Bool.and_eq_true] at hc
    have v := key_ok hc.1
    have h1 : Sk [e] := fun y hy => by rw [List.mem_singleton.1 hy]; exact hk
    split at h
    · obtain ⟨y, hy, rfl⟩ := Option.map_eq_some_iff.1 h
      have ht := into_top0 hy
      exact ⟨sk_join h1 (by rw [ht]; intro e he; simp at he), fun r hr => downM_key v hy r hr⟩
    · obtain rfl := Option.some.inj h
      exact ⟨sk_join h1 v.top, v.lev⟩
  · cases h
theorem doM_key {s x : Sto} {d : Deed} (hd : d.key.size ≤ 5) (h : doM s d = some x) : KeyP x := by
  unfold doM at h
  split at h
  · exact addM_key (e := ⟨d.key, d.num, false, nextT s⟩) hd h
  split at h
  · exact addM_key (e := ⟨d.key, 0, true, nextT s⟩) hd h
  split at h
  · unfold holdM at h
    split at h
    · rename_i hv
      split at h
      · obtain rfl := Option.some.inj h
        exact ⟨(key_ok hv).top, (key_ok hv).lev⟩
      · cases h
    · cases h
  split at h
  · unfold freeM at h
    split at h
    · rename_i hv
      split at h
      · cases h
      · obtain rfl := Option.some.inj h
        exact ⟨(key_ok hv).top, (key_ok hv).lev⟩
    · cases h
  split at h
  · unfold sDownM at h
    split at h
    · rename_i hv
      exact ⟨by rw [into_top0 h]; intro e he; simp at he, downM_key (key_ok hv) h⟩
    · cases h
  split at h
  · unfold sJoinM at h
    split at h
    · rename_i hc
      rw [Bool.and_eq_true] at hc
      have v := key_ok hc.1
      obtain ⟨y, hy, h2⟩ := Option.bind_eq_some_iff.1 h
      obtain ⟨q1, q2, q3, q4⟩ := setM_times hy
      have k1 := setM_key v.lev (by intro e he; simp at he) hy
      refine ⟨?_, intoM_key _ k1 (v.lev.get _) h2⟩
      rw [intoM_topK _ h2, q2]; exact v.top
    · cases h
  · cases h
theorem pastTo_keyP {s : Sto} {ds : List Deed} (hs : KeyP s) (hd : ∀ d ∈ ds, d.key.size ≤ 5) : ∀ i, i ≤ ds.length → KeyP (pastTo s ds i).1 := by
  intro i
  induction i with
  | zero => intro _; exact hs
  | succ i ih =>
    intro hl
    have v := ih (by omega)
    obtain ⟨d, hd2⟩ : ∃ d, ds[i]? = some d := ⟨_, List.getElem?_eq_getElem (by omega)⟩
    rw [pastTo_succ hd2]
    unfold pastStep
    cases hm : doM (pastTo s ds i).1 d with
    | none => exact v
    | some x => exact doM_key (hd d (List.mem_of_getElem? hd2)) hm
theorem stoV_key {b : List Int} (hb : byteL b) {p : Nat} (hp : p ≤ 90000) : KeyP (stoV b p).1 := by
  obtain ⟨d1, d2, d3⟩ := deedsV_fin hb (p := p + 1) (most := 30) (by omega) (by omega)
  unfold stoV
  exact pastTo_keyP (key_ok (eSto_ok (kpN_le _))) d2 _ (Nat.le_refl _)
/-- Keys of a store that is drawn. -/
structure FewS (s : Sto) : Prop where
  key : KeyP s
  top : s.top.length ≤ 1001
  ll : s.levels.length ≤ 3
  lev : ∀ r ∈ s.levels, r.length ≤ 1000
  tl : s.times.length ≤ 1001
theorem spoV_few {b : List Int} (hb : byteL b) {p : Nat} (hp : p ≤ 90000) : FewS (spoV b p).1 := by
  obtain ⟨inv, st, hq⟩ := stoV_fin hb hp
  have hk := stoV_key hb hp
  unfold spoV
  generalize stoV b p = sq at inv st hq hk ⊢
  obtain ⟨s, q⟩ := sq
  dsimp only at inv st hq hk ⊢
  have hll := inv.h.ll
  have htl := inv.h.tl
  have htp := inv.tp
  have hlv : ∀ r ∈ s.levels, r.length ≤ 1000 := fun r hr => (inv.h.lev r hr).2
  have base : FewS s := ⟨hk, by omega, by omega, hlv, by omega⟩
  split
  · exact base
  split
  · exact ⟨⟨hk.top, hk.lev⟩, base.top, base.ll, hlv, base.tl⟩
  split
  · exact ⟨⟨hk.top, hk.lev⟩, base.top, base.ll, hlv, by show (s.times ++ [s.time + 1]).length ≤ _; rw [List.length_append]; simp; omega⟩
  split
  · exact ⟨⟨hk.top, fun r hr => hk.lev r (List.mem_of_mem_drop hr)⟩, base.top, by show (s.levels.drop 1).length ≤ _; rw [List.length_drop]; omega, fun r hr => hlv r (List.mem_of_mem_drop hr), base.tl⟩
  split
  · exact ⟨⟨hk.top, hk.lev⟩, base.top, base.ll, hlv, base.tl⟩
  split
  · exact ⟨⟨hk.top, hk.lev⟩, base.top, base.ll, hlv, base.tl⟩
  · refine ⟨⟨fun e he => ?_, hk.lev⟩, by show (s.top ++ [_]).length ≤ _; rw [List.length_append]; simp; omega, base.ll, hlv, base.tl⟩
    rcases List.mem_append.1 (show e ∈ s.top ++ [_] from he) with h | h
    · exact hk.top e h
    · obtain rfl := List.mem_singleton.1 h
      show ByteArray.size ⟨#[]⟩ ≤ 5
      decide
theorem spoiltS_ac {b : List Int} {p : Nat} (hb : byteL b) (hp : p ≤ 90000) : AC Tryz.prog 34 [.c (.ph 0 0 0)] (hpL [some (rdO b p)]) 1 ⟨.t (stT (spoV b p).1), hpL [some (rdO b (spoV b p).2)], 1⟩ := by
  have h := AC.setS [1] (l71Spoilt_ac hb hp) (y := .t (stT (spoV b p).1)) (os' := [some (rdO b (spoV b p).2), none])
    (.cons (SetC.row0 rfl rfl) (.cons (.inl rfl) (.cons (.inl rfl) (.cons (.inl rfl) (.cons (.inl rfl) (.cons (.inl rfl) .nil)))))) ⟨.inl rfl, rfl, trivial⟩
  refine AC.sel (M := [0]) h rfl rfl (selL rfl ?_) (by decide) fun m hm => ?_
  · simp only [go_sem, LeftL]
  · obtain rfl : m = 0 := by omega
    exact ⟨by decide, rfl⟩
def ofT (s : Sto) (i : Nat) : List ByteArray := keysM s.top ++ (s.levels.take i).flatMap keysM
theorem ofT_0 (s : Sto) : ofT s 0 = keysM s.top := by unfold ofT; simp
theorem ofT_succ {s : Sto} {i : Nat} {r : List Ent} (h : s.levels[i]? = some r) : ofT s (i + 1) = ofT s i ++ keysM r := by
  unfold ofT
  rw [List.take_add_one, h, List.flatMap_append, List.append_assoc]; simp
theorem keysM_len (r : List Ent) : (keysM r).length ≤ r.length := colI_len (keyAt_len r)
theorem FewS.of {s : Sto} (h : FewS s) (i : Nat) : (∀ k ∈ ofT s i, k.size ≤ 5) ∧ (ofT s i).length ≤ 1001 + i * 1000 := by
  have hk : ∀ r : List Ent, Sk r → ∀ k ∈ keysM r, k.size ≤ 5 := fun r hr k hk => by
    obtain ⟨e, he, rfl⟩ := keysM_sub k hk
    exact hr e he
  refine ⟨fun k hm => ?_, ?_⟩
  · unfold ofT at hm
    rcases List.mem_append.1 hm with hm | hm
    · exact hk _ h.key.top k hm
    · obtain ⟨r, hr, hm⟩ := List.mem_flatMap.1 hm
      exact hk r (h.key.lev r (List.mem_of_mem_take hr)) k hm
  · induction i with
    | zero => rw [ofT_0]; have := keysM_len s.top; have := h.top; omega
    | succ i ih =>
      rcases Nat.lt_or_ge i s.levels.length with c | c
      · rw [ofT_succ (List.getElem?_eq_getElem c), List.length_append]
        have := keysM_len s.levels[i]
        have := h.lev _ (List.getElem_mem c)
        omega
      · unfold ofT at ih ⊢
        rw [List.take_of_length_le (by omega)] at ih ⊢
        omega
theorem l71Of_ac {b : List Int} {p : Nat} {s : Sto} (hb : byteL b) (hp : p ≤ 800000) (hs : SmSt s) (hf : FewS s) : AC Tryz.prog 35 [.c (.ph 0 0 0), stT s] (hpL [some (rdO b p)]) 1 ⟨.t (sT (nearV b p (ofT s s.levels.length)).1), hpL [some (rdO b (nearV b p (ofT s s.levels.length)).2)], 1⟩ := by
  have k0 := skeysOf_ac s.top hs.top
  rw [hp1_L] at k0
  have hfo := fun i => hf.of i
  have hll := hf.ll
  refine AC_of Tryz.func35 rfl Tryz.ntmps35 Tryz.results35 (by kernel_rfl) rfl ?_
  simp only [List.zipIdx, List.map, Nat.zero_add, Nat.reduceAdd]
  repeat (first | apply Aw_seq | apply Aw_block | apply Aw_skip | apply Aw_exit | refine Aw_condt rfl ?_ | refine Aw_condf rfl ?_ | ((first | refine qr ?_ | refine qd (by kernel_rfl) (by kernel_rfl) ?_); simp only [go_sem, jE, reduceIte, jA, jM, jS, jL, jD, jB]) | refine dk (by kernel_rfl) ?_ | (refine qx (call_N (L := []) (k0) rfl (.cons (.nm rfl) (.nil)) (.inl rfl) rfl) (by simp only [go_sem, jE, reduceIte, jA, jM, jS, jL, jD, jB]; first | done | rfl) rfl (by simp only [go_sem, Nat.reduceLT]) ?_; simp only [go_sem, jE, reduceIte, jA, jM, jS, jL, jD, jB]))
  refine Aw.rw (rwL (l' := [(6, .t (iT (0 : Nat))), (5, .t (.c (.h 2))), (3, .t (.c (.ph 1 0 0))), (0, .t (.c (.ph 0 0 0)))]) (os := [some (rdO b p), some (stO s), some (kRow (ofT s 0))]) (M := [0, 1, 5]) (n' := 3) (by repeat (first | exact trivial | refine ⟨rfl, rfl, ?_⟩)) (by rfl) (by simp only [go_sem, jE, reduceIte, jA, jM, jS, jL, jD, jB, ofT_0]; first | done | rfl) (by decide) (by unfold idM; decide)) ?_
  refine Aw_loop_rw (ι := { i : Nat // i ≤ s.levels.length }) (fun q => S [(6, .t (iT (q.1 : Nat))), (5, .t (.c (.h 2))), (3, .t (.c (.ph 1 0 0))), (0, .t (.c (.ph 0 0 0)))] (hpL [some (rdO b p), some (stO s), some (kRow (ofT s q.1))]) 3) (fun q => s.levels.length - q.1) ⟨0, Nat.zero_le _⟩ ?_
  rintro ⟨i, hi⟩
  dsimp only
  by_cases hlt : i < s.levels.length
  · have g1 : decide ((i : Int) < (s.levels.length : Int)) = true := decide_eq_true (by omega)
    have w := wrap_succ hlt (by omega)
    obtain ⟨r, hr⟩ : ∃ e, s.levels[i]? = some e := ⟨_, List.getElem?_eq_getElem hlt⟩
    have k1 := skeysOf_ac r (hs.lev r (List.mem_of_getElem? hr))
    rw [hp1_L] at k1
    have hsu := ofT_succ hr
    have h1 := (hfo (i + 1)).2
    rw [hsu, List.length_append] at h1
    have q1 : (((ofT s i).length + (keysM r).length) * 16 ≤ 140737488355328) = True := eq_true (by omega)
    repeat (first | apply Aw_seq | apply Aw_block | apply Aw_skip | apply Aw_exit | refine Aw_condt rfl ?_ | refine Aw_condf rfl ?_ | ((first | refine qr ?_ | refine qd (by kernel_rfl) (by kernel_rfl) ?_); simp only [go_sem, jE, reduceIte, jA, jM, jS, jL, jD, jB, g1, w, hr, q1]) | refine dk (by kernel_rfl) ?_ | (refine qx (call_N (L := []) (k1) rfl (.cons (.nm rfl) (.nil)) (.inl rfl) rfl) (by simp only [go_sem, jE, reduceIte, jA, jM, jS, jL, jD, jB, g1, w, hr, q1]; first | done | rfl) rfl (by simp only [go_sem, Nat.reduceLT]) ?_; simp only [go_sem, jE, reduceIte, jA, jM, jS, jL, jD, jB, g1, w, hr, q1]))
    refine ⟨⟨i + 1, hlt⟩, [0, 1, 15], ?_, rwL (by repeat (first | exact trivial | refine ⟨rfl, rfl, ?_⟩)) (by rfl) (by simp only [go_sem, jE, reduceIte, jA, jM, jS, jL, jD, jB, hsu, List.map_append]; first | done | rfl) (by decide) (by unfold idM; decide)⟩
    show s.levels.length - (i + 1) < s.levels.length - i; omega
  · have g1 : decide ((i : Int) < (s.levels.length : Int)) = false := decide_eq_false (by omega)
    obtain rfl : i = s.levels.length := by omega
    obtain ⟨h1, h2⟩ := hfo s.levels.length
    have k2 := l71Near_ac (l := ofT s s.levels.length) hb hp (by omega) fun k hk => by have := h1 k hk; omega
    generalize ofT s s.levels.length = l at k2 ⊢
    refine Aw.setL (l' := [(6, .t (iT (s.levels.length : Nat))), (5, .t (strsT l)), (3, .t (.c (.ph 1 0 0))), (0, .t (.c (.ph 0 0 0)))]) (os' := [some (rdO b p), some (stO s), none]) (n' := 3) [2] (by repeat (first | exact trivial | refine ⟨SetA.same rfl, ?_⟩ | refine ⟨SetA.row rfl rfl (by decide), ?_⟩)) (by repeat (first | exact trivial | refine ⟨rfl, rfl, ?_⟩ | show SubL _ _ _ _)) (by decide) ?_
    repeat (first | apply Aw_seq | apply Aw_block | apply Aw_skip | apply Aw_exit | refine Aw_condt rfl ?_ | refine Aw_condf rfl ?_ | ((first | refine qr ?_ | refine qd (by kernel_rfl) (by kernel_rfl) ?_); simp only [go_sem, jE, reduceIte, jA, jM, jS, jL, jD, jB, g1]) | refine dk (by kernel_rfl) ?_ | (refine qx (call_L (N' := [0]) (L := []) (k2) rfl (.cons (.nm rfl) (.cons (.nm rfl) (.nil))) (by decide) (by decide) (by decide) (by simp only [go_sem, jE, reduceIte, jA, jM, jS, jL, jD, jB, g1]; first | done | rfl) (.inl rfl) rfl (by decide)) (by simp only [go_sem, jE, reduceIte, jA, jM, jS, jL, jD, jB, g1]; first | done | rfl) rfl (by simp only [go_sem, Nat.reduceLT]) ?_; simp only [go_sem, jE, reduceIte, jA, jM, jS, jL, jD, jB, g1]))
    exact Aw_ret (retL (M := [0]) (.inl rfl) (by simp only [go_sem, jE, reduceIte, jA, jM, jS, jL, jD, jB]; first | done | rfl) rfl rfl (by rfl) (by simp only [go_sem, jE, reduceIte, jA, jM, jS, jL, jD, jB]; first | done | rfl | (and_intros <;> rfl)) (by decide) (by unfold idM; decide))
@[go_sem] theorem r_aggE {P : Program} {t : Nat} {cs ds : List CV} : aggEq P t .eql cs ds = (aggFs P t).bind fun fs => (fEq cs ds fs).map .bool := by
  unfold aggEq
  cases aggFs P t with
  | none => rfl
  | some fs => simp only [Option.bind_some]; cases fEq cs ds fs <;> rfl
@[go_sem] theorem r_aggN {P : Program} {t : Nat} {cs ds : List CV} : aggEq P t .neq cs ds = (aggFs P t).bind fun fs => (fEq cs ds fs).map fun b => .bool !b := by
  unfold aggEq
  cases aggFs P t with
  | none => rfl
  | some fs => simp only [Option.bind_some]; cases fEq cs ds fs <;> rfl
theorem ltRuns_ac (a : List Ent) (hl : a.length ≤ 4000000) : AC Tryz.prog 20 [runT a, runT a] noHp 0 ⟨.t (bT true), noHp, 0⟩ := by
  refine AC_of Tryz.func20 rfl Tryz.ntmps20 Tryz.results20 (by kernel_rfl) rfl ?_
  simp only [List.zipIdx, List.map, Nat.zero_add, Nat.reduceAdd]
  repeat (first | apply Aw_seq | apply Aw_block | apply Aw_skip | apply Aw_exit | refine Aw_condt rfl ?_ | refine Aw_condf rfl ?_ | ((first | refine qr ?_ | refine qd (by kernel_rfl) (by kernel_rfl) ?_); simp only [go_sem, jE, reduceIte, jA, jM, jS, jL, jD, jB, iref]) | refine dk (by kernel_rfl) ?_)
  refine Aw.rw (rw0 (l' := [(5, .t (iT (0 : Nat))), (1, .t (runT a)), (0, .t (runT a))]) (n' := 0) (by repeat (first | exact trivial | refine ⟨rfl, rfl, ?_⟩))) ?_
  refine Aw_loop0 (ι := { i : Nat // i ≤ a.length ∧ (True) }) (fun q => [(5, .t (iT (q.1 : Nat))), (1, .t (runT a)), (0, .t (runT a))]) (fun q => a.length - q.1) ⟨0, Nat.zero_le _, trivial⟩ ?_
  rintro ⟨i, hi, hp⟩
  dsimp only
  by_cases hlt : i < a.length
  · have h1 : (i : Int) < (a.length : Int) := by omega
    have h2 := wrap_succ hlt (by omega)
    obtain ⟨e, hx⟩ : ∃ e, a[i]? = some e := ⟨_, List.getElem?_eq_getElem hlt⟩
    repeat (first | apply Aw_seq | apply Aw_block | apply Aw_skip | apply Aw_exit | refine Aw_condt rfl ?_ | refine Aw_condf rfl ?_ | ((first | refine qr ?_ | refine qd (by kernel_rfl) (by kernel_rfl) ?_); simp only [go_sem, jE, reduceIte, jA, jM, jS, jL, jD, jB, h1, h2, hx, iref, sref, bref]) | refine dk (by kernel_rfl) ?_)
    exact ⟨⟨i + 1, by omega, trivial⟩, (by simp only []; omega), rw0 (by repeat (first | exact trivial | refine ⟨rfl, rfl, ?_⟩))⟩
  · have h1 : ¬ (i : Int) < (a.length : Int) := by omega
    repeat (first | apply Aw_seq | apply Aw_block | apply Aw_skip | apply Aw_exit | refine Aw_condt rfl ?_ | refine Aw_condf rfl ?_ | ((first | refine qr ?_ | refine qd (by kernel_rfl) (by kernel_rfl) ?_); simp only [go_sem, jE, reduceIte, jA, jM, jS, jL, jD, jB, h1]) | refine dk (by kernel_rfl) ?_)
    exact Aw_ret (ret0 (.inl rfl) (by simp only [go_sem, jE, reduceIte, jA, jM, jS, jL, jD, jB]; rfl) (by rfl) rfl)
theorem ltSames_ac (a : List ByteArray) (hl : a.length ≤ 1099511627776) : AC Tryz.prog 97 [strsT a, strsT a] noHp 0 ⟨.t (bT true), noHp, 0⟩ := by
  refine AC_of Tryz.func97 rfl Tryz.ntmps97 Tryz.results97 (by kernel_rfl) rfl ?_
  simp only [List.zipIdx, List.map, Nat.zero_add, Nat.reduceAdd]
  repeat (first | apply Aw_seq | apply Aw_block | apply Aw_skip | apply Aw_exit | refine Aw_condt rfl ?_ | refine Aw_condf rfl ?_ | ((first | refine qr ?_ | refine qd (by kernel_rfl) (by kernel_rfl) ?_); simp only [go_sem, jE, reduceIte, jA, jM, jS, jL, jD, jB, iref]) | refine dk (by kernel_rfl) ?_)
  refine Aw.rw (rw0 (l' := [(5, .t (iT (0 : Nat))), (1, .t (strsT a)), (0, .t (strsT a))]) (n' := 0) (by repeat (first | exact trivial | refine ⟨rfl, rfl, ?_⟩))) ?_
  refine Aw_loop0 (ι := { i : Nat // i ≤ a.length ∧ (True) }) (fun q => [(5, .t (iT (q.1 : Nat))), (1, .t (strsT a)), (0, .t (strsT a))]) (fun q => a.length - q.1) ⟨0, Nat.zero_le _, trivial⟩ ?_
  rintro ⟨i, hi, hp⟩
  dsimp only
  by_cases hlt : i < a.length
  · have h1 : (i : Int) < (a.length : Int) := by omega
    have h2 := wrap_succ hlt (by omega)
    obtain ⟨e, hx⟩ : ∃ e, a[i]? = some e := ⟨_, List.getElem?_eq_getElem hlt⟩
    repeat (first | apply Aw_seq | apply Aw_block | apply Aw_skip | apply Aw_exit | refine Aw_condt rfl ?_ | refine Aw_condf rfl ?_ | ((first | refine qr ?_ | refine qd (by kernel_rfl) (by kernel_rfl) ?_); simp only [go_sem, jE, reduceIte, jA, jM, jS, jL, jD, jB, h1, h2, hx, iref, sref, bref]) | refine dk (by kernel_rfl) ?_)
    exact ⟨⟨i + 1, by omega, trivial⟩, (by simp only []; omega), rw0 (by repeat (first | exact trivial | refine ⟨rfl, rfl, ?_⟩))⟩
  · have h1 : ¬ (i : Int) < (a.length : Int) := by omega
    repeat (first | apply Aw_seq | apply Aw_block | apply Aw_skip | apply Aw_exit | refine Aw_condt rfl ?_ | refine Aw_condf rfl ?_ | ((first | refine qr ?_ | refine qd (by kernel_rfl) (by kernel_rfl) ?_); simp only [go_sem, jE, reduceIte, jA, jM, jS, jL, jD, jB, h1]) | refine dk (by kernel_rfl) ?_)
    exact Aw_ret (ret0 (.inl rfl) (by simp only [go_sem, jE, reduceIte, jA, jM, jS, jL, jD, jB]; rfl) (by rfl) rfl)
theorem ltSieve_ac (x : Sve) (hl : x.rests.length ≤ 1099511627776) : AC Tryz.prog 42 [sveP x, sveP x] noHp 0 ⟨.t (bT true), noHp, 0⟩ := by
  refine AC_of Tryz.func42 rfl Tryz.ntmps42 Tryz.results42 (by kernel_rfl) rfl ?_
  simp only [List.zipIdx, List.map, Nat.zero_add, Nat.reduceAdd]
  have k := ltSames_ac x.rests hl
  repeat (first | apply Aw_seq | apply Aw_block | apply Aw_skip | apply Aw_exit | refine Aw_condt rfl ?_ | refine Aw_condf rfl ?_ | ((first | refine qr ?_ | refine qd (by kernel_rfl) (by kernel_rfl) ?_); simp only [go_sem, jE, reduceIte, jA, jM, jS, jL, jD, jB, iref, sref, bref]) | refine dk (by kernel_rfl) ?_ | (refine qp (k) (by simp only [go_sem, jE, reduceIte, jA, jM, jS, jL, jD, jB, iref, sref, bref]; first | done | rfl) rfl (by simp only [go_sem, Nat.reduceLT]) rfl rfl ?_; simp only [go_sem, jE, reduceIte, jA, jM, jS, jL, jD, jB, iref, sref, bref]))
  exact Aw_ret (ret0 (.inl rfl) (by simp only [go_sem, jE, reduceIte, jA, jM, jS, jL, jD, jB]; rfl) (by rfl) rfl)
open Go Go.Proofs Go.Deep Go.WideShapes Go.ChangeShapes Go.RowKit
theorem cell_lt {w : World} {a : Addr} {v : Value} (h : w.cell? a = some v) : a.block < w.heap.size := by
  apply Classical.byContradiction
  intro hn
  have : w.heap[a.block]? = none := Array.getElem?_eq_none (by omega)
  simp [World.cell?, this] at h
/-- What is read as data of type t is, cell by cell, the data that f tells of a value that is ok. -/
structure RdB {α : Type} (P : Program) (t : TypeId) (f : α → List D) (ok : α → Prop) : Prop where
  down : ∀ {H : Type} {enc : TypeId × Value → H} {w : World} {base : Nat} {spare : Nat → Bool} {held : Bool} {fuel : Nat} {cs : List Value} {x : DataW H × List MemPlace},
    DataW.trod enc P w base spare held fuel t cs = some x → ∃ y, All2 (RepD w (· < w.heap.size)) (f y) cs ∧ ok y
theorem RdB.int {P : Program} {t : TypeId} {k : IntKind} (ht : P.underlying t = some (.int k)) : RdB P t (fun n : Int => [.s (.int k n)]) (fun n => (Lit.int k n).wf = true) :=
  ⟨fun h => by obtain ⟨n, rfl, _, hw⟩ := DataW.trod_int ht h; exact ⟨n, .cons (.s rfl) .nil, hw⟩⟩
theorem RdB.bool {P : Program} {t : TypeId} (ht : P.underlying t = some .bool) : RdB P t (fun b : Bool => [.s (.bool b)]) (fun _ => True) :=
  ⟨fun h => by obtain ⟨b, rfl, _⟩ := DataW.trod_bool ht h; exact ⟨b, .cons (.s rfl) .nil, trivial⟩⟩
theorem RdB.str {P : Program} {t : TypeId} (ht : P.underlying t = some .string) : RdB P t (fun s : ByteArray => [.s (.string s)]) (fun s => s.size ≤ maxLen) :=
  ⟨fun h => by obtain ⟨s, rfl, _, hs⟩ := DataW.trod_string ht h; exact ⟨s, .cons (.s rfl) .nil, hs⟩⟩
theorem RdB.slice {α : Type} {P : Program} {t e k : Nat} {f : α → List D} {ok : α → Prop} (ht : P.underlying t = some (.slice e)) (hc : P.cellsOf e = k) (hd : RdB P e f ok) :
    RdB P t (fun xs : List α => [.rs k (xs.map f)]) (fun xs => xs.length ≤ maxLen ∧ ∀ x ∈ xs, ok x) := by
  refine ⟨fun {H enc w base spare held fuel cs x} h => ?_⟩
  rcases open_slice ht h with ⟨rfl, rfl⟩ | ⟨a, len, cap, m, n, D, Pl, rfl, hb, hl, hm, hmm, rfl, hx⟩
  · exact ⟨[], .cons (.rs (A := none) (cap := 0) (fun _ _ => .bool false) (Nat.le_refl _) (Nat.zero_le _) (by simp) (fun i j hi => absurd hi (by simp)) (fun i j cs x hi => by simp at hi)) .nil, by simp, by simp⟩
  · have hlm : len ≤ m := by rw [hmm]; split <;> omega
    have hy : ∀ i : _root_.Fin len, ∃ y, ∃ cs', w.cells? base (a.add (i.1 * P.cellsOf e)) (P.cellsOf e) = some cs' ∧ All2 (RepD w (· < w.heap.size)) (f y) cs' ∧ ok y := fun i => by
      obtain ⟨cs', h1, h2⟩ := hx i.1 (by omega)
      obtain ⟨y, h3, h4⟩ := hd.down h2
      exact ⟨y, cs', h1, h3, h4⟩
    have hsp : ∀ i : _root_.Fin len, ∃ cs', w.cells? base (a.add (i.1 * P.cellsOf e)) (P.cellsOf e) = some cs' ∧ All2 (RepD w (· < w.heap.size)) (f (Classical.choose (hy i))) cs' ∧ ok (Classical.choose (hy i)) := fun i => Classical.choose_spec (hy i)
    have hlen : (List.ofFn fun i : _root_.Fin len => Classical.choose (hy i)).length = len := List.length_ofFn
    have hget : ∀ {j : Nat} {p : α}, (List.ofFn fun i : _root_.Fin len => Classical.choose (hy i))[j]? = some p → ∃ cs', w.cells? base (a.add (j * k)) k = some cs' ∧ All2 (RepD w (· < w.heap.size)) (f p) cs' := fun {j p} hj => by
      have hjl : j < len := by
        have := (List.getElem?_eq_some_iff.1 hj).1
        rwa [hlen] at this
      rw [List.getElem?_ofFn, dif_pos hjl] at hj
      obtain rfl := Option.some.inj hj
      obtain ⟨cs', h1, h2, _⟩ := hsp ⟨j, hjl⟩
      rw [hc] at h1
      exact ⟨cs', h1, h2⟩
    have hbk : ∀ n, (a.add n).block = a.block := fun n => by unfold Addr.add; split <;> rfl
    have hcell : ∀ i, i < len → ∃ cs' : List Value, cs'.length = k ∧ ∀ j, j < k → w.cell? (a.add (i * k + j)) = cs'[j]? := fun i hi => by
      obtain ⟨cs', h1, _⟩ := hsp ⟨i, hi⟩
      rw [hc] at h1
      obtain ⟨_, h3, h4⟩ := World.cells?_some h1
      refine ⟨cs', h3, fun j hj => ?_⟩
      have := h4 j hj
      rw [Deep.add_add] at this
      exact this
    refine ⟨List.ofFn fun i : _root_.Fin len => Classical.choose (hy i), .cons ?_ .nil, by rw [hlen]; omega, ?_⟩
    · have := RepD.rs (w := w) (S := (· < w.heap.size)) (k := k) (els := (List.ofFn fun i : _root_.Fin len => Classical.choose (hy i)).map f) (A := some a) (cap := cap) (fun i j => (w.cell? (a.add (i * k + j))).getD (.bool false)) (by rw [List.length_map, hlen]; exact hl) hm ?_ ?_ ?_
      · rw [List.length_map, hlen] at this; exact this
      · intro cs hcs
        obtain ⟨p, hp, rfl⟩ := List.mem_map.1 hcs
        obtain ⟨j, hj⟩ := List.mem_iff_getElem?.1 hp
        obtain ⟨cs', h1, h2⟩ := hget hj
        rw [h2.len]; exact (World.cells?_some h1).2.1
      · intro i j hi hj
        rw [List.length_map, hlen] at hi
        obtain ⟨cs', h1, h2⟩ := hcell i hi
        have h3 := h2 j hj
        rw [List.getElem?_eq_getElem (by omega)] at h3
        refine ⟨a, rfl, ?_, ?_⟩
        · have := cell_lt h3; rwa [hbk] at this
        · simp only [h3]; rfl
      · intro i j cs x hi hj
        rw [List.getElem?_map] at hi
        obtain ⟨p, hp, rfl⟩ := Option.map_eq_some_iff.1 hi
        obtain ⟨cs', h1, h2⟩ := hget hp
        obtain ⟨_, h3, h4⟩ := World.cells?_some h1
        obtain ⟨v, hv, hr⟩ := h2.get hj
        have hjk : j < k := by have := (List.getElem?_eq_some_iff.1 hv).1; omega
        have := h4 j hjk
        rw [Deep.add_add, hv] at this
        simp only [this]
        exact hr
    · intro x hx
      obtain ⟨i, rfl⟩ := List.mem_ofFn.1 hx
      exact (hsp i).choose_spec.2.2
/-- The fields of a struct, from a cell on. -/
structure FRdB {α : Type} (P : Program) (off : Nat) (fs : List Field) (sz : Nat) (f : α → List D) (ok : α → Prop) : Prop where
  down : ∀ {H : Type} {enc : TypeId × Value → H} {w : World} {base : Nat} {spare : Nat → Bool} {held : Bool} {n : Nat} {cs : List Value} (ys : List (DataW H × List MemPlace)),
    cs.length = off + sz → ys.length = fs.length → (∀ (i : Nat) (f : Field), fs[i]? = some f → DataW.trod enc P w base spare held n f.type ((cs.drop f.offset).take (P.cellsOf f.type)) = ys[i]?) → ∃ y, All2 (RepD w (· < w.heap.size)) (f y) (cs.drop off) ∧ ok y
theorem FRdB.last {α : Type} {P : Program} {off sz : Nat} {f : Field} {d : α → List D} {ok : α → Prop} (ho : f.offset = off) (hc : P.cellsOf f.type = sz) (hd : RdB P f.type d ok) : FRdB P off [f] sz d ok := by
  refine ⟨fun {H enc w base spare held n cs} ys hl hy h => ?_⟩
  have h0 := h 0 f rfl
  rw [ho, hc, List.take_of_length_le (by rw [List.length_drop]; omega)] at h0
  have h1 : 0 < ys.length := by rw [hy]; simp
  rw [List.getElem?_eq_getElem h1] at h0
  exact hd.down h0
theorem FRdB.cons {α β : Type} {P : Program} {off sa sb : Nat} {f : Field} {fs : List Field} {a : α → List D} {b : β → List D} {oka : α → Prop} {okb : β → Prop} (ho : f.offset = off) (hc : P.cellsOf f.type = sa) (ha : RdB P f.type a oka) (hb : FRdB P (off + sa) fs sb b okb) :
    FRdB P off (f :: fs) (sa + sb) (fun y : α × β => a y.1 ++ b y.2) (fun y => oka y.1 ∧ okb y.2) := by
  refine ⟨fun {H enc w base spare held n cs} ys hl hy h => ?_⟩
  have h0 := h 0 f rfl
  rw [ho, hc] at h0
  match ys, hy with
  | [], hy => simp at hy
  | y0 :: ys, hy =>
    obtain ⟨x, h1, h2⟩ := ha.down (x := y0) h0
    obtain ⟨z, h3, h4⟩ := hb.down (cs := cs) ys (by omega) (by simpa using hy) (fun i g hg => by simpa using h (i + 1) g (by simpa using hg))
    refine ⟨(x, z), ?_, h2, h4⟩
    have := h1.app h3
    rw [← List.drop_drop, List.take_append_drop] at this
    exact this
theorem RdB.struct {α : Type} {P : Program} {t sz : Nat} {fs : Array Field} {d : α → List D} {ok : α → Prop} (ht : P.underlying t = some (.struct fs)) (hc : P.cellsOf t = sz) (hf : FRdB P 0 fs.toList sz d ok) : RdB P t d ok := by
  refine ⟨fun {H enc w base spare held fuel cs x} h => ?_⟩
  obtain ⟨xs, n, _, _, hl, hx, hi⟩ := DataW.trod_struct ht h
  have := hf.down (cs := cs) xs (by omega) (by simpa using hx) (fun i f hf => hi i f (by simpa using hf))
  simpa using this
/-- An argument that is a struct; one that is a slice. -/
theorem RdB.argS {α H : Type} {enc : TypeId × Value → H} {P : Program} {w : World} {base : Nat} {spare : Nat → Bool} {held : Bool} {t : TypeId} {d : α → List D} {ok : α → Prop} {cs : Array Value} {x : DataW H} {p : List MemPlace}
    (hd : RdB P t d ok) (h : DataW.Trod enc P w base spare held t (.agg cs) x p) : ∃ y : α, All2 (RepD w (· < w.heap.size)) (d y) cs.toList ∧ ok y := by
  obtain ⟨fuel, hf⟩ := h
  exact hd.down hf
theorem RdB.arg1 {α H : Type} {enc : TypeId × Value → H} {P : Program} {w : World} {base : Nat} {spare : Nat → Bool} {held : Bool} {t : TypeId} {d : α → D} {ok : α → Prop} {a : Option Addr} {len cap : Nat} {x : DataW H} {p : List MemPlace}
    (hd : RdB P t (fun y => [d y]) ok) (h : DataW.Trod enc P w base spare held t (.slice a len cap) x p) : ∃ y : α, RepD w (· < w.heap.size) (d y) (.slice a len cap) ∧ ok y := by
  obtain ⟨fuel, hf⟩ := h
  obtain ⟨y, h1, h2⟩ := hd.down hf
  simp [Value.cells] at h1
  cases h1 with
  | cons h _ => exact ⟨y, h, h2⟩
/-- A law's contract, of data alone: it gives its value, and leaves what was there. -/
theorem AC.run {P : Program} {f : FuncId} {args : List TV} {b : Bool} {n : Nat} (h : AC P f args noHp 0 ⟨.t (bT b), noHp, n⟩) {W : World} {vs : List Value} (hv : All2 (RepT ⟨W, fun _ => 0, fun _ => .bool false, fun _ => 0, (· < W.heap.size), fun _ => False⟩) args vs) :
    Calls P f vs.toArray W fun e W' => e = .returned (.bool b) ∧ Below W.heap.size W W' := by
  have g : Good ⟨W, fun _ => 0, fun _ => .bool false, fun _ => 0, (· < W.heap.size), fun _ => False⟩ noHp := by
    refine ⟨fun m o hm => ?_, fun m o hm => ?_, fun b hb => ?_, fun m o m' o' b hm => ?_, fun b hb => hb⟩
    · simp [noHp] at hm
    · simp [noHp] at hm
    · obtain ⟨m, o, hm, _⟩ := hb; simp [noHp] at hm
    · simp [noHp] at hm
  refine Calls.mono (h.2 _ vs g (fun m hm => hm.elim) hv) fun e w' => ?_
  rintro ⟨v, c', rfl, rfl, t, _, r, _⟩
  refine ⟨by rw [show v = .bool b by cases r; rfl], t.os, t.tape, t.output, t.size, fun k hk => t.keep k hk ?_⟩
  rintro ⟨m, o, hm, _⟩
  simp [noHp] at hm
def okY (c : List Int) : Prop := c.length ≤ maxLen ∧ ∀ x ∈ c, (Lit.int .u8 x).wf = true
theorem okY.byte {c : List Int} (h : okY c) : byteL (c.take 2000) := by
  refine ⟨by rw [List.length_take]; omega, fun x hx => ?_⟩
  have := h.2 x (List.mem_of_mem_take hx)
  simp only [Lit.wf, IntKind.min, IntKind.max, Bool.and_eq_true, decide_eq_true_eq] at this
  simp [IntKind.signed, IntKind.bits] at this
  omega
theorem rdBytes : RdB Tryz.prog 22 (fun r => [.rs 1 (r.map u8D)]) okY := RdB.slice Tryz.underlying22 (by kernel_rfl) (RdB.int Tryz.underlying5)
theorem ltInts_ac (ts : List Int) (hl : ts.length ≤ 1099511627776) : AC Tryz.prog 41 [intsT ts, intsT ts] noHp 0 ⟨.t (bT true), noHp, 0⟩ := by
  refine AC_of Tryz.func41 rfl Tryz.ntmps41 Tryz.results41 (by kernel_rfl) rfl ?_
  simp only [List.zipIdx, List.map, Nat.zero_add, Nat.reduceAdd]
  repeat (first | apply Aw_seq | apply Aw_block | apply Aw_skip | apply Aw_exit | refine Aw_condt rfl ?_ | refine Aw_condf rfl ?_ | ((first | refine qr ?_ | refine qd (by kernel_rfl) (by kernel_rfl) ?_); simp only [go_sem, jE, reduceIte, jA, jM, jS, jL, jD, jB, iref]) | refine dk (by kernel_rfl) ?_)
  refine Aw.rw (rwL (l' := [(5, .t (iT (0 : Nat))), (1, .t (intsT ts)), (0, .t (intsT ts))]) (os := []) (M := []) (n' := 0) (by repeat (first | exact trivial | refine ⟨rfl, rfl, ?_⟩)) (by rfl) (by simp only [go_sem, jE, reduceIte, jA, jM, jS, jL, jD, jB]; first | done | rfl) (by decide) (by unfold idM; decide)) ?_
  refine Aw_loop_rw (ι := { i : Nat // i ≤ ts.length }) (fun q => S [(5, .t (iT (q.1 : Nat))), (1, .t (intsT ts)), (0, .t (intsT ts))] (hpL []) 0) (fun q => ts.length - q.1) ⟨0, Nat.zero_le _⟩ ?_
  rintro ⟨i, hi⟩
  dsimp only
  by_cases hlt : i < ts.length
  · have g1 : decide ((i : Int) < (ts.length : Int)) = true := decide_eq_true (by omega)
    have w := wrap_succ hlt hl
    obtain ⟨y, hy⟩ : ∃ e, ts[i]? = some e := ⟨_, List.getElem?_eq_getElem hlt⟩
    repeat (first | apply Aw_seq | apply Aw_block | apply Aw_skip | apply Aw_exit | refine Aw_condt rfl ?_ | refine Aw_condf rfl ?_ | ((first | refine qr ?_ | refine qd (by kernel_rfl) (by kernel_rfl) ?_); simp only [go_sem, jE, reduceIte, jA, jM, jS, jL, jD, jB, g1, w, hy, iref]) | refine dk (by kernel_rfl) ?_)
    refine ⟨⟨i + 1, hlt⟩, [], ?_, rwL (by repeat (first | exact trivial | refine ⟨rfl, rfl, ?_⟩)) (by rfl) (by simp only [go_sem, jE, reduceIte, jA, jM, jS, jL, jD, jB]; first | done | rfl) (by decide) (by unfold idM; decide)⟩
    show ts.length - (i + 1) < ts.length - i; omega
  · have g1 : decide ((i : Int) < (ts.length : Int)) = false := decide_eq_false (by omega)
    repeat (first | apply Aw_seq | apply Aw_block | apply Aw_skip | apply Aw_exit | refine Aw_condt rfl ?_ | refine Aw_condf rfl ?_ | ((first | refine qr ?_ | refine qd (by kernel_rfl) (by kernel_rfl) ?_); simp only [go_sem, jE, reduceIte, jA, jM, jS, jL, jD, jB, g1]) | refine dk (by kernel_rfl) ?_)
    exact Aw_ret (ret0 (.inl rfl) (by simp only [go_sem, jE, reduceIte, jA, jM, jS, jL, jD, jB]; rfl) (by rfl) rfl)
theorem ltStoreR_ac (s : Sto) (hs : SmSt s) (h0 : s.top.length ≤ 4000000) (h1 : ∀ r ∈ s.levels, r.length ≤ 4000000) : AC Tryz.prog 12 [stT s, stT s] noHp 0 ⟨.t (bT true), noHp, 0⟩ := by
  have k1 := ltRuns_ac s.top h0
  have k2 := ltInts_ac s.times hs.tl
  have hll := hs.ll
  have hsl := hs.sl
  refine AC_of Tryz.func12 rfl Tryz.ntmps12 Tryz.results12 (by kernel_rfl) rfl ?_
  simp only [List.zipIdx, List.map, Nat.zero_add, Nat.reduceAdd]
  repeat (first | apply Aw_seq | apply Aw_block | apply Aw_skip | apply Aw_exit | refine Aw_condt rfl ?_ | refine Aw_condf rfl ?_ | ((first | refine qr ?_ | refine qd (by kernel_rfl) (by kernel_rfl) ?_); simp only [go_sem, jE, reduceIte, jA, jM, jS, jL, jD, jB, iref]) | refine dk (by kernel_rfl) ?_ | (refine qp (k1) (by simp only [go_sem, jE, reduceIte, jA, jM, jS, jL, jD, jB, iref]; first | done | rfl) rfl (by simp only [go_sem, Nat.reduceLT]) rfl rfl ?_; simp only [go_sem, jE, reduceIte, jA, jM, jS, jL, jD, jB, iref]) | (refine qp (k2) (by simp only [go_sem, jE, reduceIte, jA, jM, jS, jL, jD, jB, iref]; first | done | rfl) rfl (by simp only [go_sem, Nat.reduceLT]) rfl rfl ?_; simp only [go_sem, jE, reduceIte, jA, jM, jS, jL, jD, jB, iref]))
  refine Aw.rw (rwL (l' := [(5, .t (iT (0 : Nat))), (3, .t (.c (.ph 1 0 0))), (2, .t (.c (.ph 0 0 0)))]) (os := [some (stO s), some (stO s)]) (M := [0, 1]) (n' := 2) (by repeat (first | exact trivial | refine ⟨rfl, rfl, ?_⟩)) (by rfl) (by simp only [go_sem, jE, reduceIte, jA, jM, jS, jL, jD, jB]; first | done | rfl) (by decide) (by unfold idM; decide)) ?_
  refine cut_loop (J := fun (_ : Unit) => S [(3, .t (.c (.ph 1 0 0))), (2, .t (.c (.ph 0 0 0)))] (hpL [some (stO s), some (stO s)]) 2) ?_ ?_
  · refine Aw_loop_rw (ι := { i : Nat // i ≤ s.levels.length }) (fun q => S [(5, .t (iT (q.1 : Nat))), (3, .t (.c (.ph 1 0 0))), (2, .t (.c (.ph 0 0 0)))] (hpL [some (stO s), some (stO s)]) 2) (fun q => s.levels.length - q.1) ⟨0, Nat.zero_le _⟩ ?_
    rintro ⟨i, hi⟩
    dsimp only
    by_cases hlt : i < s.levels.length
    · have g1 : decide ((i : Int) < (s.levels.length : Int)) = true := decide_eq_true (by omega)
      have w := wrap_succ hlt hll
      obtain ⟨y, hy⟩ : ∃ e, s.levels[i]? = some e := ⟨_, List.getElem?_eq_getElem hlt⟩
      have k3 := ltRuns_ac y (h1 y (List.mem_of_getElem? hy))
      repeat (first | apply Aw_seq | apply Aw_block | apply Aw_skip | apply Aw_exit | refine Aw_condt rfl ?_ | refine Aw_condf rfl ?_ | ((first | refine qr ?_ | refine qd (by kernel_rfl) (by kernel_rfl) ?_); simp only [go_sem, jE, reduceIte, jA, jM, jS, jL, jD, jB, g1, w, hy]) | refine dk (by kernel_rfl) ?_ | (refine qp (k3) (by simp only [go_sem, jE, reduceIte, jA, jM, jS, jL, jD, jB, g1, w, hy]; first | done | rfl) rfl (by simp only [go_sem, Nat.reduceLT]) rfl rfl ?_; simp only [go_sem, jE, reduceIte, jA, jM, jS, jL, jD, jB, g1, w, hy]))
      refine ⟨⟨i + 1, hlt⟩, [0, 1], ?_, rwL (by repeat (first | exact trivial | refine ⟨rfl, rfl, ?_⟩)) (by rfl) (by simp only [go_sem, jE, reduceIte, jA, jM, jS, jL, jD, jB]; first | done | rfl) (by decide) (by unfold idM; decide)⟩
      show s.levels.length - (i + 1) < s.levels.length - i; omega
    · have g1 : decide ((i : Int) < (s.levels.length : Int)) = false := decide_eq_false (by omega)
      repeat (first | apply Aw_seq | apply Aw_block | apply Aw_skip | apply Aw_exit | refine Aw_condt rfl ?_ | refine Aw_condf rfl ?_ | ((first | refine qr ?_ | refine qd (by kernel_rfl) (by kernel_rfl) ?_); simp only [go_sem, jE, reduceIte, jA, jM, jS, jL, jD, jB, g1]) | refine dk (by kernel_rfl) ?_)
      refine ⟨rfl, ?_⟩
      exact ⟨(), [0, 1], rwL (by repeat (first | exact trivial | refine ⟨rfl, rfl, ?_⟩)) (by rfl) (by simp only [go_sem, jE, reduceIte, jA, jM, jS, jL, jD, jB]; first | done | rfl) (by decide) (by unfold idM; decide)⟩
  · intro _
    repeat (first | apply Aw_seq | apply Aw_block | apply Aw_skip | apply Aw_exit | refine Aw_condt rfl ?_ | refine Aw_condf rfl ?_ | ((first | refine qr ?_ | refine qd (by kernel_rfl) (by kernel_rfl) ?_); simp only [go_sem, jE, reduceIte, jA, jM, jS, jL, jD, jB]) | refine dk (by kernel_rfl) ?_)
    refine Aw.rw (rwL (l' := [(6, .t (iT (0 : Nat))), (3, .t (.c (.ph 1 0 0))), (2, .t (.c (.ph 0 0 0)))]) (os := [some (stO s), some (stO s)]) (M := [0, 1]) (n' := 2) (by repeat (first | exact trivial | refine ⟨rfl, rfl, ?_⟩)) (by rfl) (by simp only [go_sem, jE, reduceIte, jA, jM, jS, jL, jD, jB]; first | done | rfl) (by decide) (by unfold idM; decide)) ?_
    refine Aw_loop_rw (ι := { i : Nat // i ≤ s.sieves.length }) (fun q => S [(6, .t (iT (q.1 : Nat))), (3, .t (.c (.ph 1 0 0))), (2, .t (.c (.ph 0 0 0)))] (hpL [some (stO s), some (stO s)]) 2) (fun q => s.sieves.length - q.1) ⟨0, Nat.zero_le _⟩ ?_
    rintro ⟨i, hi⟩
    dsimp only
    by_cases hlt : i < s.sieves.length
    · have g1 : decide ((i : Int) < (s.sieves.length : Int)) = true := decide_eq_true (by omega)
      have w := wrap_succ hlt hsl
      obtain ⟨y, hy⟩ : ∃ e, s.sieves[i]? = some e := ⟨_, List.getElem?_eq_getElem hlt⟩
      have k3 := ltSieve_ac y (hs.rl y (List.mem_of_getElem? hy))
      repeat (first | apply Aw_seq | apply Aw_block | apply Aw_skip | apply Aw_exit | refine Aw_condt rfl ?_ | refine Aw_condf rfl ?_ | ((first | refine qr ?_ | refine qd (by kernel_rfl) (by kernel_rfl) ?_); simp only [go_sem, jE, reduceIte, jA, jM, jS, jL, jD, jB, g1, w, hy]) | refine dk (by kernel_rfl) ?_ | (refine qp (k3) (by simp only [go_sem, jE, reduceIte, jA, jM, jS, jL, jD, jB, g1, w, hy]; first | done | rfl) rfl (by simp only [go_sem, Nat.reduceLT]) rfl rfl ?_; simp only [go_sem, jE, reduceIte, jA, jM, jS, jL, jD, jB, g1, w, hy]))
      refine ⟨⟨i + 1, hlt⟩, [0, 1], ?_, rwL (by repeat (first | exact trivial | refine ⟨rfl, rfl, ?_⟩)) (by rfl) (by simp only [go_sem, jE, reduceIte, jA, jM, jS, jL, jD, jB]; first | done | rfl) (by decide) (by unfold idM; decide)⟩
      show s.sieves.length - (i + 1) < s.sieves.length - i; omega
    · have g1 : decide ((i : Int) < (s.sieves.length : Int)) = false := decide_eq_false (by omega)
      repeat (first | apply Aw_seq | apply Aw_block | apply Aw_skip | apply Aw_exit | refine Aw_condt rfl ?_ | refine Aw_condf rfl ?_ | ((first | refine qr ?_ | refine qd (by kernel_rfl) (by kernel_rfl) ?_); simp only [go_sem, jE, reduceIte, jA, jM, jS, jL, jD, jB, g1]) | refine dk (by kernel_rfl) ?_)
      exact Aw_ret (ret0 (.inl rfl) (by simp only [go_sem, jE, reduceIte, jA, jM, jS, jL, jD, jB]; rfl) (by rfl) rfl)
noncomputable def dspV (b : List Int) : Sto × ByteArray × Int :=
  let s := spoV b 0
  let z := nearV b s.2 (ofT s.1 s.1.levels.length)
  (s.1, if pickV b z.2 24 = 0 then ⟨#[120]⟩ else z.1, ((pickV b (z.2 + 1) 100 : Nat) : Int) - ((pickV b (z.2 + 2) 24 / 23 * 200 : Nat) : Int))
theorem drawStorePut_ac (c : List Int) (hl : c.length ≤ 1099511627776) (hb : byteL (c.take 2000)) : AC Tryz.prog 9 [bytesT c] noHp 0 ⟨.tup [stT (dspV (c.take 2000)).1, sT (dspV (c.take 2000)).2.1, iT (dspV (c.take 2000)).2.2], noHp, 0⟩ := by
  have k0 := l6Open_ac c hl
  obtain ⟨b, hbe⟩ : ∃ b, b = c.take 2000 := ⟨_, rfl⟩
  rw [← hbe] at hb k0 ⊢
  obtain ⟨h, hq⟩ := spoV_fin hb (p := 0) (by omega)
  have hf := spoV_few hb (p := 0) (by omega)
  have ks := spoiltS_ac hb (p := 0) (by omega)
  unfold dspV
  dsimp only
  generalize spoV b 0 = sq at h hq hf ks ⊢
  obtain ⟨s, q⟩ := sq
  dsimp only at h hq hf ks ⊢
  have k1 := l71Of_ac hb (show q ≤ 800000 by omega) h.st hf
  have hfo := hf.of s.levels.length
  have hll := hf.ll
  have hn := (nearV_fin hb (p := q) (K := 5) (l := ofT s s.levels.length) (by omega) (by omega) (Nat.le_refl _) hfo.1).2
  generalize nearV b q (ofT s s.levels.length) = z at k1 hn ⊢
  obtain ⟨k, p⟩ := z
  dsimp only at k1 hn ⊢
  have k2 := pickV_ac (n := 24) hb (show p ≤ 1000000 by omega) (by omega)
  have k3 := pickV_ac (n := 100) hb (show p + 1 ≤ 1000000 by omega) (by omega)
  have k4 := pickV_ac (n := 24) hb (show p + 1 + 1 ≤ 1000000 by omega) (by omega)
  have l3 := pickV_lt (n := 100) hb (show p + 1 ≤ 1000000 by omega) (by omega) (by omega)
  have l4 := pickV_lt (n := 24) hb (show p + 1 + 1 ≤ 1000000 by omega) (by omega) (by omega)
  generalize pickV b (p + 1) 100 = v at k3 l3 ⊢
  rw [show p + 2 = p + 1 + 1 from rfl]
  generalize pickV b (p + 1 + 1) 24 = u at k4 l4 ⊢
  have z23 : ((23 : Int) = 0) = False := eq_false (by decide)
  have w1 : IntKind.i64.wrap (Int.tdiv (u : Int) 23) = ((u / 23 : Nat) : Int) := wn rfl (by omega)
  have w2 : IntKind.i64.wrap (((u / 23 : Nat) : Int) * 200) = ((u / 23 * 200 : Nat) : Int) := wn (by rw [Int.natCast_mul]; rfl) (by omega)
  have w3 : IntKind.i64.wrap ((v : Int) - ((u / 23 * 200 : Nat) : Int)) = (v : Int) - ((u / 23 * 200 : Nat) : Int) := wrap_in (by omega) (by omega)
  generalize u / 23 * 200 = y at w2 w3 ⊢
  by_cases c1 : pickV b p 24 = 0
  · have g1 : decide (((pickV b p 24 : Nat) : Int) = 0) = true := decide_eq_true (by omega)
    rw [if_pos c1]
    refine AC_of Tryz.func9 rfl Tryz.ntmps9 Tryz.results9 (by kernel_rfl) rfl ?_
    simp only [List.zipIdx, List.map, Nat.zero_add, Nat.reduceAdd]
    repeat (first | apply Aw_seq | apply Aw_block | apply Aw_skip | apply Aw_exit | refine Aw_condt rfl ?_ | refine Aw_condf rfl ?_ | ((first | refine qr ?_ | refine qd (by kernel_rfl) (by kernel_rfl) ?_); simp only [go_sem, jE, reduceIte, jA, jM, jS, jL, jD, jB, g1, z23, w1, w2, w3]) | refine dk (by kernel_rfl) ?_ | (refine qx (call_N (L := []) (k0) rfl (.cons (.nm rfl) (.nil)) (.inl rfl) rfl) (by simp only [go_sem, jE, reduceIte, jA, jM, jS, jL, jD, jB, g1, z23, w1, w2, w3]; first | done | rfl) rfl (by simp only [go_sem, Nat.reduceLT]) ?_; simp only [go_sem, jE, reduceIte, jA, jM, jS, jL, jD, jB, g1, z23, w1, w2, w3]) | (refine qx (call_L (N' := [4]) (L := []) (ks) rfl (.cons (.nm rfl) (.nil)) (by decide) (by decide) (by decide) (by simp only [go_sem, jE, reduceIte, jA, jM, jS, jL, jD, jB, g1, z23, w1, w2, w3]; first | done | rfl) (.inl rfl) rfl (by decide)) (by simp only [go_sem, jE, reduceIte, jA, jM, jS, jL, jD, jB, g1, z23, w1, w2, w3]; first | done | rfl) rfl (by simp only [go_sem, Nat.reduceLT]) ?_; simp only [go_sem, jE, reduceIte, jA, jM, jS, jL, jD, jB, g1, z23, w1, w2, w3]) | (refine qx (call_L (N' := [4]) (L := []) (k1) rfl (.cons (.nm rfl) (.cons (.nm rfl) (.nil))) (by decide) (by decide) (by decide) (by simp only [go_sem, jE, reduceIte, jA, jM, jS, jL, jD, jB, g1, z23, w1, w2, w3]; first | done | rfl) (.inl rfl) rfl (by decide)) (by simp only [go_sem, jE, reduceIte, jA, jM, jS, jL, jD, jB, g1, z23, w1, w2, w3]; first | done | rfl) rfl (by simp only [go_sem, Nat.reduceLT]) ?_; simp only [go_sem, jE, reduceIte, jA, jM, jS, jL, jD, jB, g1, z23, w1, w2, w3]) | (refine qx (call_L (N' := [4]) (L := []) (k2) rfl (.cons (.nm rfl) (.cons (.nm rfl) (.nil))) (by decide) (by decide) (by decide) (by simp only [go_sem, jE, reduceIte, jA, jM, jS, jL, jD, jB, g1, z23, w1, w2, w3]; first | done | rfl) (.inl rfl) rfl (by decide)) (by simp only [go_sem, jE, reduceIte, jA, jM, jS, jL, jD, jB, g1, z23, w1, w2, w3]; first | done | rfl) rfl (by simp only [go_sem, Nat.reduceLT]) ?_; simp only [go_sem, jE, reduceIte, jA, jM, jS, jL, jD, jB, g1, z23, w1, w2, w3]) | (refine qx (call_L (N' := [4]) (L := []) (k3) rfl (.cons (.nm rfl) (.cons (.nm rfl) (.nil))) (by decide) (by decide) (by decide) (by simp only [go_sem, jE, reduceIte, jA, jM, jS, jL, jD, jB, g1, z23, w1, w2, w3]; first | done | rfl) (.inl rfl) rfl (by decide)) (by simp only [go_sem, jE, reduceIte, jA, jM, jS, jL, jD, jB, g1, z23, w1, w2, w3]; first | done | rfl) rfl (by simp only [go_sem, Nat.reduceLT]) ?_; simp only [go_sem, jE, reduceIte, jA, jM, jS, jL, jD, jB, g1, z23, w1, w2, w3]) | (refine qx (call_L (N' := [4]) (L := []) (k4) rfl (.cons (.nm rfl) (.cons (.nm rfl) (.nil))) (by decide) (by decide) (by decide) (by simp only [go_sem, jE, reduceIte, jA, jM, jS, jL, jD, jB, g1, z23, w1, w2, w3]; first | done | rfl) (.inl rfl) rfl (by decide)) (by simp only [go_sem, jE, reduceIte, jA, jM, jS, jL, jD, jB, g1, z23, w1, w2, w3]; first | done | rfl) rfl (by simp only [go_sem, Nat.reduceLT]) ?_; simp only [go_sem, jE, reduceIte, jA, jM, jS, jL, jD, jB, g1, z23, w1, w2, w3]))
    exact Aw_ret (ret0 (.inl rfl) (by simp only [go_sem, jE, reduceIte, jA, jM, jS, jL, jD, jB]; rfl) (by rfl) rfl)
  · have g1 : decide (((pickV b p 24 : Nat) : Int) = 0) = false := decide_eq_false (by omega)
    rw [if_neg c1]
    refine AC_of Tryz.func9 rfl Tryz.ntmps9 Tryz.results9 (by kernel_rfl) rfl ?_
    simp only [List.zipIdx, List.map, Nat.zero_add, Nat.reduceAdd]
    repeat (first | apply Aw_seq | apply Aw_block | apply Aw_skip | apply Aw_exit | refine Aw_condt rfl ?_ | refine Aw_condf rfl ?_ | ((first | refine qr ?_ | refine qd (by kernel_rfl) (by kernel_rfl) ?_); simp only [go_sem, jE, reduceIte, jA, jM, jS, jL, jD, jB, g1, z23, w1, w2, w3]) | refine dk (by kernel_rfl) ?_ | (refine qx (call_N (L := []) (k0) rfl (.cons (.nm rfl) (.nil)) (.inl rfl) rfl) (by simp only [go_sem, jE, reduceIte, jA, jM, jS, jL, jD, jB, g1, z23, w1, w2, w3]; first | done | rfl) rfl (by simp only [go_sem, Nat.reduceLT]) ?_; simp only [go_sem, jE, reduceIte, jA, jM, jS, jL, jD, jB, g1, z23, w1, w2, w3]) | (refine qx (call_L (N' := [4]) (L := []) (ks) rfl (.cons (.nm rfl) (.nil)) (by decide) (by decide) (by decide) (by simp only [go_sem, jE, reduceIte, jA, jM, jS, jL, jD, jB, g1, z23, w1, w2, w3]; first | done | rfl) (.inl rfl) rfl (by decide)) (by simp only [go_sem, jE, reduceIte, jA, jM, jS, jL, jD, jB, g1, z23, w1, w2, w3]; first | done | rfl) rfl (by simp only [go_sem, Nat.reduceLT]) ?_; simp only [go_sem, jE, reduceIte, jA, jM, jS, jL, jD, jB, g1, z23, w1, w2, w3]) | (refine qx (call_L (N' := [4]) (L := []) (k1) rfl (.cons (.nm rfl) (.cons (.nm rfl) (.nil))) (by decide) (by decide) (by decide) (by simp only [go_sem, jE, reduceIte, jA, jM, jS, jL, jD, jB, g1, z23, w1, w2, w3]; first | done | rfl) (.inl rfl) rfl (by decide)) (by simp only [go_sem, jE, reduceIte, jA, jM, jS, jL, jD, jB, g1, z23, w1, w2, w3]; first | done | rfl) rfl (by simp only [go_sem, Nat.reduceLT]) ?_; simp only [go_sem, jE, reduceIte, jA, jM, jS, jL, jD, jB, g1, z23, w1, w2, w3]) | (refine qx (call_L (N' := [4]) (L := []) (k2) rfl (.cons (.nm rfl) (.cons (.nm rfl) (.nil))) (by decide) (by decide) (by decide) (by simp only [go_sem, jE, reduceIte, jA, jM, jS, jL, jD, jB, g1, z23, w1, w2, w3]; first | done | rfl) (.inl rfl) rfl (by decide)) (by simp only [go_sem, jE, reduceIte, jA, jM, jS, jL, jD, jB, g1, z23, w1, w2, w3]; first | done | rfl) rfl (by simp only [go_sem, Nat.reduceLT]) ?_; simp only [go_sem, jE, reduceIte, jA, jM, jS, jL, jD, jB, g1, z23, w1, w2, w3]) | (refine qx (call_L (N' := [4]) (L := []) (k3) rfl (.cons (.nm rfl) (.cons (.nm rfl) (.nil))) (by decide) (by decide) (by decide) (by simp only [go_sem, jE, reduceIte, jA, jM, jS, jL, jD, jB, g1, z23, w1, w2, w3]; first | done | rfl) (.inl rfl) rfl (by decide)) (by simp only [go_sem, jE, reduceIte, jA, jM, jS, jL, jD, jB, g1, z23, w1, w2, w3]; first | done | rfl) rfl (by simp only [go_sem, Nat.reduceLT]) ?_; simp only [go_sem, jE, reduceIte, jA, jM, jS, jL, jD, jB, g1, z23, w1, w2, w3]) | (refine qx (call_L (N' := [4]) (L := []) (k4) rfl (.cons (.nm rfl) (.cons (.nm rfl) (.nil))) (by decide) (by decide) (by decide) (by simp only [go_sem, jE, reduceIte, jA, jM, jS, jL, jD, jB, g1, z23, w1, w2, w3]; first | done | rfl) (.inl rfl) rfl (by decide)) (by simp only [go_sem, jE, reduceIte, jA, jM, jS, jL, jD, jB, g1, z23, w1, w2, w3]; first | done | rfl) rfl (by simp only [go_sem, Nat.reduceLT]) ?_; simp only [go_sem, jE, reduceIte, jA, jM, jS, jL, jD, jB, g1, z23, w1, w2, w3]))
    exact Aw_ret (ret0 (.inl rfl) (by simp only [go_sem, jE, reduceIte, jA, jM, jS, jL, jD, jB]; rfl) (by rfl) rfl)
theorem dspV_st {b : List Int} (hb : byteL b) : SmSt (dspV b).1 ∧ smK (dspV b).2.1 ∧ FewS (dspV b).1 := by
  obtain ⟨h, hq⟩ := spoV_fin hb (p := 0) (by omega)
  have hf := spoV_few hb (p := 0) (by omega)
  refine ⟨h.st, ?_, hf⟩
  unfold dspV
  dsimp only
  generalize spoV b 0 = sq at h hq hf ⊢
  obtain ⟨s, q⟩ := sq
  dsimp only at h hq hf ⊢
  have hfo := hf.of s.levels.length
  have hll := hf.ll
  have hn := (nearV_fin hb (p := q) (K := 5) (l := ofT s s.levels.length) (by omega) (by omega) (Nat.le_refl _) hfo.1).1
  split
  · unfold smK; decide
  · unfold smK; omega
theorem zSto_st : SmSt zSto := ⟨smR_nil, by unfold zSto; simp, by unfold zSto; simp, by unfold zSto; simp, by unfold zSto; simp, by unfold zSto; simp⟩
/-- What is put has the same runs. -/
theorem put_lt (s : Sto) (k : ByteArray) (v : Int) (hs : SmSt s) (hk : smK k) : AC Tryz.prog 12 [stT ((putM s k v).getD zSto), stT ((putM s k v).getD zSto)] noHp 0 ⟨.t (bT true), noHp, 0⟩ := by
  cases h : putM s k v with
  | none => exact ltStoreR_ac zSto zSto_st (by unfold zSto; simp) (by unfold zSto; simp)
  | some x =>
    obtain ⟨g, gt⟩ := addM_smH hs h
    have st := addM_st (e := ⟨k, v, false, nextT s⟩) hs hk h
    exact ltStoreR_ac x st (by omega) fun r hr => by have := (g.lev r hr).2; omega
theorem room_put {s : Sto} {k : ByteArray} {v : Int} (hv : storeS s = true) (hk : keyOk k = true) (h0 : ¬ v < 0) (h1 : ¬ 99 < v) (ht : s.time ≠ 999) (hl : s.top.length ≠ 4) : (putM s k v).isSome = true := by
  obtain ⟨_, _, l3, _, _, h6, _⟩ := storeS_facts hv
  unfold inB at h6
  rw [Bool.and_eq_true] at h6
  have t0 := of_decide_eq_true h6.1; have t1 := of_decide_eq_true h6.2
  have w : nextT s = s.time + 1 := wrap_in (by omega) (by omega)
  have he : entOk ⟨k, v, false, nextT s⟩ = true := by
    unfold entOk inB
    simp only [hk, w, Bool.true_and, Bool.not_false, Bool.true_or, Bool.and_true, Bool.and_eq_true, decide_eq_true_eq]
    omega
  unfold putM addM
  rw [hv, he]
  simp only [Bool.and_self, if_true]
  rw [if_neg (by omega)]; rfl
theorem law_StoreRoomD (c : List Int) (ho : okY c) : AC Tryz.prog 3 [bytesT c] noHp 0 ⟨.t (bT true), noHp, 0⟩ := by
  refine AC_of Tryz.func3 rfl Tryz.ntmps3 Tryz.results3 (by kernel_rfl) rfl ?_
  simp only [List.zipIdx, List.map, Nat.zero_add, Nat.reduceAdd]
  by_cases hc : c.length ≤ 1048576
  case neg =>
    have g0 : decide ((1048576 : Int) < (c.length : Int)) = true := decide_eq_true (by omega)
    repeat (first | apply Aw_seq | apply Aw_block | apply Aw_skip | apply Aw_exit | refine Aw_condt rfl ?_ | refine Aw_condf rfl ?_ | ((first | refine qr ?_ | refine qd (by kernel_rfl) (by kernel_rfl) ?_); simp only [go_sem, jE, reduceIte, jA, jM, jS, jL, jD, jB, g0]) | refine dk (by kernel_rfl) ?_)
    exact Aw_ret (ret0 (.inl rfl) (by simp only [go_sem, jE, reduceIte, jA, jM, jS, jL, jD, jB]; rfl) (by rfl) rfl)
  have g0 : decide ((1048576 : Int) < (c.length : Int)) = false := decide_eq_false (by omega)
  have hb := ho.byte
  have k0 := drawStorePut_ac c (by omega) hb
  obtain ⟨hs, hk, hf⟩ := dspV_st hb
  generalize dspV (c.take 2000) = sk at k0 hs hk hf
  obtain ⟨s, k, v⟩ := sk
  dsimp only at k0 hs hk hf
  have k1 := (storePutS_own s k v hs hk).set
  have k2 := storePut_ac s k v hs hk
  have k3 := put_lt s k v hs hk
  have k7 := sstoreOk_ac s hs
  have k8 := skeyOk_ac k hk
  have hroom := room_put (s := s) (k := k) (v := v)
  generalize putM s k v = o at k1 k2 k3 hroom
  cases hv : storeS s
  · rw [hv] at k7
    repeat (first | apply Aw_seq | apply Aw_block | apply Aw_skip | apply Aw_exit | refine Aw_condt rfl ?_ | refine Aw_condf rfl ?_ | ((first | refine qr ?_ | refine qd (by kernel_rfl) (by kernel_rfl) ?_); simp only [go_sem, jE, reduceIte, jA, jM, jS, jL, jD, jB, g0, bref]) | refine dk (by kernel_rfl) ?_ | (refine qp (k0) (by simp only [go_sem, jE, reduceIte, jA, jM, jS, jL, jD, jB, g0, bref]; first | done | rfl) rfl (by simp only [go_sem, Nat.reduceLT]) rfl rfl ?_; simp only [go_sem, jE, reduceIte, jA, jM, jS, jL, jD, jB, g0, bref]) | (refine qp (k1) (by simp only [go_sem, jE, reduceIte, jA, jM, jS, jL, jD, jB, g0, bref]; first | done | rfl) rfl (by simp only [go_sem, Nat.reduceLT]) rfl rfl ?_; simp only [go_sem, jE, reduceIte, jA, jM, jS, jL, jD, jB, g0, bref]) | (refine qp (k2) (by simp only [go_sem, jE, reduceIte, jA, jM, jS, jL, jD, jB, g0, bref]; first | done | rfl) rfl (by simp only [go_sem, Nat.reduceLT]) rfl rfl ?_; simp only [go_sem, jE, reduceIte, jA, jM, jS, jL, jD, jB, g0, bref]) | (refine qp (k3) (by simp only [go_sem, jE, reduceIte, jA, jM, jS, jL, jD, jB, g0, bref]; first | done | rfl) rfl (by simp only [go_sem, Nat.reduceLT]) rfl rfl ?_; simp only [go_sem, jE, reduceIte, jA, jM, jS, jL, jD, jB, g0, bref]) | (refine qp (k7) (by simp only [go_sem, jE, reduceIte, jA, jM, jS, jL, jD, jB, g0, bref]; first | done | rfl) rfl (by simp only [go_sem, Nat.reduceLT]) rfl rfl ?_; simp only [go_sem, jE, reduceIte, jA, jM, jS, jL, jD, jB, g0, bref]))
    exact Aw_ret (ret0 (.inl rfl) (by simp only [go_sem, jE, reduceIte, jA, jM, jS, jL, jD, jB]; rfl) (by rfl) rfl)
  rw [hv] at k7
  cases hk2 : keyOk k
  · rw [hk2] at k8
    repeat (first | apply Aw_seq | apply Aw_block | apply Aw_skip | apply Aw_exit | refine Aw_condt rfl ?_ | refine Aw_condf rfl ?_ | ((first | refine qr ?_ | refine qd (by kernel_rfl) (by kernel_rfl) ?_); simp only [go_sem, jE, reduceIte, jA, jM, jS, jL, jD, jB, g0, bref]) | refine dk (by kernel_rfl) ?_ | (refine qp (k0) (by simp only [go_sem, jE, reduceIte, jA, jM, jS, jL, jD, jB, g0, bref]; first | done | rfl) rfl (by simp only [go_sem, Nat.reduceLT]) rfl rfl ?_; simp only [go_sem, jE, reduceIte, jA, jM, jS, jL, jD, jB, g0, bref]) | (refine qp (k1) (by simp only [go_sem, jE, reduceIte, jA, jM, jS, jL, jD, jB, g0, bref]; first | done | rfl) rfl (by simp only [go_sem, Nat.reduceLT]) rfl rfl ?_; simp only [go_sem, jE, reduceIte, jA, jM, jS, jL, jD, jB, g0, bref]) | (refine qp (k2) (by simp only [go_sem, jE, reduceIte, jA, jM, jS, jL, jD, jB, g0, bref]; first | done | rfl) rfl (by simp only [go_sem, Nat.reduceLT]) rfl rfl ?_; simp only [go_sem, jE, reduceIte, jA, jM, jS, jL, jD, jB, g0, bref]) | (refine qp (k3) (by simp only [go_sem, jE, reduceIte, jA, jM, jS, jL, jD, jB, g0, bref]; first | done | rfl) rfl (by simp only [go_sem, Nat.reduceLT]) rfl rfl ?_; simp only [go_sem, jE, reduceIte, jA, jM, jS, jL, jD, jB, g0, bref]) | (refine qp (k7) (by simp only [go_sem, jE, reduceIte, jA, jM, jS, jL, jD, jB, g0, bref]; first | done | rfl) rfl (by simp only [go_sem, Nat.reduceLT]) rfl rfl ?_; simp only [go_sem, jE, reduceIte, jA, jM, jS, jL, jD, jB, g0, bref]) | (refine qp (k8) (by simp only [go_sem, jE, reduceIte, jA, jM, jS, jL, jD, jB, g0, bref]; first | done | rfl) rfl (by simp only [go_sem, Nat.reduceLT]) rfl rfl ?_; simp only [go_sem, jE, reduceIte, jA, jM, jS, jL, jD, jB, g0, bref]))
    exact Aw_ret (ret0 (.inl rfl) (by simp only [go_sem, jE, reduceIte, jA, jM, jS, jL, jD, jB]; rfl) (by rfl) rfl)
  rw [hk2] at k8
  cases c1 : decide (v < 0)
  case true =>
    repeat (first | apply Aw_seq | apply Aw_block | apply Aw_skip | apply Aw_exit | refine Aw_condt rfl ?_ | refine Aw_condf rfl ?_ | ((first | refine qr ?_ | refine qd (by kernel_rfl) (by kernel_rfl) ?_); simp only [go_sem, jE, reduceIte, jA, jM, jS, jL, jD, jB, g0, bref, c1]) | refine dk (by kernel_rfl) ?_ | (refine qp (k0) (by simp only [go_sem, jE, reduceIte, jA, jM, jS, jL, jD, jB, g0, bref, c1]; first | done | rfl) rfl (by simp only [go_sem, Nat.reduceLT]) rfl rfl ?_; simp only [go_sem, jE, reduceIte, jA, jM, jS, jL, jD, jB, g0, bref, c1]) | (refine qp (k1) (by simp only [go_sem, jE, reduceIte, jA, jM, jS, jL, jD, jB, g0, bref, c1]; first | done | rfl) rfl (by simp only [go_sem, Nat.reduceLT]) rfl rfl ?_; simp only [go_sem, jE, reduceIte, jA, jM, jS, jL, jD, jB, g0, bref, c1]) | (refine qp (k2) (by simp only [go_sem, jE, reduceIte, jA, jM, jS, jL, jD, jB, g0, bref, c1]; first | done | rfl) rfl (by simp only [go_sem, Nat.reduceLT]) rfl rfl ?_; simp only [go_sem, jE, reduceIte, jA, jM, jS, jL, jD, jB, g0, bref, c1]) | (refine qp (k3) (by simp only [go_sem, jE, reduceIte, jA, jM, jS, jL, jD, jB, g0, bref, c1]; first | done | rfl) rfl (by simp only [go_sem, Nat.reduceLT]) rfl rfl ?_; simp only [go_sem, jE, reduceIte, jA, jM, jS, jL, jD, jB, g0, bref, c1]) | (refine qp (k7) (by simp only [go_sem, jE, reduceIte, jA, jM, jS, jL, jD, jB, g0, bref, c1]; first | done | rfl) rfl (by simp only [go_sem, Nat.reduceLT]) rfl rfl ?_; simp only [go_sem, jE, reduceIte, jA, jM, jS, jL, jD, jB, g0, bref, c1]) | (refine qp (k8) (by simp only [go_sem, jE, reduceIte, jA, jM, jS, jL, jD, jB, g0, bref, c1]; first | done | rfl) rfl (by simp only [go_sem, Nat.reduceLT]) rfl rfl ?_; simp only [go_sem, jE, reduceIte, jA, jM, jS, jL, jD, jB, g0, bref, c1]))
    exact Aw_ret (ret0 (.inl rfl) (by simp only [go_sem, jE, reduceIte, jA, jM, jS, jL, jD, jB]; rfl) (by rfl) rfl)
  cases c2 : decide (99 < v)
  case true =>
    repeat (first | apply Aw_seq | apply Aw_block | apply Aw_skip | apply Aw_exit | refine Aw_condt rfl ?_ | refine Aw_condf rfl ?_ | ((first | refine qr ?_ | refine qd (by kernel_rfl) (by kernel_rfl) ?_); simp only [go_sem, jE, reduceIte, jA, jM, jS, jL, jD, jB, g0, bref, c1, c2]) | refine dk (by kernel_rfl) ?_ | (refine qp (k0) (by simp only [go_sem, jE, reduceIte, jA, jM, jS, jL, jD, jB, g0, bref, c1, c2]; first | done | rfl) rfl (by simp only [go_sem, Nat.reduceLT]) rfl rfl ?_; simp only [go_sem, jE, reduceIte, jA, jM, jS, jL, jD, jB, g0, bref, c1, c2]) | (refine qp (k1) (by simp only [go_sem, jE, reduceIte, jA, jM, jS, jL, jD, jB, g0, bref, c1, c2]; first | done | rfl) rfl (by simp only [go_sem, Nat.reduceLT]) rfl rfl ?_; simp only [go_sem, jE, reduceIte, jA, jM, jS, jL, jD, jB, g0, bref, c1, c2]) | (refine qp (k2) (by simp only [go_sem, jE, reduceIte, jA, jM, jS, jL, jD, jB, g0, bref, c1, c2]; first | done | rfl) rfl (by simp only [go_sem, Nat.reduceLT]) rfl rfl ?_; simp only [go_sem, jE, reduceIte, jA, jM, jS, jL, jD, jB, g0, bref, c1, c2]) | (refine qp (k3) (by simp only [go_sem, jE, reduceIte, jA, jM, jS, jL, jD, jB, g0, bref, c1, c2]; first | done | rfl) rfl (by simp only [go_sem, Nat.reduceLT]) rfl rfl ?_; simp only [go_sem, jE, reduceIte, jA, jM, jS, jL, jD, jB, g0, bref, c1, c2]) | (refine qp (k7) (by simp only [go_sem, jE, reduceIte, jA, jM, jS, jL, jD, jB, g0, bref, c1, c2]; first | done | rfl) rfl (by simp only [go_sem, Nat.reduceLT]) rfl rfl ?_; simp only [go_sem, jE, reduceIte, jA, jM, jS, jL, jD, jB, g0, bref, c1, c2]) | (refine qp (k8) (by simp only [go_sem, jE, reduceIte, jA, jM, jS, jL, jD, jB, g0, bref, c1, c2]; first | done | rfl) rfl (by simp only [go_sem, Nat.reduceLT]) rfl rfl ?_; simp only [go_sem, jE, reduceIte, jA, jM, jS, jL, jD, jB, g0, bref, c1, c2]))
    exact Aw_ret (ret0 (.inl rfl) (by simp only [go_sem, jE, reduceIte, jA, jM, jS, jL, jD, jB]; rfl) (by rfl) rfl)
  have hroom := hroom hv hk2 (of_decide_eq_false c1) (of_decide_eq_false c2)
  cases o with
  | none =>
    have k1 : AC Tryz.prog 10 [stT s, sT k, iT v] noHp 0 ⟨.tup [stT zSto, bT false], noHp, 0⟩ := k1
    have k2 : AC Tryz.prog 11 [stT s, sT k, iT v] noHp 0 ⟨.tup [stT zSto, bT false], noHp, 0⟩ := k2
    have k3 : AC Tryz.prog 12 [stT zSto, stT zSto] noHp 0 ⟨.t (bT true), noHp, 0⟩ := k3
    cases c3 : decide (s.time = 999)
    · have c4 : decide ((s.top.length : Int) = 4) = true := by
        refine decide_eq_true ?_
        rcases Nat.lt_or_ge 4 s.top.length with h | h
        · have := hroom (of_decide_eq_false c3) (by omega); cases this
        · rcases Nat.lt_or_ge s.top.length 4 with h2 | h2
          · have := hroom (of_decide_eq_false c3) (by omega); cases this
          · omega
      repeat (first | apply Aw_seq | apply Aw_block | apply Aw_skip | apply Aw_exit | refine Aw_condt rfl ?_ | refine Aw_condf rfl ?_ | ((first | refine qr ?_ | refine qd (by kernel_rfl) (by kernel_rfl) ?_); simp only [go_sem, jE, reduceIte, jA, jM, jS, jL, jD, jB, g0, bref, c1, c2, c3, c4]) | refine dk (by kernel_rfl) ?_ | (refine qp (k0) (by simp only [go_sem, jE, reduceIte, jA, jM, jS, jL, jD, jB, g0, bref, c1, c2, c3, c4]; first | done | rfl) rfl (by simp only [go_sem, Nat.reduceLT]) rfl rfl ?_; simp only [go_sem, jE, reduceIte, jA, jM, jS, jL, jD, jB, g0, bref, c1, c2, c3, c4]) | (refine qp (k1) (by simp only [go_sem, jE, reduceIte, jA, jM, jS, jL, jD, jB, g0, bref, c1, c2, c3, c4]; first | done | rfl) rfl (by simp only [go_sem, Nat.reduceLT]) rfl rfl ?_; simp only [go_sem, jE, reduceIte, jA, jM, jS, jL, jD, jB, g0, bref, c1, c2, c3, c4]) | (refine qp (k2) (by simp only [go_sem, jE, reduceIte, jA, jM, jS, jL, jD, jB, g0, bref, c1, c2, c3, c4]; first | done | rfl) rfl (by simp only [go_sem, Nat.reduceLT]) rfl rfl ?_; simp only [go_sem, jE, reduceIte, jA, jM, jS, jL, jD, jB, g0, bref, c1, c2, c3, c4]) | (refine qp (k3) (by simp only [go_sem, jE, reduceIte, jA, jM, jS, jL, jD, jB, g0, bref, c1, c2, c3, c4]; first | done | rfl) rfl (by simp only [go_sem, Nat.reduceLT]) rfl rfl ?_; simp only [go_sem, jE, reduceIte, jA, jM, jS, jL, jD, jB, g0, bref, c1, c2, c3, c4]) | (refine qp (k7) (by simp only [go_sem, jE, reduceIte, jA, jM, jS, jL, jD, jB, g0, bref, c1, c2, c3, c4]; first | done | rfl) rfl (by simp only [go_sem, Nat.reduceLT]) rfl rfl ?_; simp only [go_sem, jE, reduceIte, jA, jM, jS, jL, jD, jB, g0, bref, c1, c2, c3, c4]) | (refine qp (k8) (by simp only [go_sem, jE, reduceIte, jA, jM, jS, jL, jD, jB, g0, bref, c1, c2, c3, c4]; first | done | rfl) rfl (by simp only [go_sem, Nat.reduceLT]) rfl rfl ?_; simp only [go_sem, jE, reduceIte, jA, jM, jS, jL, jD, jB, g0, bref, c1, c2, c3, c4]))
      exact Aw_ret (ret0 (.inl rfl) (by simp only [go_sem, jE, reduceIte, jA, jM, jS, jL, jD, jB]; rfl) (by rfl) rfl)
    · repeat (first | apply Aw_seq | apply Aw_block | apply Aw_skip | apply Aw_exit | refine Aw_condt rfl ?_ | refine Aw_condf rfl ?_ | ((first | refine qr ?_ | refine qd (by kernel_rfl) (by kernel_rfl) ?_); simp only [go_sem, jE, reduceIte, jA, jM, jS, jL, jD, jB, g0, bref, c1, c2, c3]) | refine dk (by kernel_rfl) ?_ | (refine qp (k0) (by simp only [go_sem, jE, reduceIte, jA, jM, jS, jL, jD, jB, g0, bref, c1, c2, c3]; first | done | rfl) rfl (by simp only [go_sem, Nat.reduceLT]) rfl rfl ?_; simp only [go_sem, jE, reduceIte, jA, jM, jS, jL, jD, jB, g0, bref, c1, c2, c3]) | (refine qp (k1) (by simp only [go_sem, jE, reduceIte, jA, jM, jS, jL, jD, jB, g0, bref, c1, c2, c3]; first | done | rfl) rfl (by simp only [go_sem, Nat.reduceLT]) rfl rfl ?_; simp only [go_sem, jE, reduceIte, jA, jM, jS, jL, jD, jB, g0, bref, c1, c2, c3]) | (refine qp (k2) (by simp only [go_sem, jE, reduceIte, jA, jM, jS, jL, jD, jB, g0, bref, c1, c2, c3]; first | done | rfl) rfl (by simp only [go_sem, Nat.reduceLT]) rfl rfl ?_; simp only [go_sem, jE, reduceIte, jA, jM, jS, jL, jD, jB, g0, bref, c1, c2, c3]) | (refine qp (k3) (by simp only [go_sem, jE, reduceIte, jA, jM, jS, jL, jD, jB, g0, bref, c1, c2, c3]; first | done | rfl) rfl (by simp only [go_sem, Nat.reduceLT]) rfl rfl ?_; simp only [go_sem, jE, reduceIte, jA, jM, jS, jL, jD, jB, g0, bref, c1, c2, c3]) | (refine qp (k7) (by simp only [go_sem, jE, reduceIte, jA, jM, jS, jL, jD, jB, g0, bref, c1, c2, c3]; first | done | rfl) rfl (by simp only [go_sem, Nat.reduceLT]) rfl rfl ?_; simp only [go_sem, jE, reduceIte, jA, jM, jS, jL, jD, jB, g0, bref, c1, c2, c3]) | (refine qp (k8) (by simp only [go_sem, jE, reduceIte, jA, jM, jS, jL, jD, jB, g0, bref, c1, c2, c3]; first | done | rfl) rfl (by simp only [go_sem, Nat.reduceLT]) rfl rfl ?_; simp only [go_sem, jE, reduceIte, jA, jM, jS, jL, jD, jB, g0, bref, c1, c2, c3]))
      exact Aw_ret (ret0 (.inl rfl) (by simp only [go_sem, jE, reduceIte, jA, jM, jS, jL, jD, jB]; rfl) (by rfl) rfl)
  | some x =>
    have k1 : AC Tryz.prog 10 [stT s, sT k, iT v] noHp 0 ⟨.tup [stT x, bT true], noHp, 0⟩ := k1
    have k2 : AC Tryz.prog 11 [stT s, sT k, iT v] noHp 0 ⟨.tup [stT x, bT true], noHp, 0⟩ := k2
    have k3 : AC Tryz.prog 12 [stT x, stT x] noHp 0 ⟨.t (bT true), noHp, 0⟩ := k3
    repeat (first | apply Aw_seq | apply Aw_block | apply Aw_skip | apply Aw_exit | refine Aw_condt rfl ?_ | refine Aw_condf rfl ?_ | ((first | refine qr ?_ | refine qd (by kernel_rfl) (by kernel_rfl) ?_); simp only [go_sem, jE, reduceIte, jA, jM, jS, jL, jD, jB, g0, bref, c1, c2]) | refine dk (by kernel_rfl) ?_ | (refine qp (k0) (by simp only [go_sem, jE, reduceIte, jA, jM, jS, jL, jD, jB, g0, bref, c1, c2]; first | done | rfl) rfl (by simp only [go_sem, Nat.reduceLT]) rfl rfl ?_; simp only [go_sem, jE, reduceIte, jA, jM, jS, jL, jD, jB, g0, bref, c1, c2]) | (refine qp (k1) (by simp only [go_sem, jE, reduceIte, jA, jM, jS, jL, jD, jB, g0, bref, c1, c2]; first | done | rfl) rfl (by simp only [go_sem, Nat.reduceLT]) rfl rfl ?_; simp only [go_sem, jE, reduceIte, jA, jM, jS, jL, jD, jB, g0, bref, c1, c2]) | (refine qp (k2) (by simp only [go_sem, jE, reduceIte, jA, jM, jS, jL, jD, jB, g0, bref, c1, c2]; first | done | rfl) rfl (by simp only [go_sem, Nat.reduceLT]) rfl rfl ?_; simp only [go_sem, jE, reduceIte, jA, jM, jS, jL, jD, jB, g0, bref, c1, c2]) | (refine qp (k3) (by simp only [go_sem, jE, reduceIte, jA, jM, jS, jL, jD, jB, g0, bref, c1, c2]; first | done | rfl) rfl (by simp only [go_sem, Nat.reduceLT]) rfl rfl ?_; simp only [go_sem, jE, reduceIte, jA, jM, jS, jL, jD, jB, g0, bref, c1, c2]) | (refine qp (k7) (by simp only [go_sem, jE, reduceIte, jA, jM, jS, jL, jD, jB, g0, bref, c1, c2]; first | done | rfl) rfl (by simp only [go_sem, Nat.reduceLT]) rfl rfl ?_; simp only [go_sem, jE, reduceIte, jA, jM, jS, jL, jD, jB, g0, bref, c1, c2]) | (refine qp (k8) (by simp only [go_sem, jE, reduceIte, jA, jM, jS, jL, jD, jB, g0, bref, c1, c2]; first | done | rfl) rfl (by simp only [go_sem, Nat.reduceLT]) rfl rfl ?_; simp only [go_sem, jE, reduceIte, jA, jM, jS, jL, jD, jB, g0, bref, c1, c2]))
    exact Aw_ret (ret0 (.inl rfl) (by simp only [go_sem, jE, reduceIte, jA, jM, jS, jL, jD, jB]; rfl) (by rfl) rfl)
end Go.Proofs.YtjolcfkepcmjnaaGreat.Ab
