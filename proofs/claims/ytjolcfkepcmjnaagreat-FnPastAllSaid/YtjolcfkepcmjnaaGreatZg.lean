/-
  Contracts: what reads a code, and draws a number from it. No condition.
  Contracts: a key that is put into its place, the reference's. No condition.
  The drawn number, and a key that is put into its place. No condition.
  Contracts: keys that are drawn, the reference's. No condition.
  Contracts: keys near others that are drawn, the reference's. No condition.
  Contracts: deeds that are drawn, the reference's. No condition.
  Contracts: all that was put, drawn, the reference's. No condition.
  Contract: a store that is drawn, the reference's. No condition.
  What deeds keep of a store. No condition.
  What deeds keep of a store's sieves. No condition.
  Contract: a store that is drawn, some spoilt, the reference's. No condition.
  Contract: a store that is drawn for its check, the reference's. No condition.
  Plain law: keys of stores that are drawn are short, and few. No condition.
  Plain law: what is done to a store that is one leaves a store that is one. No condition.
  Plain law: stores that are drawn, and deeds one behind the other. No condition.
  Contracts: all that is put, and what comes of deeds, both programs'. No condition.
  Contracts: a store, a key and a time that are drawn, the reference's. No condition.
  Contract: runs that are the same. No condition.
  Contracts: texts, sieves that are the same. No condition.
  Whatever argument of the seat's kinds can be read as data is plain data of the machine's: lemmas, kind by kind (whole numbers, bools, strings, slices, structs). No condition.
  Contracts: stores that are the same; a store, a key and a value that are drawn. No condition.
-/
import Derived.Test.YtjolcfkepcmjnaaGreatZe
import Derived.Test.YtjolcfkepcmjnaaGreatZf
import Derived.Test.YtjolcfkepcmjnaaGreatZc
import Derived.Deep.Slices
import Derived.ChangeArms
import Derived.DataReads
import Derived.Below
namespace Go.Proofs.YtjolcfkepcmjnaaGreat.Ab
open Nat renaming reduceEqDiff → jE, reduceAdd → jA, reduceMul → jM, reduceSub → jS, reduceLT → jL, reduceLeDiff → jD, reduceBEq → jB
set_option linter.deprecated false
set_option linter.unusedVariables false
set_option linter.unusedSimpArgs false
open Go Go.Proofs
set_option maxRecDepth 10000
set_option maxHeartbeats 8000000
def u8D (n : Int) : List D := [.s (.int .u8 n)]
@[go_sem] theorem r_u8D (n : Int) : u8D n = [.s (.int .u8 n)] := rfl
abbrev bytesT (b : List Int) : TV := .c (.d (.rs 1 (b.map u8D)))
def rdO (b : List Int) (p : Nat) : Obj := ⟨114, 2, false, [[.d (.rs 1 (b.map u8D)), .d (.s (.int .i64 p))]]⟩
@[go_sem] theorem r_rdO (b : List Int) (p : Nat) : rdO b p = ⟨114, 2, false, [[.d (.rs 1 (b.map u8D)), .d (.s (.int .i64 p))]]⟩ := rfl
def byteL (b : List Int) : Prop := b.length ≤ 2000 ∧ ∀ c ∈ b, 0 ≤ c ∧ c ≤ 255
theorem l6Open_ac (b : List Int) (hl : b.length ≤ 1099511627776) : AC Tryz.prog 33 [bytesT b] noHp 0 ⟨.t (.c (.ph 0 0 0)), hpL [some (rdO (b.take 2000) 0)], 1⟩ := by
  refine AC_of Tryz.func33 rfl Tryz.ntmps33 Tryz.results33 (by kernel_rfl) rfl ?_
  simp only [List.zipIdx, List.map, Nat.zero_add, Nat.reduceAdd]
  by_cases h : b.length ≤ 2000
  · have g1 : decide ((2000 : Int) < (b.length : Int)) = false := decide_eq_false (by omega)
    rw [List.take_of_length_le h]
    repeat (first | apply Aw_seq | apply Aw_block | apply Aw_skip | apply Aw_exit | refine Aw_condt rfl ?_ | refine Aw_condf rfl ?_ | ((first | refine qr ?_ | refine qd (by kernel_rfl) (by kernel_rfl) ?_); simp only [go_sem, jE, reduceIte, jA, jM, jS, jL, jD, jB, g1]) | refine dk (by kernel_rfl) ?_)
    exact Aw_ret (retL (M := [6]) (.inl rfl) (by simp only [go_sem, jE, reduceIte, jA, jM, jS, jL, jD, jB]; first | done | rfl) rfl rfl (by rfl) (by simp only [go_sem, jE, reduceIte, jA, jM, jS, jL, jD, jB]; first | done | rfl | (and_intros <;> rfl)) (by decide) (by unfold idM; decide))
  · have g1 : decide ((2000 : Int) < (b.length : Int)) = true := decide_eq_true (by omega)
    have g2 : ((2000 : Int) ≤ (b.length : Int)) = True := eq_true (by omega)
    have g3 : ((0 : Int) ≤ 2000) = True := eq_true (by omega)
    have g4 : Int.toNat 2000 = 2000 := rfl
    have g5 : (List.map u8D b).take 2000 = List.map u8D (b.take 2000) := by rw [List.map_take]
    repeat (first | apply Aw_seq | apply Aw_block | apply Aw_skip | apply Aw_exit | refine Aw_condt rfl ?_ | refine Aw_condf rfl ?_ | ((first | refine qr ?_ | refine qd (by kernel_rfl) (by kernel_rfl) ?_); simp only [go_sem, jE, reduceIte, jA, jM, jS, jL, jD, jB, g1, g2, g3, g4, g5]) | refine dk (by kernel_rfl) ?_)
    exact Aw_ret (retL (M := [9]) (.inl rfl) (by simp only [go_sem, jE, reduceIte, jA, jM, jS, jL, jD, jB]; first | done | rfl) rfl rfl (by rfl) (by simp only [go_sem, jE, reduceIte, jA, jM, jS, jL, jD, jB]; first | done | rfl | (and_intros <;> rfl)) (by decide) (by unfold idM; decide))
theorem xorN (X Y : Nat) (hX : X ≤ 1099511627776) (hY : Y ≤ 1099511627776) : ∃ v : Nat, IntKind.i64.wrap (((BitVec.ofInt IntKind.i64.bits (X : Int) ^^^ BitVec.ofInt IntKind.i64.bits (Y : Int)).toNat : Nat) : Int) = v := by
  have e62 : (2 : Nat) ^ 62 = 4611686018427387904 := by decide
  have e64 : (2 : Nat) ^ 64 = 18446744073709551616 := by decide
  have hx := Nat.xor_lt_two_pow (n := 62) (show X < 2 ^ 62 by omega) (show Y < 2 ^ 62 by omega)
  have hb : ∀ q : Nat, q < 2 ^ 62 → (BitVec.ofInt IntKind.i64.bits (q : Int)).toNat = q := fun q hq => by
    show (BitVec.ofInt 64 (q : Int)).toNat = q
    rw [BitVec.ofInt_natCast, BitVec.toNat_ofNat]; exact Nat.mod_eq_of_lt (by omega)
  refine ⟨X ^^^ Y, ?_⟩
  rw [BitVec.toNat_xor, hb X (by omega), hb Y (by omega)]
  simp only [IntKind.wrap, IntKind.bits, IntKind.signed]
  simp
  omega
theorem byte_at {b : List Int} (hb : byteL b) {i : Nat} (h : i < b.length) : ∃ n : Nat, n ≤ 255 ∧ b[i]? = some (n : Int) := by
  have := hb.2 b[i] (List.getElem_mem h)
  exact ⟨b[i].toNat, by omega, by rw [List.getElem?_eq_getElem h]; congr 1; omega⟩
theorem pick_ac (b : List Int) (p : Nat) (n : Int) (hb : byteL b) (hp : p ≤ 1000000) (hn : n ≤ 1099511627776) : ∃ v : Nat, (1 ≤ n → (v : Int) < n) ∧ (¬ 1 ≤ n → v = 0) ∧ AC Tryz.prog 36 [.c (.ph 0 0 0), iT n] (hpL [some (rdO b p)]) 1 ⟨.t (iT v), hpL [some (rdO b (p + 1))], 1⟩ := by
  have w1 : IntKind.i64.wrap ((p : Int) + 1) = ((p + 1 : Nat) : Int) := wn (by omega) (by omega)
  have w2 : IntKind.i64.wrap (((p + 1 : Nat) : Int) - 1) = (p : Int) := wn (by omega) (by omega)
  have z0 : ((0 : Nat) : Int) = 0 := rfl
  by_cases c1 : 1 ≤ n
  case neg =>
    refine ⟨0, fun h => absurd h c1, fun _ => rfl, ?_⟩
    have g1 : decide (n < 1) = true := decide_eq_true (by omega)
    refine AC_of Tryz.func36 rfl Tryz.ntmps36 Tryz.results36 (by kernel_rfl) rfl ?_
    simp only [List.zipIdx, List.map, Nat.zero_add, Nat.reduceAdd]
    repeat (first | apply Aw_seq | apply Aw_block | apply Aw_skip | apply Aw_exit | refine Aw_condt rfl ?_ | refine Aw_condf rfl ?_ | ((first | refine qr ?_ | refine qd (by kernel_rfl) (by kernel_rfl) ?_); simp only [go_sem, jE, reduceIte, jA, jM, jS, jL, jD, jB, w1, g1]) | refine dk (by kernel_rfl) ?_)
    exact Aw_ret (retL (M := [0]) (.inl rfl) (by simp only [go_sem, jE, reduceIte, jA, jM, jS, jL, jD, jB]; first | done | rfl) rfl rfl (by rfl) (by simp only [go_sem, jE, reduceIte, jA, jM, jS, jL, jD, jB]; first | done | rfl | (and_intros <;> rfl)) (by decide) (by unfold idM; decide))
  have g1 : decide (n < 1) = false := decide_eq_false (by omega)
  have gn : (n = 0) = False := eq_false (by omega)
  by_cases c2 : b.length = 0
  · refine ⟨0, fun _ => by omega, fun h => absurd c1 h, ?_⟩
    have g2 : decide (((b.length : Nat) : Int) = 0) = true := decide_eq_true (by omega)
    refine AC_of Tryz.func36 rfl Tryz.ntmps36 Tryz.results36 (by kernel_rfl) rfl ?_
    simp only [List.zipIdx, List.map, Nat.zero_add, Nat.reduceAdd]
    repeat (first | apply Aw_seq | apply Aw_block | apply Aw_skip | apply Aw_exit | refine Aw_condt rfl ?_ | refine Aw_condf rfl ?_ | ((first | refine qr ?_ | refine qd (by kernel_rfl) (by kernel_rfl) ?_); simp only [go_sem, jE, reduceIte, jA, jM, jS, jL, jD, jB, w1, g1, g2]) | refine dk (by kernel_rfl) ?_)
    exact Aw_ret (retL (M := [0]) (.inl rfl) (by simp only [go_sem, jE, reduceIte, jA, jM, jS, jL, jD, jB]; first | done | rfl) rfl rfl (by rfl) (by simp only [go_sem, jE, reduceIte, jA, jM, jS, jL, jD, jB]; first | done | rfl | (and_intros <;> rfl)) (by decide) (by unfold idM; decide))
  have g2 : decide (((b.length : Nat) : Int) = 0) = false := decide_eq_false (by omega)
  have gl : (((b.length : Nat) : Int) = 0) = False := eq_false (by omega)
  have hL := hb.1
  have tm : ∀ x : Nat, ∃ v : Nat, (x : Int).tmod n = v ∧ (v : Int) < n := fun x => by
    have h1 := Int.tmod_nonneg n (show (0 : Int) ≤ (x : Int) by omega)
    have h2 := Int.tmod_lt_of_pos (x : Int) (show (0 : Int) < n by omega)
    exact ⟨((x : Int).tmod n).toNat, by omega, by omega⟩
  by_cases c3 : p < b.length
  · obtain ⟨x, hx1, hx⟩ := byte_at hb c3
    obtain ⟨v, hv, hv2⟩ := tm x
    refine ⟨v, fun _ => hv2, fun h => absurd c1 h, ?_⟩
    have g3 : decide ((p : Int) < ((b.length : Nat) : Int)) = true := decide_eq_true (by omega)
    have wx : IntKind.i64.wrap (x : Int) = x := wrap_nat (by omega)
    refine AC_of Tryz.func36 rfl Tryz.ntmps36 Tryz.results36 (by kernel_rfl) rfl ?_
    simp only [List.zipIdx, List.map, Nat.zero_add, Nat.reduceAdd]
    repeat (first | apply Aw_seq | apply Aw_block | apply Aw_skip | apply Aw_exit | refine Aw_condt rfl ?_ | refine Aw_condf rfl ?_ | ((first | refine qr ?_ | refine qd (by kernel_rfl) (by kernel_rfl) ?_); simp only [go_sem, jE, reduceIte, jA, jM, jS, jL, jD, jB, w1, w2, g1, g2, g3, hx, wx, gn, hv]) | refine dk (by kernel_rfl) ?_)
    exact Aw_ret (retL (M := [0]) (.inl rfl) (by simp only [go_sem, jE, reduceIte, jA, jM, jS, jL, jD, jB]; first | done | rfl) rfl rfl (by rfl) (by simp only [go_sem, jE, reduceIte, jA, jM, jS, jL, jD, jB]; first | done | rfl | (and_intros <;> rfl)) (by decide) (by unfold idM; decide))
  · have g3 : decide ((p : Int) < ((b.length : Nat) : Int)) = false := decide_eq_false (by omega)
    have hi1 : p % b.length < b.length := Nat.mod_lt _ (by omega)
    have hi2 : (p * 7 + 3) % b.length < b.length := Nat.mod_lt _ (by omega)
    obtain ⟨x1, b1, hx1⟩ := byte_at hb hi1
    obtain ⟨x2, b2, hx2⟩ := byte_at hb hi2
    have hq : p / b.length ≤ p := Nat.div_le_self _ _
    have t1 : (p : Int).tmod ((b.length : Nat) : Int) = ((p % b.length : Nat) : Int) := rfl
    have e7 : IntKind.i64.wrap ((p : Int) * 7) = ((p * 7 : Nat) : Int) := wn (by omega) (by omega)
    have e73 : IntKind.i64.wrap (((p * 7 : Nat) : Int) + 3) = ((p * 7 + 3 : Nat) : Int) := wn (by omega) (by omega)
    have t2 : ((p * 7 + 3 : Nat) : Int).tmod ((b.length : Nat) : Int) = (((p * 7 + 3) % b.length : Nat) : Int) := rfl
    have t3 : (p : Int).tdiv ((b.length : Nat) : Int) = ((p / b.length : Nat) : Int) := rfl
    obtain ⟨q, hqe⟩ : ∃ q, q = p / b.length := ⟨_, rfl⟩
    rw [← hqe] at t3 hq
    have wq : IntKind.i64.wrap (q : Int) = q := wrap_nat (by omega)
    have wx1 : IntKind.i64.wrap (x1 : Int) = x1 := wrap_nat (by omega)
    have wx2 : IntKind.i64.wrap (x2 : Int) = x2 := wrap_nat (by omega)
    have m1 : IntKind.i64.wrap ((x1 : Int) * 131) = ((x1 * 131 : Nat) : Int) := wn (by omega) (by omega)
    have m2 : IntKind.i64.wrap ((x2 : Int) * 1117) = ((x2 * 1117 : Nat) : Int) := wn (by omega) (by omega)
    have m3 : IntKind.i64.wrap (((x1 * 131 : Nat) : Int) + ((x2 * 1117 : Nat) : Int)) = ((x1 * 131 + x2 * 1117 : Nat) : Int) := wn (by omega) (by omega)
    have m4 : IntKind.i64.wrap ((p : Int) * 29) = ((p * 29 : Nat) : Int) := wn (by omega) (by omega)
    have m5 : IntKind.i64.wrap (((x1 * 131 + x2 * 1117 : Nat) : Int) + ((p * 29 : Nat) : Int)) = ((x1 * 131 + x2 * 1117 + p * 29 : Nat) : Int) := wn (by omega) (by omega)
    have m6 : IntKind.i64.wrap ((q : Int) * 53) = ((q * 53 : Nat) : Int) := wn (by omega) (by omega)
    obtain ⟨X, hX⟩ : ∃ X, X = x1 * 131 + x2 * 1117 + p * 29 + q * 53 := ⟨_, rfl⟩
    have m7 : IntKind.i64.wrap (((x1 * 131 + x2 * 1117 + p * 29 : Nat) : Int) + ((q * 53 : Nat) : Int)) = (X : Int) := wn (by omega) (by omega)
    have t4 : (X : Int).tdiv 64 = ((X / 64 : Nat) : Int) := rfl
    have m8 : IntKind.i64.wrap ((X / 64 : Nat) : Int) = ((X / 64 : Nat) : Int) := wrap_nat (by omega)
    have s0 : ((64 : Int) = 0) = False := eq_false (by decide)
    obtain ⟨u, hu⟩ := xorN X (X / 64) (by omega) (by omega)
    obtain ⟨v, hv, hv2⟩ := tm u
    refine ⟨v, fun _ => hv2, fun h => absurd c1 h, ?_⟩
    refine AC_of Tryz.func36 rfl Tryz.ntmps36 Tryz.results36 (by kernel_rfl) rfl ?_
    simp only [List.zipIdx, List.map, Nat.zero_add, Nat.reduceAdd]
    repeat (first | apply Aw_seq | apply Aw_block | apply Aw_skip | apply Aw_exit | refine Aw_condt rfl ?_ | refine Aw_condf rfl ?_ | ((first | refine qr ?_ | refine qd (by kernel_rfl) (by kernel_rfl) ?_); simp only [go_sem, jE, reduceIte, jA, jM, jS, jL, jD, jB, w1, w2, g1, g2, gl, g3, t1, hx1, wx1, m1, e7, e73, t2, hx2, wx2, m2, m3, m4, m5, t3, wq, m6, m7, t4, m8, s0, gn]) | refine dk (by kernel_rfl) ?_)
    generalize hg : IntKind.i64.wrap ((BitVec.toNat _ : Nat) : Int) = w
    obtain rfl : w = (u : Int) := hg.symm.trans hu
    rw [hv]
    exact Aw_ret (retL (M := [0]) (.inl rfl) (by simp only [go_sem, jE, reduceIte, jA, jM, jS, jL, jD, jB]; first | done | rfl) rfl rfl (by rfl) (by simp only [go_sem, jE, reduceIte, jA, jM, jS, jL, jD, jB]; first | done | rfl | (and_intros <;> rfl)) (by decide) (by unfold idM; decide))
def putL (k : ByteArray) : List ByteArray → Bool → List ByteArray → Option (List ByteArray)
  | [], done, out => some (if done = true then out else out ++ [k])
  | x :: r, done, out => if x = k then none else putL k r (done || !klt x k) ((if (!done && !klt x k) = true then out ++ [k] else out) ++ [x])
def putK (ks : List ByteArray) (k : ByteArray) : List ByteArray := (putL k ks false []).getD ks
theorem putL_mem {k : ByteArray} : ∀ {xs : List ByteArray} {d : Bool} {out o : List ByteArray}, putL k xs d out = some o → (∀ y ∈ o, y ∈ out ∨ y ∈ xs ∨ y = k) ∧ o.length ≤ out.length + xs.length + (if d = true then 0 else 1)
  | [], d, out, o, h => by
    simp only [putL, Option.some.injEq] at h
    subst h
    cases d
    · exact ⟨fun y hy => by simp at hy; rcases hy with h | h; exact .inl h; exact .inr (.inr h), by simp⟩
    · exact ⟨fun y hy => .inl (by simpa using hy), by simp⟩
  | x :: r, d, out, o, h => by
    simp only [putL] at h
    split at h
    · cases h
    · obtain ⟨h1, h2⟩ := putL_mem h
      constructor
      · intro y hy
        rcases h1 y hy with h | h | h
        · rcases List.mem_append.1 h with h | h
          · split at h
            · rcases List.mem_append.1 h with h | h
              · exact .inl h
              · exact .inr (.inr (by simpa using h))
            · exact .inl h
          · exact .inr (.inl (by simp at h; simp [h]))
        · exact .inr (.inl (by simp [h]))
        · exact .inr (.inr h)
      · refine Nat.le_trans h2 ?_
        cases d <;> cases klt x k <;> simp <;> omega
@[go_sem] theorem d_ft2 (e k : Nat) (a : List (List D)) (x y : D) : (⟨e, k, true, List.map (fun x => List.map CV.d x) a ++ [[.d x], [.d y]]⟩ : Obj) = dRow e k (a ++ [[x], [y]]) := by simp [dRow]
theorem lenA {α : Type} {out : List α} {i : Nat} {k x : α} (h : out.length ≤ i + (if false = true then 1 else 0)) : (out ++ [k] ++ [x]).length ≤ i + 1 + (if true = true then 1 else 0) := by simp at h ⊢; omega
theorem lenB {α : Type} {out : List α} {i : Nat} {b : Bool} {x : α} (h : out.length ≤ i + (if b = true then 1 else 0)) : (out ++ [x]).length ≤ i + 1 + (if b = true then 1 else 0) := by cases b <;> simp at h ⊢ <;> omega
theorem lenC {α : Type} {out : List α} {i n : Nat} {b : Bool} (h : out.length ≤ i + (if b = true then 1 else 0)) (hi : i ≤ n) (hn : n ≤ 4000000) : (out.length + 1) * 16 ≤ 140737488355328 ∧ (out.length + 1 + 1) * 16 ≤ 140737488355328 := by cases b <;> simp at h <;> omega
structure PuI (ks : List ByteArray) (k : ByteArray) where
  i : Nat
  d : Bool
  out : List ByteArray
  hi : i ≤ ks.length
  hl : out.length ≤ i + (if d = true then 1 else 0)
  h : putL k (ks.drop i) d out = putL k ks false []
theorem l2Put_no (ks : List ByteArray) (k : ByteArray) (hl : ks.length ≤ 4000000) (h0 : putL k ks false [] = none) : AC Tryz.prog 152 [strsT ks, sT k] noHp 0 ⟨.t (strsT ks), noHp, 0⟩ := by
  refine AC_of Tryz.func152 rfl Tryz.ntmps152 Tryz.results152 (by kernel_rfl) rfl ?_
  simp only [List.zipIdx, List.map, Nat.zero_add, Nat.reduceAdd]
  repeat (first | apply Aw_seq | apply Aw_block | apply Aw_skip | apply Aw_exit | refine Aw_condt rfl ?_ | refine Aw_condf rfl ?_ | ((first | refine qr ?_ | refine qd (by kernel_rfl) (by kernel_rfl) ?_); simp only [go_sem, jE, reduceIte, jA, jM, jS, jL, jD, jB]) | refine dk (by kernel_rfl) ?_)
  refine Aw.rw (rwL (l' := [(7, .t (iT (0 : Nat))), (6, .t (bT false)), (5, .t (.c (.h 0))), (1, .t (sT k)), (0, .t (strsT ks))]) (os := [some (kRow [])]) (M := [1]) (n' := 1) (by repeat (first | exact trivial | refine ⟨rfl, rfl, ?_⟩)) (by rfl) (by simp only [go_sem, jE, reduceIte, jA, jM, jS, jL, jD, jB, List.map_nil]; first | done | rfl) (by decide) (by unfold idM; decide)) ?_
  refine Aw_loop_rw (ι := PuI ks k) (fun q => S [(7, .t (iT (q.i : Nat))), (6, .t (bT q.d)), (5, .t (.c (.h 0))), (1, .t (sT k)), (0, .t (strsT ks))] (hpL [some (kRow q.out)]) 1) (fun q => ks.length - q.i) ⟨0, false, [], Nat.zero_le _, by simp, rfl⟩ ?_
  rintro ⟨i, d, out, hi, hlo, h⟩
  dsimp only
  by_cases hlt : i < ks.length
  · have g1 : (i : Int) < (ks.length : Int) := by omega
    have w1 := wrap_succ hlt (by omega)
    obtain ⟨x, hx⟩ : ∃ e, ks[i]? = some e := ⟨_, List.getElem?_eq_getElem hlt⟩
    have hd : ks.drop i = x :: ks.drop (i + 1) := by rw [List.drop_eq_getElem_cons hlt]; congr 1; rw [List.getElem?_eq_getElem hlt] at hx; exact Option.some.inj hx
    obtain ⟨q1, q2⟩ := lenC hlo hi hl
    rw [hd] at h
    cases c1 : decide (x = k)
    · have hne := of_decide_eq_false c1
      simp only [putL, if_neg hne] at h
      cases d
      · cases c2 : klt x k
        · have h' : putL k (ks.drop (i + 1)) true (out ++ [k] ++ [x]) = putL k ks false [] := by rw [← h, c2]; rfl
          repeat (first | apply Aw_seq | apply Aw_block | apply Aw_skip | apply Aw_exit | refine Aw_condt rfl ?_ | refine Aw_condf rfl ?_ | ((first | refine qr ?_ | refine qd (by kernel_rfl) (by kernel_rfl) ?_); simp only [go_sem, jE, reduceIte, jA, jM, jS, jL, jD, jB, g1, w1, hx, c1, c2, q1, q2]) | refine dk (by kernel_rfl) ?_)
          refine ⟨⟨i + 1, true, out ++ [k] ++ [x], hlt, lenA hlo, h'⟩, [33], ?_, rwL (by repeat (first | exact trivial | refine ⟨rfl, rfl, ?_⟩)) (by rfl) (by simp only [go_sem, jE, reduceIte, jA, jM, jS, jL, jD, jB, List.map_append, List.map_cons, List.map_nil, List.append_assoc]; first | done | rfl) (by decide) (by unfold idM; decide)⟩
          show ks.length - (i + 1) < ks.length - i; omega
        · have h' : putL k (ks.drop (i + 1)) false (out ++ [x]) = putL k ks false [] := by rw [← h, c2]; rfl
          repeat (first | apply Aw_seq | apply Aw_block | apply Aw_skip | apply Aw_exit | refine Aw_condt rfl ?_ | refine Aw_condf rfl ?_ | ((first | refine qr ?_ | refine qd (by kernel_rfl) (by kernel_rfl) ?_); simp only [go_sem, jE, reduceIte, jA, jM, jS, jL, jD, jB, g1, w1, hx, c1, c2, q1]) | refine dk (by kernel_rfl) ?_)
          refine ⟨⟨i + 1, false, out ++ [x], hlt, lenB hlo, h'⟩, [27], ?_, rwL (by repeat (first | exact trivial | refine ⟨rfl, rfl, ?_⟩)) (by rfl) (by simp only [go_sem, jE, reduceIte, jA, jM, jS, jL, jD, jB, List.map_append, List.map_cons, List.map_nil]; first | done | rfl) (by decide) (by unfold idM; decide)⟩
          show ks.length - (i + 1) < ks.length - i; omega
      · have h' : putL k (ks.drop (i + 1)) true (out ++ [x]) = putL k ks false [] := by rw [← h]; cases klt x k <;> rfl
        repeat (first | apply Aw_seq | apply Aw_block | apply Aw_skip | apply Aw_exit | refine Aw_condt rfl ?_ | refine Aw_condf rfl ?_ | ((first | refine qr ?_ | refine qd (by kernel_rfl) (by kernel_rfl) ?_); simp only [go_sem, jE, reduceIte, jA, jM, jS, jL, jD, jB, g1, w1, hx, c1, q1]) | refine dk (by kernel_rfl) ?_)
        refine ⟨⟨i + 1, true, out ++ [x], hlt, lenB hlo, h'⟩, [21], ?_, rwL (by repeat (first | exact trivial | refine ⟨rfl, rfl, ?_⟩)) (by rfl) (by simp only [go_sem, jE, reduceIte, jA, jM, jS, jL, jD, jB, List.map_append, List.map_cons, List.map_nil]; first | done | rfl) (by decide) (by unfold idM; decide)⟩
        show ks.length - (i + 1) < ks.length - i; omega
    · repeat (first | apply Aw_seq | apply Aw_block | apply Aw_skip | apply Aw_exit | refine Aw_condt rfl ?_ | refine Aw_condf rfl ?_ | ((first | refine qr ?_ | refine qd (by kernel_rfl) (by kernel_rfl) ?_); simp only [go_sem, jE, reduceIte, jA, jM, jS, jL, jD, jB, g1, hx, c1]) | refine dk (by kernel_rfl) ?_)
      exact Aw_ret (ret0 (.inl rfl) (by simp only [go_sem, jE, reduceIte, jA, jM, jS, jL, jD, jB]; rfl) (by rfl) rfl)
  · have g1 : ¬ (i : Int) < (ks.length : Int) := by omega
    rw [List.drop_eq_nil_of_le (by omega), h0] at h
    simp [putL] at h
theorem l2Put_ok (ks o : List ByteArray) (k : ByteArray) (hl : ks.length ≤ 4000000) (h0 : putL k ks false [] = some o) : AC Tryz.prog 152 [strsT ks, sT k] noHp 0 ⟨.t (.c (.h 0)), hpL [some (kRow o)], 1⟩ := by
  refine AC_of Tryz.func152 rfl Tryz.ntmps152 Tryz.results152 (by kernel_rfl) rfl ?_
  simp only [List.zipIdx, List.map, Nat.zero_add, Nat.reduceAdd]
  repeat (first | apply Aw_seq | apply Aw_block | apply Aw_skip | apply Aw_exit | refine Aw_condt rfl ?_ | refine Aw_condf rfl ?_ | ((first | refine qr ?_ | refine qd (by kernel_rfl) (by kernel_rfl) ?_); simp only [go_sem, jE, reduceIte, jA, jM, jS, jL, jD, jB]) | refine dk (by kernel_rfl) ?_)
  refine Aw.rw (rwL (l' := [(7, .t (iT (0 : Nat))), (6, .t (bT false)), (5, .t (.c (.h 0))), (1, .t (sT k)), (0, .t (strsT ks))]) (os := [some (kRow [])]) (M := [1]) (n' := 1) (by repeat (first | exact trivial | refine ⟨rfl, rfl, ?_⟩)) (by rfl) (by simp only [go_sem, jE, reduceIte, jA, jM, jS, jL, jD, jB, List.map_nil]; first | done | rfl) (by decide) (by unfold idM; decide)) ?_
  refine Aw_loop_rw (ι := PuI ks k) (fun q => S [(7, .t (iT (q.i : Nat))), (6, .t (bT q.d)), (5, .t (.c (.h 0))), (1, .t (sT k)), (0, .t (strsT ks))] (hpL [some (kRow q.out)]) 1) (fun q => ks.length - q.i) ⟨0, false, [], Nat.zero_le _, by simp, rfl⟩ ?_
  rintro ⟨i, d, out, hi, hlo, h⟩
  dsimp only
  by_cases hlt : i < ks.length
  · have g1 : (i : Int) < (ks.length : Int) := by omega
    have w1 := wrap_succ hlt (by omega)
    obtain ⟨x, hx⟩ : ∃ e, ks[i]? = some e := ⟨_, List.getElem?_eq_getElem hlt⟩
    have hd : ks.drop i = x :: ks.drop (i + 1) := by rw [List.drop_eq_getElem_cons hlt]; congr 1; rw [List.getElem?_eq_getElem hlt] at hx; exact Option.some.inj hx
    obtain ⟨q1, q2⟩ := lenC hlo hi hl
    rw [hd] at h
    cases c1 : decide (x = k)
    · have hne := of_decide_eq_false c1
      simp only [putL, if_neg hne] at h
      cases d
      · cases c2 : klt x k
        · have h' : putL k (ks.drop (i + 1)) true (out ++ [k] ++ [x]) = putL k ks false [] := by rw [← h, c2]; rfl
          repeat (first | apply Aw_seq | apply Aw_block | apply Aw_skip | apply Aw_exit | refine Aw_condt rfl ?_ | refine Aw_condf rfl ?_ | ((first | refine qr ?_ | refine qd (by kernel_rfl) (by kernel_rfl) ?_); simp only [go_sem, jE, reduceIte, jA, jM, jS, jL, jD, jB, g1, w1, hx, c1, c2, q1, q2]) | refine dk (by kernel_rfl) ?_)
          refine ⟨⟨i + 1, true, out ++ [k] ++ [x], hlt, lenA hlo, h'⟩, [33], ?_, rwL (by repeat (first | exact trivial | refine ⟨rfl, rfl, ?_⟩)) (by rfl) (by simp only [go_sem, jE, reduceIte, jA, jM, jS, jL, jD, jB, List.map_append, List.map_cons, List.map_nil, List.append_assoc]; first | done | rfl) (by decide) (by unfold idM; decide)⟩
          show ks.length - (i + 1) < ks.length - i; omega
        · have h' : putL k (ks.drop (i + 1)) false (out ++ [x]) = putL k ks false [] := by rw [← h, c2]; rfl
          repeat (first | apply Aw_seq | apply Aw_block | apply Aw_skip | apply Aw_exit | refine Aw_condt rfl ?_ | refine Aw_condf rfl ?_ | ((first | refine qr ?_ | refine qd (by kernel_rfl) (by kernel_rfl) ?_); simp only [go_sem, jE, reduceIte, jA, jM, jS, jL, jD, jB, g1, w1, hx, c1, c2, q1]) | refine dk (by kernel_rfl) ?_)
          refine ⟨⟨i + 1, false, out ++ [x], hlt, lenB hlo, h'⟩, [27], ?_, rwL (by repeat (first | exact trivial | refine ⟨rfl, rfl, ?_⟩)) (by rfl) (by simp only [go_sem, jE, reduceIte, jA, jM, jS, jL, jD, jB, List.map_append, List.map_cons, List.map_nil]; first | done | rfl) (by decide) (by unfold idM; decide)⟩
          show ks.length - (i + 1) < ks.length - i; omega
      · have h' : putL k (ks.drop (i + 1)) true (out ++ [x]) = putL k ks false [] := by rw [← h]; cases klt x k <;> rfl
        repeat (first | apply Aw_seq | apply Aw_block | apply Aw_skip | apply Aw_exit | refine Aw_condt rfl ?_ | refine Aw_condf rfl ?_ | ((first | refine qr ?_ | refine qd (by kernel_rfl) (by kernel_rfl) ?_); simp only [go_sem, jE, reduceIte, jA, jM, jS, jL, jD, jB, g1, w1, hx, c1, q1]) | refine dk (by kernel_rfl) ?_)
        refine ⟨⟨i + 1, true, out ++ [x], hlt, lenB hlo, h'⟩, [21], ?_, rwL (by repeat (first | exact trivial | refine ⟨rfl, rfl, ?_⟩)) (by rfl) (by simp only [go_sem, jE, reduceIte, jA, jM, jS, jL, jD, jB, List.map_append, List.map_cons, List.map_nil]; first | done | rfl) (by decide) (by unfold idM; decide)⟩
        show ks.length - (i + 1) < ks.length - i; omega
    · rw [h0] at h
      simp [putL, of_decide_eq_true c1] at h
  · have g1 : ¬ (i : Int) < (ks.length : Int) := by omega
    obtain ⟨q1, q2⟩ := lenC hlo hi hl
    rw [List.drop_eq_nil_of_le (by omega), h0] at h
    cases d
    · have ho : o = out ++ [k] := by simpa [putL] using h.symm
      subst ho
      repeat (first | apply Aw_seq | apply Aw_block | apply Aw_skip | apply Aw_exit | refine Aw_condt rfl ?_ | refine Aw_condf rfl ?_ | ((first | refine qr ?_ | refine qd (by kernel_rfl) (by kernel_rfl) ?_); simp only [go_sem, jE, reduceIte, jA, jM, jS, jL, jD, jB, g1, q1]) | refine dk (by kernel_rfl) ?_)
      exact Aw_ret (retL (M := [10]) (.inl rfl) (by simp only [go_sem, jE, reduceIte, jA, jM, jS, jL, jD, jB]; first | done | rfl) rfl rfl (by rfl) (by simp only [go_sem, jE, reduceIte, jA, jM, jS, jL, jD, jB, List.map_append, List.map_cons, List.map_nil]; first | done | rfl | (and_intros <;> rfl)) (by decide) (by unfold idM; decide))
    · have ho : o = out := by simpa [putL] using h.symm
      subst ho
      repeat (first | apply Aw_seq | apply Aw_block | apply Aw_skip | apply Aw_exit | refine Aw_condt rfl ?_ | refine Aw_condf rfl ?_ | ((first | refine qr ?_ | refine qd (by kernel_rfl) (by kernel_rfl) ?_); simp only [go_sem, jE, reduceIte, jA, jM, jS, jL, jD, jB, g1]) | refine dk (by kernel_rfl) ?_)
      exact Aw_ret (retL (M := [0]) (.inl rfl) (by simp only [go_sem, jE, reduceIte, jA, jM, jS, jL, jD, jB]; first | done | rfl) rfl rfl (by rfl) (by simp only [go_sem, jE, reduceIte, jA, jM, jS, jL, jD, jB]; first | done | rfl | (and_intros <;> rfl)) (by decide) (by unfold idM; decide))
theorem l2Put_ac (ks : List ByteArray) (k : ByteArray) (hl : ks.length ≤ 4000000) : AC Tryz.prog 152 [strsT ks, sT k] noHp 0 ⟨.t (strsT (putK ks k)), noHp, 0⟩ := by
  unfold putK
  cases h : putL k ks false [] with
  | none => exact l2Put_no ks k hl h
  | some o => exact AC.settle0 [0] (l2Put_ok ks o k hl h) (SetC.row0 rfl rfl) rfl
theorem putK_mem {ks : List ByteArray} {k : ByteArray} : (∀ y ∈ putK ks k, y ∈ ks ∨ y = k) ∧ (putK ks k).length ≤ ks.length + 1 := by
  unfold putK
  cases h : putL k ks false [] with
  | none => exact ⟨fun y hy => .inl hy, by simp⟩
  | some o =>
    obtain ⟨h1, h2⟩ := putL_mem h
    exact ⟨fun y hy => by rcases h1 y hy with h | h | h; simp at h; exact .inl h; exact .inr h, by simpa using h2⟩

open Classical in
noncomputable def pickV (b : List Int) (p : Nat) (n : Int) : Nat := if h : byteL b ∧ p ≤ 1000000 ∧ n ≤ 1099511627776 then Classical.choose (pick_ac b p n h.1 h.2.1 h.2.2) else 0
theorem pickV_ac {b : List Int} {p : Nat} {n : Int} (hb : byteL b) (hp : p ≤ 1000000) (hn : n ≤ 1099511627776) : AC Tryz.prog 36 [.c (.ph 0 0 0), iT n] (hpL [some (rdO b p)]) 1 ⟨.t (iT (pickV b p n)), hpL [some (rdO b (p + 1))], 1⟩ := by
  unfold pickV
  rw [dif_pos ⟨hb, hp, hn⟩]
  exact (Classical.choose_spec (pick_ac b p n hb hp hn)).2.2
theorem pickV_lt {b : List Int} {p : Nat} {n : Int} (hb : byteL b) (hp : p ≤ 1000000) (hn : n ≤ 1099511627776) (h1 : 1 ≤ n) : (pickV b p n : Int) < n := by
  unfold pickV
  rw [dif_pos ⟨hb, hp, hn⟩]
  exact (Classical.choose_spec (pick_ac b p n hb hp hn)).1 h1
noncomputable def ofV (b : List Int) (p : Nat) (l : List ByteArray) : ByteArray := l.getD (pickV b p (l.length : Int)) zs
theorem ofV_at {b : List Int} {p : Nat} {l : List ByteArray} (hb : byteL b) (hp : p ≤ 1000000) (h0 : 0 < l.length) (h1 : l.length ≤ 10000) : l[pickV b p (l.length : Int)]? = some (ofV b p l) := by
  have := pickV_lt (n := (l.length : Int)) hb hp (by omega) (by omega)
  unfold ofV
  rw [List.getD_eq_getElem?_getD, List.getElem?_eq_getElem (by omega)]; rfl
theorem of_ac {b : List Int} {p : Nat} {l : List ByteArray} (hb : byteL b) (hp : p ≤ 1000000) (h0 : 0 < l.length) (h1 : l.length ≤ 10000) : AC Tryz.prog 140 [.c (.ph 0 0 0), .c (.h 1)] (hpL [some (rdO b p), some (kRow l)]) 2 ⟨.t (sT (ofV b p l)), hpL [some (rdO b (p + 1)), none], 2⟩ := by
  refine AC_of Tryz.func140 rfl Tryz.ntmps140 Tryz.results140 (by kernel_rfl) rfl ?_
  simp only [List.zipIdx, List.map, Nat.zero_add, Nat.reduceAdd]
  have k := pickV_ac (n := (l.length : Int)) hb hp (by omega)
  have hx := ofV_at hb hp h0 h1
  have hlt := (List.getElem?_eq_some_iff.1 hx).1
  repeat (first | apply Aw_seq | apply Aw_block | apply Aw_skip | apply Aw_exit | refine Aw_condt rfl ?_ | refine Aw_condf rfl ?_ | ((first | refine qr ?_ | refine qd (by kernel_rfl) (by kernel_rfl) ?_); simp only [go_sem, jE, reduceIte, jA, jM, jS, jL, jD, jB, hx, hlt]) | refine dk (by kernel_rfl) ?_ | (refine qx (call_L (N' := [0]) (L := []) (k) rfl (.cons (.nm rfl) (.cons (.nm rfl) (.nil))) (by decide) (by decide) (by decide) (by simp only [go_sem, jE, reduceIte, jA, jM, jS, jL, jD, jB, hx, hlt]; first | done | rfl) (.inl rfl) rfl (by decide)) (by simp only [go_sem, jE, reduceIte, jA, jM, jS, jL, jD, jB, hx, hlt]; first | done | rfl) rfl (by simp only [go_sem, Nat.reduceLT]) ?_; simp only [go_sem, jE, reduceIte, jA, jM, jS, jL, jD, jB, hx, hlt]))
  exact Aw_ret (retL (M := [0, 1]) (.inl rfl) (by simp only [go_sem, jE, reduceIte, jA, jM, jS, jL, jD, jB]; first | done | rfl) rfl rfl (by rfl) (by simp only [go_sem, jE, reduceIte, jA, jM, jS, jL, jD, jB]; first | done | rfl | (and_intros <;> rfl)) (by decide) (by unfold idM; decide))
@[go_sem] theorem d_five (e k : Nat) (a b c d f : D) : (⟨e, k, true, [[.d a], [.d b], [.d c], [.d d], [.d f]]⟩ : Obj) = dRow e k [[a], [b], [c], [d], [f]] := rfl
@[go_sem] theorem d_three (e k : Nat) (a b c : D) : (⟨e, k, true, [[.d a], [.d b], [.d c]]⟩ : Obj) = dRow e k [[a], [b], [c]] := rfl
def five : List ByteArray := [bs [97], bs [98], bs [97], bs [99], bs [100]]
def three : List ByteArray := [bs [97], bs [98], bs [100]]
theorem ofV_mem {b : List Int} {p : Nat} {l : List ByteArray} (hb : byteL b) (hp : p ≤ 1000000) (h0 : 0 < l.length) (h1 : l.length ≤ 10000) : ofV b p l ∈ l := List.mem_of_getElem? (ofV_at hb hp h0 h1)
theorem five_size {s : ByteArray} (h : s ∈ five) : s.size = 1 := by
  have : five.all (fun s => s.size == 1) = true := rfl
  simpa using List.all_eq_true.1 this s h
theorem three_size {s : ByteArray} (h : s ∈ three) : s.size = 1 := by
  have : three.all (fun s => s.size == 1) = true := rfl
  simpa using List.all_eq_true.1 this s h
noncomputable def keyL (b : List Int) : Nat → ByteArray → Nat → ByteArray × Nat
  | 0, s, p => (s, p)
  | n + 1, s, p => keyL b n (s ++ ofV b p five) (p + 1)
noncomputable def keyV (b : List Int) (p : Nat) : ByteArray × Nat := keyL b (pickV b p 6) zs (p + 1)
theorem keyL_fin {b : List Int} (hb : byteL b) : ∀ (n : Nat) (s : ByteArray) (p : Nat), p + n ≤ 1000000 → (keyL b n s p).1.size = s.size + n ∧ (keyL b n s p).2 = p + n
  | 0, s, p, _ => ⟨rfl, rfl⟩
  | n + 1, s, p, h => by
    have h1 := five_size (ofV_mem (l := five) hb (show p ≤ 1000000 by omega) (by decide) (by decide))
    obtain ⟨h2, h3⟩ := keyL_fin hb n (s ++ ofV b p five) (p + 1) (by omega)
    have e : (s ++ ofV b p five).size = s.size + 1 := by rw [ByteArray.size_append, h1]
    exact ⟨by simp only [keyL]; rw [h2, e]; omega, by simp only [keyL]; rw [h3]; omega⟩
theorem keyV_fin {b : List Int} (hb : byteL b) {p : Nat} (hp : p ≤ 900000) : (keyV b p).1.size ≤ 5 ∧ (keyV b p).2 ≤ p + 6 := by
  have h := pickV_lt (n := 6) hb (show p ≤ 1000000 by omega) (by omega) (by omega)
  obtain ⟨h1, h2⟩ := keyL_fin hb (pickV b p 6) zs (p + 1) (by omega)
  have z : zs.size = 0 := rfl
  unfold keyV
  rw [h1, h2, z]
  constructor <;> omega
structure KyI (b : List Int) (p0 : Nat) where
  n : Nat
  s : ByteArray
  p : Nat
  hn : n ≤ 5
  hs : s.size + n ≤ 100
  hp : p + n ≤ 1000000
  h : keyL b n s p = keyV b p0
theorem l71Key_ac {b : List Int} {p : Nat} (hb : byteL b) (hp : p ≤ 900000) : AC Tryz.prog 139 [.c (.ph 0 0 0)] (hpL [some (rdO b p)]) 1 ⟨.t (sT (keyV b p).1), hpL [some (rdO b (keyV b p).2)], 1⟩ := by
  refine AC_of Tryz.func139 rfl Tryz.ntmps139 Tryz.results139 (by kernel_rfl) rfl ?_
  simp only [List.zipIdx, List.map, Nat.zero_add, Nat.reduceAdd]
  have k := pickV_ac (n := 6) hb (show p ≤ 1000000 by omega) (by omega)
  have h6 := pickV_lt (n := 6) hb (show p ≤ 1000000 by omega) (by omega) (by omega)
  repeat (first | apply Aw_seq | apply Aw_block | apply Aw_skip | apply Aw_exit | refine Aw_condt rfl ?_ | refine Aw_condf rfl ?_ | ((first | refine qr ?_ | refine qd (by kernel_rfl) (by kernel_rfl) ?_); simp only [go_sem, jE, reduceIte, jA, jM, jS, jL, jD, jB]) | refine dk (by kernel_rfl) ?_ | (refine qx (call_L (N' := [0]) (L := []) (k) rfl (.cons (.nm rfl) (.cons (.nm rfl) (.nil))) (by decide) (by decide) (by decide) (by simp only [go_sem, jE, reduceIte, jA, jM, jS, jL, jD, jB]; first | done | rfl) (.inl rfl) rfl (by decide)) (by simp only [go_sem, jE, reduceIte, jA, jM, jS, jL, jD, jB]; first | done | rfl) rfl (by simp only [go_sem, Nat.reduceLT]) ?_; simp only [go_sem, jE, reduceIte, jA, jM, jS, jL, jD, jB]))
  refine Aw.rw (rwL (l' := [(4, .t (iT (pickV b p 6 : Nat))), (3, .t (sT zs)), (0, .t (.c (.ph 0 0 0)))]) (os := [some (rdO b (p + 1))]) (M := [0]) (n' := 1) (by repeat (first | exact trivial | refine ⟨rfl, rfl, ?_⟩)) (by rfl) (by simp only [go_sem, jE, reduceIte, jA, jM, jS, jL, jD, jB]; first | done | rfl) (by decide) (by unfold idM; decide)) ?_
  refine Aw_loop_rw (ι := KyI b p) (fun q => S [(4, .t (iT (q.n : Nat))), (3, .t (sT q.s)), (0, .t (.c (.ph 0 0 0)))] (hpL [some (rdO b q.p)]) 1) (fun q => q.n) ⟨pickV b p 6, zs, p + 1, by omega, by show 0 + _ ≤ _; omega, by omega, rfl⟩ ?_
  rintro ⟨n, s, q, hn, hs, hq, h⟩
  dsimp only
  rcases n with _ | n
  · have g1 : decide ((0 : Int) < ((0 : Nat) : Int)) = false := rfl
    rw [← h]
    repeat (first | apply Aw_seq | apply Aw_block | apply Aw_skip | apply Aw_exit | refine Aw_condt rfl ?_ | refine Aw_condf rfl ?_ | ((first | refine qr ?_ | refine qd (by kernel_rfl) (by kernel_rfl) ?_); simp only [go_sem, jE, reduceIte, jA, jM, jS, jL, jD, jB, g1]) | refine dk (by kernel_rfl) ?_)
    exact Aw_ret (retL (M := [0]) (.inl rfl) (by simp only [go_sem, jE, reduceIte, jA, jM, jS, jL, jD, jB]; first | done | rfl) rfl rfl (by rfl) (by simp only [go_sem, jE, reduceIte, jA, jM, jS, jL, jD, jB, keyL]; first | done | rfl | (and_intros <;> rfl)) (by decide) (by unfold idM; decide))
  · have g1 : decide ((0 : Int) < ((n + 1 : Nat) : Int)) = true := decide_eq_true (by omega)
    have w1 : IntKind.i64.wrap (((n + 1 : Nat) : Int) - 1) = (n : Int) := wn (by omega) (by omega)
    have ko : AC Tryz.prog 140 [.c (.ph 0 0 0), .c (.h 1)] (hpL [some (rdO b q), some (kRow [bs [97], bs [98], bs [97], bs [99], bs [100]])]) 2 ⟨.t (sT (ofV b q five)), hpL [some (rdO b (q + 1)), none], 2⟩ := of_ac (l := five) hb (show q ≤ 1000000 by omega) (by decide) (by decide)
    have e5 := five_size (ofV_mem (l := five) hb (show q ≤ 1000000 by omega) (by decide) (by decide))
    have gs : (s.size + (ofV b q five).size ≤ 9223372036854775807) = True := eq_true (by rw [e5]; omega)
    have hs2 : (s ++ ofV b q five).size = s.size + 1 := by rw [ByteArray.size_append, e5]
    repeat (first | apply Aw_seq | apply Aw_block | apply Aw_skip | apply Aw_exit | refine Aw_condt rfl ?_ | refine Aw_condf rfl ?_ | ((first | refine qr ?_ | refine qd (by kernel_rfl) (by kernel_rfl) ?_); simp only [go_sem, jE, reduceIte, jA, jM, jS, jL, jD, jB, g1, w1, gs]) | refine dk (by kernel_rfl) ?_ | (refine qx (call_L (N' := [0, 5]) (L := []) (ko) rfl (.cons (.nm rfl) (.cons (.nm rfl) (.nil))) (by decide) (by decide) (by decide) (by simp only [go_sem, jE, reduceIte, jA, jM, jS, jL, jD, jB, g1, w1, gs]; first | done | rfl) (.inl rfl) rfl (by decide)) (by simp only [go_sem, jE, reduceIte, jA, jM, jS, jL, jD, jB, g1, w1, gs]; first | done | rfl) rfl (by simp only [go_sem, Nat.reduceLT]) ?_; simp only [go_sem, jE, reduceIte, jA, jM, jS, jL, jD, jB, g1, w1, gs]))
    refine ⟨⟨n, s ++ ofV b q five, q + 1, by omega, by rw [hs2]; omega, by omega, h⟩, [0], ?_, rwL (by repeat (first | exact trivial | refine ⟨rfl, rfl, ?_⟩)) (by rfl) (by simp only [go_sem, jE, reduceIte, jA, jM, jS, jL, jD, jB]; first | done | rfl) (by decide) (by unfold idM; decide)⟩
    show n < n + 1; omega
noncomputable def nearV (b : List Int) (p : Nat) (l : List ByteArray) : ByteArray × Nat :=
  if l.length = 0 then keyV b p else if pickV b p 4 = 0 then keyV b (p + 1) else
    let k := ofV b (p + 1) l
    if pickV b (p + 2) 4 = 0 then (k.extract 0 (pickV b (p + 3) ((k.size + 1 : Nat) : Int)), p + 4)
    else if pickV b (p + 2) 4 = 1 then (if k.size < 5 then (k ++ ofV b (p + 3) three, p + 4) else (k, p + 3)) else (k, p + 3)
theorem nearV_fin {b : List Int} (hb : byteL b) {p K : Nat} {l : List ByteArray} (hp : p ≤ 800000) (hl : l.length ≤ 10000) (hK : 5 ≤ K) (hs : ∀ s ∈ l, s.size ≤ K) : (nearV b p l).1.size ≤ K ∧ (nearV b p l).2 ≤ p + 7 := by
  unfold nearV
  split
  · have := keyV_fin hb (show p ≤ 900000 by omega); omega
  split
  · have := keyV_fin hb (show p + 1 ≤ 900000 by omega); omega
  have hk := hs _ (ofV_mem (l := l) hb (show p + 1 ≤ 1000000 by omega) (by omega) hl)
  dsimp only
  split
  · exact ⟨by rw [ByteArray.size_extract]; omega, by dsimp only; omega⟩
  split
  · split
    · have h3 := three_size (ofV_mem (l := three) hb (show p + 3 ≤ 1000000 by omega) (by decide) (by decide))
      exact ⟨by rw [ByteArray.size_append, h3]; omega, by dsimp only; omega⟩
    · exact ⟨hk, by dsimp only; omega⟩
  · exact ⟨hk, by dsimp only; omega⟩
theorem l71Near_ac {b : List Int} {p : Nat} {l : List ByteArray} (hb : byteL b) (hp : p ≤ 800000) (hl : l.length ≤ 10000) (hs : ∀ s ∈ l, s.size ≤ 1000000) : AC Tryz.prog 90 [.c (.ph 0 0 0), strsT l] (hpL [some (rdO b p)]) 1 ⟨.t (sT (nearV b p l).1), hpL [some (rdO b (nearV b p l).2)], 1⟩ := by
  by_cases c0 : l.length = 0
  · have e : nearV b p l = keyV b p := by unfold nearV; rw [if_pos c0]
    have g0 : decide (((l.length : Nat) : Int) = 0) = true := decide_eq_true (by omega)
    have kk := l71Key_ac hb (show p ≤ 900000 by omega)
    rw [e]
    refine AC_of Tryz.func90 rfl Tryz.ntmps90 Tryz.results90 (by kernel_rfl) rfl ?_
    simp only [List.zipIdx, List.map, Nat.zero_add, Nat.reduceAdd]
    repeat (first | apply Aw_seq | apply Aw_block | apply Aw_skip | apply Aw_exit | refine Aw_condt rfl ?_ | refine Aw_condf rfl ?_ | ((first | refine qr ?_ | refine qd (by kernel_rfl) (by kernel_rfl) ?_); simp only [go_sem, jE, reduceIte, jA, jM, jS, jL, jD, jB, g0]) | refine dk (by kernel_rfl) ?_ | (refine qx (call_L (N' := [0]) (L := []) (kk) rfl (.cons (.nm rfl) (.nil)) (by decide) (by decide) (by decide) (by simp only [go_sem, jE, reduceIte, jA, jM, jS, jL, jD, jB, g0]; first | done | rfl) (.inl rfl) rfl (by decide)) (by simp only [go_sem, jE, reduceIte, jA, jM, jS, jL, jD, jB, g0]; first | done | rfl) rfl (by simp only [go_sem, Nat.reduceLT]) ?_; simp only [go_sem, jE, reduceIte, jA, jM, jS, jL, jD, jB, g0]))
    exact Aw_ret (retL (M := [0]) (.inl rfl) (by simp only [go_sem, jE, reduceIte, jA, jM, jS, jL, jD, jB]; first | done | rfl) rfl rfl (by rfl) (by simp only [go_sem, jE, reduceIte, jA, jM, jS, jL, jD, jB]; first | done | rfl | (and_intros <;> rfl)) (by decide) (by unfold idM; decide))
  have g0 : decide (((l.length : Nat) : Int) = 0) = false := decide_eq_false (by omega)
  have k1 := pickV_ac (n := 4) hb (show p ≤ 1000000 by omega) (by omega)
  by_cases c1 : pickV b p 4 = 0
  · have e : nearV b p l = keyV b (p + 1) := by unfold nearV; rw [if_neg c0, if_pos c1]
    have kk := l71Key_ac hb (show p + 1 ≤ 900000 by omega)
    have g1 : decide (((pickV b p 4 : Nat) : Int) = 0) = true := decide_eq_true (by omega)
    rw [e]
    refine AC_of Tryz.func90 rfl Tryz.ntmps90 Tryz.results90 (by kernel_rfl) rfl ?_
    simp only [List.zipIdx, List.map, Nat.zero_add, Nat.reduceAdd]
    repeat (first | apply Aw_seq | apply Aw_block | apply Aw_skip | apply Aw_exit | refine Aw_condt rfl ?_ | refine Aw_condf rfl ?_ | ((first | refine qr ?_ | refine qd (by kernel_rfl) (by kernel_rfl) ?_); simp only [go_sem, jE, reduceIte, jA, jM, jS, jL, jD, jB, g0, g1]) | refine dk (by kernel_rfl) ?_ | (refine qx (call_L (N' := [0]) (L := []) (k1) rfl (.cons (.nm rfl) (.cons (.nm rfl) (.nil))) (by decide) (by decide) (by decide) (by simp only [go_sem, jE, reduceIte, jA, jM, jS, jL, jD, jB, g0, g1]; first | done | rfl) (.inl rfl) rfl (by decide)) (by simp only [go_sem, jE, reduceIte, jA, jM, jS, jL, jD, jB, g0, g1]; first | done | rfl) rfl (by simp only [go_sem, Nat.reduceLT]) ?_; simp only [go_sem, jE, reduceIte, jA, jM, jS, jL, jD, jB, g0, g1]) | (refine qx (call_L (N' := [0]) (L := []) (kk) rfl (.cons (.nm rfl) (.nil)) (by decide) (by decide) (by decide) (by simp only [go_sem, jE, reduceIte, jA, jM, jS, jL, jD, jB, g0, g1]; first | done | rfl) (.inl rfl) rfl (by decide)) (by simp only [go_sem, jE, reduceIte, jA, jM, jS, jL, jD, jB, g0, g1]; first | done | rfl) rfl (by simp only [go_sem, Nat.reduceLT]) ?_; simp only [go_sem, jE, reduceIte, jA, jM, jS, jL, jD, jB, g0, g1]))
    exact Aw_ret (retL (M := [0]) (.inl rfl) (by simp only [go_sem, jE, reduceIte, jA, jM, jS, jL, jD, jB]; first | done | rfl) rfl rfl (by rfl) (by simp only [go_sem, jE, reduceIte, jA, jM, jS, jL, jD, jB]; first | done | rfl | (and_intros <;> rfl)) (by decide) (by unfold idM; decide))
  have g1 : decide (((pickV b p 4 : Nat) : Int) = 0) = false := decide_eq_false (by omega)
  have k2 := pickV_ac (n := (l.length : Int)) hb (show p + 1 ≤ 1000000 by omega) (by omega)
  have k3 := pickV_ac (n := 4) hb (show p + 1 + 1 ≤ 1000000 by omega) (by omega)
  have hx := ofV_at hb (show p + 1 ≤ 1000000 by omega) (show 0 < l.length by omega) hl
  obtain ⟨k, hk⟩ : ∃ k, k = ofV b (p + 1) l := ⟨_, rfl⟩
  rw [← hk] at hx
  have hks := hs k (List.mem_of_getElem? hx)
  by_cases c2 : pickV b (p + 1 + 1) 4 = 0
  · have e : nearV b p l = (k.extract 0 (pickV b (p + 1 + 1 + 1) ((k.size + 1 : Nat) : Int)), p + 4) := by unfold nearV; rw [if_neg c0, if_neg c1]; dsimp only; rw [if_pos c2, ← hk]
    have g2 : decide (((pickV b (p + 1 + 1) 4 : Nat) : Int) = 0) = true := decide_eq_true (by omega)
    have w1 : IntKind.i64.wrap ((k.size : Int) + 1) = ((k.size + 1 : Nat) : Int) := wn (by omega) (by omega)
    have k4 := pickV_ac (n := ((k.size + 1 : Nat) : Int)) hb (show p + 1 + 1 + 1 ≤ 1000000 by omega) (by omega)
    have h4 := pickV_lt (n := ((k.size + 1 : Nat) : Int)) hb (show p + 1 + 1 + 1 ≤ 1000000 by omega) (by omega) (by omega)
    have s1 : ((0 : Int) ≤ ((pickV b (p + 1 + 1 + 1) ((k.size + 1 : Nat) : Int) : Nat) : Int)) = True := eq_true (by omega)
    have s2 : (((pickV b (p + 1 + 1 + 1) ((k.size + 1 : Nat) : Int) : Nat) : Int) ≤ (k.size : Int)) = True := eq_true (by omega)
    have s3 : Int.toNat ((pickV b (p + 1 + 1 + 1) ((k.size + 1 : Nat) : Int) : Nat) : Int) = pickV b (p + 1 + 1 + 1) ((k.size + 1 : Nat) : Int) := rfl
    have s4 : Int.toNat 0 = 0 := rfl
    rw [e]
    refine AC_of Tryz.func90 rfl Tryz.ntmps90 Tryz.results90 (by kernel_rfl) rfl ?_
    simp only [List.zipIdx, List.map, Nat.zero_add, Nat.reduceAdd]
    repeat (first | apply Aw_seq | apply Aw_block | apply Aw_skip | apply Aw_exit | refine Aw_condt rfl ?_ | refine Aw_condf rfl ?_ | ((first | refine qr ?_ | refine qd (by kernel_rfl) (by kernel_rfl) ?_); simp only [go_sem, jE, reduceIte, jA, jM, jS, jL, jD, jB, g0, g1, hx, g2, w1, s1, s2, s3, s4]) | refine dk (by kernel_rfl) ?_ | (refine qx (call_L (N' := [0]) (L := []) (k1) rfl (.cons (.nm rfl) (.cons (.nm rfl) (.nil))) (by decide) (by decide) (by decide) (by simp only [go_sem, jE, reduceIte, jA, jM, jS, jL, jD, jB, g0, g1, hx, g2, w1, s1, s2, s3, s4]; first | done | rfl) (.inl rfl) rfl (by decide)) (by simp only [go_sem, jE, reduceIte, jA, jM, jS, jL, jD, jB, g0, g1, hx, g2, w1, s1, s2, s3, s4]; first | done | rfl) rfl (by simp only [go_sem, Nat.reduceLT]) ?_; simp only [go_sem, jE, reduceIte, jA, jM, jS, jL, jD, jB, g0, g1, hx, g2, w1, s1, s2, s3, s4]) | (refine qx (call_L (N' := [0]) (L := []) (k2) rfl (.cons (.nm rfl) (.cons (.nm rfl) (.nil))) (by decide) (by decide) (by decide) (by simp only [go_sem, jE, reduceIte, jA, jM, jS, jL, jD, jB, g0, g1, hx, g2, w1, s1, s2, s3, s4]; first | done | rfl) (.inl rfl) rfl (by decide)) (by simp only [go_sem, jE, reduceIte, jA, jM, jS, jL, jD, jB, g0, g1, hx, g2, w1, s1, s2, s3, s4]; first | done | rfl) rfl (by simp only [go_sem, Nat.reduceLT]) ?_; simp only [go_sem, jE, reduceIte, jA, jM, jS, jL, jD, jB, g0, g1, hx, g2, w1, s1, s2, s3, s4]) | (refine qx (call_L (N' := [0]) (L := []) (k3) rfl (.cons (.nm rfl) (.cons (.nm rfl) (.nil))) (by decide) (by decide) (by decide) (by simp only [go_sem, jE, reduceIte, jA, jM, jS, jL, jD, jB, g0, g1, hx, g2, w1, s1, s2, s3, s4]; first | done | rfl) (.inl rfl) rfl (by decide)) (by simp only [go_sem, jE, reduceIte, jA, jM, jS, jL, jD, jB, g0, g1, hx, g2, w1, s1, s2, s3, s4]; first | done | rfl) rfl (by simp only [go_sem, Nat.reduceLT]) ?_; simp only [go_sem, jE, reduceIte, jA, jM, jS, jL, jD, jB, g0, g1, hx, g2, w1, s1, s2, s3, s4]) | (refine qx (call_L (N' := [0]) (L := []) (k4) rfl (.cons (.nm rfl) (.cons (.nm rfl) (.nil))) (by decide) (by decide) (by decide) (by simp only [go_sem, jE, reduceIte, jA, jM, jS, jL, jD, jB, g0, g1, hx, g2, w1, s1, s2, s3, s4]; first | done | rfl) (.inl rfl) rfl (by decide)) (by simp only [go_sem, jE, reduceIte, jA, jM, jS, jL, jD, jB, g0, g1, hx, g2, w1, s1, s2, s3, s4]; first | done | rfl) rfl (by simp only [go_sem, Nat.reduceLT]) ?_; simp only [go_sem, jE, reduceIte, jA, jM, jS, jL, jD, jB, g0, g1, hx, g2, w1, s1, s2, s3, s4]))
    exact Aw_ret (retL (M := [0]) (.inl rfl) (by simp only [go_sem, jE, reduceIte, jA, jM, jS, jL, jD, jB]; first | done | rfl) rfl rfl (by rfl) (by simp only [go_sem, jE, reduceIte, jA, jM, jS, jL, jD, jB]; first | done | rfl | (and_intros <;> rfl)) (by decide) (by unfold idM; decide))
  have g2 : decide (((pickV b (p + 1 + 1) 4 : Nat) : Int) = 0) = false := decide_eq_false (by omega)
  by_cases c3 : pickV b (p + 1 + 1) 4 = 1
  · have g3 : decide (((pickV b (p + 1 + 1) 4 : Nat) : Int) = 1) = true := decide_eq_true (by omega)
    by_cases c4 : k.size < 5
    · have e : nearV b p l = (k ++ ofV b (p + 1 + 1 + 1) three, p + 4) := by unfold nearV; rw [if_neg c0, if_neg c1]; dsimp only; rw [if_neg c2, if_pos c3, ← hk, if_pos c4]
      have g4 : decide ((k.size : Int) < 5) = true := decide_eq_true (by omega)
      have e3 := three_size (ofV_mem (l := three) hb (show p + 1 + 1 + 1 ≤ 1000000 by omega) (by decide) (by decide))
      have gs : (k.size + (ofV b (p + 1 + 1 + 1) three).size ≤ 9223372036854775807) = True := eq_true (by rw [e3]; omega)
      have ko : AC Tryz.prog 140 [.c (.ph 0 0 0), .c (.h 1)] (hpL [some (rdO b (p + 1 + 1 + 1)), some (kRow [bs [97], bs [98], bs [100]])]) 2 ⟨.t (sT (ofV b (p + 1 + 1 + 1) three)), hpL [some (rdO b (p + 1 + 1 + 1 + 1)), none], 2⟩ := of_ac (l := three) hb (show p + 1 + 1 + 1 ≤ 1000000 by omega) (by decide) (by decide)
      rw [e]
      refine AC_of Tryz.func90 rfl Tryz.ntmps90 Tryz.results90 (by kernel_rfl) rfl ?_
      simp only [List.zipIdx, List.map, Nat.zero_add, Nat.reduceAdd]
      repeat (first | apply Aw_seq | apply Aw_block | apply Aw_skip | apply Aw_exit | refine Aw_condt rfl ?_ | refine Aw_condf rfl ?_ | ((first | refine qr ?_ | refine qd (by kernel_rfl) (by kernel_rfl) ?_); simp only [go_sem, jE, reduceIte, jA, jM, jS, jL, jD, jB, g0, g1, hx, g2, g3, g4, gs]) | refine dk (by kernel_rfl) ?_ | (refine qx (call_L (N' := [0]) (L := []) (k1) rfl (.cons (.nm rfl) (.cons (.nm rfl) (.nil))) (by decide) (by decide) (by decide) (by simp only [go_sem, jE, reduceIte, jA, jM, jS, jL, jD, jB, g0, g1, hx, g2, g3, g4, gs]; first | done | rfl) (.inl rfl) rfl (by decide)) (by simp only [go_sem, jE, reduceIte, jA, jM, jS, jL, jD, jB, g0, g1, hx, g2, g3, g4, gs]; first | done | rfl) rfl (by simp only [go_sem, Nat.reduceLT]) ?_; simp only [go_sem, jE, reduceIte, jA, jM, jS, jL, jD, jB, g0, g1, hx, g2, g3, g4, gs]) | (refine qx (call_L (N' := [0]) (L := []) (k2) rfl (.cons (.nm rfl) (.cons (.nm rfl) (.nil))) (by decide) (by decide) (by decide) (by simp only [go_sem, jE, reduceIte, jA, jM, jS, jL, jD, jB, g0, g1, hx, g2, g3, g4, gs]; first | done | rfl) (.inl rfl) rfl (by decide)) (by simp only [go_sem, jE, reduceIte, jA, jM, jS, jL, jD, jB, g0, g1, hx, g2, g3, g4, gs]; first | done | rfl) rfl (by simp only [go_sem, Nat.reduceLT]) ?_; simp only [go_sem, jE, reduceIte, jA, jM, jS, jL, jD, jB, g0, g1, hx, g2, g3, g4, gs]) | (refine qx (call_L (N' := [0]) (L := []) (k3) rfl (.cons (.nm rfl) (.cons (.nm rfl) (.nil))) (by decide) (by decide) (by decide) (by simp only [go_sem, jE, reduceIte, jA, jM, jS, jL, jD, jB, g0, g1, hx, g2, g3, g4, gs]; first | done | rfl) (.inl rfl) rfl (by decide)) (by simp only [go_sem, jE, reduceIte, jA, jM, jS, jL, jD, jB, g0, g1, hx, g2, g3, g4, gs]; first | done | rfl) rfl (by simp only [go_sem, Nat.reduceLT]) ?_; simp only [go_sem, jE, reduceIte, jA, jM, jS, jL, jD, jB, g0, g1, hx, g2, g3, g4, gs]) | (refine qx (call_L (N' := [0, 26]) (L := []) (ko) rfl (.cons (.nm rfl) (.cons (.nm rfl) (.nil))) (by decide) (by decide) (by decide) (by simp only [go_sem, jE, reduceIte, jA, jM, jS, jL, jD, jB, g0, g1, hx, g2, g3, g4, gs]; first | done | rfl) (.inl rfl) rfl (by decide)) (by simp only [go_sem, jE, reduceIte, jA, jM, jS, jL, jD, jB, g0, g1, hx, g2, g3, g4, gs]; first | done | rfl) rfl (by simp only [go_sem, Nat.reduceLT]) ?_; simp only [go_sem, jE, reduceIte, jA, jM, jS, jL, jD, jB, g0, g1, hx, g2, g3, g4, gs]))
      exact Aw_ret (retL (M := [0]) (.inl rfl) (by simp only [go_sem, jE, reduceIte, jA, jM, jS, jL, jD, jB]; first | done | rfl) rfl rfl (by rfl) (by simp only [go_sem, jE, reduceIte, jA, jM, jS, jL, jD, jB]; first | done | rfl | (and_intros <;> rfl)) (by decide) (by unfold idM; decide))
    · have e : nearV b p l = (k, p + 3) := by unfold nearV; rw [if_neg c0, if_neg c1]; dsimp only; rw [if_neg c2, if_pos c3, ← hk, if_neg c4]
      have g4 : decide ((k.size : Int) < 5) = false := decide_eq_false (by omega)
      rw [e]
      refine AC_of Tryz.func90 rfl Tryz.ntmps90 Tryz.results90 (by kernel_rfl) rfl ?_
      simp only [List.zipIdx, List.map, Nat.zero_add, Nat.reduceAdd]
      repeat (first | apply Aw_seq | apply Aw_block | apply Aw_skip | apply Aw_exit | refine Aw_condt rfl ?_ | refine Aw_condf rfl ?_ | ((first | refine qr ?_ | refine qd (by kernel_rfl) (by kernel_rfl) ?_); simp only [go_sem, jE, reduceIte, jA, jM, jS, jL, jD, jB, g0, g1, hx, g2, g3, g4]) | refine dk (by kernel_rfl) ?_ | (refine qx (call_L (N' := [0]) (L := []) (k1) rfl (.cons (.nm rfl) (.cons (.nm rfl) (.nil))) (by decide) (by decide) (by decide) (by simp only [go_sem, jE, reduceIte, jA, jM, jS, jL, jD, jB, g0, g1, hx, g2, g3, g4]; first | done | rfl) (.inl rfl) rfl (by decide)) (by simp only [go_sem, jE, reduceIte, jA, jM, jS, jL, jD, jB, g0, g1, hx, g2, g3, g4]; first | done | rfl) rfl (by simp only [go_sem, Nat.reduceLT]) ?_; simp only [go_sem, jE, reduceIte, jA, jM, jS, jL, jD, jB, g0, g1, hx, g2, g3, g4]) | (refine qx (call_L (N' := [0]) (L := []) (k2) rfl (.cons (.nm rfl) (.cons (.nm rfl) (.nil))) (by decide) (by decide) (by decide) (by simp only [go_sem, jE, reduceIte, jA, jM, jS, jL, jD, jB, g0, g1, hx, g2, g3, g4]; first | done | rfl) (.inl rfl) rfl (by decide)) (by simp only [go_sem, jE, reduceIte, jA, jM, jS, jL, jD, jB, g0, g1, hx, g2, g3, g4]; first | done | rfl) rfl (by simp only [go_sem, Nat.reduceLT]) ?_; simp only [go_sem, jE, reduceIte, jA, jM, jS, jL, jD, jB, g0, g1, hx, g2, g3, g4]) | (refine qx (call_L (N' := [0]) (L := []) (k3) rfl (.cons (.nm rfl) (.cons (.nm rfl) (.nil))) (by decide) (by decide) (by decide) (by simp only [go_sem, jE, reduceIte, jA, jM, jS, jL, jD, jB, g0, g1, hx, g2, g3, g4]; first | done | rfl) (.inl rfl) rfl (by decide)) (by simp only [go_sem, jE, reduceIte, jA, jM, jS, jL, jD, jB, g0, g1, hx, g2, g3, g4]; first | done | rfl) rfl (by simp only [go_sem, Nat.reduceLT]) ?_; simp only [go_sem, jE, reduceIte, jA, jM, jS, jL, jD, jB, g0, g1, hx, g2, g3, g4]))
      exact Aw_ret (retL (M := [0]) (.inl rfl) (by simp only [go_sem, jE, reduceIte, jA, jM, jS, jL, jD, jB]; first | done | rfl) rfl rfl (by rfl) (by simp only [go_sem, jE, reduceIte, jA, jM, jS, jL, jD, jB]; first | done | rfl | (and_intros <;> rfl)) (by decide) (by unfold idM; decide))
  · have g3 : decide (((pickV b (p + 1 + 1) 4 : Nat) : Int) = 1) = false := decide_eq_false (by omega)
    have e : nearV b p l = (k, p + 3) := by unfold nearV; rw [if_neg c0, if_neg c1]; dsimp only; rw [if_neg c2, if_neg c3, ← hk]
    rw [e]
    refine AC_of Tryz.func90 rfl Tryz.ntmps90 Tryz.results90 (by kernel_rfl) rfl ?_
    simp only [List.zipIdx, List.map, Nat.zero_add, Nat.reduceAdd]
    repeat (first | apply Aw_seq | apply Aw_block | apply Aw_skip | apply Aw_exit | refine Aw_condt rfl ?_ | refine Aw_condf rfl ?_ | ((first | refine qr ?_ | refine qd (by kernel_rfl) (by kernel_rfl) ?_); simp only [go_sem, jE, reduceIte, jA, jM, jS, jL, jD, jB, g0, g1, hx, g2, g3]) | refine dk (by kernel_rfl) ?_ | (refine qx (call_L (N' := [0]) (L := []) (k1) rfl (.cons (.nm rfl) (.cons (.nm rfl) (.nil))) (by decide) (by decide) (by decide) (by simp only [go_sem, jE, reduceIte, jA, jM, jS, jL, jD, jB, g0, g1, hx, g2, g3]; first | done | rfl) (.inl rfl) rfl (by decide)) (by simp only [go_sem, jE, reduceIte, jA, jM, jS, jL, jD, jB, g0, g1, hx, g2, g3]; first | done | rfl) rfl (by simp only [go_sem, Nat.reduceLT]) ?_; simp only [go_sem, jE, reduceIte, jA, jM, jS, jL, jD, jB, g0, g1, hx, g2, g3]) | (refine qx (call_L (N' := [0]) (L := []) (k2) rfl (.cons (.nm rfl) (.cons (.nm rfl) (.nil))) (by decide) (by decide) (by decide) (by simp only [go_sem, jE, reduceIte, jA, jM, jS, jL, jD, jB, g0, g1, hx, g2, g3]; first | done | rfl) (.inl rfl) rfl (by decide)) (by simp only [go_sem, jE, reduceIte, jA, jM, jS, jL, jD, jB, g0, g1, hx, g2, g3]; first | done | rfl) rfl (by simp only [go_sem, Nat.reduceLT]) ?_; simp only [go_sem, jE, reduceIte, jA, jM, jS, jL, jD, jB, g0, g1, hx, g2, g3]) | (refine qx (call_L (N' := [0]) (L := []) (k3) rfl (.cons (.nm rfl) (.cons (.nm rfl) (.nil))) (by decide) (by decide) (by decide) (by simp only [go_sem, jE, reduceIte, jA, jM, jS, jL, jD, jB, g0, g1, hx, g2, g3]; first | done | rfl) (.inl rfl) rfl (by decide)) (by simp only [go_sem, jE, reduceIte, jA, jM, jS, jL, jD, jB, g0, g1, hx, g2, g3]; first | done | rfl) rfl (by simp only [go_sem, Nat.reduceLT]) ?_; simp only [go_sem, jE, reduceIte, jA, jM, jS, jL, jD, jB, g0, g1, hx, g2, g3]))
    exact Aw_ret (retL (M := [0]) (.inl rfl) (by simp only [go_sem, jE, reduceIte, jA, jM, jS, jL, jD, jB]; first | done | rfl) rfl rfl (by rfl) (by simp only [go_sem, jE, reduceIte, jA, jM, jS, jL, jD, jB]; first | done | rfl | (and_intros <;> rfl)) (by decide) (by unfold idM; decide))
noncomputable def keysL (b : List Int) : Nat → List ByteArray → Nat → List ByteArray × Nat
  | 0, l, p => (l, p)
  | n + 1, l, p => keysL b n (putK l (nearV b p l).1) (nearV b p l).2
noncomputable def keysV (b : List Int) (p : Nat) (most : Nat) : List ByteArray × Nat := keysL b (pickV b p ((most + 1 : Nat) : Int)) [] (p + 1)
theorem keysL_fin {b : List Int} (hb : byteL b) : ∀ (n : Nat) (l : List ByteArray) (p : Nat), p + 7 * n ≤ 700000 → l.length + n ≤ 1000 → (∀ s ∈ l, s.size ≤ 5) → (keysL b n l p).1.length ≤ l.length + n ∧ (∀ s ∈ (keysL b n l p).1, s.size ≤ 5) ∧ (keysL b n l p).2 ≤ p + 7 * n
  | 0, l, p, _, _, h => ⟨by simp [keysL], h, by simp [keysL]⟩
  | n + 1, l, p, h1, h2, h3 => by
    obtain ⟨a1, a2⟩ := nearV_fin hb (p := p) (K := 5) (l := l) (by omega) (by omega) (by omega) h3
    obtain ⟨b1, b2⟩ := putK_mem (ks := l) (k := (nearV b p l).1)
    obtain ⟨c1, c2, c3⟩ := keysL_fin hb n (putK l (nearV b p l).1) (nearV b p l).2 (by omega) (by omega) (fun s hs => by
      rcases b1 s hs with h | h
      · exact h3 s h
      · rw [h]; exact a1)
    exact ⟨by simp only [keysL]; omega, by simp only [keysL]; exact c2, by simp only [keysL]; omega⟩
theorem keysV_fin {b : List Int} (hb : byteL b) {p most : Nat} (hp : p ≤ 600000) (hm : most ≤ 100) : (keysV b p most).1.length ≤ most ∧ (∀ s ∈ (keysV b p most).1, s.size ≤ 5) ∧ (keysV b p most).2 ≤ p + 1 + 7 * most := by
  have h := pickV_lt (n := ((most + 1 : Nat) : Int)) hb (show p ≤ 1000000 by omega) (by omega) (by omega)
  obtain ⟨h1, h2, h3⟩ := keysL_fin hb (pickV b p ((most + 1 : Nat) : Int)) [] (p + 1) (by omega) (by show 0 + _ ≤ _; omega) (by simp)
  unfold keysV
  rw [show ([] : List ByteArray).length = 0 from rfl] at h1
  exact ⟨by omega, h2, by omega⟩
structure KsI (b : List Int) (p0 most : Nat) where
  n : Nat
  l : List ByteArray
  p : Nat
  hn : l.length + n ≤ 1000
  hs : ∀ s ∈ l, s.size ≤ 5
  hp : p + 7 * n ≤ 700000
  h : keysL b n l p = keysV b p0 most
theorem l71Keys_ac {b : List Int} {p most : Nat} (hb : byteL b) (hp : p ≤ 600000) (hm : most ≤ 100) : AC Tryz.prog 105 [.c (.ph 0 0 0), iT most] (hpL [some (rdO b p)]) 1 ⟨.t (strsT (keysV b p most).1), hpL [some (rdO b (keysV b p most).2)], 1⟩ := by
  refine AC_of Tryz.func105 rfl Tryz.ntmps105 Tryz.results105 (by kernel_rfl) rfl ?_
  simp only [List.zipIdx, List.map, Nat.zero_add, Nat.reduceAdd]
  have w0 : IntKind.i64.wrap ((most : Int) + 1) = ((most + 1 : Nat) : Int) := wn (by omega) (by omega)
  have k := pickV_ac (n := ((most + 1 : Nat) : Int)) hb (show p ≤ 1000000 by omega) (by omega)
  have h6 := pickV_lt (n := ((most + 1 : Nat) : Int)) hb (show p ≤ 1000000 by omega) (by omega) (by omega)
  repeat (first | apply Aw_seq | apply Aw_block | apply Aw_skip | apply Aw_exit | refine Aw_condt rfl ?_ | refine Aw_condf rfl ?_ | ((first | refine qr ?_ | refine qd (by kernel_rfl) (by kernel_rfl) ?_); simp only [go_sem, jE, reduceIte, jA, jM, jS, jL, jD, jB, w0]) | refine dk (by kernel_rfl) ?_ | (refine qx (call_L (N' := [0]) (L := []) (k) rfl (.cons (.nm rfl) (.cons (.nm rfl) (.nil))) (by decide) (by decide) (by decide) (by simp only [go_sem, jE, reduceIte, jA, jM, jS, jL, jD, jB, w0]; first | done | rfl) (.inl rfl) rfl (by decide)) (by simp only [go_sem, jE, reduceIte, jA, jM, jS, jL, jD, jB, w0]; first | done | rfl) rfl (by simp only [go_sem, Nat.reduceLT]) ?_; simp only [go_sem, jE, reduceIte, jA, jM, jS, jL, jD, jB, w0]))
  refine Aw.rw (rwL (l' := [(6, .t (iT (pickV b p ((most + 1 : Nat) : Int) : Nat))), (5, .t (.c (.h 1))), (0, .t (.c (.ph 0 0 0)))]) (os := [some (rdO b (p + 1)), some (kRow [])]) (M := [0, 2]) (n' := 2) (by repeat (first | exact trivial | refine ⟨rfl, rfl, ?_⟩)) (by rfl) (by simp only [go_sem, jE, reduceIte, jA, jM, jS, jL, jD, jB, List.map_nil]; first | done | rfl) (by decide) (by unfold idM; decide)) ?_
  refine Aw.setL (l' := [(6, .t (iT (pickV b p ((most + 1 : Nat) : Int) : Nat))), (5, .t (strsT [])), (0, .t (.c (.ph 0 0 0)))]) (os' := [some (rdO b (p + 1))]) (n' := 2) [1] (by repeat (first | exact trivial | refine ⟨SetA.same rfl, ?_⟩ | refine ⟨SetA.row rfl rfl (by decide), ?_⟩)) (by repeat (first | exact trivial | refine ⟨rfl, rfl, ?_⟩ | show SubL _ _ _ _)) (by decide) ?_
  refine Aw_loop_rw (ι := KsI b p most) (fun q => S [(6, .t (iT (q.n : Nat))), (5, .t (strsT q.l)), (0, .t (.c (.ph 0 0 0)))] (hpL [some (rdO b q.p)]) 2) (fun q => q.n) ⟨pickV b p ((most + 1 : Nat) : Int), [], p + 1, by show 0 + _ ≤ _; omega, by simp, by omega, rfl⟩ ?_
  rintro ⟨n, l, q, hn, hs, hq, h⟩
  dsimp only
  rcases n with _ | n
  · have g1 : decide ((0 : Int) < ((0 : Nat) : Int)) = false := rfl
    rw [← h]
    repeat (first | apply Aw_seq | apply Aw_block | apply Aw_skip | apply Aw_exit | refine Aw_condt rfl ?_ | refine Aw_condf rfl ?_ | ((first | refine qr ?_ | refine qd (by kernel_rfl) (by kernel_rfl) ?_); simp only [go_sem, jE, reduceIte, jA, jM, jS, jL, jD, jB, g1]) | refine dk (by kernel_rfl) ?_)
    exact Aw_ret (retL (M := [0]) (.inl rfl) (by simp only [go_sem, jE, reduceIte, jA, jM, jS, jL, jD, jB]; first | done | rfl) rfl rfl (by rfl) (by simp only [go_sem, jE, reduceIte, jA, jM, jS, jL, jD, jB, keysL]; first | done | rfl | (and_intros <;> rfl)) (by decide) (by unfold idM; decide))
  · have g1 : decide ((0 : Int) < ((n + 1 : Nat) : Int)) = true := decide_eq_true (by omega)
    have w1 : IntKind.i64.wrap (((n + 1 : Nat) : Int) - 1) = (n : Int) := wn (by omega) (by omega)
    have kn := l71Near_ac (l := l) hb (show q ≤ 800000 by omega) (by omega) (fun s h => by have := hs s h; omega)
    have kp := l2Put_ac l (nearV b q l).1 (by omega)
    obtain ⟨a1, a2⟩ := nearV_fin hb (p := q) (K := 5) (l := l) (by omega) (by omega) (by omega) hs
    obtain ⟨b1, b2⟩ := putK_mem (ks := l) (k := (nearV b q l).1)
    repeat (first | apply Aw_seq | apply Aw_block | apply Aw_skip | apply Aw_exit | refine Aw_condt rfl ?_ | refine Aw_condf rfl ?_ | ((first | refine qr ?_ | refine qd (by kernel_rfl) (by kernel_rfl) ?_); simp only [go_sem, jE, reduceIte, jA, jM, jS, jL, jD, jB, g1, w1]) | refine dk (by kernel_rfl) ?_ | (refine qp (kp) (by simp only [go_sem, jE, reduceIte, jA, jM, jS, jL, jD, jB, g1, w1]; first | done | rfl) rfl (by simp only [go_sem, Nat.reduceLT]) rfl rfl ?_; simp only [go_sem, jE, reduceIte, jA, jM, jS, jL, jD, jB, g1, w1]) | (refine qx (call_L (N' := [0]) (L := []) (kn) rfl (.cons (.nm rfl) (.cons (.nm rfl) (.nil))) (by decide) (by decide) (by decide) (by simp only [go_sem, jE, reduceIte, jA, jM, jS, jL, jD, jB, g1, w1]; first | done | rfl) (.inl rfl) rfl (by decide)) (by simp only [go_sem, jE, reduceIte, jA, jM, jS, jL, jD, jB, g1, w1]; first | done | rfl) rfl (by simp only [go_sem, Nat.reduceLT]) ?_; simp only [go_sem, jE, reduceIte, jA, jM, jS, jL, jD, jB, g1, w1]))
    refine ⟨⟨n, putK l (nearV b q l).1, (nearV b q l).2, by omega, fun s hs2 => (b1 s hs2).elim (hs s) (fun e => by rw [e]; exact a1), by omega, h⟩, [0], ?_, rwL (by repeat (first | exact trivial | refine ⟨rfl, rfl, ?_⟩)) (by rfl) (by simp only [go_sem, jE, reduceIte, jA, jM, jS, jL, jD, jB]; first | done | rfl) (by decide) (by unfold idM; decide)⟩
    show n < n + 1; omega
noncomputable def deedV (b : List Int) (p : Nat) (l : List ByteArray) : Deed × Nat :=
  if pickV b p 10 < 5 then (⟨1, (nearV b (p + 1) l).1, (pickV b (nearV b (p + 1) l).2 100 : Nat)⟩, (nearV b (p + 1) l).2 + 1)
  else if pickV b p 10 = 5 then (⟨2, (nearV b (p + 1) l).1, 0⟩, (nearV b (p + 1) l).2)
  else if pickV b p 10 = 6 then (⟨3, zs, 0⟩, p + 1)
  else if pickV b p 10 = 7 then (⟨4, zs, (pickV b (p + 1) 20 : Nat)⟩, p + 2)
  else if pickV b p 10 = 8 then (⟨5, zs, 0⟩, p + 1)
  else (⟨6, zs, (pickV b (p + 1) 3 : Nat)⟩, p + 2)
theorem deedV_fin {b : List Int} (hb : byteL b) {p : Nat} {l : List ByteArray} (hp : p ≤ 500000) (hl : l.length ≤ 1000) (hs : ∀ s ∈ l, s.size ≤ 5) : (deedV b p l).1.key.size ≤ 5 ∧ (deedV b p l).2 ≤ p + 9 := by
  have h := nearV_fin hb (p := p + 1) (K := 5) (l := l) (by omega) (by omega) (by omega) hs
  have z : zs.size = 0 := rfl
  unfold deedV
  (repeat' split) <;> dsimp only <;> (constructor <;> omega)
theorem l71Deed_ac {b : List Int} {p : Nat} {l : List ByteArray} (hb : byteL b) (hp : p ≤ 500000) (hl : l.length ≤ 1000) (hs : ∀ s ∈ l, s.size ≤ 5) : AC Tryz.prog 106 [.c (.ph 0 0 0), strsT l] (hpL [some (rdO b p)]) 1 ⟨.t (deedT (deedV b p l).1), hpL [some (rdO b (deedV b p l).2)], 1⟩ := by
  have k1 := pickV_ac (n := 10) hb (show p ≤ 1000000 by omega) (by omega)
  have h1 := pickV_lt (n := 10) hb (show p ≤ 1000000 by omega) (by omega) (by omega)
  have kn := l71Near_ac (l := l) hb (show p + 1 ≤ 800000 by omega) (by omega) (fun s h => by have := hs s h; omega)
  have hn := nearV_fin hb (p := p + 1) (K := 5) (l := l) (by omega) (by omega) (by omega) hs
  have k2 := pickV_ac (n := 100) hb (show (nearV b (p + 1) l).2 ≤ 1000000 by omega) (by omega)
  have k3 := pickV_ac (n := 20) hb (show p + 1 ≤ 1000000 by omega) (by omega)
  have k4 := pickV_ac (n := 3) hb (show p + 1 ≤ 1000000 by omega) (by omega)
  have hc : pickV b p 10 = 0 ∨ pickV b p 10 = 1 ∨ pickV b p 10 = 2 ∨ pickV b p 10 = 3 ∨ pickV b p 10 = 4 ∨ pickV b p 10 = 5 ∨ pickV b p 10 = 6 ∨ pickV b p 10 = 7 ∨ pickV b p 10 = 8 ∨ pickV b p 10 = 9 := by omega
  unfold deedV
  rcases hc with hv | hv | hv | hv | hv | hv | hv | hv | hv | hv
  · rw [hv] at k1
    have g0 : decide (((0 : Nat) : Int) = 0) = true := rfl
    simp only [hv]
    rw [if_pos (show 0 < 5 by decide)]
    refine AC_of Tryz.func106 rfl Tryz.ntmps106 Tryz.results106 (by kernel_rfl) rfl ?_
    simp only [List.zipIdx, List.map, Nat.zero_add, Nat.reduceAdd]
    repeat (first | apply Aw_seq | apply Aw_block | apply Aw_skip | apply Aw_exit | refine Aw_condt rfl ?_ | refine Aw_condf rfl ?_ | ((first | refine qr ?_ | refine qd (by kernel_rfl) (by kernel_rfl) ?_); simp only [go_sem, jE, reduceIte, jA, jM, jS, jL, jD, jB, g0]) | refine dk (by kernel_rfl) ?_ | (refine qx (call_L (N' := [0]) (L := []) (k1) rfl (.cons (.nm rfl) (.cons (.nm rfl) (.nil))) (by decide) (by decide) (by decide) (by simp only [go_sem, jE, reduceIte, jA, jM, jS, jL, jD, jB, g0]; first | done | rfl) (.inl rfl) rfl (by decide)) (by simp only [go_sem, jE, reduceIte, jA, jM, jS, jL, jD, jB, g0]; first | done | rfl) rfl (by simp only [go_sem, Nat.reduceLT]) ?_; simp only [go_sem, jE, reduceIte, jA, jM, jS, jL, jD, jB, g0]) | (refine qx (call_L (N' := [0]) (L := []) (kn) rfl (.cons (.nm rfl) (.cons (.nm rfl) (.nil))) (by decide) (by decide) (by decide) (by simp only [go_sem, jE, reduceIte, jA, jM, jS, jL, jD, jB, g0]; first | done | rfl) (.inl rfl) rfl (by decide)) (by simp only [go_sem, jE, reduceIte, jA, jM, jS, jL, jD, jB, g0]; first | done | rfl) rfl (by simp only [go_sem, Nat.reduceLT]) ?_; simp only [go_sem, jE, reduceIte, jA, jM, jS, jL, jD, jB, g0]) | (refine qx (call_L (N' := [0]) (L := []) (k2) rfl (.cons (.nm rfl) (.cons (.nm rfl) (.nil))) (by decide) (by decide) (by decide) (by simp only [go_sem, jE, reduceIte, jA, jM, jS, jL, jD, jB, g0]; first | done | rfl) (.inl rfl) rfl (by decide)) (by simp only [go_sem, jE, reduceIte, jA, jM, jS, jL, jD, jB, g0]; first | done | rfl) rfl (by simp only [go_sem, Nat.reduceLT]) ?_; simp only [go_sem, jE, reduceIte, jA, jM, jS, jL, jD, jB, g0]))
    exact Aw_ret (retL (M := [0]) (.inl rfl) (by simp only [go_sem, jE, reduceIte, jA, jM, jS, jL, jD, jB]; first | done | rfl) rfl rfl (by rfl) (by simp only [go_sem, jE, reduceIte, jA, jM, jS, jL, jD, jB]; first | done | rfl | (and_intros <;> rfl)) (by decide) (by unfold idM; decide))
  · rw [hv] at k1
    have g0 : decide (((1 : Nat) : Int) = 0) = false := rfl
    have g1 : decide (((1 : Nat) : Int) = 1) = true := rfl
    simp only [hv]
    rw [if_pos (show 1 < 5 by decide)]
    refine AC_of Tryz.func106 rfl Tryz.ntmps106 Tryz.results106 (by kernel_rfl) rfl ?_
    simp only [List.zipIdx, List.map, Nat.zero_add, Nat.reduceAdd]
    repeat (first | apply Aw_seq | apply Aw_block | apply Aw_skip | apply Aw_exit | refine Aw_condt rfl ?_ | refine Aw_condf rfl ?_ | ((first | refine qr ?_ | refine qd (by kernel_rfl) (by kernel_rfl) ?_); simp only [go_sem, jE, reduceIte, jA, jM, jS, jL, jD, jB, g0, g1]) | refine dk (by kernel_rfl) ?_ | (refine qx (call_L (N' := [0]) (L := []) (k1) rfl (.cons (.nm rfl) (.cons (.nm rfl) (.nil))) (by decide) (by decide) (by decide) (by simp only [go_sem, jE, reduceIte, jA, jM, jS, jL, jD, jB, g0, g1]; first | done | rfl) (.inl rfl) rfl (by decide)) (by simp only [go_sem, jE, reduceIte, jA, jM, jS, jL, jD, jB, g0, g1]; first | done | rfl) rfl (by simp only [go_sem, Nat.reduceLT]) ?_; simp only [go_sem, jE, reduceIte, jA, jM, jS, jL, jD, jB, g0, g1]) | (refine qx (call_L (N' := [0]) (L := []) (kn) rfl (.cons (.nm rfl) (.cons (.nm rfl) (.nil))) (by decide) (by decide) (by decide) (by simp only [go_sem, jE, reduceIte, jA, jM, jS, jL, jD, jB, g0, g1]; first | done | rfl) (.inl rfl) rfl (by decide)) (by simp only [go_sem, jE, reduceIte, jA, jM, jS, jL, jD, jB, g0, g1]; first | done | rfl) rfl (by simp only [go_sem, Nat.reduceLT]) ?_; simp only [go_sem, jE, reduceIte, jA, jM, jS, jL, jD, jB, g0, g1]) | (refine qx (call_L (N' := [0]) (L := []) (k2) rfl (.cons (.nm rfl) (.cons (.nm rfl) (.nil))) (by decide) (by decide) (by decide) (by simp only [go_sem, jE, reduceIte, jA, jM, jS, jL, jD, jB, g0, g1]; first | done | rfl) (.inl rfl) rfl (by decide)) (by simp only [go_sem, jE, reduceIte, jA, jM, jS, jL, jD, jB, g0, g1]; first | done | rfl) rfl (by simp only [go_sem, Nat.reduceLT]) ?_; simp only [go_sem, jE, reduceIte, jA, jM, jS, jL, jD, jB, g0, g1]))
    exact Aw_ret (retL (M := [0]) (.inl rfl) (by simp only [go_sem, jE, reduceIte, jA, jM, jS, jL, jD, jB]; first | done | rfl) rfl rfl (by rfl) (by simp only [go_sem, jE, reduceIte, jA, jM, jS, jL, jD, jB]; first | done | rfl | (and_intros <;> rfl)) (by decide) (by unfold idM; decide))
  · rw [hv] at k1
    have g0 : decide (((2 : Nat) : Int) = 0) = false := rfl
    have g1 : decide (((2 : Nat) : Int) = 1) = false := rfl
    have g2 : decide (((2 : Nat) : Int) = 2) = true := rfl
    simp only [hv]
    rw [if_pos (show 2 < 5 by decide)]
    refine AC_of Tryz.func106 rfl Tryz.ntmps106 Tryz.results106 (by kernel_rfl) rfl ?_
    simp only [List.zipIdx, List.map, Nat.zero_add, Nat.reduceAdd]
    repeat (first | apply Aw_seq | apply Aw_block | apply Aw_skip | apply Aw_exit | refine Aw_condt rfl ?_ | refine Aw_condf rfl ?_ | ((first | refine qr ?_ | refine qd (by kernel_rfl) (by kernel_rfl) ?_); simp only [go_sem, jE, reduceIte, jA, jM, jS, jL, jD, jB, g0, g1, g2]) | refine dk (by kernel_rfl) ?_ | (refine qx (call_L (N' := [0]) (L := []) (k1) rfl (.cons (.nm rfl) (.cons (.nm rfl) (.nil))) (by decide) (by decide) (by decide) (by simp only [go_sem, jE, reduceIte, jA, jM, jS, jL, jD, jB, g0, g1, g2]; first | done | rfl) (.inl rfl) rfl (by decide)) (by simp only [go_sem, jE, reduceIte, jA, jM, jS, jL, jD, jB, g0, g1, g2]; first | done | rfl) rfl (by simp only [go_sem, Nat.reduceLT]) ?_; simp only [go_sem, jE, reduceIte, jA, jM, jS, jL, jD, jB, g0, g1, g2]) | (refine qx (call_L (N' := [0]) (L := []) (kn) rfl (.cons (.nm rfl) (.cons (.nm rfl) (.nil))) (by decide) (by decide) (by decide) (by simp only [go_sem, jE, reduceIte, jA, jM, jS, jL, jD, jB, g0, g1, g2]; first | done | rfl) (.inl rfl) rfl (by decide)) (by simp only [go_sem, jE, reduceIte, jA, jM, jS, jL, jD, jB, g0, g1, g2]; first | done | rfl) rfl (by simp only [go_sem, Nat.reduceLT]) ?_; simp only [go_sem, jE, reduceIte, jA, jM, jS, jL, jD, jB, g0, g1, g2]) | (refine qx (call_L (N' := [0]) (L := []) (k2) rfl (.cons (.nm rfl) (.cons (.nm rfl) (.nil))) (by decide) (by decide) (by decide) (by simp only [go_sem, jE, reduceIte, jA, jM, jS, jL, jD, jB, g0, g1, g2]; first | done | rfl) (.inl rfl) rfl (by decide)) (by simp only [go_sem, jE, reduceIte, jA, jM, jS, jL, jD, jB, g0, g1, g2]; first | done | rfl) rfl (by simp only [go_sem, Nat.reduceLT]) ?_; simp only [go_sem, jE, reduceIte, jA, jM, jS, jL, jD, jB, g0, g1, g2]))
    exact Aw_ret (retL (M := [0]) (.inl rfl) (by simp only [go_sem, jE, reduceIte, jA, jM, jS, jL, jD, jB]; first | done | rfl) rfl rfl (by rfl) (by simp only [go_sem, jE, reduceIte, jA, jM, jS, jL, jD, jB]; first | done | rfl | (and_intros <;> rfl)) (by decide) (by unfold idM; decide))
  · rw [hv] at k1
    have g0 : decide (((3 : Nat) : Int) = 0) = false := rfl
    have g1 : decide (((3 : Nat) : Int) = 1) = false := rfl
    have g2 : decide (((3 : Nat) : Int) = 2) = false := rfl
    have g3 : decide (((3 : Nat) : Int) = 3) = true := rfl
    simp only [hv]
    rw [if_pos (show 3 < 5 by decide)]
    refine AC_of Tryz.func106 rfl Tryz.ntmps106 Tryz.results106 (by kernel_rfl) rfl ?_
    simp only [List.zipIdx, List.map, Nat.zero_add, Nat.reduceAdd]
    repeat (first | apply Aw_seq | apply Aw_block | apply Aw_skip | apply Aw_exit | refine Aw_condt rfl ?_ | refine Aw_condf rfl ?_ | ((first | refine qr ?_ | refine qd (by kernel_rfl) (by kernel_rfl) ?_); simp only [go_sem, jE, reduceIte, jA, jM, jS, jL, jD, jB, g0, g1, g2, g3]) | refine dk (by kernel_rfl) ?_ | (refine qx (call_L (N' := [0]) (L := []) (k1) rfl (.cons (.nm rfl) (.cons (.nm rfl) (.nil))) (by decide) (by decide) (by decide) (by simp only [go_sem, jE, reduceIte, jA, jM, jS, jL, jD, jB, g0, g1, g2, g3]; first | done | rfl) (.inl rfl) rfl (by decide)) (by simp only [go_sem, jE, reduceIte, jA, jM, jS, jL, jD, jB, g0, g1, g2, g3]; first | done | rfl) rfl (by simp only [go_sem, Nat.reduceLT]) ?_; simp only [go_sem, jE, reduceIte, jA, jM, jS, jL, jD, jB, g0, g1, g2, g3]) | (refine qx (call_L (N' := [0]) (L := []) (kn) rfl (.cons (.nm rfl) (.cons (.nm rfl) (.nil))) (by decide) (by decide) (by decide) (by simp only [go_sem, jE, reduceIte, jA, jM, jS, jL, jD, jB, g0, g1, g2, g3]; first | done | rfl) (.inl rfl) rfl (by decide)) (by simp only [go_sem, jE, reduceIte, jA, jM, jS, jL, jD, jB, g0, g1, g2, g3]; first | done | rfl) rfl (by simp only [go_sem, Nat.reduceLT]) ?_; simp only [go_sem, jE, reduceIte, jA, jM, jS, jL, jD, jB, g0, g1, g2, g3]) | (refine qx (call_L (N' := [0]) (L := []) (k2) rfl (.cons (.nm rfl) (.cons (.nm rfl) (.nil))) (by decide) (by decide) (by decide) (by simp only [go_sem, jE, reduceIte, jA, jM, jS, jL, jD, jB, g0, g1, g2, g3]; first | done | rfl) (.inl rfl) rfl (by decide)) (by simp only [go_sem, jE, reduceIte, jA, jM, jS, jL, jD, jB, g0, g1, g2, g3]; first | done | rfl) rfl (by simp only [go_sem, Nat.reduceLT]) ?_; simp only [go_sem, jE, reduceIte, jA, jM, jS, jL, jD, jB, g0, g1, g2, g3]))
    exact Aw_ret (retL (M := [0]) (.inl rfl) (by simp only [go_sem, jE, reduceIte, jA, jM, jS, jL, jD, jB]; first | done | rfl) rfl rfl (by rfl) (by simp only [go_sem, jE, reduceIte, jA, jM, jS, jL, jD, jB]; first | done | rfl | (and_intros <;> rfl)) (by decide) (by unfold idM; decide))
  · rw [hv] at k1
    have g0 : decide (((4 : Nat) : Int) = 0) = false := rfl
    have g1 : decide (((4 : Nat) : Int) = 1) = false := rfl
    have g2 : decide (((4 : Nat) : Int) = 2) = false := rfl
    have g3 : decide (((4 : Nat) : Int) = 3) = false := rfl
    have g4 : decide (((4 : Nat) : Int) = 4) = true := rfl
    simp only [hv]
    rw [if_pos (show 4 < 5 by decide)]
    refine AC_of Tryz.func106 rfl Tryz.ntmps106 Tryz.results106 (by kernel_rfl) rfl ?_
    simp only [List.zipIdx, List.map, Nat.zero_add, Nat.reduceAdd]
    repeat (first | apply Aw_seq | apply Aw_block | apply Aw_skip | apply Aw_exit | refine Aw_condt rfl ?_ | refine Aw_condf rfl ?_ | ((first | refine qr ?_ | refine qd (by kernel_rfl) (by kernel_rfl) ?_); simp only [go_sem, jE, reduceIte, jA, jM, jS, jL, jD, jB, g0, g1, g2, g3, g4]) | refine dk (by kernel_rfl) ?_ | (refine qx (call_L (N' := [0]) (L := []) (k1) rfl (.cons (.nm rfl) (.cons (.nm rfl) (.nil))) (by decide) (by decide) (by decide) (by simp only [go_sem, jE, reduceIte, jA, jM, jS, jL, jD, jB, g0, g1, g2, g3, g4]; first | done | rfl) (.inl rfl) rfl (by decide)) (by simp only [go_sem, jE, reduceIte, jA, jM, jS, jL, jD, jB, g0, g1, g2, g3, g4]; first | done | rfl) rfl (by simp only [go_sem, Nat.reduceLT]) ?_; simp only [go_sem, jE, reduceIte, jA, jM, jS, jL, jD, jB, g0, g1, g2, g3, g4]) | (refine qx (call_L (N' := [0]) (L := []) (kn) rfl (.cons (.nm rfl) (.cons (.nm rfl) (.nil))) (by decide) (by decide) (by decide) (by simp only [go_sem, jE, reduceIte, jA, jM, jS, jL, jD, jB, g0, g1, g2, g3, g4]; first | done | rfl) (.inl rfl) rfl (by decide)) (by simp only [go_sem, jE, reduceIte, jA, jM, jS, jL, jD, jB, g0, g1, g2, g3, g4]; first | done | rfl) rfl (by simp only [go_sem, Nat.reduceLT]) ?_; simp only [go_sem, jE, reduceIte, jA, jM, jS, jL, jD, jB, g0, g1, g2, g3, g4]) | (refine qx (call_L (N' := [0]) (L := []) (k2) rfl (.cons (.nm rfl) (.cons (.nm rfl) (.nil))) (by decide) (by decide) (by decide) (by simp only [go_sem, jE, reduceIte, jA, jM, jS, jL, jD, jB, g0, g1, g2, g3, g4]; first | done | rfl) (.inl rfl) rfl (by decide)) (by simp only [go_sem, jE, reduceIte, jA, jM, jS, jL, jD, jB, g0, g1, g2, g3, g4]; first | done | rfl) rfl (by simp only [go_sem, Nat.reduceLT]) ?_; simp only [go_sem, jE, reduceIte, jA, jM, jS, jL, jD, jB, g0, g1, g2, g3, g4]))
    exact Aw_ret (retL (M := [0]) (.inl rfl) (by simp only [go_sem, jE, reduceIte, jA, jM, jS, jL, jD, jB]; first | done | rfl) rfl rfl (by rfl) (by simp only [go_sem, jE, reduceIte, jA, jM, jS, jL, jD, jB]; first | done | rfl | (and_intros <;> rfl)) (by decide) (by unfold idM; decide))
  · rw [hv] at k1
    have g0 : decide (((5 : Nat) : Int) = 0) = false := rfl
    have g1 : decide (((5 : Nat) : Int) = 1) = false := rfl
    have g2 : decide (((5 : Nat) : Int) = 2) = false := rfl
    have g3 : decide (((5 : Nat) : Int) = 3) = false := rfl
    have g4 : decide (((5 : Nat) : Int) = 4) = false := rfl
    have g5 : decide (((5 : Nat) : Int) = 5) = true := rfl
    simp only [hv]
    rw [if_neg (show ¬ 5 < 5 by decide), if_pos trivial]
    refine AC_of Tryz.func106 rfl Tryz.ntmps106 Tryz.results106 (by kernel_rfl) rfl ?_
    simp only [List.zipIdx, List.map, Nat.zero_add, Nat.reduceAdd]
    repeat (first | apply Aw_seq | apply Aw_block | apply Aw_skip | apply Aw_exit | refine Aw_condt rfl ?_ | refine Aw_condf rfl ?_ | ((first | refine qr ?_ | refine qd (by kernel_rfl) (by kernel_rfl) ?_); simp only [go_sem, jE, reduceIte, jA, jM, jS, jL, jD, jB, g0, g1, g2, g3, g4, g5]) | refine dk (by kernel_rfl) ?_ | (refine qx (call_L (N' := [0]) (L := []) (k1) rfl (.cons (.nm rfl) (.cons (.nm rfl) (.nil))) (by decide) (by decide) (by decide) (by simp only [go_sem, jE, reduceIte, jA, jM, jS, jL, jD, jB, g0, g1, g2, g3, g4, g5]; first | done | rfl) (.inl rfl) rfl (by decide)) (by simp only [go_sem, jE, reduceIte, jA, jM, jS, jL, jD, jB, g0, g1, g2, g3, g4, g5]; first | done | rfl) rfl (by simp only [go_sem, Nat.reduceLT]) ?_; simp only [go_sem, jE, reduceIte, jA, jM, jS, jL, jD, jB, g0, g1, g2, g3, g4, g5]) | (refine qx (call_L (N' := [0]) (L := []) (kn) rfl (.cons (.nm rfl) (.cons (.nm rfl) (.nil))) (by decide) (by decide) (by decide) (by simp only [go_sem, jE, reduceIte, jA, jM, jS, jL, jD, jB, g0, g1, g2, g3, g4, g5]; first | done | rfl) (.inl rfl) rfl (by decide)) (by simp only [go_sem, jE, reduceIte, jA, jM, jS, jL, jD, jB, g0, g1, g2, g3, g4, g5]; first | done | rfl) rfl (by simp only [go_sem, Nat.reduceLT]) ?_; simp only [go_sem, jE, reduceIte, jA, jM, jS, jL, jD, jB, g0, g1, g2, g3, g4, g5]))
    exact Aw_ret (retL (M := [0]) (.inl rfl) (by simp only [go_sem, jE, reduceIte, jA, jM, jS, jL, jD, jB]; first | done | rfl) rfl rfl (by rfl) (by simp only [go_sem, jE, reduceIte, jA, jM, jS, jL, jD, jB]; first | done | rfl | (and_intros <;> rfl)) (by decide) (by unfold idM; decide))
  · rw [hv] at k1
    have g0 : decide (((6 : Nat) : Int) = 0) = false := rfl
    have g1 : decide (((6 : Nat) : Int) = 1) = false := rfl
    have g2 : decide (((6 : Nat) : Int) = 2) = false := rfl
    have g3 : decide (((6 : Nat) : Int) = 3) = false := rfl
    have g4 : decide (((6 : Nat) : Int) = 4) = false := rfl
    have g5 : decide (((6 : Nat) : Int) = 5) = false := rfl
    have g6 : decide (((6 : Nat) : Int) = 6) = true := rfl
    simp only [hv]
    rw [if_neg (show ¬ 6 < 5 by decide), if_neg (show ¬ (6 = 5) by decide), if_pos trivial]
    refine AC_of Tryz.func106 rfl Tryz.ntmps106 Tryz.results106 (by kernel_rfl) rfl ?_
    simp only [List.zipIdx, List.map, Nat.zero_add, Nat.reduceAdd]
    repeat (first | apply Aw_seq | apply Aw_block | apply Aw_skip | apply Aw_exit | refine Aw_condt rfl ?_ | refine Aw_condf rfl ?_ | ((first | refine qr ?_ | refine qd (by kernel_rfl) (by kernel_rfl) ?_); simp only [go_sem, jE, reduceIte, jA, jM, jS, jL, jD, jB, g0, g1, g2, g3, g4, g5, g6]) | refine dk (by kernel_rfl) ?_ | (refine qx (call_L (N' := [0]) (L := []) (k1) rfl (.cons (.nm rfl) (.cons (.nm rfl) (.nil))) (by decide) (by decide) (by decide) (by simp only [go_sem, jE, reduceIte, jA, jM, jS, jL, jD, jB, g0, g1, g2, g3, g4, g5, g6]; first | done | rfl) (.inl rfl) rfl (by decide)) (by simp only [go_sem, jE, reduceIte, jA, jM, jS, jL, jD, jB, g0, g1, g2, g3, g4, g5, g6]; first | done | rfl) rfl (by simp only [go_sem, Nat.reduceLT]) ?_; simp only [go_sem, jE, reduceIte, jA, jM, jS, jL, jD, jB, g0, g1, g2, g3, g4, g5, g6]))
    exact Aw_ret (retL (M := [0]) (.inl rfl) (by simp only [go_sem, jE, reduceIte, jA, jM, jS, jL, jD, jB]; first | done | rfl) rfl rfl (by rfl) (by simp only [go_sem, jE, reduceIte, jA, jM, jS, jL, jD, jB]; first | done | rfl | (and_intros <;> rfl)) (by decide) (by unfold idM; decide))
  · rw [hv] at k1
    have g0 : decide (((7 : Nat) : Int) = 0) = false := rfl
    have g1 : decide (((7 : Nat) : Int) = 1) = false := rfl
    have g2 : decide (((7 : Nat) : Int) = 2) = false := rfl
    have g3 : decide (((7 : Nat) : Int) = 3) = false := rfl
    have g4 : decide (((7 : Nat) : Int) = 4) = false := rfl
    have g5 : decide (((7 : Nat) : Int) = 5) = false := rfl
    have g6 : decide (((7 : Nat) : Int) = 6) = false := rfl
    have g7 : decide (((7 : Nat) : Int) = 7) = true := rfl
    simp only [hv]
    rw [if_neg (show ¬ 7 < 5 by decide), if_neg (show ¬ (7 = 5) by decide), if_neg (show ¬ (7 = 6) by decide), if_pos trivial]
    refine AC_of Tryz.func106 rfl Tryz.ntmps106 Tryz.results106 (by kernel_rfl) rfl ?_
    simp only [List.zipIdx, List.map, Nat.zero_add, Nat.reduceAdd]
    repeat (first | apply Aw_seq | apply Aw_block | apply Aw_skip | apply Aw_exit | refine Aw_condt rfl ?_ | refine Aw_condf rfl ?_ | ((first | refine qr ?_ | refine qd (by kernel_rfl) (by kernel_rfl) ?_); simp only [go_sem, jE, reduceIte, jA, jM, jS, jL, jD, jB, g0, g1, g2, g3, g4, g5, g6, g7]) | refine dk (by kernel_rfl) ?_ | (refine qx (call_L (N' := [0]) (L := []) (k1) rfl (.cons (.nm rfl) (.cons (.nm rfl) (.nil))) (by decide) (by decide) (by decide) (by simp only [go_sem, jE, reduceIte, jA, jM, jS, jL, jD, jB, g0, g1, g2, g3, g4, g5, g6, g7]; first | done | rfl) (.inl rfl) rfl (by decide)) (by simp only [go_sem, jE, reduceIte, jA, jM, jS, jL, jD, jB, g0, g1, g2, g3, g4, g5, g6, g7]; first | done | rfl) rfl (by simp only [go_sem, Nat.reduceLT]) ?_; simp only [go_sem, jE, reduceIte, jA, jM, jS, jL, jD, jB, g0, g1, g2, g3, g4, g5, g6, g7]) | (refine qx (call_L (N' := [0]) (L := []) (k3) rfl (.cons (.nm rfl) (.cons (.nm rfl) (.nil))) (by decide) (by decide) (by decide) (by simp only [go_sem, jE, reduceIte, jA, jM, jS, jL, jD, jB, g0, g1, g2, g3, g4, g5, g6, g7]; first | done | rfl) (.inl rfl) rfl (by decide)) (by simp only [go_sem, jE, reduceIte, jA, jM, jS, jL, jD, jB, g0, g1, g2, g3, g4, g5, g6, g7]; first | done | rfl) rfl (by simp only [go_sem, Nat.reduceLT]) ?_; simp only [go_sem, jE, reduceIte, jA, jM, jS, jL, jD, jB, g0, g1, g2, g3, g4, g5, g6, g7]))
    exact Aw_ret (retL (M := [0]) (.inl rfl) (by simp only [go_sem, jE, reduceIte, jA, jM, jS, jL, jD, jB]; first | done | rfl) rfl rfl (by rfl) (by simp only [go_sem, jE, reduceIte, jA, jM, jS, jL, jD, jB]; first | done | rfl | (and_intros <;> rfl)) (by decide) (by unfold idM; decide))
  · rw [hv] at k1
    have g0 : decide (((8 : Nat) : Int) = 0) = false := rfl
    have g1 : decide (((8 : Nat) : Int) = 1) = false := rfl
    have g2 : decide (((8 : Nat) : Int) = 2) = false := rfl
    have g3 : decide (((8 : Nat) : Int) = 3) = false := rfl
    have g4 : decide (((8 : Nat) : Int) = 4) = false := rfl
    have g5 : decide (((8 : Nat) : Int) = 5) = false := rfl
    have g6 : decide (((8 : Nat) : Int) = 6) = false := rfl
    have g7 : decide (((8 : Nat) : Int) = 7) = false := rfl
    have g8 : decide (((8 : Nat) : Int) = 8) = true := rfl
    simp only [hv]
    rw [if_neg (show ¬ 8 < 5 by decide), if_neg (show ¬ (8 = 5) by decide), if_neg (show ¬ (8 = 6) by decide), if_neg (show ¬ (8 = 7) by decide), if_pos trivial]
    refine AC_of Tryz.func106 rfl Tryz.ntmps106 Tryz.results106 (by kernel_rfl) rfl ?_
    simp only [List.zipIdx, List.map, Nat.zero_add, Nat.reduceAdd]
    repeat (first | apply Aw_seq | apply Aw_block | apply Aw_skip | apply Aw_exit | refine Aw_condt rfl ?_ | refine Aw_condf rfl ?_ | ((first | refine qr ?_ | refine qd (by kernel_rfl) (by kernel_rfl) ?_); simp only [go_sem, jE, reduceIte, jA, jM, jS, jL, jD, jB, g0, g1, g2, g3, g4, g5, g6, g7, g8]) | refine dk (by kernel_rfl) ?_ | (refine qx (call_L (N' := [0]) (L := []) (k1) rfl (.cons (.nm rfl) (.cons (.nm rfl) (.nil))) (by decide) (by decide) (by decide) (by simp only [go_sem, jE, reduceIte, jA, jM, jS, jL, jD, jB, g0, g1, g2, g3, g4, g5, g6, g7, g8]; first | done | rfl) (.inl rfl) rfl (by decide)) (by simp only [go_sem, jE, reduceIte, jA, jM, jS, jL, jD, jB, g0, g1, g2, g3, g4, g5, g6, g7, g8]; first | done | rfl) rfl (by simp only [go_sem, Nat.reduceLT]) ?_; simp only [go_sem, jE, reduceIte, jA, jM, jS, jL, jD, jB, g0, g1, g2, g3, g4, g5, g6, g7, g8]))
    exact Aw_ret (retL (M := [0]) (.inl rfl) (by simp only [go_sem, jE, reduceIte, jA, jM, jS, jL, jD, jB]; first | done | rfl) rfl rfl (by rfl) (by simp only [go_sem, jE, reduceIte, jA, jM, jS, jL, jD, jB]; first | done | rfl | (and_intros <;> rfl)) (by decide) (by unfold idM; decide))
  · rw [hv] at k1
    have g0 : decide (((9 : Nat) : Int) = 0) = false := rfl
    have g1 : decide (((9 : Nat) : Int) = 1) = false := rfl
    have g2 : decide (((9 : Nat) : Int) = 2) = false := rfl
    have g3 : decide (((9 : Nat) : Int) = 3) = false := rfl
    have g4 : decide (((9 : Nat) : Int) = 4) = false := rfl
    have g5 : decide (((9 : Nat) : Int) = 5) = false := rfl
    have g6 : decide (((9 : Nat) : Int) = 6) = false := rfl
    have g7 : decide (((9 : Nat) : Int) = 7) = false := rfl
    have g8 : decide (((9 : Nat) : Int) = 8) = false := rfl
    simp only [hv]
    rw [if_neg (show ¬ 9 < 5 by decide), if_neg (show ¬ (9 = 5) by decide), if_neg (show ¬ (9 = 6) by decide), if_neg (show ¬ (9 = 7) by decide), if_neg (show ¬ (9 = 8) by decide)]
    refine AC_of Tryz.func106 rfl Tryz.ntmps106 Tryz.results106 (by kernel_rfl) rfl ?_
    simp only [List.zipIdx, List.map, Nat.zero_add, Nat.reduceAdd]
    repeat (first | apply Aw_seq | apply Aw_block | apply Aw_skip | apply Aw_exit | refine Aw_condt rfl ?_ | refine Aw_condf rfl ?_ | ((first | refine qr ?_ | refine qd (by kernel_rfl) (by kernel_rfl) ?_); simp only [go_sem, jE, reduceIte, jA, jM, jS, jL, jD, jB, g0, g1, g2, g3, g4, g5, g6, g7, g8]) | refine dk (by kernel_rfl) ?_ | (refine qx (call_L (N' := [0]) (L := []) (k1) rfl (.cons (.nm rfl) (.cons (.nm rfl) (.nil))) (by decide) (by decide) (by decide) (by simp only [go_sem, jE, reduceIte, jA, jM, jS, jL, jD, jB, g0, g1, g2, g3, g4, g5, g6, g7, g8]; first | done | rfl) (.inl rfl) rfl (by decide)) (by simp only [go_sem, jE, reduceIte, jA, jM, jS, jL, jD, jB, g0, g1, g2, g3, g4, g5, g6, g7, g8]; first | done | rfl) rfl (by simp only [go_sem, Nat.reduceLT]) ?_; simp only [go_sem, jE, reduceIte, jA, jM, jS, jL, jD, jB, g0, g1, g2, g3, g4, g5, g6, g7, g8]) | (refine qx (call_L (N' := [0]) (L := []) (k4) rfl (.cons (.nm rfl) (.cons (.nm rfl) (.nil))) (by decide) (by decide) (by decide) (by simp only [go_sem, jE, reduceIte, jA, jM, jS, jL, jD, jB, g0, g1, g2, g3, g4, g5, g6, g7, g8]; first | done | rfl) (.inl rfl) rfl (by decide)) (by simp only [go_sem, jE, reduceIte, jA, jM, jS, jL, jD, jB, g0, g1, g2, g3, g4, g5, g6, g7, g8]; first | done | rfl) rfl (by simp only [go_sem, Nat.reduceLT]) ?_; simp only [go_sem, jE, reduceIte, jA, jM, jS, jL, jD, jB, g0, g1, g2, g3, g4, g5, g6, g7, g8]))
    exact Aw_ret (retL (M := [0]) (.inl rfl) (by simp only [go_sem, jE, reduceIte, jA, jM, jS, jL, jD, jB]; first | done | rfl) rfl rfl (by rfl) (by simp only [go_sem, jE, reduceIte, jA, jM, jS, jL, jD, jB]; first | done | rfl | (and_intros <;> rfl)) (by decide) (by unfold idM; decide))
noncomputable def deedsL (b : List Int) (l : List ByteArray) : Nat → List Deed → Nat → List Deed × Nat
  | 0, o, p => (o, p)
  | n + 1, o, p => deedsL b l n (o ++ [(deedV b p l).1]) (deedV b p l).2
theorem deedsL_fin {b : List Int} (hb : byteL b) {l : List ByteArray} (hl : l.length ≤ 1000) (hs : ∀ s ∈ l, s.size ≤ 5) : ∀ (n : Nat) (o : List Deed) (p : Nat), p + 9 * n ≤ 500000 → o.length + n ≤ 1000 → (∀ d ∈ o, d.key.size ≤ 5) → (deedsL b l n o p).1.length = o.length + n ∧ (∀ d ∈ (deedsL b l n o p).1, d.key.size ≤ 5) ∧ (deedsL b l n o p).2 ≤ p + 9 * n
  | 0, o, p, _, _, h => ⟨by simp [deedsL], h, by simp [deedsL]⟩
  | n + 1, o, p, h1, h2, h3 => by
    obtain ⟨a1, a2⟩ := deedV_fin hb (p := p) (l := l) (by omega) hl hs
    obtain ⟨c1, c2, c3⟩ := deedsL_fin hb hl hs n (o ++ [(deedV b p l).1]) (deedV b p l).2 (by omega) (by simp; omega) (fun d hd => by
      rcases List.mem_append.1 hd with h | h
      · exact h3 d h
      · obtain rfl : d = (deedV b p l).1 := by simpa using h
        exact a1)
    simp only [List.length_append, List.length_cons, List.length_nil] at c1
    exact ⟨by simp only [deedsL]; omega, by simp only [deedsL]; exact c2, by simp only [deedsL]; omega⟩
def xTxt : ByteArray := bs [120]
noncomputable def deedsV (b : List Int) (p : Nat) (most : Nat) : List Deed × Nat :=
  let K := keysV b p 5
  let n := pickV b K.2 ((most + 1 : Nat) : Int)
  let r := deedsL b K.1 n [] (K.2 + 1)
  if pickV b r.2 24 = 0 then (r.1 ++ [⟨IntKind.i64.wrap (((pickV b (r.2 + 1) 9 : Nat) : Int) - 1), xTxt, -1⟩], r.2 + 2) else (r.1, r.2 + 1)
theorem deedsV_fin {b : List Int} (hb : byteL b) {p most : Nat} (hp : p ≤ 100000) (hm : most ≤ 100) : (deedsV b p most).1.length ≤ most + 1 ∧ (∀ d ∈ (deedsV b p most).1, d.key.size ≤ 5) ∧ (deedsV b p most).2 ≤ p + 2000 := by
  obtain ⟨a1, a2, a3⟩ := keysV_fin hb (p := p) (most := 5) (by omega) (by omega)
  have h1 := pickV_lt (n := ((most + 1 : Nat) : Int)) hb (show (keysV b p 5).2 ≤ 1000000 by omega) (by omega) (by omega)
  obtain ⟨c1, c2, c3⟩ := deedsL_fin hb (l := (keysV b p 5).1) (by omega) a2 (pickV b (keysV b p 5).2 ((most + 1 : Nat) : Int)) [] ((keysV b p 5).2 + 1) (by omega) (by show 0 + _ ≤ _; omega) (by simp)
  rw [show ([] : List Deed).length = 0 from rfl] at c1
  unfold deedsV
  dsimp only
  split
  · refine ⟨by simp only [List.length_append, List.length_cons, List.length_nil]; omega, fun d hd => ?_, by dsimp only; omega⟩
    rcases List.mem_append.1 hd with h | h
    · exact c2 d h
    · obtain rfl := by simpa using h
      show xTxt.size ≤ 5
      decide
  · exact ⟨by dsimp only; omega, c2, by dsimp only; omega⟩
def dsRow (ds : List Deed) : Obj := dRow 89 3 (ds.map deedD)
@[go_sem] theorem r_dsRow (ds : List Deed) : dsRow ds = dRow 89 3 (ds.map deedD) := rfl
structure DsI (b : List Int) (l : List ByteArray) (R : List Deed × Nat) where
  n : Nat
  o : List Deed
  p : Nat
  hn : o.length + n ≤ 1000
  hp : p + 9 * n ≤ 500000
  h : deedsL b l n o p = R
theorem l71Deeds_ac {b : List Int} {p most : Nat} (hb : byteL b) (hp : p ≤ 100000) (hm : most ≤ 100) : AC Tryz.prog 52 [.c (.ph 0 0 0), iT most] (hpL [some (rdO b p)]) 1 ⟨.t (.c (.h 1)), hpL [some (rdO b (deedsV b p most).2), some (dsRow (deedsV b p most).1)], 2⟩ := by
  refine AC_of Tryz.func52 rfl Tryz.ntmps52 Tryz.results52 (by kernel_rfl) rfl ?_
  simp only [List.zipIdx, List.map, Nat.zero_add, Nat.reduceAdd]
  have w0 : IntKind.i64.wrap ((most : Int) + 1) = ((most + 1 : Nat) : Int) := wn (by omega) (by omega)
  obtain ⟨a1, a2, a3⟩ := keysV_fin hb (p := p) (most := 5) (by omega) (by omega)
  have kk := l71Keys_ac (most := 5) hb (show p ≤ 600000 by omega) (by omega)
  rw [show ((5 : Nat) : Int) = 5 from rfl] at kk
  have k := pickV_ac (n := ((most + 1 : Nat) : Int)) hb (show (keysV b p 5).2 ≤ 1000000 by omega) (by omega)
  have h6 := pickV_lt (n := ((most + 1 : Nat) : Int)) hb (show (keysV b p 5).2 ≤ 1000000 by omega) (by omega) (by omega)
  obtain ⟨R, hR⟩ : ∃ R, R = deedsL b (keysV b p 5).1 (pickV b (keysV b p 5).2 ((most + 1 : Nat) : Int)) [] ((keysV b p 5).2 + 1) := ⟨_, rfl⟩
  obtain ⟨c1, c2, c3⟩ := deedsL_fin hb (l := (keysV b p 5).1) (by omega) a2 (pickV b (keysV b p 5).2 ((most + 1 : Nat) : Int)) [] ((keysV b p 5).2 + 1) (by omega) (by show 0 + _ ≤ _; omega) (by simp)
  rw [← hR] at c1 c2 c3
  rw [show ([] : List Deed).length = 0 from rfl] at c1
  have hV : deedsV b p most = if pickV b R.2 24 = 0 then (R.1 ++ [⟨IntKind.i64.wrap (((pickV b (R.2 + 1) 9 : Nat) : Int) - 1), xTxt, -1⟩], R.2 + 2) else (R.1, R.2 + 1) := by rw [hR]; rfl
  rw [hV]
  repeat (first | apply Aw_seq | apply Aw_block | apply Aw_skip | apply Aw_exit | refine Aw_condt rfl ?_ | refine Aw_condf rfl ?_ | ((first | refine qr ?_ | refine qd (by kernel_rfl) (by kernel_rfl) ?_); simp only [go_sem, jE, reduceIte, jA, jM, jS, jL, jD, jB, w0]) | refine dk (by kernel_rfl) ?_ | (refine qx (call_L (N' := [0]) (L := []) (kk) rfl (.cons (.nm rfl) (.cons (.nm rfl) (.nil))) (by decide) (by decide) (by decide) (by simp only [go_sem, jE, reduceIte, jA, jM, jS, jL, jD, jB, w0]; first | done | rfl) (.inl rfl) rfl (by decide)) (by simp only [go_sem, jE, reduceIte, jA, jM, jS, jL, jD, jB, w0]; first | done | rfl) rfl (by simp only [go_sem, Nat.reduceLT]) ?_; simp only [go_sem, jE, reduceIte, jA, jM, jS, jL, jD, jB, w0]) | (refine qx (call_L (N' := [0]) (L := []) (k) rfl (.cons (.nm rfl) (.cons (.nm rfl) (.nil))) (by decide) (by decide) (by decide) (by simp only [go_sem, jE, reduceIte, jA, jM, jS, jL, jD, jB, w0]; first | done | rfl) (.inl rfl) rfl (by decide)) (by simp only [go_sem, jE, reduceIte, jA, jM, jS, jL, jD, jB, w0]; first | done | rfl) rfl (by simp only [go_sem, Nat.reduceLT]) ?_; simp only [go_sem, jE, reduceIte, jA, jM, jS, jL, jD, jB, w0]))
  refine Aw.rw (rwL (l' := [(7, .t (iT (pickV b (keysV b p 5).2 ((most + 1 : Nat) : Int) : Nat))), (6, .t (.c (.h 1))), (5, .t (strsT (keysV b p 5).1)), (0, .t (.c (.ph 0 0 0)))]) (os := [some (rdO b ((keysV b p 5).2 + 1)), some (dsRow [])]) (M := [0, 4]) (n' := 2) (by repeat (first | exact trivial | refine ⟨rfl, rfl, ?_⟩)) (by rfl) (by simp only [go_sem, jE, reduceIte, jA, jM, jS, jL, jD, jB, List.map_nil]; first | done | rfl) (by decide) (by unfold idM; decide)) ?_
  refine Aw_loop_rw (ι := DsI b (keysV b p 5).1 R) (fun q => S [(7, .t (iT (q.n : Nat))), (6, .t (.c (.h 1))), (5, .t (strsT (keysV b p 5).1)), (0, .t (.c (.ph 0 0 0)))] (hpL [some (rdO b q.p), some (dsRow q.o)]) 2) (fun q => q.n) ⟨pickV b (keysV b p 5).2 ((most + 1 : Nat) : Int), [], (keysV b p 5).2 + 1, by show 0 + _ ≤ _; omega, by omega, hR.symm⟩ ?_
  rintro ⟨n, o, q, hn, hq, h⟩
  dsimp only
  rcases n with _ | n
  · have g1 : decide ((0 : Int) < ((0 : Nat) : Int)) = false := rfl
    have ho : R = (o, q) := h.symm
    rw [ho]
    rw [ho] at c1 c2 c3
    dsimp only at c1 c2 c3 ⊢
    have k24 := pickV_ac (n := 24) hb (show q ≤ 1000000 by omega) (by omega)
    by_cases c : pickV b q 24 = 0
    · have g2 : decide (((pickV b q 24 : Nat) : Int) = 0) = true := decide_eq_true (by omega)
      have k9 := pickV_ac (n := 9) hb (show q + 1 ≤ 1000000 by omega) (by omega)
      have hap : (o.length + 1) * 32 ≤ 140737488355328 := by omega
      rw [if_pos c]
      dsimp only
      repeat (first | apply Aw_seq | apply Aw_block | apply Aw_skip | apply Aw_exit | refine Aw_condt rfl ?_ | refine Aw_condf rfl ?_ | ((first | refine qr ?_ | refine qd (by kernel_rfl) (by kernel_rfl) ?_); simp only [go_sem, jE, reduceIte, jA, jM, jS, jL, jD, jB, g1, g2, hap, xTxt]) | refine dk (by kernel_rfl) ?_ | (refine qx (call_L (N' := [0]) (L := []) (k24) rfl (.cons (.nm rfl) (.cons (.nm rfl) (.nil))) (by decide) (by decide) (by decide) (by simp only [go_sem, jE, reduceIte, jA, jM, jS, jL, jD, jB, g1, g2, hap, xTxt]; first | done | rfl) (.inl rfl) rfl (by decide)) (by simp only [go_sem, jE, reduceIte, jA, jM, jS, jL, jD, jB, g1, g2, hap, xTxt]; first | done | rfl) rfl (by simp only [go_sem, Nat.reduceLT]) ?_; simp only [go_sem, jE, reduceIte, jA, jM, jS, jL, jD, jB, g1, g2, hap, xTxt]) | (refine qx (call_L (N' := [0]) (L := []) (k9) rfl (.cons (.nm rfl) (.cons (.nm rfl) (.nil))) (by decide) (by decide) (by decide) (by simp only [go_sem, jE, reduceIte, jA, jM, jS, jL, jD, jB, g1, g2, hap, xTxt]; first | done | rfl) (.inl rfl) rfl (by decide)) (by simp only [go_sem, jE, reduceIte, jA, jM, jS, jL, jD, jB, g1, g2, hap, xTxt]; first | done | rfl) rfl (by simp only [go_sem, Nat.reduceLT]) ?_; simp only [go_sem, jE, reduceIte, jA, jM, jS, jL, jD, jB, g1, g2, hap, xTxt]))
      exact Aw_ret (retL (M := [0, 11]) (.inl rfl) (by simp only [go_sem, jE, reduceIte, jA, jM, jS, jL, jD, jB]; first | done | rfl) rfl rfl (by rfl) (by simp only [go_sem, jE, reduceIte, jA, jM, jS, jL, jD, jB, List.map_append, List.map_cons, List.map_nil, xTxt]; first | done | rfl | (and_intros <;> rfl)) (by decide) (by unfold idM; decide))
    · have g2 : decide (((pickV b q 24 : Nat) : Int) = 0) = false := decide_eq_false (by omega)
      rw [if_neg c]
      dsimp only
      repeat (first | apply Aw_seq | apply Aw_block | apply Aw_skip | apply Aw_exit | refine Aw_condt rfl ?_ | refine Aw_condf rfl ?_ | ((first | refine qr ?_ | refine qd (by kernel_rfl) (by kernel_rfl) ?_); simp only [go_sem, jE, reduceIte, jA, jM, jS, jL, jD, jB, g1, g2]) | refine dk (by kernel_rfl) ?_ | (refine qx (call_L (N' := [0]) (L := []) (k24) rfl (.cons (.nm rfl) (.cons (.nm rfl) (.nil))) (by decide) (by decide) (by decide) (by simp only [go_sem, jE, reduceIte, jA, jM, jS, jL, jD, jB, g1, g2]; first | done | rfl) (.inl rfl) rfl (by decide)) (by simp only [go_sem, jE, reduceIte, jA, jM, jS, jL, jD, jB, g1, g2]; first | done | rfl) rfl (by simp only [go_sem, Nat.reduceLT]) ?_; simp only [go_sem, jE, reduceIte, jA, jM, jS, jL, jD, jB, g1, g2]))
      exact Aw_ret (retL (M := [0, 1]) (.inl rfl) (by simp only [go_sem, jE, reduceIte, jA, jM, jS, jL, jD, jB]; first | done | rfl) rfl rfl (by rfl) (by simp only [go_sem, jE, reduceIte, jA, jM, jS, jL, jD, jB]; first | done | rfl | (and_intros <;> rfl)) (by decide) (by unfold idM; decide))
  · have g1 : decide ((0 : Int) < ((n + 1 : Nat) : Int)) = true := decide_eq_true (by omega)
    have w1 : IntKind.i64.wrap (((n + 1 : Nat) : Int) - 1) = (n : Int) := wn (by omega) (by omega)
    have kd := l71Deed_ac (l := (keysV b p 5).1) hb (show q ≤ 500000 by omega) (by omega) a2
    have hd := deedV_fin hb (p := q) (l := (keysV b p 5).1) (by omega) (by omega) a2
    have hap : (o.length + 1) * 32 ≤ 140737488355328 := by omega
    repeat (first | apply Aw_seq | apply Aw_block | apply Aw_skip | apply Aw_exit | refine Aw_condt rfl ?_ | refine Aw_condf rfl ?_ | ((first | refine qr ?_ | refine qd (by kernel_rfl) (by kernel_rfl) ?_); simp only [go_sem, jE, reduceIte, jA, jM, jS, jL, jD, jB, g1, w1, hap]) | refine dk (by kernel_rfl) ?_ | (refine qx (call_L (N' := [0]) (L := []) (kd) rfl (.cons (.nm rfl) (.cons (.nm rfl) (.nil))) (by decide) (by decide) (by decide) (by simp only [go_sem, jE, reduceIte, jA, jM, jS, jL, jD, jB, g1, w1, hap]; first | done | rfl) (.inl rfl) rfl (by decide)) (by simp only [go_sem, jE, reduceIte, jA, jM, jS, jL, jD, jB, g1, w1, hap]; first | done | rfl) rfl (by simp only [go_sem, Nat.reduceLT]) ?_; simp only [go_sem, jE, reduceIte, jA, jM, jS, jL, jD, jB, g1, w1, hap]))
    refine ⟨⟨n, o ++ [(deedV b q (keysV b p 5).1).1], (deedV b q (keysV b p 5).1).2, by simp; omega, by omega, h⟩, [0, 8], ?_, rwL (by repeat (first | exact trivial | refine ⟨rfl, rfl, ?_⟩)) (by rfl) (by simp only [go_sem, jE, reduceIte, jA, jM, jS, jL, jD, jB, List.map_append, List.map_cons, List.map_nil]; first | done | rfl) (by decide) (by unfold idM; decide)⟩
    show n < n + 1; omega
theorem eSto_st (keep : Int) : SmSt (eSto keep) := ⟨smR_nil, fun r hr => by simp [eSto] at hr; subst hr; exact smR_nil, by simp [eSto], by simp [eSto], fun x hx => by simp [eSto] at hx; subst hx; simp [eSve], by simp [eSto]⟩
theorem l71DeedsS_ac {b : List Int} {p most : Nat} (hb : byteL b) (hp : p ≤ 100000) (hm : most ≤ 100) : AC Tryz.prog 52 [.c (.ph 0 0 0), iT most] (hpL [some (rdO b p)]) 1 ⟨.t (deedsT (deedsV b p most).1), hpL [some (rdO b (deedsV b p most).2), none], 2⟩ :=
  AC.setS [1] (l71Deeds_ac hb hp hm) (SetC.row0 rfl rfl) ⟨.inl rfl, rfl, trivial⟩
def kpN : Nat → Nat
  | 0 => 0
  | 1 => 1
  | 2 => 1
  | 3 => 2
  | _ => 5
theorem kpN_le : ∀ n, kpN n ≤ 5
  | 0 => by decide
  | 1 => by decide
  | 2 => by decide
  | 3 => by decide
  | n + 4 => Nat.le_refl 5
noncomputable def stoV (b : List Int) (p : Nat) : Sto × Nat := ((pastTo (eSto (kpN (pickV b p 5) : Nat)) (deedsV b (p + 1) 30).1 (deedsV b (p + 1) 30).1.length).1, (deedsV b (p + 1) 30).2)
abbrev hT1 (s : Sto) : TV := .agg [.h 3, .h 1, .h 2, .d (.s (.int .i64 s.keep)), .d (.s (.int .i64 s.time)), .h 4]
theorem sveEq_refl (x : Sve) : sveEq x x = true := by unfold sveEq; simp
theorem eSto_ok {k : Nat} (hk : k ≤ 5) : storeS (eSto (k : Nat)) = true := by
  have h0 : sieveM (keysM []) (k : Int) = some (eSve k) := by rw [keysM_nil]; exact sieve_nil hk
  have hl : ∀ i, i < 3 → sAt (eSto (k : Nat)) i = true := by
    intro i hi
    have lv : lvM (k : Int) i [] (eSve k) = true := by
      unfold lvM
      rw [h0]
      have : runOk [] = true := rfl
      rw [this]
      simp [sveEq_refl]
    have nw : newestM [] [] 0 = true := rfl
    have sp : ∀ j, j < 3 → (decide (j ≤ i) || sPair (eSto (k : Nat)) i j) = true := by
      intro j hj
      have : sPair (eSto (k : Nat)) i j = true := by
        match i, hi, j, hj with
        | 0, _, 0, _ => rfl
        | 0, _, 1, _ => rfl
        | 0, _, 2, _ => rfl
        | 1, _, 0, _ => rfl
        | 1, _, 1, _ => rfl
        | 1, _, 2, _ => rfl
        | 2, _, 0, _ => rfl
        | 2, _, 1, _ => rfl
        | 2, _, 2, _ => rfl
      rw [this]; simp
    unfold sAt
    rw [allI_t sp]
    match i, hi with
    | 0, _ => simpa [eSto] using ⟨lv, nw⟩
    | 1, _ => simpa [eSto] using ⟨lv, nw⟩
    | 2, _ => simpa [eSto] using ⟨lv, nw⟩
  unfold storeS
  rw [allI_t hl]
  unfold headS
  have h1 : inB 0 (k : Int) 5 = true := inKeep hk
  simp only [eSto, h1]
  rfl
theorem l71Store_ac {b : List Int} {p : Nat} (hb : byteL b) (hp : p ≤ 90000) : AC Tryz.prog 88 [.c (.ph 0 0 0)] (hpL [some (rdO b p)]) 1 ⟨.t (hT1 (stoV b p).1), hpL [some (rdO b (stoV b p).2), some (lvRow (stoV b p).1.levels), some (svRow (stoV b p).1.sieves), some (eRow (stoV b p).1.top), some (tmRow (stoV b p).1.times)], 5⟩ := by
  refine AC_of Tryz.func88 rfl Tryz.ntmps88 Tryz.results88 (by kernel_rfl) rfl ?_
  simp only [List.zipIdx, List.map, Nat.zero_add, Nat.reduceAdd]
  obtain ⟨d1, d2, d3⟩ := deedsV_fin hb (p := p + 1) (most := 30) (by omega) (by omega)
  have k5 := pickV_ac (n := 5) hb (show p ≤ 1000000 by omega) (by omega)
  have h5 := pickV_lt (n := 5) hb (show p ≤ 1000000 by omega) (by omega) (by omega)
  obtain ⟨v, hv⟩ : ∃ v, v = pickV b p 5 := ⟨_, rfl⟩
  rw [← hv] at k5 h5
  have k1 := sstoreNew_ok (kpN v) (kpN_le v)
  have kd := l71DeedsS_ac (p := p + 1) (most := 30) hb (by omega) (by omega)
  rw [show ((30 : Nat) : Int) = 30 from rfl] at kd
  have kp := pastDo_ac (eSto (kpN v : Nat)) (deedsV b (p + 1) 30).1 (eSto_st _) (eSto_ok (kpN_le v)) ⟨fun d hd => by have := d2 d hd; unfold smK; omega⟩ (by omega)
  unfold stoV
  rw [← hv]
  dsimp only
  generalize (pastTo (eSto (kpN v : Nat)) (deedsV b (p + 1) 30).1 (deedsV b (p + 1) 30).1.length).1 = x at kp ⊢
  have hx : ([[.d (.s (.int .i64 0))], [.d (.s (.int .i64 1))], [.d (.s (.int .i64 1))], [.d (.s (.int .i64 2))], [.d (.s (.int .i64 5))]] : List (List CV))[v]? = some [.d (.s (.int .i64 (kpN v : Nat)))] := by
    match v, h5 with
    | 0, _ => rfl
    | 1, _ => rfl
    | 2, _ => rfl
    | 3, _ => rfl
    | 4, _ => rfl
  have hlt : v < 5 := by omega
  repeat (first | apply Aw_seq | apply Aw_block | apply Aw_skip | apply Aw_exit | refine Aw_condt rfl ?_ | refine Aw_condf rfl ?_ | ((first | refine qr ?_ | refine qd (by kernel_rfl) (by kernel_rfl) ?_); simp only [go_sem, jE, reduceIte, jA, jM, jS, jL, jD, jB, hx, hlt]) | refine dk (by kernel_rfl) ?_ | (refine qp (k1) (by simp only [go_sem, jE, reduceIte, jA, jM, jS, jL, jD, jB, hx, hlt]; first | done | rfl) rfl (by simp only [go_sem, Nat.reduceLT]) rfl rfl ?_; simp only [go_sem, jE, reduceIte, jA, jM, jS, jL, jD, jB, hx, hlt]) | (refine qx (call_L (N' := [0]) (L := []) (k5) rfl (.cons (.nm rfl) (.cons (.nm rfl) (.nil))) (by decide) (by decide) (by decide) (by simp only [go_sem, jE, reduceIte, jA, jM, jS, jL, jD, jB, hx, hlt]; first | done | rfl) (.inl rfl) rfl (by decide)) (by simp only [go_sem, jE, reduceIte, jA, jM, jS, jL, jD, jB, hx, hlt]; first | done | rfl) rfl (by simp only [go_sem, Nat.reduceLT]) ?_; simp only [go_sem, jE, reduceIte, jA, jM, jS, jL, jD, jB, hx, hlt]) | (refine qx (call_L (N' := [0]) (L := []) (kd) rfl (.cons (.nm rfl) (.cons (.nm rfl) (.nil))) (by decide) (by decide) (by decide) (by simp only [go_sem, jE, reduceIte, jA, jM, jS, jL, jD, jB, hx, hlt]; first | done | rfl) (.inl rfl) rfl (by decide)) (by simp only [go_sem, jE, reduceIte, jA, jM, jS, jL, jD, jB, hx, hlt]; first | done | rfl) rfl (by simp only [go_sem, Nat.reduceLT]) ?_; simp only [go_sem, jE, reduceIte, jA, jM, jS, jL, jD, jB, hx, hlt]) | (refine qx (call_N (L := []) (kp) rfl (.cons (.nm rfl) (.cons (.nm rfl) (.nil))) (.inl rfl) rfl) (by simp only [go_sem, jE, reduceIte, jA, jM, jS, jL, jD, jB, hx, hlt]; first | done | rfl) rfl (by simp only [go_sem, Nat.reduceLT]) ?_; simp only [go_sem, jE, reduceIte, jA, jM, jS, jL, jD, jB, hx, hlt]))
  exact Aw_ret (retL (M := [0, 15, 16, 17, 18]) (.inl rfl) (by simp only [go_sem, jE, reduceIte, jA, jM, jS, jL, jD, jB]; first | done | rfl) rfl rfl (by rfl) (by simp only [go_sem, jE, reduceIte, jA, jM, jS, jL, jD, jB]; first | done | rfl | (and_intros <;> rfl)) (by decide) (by unfold idM; decide))
structure InvS (s : Sto) : Prop where
  h : SmH s
  t0 : 0 ≤ s.time
  t1 : s.time ≤ 999
  tp : s.top.length ≤ 1000
theorem inv_of {s : Sto} (hs : SmSt s) (hv : storeS s = true) : InvS s := by
  obtain ⟨h1, h2, h3, h4, h5, h6, _⟩ := storeS_facts hv
  unfold inB at h6
  rw [Bool.and_eq_true] at h6
  have g1 := of_decide_eq_true h6.1; have g2 := of_decide_eq_true h6.2
  exact ⟨valid_sm hs hv, g1, g2, by omega⟩
theorem downM_inv {s x : Sto} (hs : SmSt s) (hv : storeS s = true) (h : downM s = some x) : InvS x := by
  have v := inv_of hs hv
  obtain ⟨g1, g2, g3, g4, g5⟩ := intoM_sm 2 (s := noTop s) (i := 0) rfl ⟨v.h.ll, v.h.sl, v.h.lev, v.h.tl⟩ hs.top v.tp h
  refine ⟨g1, ?_, ?_, ?_⟩
  · rw [g4]; exact v.t0
  · rw [g4]; exact v.t1
  · rw [g3]; simp [noTop]
theorem addM_inv {s x : Sto} {e : Ent} (hs : SmSt s) (h : addM s e = some x) : InvS x := by
  unfold addM at h
  split at h
  · rename_i hc
    rw [Bool.and_eq_true] at hc
    have he : 0 ≤ e.time ∧ e.time ≤ 999 := by
      have := hc.2
      unfold entOk inB at this
      simp only [Bool.and_eq_true, decide_eq_true_eq] at this
      omega
    obtain ⟨h1, h2, h3, h4, h5, _⟩ := storeS_facts hc.1
    split at h
    · obtain ⟨y, hy, rfl⟩ := Option.map_eq_some_iff.1 h
      obtain ⟨g, gt⟩ := downM_st hs hc.1 hy
      have v := downM_inv hs hc.1 hy
      exact ⟨⟨v.h.ll, v.h.sl, v.h.lev, v.h.tl⟩, he.1, he.2, by show (joinM [e] y.top).length ≤ 1000; rw [joinM_len, gt]; simp⟩
    · obtain rfl := Option.some.inj h
      have v := inv_of hs hc.1
      exact ⟨⟨v.h.ll, v.h.sl, v.h.lev, v.h.tl⟩, he.1, he.2, by show (joinM [e] s.top).length ≤ 1000; rw [joinM_len]; simp; omega⟩
  · cases h
theorem doM_inv {s x : Sto} {d : Deed} (hs : SmSt s) (h : doM s d = some x) : InvS x := by
  unfold doM at h
  split at h
  · exact addM_inv (e := ⟨d.key, d.num, false, nextT s⟩) hs h
  split at h
  · exact addM_inv (e := ⟨d.key, 0, true, nextT s⟩) hs h
  split at h
  · unfold holdM at h
    split at h
    · rename_i hv
      have v := inv_of hs hv
      obtain ⟨h1, h2, h3, h4, h5, _⟩ := storeS_facts hv
      split at h
      · obtain rfl := Option.some.inj h
        have hl : (heldTs s).length ≤ 1000 := by
          unfold heldTs
          split
          · omega
          · simp only [List.length_append, List.length_cons, List.length_nil]; omega
        exact ⟨⟨v.h.ll, v.h.sl, v.h.lev, hl⟩, v.t0, v.t1, v.tp⟩
      · cases h
    · cases h
  split at h
  · unfold freeM at h
    split at h
    · rename_i hv
      have v := inv_of hs hv
      split at h
      · cases h
      · obtain rfl := Option.some.inj h
        exact ⟨⟨v.h.ll, v.h.sl, v.h.lev, Nat.le_trans (colI_len (freeAt_len _ _)) v.h.tl⟩, v.t0, v.t1, v.tp⟩
    · cases h
  split at h
  · unfold sDownM at h
    split at h
    · rename_i hv; exact downM_inv hs hv h
    · cases h
  split at h
  · unfold sJoinM at h
    split at h
    · rename_i hc
      rw [Bool.and_eq_true] at hc
      have v := inv_of hs hc.1
      have sm := valid_sm hs hc.1
      have c2 := hc.2
      unfold inB at c2
      rw [Bool.and_eq_true] at c2
      have g1 := of_decide_eq_true c2.1; have g2 := of_decide_eq_true c2.2
      obtain ⟨y, hy, h2⟩ := Option.bind_eq_some_iff.1 h
      have smx := setM_sm sm (by omega) smR_nil hy
      have hq : SmR (s.levels.getD d.num.toNat []) ∧ (s.levels.getD d.num.toNat []).length ≤ 1000 := by
        rw [List.getD_eq_getElem?_getD, List.getElem?_eq_getElem (by rw [sm.ll]; omega)]; exact sm.lev _ (List.getElem_mem _)
      obtain ⟨q1, q2, q3, q4⟩ := setM_times hy
      obtain ⟨k1, k2, k3, k4, k5⟩ := intoM_sm _ (by omega) smx hq.1 hq.2 h2
      refine ⟨k1, ?_, ?_, ?_⟩
      · rw [k4, q3]; exact v.t0
      · rw [k4, q3]; exact v.t1
      · rw [k3, q2]; exact v.tp
    · cases h
  · cases h
theorem pastTo_inv {s : Sto} {ds : List Deed} (hs : SmSt s) (hi : InvS s) (hd : SmD ds) : ∀ i, i ≤ ds.length → InvS (pastTo s ds i).1 := by
  intro i
  induction i with
  | zero => intro _; exact hi
  | succ i ih =>
    intro hl
    have v := ih (by omega)
    obtain ⟨p1, p2, p3⟩ := pastTo_st hs hd i (by omega)
    obtain ⟨d, hd2⟩ : ∃ d, ds[i]? = some d := ⟨_, List.getElem?_eq_getElem (by omega)⟩
    rw [pastTo_succ hd2]
    unfold pastStep
    cases hm : doM (pastTo s ds i).1 d with
    | none => exact v
    | some x => exact doM_inv p1 hm
theorem stoV_fin {b : List Int} (hb : byteL b) {p : Nat} (hp : p ≤ 90000) : InvS (stoV b p).1 ∧ SmSt (stoV b p).1 ∧ (stoV b p).2 ≤ p + 2001 := by
  obtain ⟨d1, d2, d3⟩ := deedsV_fin hb (p := p + 1) (most := 30) (by omega) (by omega)
  have hd : SmD (deedsV b (p + 1) 30).1 := ⟨fun d hd => by have := d2 d hd; unfold smK; omega⟩
  unfold stoV
  refine ⟨pastTo_inv (eSto_st _) (inv_of (eSto_st _) (eSto_ok (kpN_le _))) hd _ (Nat.le_refl _), (pastTo_st (eSto_st _) hd _ (Nat.le_refl _)).1, by dsimp only; omega⟩
theorem bfs_let {keep : Nat} : ∀ (n : Nat) (q : List (List ByteArray × Nat)), (∀ f ∈ q, Fork f) → (bfs keep n q).letters.length ≤ wts q
  | 0, q, _ => by simp [bfs, zPut]
  | n + 1, [], _ => by simp [bfs, zPut]
  | n + 1, f :: q, h => by
    have hff := h f (by simp)
    have ih := bfs_let (keep := keep) n (q ++ (node keep f).kids) fun g hg => by
      rcases List.mem_append.1 hg with hg | hg
      · exact h g (List.mem_cons_of_mem _ hg)
      · exact node_fork hff g hg
    have rb := runs_b keep f.2 hff.dep 49 (spl f.2 f.1)
    rw [spl_flat f.2 _ f.1 (Nat.le_refl _)] at rb
    have rl := (runs_len keep f.2 49 (spl f.2 f.1)).1
    have e1 : (node keep f).letters.length + wts (node keep f).kids < wt f := by unfold node wt; omega
    simp only [bfs, Put.add, List.length_append]
    rw [wts_app] at ih
    rw [wts_cons]
    omega
theorem sieveM_let {ks : List ByteArray} {keep : Int} {z : Sve} (h : sieveM ks keep = some z) : z.letters.size ≤ 1000 := by
  unfold sieveM at h
  split at h
  · rename_i hc
    obtain ⟨hl, hf, _⟩ := ksOk_iff hc.1
    have e := Option.some.inj h
    rw [← e]
    show (bs (bfsF keep.toNat [(ks, 0)]).letters).size ≤ _
    rw [bs_size]
    have hb := bfs_let (keep := keep.toNat) (wts [(ks, 0)]) [(ks, 0)] fun f hf' => by rw [List.mem_singleton.1 hf']; exact hf
    have e2 : wts [(ks, 0)] ≤ 200 := by rw [wts_one]; unfold wt; simp only []; omega
    unfold bfsF
    omega
  · cases h
def LetS (s : Sto) : Prop := ∀ x ∈ s.sieves, x.letters.size ≤ 1000
theorem setM_let {s x : Sto} {i : Nat} {r : List Ent} (hs : LetS s) (h : setM s i r = some x) : LetS x := by
  obtain ⟨y, rfl, hy, _⟩ := setM_ok h
  intro z hz
  rcases List.mem_or_eq_of_mem_set hz with h | rfl
  · exact hs z h
  · exact sieveM_let hy
theorem intoM_let : ∀ (d : Nat) {s x : Sto} {i : Nat} {r : List Ent}, LetS s → intoM d s i r = some x → LetS x
  | 0, s, x, i, r, hs, h => setM_let hs h
  | d + 1, s, x, i, r, hs, h => by
    simp only [intoM] at h
    split at h
    · rename_i y hy
      obtain rfl := Option.some.inj h
      exact setM_let hs hy
    · obtain ⟨s1, h1, h2⟩ := Option.bind_eq_some_iff.1 h
      exact setM_let (intoM_let d hs h1) h2
theorem downM_let {s x : Sto} (hs : LetS s) (h : downM s = some x) : LetS x := intoM_let 2 (s := noTop s) hs h
theorem addM_let {s x : Sto} {e : Ent} (hs : LetS s) (h : addM s e = some x) : LetS x := by
  unfold addM at h
  split at h
  · split at h
    · obtain ⟨y, hy, rfl⟩ := Option.map_eq_some_iff.1 h
      exact (downM_let hs hy : LetS y)
    · obtain rfl := Option.some.inj h; exact hs
  · cases h
theorem doM_let {s x : Sto} {d : Deed} (hs : LetS s) (h : doM s d = some x) : LetS x := by
  unfold doM at h
  split at h
  · exact addM_let (e := ⟨d.key, d.num, false, nextT s⟩) hs h
  split at h
  · exact addM_let (e := ⟨d.key, 0, true, nextT s⟩) hs h
  split at h
  · unfold holdM at h
    split at h
    · split at h
      · obtain rfl := Option.some.inj h; exact hs
      · cases h
    · cases h
  split at h
  · unfold freeM at h
    split at h
    · split at h
      · cases h
      · obtain rfl := Option.some.inj h; exact hs
    · cases h
  split at h
  · unfold sDownM at h
    split at h
    · exact downM_let hs h
    · cases h
  split at h
  · unfold sJoinM at h
    split at h
    · obtain ⟨y, hy, h2⟩ := Option.bind_eq_some_iff.1 h
      exact intoM_let _ (setM_let hs hy) h2
    · cases h
  · cases h
theorem pastTo_let {s : Sto} {ds : List Deed} (hs : LetS s) : ∀ i, i ≤ ds.length → LetS (pastTo s ds i).1 := by
  intro i
  induction i with
  | zero => intro _; exact hs
  | succ i ih =>
    intro hl
    have v := ih (by omega)
    obtain ⟨d, hd2⟩ : ∃ d, ds[i]? = some d := ⟨_, List.getElem?_eq_getElem (by omega)⟩
    rw [pastTo_succ hd2]
    unfold pastStep
    cases hm : doM (pastTo s ds i).1 d with
    | none => exact v
    | some x => exact doM_let v hm
theorem stoV_let (b : List Int) (p : Nat) : LetS (stoV b p).1 := by
  unfold stoV
  refine pastTo_let ?_ _ (Nat.le_refl _)
  intro x hx
  simp [eSto] at hx
  subst hx
  show ByteArray.size zs ≤ 1000
  decide
abbrev toT (s : Sto) : TV := .agg [.h 1, .d (.rs 1 (s.levels.map lvD)), .d (.rs 5 (s.sieves.map sveD)), .d (.s (.int .i64 s.keep)), .d (.s (.int .i64 s.time)), .d (.rs 1 (s.times.map intD))]
theorem l71StoreT_ac {b : List Int} {p : Nat} (hb : byteL b) (hp : p ≤ 90000) : AC Tryz.prog 88 [.c (.ph 0 0 0)] (hpL [some (rdO b p)]) 1 ⟨.t (toT (stoV b p).1), hpL [some (rdO b (stoV b p).2), some (eRow (stoV b p).1.top)], 2⟩ := by
  have h := AC.setS [1, 2, 4] (l71Store_ac hb hp) (y := .t (.agg [.h 3, .d (.rs 1 ((stoV b p).1.levels.map lvD)), .d (.rs 5 ((stoV b p).1.sieves.map sveD)), .d (.s (.int .i64 (stoV b p).1.keep)), .d (.s (.int .i64 (stoV b p).1.time)), .d (.rs 1 ((stoV b p).1.times.map intD))])) (os' := [some (rdO b (stoV b p).2), none, none, some (eRow (stoV b p).1.top), none])
    (.cons (.inl rfl) (.cons (SetC.row0 rfl rfl) (.cons (SetC.row0 rfl rfl) (.cons (.inl rfl) (.cons (.inl rfl) (.cons (SetC.row0 rfl rfl) .nil)))))) ⟨.inl rfl, rfl, .inl rfl, rfl, trivial⟩
  refine AC.sel (M := [0, 3]) h rfl rfl (selL rfl ?_) (by decide) fun m hm => ?_
  · simp only [go_sem, LeftL]
  · obtain rfl : m = 0 := by omega
    exact ⟨by decide, rfl⟩
theorem l71StoreM_ac {b : List Int} {p : Nat} (hb : byteL b) (hp : p ≤ 90000) : AC Tryz.prog 88 [.c (.ph 0 0 0)] (hpL [some (rdO b p)]) 1 ⟨.t (.agg [.h 1, .d (.rs 1 ((stoV b p).1.levels.map lvD)), .d (.rs 5 ((stoV b p).1.sieves.map sveD)), .d (.s (.int .i64 (stoV b p).1.keep)), .d (.s (.int .i64 (stoV b p).1.time)), .h 2]), hpL [some (rdO b (stoV b p).2), some (eRow (stoV b p).1.top), some (tmRow (stoV b p).1.times)], 3⟩ := by
  have h := AC.setS [1, 2] (l71Store_ac hb hp) (y := .t (.agg [.h 3, .d (.rs 1 ((stoV b p).1.levels.map lvD)), .d (.rs 5 ((stoV b p).1.sieves.map sveD)), .d (.s (.int .i64 (stoV b p).1.keep)), .d (.s (.int .i64 (stoV b p).1.time)), .h 4])) (os' := [some (rdO b (stoV b p).2), none, none, some (eRow (stoV b p).1.top), some (tmRow (stoV b p).1.times)])
    (.cons (.inl rfl) (.cons (SetC.row0 rfl rfl) (.cons (SetC.row0 rfl rfl) (.cons (.inl rfl) (.cons (.inl rfl) (.cons (.inl rfl) .nil)))))) ⟨.inl rfl, rfl, .inl rfl, rfl, .inl rfl, rfl, trivial⟩
  refine AC.sel (M := [0, 3, 4]) h rfl rfl (selL rfl ?_) (by decide) fun m hm => ?_
  · simp only [go_sem, LeftL]
  · obtain rfl : m = 0 := by omega
    exact ⟨by decide, rfl⟩
theorem l71StoreV_ac {b : List Int} {p : Nat} (hb : byteL b) (hp : p ≤ 90000) : AC Tryz.prog 88 [.c (.ph 0 0 0)] (hpL [some (rdO b p)]) 1 ⟨.t (.agg [.h 1, .d (.rs 1 ((stoV b p).1.levels.map lvD)), .h 2, .d (.s (.int .i64 (stoV b p).1.keep)), .d (.s (.int .i64 (stoV b p).1.time)), .d (.rs 1 ((stoV b p).1.times.map intD))]), hpL [some (rdO b (stoV b p).2), some (eRow (stoV b p).1.top), some (svRow (stoV b p).1.sieves)], 3⟩ := by
  have h := AC.setS [1, 4] (l71Store_ac hb hp) (y := .t (.agg [.h 3, .d (.rs 1 ((stoV b p).1.levels.map lvD)), .h 2, .d (.s (.int .i64 (stoV b p).1.keep)), .d (.s (.int .i64 (stoV b p).1.time)), .d (.rs 1 ((stoV b p).1.times.map intD))])) (os' := [some (rdO b (stoV b p).2), none, some (svRow (stoV b p).1.sieves), some (eRow (stoV b p).1.top), none])
    (.cons (.inl rfl) (.cons (SetC.row0 rfl rfl) (.cons (.inl rfl) (.cons (.inl rfl) (.cons (.inl rfl) (.cons (SetC.row0 rfl rfl) .nil)))))) ⟨.inl rfl, rfl, .inl rfl, rfl, .inl rfl, rfl, trivial⟩
  refine AC.sel (M := [0, 3, 2]) h rfl rfl (selL rfl ?_) (by decide) fun m hm => ?_
  · simp only [go_sem, LeftL]
  · obtain rfl : m = 0 := by omega
    exact ⟨by decide, rfl⟩
def sp0 (s : Sto) (v : Nat) : Sto := { s with time := if v = 0 then -1 else 1000 }
def sp1 (s : Sto) : Sto := { s with times := s.times ++ [s.time + 1] }
def sp2 (s : Sto) : Sto := { s with levels := s.levels.drop 1 }
def upL (x : Sve) : Sve := { x with letters := x.letters ++ bs [97] }
def sp3 (s : Sto) : Sto := { s with sieves := s.sieves.modifyHead upL }
def sp4 (s : Sto) : Sto := { s with keep := 6 }
def sp5 (s : Sto) : Sto := { s with top := s.top ++ [⟨⟨#[]⟩, 0, false, 0⟩] }
noncomputable def spoV (b : List Int) (p : Nat) : Sto × Nat :=
  let s := stoV b p
  if pickV b s.2 14 ≠ 0 then (s.1, s.2 + 1)
  else if pickV b (s.2 + 1) 6 = 0 then (sp0 s.1 (pickV b (s.2 + 2) 2), s.2 + 3)
  else if pickV b (s.2 + 1) 6 = 1 then (sp1 s.1, s.2 + 2)
  else if pickV b (s.2 + 1) 6 = 2 then (sp2 s.1, s.2 + 2)
  else if pickV b (s.2 + 1) 6 = 3 then (sp3 s.1, s.2 + 2)
  else if pickV b (s.2 + 1) 6 = 4 then (sp4 s.1, s.2 + 2)
  else (sp5 s.1, s.2 + 2)
theorem l71Spoilt_ac {b : List Int} {p : Nat} (hb : byteL b) (hp : p ≤ 90000) : AC Tryz.prog 34 [.c (.ph 0 0 0)] (hpL [some (rdO b p)]) 1 ⟨.t (toT (spoV b p).1), hpL [some (rdO b (spoV b p).2), some (eRow (spoV b p).1.top)], 2⟩ := by
  obtain ⟨inv, st, hq⟩ := stoV_fin hb hp
  have hlet := stoV_let b p
  have kT := l71StoreT_ac hb hp
  have kM := l71StoreM_ac hb hp
  have kV := l71StoreV_ac hb hp
  unfold spoV
  generalize stoV b p = sq at inv st hq hlet kT kM kV ⊢
  obtain ⟨s, q⟩ := sq
  dsimp only at inv st hq hlet kT kM kV ⊢
  have k14 := pickV_ac (n := 14) hb (show q ≤ 1000000 by omega) (by omega)
  have k6 := pickV_ac (n := 6) hb (show q + 1 ≤ 1000000 by omega) (by omega)
  have l6 := pickV_lt (n := 6) hb (show q + 1 ≤ 1000000 by omega) (by omega) (by omega)
  by_cases c0 : pickV b q 14 = 0
  case neg =>
    rw [if_pos c0]
    have g0 : decide ((0 : Int) < ((pickV b q 14 : Nat) : Int)) = true := decide_eq_true (by omega)
    refine AC_of Tryz.func34 rfl Tryz.ntmps34 Tryz.results34 (by kernel_rfl) rfl ?_
    simp only [List.zipIdx, List.map, Nat.zero_add, Nat.reduceAdd]
    repeat (first | apply Aw_seq | apply Aw_block | apply Aw_skip | apply Aw_exit | refine Aw_condt rfl ?_ | refine Aw_condf rfl ?_ | ((first | refine qr ?_ | refine qd (by kernel_rfl) (by kernel_rfl) ?_); simp only [go_sem, jE, reduceIte, jA, jM, jS, jL, jD, jB, g0]) | refine dk (by kernel_rfl) ?_ | (refine qx (call_L (N' := [0]) (L := []) (kT) rfl (.cons (.nm rfl) (.nil)) (by decide) (by decide) (by decide) (by simp only [go_sem, jE, reduceIte, jA, jM, jS, jL, jD, jB, g0]; first | done | rfl) (.inl rfl) rfl (by decide)) (by simp only [go_sem, jE, reduceIte, jA, jM, jS, jL, jD, jB, g0]; first | done | rfl) rfl (by simp only [go_sem, Nat.reduceLT]) ?_; simp only [go_sem, jE, reduceIte, jA, jM, jS, jL, jD, jB, g0]) | (refine qx (call_L (N' := [0]) (L := []) (k14) rfl (.cons (.nm rfl) (.cons (.nm rfl) (.nil))) (by decide) (by decide) (by decide) (by simp only [go_sem, jE, reduceIte, jA, jM, jS, jL, jD, jB, g0]; first | done | rfl) (.inl rfl) rfl (by decide)) (by simp only [go_sem, jE, reduceIte, jA, jM, jS, jL, jD, jB, g0]; first | done | rfl) rfl (by simp only [go_sem, Nat.reduceLT]) ?_; simp only [go_sem, jE, reduceIte, jA, jM, jS, jL, jD, jB, g0]))
    exact Aw_ret (retL (M := [0, 3]) (.inl rfl) (by simp only [go_sem, jE, reduceIte, jA, jM, jS, jL, jD, jB]; first | done | rfl) rfl rfl (by rfl) (by simp only [go_sem, jE, reduceIte, jA, jM, jS, jL, jD, jB]; first | done | rfl | (and_intros <;> rfl)) (by decide) (by unfold idM; decide))
  rw [if_neg (by omega)]
  have g0 : decide ((0 : Int) < ((pickV b q 14 : Nat) : Int)) = false := decide_eq_false (by omega)
  by_cases c1 : pickV b (q + 1) 6 = 0
  case pos =>
    rw [if_pos c1]
    have d0 : decide (((pickV b (q + 1) 6 : Nat) : Int) = 0) = true := decide_eq_true (by omega)
    have k2 := pickV_ac (n := 2) hb (show q + 1 + 1 ≤ 1000000 by omega) (by omega)
    have l2 := pickV_lt (n := 2) hb (show q + 1 + 1 ≤ 1000000 by omega) (by omega) (by omega)
    obtain ⟨v, hv⟩ : ∃ v, v = pickV b (q + 2) 2 := ⟨_, rfl⟩
    change AC Tryz.prog _ _ _ _ ⟨.t (iT (pickV b (q + 2) 2 : Nat)), _, _⟩ at k2
    change ((pickV b (q + 2) 2 : Nat) : Int) < 2 at l2
    rw [← hv] at k2 l2 ⊢
    have hvl : v < 2 := by omega
    have hx : ([[.d (.s (.int .i64 (-1)))], [.d (.s (.int .i64 1000))]] : List (List CV))[v]? = some [.d (.s (.int .i64 (if v = 0 then -1 else 1000)))] := by
      match v, hvl with
      | 0, _ => rfl
      | 1, _ => rfl
    refine AC_of Tryz.func34 rfl Tryz.ntmps34 Tryz.results34 (by kernel_rfl) rfl ?_
    simp only [List.zipIdx, List.map, Nat.zero_add, Nat.reduceAdd]
    repeat (first | apply Aw_seq | apply Aw_block | apply Aw_skip | apply Aw_exit | refine Aw_condt rfl ?_ | refine Aw_condf rfl ?_ | ((first | refine qr ?_ | refine qd (by kernel_rfl) (by kernel_rfl) ?_); simp only [go_sem, jE, reduceIte, jA, jM, jS, jL, jD, jB, g0, d0, hvl, hx]) | refine dk (by kernel_rfl) ?_ | (refine qx (call_L (N' := [0]) (L := []) (kT) rfl (.cons (.nm rfl) (.nil)) (by decide) (by decide) (by decide) (by simp only [go_sem, jE, reduceIte, jA, jM, jS, jL, jD, jB, g0, d0, hvl, hx]; first | done | rfl) (.inl rfl) rfl (by decide)) (by simp only [go_sem, jE, reduceIte, jA, jM, jS, jL, jD, jB, g0, d0, hvl, hx]; first | done | rfl) rfl (by simp only [go_sem, Nat.reduceLT]) ?_; simp only [go_sem, jE, reduceIte, jA, jM, jS, jL, jD, jB, g0, d0, hvl, hx]) | (refine qx (call_L (N' := [0]) (L := []) (k14) rfl (.cons (.nm rfl) (.cons (.nm rfl) (.nil))) (by decide) (by decide) (by decide) (by simp only [go_sem, jE, reduceIte, jA, jM, jS, jL, jD, jB, g0, d0, hvl, hx]; first | done | rfl) (.inl rfl) rfl (by decide)) (by simp only [go_sem, jE, reduceIte, jA, jM, jS, jL, jD, jB, g0, d0, hvl, hx]; first | done | rfl) rfl (by simp only [go_sem, Nat.reduceLT]) ?_; simp only [go_sem, jE, reduceIte, jA, jM, jS, jL, jD, jB, g0, d0, hvl, hx]) | (refine qx (call_L (N' := [0]) (L := []) (k6) rfl (.cons (.nm rfl) (.cons (.nm rfl) (.nil))) (by decide) (by decide) (by decide) (by simp only [go_sem, jE, reduceIte, jA, jM, jS, jL, jD, jB, g0, d0, hvl, hx]; first | done | rfl) (.inl rfl) rfl (by decide)) (by simp only [go_sem, jE, reduceIte, jA, jM, jS, jL, jD, jB, g0, d0, hvl, hx]; first | done | rfl) rfl (by simp only [go_sem, Nat.reduceLT]) ?_; simp only [go_sem, jE, reduceIte, jA, jM, jS, jL, jD, jB, g0, d0, hvl, hx]) | (refine qx (call_L (N' := [0]) (L := []) (k2) rfl (.cons (.nm rfl) (.cons (.nm rfl) (.nil))) (by decide) (by decide) (by decide) (by simp only [go_sem, jE, reduceIte, jA, jM, jS, jL, jD, jB, g0, d0, hvl, hx]; first | done | rfl) (.inl rfl) rfl (by decide)) (by simp only [go_sem, jE, reduceIte, jA, jM, jS, jL, jD, jB, g0, d0, hvl, hx]; first | done | rfl) rfl (by simp only [go_sem, Nat.reduceLT]) ?_; simp only [go_sem, jE, reduceIte, jA, jM, jS, jL, jD, jB, g0, d0, hvl, hx]))
    exact Aw_ret (retL (M := [0, 3]) (.inl rfl) (by simp only [go_sem, jE, reduceIte, jA, jM, jS, jL, jD, jB]; first | done | rfl) rfl rfl (by rfl) (by simp only [go_sem, jE, reduceIte, jA, jM, jS, jL, jD, jB]; first | done | rfl | (and_intros <;> rfl)) (by decide) (by unfold idM; decide))
  have d0 : decide (((pickV b (q + 1) 6 : Nat) : Int) = 0) = false := decide_eq_false (by omega)
  rw [if_neg c1]
  by_cases c2 : pickV b (q + 1) 6 = 1
  case pos =>
    rw [if_pos c2]
    have d1 : decide (((pickV b (q + 1) 6 : Nat) : Int) = 1) = true := decide_eq_true (by omega)
    have w1 : IntKind.i64.wrap (s.time + 1) = s.time + 1 := wrap_in (by have := inv.t0; omega) (by have := inv.t1; omega)
    have hap : (s.times.length + 1) * 8 ≤ 140737488355328 := by have := inv.h.tl; omega
    have h : AC Tryz.prog 34 [.c (.ph 0 0 0)] (hpL [some (rdO b p)]) 1 ⟨.t (.agg [.h 1, .d (.rs 1 (s.levels.map lvD)), .d (.rs 5 (s.sieves.map sveD)), .d (.s (.int .i64 s.keep)), .d (.s (.int .i64 s.time)), .h 2]), hpL [some (rdO b (q + 2)), some (eRow s.top), some (tmRow (s.times ++ [s.time + 1]))], 3⟩ := by
      refine AC_of Tryz.func34 rfl Tryz.ntmps34 Tryz.results34 (by kernel_rfl) rfl ?_
      simp only [List.zipIdx, List.map, Nat.zero_add, Nat.reduceAdd]
      repeat (first | apply Aw_seq | apply Aw_block | apply Aw_skip | apply Aw_exit | refine Aw_condt rfl ?_ | refine Aw_condf rfl ?_ | ((first | refine qr ?_ | refine qd (by kernel_rfl) (by kernel_rfl) ?_); simp only [go_sem, jE, reduceIte, jA, jM, jS, jL, jD, jB, g0, d0, d1, w1, hap]) | refine dk (by kernel_rfl) ?_ | (refine qx (call_L (N' := [0]) (L := []) (kM) rfl (.cons (.nm rfl) (.nil)) (by decide) (by decide) (by decide) (by simp only [go_sem, jE, reduceIte, jA, jM, jS, jL, jD, jB, g0, d0, d1, w1, hap]; first | done | rfl) (.inl rfl) rfl (by decide)) (by simp only [go_sem, jE, reduceIte, jA, jM, jS, jL, jD, jB, g0, d0, d1, w1, hap]; first | done | rfl) rfl (by simp only [go_sem, Nat.reduceLT]) ?_; simp only [go_sem, jE, reduceIte, jA, jM, jS, jL, jD, jB, g0, d0, d1, w1, hap]) | (refine qx (call_L (N' := [0]) (L := []) (k14) rfl (.cons (.nm rfl) (.cons (.nm rfl) (.nil))) (by decide) (by decide) (by decide) (by simp only [go_sem, jE, reduceIte, jA, jM, jS, jL, jD, jB, g0, d0, d1, w1, hap]; first | done | rfl) (.inl rfl) rfl (by decide)) (by simp only [go_sem, jE, reduceIte, jA, jM, jS, jL, jD, jB, g0, d0, d1, w1, hap]; first | done | rfl) rfl (by simp only [go_sem, Nat.reduceLT]) ?_; simp only [go_sem, jE, reduceIte, jA, jM, jS, jL, jD, jB, g0, d0, d1, w1, hap]) | (refine qx (call_L (N' := [0]) (L := []) (k6) rfl (.cons (.nm rfl) (.cons (.nm rfl) (.nil))) (by decide) (by decide) (by decide) (by simp only [go_sem, jE, reduceIte, jA, jM, jS, jL, jD, jB, g0, d0, d1, w1, hap]; first | done | rfl) (.inl rfl) rfl (by decide)) (by simp only [go_sem, jE, reduceIte, jA, jM, jS, jL, jD, jB, g0, d0, d1, w1, hap]; first | done | rfl) rfl (by simp only [go_sem, Nat.reduceLT]) ?_; simp only [go_sem, jE, reduceIte, jA, jM, jS, jL, jD, jB, g0, d0, d1, w1, hap]))
      exact Aw_ret (retL (M := [0, 3, 20]) (.inl rfl) (by simp only [go_sem, jE, reduceIte, jA, jM, jS, jL, jD, jB]; first | done | rfl) rfl rfl (by rfl) (by simp only [go_sem, jE, reduceIte, jA, jM, jS, jL, jD, jB, List.map_append, List.map_cons, List.map_nil]; first | done | rfl | (and_intros <;> rfl)) (by decide) (by unfold idM; decide))
    refine AC.sel (M := [0, 1]) (AC.setS [2] h (y := .t (toT (sp1 s))) (os' := [some (rdO b (q + 2)), some (eRow s.top), none]) (.cons (.inl rfl) (.cons (.inl rfl) (.cons (.inl rfl) (.cons (.inl rfl) (.cons (.inl rfl) (.cons (SetC.row0 rfl rfl) .nil)))))) ⟨.inl rfl, rfl, .inl rfl, rfl, trivial⟩) rfl rfl (selL rfl ?_) (by decide) fun m hm => ?_
    · simp only [go_sem, LeftL, sp1]
    · obtain rfl : m = 0 := by omega
      exact ⟨by decide, rfl⟩
  have d1 : decide (((pickV b (q + 1) 6 : Nat) : Int) = 1) = false := decide_eq_false (by omega)
  rw [if_neg c2]
  by_cases c3 : pickV b (q + 1) 6 = 2
  case pos =>
    rw [if_pos c3]
    have d2 : decide (((pickV b (q + 1) 6 : Nat) : Int) = 2) = true := decide_eq_true (by omega)
    have hl : s.levels.length = 3 := inv.h.ll
    have e2 : List.drop (Int.toNat 1) (List.take 3 (s.levels.map lvD)) = (s.levels.drop 1).map lvD := by rw [List.take_of_length_le (by simp [hl]), List.map_drop]; rfl
    refine AC_of Tryz.func34 rfl Tryz.ntmps34 Tryz.results34 (by kernel_rfl) rfl ?_
    simp only [List.zipIdx, List.map, Nat.zero_add, Nat.reduceAdd]
    repeat (first | apply Aw_seq | apply Aw_block | apply Aw_skip | apply Aw_exit | refine Aw_condt rfl ?_ | refine Aw_condf rfl ?_ | ((first | refine qr ?_ | refine qd (by kernel_rfl) (by kernel_rfl) ?_); simp only [go_sem, jE, reduceIte, jA, jM, jS, jL, jD, jB, g0, d0, d1, d2, hl, e2]) | refine dk (by kernel_rfl) ?_ | (refine qx (call_L (N' := [0]) (L := []) (kT) rfl (.cons (.nm rfl) (.nil)) (by decide) (by decide) (by decide) (by simp only [go_sem, jE, reduceIte, jA, jM, jS, jL, jD, jB, g0, d0, d1, d2, hl, e2]; first | done | rfl) (.inl rfl) rfl (by decide)) (by simp only [go_sem, jE, reduceIte, jA, jM, jS, jL, jD, jB, g0, d0, d1, d2, hl, e2]; first | done | rfl) rfl (by simp only [go_sem, Nat.reduceLT]) ?_; simp only [go_sem, jE, reduceIte, jA, jM, jS, jL, jD, jB, g0, d0, d1, d2, hl, e2]) | (refine qx (call_L (N' := [0]) (L := []) (k14) rfl (.cons (.nm rfl) (.cons (.nm rfl) (.nil))) (by decide) (by decide) (by decide) (by simp only [go_sem, jE, reduceIte, jA, jM, jS, jL, jD, jB, g0, d0, d1, d2, hl, e2]; first | done | rfl) (.inl rfl) rfl (by decide)) (by simp only [go_sem, jE, reduceIte, jA, jM, jS, jL, jD, jB, g0, d0, d1, d2, hl, e2]; first | done | rfl) rfl (by simp only [go_sem, Nat.reduceLT]) ?_; simp only [go_sem, jE, reduceIte, jA, jM, jS, jL, jD, jB, g0, d0, d1, d2, hl, e2]) | (refine qx (call_L (N' := [0]) (L := []) (k6) rfl (.cons (.nm rfl) (.cons (.nm rfl) (.nil))) (by decide) (by decide) (by decide) (by simp only [go_sem, jE, reduceIte, jA, jM, jS, jL, jD, jB, g0, d0, d1, d2, hl, e2]; first | done | rfl) (.inl rfl) rfl (by decide)) (by simp only [go_sem, jE, reduceIte, jA, jM, jS, jL, jD, jB, g0, d0, d1, d2, hl, e2]; first | done | rfl) rfl (by simp only [go_sem, Nat.reduceLT]) ?_; simp only [go_sem, jE, reduceIte, jA, jM, jS, jL, jD, jB, g0, d0, d1, d2, hl, e2]))
    exact Aw_ret (retL (M := [0, 3]) (.inl rfl) (by simp only [go_sem, jE, reduceIte, jA, jM, jS, jL, jD, jB]; first | done | rfl) rfl rfl (by rfl) (by simp only [go_sem, jE, reduceIte, jA, jM, jS, jL, jD, jB]; first | done | rfl | (and_intros <;> rfl)) (by decide) (by unfold idM; decide))
  have d2 : decide (((pickV b (q + 1) 6 : Nat) : Int) = 2) = false := decide_eq_false (by omega)
  rw [if_neg c3]
  by_cases c4 : pickV b (q + 1) 6 = 3
  case pos =>
    rw [if_pos c4]
    have d3 : decide (((pickV b (q + 1) 6 : Nat) : Int) = 3) = true := decide_eq_true (by omega)
    obtain ⟨x, y, z, hxyz⟩ := len3 inv.h.sl
    have hsz : x.letters.size ≤ 1000 := hlet x (by rw [hxyz]; simp)
    have hap : x.letters.size ≤ 9223372036854775806 := by omega
    rw [hxyz] at kV
    have h : AC Tryz.prog 34 [.c (.ph 0 0 0)] (hpL [some (rdO b p)]) 1 ⟨.t (.agg [.h 1, .d (.rs 1 (s.levels.map lvD)), .h 2, .d (.s (.int .i64 s.keep)), .d (.s (.int .i64 s.time)), .d (.rs 1 (s.times.map intD))]), hpL [some (rdO b (q + 2)), some (eRow s.top), some (svRow [upL x, y, z])], 3⟩ := by
      refine AC_of Tryz.func34 rfl Tryz.ntmps34 Tryz.results34 (by kernel_rfl) rfl ?_
      simp only [List.zipIdx, List.map, Nat.zero_add, Nat.reduceAdd]
      repeat (first | apply Aw_seq | apply Aw_block | apply Aw_skip | apply Aw_exit | refine Aw_condt rfl ?_ | refine Aw_condf rfl ?_ | ((first | refine qr ?_ | refine qd (by kernel_rfl) (by kernel_rfl) ?_); simp only [go_sem, jE, reduceIte, jA, jM, jS, jL, jD, jB, g0, d0, d1, d2, d3, hap]) | refine dk (by kernel_rfl) ?_ | (refine qx (call_L (N' := [0]) (L := []) (kV) rfl (.cons (.nm rfl) (.nil)) (by decide) (by decide) (by decide) (by simp only [go_sem, jE, reduceIte, jA, jM, jS, jL, jD, jB, g0, d0, d1, d2, d3, hap]; first | done | rfl) (.inl rfl) rfl (by decide)) (by simp only [go_sem, jE, reduceIte, jA, jM, jS, jL, jD, jB, g0, d0, d1, d2, d3, hap]; first | done | rfl) rfl (by simp only [go_sem, Nat.reduceLT]) ?_; simp only [go_sem, jE, reduceIte, jA, jM, jS, jL, jD, jB, g0, d0, d1, d2, d3, hap]) | (refine qx (call_L (N' := [0]) (L := []) (k14) rfl (.cons (.nm rfl) (.cons (.nm rfl) (.nil))) (by decide) (by decide) (by decide) (by simp only [go_sem, jE, reduceIte, jA, jM, jS, jL, jD, jB, g0, d0, d1, d2, d3, hap]; first | done | rfl) (.inl rfl) rfl (by decide)) (by simp only [go_sem, jE, reduceIte, jA, jM, jS, jL, jD, jB, g0, d0, d1, d2, d3, hap]; first | done | rfl) rfl (by simp only [go_sem, Nat.reduceLT]) ?_; simp only [go_sem, jE, reduceIte, jA, jM, jS, jL, jD, jB, g0, d0, d1, d2, d3, hap]) | (refine qx (call_L (N' := [0]) (L := []) (k6) rfl (.cons (.nm rfl) (.cons (.nm rfl) (.nil))) (by decide) (by decide) (by decide) (by simp only [go_sem, jE, reduceIte, jA, jM, jS, jL, jD, jB, g0, d0, d1, d2, d3, hap]; first | done | rfl) (.inl rfl) rfl (by decide)) (by simp only [go_sem, jE, reduceIte, jA, jM, jS, jL, jD, jB, g0, d0, d1, d2, d3, hap]; first | done | rfl) rfl (by simp only [go_sem, Nat.reduceLT]) ?_; simp only [go_sem, jE, reduceIte, jA, jM, jS, jL, jD, jB, g0, d0, d1, d2, d3, hap]))
      exact Aw_ret (retL (M := [0, 3, 4]) (.inl rfl) (by simp only [go_sem, jE, reduceIte, jA, jM, jS, jL, jD, jB]; first | done | rfl) rfl rfl (by rfl) (by simp only [go_sem, jE, reduceIte, jA, jM, jS, jL, jD, jB, upL]; first | done | rfl | (and_intros <;> rfl)) (by decide) (by unfold idM; decide))
    have e3 : (sp3 s).sieves = [upL x, y, z] := by unfold sp3; rw [hxyz]; rfl
    show AC Tryz.prog 34 [.c (.ph 0 0 0)] (hpL [some (rdO b p)]) 1 ⟨.t (.agg [.h 1, .d (.rs 1 (s.levels.map lvD)), .d (.rs 5 ((sp3 s).sieves.map sveD)), .d (.s (.int .i64 s.keep)), .d (.s (.int .i64 s.time)), .d (.rs 1 (s.times.map intD))]), hpL [some (rdO b (q + 2)), some (eRow s.top)], 2⟩
    rw [e3]
    refine AC.sel (M := [0, 1]) (AC.setS [2] h (y := .t (.agg [.h 1, .d (.rs 1 (s.levels.map lvD)), .d (.rs 5 ([upL x, y, z].map sveD)), .d (.s (.int .i64 s.keep)), .d (.s (.int .i64 s.time)), .d (.rs 1 (s.times.map intD))])) (os' := [some (rdO b (q + 2)), some (eRow s.top), none]) (.cons (.inl rfl) (.cons (.inl rfl) (.cons (SetC.row0 rfl rfl) (.cons (.inl rfl) (.cons (.inl rfl) (.cons (.inl rfl) .nil)))))) ⟨.inl rfl, rfl, .inl rfl, rfl, trivial⟩) rfl rfl (selL rfl ?_) (by decide) fun m hm => ?_
    · simp only [go_sem, LeftL]
    · obtain rfl : m = 0 := by omega
      exact ⟨by decide, rfl⟩
  have d3 : decide (((pickV b (q + 1) 6 : Nat) : Int) = 3) = false := decide_eq_false (by omega)
  rw [if_neg c4]
  by_cases c5 : pickV b (q + 1) 6 = 4
  case pos =>
    rw [if_pos c5]
    have d4 : decide (((pickV b (q + 1) 6 : Nat) : Int) = 4) = true := decide_eq_true (by omega)
    refine AC_of Tryz.func34 rfl Tryz.ntmps34 Tryz.results34 (by kernel_rfl) rfl ?_
    simp only [List.zipIdx, List.map, Nat.zero_add, Nat.reduceAdd]
    repeat (first | apply Aw_seq | apply Aw_block | apply Aw_skip | apply Aw_exit | refine Aw_condt rfl ?_ | refine Aw_condf rfl ?_ | ((first | refine qr ?_ | refine qd (by kernel_rfl) (by kernel_rfl) ?_); simp only [go_sem, jE, reduceIte, jA, jM, jS, jL, jD, jB, g0, d0, d1, d2, d3, d4]) | refine dk (by kernel_rfl) ?_ | (refine qx (call_L (N' := [0]) (L := []) (kT) rfl (.cons (.nm rfl) (.nil)) (by decide) (by decide) (by decide) (by simp only [go_sem, jE, reduceIte, jA, jM, jS, jL, jD, jB, g0, d0, d1, d2, d3, d4]; first | done | rfl) (.inl rfl) rfl (by decide)) (by simp only [go_sem, jE, reduceIte, jA, jM, jS, jL, jD, jB, g0, d0, d1, d2, d3, d4]; first | done | rfl) rfl (by simp only [go_sem, Nat.reduceLT]) ?_; simp only [go_sem, jE, reduceIte, jA, jM, jS, jL, jD, jB, g0, d0, d1, d2, d3, d4]) | (refine qx (call_L (N' := [0]) (L := []) (k14) rfl (.cons (.nm rfl) (.cons (.nm rfl) (.nil))) (by decide) (by decide) (by decide) (by simp only [go_sem, jE, reduceIte, jA, jM, jS, jL, jD, jB, g0, d0, d1, d2, d3, d4]; first | done | rfl) (.inl rfl) rfl (by decide)) (by simp only [go_sem, jE, reduceIte, jA, jM, jS, jL, jD, jB, g0, d0, d1, d2, d3, d4]; first | done | rfl) rfl (by simp only [go_sem, Nat.reduceLT]) ?_; simp only [go_sem, jE, reduceIte, jA, jM, jS, jL, jD, jB, g0, d0, d1, d2, d3, d4]) | (refine qx (call_L (N' := [0]) (L := []) (k6) rfl (.cons (.nm rfl) (.cons (.nm rfl) (.nil))) (by decide) (by decide) (by decide) (by simp only [go_sem, jE, reduceIte, jA, jM, jS, jL, jD, jB, g0, d0, d1, d2, d3, d4]; first | done | rfl) (.inl rfl) rfl (by decide)) (by simp only [go_sem, jE, reduceIte, jA, jM, jS, jL, jD, jB, g0, d0, d1, d2, d3, d4]; first | done | rfl) rfl (by simp only [go_sem, Nat.reduceLT]) ?_; simp only [go_sem, jE, reduceIte, jA, jM, jS, jL, jD, jB, g0, d0, d1, d2, d3, d4]))
    exact Aw_ret (retL (M := [0, 3]) (.inl rfl) (by simp only [go_sem, jE, reduceIte, jA, jM, jS, jL, jD, jB]; first | done | rfl) rfl rfl (by rfl) (by simp only [go_sem, jE, reduceIte, jA, jM, jS, jL, jD, jB]; first | done | rfl | (and_intros <;> rfl)) (by decide) (by unfold idM; decide))
  have d4 : decide (((pickV b (q + 1) 6 : Nat) : Int) = 4) = false := decide_eq_false (by omega)
  rw [if_neg c5]
  have hap : (s.top.length + 1) * 40 ≤ 140737488355328 := by have := inv.tp; omega
  refine AC_of Tryz.func34 rfl Tryz.ntmps34 Tryz.results34 (by kernel_rfl) rfl ?_
  simp only [List.zipIdx, List.map, Nat.zero_add, Nat.reduceAdd]
  repeat (first | apply Aw_seq | apply Aw_block | apply Aw_skip | apply Aw_exit | refine Aw_condt rfl ?_ | refine Aw_condf rfl ?_ | ((first | refine qr ?_ | refine qd (by kernel_rfl) (by kernel_rfl) ?_); simp only [go_sem, jE, reduceIte, jA, jM, jS, jL, jD, jB, g0, d0, d1, d2, d3, d4, hap]) | refine dk (by kernel_rfl) ?_ | (refine qx (call_L (N' := [0]) (L := []) (kT) rfl (.cons (.nm rfl) (.nil)) (by decide) (by decide) (by decide) (by simp only [go_sem, jE, reduceIte, jA, jM, jS, jL, jD, jB, g0, d0, d1, d2, d3, d4, hap]; first | done | rfl) (.inl rfl) rfl (by decide)) (by simp only [go_sem, jE, reduceIte, jA, jM, jS, jL, jD, jB, g0, d0, d1, d2, d3, d4, hap]; first | done | rfl) rfl (by simp only [go_sem, Nat.reduceLT]) ?_; simp only [go_sem, jE, reduceIte, jA, jM, jS, jL, jD, jB, g0, d0, d1, d2, d3, d4, hap]) | (refine qx (call_L (N' := [0]) (L := []) (k14) rfl (.cons (.nm rfl) (.cons (.nm rfl) (.nil))) (by decide) (by decide) (by decide) (by simp only [go_sem, jE, reduceIte, jA, jM, jS, jL, jD, jB, g0, d0, d1, d2, d3, d4, hap]; first | done | rfl) (.inl rfl) rfl (by decide)) (by simp only [go_sem, jE, reduceIte, jA, jM, jS, jL, jD, jB, g0, d0, d1, d2, d3, d4, hap]; first | done | rfl) rfl (by simp only [go_sem, Nat.reduceLT]) ?_; simp only [go_sem, jE, reduceIte, jA, jM, jS, jL, jD, jB, g0, d0, d1, d2, d3, d4, hap]) | (refine qx (call_L (N' := [0]) (L := []) (k6) rfl (.cons (.nm rfl) (.cons (.nm rfl) (.nil))) (by decide) (by decide) (by decide) (by simp only [go_sem, jE, reduceIte, jA, jM, jS, jL, jD, jB, g0, d0, d1, d2, d3, d4, hap]; first | done | rfl) (.inl rfl) rfl (by decide)) (by simp only [go_sem, jE, reduceIte, jA, jM, jS, jL, jD, jB, g0, d0, d1, d2, d3, d4, hap]; first | done | rfl) rfl (by simp only [go_sem, Nat.reduceLT]) ?_; simp only [go_sem, jE, reduceIte, jA, jM, jS, jL, jD, jB, g0, d0, d1, d2, d3, d4, hap]))
  exact Aw_ret (retL (M := [0, 23]) (.inl rfl) (by simp only [go_sem, jE, reduceIte, jA, jM, jS, jL, jD, jB]; first | done | rfl) rfl rfl (by rfl) (by simp only [go_sem, jE, reduceIte, jA, jM, jS, jL, jD, jB, sp5, List.map_append, List.map_cons, List.map_nil]; first | done | rfl | (and_intros <;> rfl)) (by decide) (by unfold idM; decide))
structure SpS (s : Sto) : Prop where
  st : SmSt s
  t0 : -1 ≤ s.time
  t1 : s.time ≤ 1000
theorem spoV_fin {b : List Int} (hb : byteL b) {p : Nat} (hp : p ≤ 90000) : SpS (spoV b p).1 ∧ (spoV b p).2 ≤ p + 2010 := by
  obtain ⟨inv, st, hq⟩ := stoV_fin hb hp
  unfold spoV
  generalize stoV b p = sq at inv st hq ⊢
  obtain ⟨s, q⟩ := sq
  dsimp only at inv st hq ⊢
  have i0 := inv.t0
  have i1 := inv.t1
  have hll := inv.h.ll
  have htl := inv.h.tl
  have base : SpS s := ⟨st, by omega, by omega⟩
  split
  · exact ⟨base, by dsimp only; omega⟩
  split
  · refine ⟨⟨⟨st.top, st.lev, st.ll, st.sl, st.rl, st.tl⟩, ?_, ?_⟩, by dsimp only; omega⟩
    · show -1 ≤ (if _ = 0 then (-1 : Int) else 1000); split <;> omega
    · show (if _ = 0 then (-1 : Int) else 1000) ≤ 1000; split <;> omega
  split
  · exact ⟨⟨⟨st.top, st.lev, st.ll, st.sl, st.rl, by show (s.times ++ [s.time + 1]).length ≤ _; rw [List.length_append]; simp; omega⟩, by show -1 ≤ s.time; omega, by show s.time ≤ 1000; omega⟩, by dsimp only; omega⟩
  split
  · exact ⟨⟨⟨st.top, fun r hr => st.lev r (List.mem_of_mem_drop hr), by show (s.levels.drop 1).length ≤ _; rw [List.length_drop]; omega, st.sl, st.rl, st.tl⟩, by show -1 ≤ s.time; omega, by show s.time ≤ 1000; omega⟩, by dsimp only; omega⟩
  split
  · refine ⟨⟨⟨st.top, st.lev, st.ll, ?_, ?_, st.tl⟩, by show -1 ≤ s.time; omega, by show s.time ≤ 1000; omega⟩, by dsimp only; omega⟩
    · show (s.sieves.modifyHead upL).length ≤ _; rw [List.length_modifyHead]; exact st.sl
    · intro x hx
      replace hx : x ∈ s.sieves.modifyHead upL := hx
      have hr := st.rl
      cases hs : s.sieves with
      | nil => rw [hs] at hx; simp at hx
      | cons y r =>
        rw [hs] at hx hr
        rcases List.mem_cons.1 (show x ∈ upL y :: r from hx) with rfl | h
        · exact hr y (by simp)
        · exact hr x (List.mem_cons_of_mem _ h)
  split
  · exact ⟨⟨⟨st.top, st.lev, st.ll, st.sl, st.rl, st.tl⟩, by show -1 ≤ s.time; omega, by show s.time ≤ 1000; omega⟩, by dsimp only; omega⟩
  · refine ⟨⟨⟨⟨?_, ?_⟩, st.lev, st.ll, st.sl, st.rl, st.tl⟩, by show -1 ≤ s.time; omega, by show s.time ≤ 1000; omega⟩, by dsimp only; omega⟩
    · show (s.top ++ [_]).length ≤ _; rw [List.length_append]; have := inv.tp; simp; omega
    · intro e he
      rcases List.mem_append.1 (show e ∈ s.top ++ [_] from he) with h | h
      · exact st.top.key e h
      · obtain rfl := List.mem_singleton.1 h
        show (ByteArray.size ⟨#[]⟩) ≤ _
        decide
def Sk (r : List Ent) : Prop := ∀ e ∈ r, e.key.size ≤ 5
def LvK (s : Sto) : Prop := ∀ r ∈ s.levels, Sk r
theorem LvK.get {s : Sto} (h : LvK s) (i : Nat) : Sk (s.levels.getD i []) := by
  rw [List.getD_eq_getElem?_getD]
  rcases Nat.lt_or_ge i s.levels.length with c | c
  · rw [List.getElem?_eq_getElem c]; exact h _ (List.getElem_mem c)
  · rw [List.getElem?_eq_none c]; intro e he; simp at he
theorem intoM_topK : ∀ (d : Nat) {s s' : Sto} {i : Nat} {r : List Ent}, intoM d s i r = some s' → s'.top = s.top
  | 0, s, s', i, r, h => (setM_times h).2.1
  | d + 1, s, s', i, r, h => by
    simp only [intoM] at h
    split at h
    · rename_i x hx
      obtain rfl := Option.some.inj h
      exact (setM_times hx).2.1
    · obtain ⟨s1, h1, h2⟩ := Option.bind_eq_some_iff.1 h
      rw [(setM_times h2).2.1, intoM_topK d h1]
structure KeyP (s : Sto) : Prop where
  top : Sk s.top
  lev : LvK s
structure FewS (s : Sto) : Prop where
  key : KeyP s
  top : s.top.length ≤ 1001
  ll : s.levels.length ≤ 3
  lev : ∀ r ∈ s.levels, r.length ≤ 1000
  tl : s.times.length ≤ 1001
set_option maxHeartbeats 1000000
theorem colI_sub {r : List Ent} {f : Nat → List Ent} (hf : ∀ i, (f i).Sublist (r[i]?).toList) : ∀ n, (colI n f).Sublist (r.take n)
  | 0 => by rw [colI_0]; simp
  | n + 1 => by
    rw [colI_succ, List.take_add_one]
    exact (colI_sub hf n).append (hf n)
theorem trim1_sub (r : List Ent) (ts : List Int) : (trim1 r ts).Sublist r := by
  have h := colI_sub (r := r) (f := trimAt r ts) (fun i => by
    unfold trimAt
    cases r[i]? with
    | none => simp
    | some e => simp only; split <;> simp) r.length
  rwa [List.take_length] at h
theorem trim2_sub (r : List Ent) : (trim2 r).Sublist r := by
  have h := colI_sub (r := r) (f := lowAt r) (fun i => by
    unfold lowAt
    cases r[i]? with
    | none => simp
    | some e => simp only; split <;> simp) r.length
  rwa [List.take_length] at h
theorem trimM_sub (r : List Ent) (ts : List Int) (b : Bool) : (trimM r ts b).Sublist r := by
  unfold trimM
  split
  · exact (trim2_sub _).trans (trim1_sub r ts)
  · exact trim1_sub r ts
theorem run_sub {r q : List Ent} (h : runOk r = true) (hq : q.Sublist r) : runOk q = true := by
  obtain ⟨a1, a2, a3⟩ := run_pw h
  exact run_mk (a1.sublist hq) (fun e he => a2 e (hq.subset he)) (by have := hq.length_le; omega)
abbrev lvA (s : Sto) (i : Nat) : List Ent := s.levels.getD i []
structure LvF (s : Sto) (T : Int) (i : Nat) : Prop where
  ll : s.levels.length = 3
  sl : s.sieves.length = 3
  run : ∀ k, i ≤ k → k < 3 → runOk (lvA s k) = true ∧ (lvA s k).length ≤ 8 * (k + 1)
  sv : ∀ k, i ≤ k → k < 3 → sieveM (keysM (lvA s k)) s.keep = some (s.sieves.getD k zSve)
  tm : ∀ k, i ≤ k → k < 3 → ∀ e ∈ lvA s k, e.time ≤ T
  nn : ∀ j k, i ≤ j → j < k → k < 3 → newerM (lvA s j) (lvA s k) = true
theorem getD_set_eq {α : Type} {l : List α} {i : Nat} {x d : α} (h : i < l.length) : (l.set i x).getD i d = x := by
  rw [List.getD_eq_getElem?_getD, List.getElem?_set_self h]; rfl
theorem getD_set_ne {α : Type} {l : List α} {i j : Nat} {x d : α} (h : i ≠ j) : (l.set i x).getD j d = l.getD j d := by
  rw [List.getD_eq_getElem?_getD, List.getElem?_set_ne h, ← List.getD_eq_getElem?_getD]
theorem setM_lvF {s s' : Sto} {T : Int} {i : Nat} {r : List Ent} (hi : i < 3) (hl : LvF s T (i + 1)) (hr : runOk r = true) (ht : ∀ e ∈ r, e.time ≤ T) (hn : ∀ k, i < k → k < 3 → newerM r (lvA s k) = true) (h : setM s i r = some s') :
    LvF s' T i ∧ (∀ k, k ≠ i → lvA s' k = lvA s k ∧ s'.sieves.getD k zSve = s.sieves.getD k zSve) ∧ lvA s' i = r := by
  obtain ⟨x, rfl, hx, hlen⟩ := setM_ok h
  have e1 : ∀ k, k ≠ i → (s.levels.set i r).getD k [] = s.levels.getD k [] := fun k hk => getD_set_ne (Ne.symm hk)
  have e2 : ∀ k, k ≠ i → (s.sieves.set i x).getD k zSve = s.sieves.getD k zSve := fun k hk => getD_set_ne (Ne.symm hk)
  have e3 : (s.levels.set i r).getD i [] = r := getD_set_eq (by rw [hl.ll]; exact hi)
  have e4 : (s.sieves.set i x).getD i zSve = x := getD_set_eq (by rw [hl.sl]; exact hi)
  refine ⟨⟨by simpa using hl.ll, by simpa using hl.sl, fun k h1 h2 => ?_, fun k h1 h2 => ?_, fun k h1 h2 => ?_, fun j k h1 h2 h3 => ?_⟩, fun k hk => ⟨e1 k hk, e2 k hk⟩, e3⟩
  · by_cases c : k = i
    · subst c; show runOk ((s.levels.set k r).getD k []) = true ∧ _; simp only [lvA]; rw [e3]; exact ⟨hr, hlen⟩
    · simp only [lvA]; rw [e1 k c]; exact hl.run k (by omega) h2
  · by_cases c : k = i
    · subst c; simp only [lvA]; rw [e3, e4]; exact hx
    · simp only [lvA]; rw [e1 k c, e2 k c]; exact hl.sv k (by omega) h2
  · by_cases c : k = i
    · subst c; simp only [lvA]; rw [e3]; exact ht
    · simp only [lvA]; rw [e1 k c]; exact hl.tm k (by omega) h2
  · simp only [lvA]
    rw [e1 k (by omega)]
    by_cases c : j = i
    · subst c; rw [e3]; exact hn k h2 h3
    · rw [e1 j c]; exact hl.nn j k (by omega) h2 h3
theorem intoM_lvF {T : Int} : ∀ (d : Nat) {s s' : Sto} {i : Nat} {r : List Ent}, i + d = 2 → LvF s T i → runOk r = true → r.length ≤ 16 → (∀ e ∈ r, e.time ≤ T) → (∀ k, i ≤ k → k < 3 → newerM r (lvA s k) = true) → intoM d s i r = some s' →
    LvF s' T i ∧ (∀ k, k < i → lvA s' k = lvA s k ∧ s'.sieves.getD k zSve = s.sieves.getD k zSve) ∧ ∀ k, i ≤ k → k < 3 → ∀ e ∈ lvA s' k, e ∈ r ∨ ∃ j, i ≤ j ∧ j < 3 ∧ e ∈ lvA s j
  | d, s, s', i, r, hi, hl, hr, hlen, ht, hn, h => by
    have hll := hl.ll
    obtain ⟨q1, q2⟩ := hl.run i (Nat.le_refl _) (by omega)
    have hj := join_run hr q1 (hn i (Nat.le_refl _) (by omega)) (by omega)
    have up : LvF s T (i + 1) := ⟨hl.ll, hl.sl, fun k h1 h2 => hl.run k (by omega) h2, fun k h1 h2 => hl.sv k (by omega) h2, fun k h1 h2 => hl.tm k (by omega) h2, fun j k h1 h2 h3 => hl.nn j k (by omega) h2 h3⟩
    have one : ∀ b x, setM s i (trimM (joinM r (lvA s i)) s.times b) = some x → LvF x T i ∧ (∀ k, k < i → lvA x k = lvA s k ∧ x.sieves.getD k zSve = s.sieves.getD k zSve) ∧ ∀ k, i ≤ k → k < 3 → ∀ e ∈ lvA x k, e ∈ r ∨ ∃ j, i ≤ j ∧ j < 3 ∧ e ∈ lvA s j := by
      intro b x hx
      have hsub := trimM_sub (joinM r (lvA s i)) s.times b
      have mem : ∀ e ∈ trimM (joinM r (lvA s i)) s.times b, e ∈ r ∨ e ∈ lvA s i := fun e he => mem_joinM (hsub.subset he)
      obtain ⟨g1, g2, g3⟩ := setM_lvF (by omega) up (run_sub hj hsub) (fun e he => (mem e he).elim (ht e) (hl.tm i (Nat.le_refl _) (by omega) e)) (fun k h1 h2 => newer_iff.2 fun a ha y hy hk => by
        rcases mem a ha with h | h
        · exact newer_iff.1 (hn k (by omega) h2) a h y hy hk
        · exact newer_iff.1 (hl.nn i k (Nat.le_refl _) h1 h2) a h y hy hk) hx
      refine ⟨g1, fun k hk => g2 k (by omega), fun k h1 h2 e he => ?_⟩
      by_cases c : k = i
      · subst c
        rw [g3] at he
        exact (mem e he).imp id fun h => ⟨k, Nat.le_refl _, h2, h⟩
      · rw [(g2 k c).1] at he
        exact .inr ⟨k, h1, h2, he⟩
    cases d with
    | zero => exact one true s' h
    | succ d =>
      simp only [intoM] at h
      split at h
      · rename_i x hx
        obtain rfl := Option.some.inj h
        exact one false x hx
      · obtain ⟨s1, h1, h2⟩ := Option.bind_eq_some_iff.1 h
        obtain ⟨g1, g2, g3⟩ := intoM_lvF d (i := i + 1) (by omega) up q1 (by omega) (hl.tm i (Nat.le_refl _) (by omega)) (fun k h3 h4 => hl.nn i k (Nat.le_refl _) (by omega) h4) h1
        have hsub := trimM_sub r s1.times false
        obtain ⟨f1, f2, f3⟩ := setM_lvF (by omega) g1 (run_sub hr hsub) (fun e he => ht e (hsub.subset he)) (fun k h3 h4 => newer_iff.2 fun a ha y hy hk => by
          rcases g3 k (by omega) h4 y hy with h | ⟨j, j1, j2, h⟩
          · exact newer_iff.1 (hn i (Nat.le_refl _) (by omega)) a (hsub.subset ha) y h hk
          · exact newer_iff.1 (hn j (by omega) j2) a (hsub.subset ha) y h hk) h2
        refine ⟨f1, fun k hk => ?_, fun k h3 h4 e he => ?_⟩
        · obtain ⟨a1, a2⟩ := f2 k (by omega)
          obtain ⟨b1, b2⟩ := g2 k (by omega)
          exact ⟨by rw [a1, b1], by rw [a2, b2]⟩
        · by_cases c : k = i
          · subst c
            rw [f3] at he
            exact .inl (hsub.subset he)
          · rw [(f2 k c).1] at he
            rcases g3 k (by omega) h4 e he with h | ⟨j, j1, j2, h⟩
            · exact .inr ⟨i, Nat.le_refl _, by omega, h⟩
            · exact .inr ⟨j, by omega, j2, h⟩
structure Va (s : Sto) : Prop where
  lv : LvF s s.time 0
  kp : inB 0 s.keep 5 = true
  tm : inB 0 s.time 999 = true
  ts : timesM s.times s.time = true
  top : runOk s.top = true
  tl : s.top.length ≤ 4
  tn : ∀ e ∈ s.top, e.time ≤ s.time
  nt : ∀ i, i < 3 → newerM s.top (lvA s i) = true
theorem Va.ok {s : Sto} (h : Va s) : storeS s = true := by
  have hll := h.lv.ll
  have hsl := h.lv.sl
  have lvl : ∀ i, i < 3 → s.levels[i]? = some (lvA s i) ∧ s.sieves[i]? = some (s.sieves.getD i zSve) := fun i hi => by
    refine ⟨?_, ?_⟩
    · rw [List.getElem?_eq_getElem (by omega)]; simp [lvA, List.getD_eq_getElem?_getD, List.getElem?_eq_getElem (show i < s.levels.length by omega)]
    · rw [List.getElem?_eq_getElem (by omega)]; simp [List.getD_eq_getElem?_getD, List.getElem?_eq_getElem (show i < s.sieves.length by omega)]
  unfold storeS headS
  rw [decide_eq_true hll, decide_eq_true hsl, h.kp, h.tm, h.ts, h.top, decide_eq_true h.tl]
  simp only [Bool.and_self, Bool.true_and]
  refine allI_iff.2 fun i hi => ?_
  obtain ⟨a1, a2⟩ := lvl i hi
  obtain ⟨r1, r2⟩ := h.lv.run i (by omega) hi
  unfold sAt
  rw [a1, a2]
  simp only [Bool.and_eq_true]
  refine ⟨⟨?_, (newest_iff r1).2 ⟨h.tn, h.nt i hi⟩⟩, allI_iff.2 fun k hk => ?_⟩
  · unfold lvM
    rw [r1, decide_eq_true r2, h.lv.sv i (by omega) hi]
    simp only [Bool.true_and, Option.isSome_some, Option.getD_some]
    exact sveEq_iff.2 rfl
  · by_cases c : k ≤ i
    · rw [decide_eq_true c]; rfl
    · rw [decide_eq_false c, Bool.false_or]
      unfold sPair
      rw [a1, (lvl k hk).1]
      exact (newest_iff (h.lv.run k (by omega) hk).1).2 ⟨h.lv.tm i (by omega) hi, h.lv.nn i k (by omega) (by omega) hk⟩
theorem intoM_tmsK : ∀ (d : Nat) {s s' : Sto} {i : Nat} {r : List Ent}, intoM d s i r = some s' → s'.times = s.times
  | 0, s, s', i, r, h => (setM_times h).1
  | d + 1, s, s', i, r, h => by
    simp only [intoM] at h
    split at h
    · rename_i x hx
      obtain rfl := Option.some.inj h
      exact (setM_times hx).1
    · obtain ⟨s1, h1, h2⟩ := Option.bind_eq_some_iff.1 h
      rw [(setM_times h2).1, intoM_tmsK d h1]
theorem tm_mk {ts : List Int} {now : Int} (h1 : ts.Pairwise (· < ·)) (h2 : ∀ t ∈ ts, 0 ≤ t ∧ t ≤ now) (h3 : ts.length ≤ 3) : timesM ts now = true := by
  unfold timesM
  rw [Bool.and_eq_true]
  refine ⟨allI_iff.2 fun i hi => ?_, decide_eq_true h3⟩
  unfold tmAt
  rw [List.getElem?_eq_getElem hi]
  have hb := h2 _ (List.getElem_mem hi)
  simp only [Bool.and_eq_true]
  refine ⟨by unfold inB; simp; omega, ?_⟩
  cases i with
  | zero => rfl
  | succ j =>
    simp only
    rw [List.getElem?_eq_getElem (by omega)]
    have := List.pairwise_iff_getElem.1 h1 j (j + 1) (by omega) hi (by omega)
    simp; omega
theorem tm_pw {ts : List Int} {now : Int} (h : timesM ts now = true) : ts.Pairwise (· < ·) := List.pairwise_iff_getElem.2 fun i j hi hj hij => tm_lt h j i hij hj
theorem down_va {s x : Sto} (hv : Va s) (h : downM s = some x) : LvF x s.time 0 ∧ x.top = [] ∧ x.time = s.time ∧ x.times = s.times ∧ x.keep = s.keep := by
  have lv2 : LvF { s with top := [] } s.time 0 := ⟨hv.lv.ll, hv.lv.sl, hv.lv.run, hv.lv.sv, hv.lv.tm, hv.lv.nn⟩
  obtain ⟨g1, _, _⟩ := intoM_lvF 2 (s := { s with top := [] }) (i := 0) rfl lv2 hv.top (by have := hv.tl; omega) hv.tn (fun k _ hk => hv.nt k hk) h
  exact ⟨g1, intoM_topK 2 (s := { s with top := [] }) h, into_time 2 (s := { s with top := [] }) h, intoM_tmsK 2 (s := { s with top := [] }) h, intoM_keep 2 (s := { s with top := [] }) h⟩
theorem LvF.mono {s : Sto} {T T' : Int} {i : Nat} (h : LvF s T i) (ht : T ≤ T') : LvF s T' i := ⟨h.ll, h.sl, h.run, h.sv, fun k a b e he => by have := h.tm k a b e he; omega, h.nn⟩
theorem addM_va {s x : Sto} {e : Ent} (hv : Va s) (ht : e.time = s.time + 1) (h : addM s e = some x) : Va x := by
  unfold addM at h
  rw [hv.ok, Bool.true_and] at h
  split at h
  case isFalse => cases h
  rename_i he
  have hb : 1 ≤ e.time ∧ e.time ≤ 999 := by
    unfold entOk inB at he
    simp only [Bool.and_eq_true, decide_eq_true_eq] at he
    exact he.2
  have re : runOk [e] = true := run_mk (by simp) (by simpa using he) (by simp)
  have mk : ∀ (y : Sto) (t : List Ent), LvF y s.time 0 → y.times = s.times → y.keep = s.keep → runOk t = true → t.length ≤ 3 → (∀ a ∈ t, a.time ≤ s.time) → (∀ i, i < 3 → newerM t (lvA y i) = true) → Va { y with top := joinM [e] t, time := e.time } := by
    intro y t g1 g2 g3 g4 g5 g6 g7
    have hj : runOk (joinM [e] t) = true := join_run re g4 (newer_iff.2 fun a ha b hb' _ => by
      obtain rfl : a = e := by simpa using ha
      have := g6 b hb'; omega) (by simp; omega)
    obtain ⟨p1, p2, p3⟩ := tm_at hv.ts
    refine ⟨⟨g1.ll, g1.sl, g1.run, g1.sv, (g1.mono (by omega : s.time ≤ e.time)).tm, g1.nn⟩, by show inB 0 y.keep 5 = true; rw [g3]; exact hv.kp, ?_, ?_, hj, ?_, ?_, ?_⟩
    · show inB 0 e.time 999 = true
      unfold inB; simp; omega
    · show timesM y.times e.time = true
      rw [g2]
      exact tm_mk (tm_pw hv.ts) (fun t ht' => by have := p2 t ht'; omega) p1
    · show (joinM [e] t).length ≤ 4
      rw [joinM_len]; simp; omega
    · intro a ha
      show a.time ≤ e.time
      rcases mem_joinM ha with h | h
      · obtain rfl : a = e := by simpa using h
        omega
      · have := g6 a h; omega
    · intro i hi
      refine newer_iff.2 fun a ha b hb' hk => ?_
      rcases mem_joinM ha with h | h
      · obtain rfl : a = e := by simpa using h
        have := g1.tm i (by omega) hi b hb'; omega
      · exact newer_iff.1 (g7 i hi) a h b hb' hk
  split at h
  · obtain ⟨y, hy, rfl⟩ := Option.map_eq_some_iff.1 h
    obtain ⟨g1, g2, g3, g4, g5⟩ := down_va hv hy
    exact mk y y.top g1 g4 g5 (by rw [g2]; rfl) (by rw [g2]; simp) (by rw [g2]; simp) (by intro i _; rw [g2]; rfl)
  · rename_i c
    obtain rfl := Option.some.inj h
    exact mk s s.top hv.lv rfl rfl hv.top (by omega) hv.tn hv.nt
theorem nt_nil (b : List Ent) : newerM [] b = true := rfl
theorem do_va {s x : Sto} {d : Deed} (hv : Va s) (h : doM s d = some x) : Va x := by
  have hok := hv.ok
  have h6 := hv.tm
  unfold inB at h6
  rw [Bool.and_eq_true] at h6
  have t0 := of_decide_eq_true h6.1; have t1 := of_decide_eq_true h6.2
  have nx : nextT s = s.time + 1 := wrap_in (by omega) (by omega)
  unfold doM at h
  split at h
  · exact addM_va (e := ⟨d.key, d.num, false, nextT s⟩) hv nx h
  split at h
  · exact addM_va (e := ⟨d.key, 0, true, nextT s⟩) hv nx h
  split at h
  · unfold holdM at h
    rw [if_pos hok] at h
    split at h
    · rename_i c
      obtain rfl := Option.some.inj h
      exact ⟨⟨hv.lv.ll, hv.lv.sl, hv.lv.run, hv.lv.sv, hv.lv.tm, hv.lv.nn⟩, hv.kp, hv.tm, c, hv.top, hv.tl, hv.tn, hv.nt⟩
    · cases h
  split at h
  · rw [free_eq hok] at h
    unfold freeI at h
    split at h
    · rename_i c
      obtain rfl := Option.some.inj h
      obtain ⟨p1, p2, p3⟩ := tm_at hv.ts
      refine ⟨⟨hv.lv.ll, hv.lv.sl, hv.lv.run, hv.lv.sv, hv.lv.tm, hv.lv.nn⟩, hv.kp, hv.tm, ?_, hv.top, hv.tl, hv.tn, hv.nt⟩
      show timesM (keepT s.times d.num) s.time = true
      have hs : (keepT s.times d.num).Sublist s.times := List.filter_sublist
      exact tm_mk ((tm_pw hv.ts).sublist hs) (fun t ht => p2 t (hs.subset ht)) (by omega)
    · cases h
  split at h
  · unfold sDownM at h
    rw [if_pos hok] at h
    obtain ⟨g1, g2, g3, g4, g5⟩ := down_va hv h
    refine ⟨by rw [g3]; exact g1, by rw [g5]; exact hv.kp, by rw [g3]; exact hv.tm, by rw [g3, g4]; exact hv.ts, by rw [g2]; rfl, by rw [g2]; simp, by rw [g2]; simp, by intro i _; rw [g2]; exact nt_nil _⟩
  split at h
  case isFalse => cases h
  · by_cases hc : inB 0 d.num 1 = true
    case neg => unfold sJoinM at h; rw [hok] at h; simp [hc] at h
    rw [join_eq hok hc] at h
    obtain ⟨l, hl, hl2⟩ : ∃ l : Nat, d.num.toNat = l ∧ l ≤ 1 := by unfold inB at hc; simp at hc; exact ⟨_, rfl, by omega⟩
    rw [hl] at h
    unfold joinP at h
    obtain ⟨y, hy, h2⟩ := Option.bind_eq_some_iff.1 h
    obtain ⟨r1, r2⟩ := hv.lv.run l (by omega) (by omega)
    have up : LvF s s.time (l + 1) := ⟨hv.lv.ll, hv.lv.sl, fun k a b => hv.lv.run k (by omega) b, fun k a b => hv.lv.sv k (by omega) b, fun k a b => hv.lv.tm k (by omega) b, fun j k a b c => hv.lv.nn j k (by omega) b c⟩
    obtain ⟨g1, g2, g3⟩ := intoM_lvF (1 - l) (i := l + 1) (by omega) up r1 (by omega) (hv.lv.tm l (by omega) (by omega)) (fun k a b => hv.lv.nn l k (by omega) (by omega) b) hy
    obtain ⟨f1, f2, f3⟩ := setM_lvF (T := s.time) (by omega) g1 (r := []) rfl (by simp) (fun k _ _ => nt_nil _) h2
    obtain ⟨w1, w2, w3, w4⟩ := setM_times h2
    have e1 : x.top = s.top := by rw [w2, intoM_topK _ hy]
    have e2 : x.time = s.time := by rw [w3, into_time _ hy]
    have e3 : x.times = s.times := by rw [w1, intoM_tmsK _ hy]
    have e4 : x.keep = s.keep := by rw [w4, intoM_keep _ hy]
    have from_ : ∀ k, k < 3 → ∀ e ∈ lvA x k, ∃ j, j < 3 ∧ (l ≤ k → l ≤ j) ∧ (k < l → j = k) ∧ e ∈ lvA s j := by
      intro k hk e he
      by_cases c : k = l
      · subst c; rw [f3] at he; simp at he
      · rw [(f2 k c).1] at he
        rcases Nat.lt_or_ge k l with q | q
        · rw [(g2 k (by omega)).1] at he
          exact ⟨k, hk, fun h => by omega, fun _ => rfl, he⟩
        · rcases g3 k (by omega) hk e he with h | ⟨j, j1, j2, h⟩
          · exact ⟨l, by omega, fun _ => Nat.le_refl _, fun h => by omega, h⟩
          · exact ⟨j, j2, fun _ => by omega, fun h => by omega, h⟩
    have low : ∀ k, k < l → lvA x k = lvA s k ∧ x.sieves.getD k zSve = s.sieves.getD k zSve := fun k hk => by
      obtain ⟨a1, a2⟩ := f2 k (by omega)
      obtain ⟨b1, b2⟩ := g2 k (by omega)
      exact ⟨by rw [a1, b1], by rw [a2, b2]⟩
    refine ⟨⟨f1.ll, f1.sl, fun k a b => ?_, fun k a b => ?_, fun k a b => ?_, fun j k a b c => ?_⟩, by rw [e4]; exact hv.kp, by rw [e2]; exact hv.tm, by rw [e2, e3]; exact hv.ts, by rw [e1]; exact hv.top, by rw [e1]; exact hv.tl, by rw [e1, e2]; exact hv.tn, fun k hk => ?_⟩
    · rcases Nat.lt_or_ge k l with q | q
      · rw [(low k q).1]; exact hv.lv.run k a b
      · exact f1.run k q b
    · rcases Nat.lt_or_ge k l with q | q
      · rw [(low k q).1, (low k q).2, e4]; exact hv.lv.sv k a b
      · exact f1.sv k q b
    · intro e he
      rw [e2]
      obtain ⟨j, j1, _, _, h⟩ := from_ k b e he
      exact hv.lv.tm j (by omega) j1 e h
    · rcases Nat.lt_or_ge j l with q | q
      · rw [(low j q).1]
        refine newer_iff.2 fun p hp y hy' hk => ?_
        obtain ⟨m, m1, m2, m3, h⟩ := from_ k c y hy'
        have hjm : j < m := by
          rcases Nat.lt_or_ge k l with q2 | q2
          · have := m3 q2; omega
          · have := m2 q2; omega
        exact newer_iff.1 (hv.lv.nn j m (by omega) hjm m1) p hp y h hk
      · exact f1.nn j k q b c
    · rw [e1]
      refine newer_iff.2 fun p hp y hy' hkk => ?_
      obtain ⟨j, j1, _, _, h⟩ := from_ k hk y hy'
      exact newer_iff.1 (hv.nt j j1) p hp y h hkk
theorem past_va {s : Sto} {ds : List Deed} (hs : Va s) : ∀ i, i ≤ ds.length → Va (pastTo s ds i).1 := by
  intro i
  induction i with
  | zero => intro _; exact hs
  | succ i ih =>
    intro hl
    have v := ih (by omega)
    obtain ⟨d, hd2⟩ : ∃ d, ds[i]? = some d := ⟨_, List.getElem?_eq_getElem (by omega)⟩
    rw [pastTo_succ hd2]
    unfold pastStep
    cases hm : doM (pastTo s ds i).1 d with
    | none => exact v
    | some x => exact do_va v hm
theorem eSto_va {k : Nat} (hk : k ≤ 5) : Va (eSto (k : Nat)) := by
  have h0 : sieveM (keysM []) (k : Int) = some (eSve k) := by rw [keysM_nil]; exact sieve_nil hk
  have e : ∀ i, lvA (eSto (k : Nat)) i = [] := fun i => by match i with | 0 => rfl | 1 => rfl | 2 => rfl | n + 3 => rfl
  have e2 : ∀ i, i < 3 → (eSto (k : Nat)).sieves.getD i zSve = eSve k := fun i hi => by match i, hi with | 0, _ => rfl | 1, _ => rfl | 2, _ => rfl
  refine ⟨⟨rfl, rfl, fun i _ hi => by rw [e]; exact ⟨rfl, by simp⟩, fun i _ hi => by rw [e, e2 i hi]; exact h0, fun i _ hi => by rw [e]; simp, fun j i _ _ hi => by rw [e]; rfl⟩, inKeep hk, rfl, rfl, rfl, by show ([] : List Ent).length ≤ 4; simp, by show ∀ e ∈ ([] : List Ent), _; simp, fun i hi => by rw [e]; rfl⟩
theorem stoV_va (b : List Int) (p : Nat) : Va (stoV b p).1 := by
  unfold stoV
  exact past_va (eSto_va (kpN_le _)) _ (Nat.le_refl _)
theorem spoV_va {b : List Int} {p : Nat} (h : storeS (spoV b p).1 = true) : Va (spoV b p).1 := by
  have hv := stoV_va b p
  unfold spoV at h ⊢
  generalize stoV b p = sq at hv h ⊢
  obtain ⟨s, q⟩ := sq
  dsimp only at hv h ⊢
  have hh : ∀ z : Sto, storeS z = true → headS z = true := fun z hz => by unfold storeS at hz; rw [Bool.and_eq_true] at hz; exact hz.1
  split at h
  · rename_i c; rw [if_pos c]; exact hv
  rename_i c; rw [if_neg c]
  exfalso
  split at h
  · have := hh _ h
    unfold headS sp0 at this
    simp only [Bool.and_eq_true] at this
    have := this.1.1.1.2
    unfold inB at this
    simp only [Bool.and_eq_true, decide_eq_true_eq] at this
    split at this <;> omega
  split at h
  · have := hh _ h
    unfold headS sp1 at this
    simp only [Bool.and_eq_true] at this
    have := (tm_at this.1.1.2).2.1 (s.time + 1) (by simp)
    omega
  split at h
  · have := hh _ h
    unfold headS sp2 at this
    simp only [Bool.and_eq_true, decide_eq_true_eq, List.length_drop] at this
    have := hv.lv.ll
    omega
  split at h
  · have hll := hv.lv.ll
    have hsl := hv.lv.sl
    unfold storeS at h
    rw [Bool.and_eq_true] at h
    have h0 := allI_iff.1 h.2 0 (by omega)
    unfold sAt at h0
    have hr : (sp3 s).levels[0]? = some (lvA s 0) := by
      show s.levels[0]? = _
      rw [List.getElem?_eq_getElem (by omega)]; simp [lvA, List.getD_eq_getElem?_getD, List.getElem?_eq_getElem (show 0 < s.levels.length by omega)]
    have hsv := hv.lv.sv 0 (by omega) (by omega)
    cases hs : s.sieves with
    | nil => rw [hs] at hsl; simp at hsl
    | cons x r =>
      rw [hs] at hsv
      have hx : (sp3 s).sieves[0]? = some (upL x) := by unfold sp3; rw [hs]; rfl
      rw [hr, hx] at h0
      simp only [Bool.and_eq_true] at h0
      have hlv := h0.1.1
      unfold lvM at hlv
      simp only [Bool.and_eq_true] at hlv
      have h4 := hlv.2
      have hk : (sp3 s).keep = s.keep := rfl
      rw [hk, hsv] at h4
      have h5 : x = upL x := sveEq_iff.1 h4
      have h6 := congrArg (fun z : Sve => z.letters.data.toList.length) h5
      unfold upL at h6
      simp only at h6
      rw [ByteArray.data_append] at h6
      simp [bs] at h6
  split at h
  · have := hh _ h
    unfold headS sp4 at this
    simp only [Bool.and_eq_true] at this
    have := this.1.1.1.1.2
    unfold inB at this
    simp at this
  · have := hh _ h
    unfold headS sp5 at this
    simp only [Bool.and_eq_true] at this
    have := (run_pw this.1.2).2.1 ⟨⟨#[]⟩, 0, false, 0⟩ (by simp)
    unfold entOk inB at this
    simp at this
theorem do_tm {s x : Sto} {d : Deed} (hv : Va s) (h : doM s d = some x) : (s.time < x.time → x.time = s.time + 1) ∧ (¬ s.time < x.time → x.time = s.time) := by
  have h6 := hv.tm
  unfold inB at h6
  rw [Bool.and_eq_true] at h6
  have t0 := of_decide_eq_true h6.1; have t1 := of_decide_eq_true h6.2
  have nx : nextT s = s.time + 1 := wrap_in (by omega) (by omega)
  have same : x.time = s.time → (s.time < x.time → x.time = s.time + 1) ∧ (¬ s.time < x.time → x.time = s.time) := fun e => ⟨fun h => by omega, fun _ => e⟩
  have next : x.time = nextT s → (s.time < x.time → x.time = s.time + 1) ∧ (¬ s.time < x.time → x.time = s.time) := fun e => ⟨fun _ => by omega, fun h => by omega⟩
  unfold doM at h
  split at h
  · exact next (addM_time h).2
  split at h
  · exact next (addM_time h).2
  refine same ?_
  split at h
  · unfold holdM at h
    split at h
    · split at h
      · obtain rfl := Option.some.inj h; rfl
      · cases h
    · cases h
  split at h
  · unfold freeM at h
    split at h
    · split at h
      · cases h
      · obtain rfl := Option.some.inj h; rfl
    · cases h
  split at h
  · unfold sDownM at h
    split at h
    · exact into_time 2 (s := { s with top := [] }) h
    · cases h
  split at h
  · unfold sJoinM at h
    split at h
    · obtain ⟨y, hy, h2⟩ := Option.bind_eq_some_iff.1 h
      rw [into_time _ h2, (setM_times hy).2.2.1]
    · cases h
  · cases h
theorem past_times {s : Sto} {ds : List Deed} (hs : Va s) : ∀ i, i ≤ ds.length → (pastTo s ds i).1.time = s.time + ((pastTo s ds i).2.length : Nat) ∧ ∀ (j : Nat) (e : Ent), (pastTo s ds i).2[j]? = some e → e.time = s.time + 1 + (j : Nat) := by
  intro i
  induction i with
  | zero => intro _; exact ⟨by show s.time = s.time + ((0 : Nat) : Int); omega, fun j e h => by simp [pastTo] at h⟩
  | succ i ih =>
    intro hl
    obtain ⟨v1, v2⟩ := ih (by omega)
    have va := past_va hs i (ds := ds) (by omega)
    obtain ⟨d, hd2⟩ : ∃ d, ds[i]? = some d := ⟨_, List.getElem?_eq_getElem (by omega)⟩
    rw [pastTo_succ hd2]
    generalize pastTo s ds i = q at v1 v2 va ⊢
    obtain ⟨cs, out⟩ := q
    dsimp only at v1 v2 va
    unfold pastStep
    cases hm : doM cs d with
    | none => exact ⟨v1, v2⟩
    | some x =>
      obtain ⟨w1, w2⟩ := do_tm va hm
      dsimp only
      by_cases c : cs.time < x.time
      · have hx := w1 c
        rw [if_pos c]
        refine ⟨by rw [List.length_append, List.length_singleton]; omega, fun j e h => ?_⟩
        rcases Nat.lt_or_ge j out.length with q | q
        · rw [List.getElem?_append_left q] at h; exact v2 j e h
        · rw [List.getElem?_append_right q] at h
          have : j = out.length := by
            rcases Nat.lt_or_ge (j - out.length) 1 with u | u
            · omega
            · rw [List.getElem?_eq_none (by simp; omega)] at h; cases h
          subst this
          rw [Nat.sub_self] at h
          simp at h
          have : e.time = x.time := by rw [← h]; unfold entOf; split <;> rfl
          omega
      · rw [if_neg c]
        exact ⟨by rw [w2 c]; exact v1, v2⟩
theorem fold_out : ∀ (l : List Deed) (s : Sto) (out : List Ent), l.foldl pastStep (s, out) = ((l.foldl pastStep (s, [])).1, out ++ (l.foldl pastStep (s, [])).2)
  | [], s, out => by simp
  | d :: l, s, out => by
    rw [List.foldl_cons, List.foldl_cons]
    have e1 : pastStep (s, out) d = ((pastStep (s, []) d).1, out ++ (pastStep (s, []) d).2) := by
      unfold pastStep
      simp only
      cases doM s d with
      | none => simp
      | some x => simp only; split <;> simp
    rw [e1]
    generalize pastStep (s, []) d = q
    obtain ⟨a, o⟩ := q
    simp only
    rw [fold_out l a (out ++ o), fold_out l a o]
    simp [List.append_assoc]
theorem past_all (s : Sto) (ds : List Deed) : pastTo s ds ds.length = ds.foldl pastStep (s, []) := by unfold pastTo; rw [List.take_length]
theorem past_split (s : Sto) (ds : List Deed) (c : Nat) : pastTo s ds ds.length = ((pastTo (pastTo s (ds.take c) (ds.take c).length).1 (ds.drop c) (ds.drop c).length).1, (pastTo s (ds.take c) (ds.take c).length).2 ++ (pastTo (pastTo s (ds.take c) (ds.take c).length).1 (ds.drop c) (ds.drop c).length).2) := by
  rw [past_all, past_all, past_all]
  conv => lhs; rw [← List.take_append_drop c ds, List.foldl_append]
  generalize (ds.take c).foldl pastStep (s, []) = q
  obtain ⟨a, o⟩ := q
  exact fold_out (ds.drop c) a o
set_option maxHeartbeats 8000000
def pdM (s : Sto) (ds : List Deed) : Option Sto := if storeS s = true ∧ ds.length ≤ 40 then some (pastTo s ds ds.length).1 else none
abbrev pNo : AV := .tup [zA, .c (.d (.s (.slice none 0 0))), bT false]
theorem past_no (s : Sto) (ds : List Deed) (hs : SmSt s) (hl : ds.length ≤ 1099511627776) (h : ¬ (storeS s = true ∧ ds.length ≤ 40)) : AC Tryz.prog 53 [stT s, deedsT ds] noHp 0 ⟨pNo, noHp, 0⟩ := by
  have k1 := storeOkI_ac s hs
  cases hv : storeS s
  · rw [hv] at k1
    refine AC_of Tryz.func53 rfl Tryz.ntmps53 Tryz.results53 (by kernel_rfl) rfl ?_
    simp only [List.zipIdx, List.map, Nat.zero_add, Nat.reduceAdd]
    repeat (first | apply Aw_seq | apply Aw_block | apply Aw_skip | apply Aw_exit | refine Aw_condt rfl ?_ | refine Aw_condf rfl ?_ | ((first | refine qr ?_ | refine qd (by kernel_rfl) (by kernel_rfl) ?_); simp only [go_sem, jE, reduceIte, jA, jM, jS, jL, jD, jB]) | refine dk (by kernel_rfl) ?_ | (refine qp (k1) (by simp only [go_sem, jE, reduceIte, jA, jM, jS, jL, jD, jB]; first | done | rfl) rfl (by simp only [go_sem, Nat.reduceLT]) rfl rfl ?_; simp only [go_sem, jE, reduceIte, jA, jM, jS, jL, jD, jB]))
    exact Aw_ret (ret0 (.inl rfl) (by simp only [go_sem, jE, reduceIte, jA, jM, jS, jL, jD, jB]; rfl) (by rfl) rfl)
  · rw [hv] at k1
    have g2 : decide ((40 : Int) < (ds.length : Int)) = true := decide_eq_true (by have : ¬ ds.length ≤ 40 := fun q => h ⟨hv, q⟩; omega)
    refine AC_of Tryz.func53 rfl Tryz.ntmps53 Tryz.results53 (by kernel_rfl) rfl ?_
    simp only [List.zipIdx, List.map, Nat.zero_add, Nat.reduceAdd]
    repeat (first | apply Aw_seq | apply Aw_block | apply Aw_skip | apply Aw_exit | refine Aw_condt rfl ?_ | refine Aw_condf rfl ?_ | ((first | refine qr ?_ | refine qd (by kernel_rfl) (by kernel_rfl) ?_); simp only [go_sem, jE, reduceIte, jA, jM, jS, jL, jD, jB, g2]) | refine dk (by kernel_rfl) ?_ | (refine qp (k1) (by simp only [go_sem, jE, reduceIte, jA, jM, jS, jL, jD, jB, g2]; first | done | rfl) rfl (by simp only [go_sem, Nat.reduceLT]) rfl rfl ?_; simp only [go_sem, jE, reduceIte, jA, jM, jS, jL, jD, jB, g2]))
    exact Aw_ret (ret0 (.inl rfl) (by simp only [go_sem, jE, reduceIte, jA, jM, jS, jL, jD, jB]; rfl) (by rfl) rfl)
theorem pastAllI_ac (s : Sto) (ds : List Deed) (hs : SmSt s) (hd : SmD ds) (hl : ds.length ≤ 1099511627776) : AC Tryz.prog 19 [stT s, deedsT ds] noHp 0 ⟨.t (runT (pastM s ds)), noHp, 0⟩ := by
  unfold pastM
  by_cases h : storeS s = true ∧ ds.length ≤ 40
  · have k := past_ac s ds hs hd h.1 h.2
    rw [if_pos (by simp [h.1, h.2])]
    refine AC.settle0 [0] (?_ : AC Tryz.prog 19 [stT s, deedsT ds] noHp 0 ⟨.t (.c (.h 0)), hpL [some (eRow (pastTo s ds ds.length).2)], 1⟩) (SetC.row0 rfl rfl) rfl
    refine AC_of Tryz.func19 rfl Tryz.ntmps19 Tryz.results19 (by kernel_rfl) rfl ?_
    simp only [List.zipIdx, List.map, Nat.zero_add, Nat.reduceAdd]
    repeat (first | apply Aw_seq | apply Aw_block | apply Aw_skip | apply Aw_exit | refine Aw_condt rfl ?_ | refine Aw_condf rfl ?_ | ((first | refine qr ?_ | refine qd (by kernel_rfl) (by kernel_rfl) ?_); simp only [go_sem, jE, reduceIte, jA, jM, jS, jL, jD, jB]) | refine dk (by kernel_rfl) ?_ | (refine qx (call_N (L := []) (k) rfl (.cons (.nm rfl) (.cons (.nm rfl) (.nil))) (.inl rfl) rfl) (by simp only [go_sem, jE, reduceIte, jA, jM, jS, jL, jD, jB]; first | done | rfl) rfl (by simp only [go_sem, Nat.reduceLT]) ?_; simp only [go_sem, jE, reduceIte, jA, jM, jS, jL, jD, jB]))
    exact Aw_ret (retL (M := [4]) (.inl rfl) (by simp only [go_sem, jE, reduceIte, jA, jM, jS, jL, jD, jB]; first | done | rfl) rfl rfl (by rfl) (by simp only [go_sem, jE, reduceIte, jA, jM, jS, jL, jD, jB]; first | done | rfl | (and_intros <;> rfl)) (by decide) (by unfold idM; decide))
  · have k := past_no s ds hs hl h
    rw [if_neg (by simpa using h)]
    refine AC.nilR (x := .t (.c (.d (.s (.slice none 0 0))))) ?_ (NilC.nil 4)
    refine AC_of Tryz.func19 rfl Tryz.ntmps19 Tryz.results19 (by kernel_rfl) rfl ?_
    simp only [List.zipIdx, List.map, Nat.zero_add, Nat.reduceAdd]
    repeat (first | apply Aw_seq | apply Aw_block | apply Aw_skip | apply Aw_exit | refine Aw_condt rfl ?_ | refine Aw_condf rfl ?_ | ((first | refine qr ?_ | refine qd (by kernel_rfl) (by kernel_rfl) ?_); simp only [go_sem, jE, reduceIte, jA, jM, jS, jL, jD, jB]) | refine dk (by kernel_rfl) ?_ | (refine qp (k) (by simp only [go_sem, jE, reduceIte, jA, jM, jS, jL, jD, jB]; first | done | rfl) rfl (by simp only [go_sem, Nat.reduceLT]) rfl rfl ?_; simp only [go_sem, jE, reduceIte, jA, jM, jS, jL, jD, jB]))
    exact Aw_ret (ret0 (.inl rfl) (by simp only [go_sem, jE, reduceIte, jA, jM, jS, jL, jD, jB]; rfl) (by rfl) rfl)
theorem pastDoI_ac (s : Sto) (ds : List Deed) (hs : SmSt s) (hd : SmD ds) (hl : ds.length ≤ 1099511627776) : AC Tryz.prog 22 [stT s, deedsT ds] noHp 0 ⟨resO (pdM s ds), noHp, 0⟩ := by
  unfold pdM
  by_cases h : storeS s = true ∧ ds.length ≤ 40
  · have k := past_ac s ds hs hd h.1 h.2
    rw [if_pos h]
    refine AC_of Tryz.func22 rfl Tryz.ntmps22 Tryz.results22 (by kernel_rfl) rfl ?_
    simp only [List.zipIdx, List.map, Nat.zero_add, Nat.reduceAdd]
    repeat (first | apply Aw_seq | apply Aw_block | apply Aw_skip | apply Aw_exit | refine Aw_condt rfl ?_ | refine Aw_condf rfl ?_ | ((first | refine qr ?_ | refine qd (by kernel_rfl) (by kernel_rfl) ?_); simp only [go_sem, jE, reduceIte, jA, jM, jS, jL, jD, jB]) | refine dk (by kernel_rfl) ?_ | (refine qx (call_N (L := []) (k) rfl (.cons (.nm rfl) (.cons (.nm rfl) (.nil))) (.inl rfl) rfl) (by simp only [go_sem, jE, reduceIte, jA, jM, jS, jL, jD, jB]; first | done | rfl) rfl (by simp only [go_sem, Nat.reduceLT]) ?_; simp only [go_sem, jE, reduceIte, jA, jM, jS, jL, jD, jB]))
    exact Aw_ret (ret0 (.inl rfl) (by simp only [go_sem, jE, reduceIte, jA, jM, jS, jL, jD, jB]; rfl) (by rfl) rfl)
  · have k := past_no s ds hs hl h
    rw [if_neg h]
    refine AC.nilR (x := .tup [zA, bT false]) ?_ zA_nil
    refine AC_of Tryz.func22 rfl Tryz.ntmps22 Tryz.results22 (by kernel_rfl) rfl ?_
    simp only [List.zipIdx, List.map, Nat.zero_add, Nat.reduceAdd]
    repeat (first | apply Aw_seq | apply Aw_block | apply Aw_skip | apply Aw_exit | refine Aw_condt rfl ?_ | refine Aw_condf rfl ?_ | ((first | refine qr ?_ | refine qd (by kernel_rfl) (by kernel_rfl) ?_); simp only [go_sem, jE, reduceIte, jA, jM, jS, jL, jD, jB]) | refine dk (by kernel_rfl) ?_ | (refine qp (k) (by simp only [go_sem, jE, reduceIte, jA, jM, jS, jL, jD, jB]; first | done | rfl) rfl (by simp only [go_sem, Nat.reduceLT]) rfl rfl ?_; simp only [go_sem, jE, reduceIte, jA, jM, jS, jL, jD, jB]))
    exact Aw_ret (ret0 (.inl rfl) (by simp only [go_sem, jE, reduceIte, jA, jM, jS, jL, jD, jB]; rfl) (by rfl) rfl)
theorem spoiltS_ac {b : List Int} {p : Nat} (hb : byteL b) (hp : p ≤ 90000) : AC Tryz.prog 34 [.c (.ph 0 0 0)] (hpL [some (rdO b p)]) 1 ⟨.t (stT (spoV b p).1), hpL [some (rdO b (spoV b p).2)], 1⟩ := by
  have h := AC.setS [1] (l71Spoilt_ac hb hp) (y := .t (stT (spoV b p).1)) (os' := [some (rdO b (spoV b p).2), none])
    (.cons (SetC.row0 rfl rfl) (.cons (.inl rfl) (.cons (.inl rfl) (.cons (.inl rfl) (.cons (.inl rfl) (.cons (.inl rfl) .nil)))))) ⟨.inl rfl, rfl, trivial⟩
  refine AC.sel (M := [0]) h rfl rfl (selL rfl ?_) (by decide) fun m hm => ?_
  · simp only [go_sem, LeftL]
  · obtain rfl : m = 0 := by omega
    exact ⟨by decide, rfl⟩
def ofT (s : Sto) (i : Nat) : List ByteArray := keysM s.top ++ (s.levels.take i).flatMap keysM
theorem ofT_0 (s : Sto) : ofT s 0 = keysM s.top := by unfold ofT; simp
theorem ofT_succ {s : Sto} {i : Nat} {r : List Ent} (h : s.levels[i]? = some r) : ofT s (i + 1) = ofT s i ++ keysM r := by
  unfold ofT
  rw [List.take_add_one, h, List.flatMap_append, List.append_assoc]; simp
theorem keysM_len (r : List Ent) : (keysM r).length ≤ r.length := colI_len (keyAt_len r)
theorem FewS.of {s : Sto} (h : FewS s) (i : Nat) : (∀ k ∈ ofT s i, k.size ≤ 5) ∧ (ofT s i).length ≤ 1001 + i * 1000 := by
  have hk : ∀ r : List Ent, Sk r → ∀ k ∈ keysM r, k.size ≤ 5 := fun r hr k hk => by
    obtain ⟨e, he, rfl⟩ := keysM_sub k hk
    exact hr e he
  refine ⟨fun k hm => ?_, ?_⟩
  · unfold ofT at hm
    rcases List.mem_append.1 hm with hm | hm
    · exact hk _ h.key.top k hm
    · obtain ⟨r, hr, hm⟩ := List.mem_flatMap.1 hm
      exact hk r (h.key.lev r (List.mem_of_mem_take hr)) k hm
  · induction i with
    | zero => rw [ofT_0]; have := keysM_len s.top; have := h.top; omega
    | succ i ih =>
      rcases Nat.lt_or_ge i s.levels.length with c | c
      · rw [ofT_succ (List.getElem?_eq_getElem c), List.length_append]
        have := keysM_len s.levels[i]
        have := h.lev _ (List.getElem_mem c)
        omega
      · unfold ofT at ih ⊢
        rw [List.take_of_length_le (by omega)] at ih ⊢
        omega
@[go_sem] theorem r_aggE {P : Program} {t : Nat} {cs ds : List CV} : aggEq P t .eql cs ds = (aggFs P t).bind fun fs => (fEq cs ds fs).map .bool := by
  unfold aggEq
  cases aggFs P t with
  | none => rfl
  | some fs => simp only [Option.bind_some]; cases fEq cs ds fs <;> rfl
@[go_sem] theorem r_aggN {P : Program} {t : Nat} {cs ds : List CV} : aggEq P t .neq cs ds = (aggFs P t).bind fun fs => (fEq cs ds fs).map fun b => .bool !b := by
  unfold aggEq
  cases aggFs P t with
  | none => rfl
  | some fs => simp only [Option.bind_some]; cases fEq cs ds fs <;> rfl
theorem ltRuns_ac (a : List Ent) (hl : a.length ≤ 4000000) : AC Tryz.prog 20 [runT a, runT a] noHp 0 ⟨.t (bT true), noHp, 0⟩ := by
  refine AC_of Tryz.func20 rfl Tryz.ntmps20 Tryz.results20 (by kernel_rfl) rfl ?_
  simp only [List.zipIdx, List.map, Nat.zero_add, Nat.reduceAdd]
  repeat (first | apply Aw_seq | apply Aw_block | apply Aw_skip | apply Aw_exit | refine Aw_condt rfl ?_ | refine Aw_condf rfl ?_ | ((first | refine qr ?_ | refine qd (by kernel_rfl) (by kernel_rfl) ?_); simp only [go_sem, jE, reduceIte, jA, jM, jS, jL, jD, jB, iref]) | refine dk (by kernel_rfl) ?_)
  refine Aw.rw (rw0 (l' := [(5, .t (iT (0 : Nat))), (1, .t (runT a)), (0, .t (runT a))]) (n' := 0) (by repeat (first | exact trivial | refine ⟨rfl, rfl, ?_⟩))) ?_
  refine Aw_loop0 (ι := { i : Nat // i ≤ a.length ∧ (True) }) (fun q => [(5, .t (iT (q.1 : Nat))), (1, .t (runT a)), (0, .t (runT a))]) (fun q => a.length - q.1) ⟨0, Nat.zero_le _, trivial⟩ ?_
  rintro ⟨i, hi, hp⟩
  dsimp only
  by_cases hlt : i < a.length
  · have h1 : (i : Int) < (a.length : Int) := by omega
    have h2 := wrap_succ hlt (by omega)
    obtain ⟨e, hx⟩ : ∃ e, a[i]? = some e := ⟨_, List.getElem?_eq_getElem hlt⟩
    repeat (first | apply Aw_seq | apply Aw_block | apply Aw_skip | apply Aw_exit | refine Aw_condt rfl ?_ | refine Aw_condf rfl ?_ | ((first | refine qr ?_ | refine qd (by kernel_rfl) (by kernel_rfl) ?_); simp only [go_sem, jE, reduceIte, jA, jM, jS, jL, jD, jB, h1, h2, hx, iref, sref, bref]) | refine dk (by kernel_rfl) ?_)
    exact ⟨⟨i + 1, by omega, trivial⟩, (by simp only []; omega), rw0 (by repeat (first | exact trivial | refine ⟨rfl, rfl, ?_⟩))⟩
  · have h1 : ¬ (i : Int) < (a.length : Int) := by omega
    repeat (first | apply Aw_seq | apply Aw_block | apply Aw_skip | apply Aw_exit | refine Aw_condt rfl ?_ | refine Aw_condf rfl ?_ | ((first | refine qr ?_ | refine qd (by kernel_rfl) (by kernel_rfl) ?_); simp only [go_sem, jE, reduceIte, jA, jM, jS, jL, jD, jB, h1]) | refine dk (by kernel_rfl) ?_)
    exact Aw_ret (ret0 (.inl rfl) (by simp only [go_sem, jE, reduceIte, jA, jM, jS, jL, jD, jB]; rfl) (by rfl) rfl)
open Go Go.Proofs Go.Deep Go.WideShapes Go.ChangeShapes Go.RowKit
theorem cell_lt {w : World} {a : Addr} {v : Value} (h : w.cell? a = some v) : a.block < w.heap.size := by
  apply Classical.byContradiction
  intro hn
  have : w.heap[a.block]? = none := Array.getElem?_eq_none (by omega)
  simp [World.cell?, this] at h
structure RdB {α : Type} (P : Program) (t : TypeId) (f : α → List D) (ok : α → Prop) : Prop where
  down : ∀ {H : Type} {enc : TypeId × Value → H} {w : World} {base : Nat} {spare : Nat → Bool} {held : Bool} {fuel : Nat} {cs : List Value} {x : DataW H × List MemPlace},
    DataW.trod enc P w base spare held fuel t cs = some x → ∃ y, All2 (RepD w (· < w.heap.size)) (f y) cs ∧ ok y
theorem RdB.int {P : Program} {t : TypeId} {k : IntKind} (ht : P.underlying t = some (.int k)) : RdB P t (fun n : Int => [.s (.int k n)]) (fun n => (Lit.int k n).wf = true) :=
  ⟨fun h => by obtain ⟨n, rfl, _, hw⟩ := DataW.trod_int ht h; exact ⟨n, .cons (.s rfl) .nil, hw⟩⟩
theorem RdB.bool {P : Program} {t : TypeId} (ht : P.underlying t = some .bool) : RdB P t (fun b : Bool => [.s (.bool b)]) (fun _ => True) :=
  ⟨fun h => by obtain ⟨b, rfl, _⟩ := DataW.trod_bool ht h; exact ⟨b, .cons (.s rfl) .nil, trivial⟩⟩
theorem RdB.str {P : Program} {t : TypeId} (ht : P.underlying t = some .string) : RdB P t (fun s : ByteArray => [.s (.string s)]) (fun s => s.size ≤ maxLen) :=
  ⟨fun h => by obtain ⟨s, rfl, _, hs⟩ := DataW.trod_string ht h; exact ⟨s, .cons (.s rfl) .nil, hs⟩⟩
theorem RdB.slice {α : Type} {P : Program} {t e k : Nat} {f : α → List D} {ok : α → Prop} (ht : P.underlying t = some (.slice e)) (hc : P.cellsOf e = k) (hd : RdB P e f ok) :
    RdB P t (fun xs : List α => [.rs k (xs.map f)]) (fun xs => xs.length ≤ maxLen ∧ ∀ x ∈ xs, ok x) := by
  refine ⟨fun {H enc w base spare held fuel cs x} h => ?_⟩
  rcases open_slice ht h with ⟨rfl, rfl⟩ | ⟨a, len, cap, m, n, D, Pl, rfl, hb, hl, hm, hmm, rfl, hx⟩
  · exact ⟨[], .cons (.rs (A := none) (cap := 0) (fun _ _ => .bool false) (Nat.le_refl _) (Nat.zero_le _) (by simp) (fun i j hi => absurd hi (by simp)) (fun i j cs x hi => by simp at hi)) .nil, by simp, by simp⟩
  · have hlm : len ≤ m := by rw [hmm]; split <;> omega
    have hy : ∀ i : _root_.Fin len, ∃ y, ∃ cs', w.cells? base (a.add (i.1 * P.cellsOf e)) (P.cellsOf e) = some cs' ∧ All2 (RepD w (· < w.heap.size)) (f y) cs' ∧ ok y := fun i => by
      obtain ⟨cs', h1, h2⟩ := hx i.1 (by omega)
      obtain ⟨y, h3, h4⟩ := hd.down h2
      exact ⟨y, cs', h1, h3, h4⟩
    have hsp : ∀ i : _root_.Fin len, ∃ cs', w.cells? base (a.add (i.1 * P.cellsOf e)) (P.cellsOf e) = some cs' ∧ All2 (RepD w (· < w.heap.size)) (f (Classical.choose (hy i))) cs' ∧ ok (Classical.choose (hy i)) := fun i => Classical.choose_spec (hy i)
    have hlen : (List.ofFn fun i : _root_.Fin len => Classical.choose (hy i)).length = len := List.length_ofFn
    have hget : ∀ {j : Nat} {p : α}, (List.ofFn fun i : _root_.Fin len => Classical.choose (hy i))[j]? = some p → ∃ cs', w.cells? base (a.add (j * k)) k = some cs' ∧ All2 (RepD w (· < w.heap.size)) (f p) cs' := fun {j p} hj => by
      have hjl : j < len := by
        have := (List.getElem?_eq_some_iff.1 hj).1
        rwa [hlen] at this
      rw [List.getElem?_ofFn, dif_pos hjl] at hj
      obtain rfl := Option.some.inj hj
      obtain ⟨cs', h1, h2, _⟩ := hsp ⟨j, hjl⟩
      rw [hc] at h1
      exact ⟨cs', h1, h2⟩
    have hbk : ∀ n, (a.add n).block = a.block := fun n => by unfold Addr.add; split <;> rfl
    have hcell : ∀ i, i < len → ∃ cs' : List Value, cs'.length = k ∧ ∀ j, j < k → w.cell? (a.add (i * k + j)) = cs'[j]? := fun i hi => by
      obtain ⟨cs', h1, _⟩ := hsp ⟨i, hi⟩
      rw [hc] at h1
      obtain ⟨_, h3, h4⟩ := World.cells?_some h1
      refine ⟨cs', h3, fun j hj => ?_⟩
      have := h4 j hj
      rw [Deep.add_add] at this
      exact this
    refine ⟨List.ofFn fun i : _root_.Fin len => Classical.choose (hy i), .cons ?_ .nil, by rw [hlen]; omega, ?_⟩
    · have := RepD.rs (w := w) (S := (· < w.heap.size)) (k := k) (els := (List.ofFn fun i : _root_.Fin len => Classical.choose (hy i)).map f) (A := some a) (cap := cap) (fun i j => (w.cell? (a.add (i * k + j))).getD (.bool false)) (by rw [List.length_map, hlen]; exact hl) hm ?_ ?_ ?_
      · rw [List.length_map, hlen] at this; exact this
      · intro cs hcs
        obtain ⟨p, hp, rfl⟩ := List.mem_map.1 hcs
        obtain ⟨j, hj⟩ := List.mem_iff_getElem?.1 hp
        obtain ⟨cs', h1, h2⟩ := hget hj
        rw [h2.len]; exact (World.cells?_some h1).2.1
      · intro i j hi hj
        rw [List.length_map, hlen] at hi
        obtain ⟨cs', h1, h2⟩ := hcell i hi
        have h3 := h2 j hj
        rw [List.getElem?_eq_getElem (by omega)] at h3
        refine ⟨a, rfl, ?_, ?_⟩
        · have := cell_lt h3; rwa [hbk] at this
        · simp only [h3]; rfl
      · intro i j cs x hi hj
        rw [List.getElem?_map] at hi
        obtain ⟨p, hp, rfl⟩ := Option.map_eq_some_iff.1 hi
        obtain ⟨cs', h1, h2⟩ := hget hp
        obtain ⟨_, h3, h4⟩ := World.cells?_some h1
        obtain ⟨v, hv, hr⟩ := h2.get hj
        have hjk : j < k := by have := (List.getElem?_eq_some_iff.1 hv).1; omega
        have := h4 j hjk
        rw [Deep.add_add, hv] at this
        simp only [this]
        exact hr
    · intro x hx
      obtain ⟨i, rfl⟩ := List.mem_ofFn.1 hx
      exact (hsp i).choose_spec.2.2
structure FRdB {α : Type} (P : Program) (off : Nat) (fs : List Field) (sz : Nat) (f : α → List D) (ok : α → Prop) : Prop where
  down : ∀ {H : Type} {enc : TypeId × Value → H} {w : World} {base : Nat} {spare : Nat → Bool} {held : Bool} {n : Nat} {cs : List Value} (ys : List (DataW H × List MemPlace)),
    cs.length = off + sz → ys.length = fs.length → (∀ (i : Nat) (f : Field), fs[i]? = some f → DataW.trod enc P w base spare held n f.type ((cs.drop f.offset).take (P.cellsOf f.type)) = ys[i]?) → ∃ y, All2 (RepD w (· < w.heap.size)) (f y) (cs.drop off) ∧ ok y
theorem FRdB.last {α : Type} {P : Program} {off sz : Nat} {f : Field} {d : α → List D} {ok : α → Prop} (ho : f.offset = off) (hc : P.cellsOf f.type = sz) (hd : RdB P f.type d ok) : FRdB P off [f] sz d ok := by
  refine ⟨fun {H enc w base spare held n cs} ys hl hy h => ?_⟩
  have h0 := h 0 f rfl
  rw [ho, hc, List.take_of_length_le (by rw [List.length_drop]; omega)] at h0
  have h1 : 0 < ys.length := by rw [hy]; simp
  rw [List.getElem?_eq_getElem h1] at h0
  exact hd.down h0
theorem FRdB.cons {α β : Type} {P : Program} {off sa sb : Nat} {f : Field} {fs : List Field} {a : α → List D} {b : β → List D} {oka : α → Prop} {okb : β → Prop} (ho : f.offset = off) (hc : P.cellsOf f.type = sa) (ha : RdB P f.type a oka) (hb : FRdB P (off + sa) fs sb b okb) :
    FRdB P off (f :: fs) (sa + sb) (fun y : α × β => a y.1 ++ b y.2) (fun y => oka y.1 ∧ okb y.2) := by
  refine ⟨fun {H enc w base spare held n cs} ys hl hy h => ?_⟩
  have h0 := h 0 f rfl
  rw [ho, hc] at h0
  match ys, hy with
  | [], hy => simp at hy
  | y0 :: ys, hy =>
    obtain ⟨x, h1, h2⟩ := ha.down (x := y0) h0
    obtain ⟨z, h3, h4⟩ := hb.down (cs := cs) ys (by omega) (by simpa using hy) (fun i g hg => by simpa using h (i + 1) g (by simpa using hg))
    refine ⟨(x, z), ?_, h2, h4⟩
    have := h1.app h3
    rw [← List.drop_drop, List.take_append_drop] at this
    exact this
theorem RdB.struct {α : Type} {P : Program} {t sz : Nat} {fs : Array Field} {d : α → List D} {ok : α → Prop} (ht : P.underlying t = some (.struct fs)) (hc : P.cellsOf t = sz) (hf : FRdB P 0 fs.toList sz d ok) : RdB P t d ok := by
  refine ⟨fun {H enc w base spare held fuel cs x} h => ?_⟩
  obtain ⟨xs, n, _, _, hl, hx, hi⟩ := DataW.trod_struct ht h
  have := hf.down (cs := cs) xs (by omega) (by simpa using hx) (fun i f hf => hi i f (by simpa using hf))
  simpa using this
theorem RdB.argS {α H : Type} {enc : TypeId × Value → H} {P : Program} {w : World} {base : Nat} {spare : Nat → Bool} {held : Bool} {t : TypeId} {d : α → List D} {ok : α → Prop} {cs : Array Value} {x : DataW H} {p : List MemPlace}
    (hd : RdB P t d ok) (h : DataW.Trod enc P w base spare held t (.agg cs) x p) : ∃ y : α, All2 (RepD w (· < w.heap.size)) (d y) cs.toList ∧ ok y := by
  obtain ⟨fuel, hf⟩ := h
  exact hd.down hf
theorem RdB.arg1 {α H : Type} {enc : TypeId × Value → H} {P : Program} {w : World} {base : Nat} {spare : Nat → Bool} {held : Bool} {t : TypeId} {d : α → D} {ok : α → Prop} {a : Option Addr} {len cap : Nat} {x : DataW H} {p : List MemPlace}
    (hd : RdB P t (fun y => [d y]) ok) (h : DataW.Trod enc P w base spare held t (.slice a len cap) x p) : ∃ y : α, RepD w (· < w.heap.size) (d y) (.slice a len cap) ∧ ok y := by
  obtain ⟨fuel, hf⟩ := h
  obtain ⟨y, h1, h2⟩ := hd.down hf
  simp [Value.cells] at h1
  cases h1 with
  | cons h _ => exact ⟨y, h, h2⟩
theorem AC.run {P : Program} {f : FuncId} {args : List TV} {b : Bool} {n : Nat} (h : AC P f args noHp 0 ⟨.t (bT b), noHp, n⟩) {W : World} {vs : List Value} (hv : All2 (RepT ⟨W, fun _ => 0, fun _ => .bool false, fun _ => 0, (· < W.heap.size), fun _ => False⟩) args vs) :
    Calls P f vs.toArray W fun e W' => e = .returned (.bool b) ∧ Below W.heap.size W W' := by
  have g : Good ⟨W, fun _ => 0, fun _ => .bool false, fun _ => 0, (· < W.heap.size), fun _ => False⟩ noHp := by
    refine ⟨fun m o hm => ?_, fun m o hm => ?_, fun b hb => ?_, fun m o m' o' b hm => ?_, fun b hb => hb⟩
    · simp [noHp] at hm
    · simp [noHp] at hm
    · obtain ⟨m, o, hm, _⟩ := hb; simp [noHp] at hm
    · simp [noHp] at hm
  refine Calls.mono (h.2 _ vs g (fun m hm => hm.elim) hv) fun e w' => ?_
  rintro ⟨v, c', rfl, rfl, t, _, r, _⟩
  refine ⟨by rw [show v = .bool b by cases r; rfl], t.os, t.tape, t.output, t.size, fun k hk => t.keep k hk ?_⟩
  rintro ⟨m, o, hm, _⟩
  simp [noHp] at hm
def okY (c : List Int) : Prop := c.length ≤ maxLen ∧ ∀ x ∈ c, (Lit.int .u8 x).wf = true
theorem okY.byte {c : List Int} (h : okY c) : byteL (c.take 2000) := by
  refine ⟨by rw [List.length_take]; omega, fun x hx => ?_⟩
  have := h.2 x (List.mem_of_mem_take hx)
  simp only [Lit.wf, IntKind.min, IntKind.max, Bool.and_eq_true, decide_eq_true_eq] at this
  simp [IntKind.signed, IntKind.bits] at this
  omega
theorem rdBytes : RdB Tryz.prog 22 (fun r => [.rs 1 (r.map u8D)]) okY := RdB.slice Tryz.underlying22 (by kernel_rfl) (RdB.int Tryz.underlying5)
end Go.Proofs.YtjolcfkepcmjnaaGreat.Ab
