/-
  Contracts: what reads a code, and draws a number from it. No condition.
  Contracts: a key that is put into its place, the reference's. No condition.
  The drawn number, and a key that is put into its place. No condition.
  Contracts: keys that are drawn, the reference's. No condition.
  Contracts: keys near others that are drawn, the reference's. No condition.
  Contracts: deeds that are drawn, the reference's. No condition.
  Contracts: all that was put, drawn, the reference's. No condition.
  Contract: a store that is drawn, the reference's. No condition.
  What deeds keep of a store. No condition.
  What deeds keep of a store's sieves. No condition.
  Contract: a store that is drawn, some spoilt, the reference's. No condition.
  Contract: a store that is drawn for its check, the reference's. No condition.
  Contract: a store that is drawn for its check, the reference's. No condition.
  Contracts: the store's check, both. No condition.
  The two checks of a store are one, in plain Lean. No condition.
-/
import Derived.Test.YtcbhgglpgphimaaVd
import Derived.Test.YtcbhgglpgphimaaVc
namespace Go.Proofs.Ytcbhgglpgphimaa.Ab
set_option linter.deprecated false
set_option linter.unusedVariables false
set_option linter.unusedSimpArgs false
open Go Go.Proofs
set_option maxRecDepth 10000
set_option maxHeartbeats 8000000
set_option linter.unusedSimpArgs false
set_option linter.unusedVariables false
def u8D (n : Int) : List D := [.s (.int .u8 n)]
@[go_sem] theorem r_u8D (n : Int) : u8D n = [.s (.int .u8 n)] := rfl
abbrev bytesT (b : List Int) : TV := .c (.d (.rs 1 (b.map u8D)))
def rdO (b : List Int) (p : Nat) : Obj := ⟨136, 2, false, [[.d (.rs 1 (b.map u8D)), .d (.s (.int .i64 p))]]⟩
@[go_sem] theorem r_rdO (b : List Int) (p : Nat) : rdO b p = ⟨136, 2, false, [[.d (.rs 1 (b.map u8D)), .d (.s (.int .i64 p))]]⟩ := rfl
def byteL (b : List Int) : Prop := b.length ≤ 2000 ∧ ∀ c ∈ b, 0 ≤ c ∧ c ≤ 255
theorem l6Open_ac (b : List Int) (hl : b.length ≤ 1099511627776) : AC Try.prog 73 [bytesT b] noHp 0 ⟨.t (.c (.ph 0 0 0)), hpL [some (rdO (b.take 2000) 0)], 1⟩ := by
  refine AC_of Try.func73 rfl Try.ntmps73 Try.results73 (by kernel_rfl) rfl ?_
  simp only [List.zipIdx, List.map, Nat.zero_add, Nat.reduceAdd]
  by_cases h : b.length ≤ 2000
  · have g1 : decide ((2000 : Int) < (b.length : Int)) = false := decide_eq_false (by omega)
    rw [List.take_of_length_le h]
    repeat (first | apply Aw_seq | apply Aw_block | apply Aw_skip | apply Aw_exit | refine Aw_condt rfl ?_ | refine Aw_condf rfl ?_ | (refine qr ?_; simp only [go_sem, Nat.reduceEqDiff, reduceIte, Nat.reduceAdd, Nat.reduceMul, Nat.reduceSub, Nat.reduceLT, Nat.reduceLeDiff, Nat.reduceBEq, g1]) | (refine qd (by kernel_rfl) (by kernel_rfl) ?_; simp only [go_sem, Nat.reduceEqDiff, reduceIte, Nat.reduceAdd, Nat.reduceMul, Nat.reduceSub, Nat.reduceLT, Nat.reduceLeDiff, Nat.reduceBEq, g1]) | refine dk (by kernel_rfl) ?_)
    exact Aw_ret (retL (M := [6]) (.inl rfl) (by simp only [go_sem, Nat.reduceEqDiff, reduceIte, Nat.reduceAdd, Nat.reduceMul, Nat.reduceSub, Nat.reduceLT, Nat.reduceLeDiff, Nat.reduceBEq]; first | done | rfl) rfl rfl (by rfl) (by simp only [go_sem, Nat.reduceEqDiff, reduceIte, Nat.reduceAdd, Nat.reduceMul, Nat.reduceSub, Nat.reduceLT, Nat.reduceLeDiff, Nat.reduceBEq]; first | done | rfl | (and_intros <;> rfl)) (by decide) (by intro m hm; first | omega | (rcases m with _ | _ | _ | _ | _ | _ | m <;> first | exact ⟨by decide, rfl⟩ | omega)))
  · have g1 : decide ((2000 : Int) < (b.length : Int)) = true := decide_eq_true (by omega)
    have g2 : ((2000 : Int) ≤ (b.length : Int)) = True := eq_true (by omega)
    have g3 : ((0 : Int) ≤ 2000) = True := eq_true (by omega)
    have g4 : Int.toNat 2000 = 2000 := rfl
    have g5 : (List.map u8D b).take 2000 = List.map u8D (b.take 2000) := by rw [List.map_take]
    repeat (first | apply Aw_seq | apply Aw_block | apply Aw_skip | apply Aw_exit | refine Aw_condt rfl ?_ | refine Aw_condf rfl ?_ | (refine qr ?_; simp only [go_sem, Nat.reduceEqDiff, reduceIte, Nat.reduceAdd, Nat.reduceMul, Nat.reduceSub, Nat.reduceLT, Nat.reduceLeDiff, Nat.reduceBEq, g1, g2, g3, g4, g5]) | (refine qd (by kernel_rfl) (by kernel_rfl) ?_; simp only [go_sem, Nat.reduceEqDiff, reduceIte, Nat.reduceAdd, Nat.reduceMul, Nat.reduceSub, Nat.reduceLT, Nat.reduceLeDiff, Nat.reduceBEq, g1, g2, g3, g4, g5]) | refine dk (by kernel_rfl) ?_)
    exact Aw_ret (retL (M := [9]) (.inl rfl) (by simp only [go_sem, Nat.reduceEqDiff, reduceIte, Nat.reduceAdd, Nat.reduceMul, Nat.reduceSub, Nat.reduceLT, Nat.reduceLeDiff, Nat.reduceBEq]; first | done | rfl) rfl rfl (by rfl) (by simp only [go_sem, Nat.reduceEqDiff, reduceIte, Nat.reduceAdd, Nat.reduceMul, Nat.reduceSub, Nat.reduceLT, Nat.reduceLeDiff, Nat.reduceBEq]; first | done | rfl | (and_intros <;> rfl)) (by decide) (by intro m hm; first | omega | (rcases m with _ | _ | _ | _ | _ | _ | m <;> first | exact ⟨by decide, rfl⟩ | omega)))
theorem wn {x : Int} {m : Nat} (e : x = (m : Int)) (h : m ≤ 1099511627776) : IntKind.i64.wrap x = (m : Int) := by rw [e]; exact wrap_nat h
theorem xorN (X Y : Nat) (hX : X ≤ 1099511627776) (hY : Y ≤ 1099511627776) : ∃ v : Nat, IntKind.i64.wrap (((BitVec.ofInt IntKind.i64.bits (X : Int) ^^^ BitVec.ofInt IntKind.i64.bits (Y : Int)).toNat : Nat) : Int) = v := by
  have e62 : (2 : Nat) ^ 62 = 4611686018427387904 := by decide
  have e64 : (2 : Nat) ^ 64 = 18446744073709551616 := by decide
  have hx := Nat.xor_lt_two_pow (n := 62) (show X < 2 ^ 62 by omega) (show Y < 2 ^ 62 by omega)
  have hb : ∀ q : Nat, q < 2 ^ 62 → (BitVec.ofInt IntKind.i64.bits (q : Int)).toNat = q := fun q hq => by
    show (BitVec.ofInt 64 (q : Int)).toNat = q
    rw [BitVec.ofInt_natCast, BitVec.toNat_ofNat]; exact Nat.mod_eq_of_lt (by omega)
  refine ⟨X ^^^ Y, ?_⟩
  rw [BitVec.toNat_xor, hb X (by omega), hb Y (by omega)]
  simp only [IntKind.wrap, IntKind.bits, IntKind.signed]
  simp
  omega
theorem byte_at {b : List Int} (hb : byteL b) {i : Nat} (h : i < b.length) : ∃ n : Nat, n ≤ 255 ∧ b[i]? = some (n : Int) := by
  have := hb.2 b[i] (List.getElem_mem h)
  exact ⟨b[i].toNat, by omega, by rw [List.getElem?_eq_getElem h]; congr 1; omega⟩
theorem pick_ac (b : List Int) (p : Nat) (n : Int) (hb : byteL b) (hp : p ≤ 1000000) (hn : n ≤ 1099511627776) : ∃ v : Nat, (1 ≤ n → (v : Int) < n) ∧ (¬ 1 ≤ n → v = 0) ∧ AC Try.prog 76 [.c (.ph 0 0 0), iT n] (hpL [some (rdO b p)]) 1 ⟨.t (iT v), hpL [some (rdO b (p + 1))], 1⟩ := by
  have w1 : IntKind.i64.wrap ((p : Int) + 1) = ((p + 1 : Nat) : Int) := wn (by omega) (by omega)
  have w2 : IntKind.i64.wrap (((p + 1 : Nat) : Int) - 1) = (p : Int) := wn (by omega) (by omega)
  have z0 : ((0 : Nat) : Int) = 0 := rfl
  by_cases c1 : 1 ≤ n
  case neg =>
    refine ⟨0, fun h => absurd h c1, fun _ => rfl, ?_⟩
    have g1 : decide (n < 1) = true := decide_eq_true (by omega)
    refine AC_of Try.func76 rfl Try.ntmps76 Try.results76 (by kernel_rfl) rfl ?_
    simp only [List.zipIdx, List.map, Nat.zero_add, Nat.reduceAdd]
    repeat (first | apply Aw_seq | apply Aw_block | apply Aw_skip | apply Aw_exit | refine Aw_condt rfl ?_ | refine Aw_condf rfl ?_ | (refine qr ?_; simp only [go_sem, Nat.reduceEqDiff, reduceIte, Nat.reduceAdd, Nat.reduceMul, Nat.reduceSub, Nat.reduceLT, Nat.reduceLeDiff, Nat.reduceBEq, w1, g1]) | (refine qd (by kernel_rfl) (by kernel_rfl) ?_; simp only [go_sem, Nat.reduceEqDiff, reduceIte, Nat.reduceAdd, Nat.reduceMul, Nat.reduceSub, Nat.reduceLT, Nat.reduceLeDiff, Nat.reduceBEq, w1, g1]) | refine dk (by kernel_rfl) ?_)
    exact Aw_ret (retL (M := [0]) (.inl rfl) (by simp only [go_sem, Nat.reduceEqDiff, reduceIte, Nat.reduceAdd, Nat.reduceMul, Nat.reduceSub, Nat.reduceLT, Nat.reduceLeDiff, Nat.reduceBEq]; first | done | rfl) rfl rfl (by rfl) (by simp only [go_sem, Nat.reduceEqDiff, reduceIte, Nat.reduceAdd, Nat.reduceMul, Nat.reduceSub, Nat.reduceLT, Nat.reduceLeDiff, Nat.reduceBEq]; first | done | rfl | (and_intros <;> rfl)) (by decide) (by intro m hm; first | omega | (rcases m with _ | _ | _ | _ | _ | _ | m <;> first | exact ⟨by decide, rfl⟩ | omega)))
  have g1 : decide (n < 1) = false := decide_eq_false (by omega)
  have gn : (n = 0) = False := eq_false (by omega)
  by_cases c2 : b.length = 0
  · refine ⟨0, fun _ => by omega, fun h => absurd c1 h, ?_⟩
    have g2 : decide (((b.length : Nat) : Int) = 0) = true := decide_eq_true (by omega)
    refine AC_of Try.func76 rfl Try.ntmps76 Try.results76 (by kernel_rfl) rfl ?_
    simp only [List.zipIdx, List.map, Nat.zero_add, Nat.reduceAdd]
    repeat (first | apply Aw_seq | apply Aw_block | apply Aw_skip | apply Aw_exit | refine Aw_condt rfl ?_ | refine Aw_condf rfl ?_ | (refine qr ?_; simp only [go_sem, Nat.reduceEqDiff, reduceIte, Nat.reduceAdd, Nat.reduceMul, Nat.reduceSub, Nat.reduceLT, Nat.reduceLeDiff, Nat.reduceBEq, w1, g1, g2]) | (refine qd (by kernel_rfl) (by kernel_rfl) ?_; simp only [go_sem, Nat.reduceEqDiff, reduceIte, Nat.reduceAdd, Nat.reduceMul, Nat.reduceSub, Nat.reduceLT, Nat.reduceLeDiff, Nat.reduceBEq, w1, g1, g2]) | refine dk (by kernel_rfl) ?_)
    exact Aw_ret (retL (M := [0]) (.inl rfl) (by simp only [go_sem, Nat.reduceEqDiff, reduceIte, Nat.reduceAdd, Nat.reduceMul, Nat.reduceSub, Nat.reduceLT, Nat.reduceLeDiff, Nat.reduceBEq]; first | done | rfl) rfl rfl (by rfl) (by simp only [go_sem, Nat.reduceEqDiff, reduceIte, Nat.reduceAdd, Nat.reduceMul, Nat.reduceSub, Nat.reduceLT, Nat.reduceLeDiff, Nat.reduceBEq]; first | done | rfl | (and_intros <;> rfl)) (by decide) (by intro m hm; first | omega | (rcases m with _ | _ | _ | _ | _ | _ | m <;> first | exact ⟨by decide, rfl⟩ | omega)))
  have g2 : decide (((b.length : Nat) : Int) = 0) = false := decide_eq_false (by omega)
  have gl : (((b.length : Nat) : Int) = 0) = False := eq_false (by omega)
  have hL := hb.1
  have tm : ∀ x : Nat, ∃ v : Nat, (x : Int).tmod n = v ∧ (v : Int) < n := fun x => by
    have h1 := Int.tmod_nonneg n (show (0 : Int) ≤ (x : Int) by omega)
    have h2 := Int.tmod_lt_of_pos (x : Int) (show (0 : Int) < n by omega)
    exact ⟨((x : Int).tmod n).toNat, by omega, by omega⟩
  by_cases c3 : p < b.length
  · obtain ⟨x, hx1, hx⟩ := byte_at hb c3
    obtain ⟨v, hv, hv2⟩ := tm x
    refine ⟨v, fun _ => hv2, fun h => absurd c1 h, ?_⟩
    have g3 : decide ((p : Int) < ((b.length : Nat) : Int)) = true := decide_eq_true (by omega)
    have wx : IntKind.i64.wrap (x : Int) = x := wrap_nat (by omega)
    refine AC_of Try.func76 rfl Try.ntmps76 Try.results76 (by kernel_rfl) rfl ?_
    simp only [List.zipIdx, List.map, Nat.zero_add, Nat.reduceAdd]
    repeat (first | apply Aw_seq | apply Aw_block | apply Aw_skip | apply Aw_exit | refine Aw_condt rfl ?_ | refine Aw_condf rfl ?_ | (refine qr ?_; simp only [go_sem, Nat.reduceEqDiff, reduceIte, Nat.reduceAdd, Nat.reduceMul, Nat.reduceSub, Nat.reduceLT, Nat.reduceLeDiff, Nat.reduceBEq, w1, w2, g1, g2, g3, hx, wx, gn, hv]) | (refine qd (by kernel_rfl) (by kernel_rfl) ?_; simp only [go_sem, Nat.reduceEqDiff, reduceIte, Nat.reduceAdd, Nat.reduceMul, Nat.reduceSub, Nat.reduceLT, Nat.reduceLeDiff, Nat.reduceBEq, w1, w2, g1, g2, g3, hx, wx, gn, hv]) | refine dk (by kernel_rfl) ?_)
    exact Aw_ret (retL (M := [0]) (.inl rfl) (by simp only [go_sem, Nat.reduceEqDiff, reduceIte, Nat.reduceAdd, Nat.reduceMul, Nat.reduceSub, Nat.reduceLT, Nat.reduceLeDiff, Nat.reduceBEq]; first | done | rfl) rfl rfl (by rfl) (by simp only [go_sem, Nat.reduceEqDiff, reduceIte, Nat.reduceAdd, Nat.reduceMul, Nat.reduceSub, Nat.reduceLT, Nat.reduceLeDiff, Nat.reduceBEq]; first | done | rfl | (and_intros <;> rfl)) (by decide) (by intro m hm; first | omega | (rcases m with _ | _ | _ | _ | _ | _ | m <;> first | exact ⟨by decide, rfl⟩ | omega)))
  · have g3 : decide ((p : Int) < ((b.length : Nat) : Int)) = false := decide_eq_false (by omega)
    have hi1 : p % b.length < b.length := Nat.mod_lt _ (by omega)
    have hi2 : (p * 7 + 3) % b.length < b.length := Nat.mod_lt _ (by omega)
    obtain ⟨x1, b1, hx1⟩ := byte_at hb hi1
    obtain ⟨x2, b2, hx2⟩ := byte_at hb hi2
    have hq : p / b.length ≤ p := Nat.div_le_self _ _
    have t1 : (p : Int).tmod ((b.length : Nat) : Int) = ((p % b.length : Nat) : Int) := rfl
    have e7 : IntKind.i64.wrap ((p : Int) * 7) = ((p * 7 : Nat) : Int) := wn (by omega) (by omega)
    have e73 : IntKind.i64.wrap (((p * 7 : Nat) : Int) + 3) = ((p * 7 + 3 : Nat) : Int) := wn (by omega) (by omega)
    have t2 : ((p * 7 + 3 : Nat) : Int).tmod ((b.length : Nat) : Int) = (((p * 7 + 3) % b.length : Nat) : Int) := rfl
    have t3 : (p : Int).tdiv ((b.length : Nat) : Int) = ((p / b.length : Nat) : Int) := rfl
    obtain ⟨q, hqe⟩ : ∃ q, q = p / b.length := ⟨_, rfl⟩
    rw [← hqe] at t3 hq
    have wq : IntKind.i64.wrap (q : Int) = q := wrap_nat (by omega)
    have wx1 : IntKind.i64.wrap (x1 : Int) = x1 := wrap_nat (by omega)
    have wx2 : IntKind.i64.wrap (x2 : Int) = x2 := wrap_nat (by omega)
    have m1 : IntKind.i64.wrap ((x1 : Int) * 131) = ((x1 * 131 : Nat) : Int) := wn (by omega) (by omega)
    have m2 : IntKind.i64.wrap ((x2 : Int) * 1117) = ((x2 * 1117 : Nat) : Int) := wn (by omega) (by omega)
    have m3 : IntKind.i64.wrap (((x1 * 131 : Nat) : Int) + ((x2 * 1117 : Nat) : Int)) = ((x1 * 131 + x2 * 1117 : Nat) : Int) := wn (by omega) (by omega)
    have m4 : IntKind.i64.wrap ((p : Int) * 29) = ((p * 29 : Nat) : Int) := wn (by omega) (by omega)
    have m5 : IntKind.i64.wrap (((x1 * 131 + x2 * 1117 : Nat) : Int) + ((p * 29 : Nat) : Int)) = ((x1 * 131 + x2 * 1117 + p * 29 : Nat) : Int) := wn (by omega) (by omega)
    have m6 : IntKind.i64.wrap ((q : Int) * 53) = ((q * 53 : Nat) : Int) := wn (by omega) (by omega)
    obtain ⟨X, hX⟩ : ∃ X, X = x1 * 131 + x2 * 1117 + p * 29 + q * 53 := ⟨_, rfl⟩
    have m7 : IntKind.i64.wrap (((x1 * 131 + x2 * 1117 + p * 29 : Nat) : Int) + ((q * 53 : Nat) : Int)) = (X : Int) := wn (by omega) (by omega)
    have t4 : (X : Int).tdiv 64 = ((X / 64 : Nat) : Int) := rfl
    have m8 : IntKind.i64.wrap ((X / 64 : Nat) : Int) = ((X / 64 : Nat) : Int) := wrap_nat (by omega)
    have s0 : ((64 : Int) = 0) = False := eq_false (by decide)
    obtain ⟨u, hu⟩ := xorN X (X / 64) (by omega) (by omega)
    obtain ⟨v, hv, hv2⟩ := tm u
    refine ⟨v, fun _ => hv2, fun h => absurd c1 h, ?_⟩
    refine AC_of Try.func76 rfl Try.ntmps76 Try.results76 (by kernel_rfl) rfl ?_
    simp only [List.zipIdx, List.map, Nat.zero_add, Nat.reduceAdd]
    repeat (first | apply Aw_seq | apply Aw_block | apply Aw_skip | apply Aw_exit | refine Aw_condt rfl ?_ | refine Aw_condf rfl ?_ | (refine qr ?_; simp only [go_sem, Nat.reduceEqDiff, reduceIte, Nat.reduceAdd, Nat.reduceMul, Nat.reduceSub, Nat.reduceLT, Nat.reduceLeDiff, Nat.reduceBEq, w1, w2, g1, g2, gl, g3, t1, hx1, wx1, m1, e7, e73, t2, hx2, wx2, m2, m3, m4, m5, t3, wq, m6, m7, t4, m8, s0, gn]) | (refine qd (by kernel_rfl) (by kernel_rfl) ?_; simp only [go_sem, Nat.reduceEqDiff, reduceIte, Nat.reduceAdd, Nat.reduceMul, Nat.reduceSub, Nat.reduceLT, Nat.reduceLeDiff, Nat.reduceBEq, w1, w2, g1, g2, gl, g3, t1, hx1, wx1, m1, e7, e73, t2, hx2, wx2, m2, m3, m4, m5, t3, wq, m6, m7, t4, m8, s0, gn]) | refine dk (by kernel_rfl) ?_)
    generalize hg : IntKind.i64.wrap ((BitVec.toNat _ : Nat) : Int) = w
    obtain rfl : w = (u : Int) := hg.symm.trans hu
    rw [hv]
    exact Aw_ret (retL (M := [0]) (.inl rfl) (by simp only [go_sem, Nat.reduceEqDiff, reduceIte, Nat.reduceAdd, Nat.reduceMul, Nat.reduceSub, Nat.reduceLT, Nat.reduceLeDiff, Nat.reduceBEq]; first | done | rfl) rfl rfl (by rfl) (by simp only [go_sem, Nat.reduceEqDiff, reduceIte, Nat.reduceAdd, Nat.reduceMul, Nat.reduceSub, Nat.reduceLT, Nat.reduceLeDiff, Nat.reduceBEq]; first | done | rfl | (and_intros <;> rfl)) (by decide) (by intro m hm; first | omega | (rcases m with _ | _ | _ | _ | _ | _ | m <;> first | exact ⟨by decide, rfl⟩ | omega)))
end Go.Proofs.Ytcbhgglpgphimaa.Ab
namespace Go.Proofs.Ytcbhgglpgphimaa.Ab
set_option linter.deprecated false
set_option linter.unusedVariables false
set_option linter.unusedSimpArgs false
open Go Go.Proofs
set_option maxRecDepth 10000
set_option maxHeartbeats 8000000
set_option linter.unusedSimpArgs false
set_option linter.unusedVariables false
def putL (k : ByteArray) : List ByteArray → Bool → List ByteArray → Option (List ByteArray)
  | [], done, out => some (if done = true then out else out ++ [k])
  | x :: r, done, out => if x = k then none else putL k r (done || !klt x k) ((if (!done && !klt x k) = true then out ++ [k] else out) ++ [x])
def putK (ks : List ByteArray) (k : ByteArray) : List ByteArray := (putL k ks false []).getD ks
theorem putL_mem {k : ByteArray} : ∀ {xs : List ByteArray} {d : Bool} {out o : List ByteArray}, putL k xs d out = some o → (∀ y ∈ o, y ∈ out ∨ y ∈ xs ∨ y = k) ∧ o.length ≤ out.length + xs.length + (if d = true then 0 else 1)
  | [], d, out, o, h => by
    simp only [putL, Option.some.injEq] at h
    subst h
    cases d
    · exact ⟨fun y hy => by simp at hy; rcases hy with h | h; exact .inl h; exact .inr (.inr h), by simp⟩
    · exact ⟨fun y hy => .inl (by simpa using hy), by simp⟩
  | x :: r, d, out, o, h => by
    simp only [putL] at h
    split at h
    · cases h
    · obtain ⟨h1, h2⟩ := putL_mem h
      constructor
      · intro y hy
        rcases h1 y hy with h | h | h
        · rcases List.mem_append.1 h with h | h
          · split at h
            · rcases List.mem_append.1 h with h | h
              · exact .inl h
              · exact .inr (.inr (by simpa using h))
            · exact .inl h
          · exact .inr (.inl (by simp at h; simp [h]))
        · exact .inr (.inl (by simp [h]))
        · exact .inr (.inr h)
      · refine Nat.le_trans h2 ?_
        cases d <;> cases klt x k <;> simp <;> omega
@[go_sem] theorem d_ft2 (e k : Nat) (a : List (List D)) (x y : D) : (⟨e, k, true, List.map (fun x => List.map CV.d x) a ++ [[.d x], [.d y]]⟩ : Obj) = dRow e k (a ++ [[x], [y]]) := by simp [dRow]
theorem lenA {α : Type} {out : List α} {i : Nat} {k x : α} (h : out.length ≤ i + (if false = true then 1 else 0)) : (out ++ [k] ++ [x]).length ≤ i + 1 + (if true = true then 1 else 0) := by simp at h ⊢; omega
theorem lenB {α : Type} {out : List α} {i : Nat} {b : Bool} {x : α} (h : out.length ≤ i + (if b = true then 1 else 0)) : (out ++ [x]).length ≤ i + 1 + (if b = true then 1 else 0) := by cases b <;> simp at h ⊢ <;> omega
theorem lenC {α : Type} {out : List α} {i n : Nat} {b : Bool} (h : out.length ≤ i + (if b = true then 1 else 0)) (hi : i ≤ n) (hn : n ≤ 4000000) : (out.length + 1) * 16 ≤ 140737488355328 ∧ (out.length + 1 + 1) * 16 ≤ 140737488355328 := by cases b <;> simp at h <;> omega
structure PuI (ks : List ByteArray) (k : ByteArray) where
  i : Nat
  d : Bool
  out : List ByteArray
  hi : i ≤ ks.length
  hl : out.length ≤ i + (if d = true then 1 else 0)
  h : putL k (ks.drop i) d out = putL k ks false []
theorem l2Put_no (ks : List ByteArray) (k : ByteArray) (hl : ks.length ≤ 4000000) (h0 : putL k ks false [] = none) : AC Try.prog 79 [strsT ks, sT k] noHp 0 ⟨.t (strsT ks), noHp, 0⟩ := by
  refine AC_of Try.func79 rfl Try.ntmps79 Try.results79 (by kernel_rfl) rfl ?_
  simp only [List.zipIdx, List.map, Nat.zero_add, Nat.reduceAdd]
  repeat (first | apply Aw_seq | apply Aw_block | apply Aw_skip | apply Aw_exit | refine Aw_condt rfl ?_ | refine Aw_condf rfl ?_ | (refine qr ?_; simp only [go_sem, Nat.reduceEqDiff, reduceIte, Nat.reduceAdd, Nat.reduceMul, Nat.reduceSub, Nat.reduceLT, Nat.reduceLeDiff, Nat.reduceBEq]) | (refine qd (by kernel_rfl) (by kernel_rfl) ?_; simp only [go_sem, Nat.reduceEqDiff, reduceIte, Nat.reduceAdd, Nat.reduceMul, Nat.reduceSub, Nat.reduceLT, Nat.reduceLeDiff, Nat.reduceBEq]) | refine dk (by kernel_rfl) ?_)
  refine Aw.rw (rwL (l' := [(7, .t (iT (0 : Nat))), (6, .t (bT false)), (5, .t (.c (.h 0))), (1, .t (sT k)), (0, .t (strsT ks))]) (os := [some (kRow [])]) (M := [1]) (n' := 1) (by repeat (first | exact trivial | refine ⟨rfl, rfl, ?_⟩)) (by rfl) (by simp only [go_sem, Nat.reduceEqDiff, reduceIte, Nat.reduceAdd, Nat.reduceMul, Nat.reduceSub, Nat.reduceLT, Nat.reduceLeDiff, Nat.reduceBEq, List.map_nil]; first | done | rfl) (by decide) (by intro m hm; first | omega | (rcases m with _ | _ | _ | _ | _ | _ | m <;> first | exact ⟨by decide, rfl⟩ | omega))) ?_
  refine Aw_loop_rw (ι := PuI ks k) (fun q => S [(7, .t (iT (q.i : Nat))), (6, .t (bT q.d)), (5, .t (.c (.h 0))), (1, .t (sT k)), (0, .t (strsT ks))] (hpL [some (kRow q.out)]) 1) (fun q => ks.length - q.i) ⟨0, false, [], Nat.zero_le _, by simp, rfl⟩ ?_
  rintro ⟨i, d, out, hi, hlo, h⟩
  dsimp only
  by_cases hlt : i < ks.length
  · have g1 : (i : Int) < (ks.length : Int) := by omega
    have w1 := wrap_succ hlt (by omega)
    obtain ⟨x, hx⟩ : ∃ e, ks[i]? = some e := ⟨_, List.getElem?_eq_getElem hlt⟩
    have hd : ks.drop i = x :: ks.drop (i + 1) := by rw [List.drop_eq_getElem_cons hlt]; congr 1; rw [List.getElem?_eq_getElem hlt] at hx; exact Option.some.inj hx
    obtain ⟨q1, q2⟩ := lenC hlo hi hl
    rw [hd] at h
    cases c1 : decide (x = k)
    · have hne := of_decide_eq_false c1
      simp only [putL, if_neg hne] at h
      cases d
      · cases c2 : klt x k
        · have h' : putL k (ks.drop (i + 1)) true (out ++ [k] ++ [x]) = putL k ks false [] := by rw [← h, c2]; rfl
          repeat (first | apply Aw_seq | apply Aw_block | apply Aw_skip | apply Aw_exit | refine Aw_condt rfl ?_ | refine Aw_condf rfl ?_ | (refine qr ?_; simp only [go_sem, Nat.reduceEqDiff, reduceIte, Nat.reduceAdd, Nat.reduceMul, Nat.reduceSub, Nat.reduceLT, Nat.reduceLeDiff, Nat.reduceBEq, g1, w1, hx, c1, c2, q1, q2]) | (refine qd (by kernel_rfl) (by kernel_rfl) ?_; simp only [go_sem, Nat.reduceEqDiff, reduceIte, Nat.reduceAdd, Nat.reduceMul, Nat.reduceSub, Nat.reduceLT, Nat.reduceLeDiff, Nat.reduceBEq, g1, w1, hx, c1, c2, q1, q2]) | refine dk (by kernel_rfl) ?_)
          refine ⟨⟨i + 1, true, out ++ [k] ++ [x], hlt, lenA hlo, h'⟩, [33], ?_, rwL (by repeat (first | exact trivial | refine ⟨rfl, rfl, ?_⟩)) (by rfl) (by simp only [go_sem, Nat.reduceEqDiff, reduceIte, Nat.reduceAdd, Nat.reduceMul, Nat.reduceSub, Nat.reduceLT, Nat.reduceLeDiff, Nat.reduceBEq, List.map_append, List.map_cons, List.map_nil, List.append_assoc]; first | done | rfl) (by decide) (by intro m hm; first | omega | (rcases m with _ | _ | _ | _ | _ | _ | m <;> first | exact ⟨by decide, rfl⟩ | omega))⟩
          show ks.length - (i + 1) < ks.length - i; omega
        · have h' : putL k (ks.drop (i + 1)) false (out ++ [x]) = putL k ks false [] := by rw [← h, c2]; rfl
          repeat (first | apply Aw_seq | apply Aw_block | apply Aw_skip | apply Aw_exit | refine Aw_condt rfl ?_ | refine Aw_condf rfl ?_ | (refine qr ?_; simp only [go_sem, Nat.reduceEqDiff, reduceIte, Nat.reduceAdd, Nat.reduceMul, Nat.reduceSub, Nat.reduceLT, Nat.reduceLeDiff, Nat.reduceBEq, g1, w1, hx, c1, c2, q1]) | (refine qd (by kernel_rfl) (by kernel_rfl) ?_; simp only [go_sem, Nat.reduceEqDiff, reduceIte, Nat.reduceAdd, Nat.reduceMul, Nat.reduceSub, Nat.reduceLT, Nat.reduceLeDiff, Nat.reduceBEq, g1, w1, hx, c1, c2, q1]) | refine dk (by kernel_rfl) ?_)
          refine ⟨⟨i + 1, false, out ++ [x], hlt, lenB hlo, h'⟩, [27], ?_, rwL (by repeat (first | exact trivial | refine ⟨rfl, rfl, ?_⟩)) (by rfl) (by simp only [go_sem, Nat.reduceEqDiff, reduceIte, Nat.reduceAdd, Nat.reduceMul, Nat.reduceSub, Nat.reduceLT, Nat.reduceLeDiff, Nat.reduceBEq, List.map_append, List.map_cons, List.map_nil]; first | done | rfl) (by decide) (by intro m hm; first | omega | (rcases m with _ | _ | _ | _ | _ | _ | m <;> first | exact ⟨by decide, rfl⟩ | omega))⟩
          show ks.length - (i + 1) < ks.length - i; omega
      · have h' : putL k (ks.drop (i + 1)) true (out ++ [x]) = putL k ks false [] := by rw [← h]; cases klt x k <;> rfl
        repeat (first | apply Aw_seq | apply Aw_block | apply Aw_skip | apply Aw_exit | refine Aw_condt rfl ?_ | refine Aw_condf rfl ?_ | (refine qr ?_; simp only [go_sem, Nat.reduceEqDiff, reduceIte, Nat.reduceAdd, Nat.reduceMul, Nat.reduceSub, Nat.reduceLT, Nat.reduceLeDiff, Nat.reduceBEq, g1, w1, hx, c1, q1]) | (refine qd (by kernel_rfl) (by kernel_rfl) ?_; simp only [go_sem, Nat.reduceEqDiff, reduceIte, Nat.reduceAdd, Nat.reduceMul, Nat.reduceSub, Nat.reduceLT, Nat.reduceLeDiff, Nat.reduceBEq, g1, w1, hx, c1, q1]) | refine dk (by kernel_rfl) ?_)
        refine ⟨⟨i + 1, true, out ++ [x], hlt, lenB hlo, h'⟩, [21], ?_, rwL (by repeat (first | exact trivial | refine ⟨rfl, rfl, ?_⟩)) (by rfl) (by simp only [go_sem, Nat.reduceEqDiff, reduceIte, Nat.reduceAdd, Nat.reduceMul, Nat.reduceSub, Nat.reduceLT, Nat.reduceLeDiff, Nat.reduceBEq, List.map_append, List.map_cons, List.map_nil]; first | done | rfl) (by decide) (by intro m hm; first | omega | (rcases m with _ | _ | _ | _ | _ | _ | m <;> first | exact ⟨by decide, rfl⟩ | omega))⟩
        show ks.length - (i + 1) < ks.length - i; omega
    · repeat (first | apply Aw_seq | apply Aw_block | apply Aw_skip | apply Aw_exit | refine Aw_condt rfl ?_ | refine Aw_condf rfl ?_ | (refine qr ?_; simp only [go_sem, Nat.reduceEqDiff, reduceIte, Nat.reduceAdd, Nat.reduceMul, Nat.reduceSub, Nat.reduceLT, Nat.reduceLeDiff, Nat.reduceBEq, g1, hx, c1]) | (refine qd (by kernel_rfl) (by kernel_rfl) ?_; simp only [go_sem, Nat.reduceEqDiff, reduceIte, Nat.reduceAdd, Nat.reduceMul, Nat.reduceSub, Nat.reduceLT, Nat.reduceLeDiff, Nat.reduceBEq, g1, hx, c1]) | refine dk (by kernel_rfl) ?_)
      exact Aw_ret (ret0 (.inl rfl) (by simp only [go_sem, Nat.reduceEqDiff, reduceIte, Nat.reduceAdd, Nat.reduceMul, Nat.reduceSub, Nat.reduceLT, Nat.reduceLeDiff, Nat.reduceBEq]; rfl) (by rfl) rfl)
  · have g1 : ¬ (i : Int) < (ks.length : Int) := by omega
    rw [List.drop_eq_nil_of_le (by omega), h0] at h
    simp [putL] at h
theorem l2Put_ok (ks o : List ByteArray) (k : ByteArray) (hl : ks.length ≤ 4000000) (h0 : putL k ks false [] = some o) : AC Try.prog 79 [strsT ks, sT k] noHp 0 ⟨.t (.c (.h 0)), hpL [some (kRow o)], 1⟩ := by
  refine AC_of Try.func79 rfl Try.ntmps79 Try.results79 (by kernel_rfl) rfl ?_
  simp only [List.zipIdx, List.map, Nat.zero_add, Nat.reduceAdd]
  repeat (first | apply Aw_seq | apply Aw_block | apply Aw_skip | apply Aw_exit | refine Aw_condt rfl ?_ | refine Aw_condf rfl ?_ | (refine qr ?_; simp only [go_sem, Nat.reduceEqDiff, reduceIte, Nat.reduceAdd, Nat.reduceMul, Nat.reduceSub, Nat.reduceLT, Nat.reduceLeDiff, Nat.reduceBEq]) | (refine qd (by kernel_rfl) (by kernel_rfl) ?_; simp only [go_sem, Nat.reduceEqDiff, reduceIte, Nat.reduceAdd, Nat.reduceMul, Nat.reduceSub, Nat.reduceLT, Nat.reduceLeDiff, Nat.reduceBEq]) | refine dk (by kernel_rfl) ?_)
  refine Aw.rw (rwL (l' := [(7, .t (iT (0 : Nat))), (6, .t (bT false)), (5, .t (.c (.h 0))), (1, .t (sT k)), (0, .t (strsT ks))]) (os := [some (kRow [])]) (M := [1]) (n' := 1) (by repeat (first | exact trivial | refine ⟨rfl, rfl, ?_⟩)) (by rfl) (by simp only [go_sem, Nat.reduceEqDiff, reduceIte, Nat.reduceAdd, Nat.reduceMul, Nat.reduceSub, Nat.reduceLT, Nat.reduceLeDiff, Nat.reduceBEq, List.map_nil]; first | done | rfl) (by decide) (by intro m hm; first | omega | (rcases m with _ | _ | _ | _ | _ | _ | m <;> first | exact ⟨by decide, rfl⟩ | omega))) ?_
  refine Aw_loop_rw (ι := PuI ks k) (fun q => S [(7, .t (iT (q.i : Nat))), (6, .t (bT q.d)), (5, .t (.c (.h 0))), (1, .t (sT k)), (0, .t (strsT ks))] (hpL [some (kRow q.out)]) 1) (fun q => ks.length - q.i) ⟨0, false, [], Nat.zero_le _, by simp, rfl⟩ ?_
  rintro ⟨i, d, out, hi, hlo, h⟩
  dsimp only
  by_cases hlt : i < ks.length
  · have g1 : (i : Int) < (ks.length : Int) := by omega
    have w1 := wrap_succ hlt (by omega)
    obtain ⟨x, hx⟩ : ∃ e, ks[i]? = some e := ⟨_, List.getElem?_eq_getElem hlt⟩
    have hd : ks.drop i = x :: ks.drop (i + 1) := by rw [List.drop_eq_getElem_cons hlt]; congr 1; rw [List.getElem?_eq_getElem hlt] at hx; exact Option.some.inj hx
    obtain ⟨q1, q2⟩ := lenC hlo hi hl
    rw [hd] at h
    cases c1 : decide (x = k)
    · have hne := of_decide_eq_false c1
      simp only [putL, if_neg hne] at h
      cases d
      · cases c2 : klt x k
        · have h' : putL k (ks.drop (i + 1)) true (out ++ [k] ++ [x]) = putL k ks false [] := by rw [← h, c2]; rfl
          repeat (first | apply Aw_seq | apply Aw_block | apply Aw_skip | apply Aw_exit | refine Aw_condt rfl ?_ | refine Aw_condf rfl ?_ | (refine qr ?_; simp only [go_sem, Nat.reduceEqDiff, reduceIte, Nat.reduceAdd, Nat.reduceMul, Nat.reduceSub, Nat.reduceLT, Nat.reduceLeDiff, Nat.reduceBEq, g1, w1, hx, c1, c2, q1, q2]) | (refine qd (by kernel_rfl) (by kernel_rfl) ?_; simp only [go_sem, Nat.reduceEqDiff, reduceIte, Nat.reduceAdd, Nat.reduceMul, Nat.reduceSub, Nat.reduceLT, Nat.reduceLeDiff, Nat.reduceBEq, g1, w1, hx, c1, c2, q1, q2]) | refine dk (by kernel_rfl) ?_)
          refine ⟨⟨i + 1, true, out ++ [k] ++ [x], hlt, lenA hlo, h'⟩, [33], ?_, rwL (by repeat (first | exact trivial | refine ⟨rfl, rfl, ?_⟩)) (by rfl) (by simp only [go_sem, Nat.reduceEqDiff, reduceIte, Nat.reduceAdd, Nat.reduceMul, Nat.reduceSub, Nat.reduceLT, Nat.reduceLeDiff, Nat.reduceBEq, List.map_append, List.map_cons, List.map_nil, List.append_assoc]; first | done | rfl) (by decide) (by intro m hm; first | omega | (rcases m with _ | _ | _ | _ | _ | _ | m <;> first | exact ⟨by decide, rfl⟩ | omega))⟩
          show ks.length - (i + 1) < ks.length - i; omega
        · have h' : putL k (ks.drop (i + 1)) false (out ++ [x]) = putL k ks false [] := by rw [← h, c2]; rfl
          repeat (first | apply Aw_seq | apply Aw_block | apply Aw_skip | apply Aw_exit | refine Aw_condt rfl ?_ | refine Aw_condf rfl ?_ | (refine qr ?_; simp only [go_sem, Nat.reduceEqDiff, reduceIte, Nat.reduceAdd, Nat.reduceMul, Nat.reduceSub, Nat.reduceLT, Nat.reduceLeDiff, Nat.reduceBEq, g1, w1, hx, c1, c2, q1]) | (refine qd (by kernel_rfl) (by kernel_rfl) ?_; simp only [go_sem, Nat.reduceEqDiff, reduceIte, Nat.reduceAdd, Nat.reduceMul, Nat.reduceSub, Nat.reduceLT, Nat.reduceLeDiff, Nat.reduceBEq, g1, w1, hx, c1, c2, q1]) | refine dk (by kernel_rfl) ?_)
          refine ⟨⟨i + 1, false, out ++ [x], hlt, lenB hlo, h'⟩, [27], ?_, rwL (by repeat (first | exact trivial | refine ⟨rfl, rfl, ?_⟩)) (by rfl) (by simp only [go_sem, Nat.reduceEqDiff, reduceIte, Nat.reduceAdd, Nat.reduceMul, Nat.reduceSub, Nat.reduceLT, Nat.reduceLeDiff, Nat.reduceBEq, List.map_append, List.map_cons, List.map_nil]; first | done | rfl) (by decide) (by intro m hm; first | omega | (rcases m with _ | _ | _ | _ | _ | _ | m <;> first | exact ⟨by decide, rfl⟩ | omega))⟩
          show ks.length - (i + 1) < ks.length - i; omega
      · have h' : putL k (ks.drop (i + 1)) true (out ++ [x]) = putL k ks false [] := by rw [← h]; cases klt x k <;> rfl
        repeat (first | apply Aw_seq | apply Aw_block | apply Aw_skip | apply Aw_exit | refine Aw_condt rfl ?_ | refine Aw_condf rfl ?_ | (refine qr ?_; simp only [go_sem, Nat.reduceEqDiff, reduceIte, Nat.reduceAdd, Nat.reduceMul, Nat.reduceSub, Nat.reduceLT, Nat.reduceLeDiff, Nat.reduceBEq, g1, w1, hx, c1, q1]) | (refine qd (by kernel_rfl) (by kernel_rfl) ?_; simp only [go_sem, Nat.reduceEqDiff, reduceIte, Nat.reduceAdd, Nat.reduceMul, Nat.reduceSub, Nat.reduceLT, Nat.reduceLeDiff, Nat.reduceBEq, g1, w1, hx, c1, q1]) | refine dk (by kernel_rfl) ?_)
        refine ⟨⟨i + 1, true, out ++ [x], hlt, lenB hlo, h'⟩, [21], ?_, rwL (by repeat (first | exact trivial | refine ⟨rfl, rfl, ?_⟩)) (by rfl) (by simp only [go_sem, Nat.reduceEqDiff, reduceIte, Nat.reduceAdd, Nat.reduceMul, Nat.reduceSub, Nat.reduceLT, Nat.reduceLeDiff, Nat.reduceBEq, List.map_append, List.map_cons, List.map_nil]; first | done | rfl) (by decide) (by intro m hm; first | omega | (rcases m with _ | _ | _ | _ | _ | _ | m <;> first | exact ⟨by decide, rfl⟩ | omega))⟩
        show ks.length - (i + 1) < ks.length - i; omega
    · rw [h0] at h
      simp [putL, of_decide_eq_true c1] at h
  · have g1 : ¬ (i : Int) < (ks.length : Int) := by omega
    obtain ⟨q1, q2⟩ := lenC hlo hi hl
    rw [List.drop_eq_nil_of_le (by omega), h0] at h
    cases d
    · have ho : o = out ++ [k] := by simpa [putL] using h.symm
      subst ho
      repeat (first | apply Aw_seq | apply Aw_block | apply Aw_skip | apply Aw_exit | refine Aw_condt rfl ?_ | refine Aw_condf rfl ?_ | (refine qr ?_; simp only [go_sem, Nat.reduceEqDiff, reduceIte, Nat.reduceAdd, Nat.reduceMul, Nat.reduceSub, Nat.reduceLT, Nat.reduceLeDiff, Nat.reduceBEq, g1, q1]) | (refine qd (by kernel_rfl) (by kernel_rfl) ?_; simp only [go_sem, Nat.reduceEqDiff, reduceIte, Nat.reduceAdd, Nat.reduceMul, Nat.reduceSub, Nat.reduceLT, Nat.reduceLeDiff, Nat.reduceBEq, g1, q1]) | refine dk (by kernel_rfl) ?_)
      exact Aw_ret (retL (M := [10]) (.inl rfl) (by simp only [go_sem, Nat.reduceEqDiff, reduceIte, Nat.reduceAdd, Nat.reduceMul, Nat.reduceSub, Nat.reduceLT, Nat.reduceLeDiff, Nat.reduceBEq]; first | done | rfl) rfl rfl (by rfl) (by simp only [go_sem, Nat.reduceEqDiff, reduceIte, Nat.reduceAdd, Nat.reduceMul, Nat.reduceSub, Nat.reduceLT, Nat.reduceLeDiff, Nat.reduceBEq, List.map_append, List.map_cons, List.map_nil]; first | done | rfl | (and_intros <;> rfl)) (by decide) (by intro m hm; first | omega | (rcases m with _ | _ | _ | _ | _ | _ | m <;> first | exact ⟨by decide, rfl⟩ | omega)))
    · have ho : o = out := by simpa [putL] using h.symm
      subst ho
      repeat (first | apply Aw_seq | apply Aw_block | apply Aw_skip | apply Aw_exit | refine Aw_condt rfl ?_ | refine Aw_condf rfl ?_ | (refine qr ?_; simp only [go_sem, Nat.reduceEqDiff, reduceIte, Nat.reduceAdd, Nat.reduceMul, Nat.reduceSub, Nat.reduceLT, Nat.reduceLeDiff, Nat.reduceBEq, g1]) | (refine qd (by kernel_rfl) (by kernel_rfl) ?_; simp only [go_sem, Nat.reduceEqDiff, reduceIte, Nat.reduceAdd, Nat.reduceMul, Nat.reduceSub, Nat.reduceLT, Nat.reduceLeDiff, Nat.reduceBEq, g1]) | refine dk (by kernel_rfl) ?_)
      exact Aw_ret (retL (M := [0]) (.inl rfl) (by simp only [go_sem, Nat.reduceEqDiff, reduceIte, Nat.reduceAdd, Nat.reduceMul, Nat.reduceSub, Nat.reduceLT, Nat.reduceLeDiff, Nat.reduceBEq]; first | done | rfl) rfl rfl (by rfl) (by simp only [go_sem, Nat.reduceEqDiff, reduceIte, Nat.reduceAdd, Nat.reduceMul, Nat.reduceSub, Nat.reduceLT, Nat.reduceLeDiff, Nat.reduceBEq]; first | done | rfl | (and_intros <;> rfl)) (by decide) (by intro m hm; first | omega | (rcases m with _ | _ | _ | _ | _ | _ | m <;> first | exact ⟨by decide, rfl⟩ | omega)))
theorem l2Put_ac (ks : List ByteArray) (k : ByteArray) (hl : ks.length ≤ 4000000) : AC Try.prog 79 [strsT ks, sT k] noHp 0 ⟨.t (strsT (putK ks k)), noHp, 0⟩ := by
  unfold putK
  cases h : putL k ks false [] with
  | none => exact l2Put_no ks k hl h
  | some o => exact AC.settle0 [0] (l2Put_ok ks o k hl h) (SetC.row0 rfl rfl) rfl
theorem putK_mem {ks : List ByteArray} {k : ByteArray} : (∀ y ∈ putK ks k, y ∈ ks ∨ y = k) ∧ (putK ks k).length ≤ ks.length + 1 := by
  unfold putK
  cases h : putL k ks false [] with
  | none => exact ⟨fun y hy => .inl hy, by simp⟩
  | some o =>
    obtain ⟨h1, h2⟩ := putL_mem h
    exact ⟨fun y hy => by rcases h1 y hy with h | h | h; simp at h; exact .inl h; exact .inr h, by simpa using h2⟩
end Go.Proofs.Ytcbhgglpgphimaa.Ab

namespace Go.Proofs.Ytcbhgglpgphimaa.Ab
set_option linter.deprecated false
set_option linter.unusedVariables false
set_option linter.unusedSimpArgs false
open Go Go.Proofs
set_option maxRecDepth 10000
set_option maxHeartbeats 8000000
set_option linter.unusedSimpArgs false
set_option linter.unusedVariables false
open Classical in
noncomputable def pickV (b : List Int) (p : Nat) (n : Int) : Nat := if h : byteL b ∧ p ≤ 1000000 ∧ n ≤ 1099511627776 then Classical.choose (pick_ac b p n h.1 h.2.1 h.2.2) else 0
theorem pickV_ac {b : List Int} {p : Nat} {n : Int} (hb : byteL b) (hp : p ≤ 1000000) (hn : n ≤ 1099511627776) : AC Try.prog 76 [.c (.ph 0 0 0), iT n] (hpL [some (rdO b p)]) 1 ⟨.t (iT (pickV b p n)), hpL [some (rdO b (p + 1))], 1⟩ := by
  unfold pickV
  rw [dif_pos ⟨hb, hp, hn⟩]
  exact (Classical.choose_spec (pick_ac b p n hb hp hn)).2.2
theorem pickV_lt {b : List Int} {p : Nat} {n : Int} (hb : byteL b) (hp : p ≤ 1000000) (hn : n ≤ 1099511627776) (h1 : 1 ≤ n) : (pickV b p n : Int) < n := by
  unfold pickV
  rw [dif_pos ⟨hb, hp, hn⟩]
  exact (Classical.choose_spec (pick_ac b p n hb hp hn)).1 h1
noncomputable def ofV (b : List Int) (p : Nat) (l : List ByteArray) : ByteArray := l.getD (pickV b p (l.length : Int)) zs
theorem ofV_at {b : List Int} {p : Nat} {l : List ByteArray} (hb : byteL b) (hp : p ≤ 1000000) (h0 : 0 < l.length) (h1 : l.length ≤ 1000) : l[pickV b p (l.length : Int)]? = some (ofV b p l) := by
  have := pickV_lt (n := (l.length : Int)) hb hp (by omega) (by omega)
  unfold ofV
  rw [List.getD_eq_getElem?_getD, List.getElem?_eq_getElem (by omega)]; rfl
theorem of_ac {b : List Int} {p : Nat} {l : List ByteArray} (hb : byteL b) (hp : p ≤ 1000000) (h0 : 0 < l.length) (h1 : l.length ≤ 1000) : AC Try.prog 125 [.c (.ph 0 0 0), .c (.h 1)] (hpL [some (rdO b p), some (kRow l)]) 2 ⟨.t (sT (ofV b p l)), hpL [some (rdO b (p + 1)), none], 2⟩ := by
  refine AC_of Try.func125 rfl Try.ntmps125 Try.results125 (by kernel_rfl) rfl ?_
  simp only [List.zipIdx, List.map, Nat.zero_add, Nat.reduceAdd]
  have k := pickV_ac (n := (l.length : Int)) hb hp (by omega)
  have hx := ofV_at hb hp h0 h1
  have hlt := (List.getElem?_eq_some_iff.1 hx).1
  repeat (first | apply Aw_seq | apply Aw_block | apply Aw_skip | apply Aw_exit | refine Aw_condt rfl ?_ | refine Aw_condf rfl ?_ | (refine qr ?_; simp only [go_sem, Nat.reduceEqDiff, reduceIte, Nat.reduceAdd, Nat.reduceMul, Nat.reduceSub, Nat.reduceLT, Nat.reduceLeDiff, Nat.reduceBEq, hx, hlt]) | (refine qd (by kernel_rfl) (by kernel_rfl) ?_; simp only [go_sem, Nat.reduceEqDiff, reduceIte, Nat.reduceAdd, Nat.reduceMul, Nat.reduceSub, Nat.reduceLT, Nat.reduceLeDiff, Nat.reduceBEq, hx, hlt]) | refine dk (by kernel_rfl) ?_ | (refine qx (call_L (N' := [0]) (L := []) (k) rfl (.cons (.nm rfl) (.cons (.nm rfl) (.nil))) (by decide) (by decide) (by decide) (by simp only [go_sem, Nat.reduceEqDiff, reduceIte, Nat.reduceAdd, Nat.reduceMul, Nat.reduceSub, Nat.reduceLT, Nat.reduceLeDiff, Nat.reduceBEq, hx, hlt]; first | done | rfl) (.inl rfl) rfl (by decide)) (by simp only [go_sem, Nat.reduceEqDiff, reduceIte, Nat.reduceAdd, Nat.reduceMul, Nat.reduceSub, Nat.reduceLT, Nat.reduceLeDiff, Nat.reduceBEq, hx, hlt]; first | done | rfl) rfl (by simp only [go_sem, Nat.reduceLT]) ?_; simp only [go_sem, Nat.reduceEqDiff, reduceIte, Nat.reduceAdd, Nat.reduceMul, Nat.reduceSub, Nat.reduceLT, Nat.reduceLeDiff, Nat.reduceBEq, hx, hlt]))
  exact Aw_ret (retL (M := [0, 1]) (.inl rfl) (by simp only [go_sem, Nat.reduceEqDiff, reduceIte, Nat.reduceAdd, Nat.reduceMul, Nat.reduceSub, Nat.reduceLT, Nat.reduceLeDiff, Nat.reduceBEq]; first | done | rfl) rfl rfl (by rfl) (by simp only [go_sem, Nat.reduceEqDiff, reduceIte, Nat.reduceAdd, Nat.reduceMul, Nat.reduceSub, Nat.reduceLT, Nat.reduceLeDiff, Nat.reduceBEq]; first | done | rfl | (and_intros <;> rfl)) (by decide) (by intro m hm; first | omega | (rcases m with _ | _ | _ | _ | _ | _ | m <;> first | exact ⟨by decide, rfl⟩ | omega)))
@[go_sem] theorem d_five (e k : Nat) (a b c d f : D) : (⟨e, k, true, [[.d a], [.d b], [.d c], [.d d], [.d f]]⟩ : Obj) = dRow e k [[a], [b], [c], [d], [f]] := rfl
@[go_sem] theorem d_three (e k : Nat) (a b c : D) : (⟨e, k, true, [[.d a], [.d b], [.d c]]⟩ : Obj) = dRow e k [[a], [b], [c]] := rfl
def five : List ByteArray := [bs [97], bs [98], bs [97], bs [99], bs [100]]
def three : List ByteArray := [bs [97], bs [98], bs [100]]
theorem ofV_mem {b : List Int} {p : Nat} {l : List ByteArray} (hb : byteL b) (hp : p ≤ 1000000) (h0 : 0 < l.length) (h1 : l.length ≤ 1000) : ofV b p l ∈ l := List.mem_of_getElem? (ofV_at hb hp h0 h1)
theorem five_size {s : ByteArray} (h : s ∈ five) : s.size = 1 := by
  have : five.all (fun s => s.size == 1) = true := rfl
  simpa using List.all_eq_true.1 this s h
theorem three_size {s : ByteArray} (h : s ∈ three) : s.size = 1 := by
  have : three.all (fun s => s.size == 1) = true := rfl
  simpa using List.all_eq_true.1 this s h
noncomputable def keyL (b : List Int) : Nat → ByteArray → Nat → ByteArray × Nat
  | 0, s, p => (s, p)
  | n + 1, s, p => keyL b n (s ++ ofV b p five) (p + 1)
noncomputable def keyV (b : List Int) (p : Nat) : ByteArray × Nat := keyL b (pickV b p 6) zs (p + 1)
theorem keyL_fin {b : List Int} (hb : byteL b) : ∀ (n : Nat) (s : ByteArray) (p : Nat), p + n ≤ 1000000 → (keyL b n s p).1.size = s.size + n ∧ (keyL b n s p).2 = p + n
  | 0, s, p, _ => ⟨rfl, rfl⟩
  | n + 1, s, p, h => by
    have h1 := five_size (ofV_mem (l := five) hb (show p ≤ 1000000 by omega) (by decide) (by decide))
    obtain ⟨h2, h3⟩ := keyL_fin hb n (s ++ ofV b p five) (p + 1) (by omega)
    have e : (s ++ ofV b p five).size = s.size + 1 := by rw [ByteArray.size_append, h1]
    exact ⟨by simp only [keyL]; rw [h2, e]; omega, by simp only [keyL]; rw [h3]; omega⟩
theorem keyV_fin {b : List Int} (hb : byteL b) {p : Nat} (hp : p ≤ 900000) : (keyV b p).1.size ≤ 5 ∧ (keyV b p).2 ≤ p + 6 := by
  have h := pickV_lt (n := 6) hb (show p ≤ 1000000 by omega) (by omega) (by omega)
  obtain ⟨h1, h2⟩ := keyL_fin hb (pickV b p 6) zs (p + 1) (by omega)
  have z : zs.size = 0 := rfl
  unfold keyV
  rw [h1, h2, z]
  constructor <;> omega
structure KyI (b : List Int) (p0 : Nat) where
  n : Nat
  s : ByteArray
  p : Nat
  hn : n ≤ 5
  hs : s.size + n ≤ 100
  hp : p + n ≤ 1000000
  h : keyL b n s p = keyV b p0
theorem l71Key_ac {b : List Int} {p : Nat} (hb : byteL b) (hp : p ≤ 900000) : AC Try.prog 124 [.c (.ph 0 0 0)] (hpL [some (rdO b p)]) 1 ⟨.t (sT (keyV b p).1), hpL [some (rdO b (keyV b p).2)], 1⟩ := by
  refine AC_of Try.func124 rfl Try.ntmps124 Try.results124 (by kernel_rfl) rfl ?_
  simp only [List.zipIdx, List.map, Nat.zero_add, Nat.reduceAdd]
  have k := pickV_ac (n := 6) hb (show p ≤ 1000000 by omega) (by omega)
  have h6 := pickV_lt (n := 6) hb (show p ≤ 1000000 by omega) (by omega) (by omega)
  repeat (first | apply Aw_seq | apply Aw_block | apply Aw_skip | apply Aw_exit | refine Aw_condt rfl ?_ | refine Aw_condf rfl ?_ | (refine qr ?_; simp only [go_sem, Nat.reduceEqDiff, reduceIte, Nat.reduceAdd, Nat.reduceMul, Nat.reduceSub, Nat.reduceLT, Nat.reduceLeDiff, Nat.reduceBEq]) | (refine qd (by kernel_rfl) (by kernel_rfl) ?_; simp only [go_sem, Nat.reduceEqDiff, reduceIte, Nat.reduceAdd, Nat.reduceMul, Nat.reduceSub, Nat.reduceLT, Nat.reduceLeDiff, Nat.reduceBEq]) | refine dk (by kernel_rfl) ?_ | (refine qx (call_L (N' := [0]) (L := []) (k) rfl (.cons (.nm rfl) (.cons (.nm rfl) (.nil))) (by decide) (by decide) (by decide) (by simp only [go_sem, Nat.reduceEqDiff, reduceIte, Nat.reduceAdd, Nat.reduceMul, Nat.reduceSub, Nat.reduceLT, Nat.reduceLeDiff, Nat.reduceBEq]; first | done | rfl) (.inl rfl) rfl (by decide)) (by simp only [go_sem, Nat.reduceEqDiff, reduceIte, Nat.reduceAdd, Nat.reduceMul, Nat.reduceSub, Nat.reduceLT, Nat.reduceLeDiff, Nat.reduceBEq]; first | done | rfl) rfl (by simp only [go_sem, Nat.reduceLT]) ?_; simp only [go_sem, Nat.reduceEqDiff, reduceIte, Nat.reduceAdd, Nat.reduceMul, Nat.reduceSub, Nat.reduceLT, Nat.reduceLeDiff, Nat.reduceBEq]))
  refine Aw.rw (rwL (l' := [(4, .t (iT (pickV b p 6 : Nat))), (3, .t (sT zs)), (0, .t (.c (.ph 0 0 0)))]) (os := [some (rdO b (p + 1))]) (M := [0]) (n' := 1) (by repeat (first | exact trivial | refine ⟨rfl, rfl, ?_⟩)) (by rfl) (by simp only [go_sem, Nat.reduceEqDiff, reduceIte, Nat.reduceAdd, Nat.reduceMul, Nat.reduceSub, Nat.reduceLT, Nat.reduceLeDiff, Nat.reduceBEq]; first | done | rfl) (by decide) (by intro m hm; first | omega | (rcases m with _ | _ | _ | _ | _ | _ | m <;> first | exact ⟨by decide, rfl⟩ | omega))) ?_
  refine Aw_loop_rw (ι := KyI b p) (fun q => S [(4, .t (iT (q.n : Nat))), (3, .t (sT q.s)), (0, .t (.c (.ph 0 0 0)))] (hpL [some (rdO b q.p)]) 1) (fun q => q.n) ⟨pickV b p 6, zs, p + 1, by omega, by show 0 + _ ≤ _; omega, by omega, rfl⟩ ?_
  rintro ⟨n, s, q, hn, hs, hq, h⟩
  dsimp only
  rcases n with _ | n
  · have g1 : decide ((0 : Int) < ((0 : Nat) : Int)) = false := rfl
    rw [← h]
    repeat (first | apply Aw_seq | apply Aw_block | apply Aw_skip | apply Aw_exit | refine Aw_condt rfl ?_ | refine Aw_condf rfl ?_ | (refine qr ?_; simp only [go_sem, Nat.reduceEqDiff, reduceIte, Nat.reduceAdd, Nat.reduceMul, Nat.reduceSub, Nat.reduceLT, Nat.reduceLeDiff, Nat.reduceBEq, g1]) | (refine qd (by kernel_rfl) (by kernel_rfl) ?_; simp only [go_sem, Nat.reduceEqDiff, reduceIte, Nat.reduceAdd, Nat.reduceMul, Nat.reduceSub, Nat.reduceLT, Nat.reduceLeDiff, Nat.reduceBEq, g1]) | refine dk (by kernel_rfl) ?_)
    exact Aw_ret (retL (M := [0]) (.inl rfl) (by simp only [go_sem, Nat.reduceEqDiff, reduceIte, Nat.reduceAdd, Nat.reduceMul, Nat.reduceSub, Nat.reduceLT, Nat.reduceLeDiff, Nat.reduceBEq]; first | done | rfl) rfl rfl (by rfl) (by simp only [go_sem, Nat.reduceEqDiff, reduceIte, Nat.reduceAdd, Nat.reduceMul, Nat.reduceSub, Nat.reduceLT, Nat.reduceLeDiff, Nat.reduceBEq, keyL]; first | done | rfl | (and_intros <;> rfl)) (by decide) (by intro m hm; first | omega | (rcases m with _ | _ | _ | _ | _ | _ | m <;> first | exact ⟨by decide, rfl⟩ | omega)))
  · have g1 : decide ((0 : Int) < ((n + 1 : Nat) : Int)) = true := decide_eq_true (by omega)
    have w1 : IntKind.i64.wrap (((n + 1 : Nat) : Int) - 1) = (n : Int) := wn (by omega) (by omega)
    have ko : AC Try.prog 125 [.c (.ph 0 0 0), .c (.h 1)] (hpL [some (rdO b q), some (kRow [bs [97], bs [98], bs [97], bs [99], bs [100]])]) 2 ⟨.t (sT (ofV b q five)), hpL [some (rdO b (q + 1)), none], 2⟩ := of_ac (l := five) hb (show q ≤ 1000000 by omega) (by decide) (by decide)
    have e5 := five_size (ofV_mem (l := five) hb (show q ≤ 1000000 by omega) (by decide) (by decide))
    have gs : (s.size + (ofV b q five).size ≤ 9223372036854775807) = True := eq_true (by rw [e5]; omega)
    have hs2 : (s ++ ofV b q five).size = s.size + 1 := by rw [ByteArray.size_append, e5]
    repeat (first | apply Aw_seq | apply Aw_block | apply Aw_skip | apply Aw_exit | refine Aw_condt rfl ?_ | refine Aw_condf rfl ?_ | (refine qr ?_; simp only [go_sem, Nat.reduceEqDiff, reduceIte, Nat.reduceAdd, Nat.reduceMul, Nat.reduceSub, Nat.reduceLT, Nat.reduceLeDiff, Nat.reduceBEq, g1, w1, gs]) | (refine qd (by kernel_rfl) (by kernel_rfl) ?_; simp only [go_sem, Nat.reduceEqDiff, reduceIte, Nat.reduceAdd, Nat.reduceMul, Nat.reduceSub, Nat.reduceLT, Nat.reduceLeDiff, Nat.reduceBEq, g1, w1, gs]) | refine dk (by kernel_rfl) ?_ | (refine qx (call_L (N' := [0, 5]) (L := []) (ko) rfl (.cons (.nm rfl) (.cons (.nm rfl) (.nil))) (by decide) (by decide) (by decide) (by simp only [go_sem, Nat.reduceEqDiff, reduceIte, Nat.reduceAdd, Nat.reduceMul, Nat.reduceSub, Nat.reduceLT, Nat.reduceLeDiff, Nat.reduceBEq, g1, w1, gs]; first | done | rfl) (.inl rfl) rfl (by decide)) (by simp only [go_sem, Nat.reduceEqDiff, reduceIte, Nat.reduceAdd, Nat.reduceMul, Nat.reduceSub, Nat.reduceLT, Nat.reduceLeDiff, Nat.reduceBEq, g1, w1, gs]; first | done | rfl) rfl (by simp only [go_sem, Nat.reduceLT]) ?_; simp only [go_sem, Nat.reduceEqDiff, reduceIte, Nat.reduceAdd, Nat.reduceMul, Nat.reduceSub, Nat.reduceLT, Nat.reduceLeDiff, Nat.reduceBEq, g1, w1, gs]))
    refine ⟨⟨n, s ++ ofV b q five, q + 1, by omega, by rw [hs2]; omega, by omega, h⟩, [0], ?_, rwL (by repeat (first | exact trivial | refine ⟨rfl, rfl, ?_⟩)) (by rfl) (by simp only [go_sem, Nat.reduceEqDiff, reduceIte, Nat.reduceAdd, Nat.reduceMul, Nat.reduceSub, Nat.reduceLT, Nat.reduceLeDiff, Nat.reduceBEq]; first | done | rfl) (by decide) (by intro m hm; first | omega | (rcases m with _ | _ | _ | _ | _ | _ | m <;> first | exact ⟨by decide, rfl⟩ | omega))⟩
    show n < n + 1; omega
end Go.Proofs.Ytcbhgglpgphimaa.Ab
namespace Go.Proofs.Ytcbhgglpgphimaa.Ab
set_option linter.deprecated false
set_option linter.unusedVariables false
set_option linter.unusedSimpArgs false
open Go Go.Proofs
set_option maxRecDepth 10000
set_option maxHeartbeats 8000000
set_option linter.unusedSimpArgs false
set_option linter.unusedVariables false
noncomputable def nearV (b : List Int) (p : Nat) (l : List ByteArray) : ByteArray × Nat :=
  if l.length = 0 then keyV b p else if pickV b p 4 = 0 then keyV b (p + 1) else
    let k := ofV b (p + 1) l
    if pickV b (p + 2) 4 = 0 then (k.extract 0 (pickV b (p + 3) ((k.size + 1 : Nat) : Int)), p + 4)
    else if pickV b (p + 2) 4 = 1 then (if k.size < 5 then (k ++ ofV b (p + 3) three, p + 4) else (k, p + 3)) else (k, p + 3)
theorem nearV_fin {b : List Int} (hb : byteL b) {p K : Nat} {l : List ByteArray} (hp : p ≤ 800000) (hl : l.length ≤ 1000) (hK : 5 ≤ K) (hs : ∀ s ∈ l, s.size ≤ K) : (nearV b p l).1.size ≤ K ∧ (nearV b p l).2 ≤ p + 7 := by
  unfold nearV
  split
  · have := keyV_fin hb (show p ≤ 900000 by omega); omega
  split
  · have := keyV_fin hb (show p + 1 ≤ 900000 by omega); omega
  have hk := hs _ (ofV_mem (l := l) hb (show p + 1 ≤ 1000000 by omega) (by omega) hl)
  dsimp only
  split
  · exact ⟨by rw [ByteArray.size_extract]; omega, by dsimp only; omega⟩
  split
  · split
    · have h3 := three_size (ofV_mem (l := three) hb (show p + 3 ≤ 1000000 by omega) (by decide) (by decide))
      exact ⟨by rw [ByteArray.size_append, h3]; omega, by dsimp only; omega⟩
    · exact ⟨hk, by dsimp only; omega⟩
  · exact ⟨hk, by dsimp only; omega⟩
theorem l71Near_ac {b : List Int} {p : Nat} {l : List ByteArray} (hb : byteL b) (hp : p ≤ 800000) (hl : l.length ≤ 1000) (hs : ∀ s ∈ l, s.size ≤ 1000000) : AC Try.prog 75 [.c (.ph 0 0 0), strsT l] (hpL [some (rdO b p)]) 1 ⟨.t (sT (nearV b p l).1), hpL [some (rdO b (nearV b p l).2)], 1⟩ := by
  by_cases c0 : l.length = 0
  · have e : nearV b p l = keyV b p := by unfold nearV; rw [if_pos c0]
    have g0 : decide (((l.length : Nat) : Int) = 0) = true := decide_eq_true (by omega)
    have kk := l71Key_ac hb (show p ≤ 900000 by omega)
    rw [e]
    refine AC_of Try.func75 rfl Try.ntmps75 Try.results75 (by kernel_rfl) rfl ?_
    simp only [List.zipIdx, List.map, Nat.zero_add, Nat.reduceAdd]
    repeat (first | apply Aw_seq | apply Aw_block | apply Aw_skip | apply Aw_exit | refine Aw_condt rfl ?_ | refine Aw_condf rfl ?_ | (refine qr ?_; simp only [go_sem, Nat.reduceEqDiff, reduceIte, Nat.reduceAdd, Nat.reduceMul, Nat.reduceSub, Nat.reduceLT, Nat.reduceLeDiff, Nat.reduceBEq, g0]) | (refine qd (by kernel_rfl) (by kernel_rfl) ?_; simp only [go_sem, Nat.reduceEqDiff, reduceIte, Nat.reduceAdd, Nat.reduceMul, Nat.reduceSub, Nat.reduceLT, Nat.reduceLeDiff, Nat.reduceBEq, g0]) | refine dk (by kernel_rfl) ?_ | (refine qx (call_L (N' := [0]) (L := []) (kk) rfl (.cons (.nm rfl) (.nil)) (by decide) (by decide) (by decide) (by simp only [go_sem, Nat.reduceEqDiff, reduceIte, Nat.reduceAdd, Nat.reduceMul, Nat.reduceSub, Nat.reduceLT, Nat.reduceLeDiff, Nat.reduceBEq, g0]; first | done | rfl) (.inl rfl) rfl (by decide)) (by simp only [go_sem, Nat.reduceEqDiff, reduceIte, Nat.reduceAdd, Nat.reduceMul, Nat.reduceSub, Nat.reduceLT, Nat.reduceLeDiff, Nat.reduceBEq, g0]; first | done | rfl) rfl (by simp only [go_sem, Nat.reduceLT]) ?_; simp only [go_sem, Nat.reduceEqDiff, reduceIte, Nat.reduceAdd, Nat.reduceMul, Nat.reduceSub, Nat.reduceLT, Nat.reduceLeDiff, Nat.reduceBEq, g0]))
    exact Aw_ret (retL (M := [0]) (.inl rfl) (by simp only [go_sem, Nat.reduceEqDiff, reduceIte, Nat.reduceAdd, Nat.reduceMul, Nat.reduceSub, Nat.reduceLT, Nat.reduceLeDiff, Nat.reduceBEq]; first | done | rfl) rfl rfl (by rfl) (by simp only [go_sem, Nat.reduceEqDiff, reduceIte, Nat.reduceAdd, Nat.reduceMul, Nat.reduceSub, Nat.reduceLT, Nat.reduceLeDiff, Nat.reduceBEq]; first | done | rfl | (and_intros <;> rfl)) (by decide) (by intro m hm; first | omega | (rcases m with _ | _ | _ | _ | _ | _ | m <;> first | exact ⟨by decide, rfl⟩ | omega)))
  have g0 : decide (((l.length : Nat) : Int) = 0) = false := decide_eq_false (by omega)
  have k1 := pickV_ac (n := 4) hb (show p ≤ 1000000 by omega) (by omega)
  by_cases c1 : pickV b p 4 = 0
  · have e : nearV b p l = keyV b (p + 1) := by unfold nearV; rw [if_neg c0, if_pos c1]
    have kk := l71Key_ac hb (show p + 1 ≤ 900000 by omega)
    have g1 : decide (((pickV b p 4 : Nat) : Int) = 0) = true := decide_eq_true (by omega)
    rw [e]
    refine AC_of Try.func75 rfl Try.ntmps75 Try.results75 (by kernel_rfl) rfl ?_
    simp only [List.zipIdx, List.map, Nat.zero_add, Nat.reduceAdd]
    repeat (first | apply Aw_seq | apply Aw_block | apply Aw_skip | apply Aw_exit | refine Aw_condt rfl ?_ | refine Aw_condf rfl ?_ | (refine qr ?_; simp only [go_sem, Nat.reduceEqDiff, reduceIte, Nat.reduceAdd, Nat.reduceMul, Nat.reduceSub, Nat.reduceLT, Nat.reduceLeDiff, Nat.reduceBEq, g0, g1]) | (refine qd (by kernel_rfl) (by kernel_rfl) ?_; simp only [go_sem, Nat.reduceEqDiff, reduceIte, Nat.reduceAdd, Nat.reduceMul, Nat.reduceSub, Nat.reduceLT, Nat.reduceLeDiff, Nat.reduceBEq, g0, g1]) | refine dk (by kernel_rfl) ?_ | (refine qx (call_L (N' := [0]) (L := []) (k1) rfl (.cons (.nm rfl) (.cons (.nm rfl) (.nil))) (by decide) (by decide) (by decide) (by simp only [go_sem, Nat.reduceEqDiff, reduceIte, Nat.reduceAdd, Nat.reduceMul, Nat.reduceSub, Nat.reduceLT, Nat.reduceLeDiff, Nat.reduceBEq, g0, g1]; first | done | rfl) (.inl rfl) rfl (by decide)) (by simp only [go_sem, Nat.reduceEqDiff, reduceIte, Nat.reduceAdd, Nat.reduceMul, Nat.reduceSub, Nat.reduceLT, Nat.reduceLeDiff, Nat.reduceBEq, g0, g1]; first | done | rfl) rfl (by simp only [go_sem, Nat.reduceLT]) ?_; simp only [go_sem, Nat.reduceEqDiff, reduceIte, Nat.reduceAdd, Nat.reduceMul, Nat.reduceSub, Nat.reduceLT, Nat.reduceLeDiff, Nat.reduceBEq, g0, g1]) | (refine qx (call_L (N' := [0]) (L := []) (kk) rfl (.cons (.nm rfl) (.nil)) (by decide) (by decide) (by decide) (by simp only [go_sem, Nat.reduceEqDiff, reduceIte, Nat.reduceAdd, Nat.reduceMul, Nat.reduceSub, Nat.reduceLT, Nat.reduceLeDiff, Nat.reduceBEq, g0, g1]; first | done | rfl) (.inl rfl) rfl (by decide)) (by simp only [go_sem, Nat.reduceEqDiff, reduceIte, Nat.reduceAdd, Nat.reduceMul, Nat.reduceSub, Nat.reduceLT, Nat.reduceLeDiff, Nat.reduceBEq, g0, g1]; first | done | rfl) rfl (by simp only [go_sem, Nat.reduceLT]) ?_; simp only [go_sem, Nat.reduceEqDiff, reduceIte, Nat.reduceAdd, Nat.reduceMul, Nat.reduceSub, Nat.reduceLT, Nat.reduceLeDiff, Nat.reduceBEq, g0, g1]))
    exact Aw_ret (retL (M := [0]) (.inl rfl) (by simp only [go_sem, Nat.reduceEqDiff, reduceIte, Nat.reduceAdd, Nat.reduceMul, Nat.reduceSub, Nat.reduceLT, Nat.reduceLeDiff, Nat.reduceBEq]; first | done | rfl) rfl rfl (by rfl) (by simp only [go_sem, Nat.reduceEqDiff, reduceIte, Nat.reduceAdd, Nat.reduceMul, Nat.reduceSub, Nat.reduceLT, Nat.reduceLeDiff, Nat.reduceBEq]; first | done | rfl | (and_intros <;> rfl)) (by decide) (by intro m hm; first | omega | (rcases m with _ | _ | _ | _ | _ | _ | m <;> first | exact ⟨by decide, rfl⟩ | omega)))
  have g1 : decide (((pickV b p 4 : Nat) : Int) = 0) = false := decide_eq_false (by omega)
  have k2 := pickV_ac (n := (l.length : Int)) hb (show p + 1 ≤ 1000000 by omega) (by omega)
  have k3 := pickV_ac (n := 4) hb (show p + 1 + 1 ≤ 1000000 by omega) (by omega)
  have hx := ofV_at hb (show p + 1 ≤ 1000000 by omega) (show 0 < l.length by omega) hl
  obtain ⟨k, hk⟩ : ∃ k, k = ofV b (p + 1) l := ⟨_, rfl⟩
  rw [← hk] at hx
  have hks := hs k (List.mem_of_getElem? hx)
  by_cases c2 : pickV b (p + 1 + 1) 4 = 0
  · have e : nearV b p l = (k.extract 0 (pickV b (p + 1 + 1 + 1) ((k.size + 1 : Nat) : Int)), p + 4) := by unfold nearV; rw [if_neg c0, if_neg c1]; dsimp only; rw [if_pos c2, ← hk]
    have g2 : decide (((pickV b (p + 1 + 1) 4 : Nat) : Int) = 0) = true := decide_eq_true (by omega)
    have w1 : IntKind.i64.wrap ((k.size : Int) + 1) = ((k.size + 1 : Nat) : Int) := wn (by omega) (by omega)
    have k4 := pickV_ac (n := ((k.size + 1 : Nat) : Int)) hb (show p + 1 + 1 + 1 ≤ 1000000 by omega) (by omega)
    have h4 := pickV_lt (n := ((k.size + 1 : Nat) : Int)) hb (show p + 1 + 1 + 1 ≤ 1000000 by omega) (by omega) (by omega)
    have s1 : ((0 : Int) ≤ ((pickV b (p + 1 + 1 + 1) ((k.size + 1 : Nat) : Int) : Nat) : Int)) = True := eq_true (by omega)
    have s2 : (((pickV b (p + 1 + 1 + 1) ((k.size + 1 : Nat) : Int) : Nat) : Int) ≤ (k.size : Int)) = True := eq_true (by omega)
    have s3 : Int.toNat ((pickV b (p + 1 + 1 + 1) ((k.size + 1 : Nat) : Int) : Nat) : Int) = pickV b (p + 1 + 1 + 1) ((k.size + 1 : Nat) : Int) := rfl
    have s4 : Int.toNat 0 = 0 := rfl
    rw [e]
    refine AC_of Try.func75 rfl Try.ntmps75 Try.results75 (by kernel_rfl) rfl ?_
    simp only [List.zipIdx, List.map, Nat.zero_add, Nat.reduceAdd]
    repeat (first | apply Aw_seq | apply Aw_block | apply Aw_skip | apply Aw_exit | refine Aw_condt rfl ?_ | refine Aw_condf rfl ?_ | (refine qr ?_; simp only [go_sem, Nat.reduceEqDiff, reduceIte, Nat.reduceAdd, Nat.reduceMul, Nat.reduceSub, Nat.reduceLT, Nat.reduceLeDiff, Nat.reduceBEq, g0, g1, hx, g2, w1, s1, s2, s3, s4]) | (refine qd (by kernel_rfl) (by kernel_rfl) ?_; simp only [go_sem, Nat.reduceEqDiff, reduceIte, Nat.reduceAdd, Nat.reduceMul, Nat.reduceSub, Nat.reduceLT, Nat.reduceLeDiff, Nat.reduceBEq, g0, g1, hx, g2, w1, s1, s2, s3, s4]) | refine dk (by kernel_rfl) ?_ | (refine qx (call_L (N' := [0]) (L := []) (k1) rfl (.cons (.nm rfl) (.cons (.nm rfl) (.nil))) (by decide) (by decide) (by decide) (by simp only [go_sem, Nat.reduceEqDiff, reduceIte, Nat.reduceAdd, Nat.reduceMul, Nat.reduceSub, Nat.reduceLT, Nat.reduceLeDiff, Nat.reduceBEq, g0, g1, hx, g2, w1, s1, s2, s3, s4]; first | done | rfl) (.inl rfl) rfl (by decide)) (by simp only [go_sem, Nat.reduceEqDiff, reduceIte, Nat.reduceAdd, Nat.reduceMul, Nat.reduceSub, Nat.reduceLT, Nat.reduceLeDiff, Nat.reduceBEq, g0, g1, hx, g2, w1, s1, s2, s3, s4]; first | done | rfl) rfl (by simp only [go_sem, Nat.reduceLT]) ?_; simp only [go_sem, Nat.reduceEqDiff, reduceIte, Nat.reduceAdd, Nat.reduceMul, Nat.reduceSub, Nat.reduceLT, Nat.reduceLeDiff, Nat.reduceBEq, g0, g1, hx, g2, w1, s1, s2, s3, s4]) | (refine qx (call_L (N' := [0]) (L := []) (k2) rfl (.cons (.nm rfl) (.cons (.nm rfl) (.nil))) (by decide) (by decide) (by decide) (by simp only [go_sem, Nat.reduceEqDiff, reduceIte, Nat.reduceAdd, Nat.reduceMul, Nat.reduceSub, Nat.reduceLT, Nat.reduceLeDiff, Nat.reduceBEq, g0, g1, hx, g2, w1, s1, s2, s3, s4]; first | done | rfl) (.inl rfl) rfl (by decide)) (by simp only [go_sem, Nat.reduceEqDiff, reduceIte, Nat.reduceAdd, Nat.reduceMul, Nat.reduceSub, Nat.reduceLT, Nat.reduceLeDiff, Nat.reduceBEq, g0, g1, hx, g2, w1, s1, s2, s3, s4]; first | done | rfl) rfl (by simp only [go_sem, Nat.reduceLT]) ?_; simp only [go_sem, Nat.reduceEqDiff, reduceIte, Nat.reduceAdd, Nat.reduceMul, Nat.reduceSub, Nat.reduceLT, Nat.reduceLeDiff, Nat.reduceBEq, g0, g1, hx, g2, w1, s1, s2, s3, s4]) | (refine qx (call_L (N' := [0]) (L := []) (k3) rfl (.cons (.nm rfl) (.cons (.nm rfl) (.nil))) (by decide) (by decide) (by decide) (by simp only [go_sem, Nat.reduceEqDiff, reduceIte, Nat.reduceAdd, Nat.reduceMul, Nat.reduceSub, Nat.reduceLT, Nat.reduceLeDiff, Nat.reduceBEq, g0, g1, hx, g2, w1, s1, s2, s3, s4]; first | done | rfl) (.inl rfl) rfl (by decide)) (by simp only [go_sem, Nat.reduceEqDiff, reduceIte, Nat.reduceAdd, Nat.reduceMul, Nat.reduceSub, Nat.reduceLT, Nat.reduceLeDiff, Nat.reduceBEq, g0, g1, hx, g2, w1, s1, s2, s3, s4]; first | done | rfl) rfl (by simp only [go_sem, Nat.reduceLT]) ?_; simp only [go_sem, Nat.reduceEqDiff, reduceIte, Nat.reduceAdd, Nat.reduceMul, Nat.reduceSub, Nat.reduceLT, Nat.reduceLeDiff, Nat.reduceBEq, g0, g1, hx, g2, w1, s1, s2, s3, s4]) | (refine qx (call_L (N' := [0]) (L := []) (k4) rfl (.cons (.nm rfl) (.cons (.nm rfl) (.nil))) (by decide) (by decide) (by decide) (by simp only [go_sem, Nat.reduceEqDiff, reduceIte, Nat.reduceAdd, Nat.reduceMul, Nat.reduceSub, Nat.reduceLT, Nat.reduceLeDiff, Nat.reduceBEq, g0, g1, hx, g2, w1, s1, s2, s3, s4]; first | done | rfl) (.inl rfl) rfl (by decide)) (by simp only [go_sem, Nat.reduceEqDiff, reduceIte, Nat.reduceAdd, Nat.reduceMul, Nat.reduceSub, Nat.reduceLT, Nat.reduceLeDiff, Nat.reduceBEq, g0, g1, hx, g2, w1, s1, s2, s3, s4]; first | done | rfl) rfl (by simp only [go_sem, Nat.reduceLT]) ?_; simp only [go_sem, Nat.reduceEqDiff, reduceIte, Nat.reduceAdd, Nat.reduceMul, Nat.reduceSub, Nat.reduceLT, Nat.reduceLeDiff, Nat.reduceBEq, g0, g1, hx, g2, w1, s1, s2, s3, s4]))
    exact Aw_ret (retL (M := [0]) (.inl rfl) (by simp only [go_sem, Nat.reduceEqDiff, reduceIte, Nat.reduceAdd, Nat.reduceMul, Nat.reduceSub, Nat.reduceLT, Nat.reduceLeDiff, Nat.reduceBEq]; first | done | rfl) rfl rfl (by rfl) (by simp only [go_sem, Nat.reduceEqDiff, reduceIte, Nat.reduceAdd, Nat.reduceMul, Nat.reduceSub, Nat.reduceLT, Nat.reduceLeDiff, Nat.reduceBEq]; first | done | rfl | (and_intros <;> rfl)) (by decide) (by intro m hm; first | omega | (rcases m with _ | _ | _ | _ | _ | _ | m <;> first | exact ⟨by decide, rfl⟩ | omega)))
  have g2 : decide (((pickV b (p + 1 + 1) 4 : Nat) : Int) = 0) = false := decide_eq_false (by omega)
  by_cases c3 : pickV b (p + 1 + 1) 4 = 1
  · have g3 : decide (((pickV b (p + 1 + 1) 4 : Nat) : Int) = 1) = true := decide_eq_true (by omega)
    by_cases c4 : k.size < 5
    · have e : nearV b p l = (k ++ ofV b (p + 1 + 1 + 1) three, p + 4) := by unfold nearV; rw [if_neg c0, if_neg c1]; dsimp only; rw [if_neg c2, if_pos c3, ← hk, if_pos c4]
      have g4 : decide ((k.size : Int) < 5) = true := decide_eq_true (by omega)
      have e3 := three_size (ofV_mem (l := three) hb (show p + 1 + 1 + 1 ≤ 1000000 by omega) (by decide) (by decide))
      have gs : (k.size + (ofV b (p + 1 + 1 + 1) three).size ≤ 9223372036854775807) = True := eq_true (by rw [e3]; omega)
      have ko : AC Try.prog 125 [.c (.ph 0 0 0), .c (.h 1)] (hpL [some (rdO b (p + 1 + 1 + 1)), some (kRow [bs [97], bs [98], bs [100]])]) 2 ⟨.t (sT (ofV b (p + 1 + 1 + 1) three)), hpL [some (rdO b (p + 1 + 1 + 1 + 1)), none], 2⟩ := of_ac (l := three) hb (show p + 1 + 1 + 1 ≤ 1000000 by omega) (by decide) (by decide)
      rw [e]
      refine AC_of Try.func75 rfl Try.ntmps75 Try.results75 (by kernel_rfl) rfl ?_
      simp only [List.zipIdx, List.map, Nat.zero_add, Nat.reduceAdd]
      repeat (first | apply Aw_seq | apply Aw_block | apply Aw_skip | apply Aw_exit | refine Aw_condt rfl ?_ | refine Aw_condf rfl ?_ | (refine qr ?_; simp only [go_sem, Nat.reduceEqDiff, reduceIte, Nat.reduceAdd, Nat.reduceMul, Nat.reduceSub, Nat.reduceLT, Nat.reduceLeDiff, Nat.reduceBEq, g0, g1, hx, g2, g3, g4, gs]) | (refine qd (by kernel_rfl) (by kernel_rfl) ?_; simp only [go_sem, Nat.reduceEqDiff, reduceIte, Nat.reduceAdd, Nat.reduceMul, Nat.reduceSub, Nat.reduceLT, Nat.reduceLeDiff, Nat.reduceBEq, g0, g1, hx, g2, g3, g4, gs]) | refine dk (by kernel_rfl) ?_ | (refine qx (call_L (N' := [0]) (L := []) (k1) rfl (.cons (.nm rfl) (.cons (.nm rfl) (.nil))) (by decide) (by decide) (by decide) (by simp only [go_sem, Nat.reduceEqDiff, reduceIte, Nat.reduceAdd, Nat.reduceMul, Nat.reduceSub, Nat.reduceLT, Nat.reduceLeDiff, Nat.reduceBEq, g0, g1, hx, g2, g3, g4, gs]; first | done | rfl) (.inl rfl) rfl (by decide)) (by simp only [go_sem, Nat.reduceEqDiff, reduceIte, Nat.reduceAdd, Nat.reduceMul, Nat.reduceSub, Nat.reduceLT, Nat.reduceLeDiff, Nat.reduceBEq, g0, g1, hx, g2, g3, g4, gs]; first | done | rfl) rfl (by simp only [go_sem, Nat.reduceLT]) ?_; simp only [go_sem, Nat.reduceEqDiff, reduceIte, Nat.reduceAdd, Nat.reduceMul, Nat.reduceSub, Nat.reduceLT, Nat.reduceLeDiff, Nat.reduceBEq, g0, g1, hx, g2, g3, g4, gs]) | (refine qx (call_L (N' := [0]) (L := []) (k2) rfl (.cons (.nm rfl) (.cons (.nm rfl) (.nil))) (by decide) (by decide) (by decide) (by simp only [go_sem, Nat.reduceEqDiff, reduceIte, Nat.reduceAdd, Nat.reduceMul, Nat.reduceSub, Nat.reduceLT, Nat.reduceLeDiff, Nat.reduceBEq, g0, g1, hx, g2, g3, g4, gs]; first | done | rfl) (.inl rfl) rfl (by decide)) (by simp only [go_sem, Nat.reduceEqDiff, reduceIte, Nat.reduceAdd, Nat.reduceMul, Nat.reduceSub, Nat.reduceLT, Nat.reduceLeDiff, Nat.reduceBEq, g0, g1, hx, g2, g3, g4, gs]; first | done | rfl) rfl (by simp only [go_sem, Nat.reduceLT]) ?_; simp only [go_sem, Nat.reduceEqDiff, reduceIte, Nat.reduceAdd, Nat.reduceMul, Nat.reduceSub, Nat.reduceLT, Nat.reduceLeDiff, Nat.reduceBEq, g0, g1, hx, g2, g3, g4, gs]) | (refine qx (call_L (N' := [0]) (L := []) (k3) rfl (.cons (.nm rfl) (.cons (.nm rfl) (.nil))) (by decide) (by decide) (by decide) (by simp only [go_sem, Nat.reduceEqDiff, reduceIte, Nat.reduceAdd, Nat.reduceMul, Nat.reduceSub, Nat.reduceLT, Nat.reduceLeDiff, Nat.reduceBEq, g0, g1, hx, g2, g3, g4, gs]; first | done | rfl) (.inl rfl) rfl (by decide)) (by simp only [go_sem, Nat.reduceEqDiff, reduceIte, Nat.reduceAdd, Nat.reduceMul, Nat.reduceSub, Nat.reduceLT, Nat.reduceLeDiff, Nat.reduceBEq, g0, g1, hx, g2, g3, g4, gs]; first | done | rfl) rfl (by simp only [go_sem, Nat.reduceLT]) ?_; simp only [go_sem, Nat.reduceEqDiff, reduceIte, Nat.reduceAdd, Nat.reduceMul, Nat.reduceSub, Nat.reduceLT, Nat.reduceLeDiff, Nat.reduceBEq, g0, g1, hx, g2, g3, g4, gs]) | (refine qx (call_L (N' := [0, 26]) (L := []) (ko) rfl (.cons (.nm rfl) (.cons (.nm rfl) (.nil))) (by decide) (by decide) (by decide) (by simp only [go_sem, Nat.reduceEqDiff, reduceIte, Nat.reduceAdd, Nat.reduceMul, Nat.reduceSub, Nat.reduceLT, Nat.reduceLeDiff, Nat.reduceBEq, g0, g1, hx, g2, g3, g4, gs]; first | done | rfl) (.inl rfl) rfl (by decide)) (by simp only [go_sem, Nat.reduceEqDiff, reduceIte, Nat.reduceAdd, Nat.reduceMul, Nat.reduceSub, Nat.reduceLT, Nat.reduceLeDiff, Nat.reduceBEq, g0, g1, hx, g2, g3, g4, gs]; first | done | rfl) rfl (by simp only [go_sem, Nat.reduceLT]) ?_; simp only [go_sem, Nat.reduceEqDiff, reduceIte, Nat.reduceAdd, Nat.reduceMul, Nat.reduceSub, Nat.reduceLT, Nat.reduceLeDiff, Nat.reduceBEq, g0, g1, hx, g2, g3, g4, gs]))
      exact Aw_ret (retL (M := [0]) (.inl rfl) (by simp only [go_sem, Nat.reduceEqDiff, reduceIte, Nat.reduceAdd, Nat.reduceMul, Nat.reduceSub, Nat.reduceLT, Nat.reduceLeDiff, Nat.reduceBEq]; first | done | rfl) rfl rfl (by rfl) (by simp only [go_sem, Nat.reduceEqDiff, reduceIte, Nat.reduceAdd, Nat.reduceMul, Nat.reduceSub, Nat.reduceLT, Nat.reduceLeDiff, Nat.reduceBEq]; first | done | rfl | (and_intros <;> rfl)) (by decide) (by intro m hm; first | omega | (rcases m with _ | _ | _ | _ | _ | _ | m <;> first | exact ⟨by decide, rfl⟩ | omega)))
    · have e : nearV b p l = (k, p + 3) := by unfold nearV; rw [if_neg c0, if_neg c1]; dsimp only; rw [if_neg c2, if_pos c3, ← hk, if_neg c4]
      have g4 : decide ((k.size : Int) < 5) = false := decide_eq_false (by omega)
      rw [e]
      refine AC_of Try.func75 rfl Try.ntmps75 Try.results75 (by kernel_rfl) rfl ?_
      simp only [List.zipIdx, List.map, Nat.zero_add, Nat.reduceAdd]
      repeat (first | apply Aw_seq | apply Aw_block | apply Aw_skip | apply Aw_exit | refine Aw_condt rfl ?_ | refine Aw_condf rfl ?_ | (refine qr ?_; simp only [go_sem, Nat.reduceEqDiff, reduceIte, Nat.reduceAdd, Nat.reduceMul, Nat.reduceSub, Nat.reduceLT, Nat.reduceLeDiff, Nat.reduceBEq, g0, g1, hx, g2, g3, g4]) | (refine qd (by kernel_rfl) (by kernel_rfl) ?_; simp only [go_sem, Nat.reduceEqDiff, reduceIte, Nat.reduceAdd, Nat.reduceMul, Nat.reduceSub, Nat.reduceLT, Nat.reduceLeDiff, Nat.reduceBEq, g0, g1, hx, g2, g3, g4]) | refine dk (by kernel_rfl) ?_ | (refine qx (call_L (N' := [0]) (L := []) (k1) rfl (.cons (.nm rfl) (.cons (.nm rfl) (.nil))) (by decide) (by decide) (by decide) (by simp only [go_sem, Nat.reduceEqDiff, reduceIte, Nat.reduceAdd, Nat.reduceMul, Nat.reduceSub, Nat.reduceLT, Nat.reduceLeDiff, Nat.reduceBEq, g0, g1, hx, g2, g3, g4]; first | done | rfl) (.inl rfl) rfl (by decide)) (by simp only [go_sem, Nat.reduceEqDiff, reduceIte, Nat.reduceAdd, Nat.reduceMul, Nat.reduceSub, Nat.reduceLT, Nat.reduceLeDiff, Nat.reduceBEq, g0, g1, hx, g2, g3, g4]; first | done | rfl) rfl (by simp only [go_sem, Nat.reduceLT]) ?_; simp only [go_sem, Nat.reduceEqDiff, reduceIte, Nat.reduceAdd, Nat.reduceMul, Nat.reduceSub, Nat.reduceLT, Nat.reduceLeDiff, Nat.reduceBEq, g0, g1, hx, g2, g3, g4]) | (refine qx (call_L (N' := [0]) (L := []) (k2) rfl (.cons (.nm rfl) (.cons (.nm rfl) (.nil))) (by decide) (by decide) (by decide) (by simp only [go_sem, Nat.reduceEqDiff, reduceIte, Nat.reduceAdd, Nat.reduceMul, Nat.reduceSub, Nat.reduceLT, Nat.reduceLeDiff, Nat.reduceBEq, g0, g1, hx, g2, g3, g4]; first | done | rfl) (.inl rfl) rfl (by decide)) (by simp only [go_sem, Nat.reduceEqDiff, reduceIte, Nat.reduceAdd, Nat.reduceMul, Nat.reduceSub, Nat.reduceLT, Nat.reduceLeDiff, Nat.reduceBEq, g0, g1, hx, g2, g3, g4]; first | done | rfl) rfl (by simp only [go_sem, Nat.reduceLT]) ?_; simp only [go_sem, Nat.reduceEqDiff, reduceIte, Nat.reduceAdd, Nat.reduceMul, Nat.reduceSub, Nat.reduceLT, Nat.reduceLeDiff, Nat.reduceBEq, g0, g1, hx, g2, g3, g4]) | (refine qx (call_L (N' := [0]) (L := []) (k3) rfl (.cons (.nm rfl) (.cons (.nm rfl) (.nil))) (by decide) (by decide) (by decide) (by simp only [go_sem, Nat.reduceEqDiff, reduceIte, Nat.reduceAdd, Nat.reduceMul, Nat.reduceSub, Nat.reduceLT, Nat.reduceLeDiff, Nat.reduceBEq, g0, g1, hx, g2, g3, g4]; first | done | rfl) (.inl rfl) rfl (by decide)) (by simp only [go_sem, Nat.reduceEqDiff, reduceIte, Nat.reduceAdd, Nat.reduceMul, Nat.reduceSub, Nat.reduceLT, Nat.reduceLeDiff, Nat.reduceBEq, g0, g1, hx, g2, g3, g4]; first | done | rfl) rfl (by simp only [go_sem, Nat.reduceLT]) ?_; simp only [go_sem, Nat.reduceEqDiff, reduceIte, Nat.reduceAdd, Nat.reduceMul, Nat.reduceSub, Nat.reduceLT, Nat.reduceLeDiff, Nat.reduceBEq, g0, g1, hx, g2, g3, g4]))
      exact Aw_ret (retL (M := [0]) (.inl rfl) (by simp only [go_sem, Nat.reduceEqDiff, reduceIte, Nat.reduceAdd, Nat.reduceMul, Nat.reduceSub, Nat.reduceLT, Nat.reduceLeDiff, Nat.reduceBEq]; first | done | rfl) rfl rfl (by rfl) (by simp only [go_sem, Nat.reduceEqDiff, reduceIte, Nat.reduceAdd, Nat.reduceMul, Nat.reduceSub, Nat.reduceLT, Nat.reduceLeDiff, Nat.reduceBEq]; first | done | rfl | (and_intros <;> rfl)) (by decide) (by intro m hm; first | omega | (rcases m with _ | _ | _ | _ | _ | _ | m <;> first | exact ⟨by decide, rfl⟩ | omega)))
  · have g3 : decide (((pickV b (p + 1 + 1) 4 : Nat) : Int) = 1) = false := decide_eq_false (by omega)
    have e : nearV b p l = (k, p + 3) := by unfold nearV; rw [if_neg c0, if_neg c1]; dsimp only; rw [if_neg c2, if_neg c3, ← hk]
    rw [e]
    refine AC_of Try.func75 rfl Try.ntmps75 Try.results75 (by kernel_rfl) rfl ?_
    simp only [List.zipIdx, List.map, Nat.zero_add, Nat.reduceAdd]
    repeat (first | apply Aw_seq | apply Aw_block | apply Aw_skip | apply Aw_exit | refine Aw_condt rfl ?_ | refine Aw_condf rfl ?_ | (refine qr ?_; simp only [go_sem, Nat.reduceEqDiff, reduceIte, Nat.reduceAdd, Nat.reduceMul, Nat.reduceSub, Nat.reduceLT, Nat.reduceLeDiff, Nat.reduceBEq, g0, g1, hx, g2, g3]) | (refine qd (by kernel_rfl) (by kernel_rfl) ?_; simp only [go_sem, Nat.reduceEqDiff, reduceIte, Nat.reduceAdd, Nat.reduceMul, Nat.reduceSub, Nat.reduceLT, Nat.reduceLeDiff, Nat.reduceBEq, g0, g1, hx, g2, g3]) | refine dk (by kernel_rfl) ?_ | (refine qx (call_L (N' := [0]) (L := []) (k1) rfl (.cons (.nm rfl) (.cons (.nm rfl) (.nil))) (by decide) (by decide) (by decide) (by simp only [go_sem, Nat.reduceEqDiff, reduceIte, Nat.reduceAdd, Nat.reduceMul, Nat.reduceSub, Nat.reduceLT, Nat.reduceLeDiff, Nat.reduceBEq, g0, g1, hx, g2, g3]; first | done | rfl) (.inl rfl) rfl (by decide)) (by simp only [go_sem, Nat.reduceEqDiff, reduceIte, Nat.reduceAdd, Nat.reduceMul, Nat.reduceSub, Nat.reduceLT, Nat.reduceLeDiff, Nat.reduceBEq, g0, g1, hx, g2, g3]; first | done | rfl) rfl (by simp only [go_sem, Nat.reduceLT]) ?_; simp only [go_sem, Nat.reduceEqDiff, reduceIte, Nat.reduceAdd, Nat.reduceMul, Nat.reduceSub, Nat.reduceLT, Nat.reduceLeDiff, Nat.reduceBEq, g0, g1, hx, g2, g3]) | (refine qx (call_L (N' := [0]) (L := []) (k2) rfl (.cons (.nm rfl) (.cons (.nm rfl) (.nil))) (by decide) (by decide) (by decide) (by simp only [go_sem, Nat.reduceEqDiff, reduceIte, Nat.reduceAdd, Nat.reduceMul, Nat.reduceSub, Nat.reduceLT, Nat.reduceLeDiff, Nat.reduceBEq, g0, g1, hx, g2, g3]; first | done | rfl) (.inl rfl) rfl (by decide)) (by simp only [go_sem, Nat.reduceEqDiff, reduceIte, Nat.reduceAdd, Nat.reduceMul, Nat.reduceSub, Nat.reduceLT, Nat.reduceLeDiff, Nat.reduceBEq, g0, g1, hx, g2, g3]; first | done | rfl) rfl (by simp only [go_sem, Nat.reduceLT]) ?_; simp only [go_sem, Nat.reduceEqDiff, reduceIte, Nat.reduceAdd, Nat.reduceMul, Nat.reduceSub, Nat.reduceLT, Nat.reduceLeDiff, Nat.reduceBEq, g0, g1, hx, g2, g3]) | (refine qx (call_L (N' := [0]) (L := []) (k3) rfl (.cons (.nm rfl) (.cons (.nm rfl) (.nil))) (by decide) (by decide) (by decide) (by simp only [go_sem, Nat.reduceEqDiff, reduceIte, Nat.reduceAdd, Nat.reduceMul, Nat.reduceSub, Nat.reduceLT, Nat.reduceLeDiff, Nat.reduceBEq, g0, g1, hx, g2, g3]; first | done | rfl) (.inl rfl) rfl (by decide)) (by simp only [go_sem, Nat.reduceEqDiff, reduceIte, Nat.reduceAdd, Nat.reduceMul, Nat.reduceSub, Nat.reduceLT, Nat.reduceLeDiff, Nat.reduceBEq, g0, g1, hx, g2, g3]; first | done | rfl) rfl (by simp only [go_sem, Nat.reduceLT]) ?_; simp only [go_sem, Nat.reduceEqDiff, reduceIte, Nat.reduceAdd, Nat.reduceMul, Nat.reduceSub, Nat.reduceLT, Nat.reduceLeDiff, Nat.reduceBEq, g0, g1, hx, g2, g3]))
    exact Aw_ret (retL (M := [0]) (.inl rfl) (by simp only [go_sem, Nat.reduceEqDiff, reduceIte, Nat.reduceAdd, Nat.reduceMul, Nat.reduceSub, Nat.reduceLT, Nat.reduceLeDiff, Nat.reduceBEq]; first | done | rfl) rfl rfl (by rfl) (by simp only [go_sem, Nat.reduceEqDiff, reduceIte, Nat.reduceAdd, Nat.reduceMul, Nat.reduceSub, Nat.reduceLT, Nat.reduceLeDiff, Nat.reduceBEq]; first | done | rfl | (and_intros <;> rfl)) (by decide) (by intro m hm; first | omega | (rcases m with _ | _ | _ | _ | _ | _ | m <;> first | exact ⟨by decide, rfl⟩ | omega)))
noncomputable def keysL (b : List Int) : Nat → List ByteArray → Nat → List ByteArray × Nat
  | 0, l, p => (l, p)
  | n + 1, l, p => keysL b n (putK l (nearV b p l).1) (nearV b p l).2
noncomputable def keysV (b : List Int) (p : Nat) (most : Nat) : List ByteArray × Nat := keysL b (pickV b p ((most + 1 : Nat) : Int)) [] (p + 1)
theorem keysL_fin {b : List Int} (hb : byteL b) : ∀ (n : Nat) (l : List ByteArray) (p : Nat), p + 7 * n ≤ 700000 → l.length + n ≤ 1000 → (∀ s ∈ l, s.size ≤ 5) → (keysL b n l p).1.length ≤ l.length + n ∧ (∀ s ∈ (keysL b n l p).1, s.size ≤ 5) ∧ (keysL b n l p).2 ≤ p + 7 * n
  | 0, l, p, _, _, h => ⟨by simp [keysL], h, by simp [keysL]⟩
  | n + 1, l, p, h1, h2, h3 => by
    obtain ⟨a1, a2⟩ := nearV_fin hb (p := p) (K := 5) (l := l) (by omega) (by omega) (by omega) h3
    obtain ⟨b1, b2⟩ := putK_mem (ks := l) (k := (nearV b p l).1)
    obtain ⟨c1, c2, c3⟩ := keysL_fin hb n (putK l (nearV b p l).1) (nearV b p l).2 (by omega) (by omega) (fun s hs => by
      rcases b1 s hs with h | h
      · exact h3 s h
      · rw [h]; exact a1)
    exact ⟨by simp only [keysL]; omega, by simp only [keysL]; exact c2, by simp only [keysL]; omega⟩
theorem keysV_fin {b : List Int} (hb : byteL b) {p most : Nat} (hp : p ≤ 600000) (hm : most ≤ 100) : (keysV b p most).1.length ≤ most ∧ (∀ s ∈ (keysV b p most).1, s.size ≤ 5) ∧ (keysV b p most).2 ≤ p + 1 + 7 * most := by
  have h := pickV_lt (n := ((most + 1 : Nat) : Int)) hb (show p ≤ 1000000 by omega) (by omega) (by omega)
  obtain ⟨h1, h2, h3⟩ := keysL_fin hb (pickV b p ((most + 1 : Nat) : Int)) [] (p + 1) (by omega) (by show 0 + _ ≤ _; omega) (by simp)
  unfold keysV
  rw [show ([] : List ByteArray).length = 0 from rfl] at h1
  exact ⟨by omega, h2, by omega⟩
structure KsI (b : List Int) (p0 most : Nat) where
  n : Nat
  l : List ByteArray
  p : Nat
  hn : l.length + n ≤ 1000
  hs : ∀ s ∈ l, s.size ≤ 5
  hp : p + 7 * n ≤ 700000
  h : keysL b n l p = keysV b p0 most
theorem l71Keys_ac {b : List Int} {p most : Nat} (hb : byteL b) (hp : p ≤ 600000) (hm : most ≤ 100) : AC Try.prog 152 [.c (.ph 0 0 0), iT most] (hpL [some (rdO b p)]) 1 ⟨.t (strsT (keysV b p most).1), hpL [some (rdO b (keysV b p most).2)], 1⟩ := by
  refine AC_of Try.func152 rfl Try.ntmps152 Try.results152 (by kernel_rfl) rfl ?_
  simp only [List.zipIdx, List.map, Nat.zero_add, Nat.reduceAdd]
  have w0 : IntKind.i64.wrap ((most : Int) + 1) = ((most + 1 : Nat) : Int) := wn (by omega) (by omega)
  have k := pickV_ac (n := ((most + 1 : Nat) : Int)) hb (show p ≤ 1000000 by omega) (by omega)
  have h6 := pickV_lt (n := ((most + 1 : Nat) : Int)) hb (show p ≤ 1000000 by omega) (by omega) (by omega)
  repeat (first | apply Aw_seq | apply Aw_block | apply Aw_skip | apply Aw_exit | refine Aw_condt rfl ?_ | refine Aw_condf rfl ?_ | (refine qr ?_; simp only [go_sem, Nat.reduceEqDiff, reduceIte, Nat.reduceAdd, Nat.reduceMul, Nat.reduceSub, Nat.reduceLT, Nat.reduceLeDiff, Nat.reduceBEq, w0]) | (refine qd (by kernel_rfl) (by kernel_rfl) ?_; simp only [go_sem, Nat.reduceEqDiff, reduceIte, Nat.reduceAdd, Nat.reduceMul, Nat.reduceSub, Nat.reduceLT, Nat.reduceLeDiff, Nat.reduceBEq, w0]) | refine dk (by kernel_rfl) ?_ | (refine qx (call_L (N' := [0]) (L := []) (k) rfl (.cons (.nm rfl) (.cons (.nm rfl) (.nil))) (by decide) (by decide) (by decide) (by simp only [go_sem, Nat.reduceEqDiff, reduceIte, Nat.reduceAdd, Nat.reduceMul, Nat.reduceSub, Nat.reduceLT, Nat.reduceLeDiff, Nat.reduceBEq, w0]; first | done | rfl) (.inl rfl) rfl (by decide)) (by simp only [go_sem, Nat.reduceEqDiff, reduceIte, Nat.reduceAdd, Nat.reduceMul, Nat.reduceSub, Nat.reduceLT, Nat.reduceLeDiff, Nat.reduceBEq, w0]; first | done | rfl) rfl (by simp only [go_sem, Nat.reduceLT]) ?_; simp only [go_sem, Nat.reduceEqDiff, reduceIte, Nat.reduceAdd, Nat.reduceMul, Nat.reduceSub, Nat.reduceLT, Nat.reduceLeDiff, Nat.reduceBEq, w0]))
  refine Aw.rw (rwL (l' := [(6, .t (iT (pickV b p ((most + 1 : Nat) : Int) : Nat))), (5, .t (.c (.h 1))), (0, .t (.c (.ph 0 0 0)))]) (os := [some (rdO b (p + 1)), some (kRow [])]) (M := [0, 2]) (n' := 2) (by repeat (first | exact trivial | refine ⟨rfl, rfl, ?_⟩)) (by rfl) (by simp only [go_sem, Nat.reduceEqDiff, reduceIte, Nat.reduceAdd, Nat.reduceMul, Nat.reduceSub, Nat.reduceLT, Nat.reduceLeDiff, Nat.reduceBEq, List.map_nil]; first | done | rfl) (by decide) (by intro m hm; first | omega | (rcases m with _ | _ | _ | _ | _ | _ | m <;> first | exact ⟨by decide, rfl⟩ | omega))) ?_
  refine Aw.setL (l' := [(6, .t (iT (pickV b p ((most + 1 : Nat) : Int) : Nat))), (5, .t (strsT [])), (0, .t (.c (.ph 0 0 0)))]) (os' := [some (rdO b (p + 1))]) (n' := 2) [1] (by repeat (first | exact trivial | refine ⟨SetA.same rfl, ?_⟩ | refine ⟨SetA.row rfl rfl (by decide), ?_⟩)) (by repeat (first | exact trivial | refine ⟨rfl, rfl, ?_⟩ | show SubL _ _ _ _)) (by decide) ?_
  refine Aw_loop_rw (ι := KsI b p most) (fun q => S [(6, .t (iT (q.n : Nat))), (5, .t (strsT q.l)), (0, .t (.c (.ph 0 0 0)))] (hpL [some (rdO b q.p)]) 2) (fun q => q.n) ⟨pickV b p ((most + 1 : Nat) : Int), [], p + 1, by show 0 + _ ≤ _; omega, by simp, by omega, rfl⟩ ?_
  rintro ⟨n, l, q, hn, hs, hq, h⟩
  dsimp only
  rcases n with _ | n
  · have g1 : decide ((0 : Int) < ((0 : Nat) : Int)) = false := rfl
    rw [← h]
    repeat (first | apply Aw_seq | apply Aw_block | apply Aw_skip | apply Aw_exit | refine Aw_condt rfl ?_ | refine Aw_condf rfl ?_ | (refine qr ?_; simp only [go_sem, Nat.reduceEqDiff, reduceIte, Nat.reduceAdd, Nat.reduceMul, Nat.reduceSub, Nat.reduceLT, Nat.reduceLeDiff, Nat.reduceBEq, g1]) | (refine qd (by kernel_rfl) (by kernel_rfl) ?_; simp only [go_sem, Nat.reduceEqDiff, reduceIte, Nat.reduceAdd, Nat.reduceMul, Nat.reduceSub, Nat.reduceLT, Nat.reduceLeDiff, Nat.reduceBEq, g1]) | refine dk (by kernel_rfl) ?_)
    exact Aw_ret (retL (M := [0]) (.inl rfl) (by simp only [go_sem, Nat.reduceEqDiff, reduceIte, Nat.reduceAdd, Nat.reduceMul, Nat.reduceSub, Nat.reduceLT, Nat.reduceLeDiff, Nat.reduceBEq]; first | done | rfl) rfl rfl (by rfl) (by simp only [go_sem, Nat.reduceEqDiff, reduceIte, Nat.reduceAdd, Nat.reduceMul, Nat.reduceSub, Nat.reduceLT, Nat.reduceLeDiff, Nat.reduceBEq, keysL]; first | done | rfl | (and_intros <;> rfl)) (by decide) (by intro m hm; first | omega | (rcases m with _ | _ | _ | _ | _ | _ | m <;> first | exact ⟨by decide, rfl⟩ | omega)))
  · have g1 : decide ((0 : Int) < ((n + 1 : Nat) : Int)) = true := decide_eq_true (by omega)
    have w1 : IntKind.i64.wrap (((n + 1 : Nat) : Int) - 1) = (n : Int) := wn (by omega) (by omega)
    have kn := l71Near_ac (l := l) hb (show q ≤ 800000 by omega) (by omega) (fun s h => by have := hs s h; omega)
    have kp := l2Put_ac l (nearV b q l).1 (by omega)
    obtain ⟨a1, a2⟩ := nearV_fin hb (p := q) (K := 5) (l := l) (by omega) (by omega) (by omega) hs
    obtain ⟨b1, b2⟩ := putK_mem (ks := l) (k := (nearV b q l).1)
    repeat (first | apply Aw_seq | apply Aw_block | apply Aw_skip | apply Aw_exit | refine Aw_condt rfl ?_ | refine Aw_condf rfl ?_ | (refine qr ?_; simp only [go_sem, Nat.reduceEqDiff, reduceIte, Nat.reduceAdd, Nat.reduceMul, Nat.reduceSub, Nat.reduceLT, Nat.reduceLeDiff, Nat.reduceBEq, g1, w1]) | (refine qd (by kernel_rfl) (by kernel_rfl) ?_; simp only [go_sem, Nat.reduceEqDiff, reduceIte, Nat.reduceAdd, Nat.reduceMul, Nat.reduceSub, Nat.reduceLT, Nat.reduceLeDiff, Nat.reduceBEq, g1, w1]) | refine dk (by kernel_rfl) ?_ | (refine qp (kp) (by simp only [go_sem, Nat.reduceEqDiff, reduceIte, Nat.reduceAdd, Nat.reduceMul, Nat.reduceSub, Nat.reduceLT, Nat.reduceLeDiff, Nat.reduceBEq, g1, w1]; first | done | rfl) rfl (by simp only [go_sem, Nat.reduceLT]) rfl rfl ?_; simp only [go_sem, Nat.reduceEqDiff, reduceIte, Nat.reduceAdd, Nat.reduceMul, Nat.reduceSub, Nat.reduceLT, Nat.reduceLeDiff, Nat.reduceBEq, g1, w1]) | (refine qx (call_L (N' := [0]) (L := []) (kn) rfl (.cons (.nm rfl) (.cons (.nm rfl) (.nil))) (by decide) (by decide) (by decide) (by simp only [go_sem, Nat.reduceEqDiff, reduceIte, Nat.reduceAdd, Nat.reduceMul, Nat.reduceSub, Nat.reduceLT, Nat.reduceLeDiff, Nat.reduceBEq, g1, w1]; first | done | rfl) (.inl rfl) rfl (by decide)) (by simp only [go_sem, Nat.reduceEqDiff, reduceIte, Nat.reduceAdd, Nat.reduceMul, Nat.reduceSub, Nat.reduceLT, Nat.reduceLeDiff, Nat.reduceBEq, g1, w1]; first | done | rfl) rfl (by simp only [go_sem, Nat.reduceLT]) ?_; simp only [go_sem, Nat.reduceEqDiff, reduceIte, Nat.reduceAdd, Nat.reduceMul, Nat.reduceSub, Nat.reduceLT, Nat.reduceLeDiff, Nat.reduceBEq, g1, w1]))
    refine ⟨⟨n, putK l (nearV b q l).1, (nearV b q l).2, by omega, fun s hs2 => (b1 s hs2).elim (hs s) (fun e => by rw [e]; exact a1), by omega, h⟩, [0], ?_, rwL (by repeat (first | exact trivial | refine ⟨rfl, rfl, ?_⟩)) (by rfl) (by simp only [go_sem, Nat.reduceEqDiff, reduceIte, Nat.reduceAdd, Nat.reduceMul, Nat.reduceSub, Nat.reduceLT, Nat.reduceLeDiff, Nat.reduceBEq]; first | done | rfl) (by decide) (by intro m hm; first | omega | (rcases m with _ | _ | _ | _ | _ | _ | m <;> first | exact ⟨by decide, rfl⟩ | omega))⟩
    show n < n + 1; omega
end Go.Proofs.Ytcbhgglpgphimaa.Ab
namespace Go.Proofs.Ytcbhgglpgphimaa.Ab
set_option linter.deprecated false
set_option linter.unusedVariables false
set_option linter.unusedSimpArgs false
open Go Go.Proofs
set_option maxRecDepth 10000
set_option maxHeartbeats 8000000
set_option linter.unusedSimpArgs false
set_option linter.unusedVariables false
noncomputable def deedV (b : List Int) (p : Nat) (l : List ByteArray) : Deed × Nat :=
  if pickV b p 10 < 5 then (⟨1, (nearV b (p + 1) l).1, (pickV b (nearV b (p + 1) l).2 100 : Nat)⟩, (nearV b (p + 1) l).2 + 1)
  else if pickV b p 10 = 5 then (⟨2, (nearV b (p + 1) l).1, 0⟩, (nearV b (p + 1) l).2)
  else if pickV b p 10 = 6 then (⟨3, zs, 0⟩, p + 1)
  else if pickV b p 10 = 7 then (⟨4, zs, (pickV b (p + 1) 20 : Nat)⟩, p + 2)
  else if pickV b p 10 = 8 then (⟨5, zs, 0⟩, p + 1)
  else (⟨6, zs, (pickV b (p + 1) 3 : Nat)⟩, p + 2)
theorem deedV_fin {b : List Int} (hb : byteL b) {p : Nat} {l : List ByteArray} (hp : p ≤ 500000) (hl : l.length ≤ 1000) (hs : ∀ s ∈ l, s.size ≤ 5) : (deedV b p l).1.key.size ≤ 5 ∧ (deedV b p l).2 ≤ p + 9 := by
  have h := nearV_fin hb (p := p + 1) (K := 5) (l := l) (by omega) hl (by omega) hs
  have z : zs.size = 0 := rfl
  unfold deedV
  (repeat' split) <;> dsimp only <;> (constructor <;> omega)
theorem l71Deed_ac {b : List Int} {p : Nat} {l : List ByteArray} (hb : byteL b) (hp : p ≤ 500000) (hl : l.length ≤ 1000) (hs : ∀ s ∈ l, s.size ≤ 5) : AC Try.prog 153 [.c (.ph 0 0 0), strsT l] (hpL [some (rdO b p)]) 1 ⟨.t (deedT (deedV b p l).1), hpL [some (rdO b (deedV b p l).2)], 1⟩ := by
  have k1 := pickV_ac (n := 10) hb (show p ≤ 1000000 by omega) (by omega)
  have h1 := pickV_lt (n := 10) hb (show p ≤ 1000000 by omega) (by omega) (by omega)
  have kn := l71Near_ac (l := l) hb (show p + 1 ≤ 800000 by omega) hl (fun s h => by have := hs s h; omega)
  have hn := nearV_fin hb (p := p + 1) (K := 5) (l := l) (by omega) hl (by omega) hs
  have k2 := pickV_ac (n := 100) hb (show (nearV b (p + 1) l).2 ≤ 1000000 by omega) (by omega)
  have k3 := pickV_ac (n := 20) hb (show p + 1 ≤ 1000000 by omega) (by omega)
  have k4 := pickV_ac (n := 3) hb (show p + 1 ≤ 1000000 by omega) (by omega)
  have hc : pickV b p 10 = 0 ∨ pickV b p 10 = 1 ∨ pickV b p 10 = 2 ∨ pickV b p 10 = 3 ∨ pickV b p 10 = 4 ∨ pickV b p 10 = 5 ∨ pickV b p 10 = 6 ∨ pickV b p 10 = 7 ∨ pickV b p 10 = 8 ∨ pickV b p 10 = 9 := by omega
  unfold deedV
  rcases hc with hv | hv | hv | hv | hv | hv | hv | hv | hv | hv
  · rw [hv] at k1
    have g0 : decide (((0 : Nat) : Int) = 0) = true := rfl
    simp only [hv]
    rw [if_pos (show 0 < 5 by decide)]
    refine AC_of Try.func153 rfl Try.ntmps153 Try.results153 (by kernel_rfl) rfl ?_
    simp only [List.zipIdx, List.map, Nat.zero_add, Nat.reduceAdd]
    repeat (first | apply Aw_seq | apply Aw_block | apply Aw_skip | apply Aw_exit | refine Aw_condt rfl ?_ | refine Aw_condf rfl ?_ | (refine qr ?_; simp only [go_sem, Nat.reduceEqDiff, reduceIte, Nat.reduceAdd, Nat.reduceMul, Nat.reduceSub, Nat.reduceLT, Nat.reduceLeDiff, Nat.reduceBEq, g0]) | (refine qd (by kernel_rfl) (by kernel_rfl) ?_; simp only [go_sem, Nat.reduceEqDiff, reduceIte, Nat.reduceAdd, Nat.reduceMul, Nat.reduceSub, Nat.reduceLT, Nat.reduceLeDiff, Nat.reduceBEq, g0]) | refine dk (by kernel_rfl) ?_ | (refine qx (call_L (N' := [0]) (L := []) (k1) rfl (.cons (.nm rfl) (.cons (.nm rfl) (.nil))) (by decide) (by decide) (by decide) (by simp only [go_sem, Nat.reduceEqDiff, reduceIte, Nat.reduceAdd, Nat.reduceMul, Nat.reduceSub, Nat.reduceLT, Nat.reduceLeDiff, Nat.reduceBEq, g0]; first | done | rfl) (.inl rfl) rfl (by decide)) (by simp only [go_sem, Nat.reduceEqDiff, reduceIte, Nat.reduceAdd, Nat.reduceMul, Nat.reduceSub, Nat.reduceLT, Nat.reduceLeDiff, Nat.reduceBEq, g0]; first | done | rfl) rfl (by simp only [go_sem, Nat.reduceLT]) ?_; simp only [go_sem, Nat.reduceEqDiff, reduceIte, Nat.reduceAdd, Nat.reduceMul, Nat.reduceSub, Nat.reduceLT, Nat.reduceLeDiff, Nat.reduceBEq, g0]) | (refine qx (call_L (N' := [0]) (L := []) (kn) rfl (.cons (.nm rfl) (.cons (.nm rfl) (.nil))) (by decide) (by decide) (by decide) (by simp only [go_sem, Nat.reduceEqDiff, reduceIte, Nat.reduceAdd, Nat.reduceMul, Nat.reduceSub, Nat.reduceLT, Nat.reduceLeDiff, Nat.reduceBEq, g0]; first | done | rfl) (.inl rfl) rfl (by decide)) (by simp only [go_sem, Nat.reduceEqDiff, reduceIte, Nat.reduceAdd, Nat.reduceMul, Nat.reduceSub, Nat.reduceLT, Nat.reduceLeDiff, Nat.reduceBEq, g0]; first | done | rfl) rfl (by simp only [go_sem, Nat.reduceLT]) ?_; simp only [go_sem, Nat.reduceEqDiff, reduceIte, Nat.reduceAdd, Nat.reduceMul, Nat.reduceSub, Nat.reduceLT, Nat.reduceLeDiff, Nat.reduceBEq, g0]) | (refine qx (call_L (N' := [0]) (L := []) (k2) rfl (.cons (.nm rfl) (.cons (.nm rfl) (.nil))) (by decide) (by decide) (by decide) (by simp only [go_sem, Nat.reduceEqDiff, reduceIte, Nat.reduceAdd, Nat.reduceMul, Nat.reduceSub, Nat.reduceLT, Nat.reduceLeDiff, Nat.reduceBEq, g0]; first | done | rfl) (.inl rfl) rfl (by decide)) (by simp only [go_sem, Nat.reduceEqDiff, reduceIte, Nat.reduceAdd, Nat.reduceMul, Nat.reduceSub, Nat.reduceLT, Nat.reduceLeDiff, Nat.reduceBEq, g0]; first | done | rfl) rfl (by simp only [go_sem, Nat.reduceLT]) ?_; simp only [go_sem, Nat.reduceEqDiff, reduceIte, Nat.reduceAdd, Nat.reduceMul, Nat.reduceSub, Nat.reduceLT, Nat.reduceLeDiff, Nat.reduceBEq, g0]))
    exact Aw_ret (retL (M := [0]) (.inl rfl) (by simp only [go_sem, Nat.reduceEqDiff, reduceIte, Nat.reduceAdd, Nat.reduceMul, Nat.reduceSub, Nat.reduceLT, Nat.reduceLeDiff, Nat.reduceBEq]; first | done | rfl) rfl rfl (by rfl) (by simp only [go_sem, Nat.reduceEqDiff, reduceIte, Nat.reduceAdd, Nat.reduceMul, Nat.reduceSub, Nat.reduceLT, Nat.reduceLeDiff, Nat.reduceBEq]; first | done | rfl | (and_intros <;> rfl)) (by decide) (by intro m hm; first | omega | (rcases m with _ | _ | _ | _ | _ | _ | m <;> first | exact ⟨by decide, rfl⟩ | omega)))
  · rw [hv] at k1
    have g0 : decide (((1 : Nat) : Int) = 0) = false := rfl
    have g1 : decide (((1 : Nat) : Int) = 1) = true := rfl
    simp only [hv]
    rw [if_pos (show 1 < 5 by decide)]
    refine AC_of Try.func153 rfl Try.ntmps153 Try.results153 (by kernel_rfl) rfl ?_
    simp only [List.zipIdx, List.map, Nat.zero_add, Nat.reduceAdd]
    repeat (first | apply Aw_seq | apply Aw_block | apply Aw_skip | apply Aw_exit | refine Aw_condt rfl ?_ | refine Aw_condf rfl ?_ | (refine qr ?_; simp only [go_sem, Nat.reduceEqDiff, reduceIte, Nat.reduceAdd, Nat.reduceMul, Nat.reduceSub, Nat.reduceLT, Nat.reduceLeDiff, Nat.reduceBEq, g0, g1]) | (refine qd (by kernel_rfl) (by kernel_rfl) ?_; simp only [go_sem, Nat.reduceEqDiff, reduceIte, Nat.reduceAdd, Nat.reduceMul, Nat.reduceSub, Nat.reduceLT, Nat.reduceLeDiff, Nat.reduceBEq, g0, g1]) | refine dk (by kernel_rfl) ?_ | (refine qx (call_L (N' := [0]) (L := []) (k1) rfl (.cons (.nm rfl) (.cons (.nm rfl) (.nil))) (by decide) (by decide) (by decide) (by simp only [go_sem, Nat.reduceEqDiff, reduceIte, Nat.reduceAdd, Nat.reduceMul, Nat.reduceSub, Nat.reduceLT, Nat.reduceLeDiff, Nat.reduceBEq, g0, g1]; first | done | rfl) (.inl rfl) rfl (by decide)) (by simp only [go_sem, Nat.reduceEqDiff, reduceIte, Nat.reduceAdd, Nat.reduceMul, Nat.reduceSub, Nat.reduceLT, Nat.reduceLeDiff, Nat.reduceBEq, g0, g1]; first | done | rfl) rfl (by simp only [go_sem, Nat.reduceLT]) ?_; simp only [go_sem, Nat.reduceEqDiff, reduceIte, Nat.reduceAdd, Nat.reduceMul, Nat.reduceSub, Nat.reduceLT, Nat.reduceLeDiff, Nat.reduceBEq, g0, g1]) | (refine qx (call_L (N' := [0]) (L := []) (kn) rfl (.cons (.nm rfl) (.cons (.nm rfl) (.nil))) (by decide) (by decide) (by decide) (by simp only [go_sem, Nat.reduceEqDiff, reduceIte, Nat.reduceAdd, Nat.reduceMul, Nat.reduceSub, Nat.reduceLT, Nat.reduceLeDiff, Nat.reduceBEq, g0, g1]; first | done | rfl) (.inl rfl) rfl (by decide)) (by simp only [go_sem, Nat.reduceEqDiff, reduceIte, Nat.reduceAdd, Nat.reduceMul, Nat.reduceSub, Nat.reduceLT, Nat.reduceLeDiff, Nat.reduceBEq, g0, g1]; first | done | rfl) rfl (by simp only [go_sem, Nat.reduceLT]) ?_; simp only [go_sem, Nat.reduceEqDiff, reduceIte, Nat.reduceAdd, Nat.reduceMul, Nat.reduceSub, Nat.reduceLT, Nat.reduceLeDiff, Nat.reduceBEq, g0, g1]) | (refine qx (call_L (N' := [0]) (L := []) (k2) rfl (.cons (.nm rfl) (.cons (.nm rfl) (.nil))) (by decide) (by decide) (by decide) (by simp only [go_sem, Nat.reduceEqDiff, reduceIte, Nat.reduceAdd, Nat.reduceMul, Nat.reduceSub, Nat.reduceLT, Nat.reduceLeDiff, Nat.reduceBEq, g0, g1]; first | done | rfl) (.inl rfl) rfl (by decide)) (by simp only [go_sem, Nat.reduceEqDiff, reduceIte, Nat.reduceAdd, Nat.reduceMul, Nat.reduceSub, Nat.reduceLT, Nat.reduceLeDiff, Nat.reduceBEq, g0, g1]; first | done | rfl) rfl (by simp only [go_sem, Nat.reduceLT]) ?_; simp only [go_sem, Nat.reduceEqDiff, reduceIte, Nat.reduceAdd, Nat.reduceMul, Nat.reduceSub, Nat.reduceLT, Nat.reduceLeDiff, Nat.reduceBEq, g0, g1]))
    exact Aw_ret (retL (M := [0]) (.inl rfl) (by simp only [go_sem, Nat.reduceEqDiff, reduceIte, Nat.reduceAdd, Nat.reduceMul, Nat.reduceSub, Nat.reduceLT, Nat.reduceLeDiff, Nat.reduceBEq]; first | done | rfl) rfl rfl (by rfl) (by simp only [go_sem, Nat.reduceEqDiff, reduceIte, Nat.reduceAdd, Nat.reduceMul, Nat.reduceSub, Nat.reduceLT, Nat.reduceLeDiff, Nat.reduceBEq]; first | done | rfl | (and_intros <;> rfl)) (by decide) (by intro m hm; first | omega | (rcases m with _ | _ | _ | _ | _ | _ | m <;> first | exact ⟨by decide, rfl⟩ | omega)))
  · rw [hv] at k1
    have g0 : decide (((2 : Nat) : Int) = 0) = false := rfl
    have g1 : decide (((2 : Nat) : Int) = 1) = false := rfl
    have g2 : decide (((2 : Nat) : Int) = 2) = true := rfl
    simp only [hv]
    rw [if_pos (show 2 < 5 by decide)]
    refine AC_of Try.func153 rfl Try.ntmps153 Try.results153 (by kernel_rfl) rfl ?_
    simp only [List.zipIdx, List.map, Nat.zero_add, Nat.reduceAdd]
    repeat (first | apply Aw_seq | apply Aw_block | apply Aw_skip | apply Aw_exit | refine Aw_condt rfl ?_ | refine Aw_condf rfl ?_ | (refine qr ?_; simp only [go_sem, Nat.reduceEqDiff, reduceIte, Nat.reduceAdd, Nat.reduceMul, Nat.reduceSub, Nat.reduceLT, Nat.reduceLeDiff, Nat.reduceBEq, g0, g1, g2]) | (refine qd (by kernel_rfl) (by kernel_rfl) ?_; simp only [go_sem, Nat.reduceEqDiff, reduceIte, Nat.reduceAdd, Nat.reduceMul, Nat.reduceSub, Nat.reduceLT, Nat.reduceLeDiff, Nat.reduceBEq, g0, g1, g2]) | refine dk (by kernel_rfl) ?_ | (refine qx (call_L (N' := [0]) (L := []) (k1) rfl (.cons (.nm rfl) (.cons (.nm rfl) (.nil))) (by decide) (by decide) (by decide) (by simp only [go_sem, Nat.reduceEqDiff, reduceIte, Nat.reduceAdd, Nat.reduceMul, Nat.reduceSub, Nat.reduceLT, Nat.reduceLeDiff, Nat.reduceBEq, g0, g1, g2]; first | done | rfl) (.inl rfl) rfl (by decide)) (by simp only [go_sem, Nat.reduceEqDiff, reduceIte, Nat.reduceAdd, Nat.reduceMul, Nat.reduceSub, Nat.reduceLT, Nat.reduceLeDiff, Nat.reduceBEq, g0, g1, g2]; first | done | rfl) rfl (by simp only [go_sem, Nat.reduceLT]) ?_; simp only [go_sem, Nat.reduceEqDiff, reduceIte, Nat.reduceAdd, Nat.reduceMul, Nat.reduceSub, Nat.reduceLT, Nat.reduceLeDiff, Nat.reduceBEq, g0, g1, g2]) | (refine qx (call_L (N' := [0]) (L := []) (kn) rfl (.cons (.nm rfl) (.cons (.nm rfl) (.nil))) (by decide) (by decide) (by decide) (by simp only [go_sem, Nat.reduceEqDiff, reduceIte, Nat.reduceAdd, Nat.reduceMul, Nat.reduceSub, Nat.reduceLT, Nat.reduceLeDiff, Nat.reduceBEq, g0, g1, g2]; first | done | rfl) (.inl rfl) rfl (by decide)) (by simp only [go_sem, Nat.reduceEqDiff, reduceIte, Nat.reduceAdd, Nat.reduceMul, Nat.reduceSub, Nat.reduceLT, Nat.reduceLeDiff, Nat.reduceBEq, g0, g1, g2]; first | done | rfl) rfl (by simp only [go_sem, Nat.reduceLT]) ?_; simp only [go_sem, Nat.reduceEqDiff, reduceIte, Nat.reduceAdd, Nat.reduceMul, Nat.reduceSub, Nat.reduceLT, Nat.reduceLeDiff, Nat.reduceBEq, g0, g1, g2]) | (refine qx (call_L (N' := [0]) (L := []) (k2) rfl (.cons (.nm rfl) (.cons (.nm rfl) (.nil))) (by decide) (by decide) (by decide) (by simp only [go_sem, Nat.reduceEqDiff, reduceIte, Nat.reduceAdd, Nat.reduceMul, Nat.reduceSub, Nat.reduceLT, Nat.reduceLeDiff, Nat.reduceBEq, g0, g1, g2]; first | done | rfl) (.inl rfl) rfl (by decide)) (by simp only [go_sem, Nat.reduceEqDiff, reduceIte, Nat.reduceAdd, Nat.reduceMul, Nat.reduceSub, Nat.reduceLT, Nat.reduceLeDiff, Nat.reduceBEq, g0, g1, g2]; first | done | rfl) rfl (by simp only [go_sem, Nat.reduceLT]) ?_; simp only [go_sem, Nat.reduceEqDiff, reduceIte, Nat.reduceAdd, Nat.reduceMul, Nat.reduceSub, Nat.reduceLT, Nat.reduceLeDiff, Nat.reduceBEq, g0, g1, g2]))
    exact Aw_ret (retL (M := [0]) (.inl rfl) (by simp only [go_sem, Nat.reduceEqDiff, reduceIte, Nat.reduceAdd, Nat.reduceMul, Nat.reduceSub, Nat.reduceLT, Nat.reduceLeDiff, Nat.reduceBEq]; first | done | rfl) rfl rfl (by rfl) (by simp only [go_sem, Nat.reduceEqDiff, reduceIte, Nat.reduceAdd, Nat.reduceMul, Nat.reduceSub, Nat.reduceLT, Nat.reduceLeDiff, Nat.reduceBEq]; first | done | rfl | (and_intros <;> rfl)) (by decide) (by intro m hm; first | omega | (rcases m with _ | _ | _ | _ | _ | _ | m <;> first | exact ⟨by decide, rfl⟩ | omega)))
  · rw [hv] at k1
    have g0 : decide (((3 : Nat) : Int) = 0) = false := rfl
    have g1 : decide (((3 : Nat) : Int) = 1) = false := rfl
    have g2 : decide (((3 : Nat) : Int) = 2) = false := rfl
    have g3 : decide (((3 : Nat) : Int) = 3) = true := rfl
    simp only [hv]
    rw [if_pos (show 3 < 5 by decide)]
    refine AC_of Try.func153 rfl Try.ntmps153 Try.results153 (by kernel_rfl) rfl ?_
    simp only [List.zipIdx, List.map, Nat.zero_add, Nat.reduceAdd]
    repeat (first | apply Aw_seq | apply Aw_block | apply Aw_skip | apply Aw_exit | refine Aw_condt rfl ?_ | refine Aw_condf rfl ?_ | (refine qr ?_; simp only [go_sem, Nat.reduceEqDiff, reduceIte, Nat.reduceAdd, Nat.reduceMul, Nat.reduceSub, Nat.reduceLT, Nat.reduceLeDiff, Nat.reduceBEq, g0, g1, g2, g3]) | (refine qd (by kernel_rfl) (by kernel_rfl) ?_; simp only [go_sem, Nat.reduceEqDiff, reduceIte, Nat.reduceAdd, Nat.reduceMul, Nat.reduceSub, Nat.reduceLT, Nat.reduceLeDiff, Nat.reduceBEq, g0, g1, g2, g3]) | refine dk (by kernel_rfl) ?_ | (refine qx (call_L (N' := [0]) (L := []) (k1) rfl (.cons (.nm rfl) (.cons (.nm rfl) (.nil))) (by decide) (by decide) (by decide) (by simp only [go_sem, Nat.reduceEqDiff, reduceIte, Nat.reduceAdd, Nat.reduceMul, Nat.reduceSub, Nat.reduceLT, Nat.reduceLeDiff, Nat.reduceBEq, g0, g1, g2, g3]; first | done | rfl) (.inl rfl) rfl (by decide)) (by simp only [go_sem, Nat.reduceEqDiff, reduceIte, Nat.reduceAdd, Nat.reduceMul, Nat.reduceSub, Nat.reduceLT, Nat.reduceLeDiff, Nat.reduceBEq, g0, g1, g2, g3]; first | done | rfl) rfl (by simp only [go_sem, Nat.reduceLT]) ?_; simp only [go_sem, Nat.reduceEqDiff, reduceIte, Nat.reduceAdd, Nat.reduceMul, Nat.reduceSub, Nat.reduceLT, Nat.reduceLeDiff, Nat.reduceBEq, g0, g1, g2, g3]) | (refine qx (call_L (N' := [0]) (L := []) (kn) rfl (.cons (.nm rfl) (.cons (.nm rfl) (.nil))) (by decide) (by decide) (by decide) (by simp only [go_sem, Nat.reduceEqDiff, reduceIte, Nat.reduceAdd, Nat.reduceMul, Nat.reduceSub, Nat.reduceLT, Nat.reduceLeDiff, Nat.reduceBEq, g0, g1, g2, g3]; first | done | rfl) (.inl rfl) rfl (by decide)) (by simp only [go_sem, Nat.reduceEqDiff, reduceIte, Nat.reduceAdd, Nat.reduceMul, Nat.reduceSub, Nat.reduceLT, Nat.reduceLeDiff, Nat.reduceBEq, g0, g1, g2, g3]; first | done | rfl) rfl (by simp only [go_sem, Nat.reduceLT]) ?_; simp only [go_sem, Nat.reduceEqDiff, reduceIte, Nat.reduceAdd, Nat.reduceMul, Nat.reduceSub, Nat.reduceLT, Nat.reduceLeDiff, Nat.reduceBEq, g0, g1, g2, g3]) | (refine qx (call_L (N' := [0]) (L := []) (k2) rfl (.cons (.nm rfl) (.cons (.nm rfl) (.nil))) (by decide) (by decide) (by decide) (by simp only [go_sem, Nat.reduceEqDiff, reduceIte, Nat.reduceAdd, Nat.reduceMul, Nat.reduceSub, Nat.reduceLT, Nat.reduceLeDiff, Nat.reduceBEq, g0, g1, g2, g3]; first | done | rfl) (.inl rfl) rfl (by decide)) (by simp only [go_sem, Nat.reduceEqDiff, reduceIte, Nat.reduceAdd, Nat.reduceMul, Nat.reduceSub, Nat.reduceLT, Nat.reduceLeDiff, Nat.reduceBEq, g0, g1, g2, g3]; first | done | rfl) rfl (by simp only [go_sem, Nat.reduceLT]) ?_; simp only [go_sem, Nat.reduceEqDiff, reduceIte, Nat.reduceAdd, Nat.reduceMul, Nat.reduceSub, Nat.reduceLT, Nat.reduceLeDiff, Nat.reduceBEq, g0, g1, g2, g3]))
    exact Aw_ret (retL (M := [0]) (.inl rfl) (by simp only [go_sem, Nat.reduceEqDiff, reduceIte, Nat.reduceAdd, Nat.reduceMul, Nat.reduceSub, Nat.reduceLT, Nat.reduceLeDiff, Nat.reduceBEq]; first | done | rfl) rfl rfl (by rfl) (by simp only [go_sem, Nat.reduceEqDiff, reduceIte, Nat.reduceAdd, Nat.reduceMul, Nat.reduceSub, Nat.reduceLT, Nat.reduceLeDiff, Nat.reduceBEq]; first | done | rfl | (and_intros <;> rfl)) (by decide) (by intro m hm; first | omega | (rcases m with _ | _ | _ | _ | _ | _ | m <;> first | exact ⟨by decide, rfl⟩ | omega)))
  · rw [hv] at k1
    have g0 : decide (((4 : Nat) : Int) = 0) = false := rfl
    have g1 : decide (((4 : Nat) : Int) = 1) = false := rfl
    have g2 : decide (((4 : Nat) : Int) = 2) = false := rfl
    have g3 : decide (((4 : Nat) : Int) = 3) = false := rfl
    have g4 : decide (((4 : Nat) : Int) = 4) = true := rfl
    simp only [hv]
    rw [if_pos (show 4 < 5 by decide)]
    refine AC_of Try.func153 rfl Try.ntmps153 Try.results153 (by kernel_rfl) rfl ?_
    simp only [List.zipIdx, List.map, Nat.zero_add, Nat.reduceAdd]
    repeat (first | apply Aw_seq | apply Aw_block | apply Aw_skip | apply Aw_exit | refine Aw_condt rfl ?_ | refine Aw_condf rfl ?_ | (refine qr ?_; simp only [go_sem, Nat.reduceEqDiff, reduceIte, Nat.reduceAdd, Nat.reduceMul, Nat.reduceSub, Nat.reduceLT, Nat.reduceLeDiff, Nat.reduceBEq, g0, g1, g2, g3, g4]) | (refine qd (by kernel_rfl) (by kernel_rfl) ?_; simp only [go_sem, Nat.reduceEqDiff, reduceIte, Nat.reduceAdd, Nat.reduceMul, Nat.reduceSub, Nat.reduceLT, Nat.reduceLeDiff, Nat.reduceBEq, g0, g1, g2, g3, g4]) | refine dk (by kernel_rfl) ?_ | (refine qx (call_L (N' := [0]) (L := []) (k1) rfl (.cons (.nm rfl) (.cons (.nm rfl) (.nil))) (by decide) (by decide) (by decide) (by simp only [go_sem, Nat.reduceEqDiff, reduceIte, Nat.reduceAdd, Nat.reduceMul, Nat.reduceSub, Nat.reduceLT, Nat.reduceLeDiff, Nat.reduceBEq, g0, g1, g2, g3, g4]; first | done | rfl) (.inl rfl) rfl (by decide)) (by simp only [go_sem, Nat.reduceEqDiff, reduceIte, Nat.reduceAdd, Nat.reduceMul, Nat.reduceSub, Nat.reduceLT, Nat.reduceLeDiff, Nat.reduceBEq, g0, g1, g2, g3, g4]; first | done | rfl) rfl (by simp only [go_sem, Nat.reduceLT]) ?_; simp only [go_sem, Nat.reduceEqDiff, reduceIte, Nat.reduceAdd, Nat.reduceMul, Nat.reduceSub, Nat.reduceLT, Nat.reduceLeDiff, Nat.reduceBEq, g0, g1, g2, g3, g4]) | (refine qx (call_L (N' := [0]) (L := []) (kn) rfl (.cons (.nm rfl) (.cons (.nm rfl) (.nil))) (by decide) (by decide) (by decide) (by simp only [go_sem, Nat.reduceEqDiff, reduceIte, Nat.reduceAdd, Nat.reduceMul, Nat.reduceSub, Nat.reduceLT, Nat.reduceLeDiff, Nat.reduceBEq, g0, g1, g2, g3, g4]; first | done | rfl) (.inl rfl) rfl (by decide)) (by simp only [go_sem, Nat.reduceEqDiff, reduceIte, Nat.reduceAdd, Nat.reduceMul, Nat.reduceSub, Nat.reduceLT, Nat.reduceLeDiff, Nat.reduceBEq, g0, g1, g2, g3, g4]; first | done | rfl) rfl (by simp only [go_sem, Nat.reduceLT]) ?_; simp only [go_sem, Nat.reduceEqDiff, reduceIte, Nat.reduceAdd, Nat.reduceMul, Nat.reduceSub, Nat.reduceLT, Nat.reduceLeDiff, Nat.reduceBEq, g0, g1, g2, g3, g4]) | (refine qx (call_L (N' := [0]) (L := []) (k2) rfl (.cons (.nm rfl) (.cons (.nm rfl) (.nil))) (by decide) (by decide) (by decide) (by simp only [go_sem, Nat.reduceEqDiff, reduceIte, Nat.reduceAdd, Nat.reduceMul, Nat.reduceSub, Nat.reduceLT, Nat.reduceLeDiff, Nat.reduceBEq, g0, g1, g2, g3, g4]; first | done | rfl) (.inl rfl) rfl (by decide)) (by simp only [go_sem, Nat.reduceEqDiff, reduceIte, Nat.reduceAdd, Nat.reduceMul, Nat.reduceSub, Nat.reduceLT, Nat.reduceLeDiff, Nat.reduceBEq, g0, g1, g2, g3, g4]; first | done | rfl) rfl (by simp only [go_sem, Nat.reduceLT]) ?_; simp only [go_sem, Nat.reduceEqDiff, reduceIte, Nat.reduceAdd, Nat.reduceMul, Nat.reduceSub, Nat.reduceLT, Nat.reduceLeDiff, Nat.reduceBEq, g0, g1, g2, g3, g4]))
    exact Aw_ret (retL (M := [0]) (.inl rfl) (by simp only [go_sem, Nat.reduceEqDiff, reduceIte, Nat.reduceAdd, Nat.reduceMul, Nat.reduceSub, Nat.reduceLT, Nat.reduceLeDiff, Nat.reduceBEq]; first | done | rfl) rfl rfl (by rfl) (by simp only [go_sem, Nat.reduceEqDiff, reduceIte, Nat.reduceAdd, Nat.reduceMul, Nat.reduceSub, Nat.reduceLT, Nat.reduceLeDiff, Nat.reduceBEq]; first | done | rfl | (and_intros <;> rfl)) (by decide) (by intro m hm; first | omega | (rcases m with _ | _ | _ | _ | _ | _ | m <;> first | exact ⟨by decide, rfl⟩ | omega)))
  · rw [hv] at k1
    have g0 : decide (((5 : Nat) : Int) = 0) = false := rfl
    have g1 : decide (((5 : Nat) : Int) = 1) = false := rfl
    have g2 : decide (((5 : Nat) : Int) = 2) = false := rfl
    have g3 : decide (((5 : Nat) : Int) = 3) = false := rfl
    have g4 : decide (((5 : Nat) : Int) = 4) = false := rfl
    have g5 : decide (((5 : Nat) : Int) = 5) = true := rfl
    simp only [hv]
    rw [if_neg (show ¬ 5 < 5 by decide), if_pos trivial]
    refine AC_of Try.func153 rfl Try.ntmps153 Try.results153 (by kernel_rfl) rfl ?_
    simp only [List.zipIdx, List.map, Nat.zero_add, Nat.reduceAdd]
    repeat (first | apply Aw_seq | apply Aw_block | apply Aw_skip | apply Aw_exit | refine Aw_condt rfl ?_ | refine Aw_condf rfl ?_ | (refine qr ?_; simp only [go_sem, Nat.reduceEqDiff, reduceIte, Nat.reduceAdd, Nat.reduceMul, Nat.reduceSub, Nat.reduceLT, Nat.reduceLeDiff, Nat.reduceBEq, g0, g1, g2, g3, g4, g5]) | (refine qd (by kernel_rfl) (by kernel_rfl) ?_; simp only [go_sem, Nat.reduceEqDiff, reduceIte, Nat.reduceAdd, Nat.reduceMul, Nat.reduceSub, Nat.reduceLT, Nat.reduceLeDiff, Nat.reduceBEq, g0, g1, g2, g3, g4, g5]) | refine dk (by kernel_rfl) ?_ | (refine qx (call_L (N' := [0]) (L := []) (k1) rfl (.cons (.nm rfl) (.cons (.nm rfl) (.nil))) (by decide) (by decide) (by decide) (by simp only [go_sem, Nat.reduceEqDiff, reduceIte, Nat.reduceAdd, Nat.reduceMul, Nat.reduceSub, Nat.reduceLT, Nat.reduceLeDiff, Nat.reduceBEq, g0, g1, g2, g3, g4, g5]; first | done | rfl) (.inl rfl) rfl (by decide)) (by simp only [go_sem, Nat.reduceEqDiff, reduceIte, Nat.reduceAdd, Nat.reduceMul, Nat.reduceSub, Nat.reduceLT, Nat.reduceLeDiff, Nat.reduceBEq, g0, g1, g2, g3, g4, g5]; first | done | rfl) rfl (by simp only [go_sem, Nat.reduceLT]) ?_; simp only [go_sem, Nat.reduceEqDiff, reduceIte, Nat.reduceAdd, Nat.reduceMul, Nat.reduceSub, Nat.reduceLT, Nat.reduceLeDiff, Nat.reduceBEq, g0, g1, g2, g3, g4, g5]) | (refine qx (call_L (N' := [0]) (L := []) (kn) rfl (.cons (.nm rfl) (.cons (.nm rfl) (.nil))) (by decide) (by decide) (by decide) (by simp only [go_sem, Nat.reduceEqDiff, reduceIte, Nat.reduceAdd, Nat.reduceMul, Nat.reduceSub, Nat.reduceLT, Nat.reduceLeDiff, Nat.reduceBEq, g0, g1, g2, g3, g4, g5]; first | done | rfl) (.inl rfl) rfl (by decide)) (by simp only [go_sem, Nat.reduceEqDiff, reduceIte, Nat.reduceAdd, Nat.reduceMul, Nat.reduceSub, Nat.reduceLT, Nat.reduceLeDiff, Nat.reduceBEq, g0, g1, g2, g3, g4, g5]; first | done | rfl) rfl (by simp only [go_sem, Nat.reduceLT]) ?_; simp only [go_sem, Nat.reduceEqDiff, reduceIte, Nat.reduceAdd, Nat.reduceMul, Nat.reduceSub, Nat.reduceLT, Nat.reduceLeDiff, Nat.reduceBEq, g0, g1, g2, g3, g4, g5]))
    exact Aw_ret (retL (M := [0]) (.inl rfl) (by simp only [go_sem, Nat.reduceEqDiff, reduceIte, Nat.reduceAdd, Nat.reduceMul, Nat.reduceSub, Nat.reduceLT, Nat.reduceLeDiff, Nat.reduceBEq]; first | done | rfl) rfl rfl (by rfl) (by simp only [go_sem, Nat.reduceEqDiff, reduceIte, Nat.reduceAdd, Nat.reduceMul, Nat.reduceSub, Nat.reduceLT, Nat.reduceLeDiff, Nat.reduceBEq]; first | done | rfl | (and_intros <;> rfl)) (by decide) (by intro m hm; first | omega | (rcases m with _ | _ | _ | _ | _ | _ | m <;> first | exact ⟨by decide, rfl⟩ | omega)))
  · rw [hv] at k1
    have g0 : decide (((6 : Nat) : Int) = 0) = false := rfl
    have g1 : decide (((6 : Nat) : Int) = 1) = false := rfl
    have g2 : decide (((6 : Nat) : Int) = 2) = false := rfl
    have g3 : decide (((6 : Nat) : Int) = 3) = false := rfl
    have g4 : decide (((6 : Nat) : Int) = 4) = false := rfl
    have g5 : decide (((6 : Nat) : Int) = 5) = false := rfl
    have g6 : decide (((6 : Nat) : Int) = 6) = true := rfl
    simp only [hv]
    rw [if_neg (show ¬ 6 < 5 by decide), if_neg (show ¬ (6 = 5) by decide), if_pos trivial]
    refine AC_of Try.func153 rfl Try.ntmps153 Try.results153 (by kernel_rfl) rfl ?_
    simp only [List.zipIdx, List.map, Nat.zero_add, Nat.reduceAdd]
    repeat (first | apply Aw_seq | apply Aw_block | apply Aw_skip | apply Aw_exit | refine Aw_condt rfl ?_ | refine Aw_condf rfl ?_ | (refine qr ?_; simp only [go_sem, Nat.reduceEqDiff, reduceIte, Nat.reduceAdd, Nat.reduceMul, Nat.reduceSub, Nat.reduceLT, Nat.reduceLeDiff, Nat.reduceBEq, g0, g1, g2, g3, g4, g5, g6]) | (refine qd (by kernel_rfl) (by kernel_rfl) ?_; simp only [go_sem, Nat.reduceEqDiff, reduceIte, Nat.reduceAdd, Nat.reduceMul, Nat.reduceSub, Nat.reduceLT, Nat.reduceLeDiff, Nat.reduceBEq, g0, g1, g2, g3, g4, g5, g6]) | refine dk (by kernel_rfl) ?_ | (refine qx (call_L (N' := [0]) (L := []) (k1) rfl (.cons (.nm rfl) (.cons (.nm rfl) (.nil))) (by decide) (by decide) (by decide) (by simp only [go_sem, Nat.reduceEqDiff, reduceIte, Nat.reduceAdd, Nat.reduceMul, Nat.reduceSub, Nat.reduceLT, Nat.reduceLeDiff, Nat.reduceBEq, g0, g1, g2, g3, g4, g5, g6]; first | done | rfl) (.inl rfl) rfl (by decide)) (by simp only [go_sem, Nat.reduceEqDiff, reduceIte, Nat.reduceAdd, Nat.reduceMul, Nat.reduceSub, Nat.reduceLT, Nat.reduceLeDiff, Nat.reduceBEq, g0, g1, g2, g3, g4, g5, g6]; first | done | rfl) rfl (by simp only [go_sem, Nat.reduceLT]) ?_; simp only [go_sem, Nat.reduceEqDiff, reduceIte, Nat.reduceAdd, Nat.reduceMul, Nat.reduceSub, Nat.reduceLT, Nat.reduceLeDiff, Nat.reduceBEq, g0, g1, g2, g3, g4, g5, g6]))
    exact Aw_ret (retL (M := [0]) (.inl rfl) (by simp only [go_sem, Nat.reduceEqDiff, reduceIte, Nat.reduceAdd, Nat.reduceMul, Nat.reduceSub, Nat.reduceLT, Nat.reduceLeDiff, Nat.reduceBEq]; first | done | rfl) rfl rfl (by rfl) (by simp only [go_sem, Nat.reduceEqDiff, reduceIte, Nat.reduceAdd, Nat.reduceMul, Nat.reduceSub, Nat.reduceLT, Nat.reduceLeDiff, Nat.reduceBEq]; first | done | rfl | (and_intros <;> rfl)) (by decide) (by intro m hm; first | omega | (rcases m with _ | _ | _ | _ | _ | _ | m <;> first | exact ⟨by decide, rfl⟩ | omega)))
  · rw [hv] at k1
    have g0 : decide (((7 : Nat) : Int) = 0) = false := rfl
    have g1 : decide (((7 : Nat) : Int) = 1) = false := rfl
    have g2 : decide (((7 : Nat) : Int) = 2) = false := rfl
    have g3 : decide (((7 : Nat) : Int) = 3) = false := rfl
    have g4 : decide (((7 : Nat) : Int) = 4) = false := rfl
    have g5 : decide (((7 : Nat) : Int) = 5) = false := rfl
    have g6 : decide (((7 : Nat) : Int) = 6) = false := rfl
    have g7 : decide (((7 : Nat) : Int) = 7) = true := rfl
    simp only [hv]
    rw [if_neg (show ¬ 7 < 5 by decide), if_neg (show ¬ (7 = 5) by decide), if_neg (show ¬ (7 = 6) by decide), if_pos trivial]
    refine AC_of Try.func153 rfl Try.ntmps153 Try.results153 (by kernel_rfl) rfl ?_
    simp only [List.zipIdx, List.map, Nat.zero_add, Nat.reduceAdd]
    repeat (first | apply Aw_seq | apply Aw_block | apply Aw_skip | apply Aw_exit | refine Aw_condt rfl ?_ | refine Aw_condf rfl ?_ | (refine qr ?_; simp only [go_sem, Nat.reduceEqDiff, reduceIte, Nat.reduceAdd, Nat.reduceMul, Nat.reduceSub, Nat.reduceLT, Nat.reduceLeDiff, Nat.reduceBEq, g0, g1, g2, g3, g4, g5, g6, g7]) | (refine qd (by kernel_rfl) (by kernel_rfl) ?_; simp only [go_sem, Nat.reduceEqDiff, reduceIte, Nat.reduceAdd, Nat.reduceMul, Nat.reduceSub, Nat.reduceLT, Nat.reduceLeDiff, Nat.reduceBEq, g0, g1, g2, g3, g4, g5, g6, g7]) | refine dk (by kernel_rfl) ?_ | (refine qx (call_L (N' := [0]) (L := []) (k1) rfl (.cons (.nm rfl) (.cons (.nm rfl) (.nil))) (by decide) (by decide) (by decide) (by simp only [go_sem, Nat.reduceEqDiff, reduceIte, Nat.reduceAdd, Nat.reduceMul, Nat.reduceSub, Nat.reduceLT, Nat.reduceLeDiff, Nat.reduceBEq, g0, g1, g2, g3, g4, g5, g6, g7]; first | done | rfl) (.inl rfl) rfl (by decide)) (by simp only [go_sem, Nat.reduceEqDiff, reduceIte, Nat.reduceAdd, Nat.reduceMul, Nat.reduceSub, Nat.reduceLT, Nat.reduceLeDiff, Nat.reduceBEq, g0, g1, g2, g3, g4, g5, g6, g7]; first | done | rfl) rfl (by simp only [go_sem, Nat.reduceLT]) ?_; simp only [go_sem, Nat.reduceEqDiff, reduceIte, Nat.reduceAdd, Nat.reduceMul, Nat.reduceSub, Nat.reduceLT, Nat.reduceLeDiff, Nat.reduceBEq, g0, g1, g2, g3, g4, g5, g6, g7]) | (refine qx (call_L (N' := [0]) (L := []) (k3) rfl (.cons (.nm rfl) (.cons (.nm rfl) (.nil))) (by decide) (by decide) (by decide) (by simp only [go_sem, Nat.reduceEqDiff, reduceIte, Nat.reduceAdd, Nat.reduceMul, Nat.reduceSub, Nat.reduceLT, Nat.reduceLeDiff, Nat.reduceBEq, g0, g1, g2, g3, g4, g5, g6, g7]; first | done | rfl) (.inl rfl) rfl (by decide)) (by simp only [go_sem, Nat.reduceEqDiff, reduceIte, Nat.reduceAdd, Nat.reduceMul, Nat.reduceSub, Nat.reduceLT, Nat.reduceLeDiff, Nat.reduceBEq, g0, g1, g2, g3, g4, g5, g6, g7]; first | done | rfl) rfl (by simp only [go_sem, Nat.reduceLT]) ?_; simp only [go_sem, Nat.reduceEqDiff, reduceIte, Nat.reduceAdd, Nat.reduceMul, Nat.reduceSub, Nat.reduceLT, Nat.reduceLeDiff, Nat.reduceBEq, g0, g1, g2, g3, g4, g5, g6, g7]))
    exact Aw_ret (retL (M := [0]) (.inl rfl) (by simp only [go_sem, Nat.reduceEqDiff, reduceIte, Nat.reduceAdd, Nat.reduceMul, Nat.reduceSub, Nat.reduceLT, Nat.reduceLeDiff, Nat.reduceBEq]; first | done | rfl) rfl rfl (by rfl) (by simp only [go_sem, Nat.reduceEqDiff, reduceIte, Nat.reduceAdd, Nat.reduceMul, Nat.reduceSub, Nat.reduceLT, Nat.reduceLeDiff, Nat.reduceBEq]; first | done | rfl | (and_intros <;> rfl)) (by decide) (by intro m hm; first | omega | (rcases m with _ | _ | _ | _ | _ | _ | m <;> first | exact ⟨by decide, rfl⟩ | omega)))
  · rw [hv] at k1
    have g0 : decide (((8 : Nat) : Int) = 0) = false := rfl
    have g1 : decide (((8 : Nat) : Int) = 1) = false := rfl
    have g2 : decide (((8 : Nat) : Int) = 2) = false := rfl
    have g3 : decide (((8 : Nat) : Int) = 3) = false := rfl
    have g4 : decide (((8 : Nat) : Int) = 4) = false := rfl
    have g5 : decide (((8 : Nat) : Int) = 5) = false := rfl
    have g6 : decide (((8 : Nat) : Int) = 6) = false := rfl
    have g7 : decide (((8 : Nat) : Int) = 7) = false := rfl
    have g8 : decide (((8 : Nat) : Int) = 8) = true := rfl
    simp only [hv]
    rw [if_neg (show ¬ 8 < 5 by decide), if_neg (show ¬ (8 = 5) by decide), if_neg (show ¬ (8 = 6) by decide), if_neg (show ¬ (8 = 7) by decide), if_pos trivial]
    refine AC_of Try.func153 rfl Try.ntmps153 Try.results153 (by kernel_rfl) rfl ?_
    simp only [List.zipIdx, List.map, Nat.zero_add, Nat.reduceAdd]
    repeat (first | apply Aw_seq | apply Aw_block | apply Aw_skip | apply Aw_exit | refine Aw_condt rfl ?_ | refine Aw_condf rfl ?_ | (refine qr ?_; simp only [go_sem, Nat.reduceEqDiff, reduceIte, Nat.reduceAdd, Nat.reduceMul, Nat.reduceSub, Nat.reduceLT, Nat.reduceLeDiff, Nat.reduceBEq, g0, g1, g2, g3, g4, g5, g6, g7, g8]) | (refine qd (by kernel_rfl) (by kernel_rfl) ?_; simp only [go_sem, Nat.reduceEqDiff, reduceIte, Nat.reduceAdd, Nat.reduceMul, Nat.reduceSub, Nat.reduceLT, Nat.reduceLeDiff, Nat.reduceBEq, g0, g1, g2, g3, g4, g5, g6, g7, g8]) | refine dk (by kernel_rfl) ?_ | (refine qx (call_L (N' := [0]) (L := []) (k1) rfl (.cons (.nm rfl) (.cons (.nm rfl) (.nil))) (by decide) (by decide) (by decide) (by simp only [go_sem, Nat.reduceEqDiff, reduceIte, Nat.reduceAdd, Nat.reduceMul, Nat.reduceSub, Nat.reduceLT, Nat.reduceLeDiff, Nat.reduceBEq, g0, g1, g2, g3, g4, g5, g6, g7, g8]; first | done | rfl) (.inl rfl) rfl (by decide)) (by simp only [go_sem, Nat.reduceEqDiff, reduceIte, Nat.reduceAdd, Nat.reduceMul, Nat.reduceSub, Nat.reduceLT, Nat.reduceLeDiff, Nat.reduceBEq, g0, g1, g2, g3, g4, g5, g6, g7, g8]; first | done | rfl) rfl (by simp only [go_sem, Nat.reduceLT]) ?_; simp only [go_sem, Nat.reduceEqDiff, reduceIte, Nat.reduceAdd, Nat.reduceMul, Nat.reduceSub, Nat.reduceLT, Nat.reduceLeDiff, Nat.reduceBEq, g0, g1, g2, g3, g4, g5, g6, g7, g8]))
    exact Aw_ret (retL (M := [0]) (.inl rfl) (by simp only [go_sem, Nat.reduceEqDiff, reduceIte, Nat.reduceAdd, Nat.reduceMul, Nat.reduceSub, Nat.reduceLT, Nat.reduceLeDiff, Nat.reduceBEq]; first | done | rfl) rfl rfl (by rfl) (by simp only [go_sem, Nat.reduceEqDiff, reduceIte, Nat.reduceAdd, Nat.reduceMul, Nat.reduceSub, Nat.reduceLT, Nat.reduceLeDiff, Nat.reduceBEq]; first | done | rfl | (and_intros <;> rfl)) (by decide) (by intro m hm; first | omega | (rcases m with _ | _ | _ | _ | _ | _ | m <;> first | exact ⟨by decide, rfl⟩ | omega)))
  · rw [hv] at k1
    have g0 : decide (((9 : Nat) : Int) = 0) = false := rfl
    have g1 : decide (((9 : Nat) : Int) = 1) = false := rfl
    have g2 : decide (((9 : Nat) : Int) = 2) = false := rfl
    have g3 : decide (((9 : Nat) : Int) = 3) = false := rfl
    have g4 : decide (((9 : Nat) : Int) = 4) = false := rfl
    have g5 : decide (((9 : Nat) : Int) = 5) = false := rfl
    have g6 : decide (((9 : Nat) : Int) = 6) = false := rfl
    have g7 : decide (((9 : Nat) : Int) = 7) = false := rfl
    have g8 : decide (((9 : Nat) : Int) = 8) = false := rfl
    simp only [hv]
    rw [if_neg (show ¬ 9 < 5 by decide), if_neg (show ¬ (9 = 5) by decide), if_neg (show ¬ (9 = 6) by decide), if_neg (show ¬ (9 = 7) by decide), if_neg (show ¬ (9 = 8) by decide)]
    refine AC_of Try.func153 rfl Try.ntmps153 Try.results153 (by kernel_rfl) rfl ?_
    simp only [List.zipIdx, List.map, Nat.zero_add, Nat.reduceAdd]
    repeat (first | apply Aw_seq | apply Aw_block | apply Aw_skip | apply Aw_exit | refine Aw_condt rfl ?_ | refine Aw_condf rfl ?_ | (refine qr ?_; simp only [go_sem, Nat.reduceEqDiff, reduceIte, Nat.reduceAdd, Nat.reduceMul, Nat.reduceSub, Nat.reduceLT, Nat.reduceLeDiff, Nat.reduceBEq, g0, g1, g2, g3, g4, g5, g6, g7, g8]) | (refine qd (by kernel_rfl) (by kernel_rfl) ?_; simp only [go_sem, Nat.reduceEqDiff, reduceIte, Nat.reduceAdd, Nat.reduceMul, Nat.reduceSub, Nat.reduceLT, Nat.reduceLeDiff, Nat.reduceBEq, g0, g1, g2, g3, g4, g5, g6, g7, g8]) | refine dk (by kernel_rfl) ?_ | (refine qx (call_L (N' := [0]) (L := []) (k1) rfl (.cons (.nm rfl) (.cons (.nm rfl) (.nil))) (by decide) (by decide) (by decide) (by simp only [go_sem, Nat.reduceEqDiff, reduceIte, Nat.reduceAdd, Nat.reduceMul, Nat.reduceSub, Nat.reduceLT, Nat.reduceLeDiff, Nat.reduceBEq, g0, g1, g2, g3, g4, g5, g6, g7, g8]; first | done | rfl) (.inl rfl) rfl (by decide)) (by simp only [go_sem, Nat.reduceEqDiff, reduceIte, Nat.reduceAdd, Nat.reduceMul, Nat.reduceSub, Nat.reduceLT, Nat.reduceLeDiff, Nat.reduceBEq, g0, g1, g2, g3, g4, g5, g6, g7, g8]; first | done | rfl) rfl (by simp only [go_sem, Nat.reduceLT]) ?_; simp only [go_sem, Nat.reduceEqDiff, reduceIte, Nat.reduceAdd, Nat.reduceMul, Nat.reduceSub, Nat.reduceLT, Nat.reduceLeDiff, Nat.reduceBEq, g0, g1, g2, g3, g4, g5, g6, g7, g8]) | (refine qx (call_L (N' := [0]) (L := []) (k4) rfl (.cons (.nm rfl) (.cons (.nm rfl) (.nil))) (by decide) (by decide) (by decide) (by simp only [go_sem, Nat.reduceEqDiff, reduceIte, Nat.reduceAdd, Nat.reduceMul, Nat.reduceSub, Nat.reduceLT, Nat.reduceLeDiff, Nat.reduceBEq, g0, g1, g2, g3, g4, g5, g6, g7, g8]; first | done | rfl) (.inl rfl) rfl (by decide)) (by simp only [go_sem, Nat.reduceEqDiff, reduceIte, Nat.reduceAdd, Nat.reduceMul, Nat.reduceSub, Nat.reduceLT, Nat.reduceLeDiff, Nat.reduceBEq, g0, g1, g2, g3, g4, g5, g6, g7, g8]; first | done | rfl) rfl (by simp only [go_sem, Nat.reduceLT]) ?_; simp only [go_sem, Nat.reduceEqDiff, reduceIte, Nat.reduceAdd, Nat.reduceMul, Nat.reduceSub, Nat.reduceLT, Nat.reduceLeDiff, Nat.reduceBEq, g0, g1, g2, g3, g4, g5, g6, g7, g8]))
    exact Aw_ret (retL (M := [0]) (.inl rfl) (by simp only [go_sem, Nat.reduceEqDiff, reduceIte, Nat.reduceAdd, Nat.reduceMul, Nat.reduceSub, Nat.reduceLT, Nat.reduceLeDiff, Nat.reduceBEq]; first | done | rfl) rfl rfl (by rfl) (by simp only [go_sem, Nat.reduceEqDiff, reduceIte, Nat.reduceAdd, Nat.reduceMul, Nat.reduceSub, Nat.reduceLT, Nat.reduceLeDiff, Nat.reduceBEq]; first | done | rfl | (and_intros <;> rfl)) (by decide) (by intro m hm; first | omega | (rcases m with _ | _ | _ | _ | _ | _ | m <;> first | exact ⟨by decide, rfl⟩ | omega)))
noncomputable def deedsL (b : List Int) (l : List ByteArray) : Nat → List Deed → Nat → List Deed × Nat
  | 0, o, p => (o, p)
  | n + 1, o, p => deedsL b l n (o ++ [(deedV b p l).1]) (deedV b p l).2
theorem deedsL_fin {b : List Int} (hb : byteL b) {l : List ByteArray} (hl : l.length ≤ 1000) (hs : ∀ s ∈ l, s.size ≤ 5) : ∀ (n : Nat) (o : List Deed) (p : Nat), p + 9 * n ≤ 500000 → o.length + n ≤ 1000 → (∀ d ∈ o, d.key.size ≤ 5) → (deedsL b l n o p).1.length = o.length + n ∧ (∀ d ∈ (deedsL b l n o p).1, d.key.size ≤ 5) ∧ (deedsL b l n o p).2 ≤ p + 9 * n
  | 0, o, p, _, _, h => ⟨by simp [deedsL], h, by simp [deedsL]⟩
  | n + 1, o, p, h1, h2, h3 => by
    obtain ⟨a1, a2⟩ := deedV_fin hb (p := p) (l := l) (by omega) hl hs
    obtain ⟨c1, c2, c3⟩ := deedsL_fin hb hl hs n (o ++ [(deedV b p l).1]) (deedV b p l).2 (by omega) (by simp; omega) (fun d hd => by
      rcases List.mem_append.1 hd with h | h
      · exact h3 d h
      · obtain rfl : d = (deedV b p l).1 := by simpa using h
        exact a1)
    simp only [List.length_append, List.length_cons, List.length_nil] at c1
    exact ⟨by simp only [deedsL]; omega, by simp only [deedsL]; exact c2, by simp only [deedsL]; omega⟩
def xTxt : ByteArray := bs [120]
noncomputable def deedsV (b : List Int) (p : Nat) (most : Nat) : List Deed × Nat :=
  let K := keysV b p 5
  let n := pickV b K.2 ((most + 1 : Nat) : Int)
  let r := deedsL b K.1 n [] (K.2 + 1)
  if pickV b r.2 24 = 0 then (r.1 ++ [⟨IntKind.i64.wrap (((pickV b (r.2 + 1) 9 : Nat) : Int) - 1), xTxt, -1⟩], r.2 + 2) else (r.1, r.2 + 1)
theorem deedsV_fin {b : List Int} (hb : byteL b) {p most : Nat} (hp : p ≤ 100000) (hm : most ≤ 100) : (deedsV b p most).1.length ≤ most + 1 ∧ (∀ d ∈ (deedsV b p most).1, d.key.size ≤ 5) ∧ (deedsV b p most).2 ≤ p + 2000 := by
  obtain ⟨a1, a2, a3⟩ := keysV_fin hb (p := p) (most := 5) (by omega) (by omega)
  have h1 := pickV_lt (n := ((most + 1 : Nat) : Int)) hb (show (keysV b p 5).2 ≤ 1000000 by omega) (by omega) (by omega)
  obtain ⟨c1, c2, c3⟩ := deedsL_fin hb (l := (keysV b p 5).1) (by omega) a2 (pickV b (keysV b p 5).2 ((most + 1 : Nat) : Int)) [] ((keysV b p 5).2 + 1) (by omega) (by show 0 + _ ≤ _; omega) (by simp)
  rw [show ([] : List Deed).length = 0 from rfl] at c1
  unfold deedsV
  dsimp only
  split
  · refine ⟨by simp only [List.length_append, List.length_cons, List.length_nil]; omega, fun d hd => ?_, by dsimp only; omega⟩
    rcases List.mem_append.1 hd with h | h
    · exact c2 d h
    · obtain rfl := by simpa using h
      show xTxt.size ≤ 5
      decide
  · exact ⟨by dsimp only; omega, c2, by dsimp only; omega⟩
end Go.Proofs.Ytcbhgglpgphimaa.Ab
namespace Go.Proofs.Ytcbhgglpgphimaa.Ab
set_option linter.deprecated false
set_option linter.unusedVariables false
set_option linter.unusedSimpArgs false
open Go Go.Proofs
set_option maxRecDepth 10000
set_option maxHeartbeats 8000000
set_option linter.unusedSimpArgs false
set_option linter.unusedVariables false
def dsRow (ds : List Deed) : Obj := dRow 160 3 (ds.map deedD)
@[go_sem] theorem r_dsRow (ds : List Deed) : dsRow ds = dRow 160 3 (ds.map deedD) := rfl
structure DsI (b : List Int) (l : List ByteArray) (R : List Deed × Nat) where
  n : Nat
  o : List Deed
  p : Nat
  hn : o.length + n ≤ 1000
  hp : p + 9 * n ≤ 500000
  h : deedsL b l n o p = R
theorem l71Deeds_ac {b : List Int} {p most : Nat} (hb : byteL b) (hp : p ≤ 100000) (hm : most ≤ 100) : AC Try.prog 123 [.c (.ph 0 0 0), iT most] (hpL [some (rdO b p)]) 1 ⟨.t (.c (.h 1)), hpL [some (rdO b (deedsV b p most).2), some (dsRow (deedsV b p most).1)], 2⟩ := by
  refine AC_of Try.func123 rfl Try.ntmps123 Try.results123 (by kernel_rfl) rfl ?_
  simp only [List.zipIdx, List.map, Nat.zero_add, Nat.reduceAdd]
  have w0 : IntKind.i64.wrap ((most : Int) + 1) = ((most + 1 : Nat) : Int) := wn (by omega) (by omega)
  obtain ⟨a1, a2, a3⟩ := keysV_fin hb (p := p) (most := 5) (by omega) (by omega)
  have kk := l71Keys_ac (most := 5) hb (show p ≤ 600000 by omega) (by omega)
  rw [show ((5 : Nat) : Int) = 5 from rfl] at kk
  have k := pickV_ac (n := ((most + 1 : Nat) : Int)) hb (show (keysV b p 5).2 ≤ 1000000 by omega) (by omega)
  have h6 := pickV_lt (n := ((most + 1 : Nat) : Int)) hb (show (keysV b p 5).2 ≤ 1000000 by omega) (by omega) (by omega)
  obtain ⟨R, hR⟩ : ∃ R, R = deedsL b (keysV b p 5).1 (pickV b (keysV b p 5).2 ((most + 1 : Nat) : Int)) [] ((keysV b p 5).2 + 1) := ⟨_, rfl⟩
  obtain ⟨c1, c2, c3⟩ := deedsL_fin hb (l := (keysV b p 5).1) (by omega) a2 (pickV b (keysV b p 5).2 ((most + 1 : Nat) : Int)) [] ((keysV b p 5).2 + 1) (by omega) (by show 0 + _ ≤ _; omega) (by simp)
  rw [← hR] at c1 c2 c3
  rw [show ([] : List Deed).length = 0 from rfl] at c1
  have hV : deedsV b p most = if pickV b R.2 24 = 0 then (R.1 ++ [⟨IntKind.i64.wrap (((pickV b (R.2 + 1) 9 : Nat) : Int) - 1), xTxt, -1⟩], R.2 + 2) else (R.1, R.2 + 1) := by rw [hR]; rfl
  rw [hV]
  repeat (first | apply Aw_seq | apply Aw_block | apply Aw_skip | apply Aw_exit | refine Aw_condt rfl ?_ | refine Aw_condf rfl ?_ | (refine qr ?_; simp only [go_sem, Nat.reduceEqDiff, reduceIte, Nat.reduceAdd, Nat.reduceMul, Nat.reduceSub, Nat.reduceLT, Nat.reduceLeDiff, Nat.reduceBEq, w0]) | (refine qd (by kernel_rfl) (by kernel_rfl) ?_; simp only [go_sem, Nat.reduceEqDiff, reduceIte, Nat.reduceAdd, Nat.reduceMul, Nat.reduceSub, Nat.reduceLT, Nat.reduceLeDiff, Nat.reduceBEq, w0]) | refine dk (by kernel_rfl) ?_ | (refine qx (call_L (N' := [0]) (L := []) (kk) rfl (.cons (.nm rfl) (.cons (.nm rfl) (.nil))) (by decide) (by decide) (by decide) (by simp only [go_sem, Nat.reduceEqDiff, reduceIte, Nat.reduceAdd, Nat.reduceMul, Nat.reduceSub, Nat.reduceLT, Nat.reduceLeDiff, Nat.reduceBEq, w0]; first | done | rfl) (.inl rfl) rfl (by decide)) (by simp only [go_sem, Nat.reduceEqDiff, reduceIte, Nat.reduceAdd, Nat.reduceMul, Nat.reduceSub, Nat.reduceLT, Nat.reduceLeDiff, Nat.reduceBEq, w0]; first | done | rfl) rfl (by simp only [go_sem, Nat.reduceLT]) ?_; simp only [go_sem, Nat.reduceEqDiff, reduceIte, Nat.reduceAdd, Nat.reduceMul, Nat.reduceSub, Nat.reduceLT, Nat.reduceLeDiff, Nat.reduceBEq, w0]) | (refine qx (call_L (N' := [0]) (L := []) (k) rfl (.cons (.nm rfl) (.cons (.nm rfl) (.nil))) (by decide) (by decide) (by decide) (by simp only [go_sem, Nat.reduceEqDiff, reduceIte, Nat.reduceAdd, Nat.reduceMul, Nat.reduceSub, Nat.reduceLT, Nat.reduceLeDiff, Nat.reduceBEq, w0]; first | done | rfl) (.inl rfl) rfl (by decide)) (by simp only [go_sem, Nat.reduceEqDiff, reduceIte, Nat.reduceAdd, Nat.reduceMul, Nat.reduceSub, Nat.reduceLT, Nat.reduceLeDiff, Nat.reduceBEq, w0]; first | done | rfl) rfl (by simp only [go_sem, Nat.reduceLT]) ?_; simp only [go_sem, Nat.reduceEqDiff, reduceIte, Nat.reduceAdd, Nat.reduceMul, Nat.reduceSub, Nat.reduceLT, Nat.reduceLeDiff, Nat.reduceBEq, w0]))
  refine Aw.rw (rwL (l' := [(7, .t (iT (pickV b (keysV b p 5).2 ((most + 1 : Nat) : Int) : Nat))), (6, .t (.c (.h 1))), (5, .t (strsT (keysV b p 5).1)), (0, .t (.c (.ph 0 0 0)))]) (os := [some (rdO b ((keysV b p 5).2 + 1)), some (dsRow [])]) (M := [0, 4]) (n' := 2) (by repeat (first | exact trivial | refine ⟨rfl, rfl, ?_⟩)) (by rfl) (by simp only [go_sem, Nat.reduceEqDiff, reduceIte, Nat.reduceAdd, Nat.reduceMul, Nat.reduceSub, Nat.reduceLT, Nat.reduceLeDiff, Nat.reduceBEq, List.map_nil]; first | done | rfl) (by decide) (by intro m hm; first | omega | (rcases m with _ | _ | _ | _ | _ | _ | m <;> first | exact ⟨by decide, rfl⟩ | omega))) ?_
  refine Aw_loop_rw (ι := DsI b (keysV b p 5).1 R) (fun q => S [(7, .t (iT (q.n : Nat))), (6, .t (.c (.h 1))), (5, .t (strsT (keysV b p 5).1)), (0, .t (.c (.ph 0 0 0)))] (hpL [some (rdO b q.p), some (dsRow q.o)]) 2) (fun q => q.n) ⟨pickV b (keysV b p 5).2 ((most + 1 : Nat) : Int), [], (keysV b p 5).2 + 1, by show 0 + _ ≤ _; omega, by omega, hR.symm⟩ ?_
  rintro ⟨n, o, q, hn, hq, h⟩
  dsimp only
  rcases n with _ | n
  · have g1 : decide ((0 : Int) < ((0 : Nat) : Int)) = false := rfl
    have ho : R = (o, q) := h.symm
    rw [ho]
    rw [ho] at c1 c2 c3
    dsimp only at c1 c2 c3 ⊢
    have k24 := pickV_ac (n := 24) hb (show q ≤ 1000000 by omega) (by omega)
    by_cases c : pickV b q 24 = 0
    · have g2 : decide (((pickV b q 24 : Nat) : Int) = 0) = true := decide_eq_true (by omega)
      have k9 := pickV_ac (n := 9) hb (show q + 1 ≤ 1000000 by omega) (by omega)
      have hap : (o.length + 1) * 32 ≤ 140737488355328 := by omega
      rw [if_pos c]
      dsimp only
      repeat (first | apply Aw_seq | apply Aw_block | apply Aw_skip | apply Aw_exit | refine Aw_condt rfl ?_ | refine Aw_condf rfl ?_ | (refine qr ?_; simp only [go_sem, Nat.reduceEqDiff, reduceIte, Nat.reduceAdd, Nat.reduceMul, Nat.reduceSub, Nat.reduceLT, Nat.reduceLeDiff, Nat.reduceBEq, g1, g2, hap, xTxt]) | (refine qd (by kernel_rfl) (by kernel_rfl) ?_; simp only [go_sem, Nat.reduceEqDiff, reduceIte, Nat.reduceAdd, Nat.reduceMul, Nat.reduceSub, Nat.reduceLT, Nat.reduceLeDiff, Nat.reduceBEq, g1, g2, hap, xTxt]) | refine dk (by kernel_rfl) ?_ | (refine qx (call_L (N' := [0]) (L := []) (k24) rfl (.cons (.nm rfl) (.cons (.nm rfl) (.nil))) (by decide) (by decide) (by decide) (by simp only [go_sem, Nat.reduceEqDiff, reduceIte, Nat.reduceAdd, Nat.reduceMul, Nat.reduceSub, Nat.reduceLT, Nat.reduceLeDiff, Nat.reduceBEq, g1, g2, hap, xTxt]; first | done | rfl) (.inl rfl) rfl (by decide)) (by simp only [go_sem, Nat.reduceEqDiff, reduceIte, Nat.reduceAdd, Nat.reduceMul, Nat.reduceSub, Nat.reduceLT, Nat.reduceLeDiff, Nat.reduceBEq, g1, g2, hap, xTxt]; first | done | rfl) rfl (by simp only [go_sem, Nat.reduceLT]) ?_; simp only [go_sem, Nat.reduceEqDiff, reduceIte, Nat.reduceAdd, Nat.reduceMul, Nat.reduceSub, Nat.reduceLT, Nat.reduceLeDiff, Nat.reduceBEq, g1, g2, hap, xTxt]) | (refine qx (call_L (N' := [0]) (L := []) (k9) rfl (.cons (.nm rfl) (.cons (.nm rfl) (.nil))) (by decide) (by decide) (by decide) (by simp only [go_sem, Nat.reduceEqDiff, reduceIte, Nat.reduceAdd, Nat.reduceMul, Nat.reduceSub, Nat.reduceLT, Nat.reduceLeDiff, Nat.reduceBEq, g1, g2, hap, xTxt]; first | done | rfl) (.inl rfl) rfl (by decide)) (by simp only [go_sem, Nat.reduceEqDiff, reduceIte, Nat.reduceAdd, Nat.reduceMul, Nat.reduceSub, Nat.reduceLT, Nat.reduceLeDiff, Nat.reduceBEq, g1, g2, hap, xTxt]; first | done | rfl) rfl (by simp only [go_sem, Nat.reduceLT]) ?_; simp only [go_sem, Nat.reduceEqDiff, reduceIte, Nat.reduceAdd, Nat.reduceMul, Nat.reduceSub, Nat.reduceLT, Nat.reduceLeDiff, Nat.reduceBEq, g1, g2, hap, xTxt]))
      exact Aw_ret (retL (M := [0, 11]) (.inl rfl) (by simp only [go_sem, Nat.reduceEqDiff, reduceIte, Nat.reduceAdd, Nat.reduceMul, Nat.reduceSub, Nat.reduceLT, Nat.reduceLeDiff, Nat.reduceBEq]; first | done | rfl) rfl rfl (by rfl) (by simp only [go_sem, Nat.reduceEqDiff, reduceIte, Nat.reduceAdd, Nat.reduceMul, Nat.reduceSub, Nat.reduceLT, Nat.reduceLeDiff, Nat.reduceBEq, List.map_append, List.map_cons, List.map_nil, xTxt]; first | done | rfl | (and_intros <;> rfl)) (by decide) (by intro m hm; first | omega | (rcases m with _ | _ | _ | _ | _ | _ | m <;> first | exact ⟨by decide, rfl⟩ | omega)))
    · have g2 : decide (((pickV b q 24 : Nat) : Int) = 0) = false := decide_eq_false (by omega)
      rw [if_neg c]
      dsimp only
      repeat (first | apply Aw_seq | apply Aw_block | apply Aw_skip | apply Aw_exit | refine Aw_condt rfl ?_ | refine Aw_condf rfl ?_ | (refine qr ?_; simp only [go_sem, Nat.reduceEqDiff, reduceIte, Nat.reduceAdd, Nat.reduceMul, Nat.reduceSub, Nat.reduceLT, Nat.reduceLeDiff, Nat.reduceBEq, g1, g2]) | (refine qd (by kernel_rfl) (by kernel_rfl) ?_; simp only [go_sem, Nat.reduceEqDiff, reduceIte, Nat.reduceAdd, Nat.reduceMul, Nat.reduceSub, Nat.reduceLT, Nat.reduceLeDiff, Nat.reduceBEq, g1, g2]) | refine dk (by kernel_rfl) ?_ | (refine qx (call_L (N' := [0]) (L := []) (k24) rfl (.cons (.nm rfl) (.cons (.nm rfl) (.nil))) (by decide) (by decide) (by decide) (by simp only [go_sem, Nat.reduceEqDiff, reduceIte, Nat.reduceAdd, Nat.reduceMul, Nat.reduceSub, Nat.reduceLT, Nat.reduceLeDiff, Nat.reduceBEq, g1, g2]; first | done | rfl) (.inl rfl) rfl (by decide)) (by simp only [go_sem, Nat.reduceEqDiff, reduceIte, Nat.reduceAdd, Nat.reduceMul, Nat.reduceSub, Nat.reduceLT, Nat.reduceLeDiff, Nat.reduceBEq, g1, g2]; first | done | rfl) rfl (by simp only [go_sem, Nat.reduceLT]) ?_; simp only [go_sem, Nat.reduceEqDiff, reduceIte, Nat.reduceAdd, Nat.reduceMul, Nat.reduceSub, Nat.reduceLT, Nat.reduceLeDiff, Nat.reduceBEq, g1, g2]))
      exact Aw_ret (retL (M := [0, 1]) (.inl rfl) (by simp only [go_sem, Nat.reduceEqDiff, reduceIte, Nat.reduceAdd, Nat.reduceMul, Nat.reduceSub, Nat.reduceLT, Nat.reduceLeDiff, Nat.reduceBEq]; first | done | rfl) rfl rfl (by rfl) (by simp only [go_sem, Nat.reduceEqDiff, reduceIte, Nat.reduceAdd, Nat.reduceMul, Nat.reduceSub, Nat.reduceLT, Nat.reduceLeDiff, Nat.reduceBEq]; first | done | rfl | (and_intros <;> rfl)) (by decide) (by intro m hm; first | omega | (rcases m with _ | _ | _ | _ | _ | _ | m <;> first | exact ⟨by decide, rfl⟩ | omega)))
  · have g1 : decide ((0 : Int) < ((n + 1 : Nat) : Int)) = true := decide_eq_true (by omega)
    have w1 : IntKind.i64.wrap (((n + 1 : Nat) : Int) - 1) = (n : Int) := wn (by omega) (by omega)
    have kd := l71Deed_ac (l := (keysV b p 5).1) hb (show q ≤ 500000 by omega) (by omega) a2
    have hd := deedV_fin hb (p := q) (l := (keysV b p 5).1) (by omega) (by omega) a2
    have hap : (o.length + 1) * 32 ≤ 140737488355328 := by omega
    repeat (first | apply Aw_seq | apply Aw_block | apply Aw_skip | apply Aw_exit | refine Aw_condt rfl ?_ | refine Aw_condf rfl ?_ | (refine qr ?_; simp only [go_sem, Nat.reduceEqDiff, reduceIte, Nat.reduceAdd, Nat.reduceMul, Nat.reduceSub, Nat.reduceLT, Nat.reduceLeDiff, Nat.reduceBEq, g1, w1, hap]) | (refine qd (by kernel_rfl) (by kernel_rfl) ?_; simp only [go_sem, Nat.reduceEqDiff, reduceIte, Nat.reduceAdd, Nat.reduceMul, Nat.reduceSub, Nat.reduceLT, Nat.reduceLeDiff, Nat.reduceBEq, g1, w1, hap]) | refine dk (by kernel_rfl) ?_ | (refine qx (call_L (N' := [0]) (L := []) (kd) rfl (.cons (.nm rfl) (.cons (.nm rfl) (.nil))) (by decide) (by decide) (by decide) (by simp only [go_sem, Nat.reduceEqDiff, reduceIte, Nat.reduceAdd, Nat.reduceMul, Nat.reduceSub, Nat.reduceLT, Nat.reduceLeDiff, Nat.reduceBEq, g1, w1, hap]; first | done | rfl) (.inl rfl) rfl (by decide)) (by simp only [go_sem, Nat.reduceEqDiff, reduceIte, Nat.reduceAdd, Nat.reduceMul, Nat.reduceSub, Nat.reduceLT, Nat.reduceLeDiff, Nat.reduceBEq, g1, w1, hap]; first | done | rfl) rfl (by simp only [go_sem, Nat.reduceLT]) ?_; simp only [go_sem, Nat.reduceEqDiff, reduceIte, Nat.reduceAdd, Nat.reduceMul, Nat.reduceSub, Nat.reduceLT, Nat.reduceLeDiff, Nat.reduceBEq, g1, w1, hap]))
    refine ⟨⟨n, o ++ [(deedV b q (keysV b p 5).1).1], (deedV b q (keysV b p 5).1).2, by simp; omega, by omega, h⟩, [0, 8], ?_, rwL (by repeat (first | exact trivial | refine ⟨rfl, rfl, ?_⟩)) (by rfl) (by simp only [go_sem, Nat.reduceEqDiff, reduceIte, Nat.reduceAdd, Nat.reduceMul, Nat.reduceSub, Nat.reduceLT, Nat.reduceLeDiff, Nat.reduceBEq, List.map_append, List.map_cons, List.map_nil]; first | done | rfl) (by decide) (by intro m hm; first | omega | (rcases m with _ | _ | _ | _ | _ | _ | m <;> first | exact ⟨by decide, rfl⟩ | omega))⟩
    show n < n + 1; omega
theorem pastTo_key (s : Sto) (ds : List Deed) : ∀ i, i ≤ ds.length → ∀ e ∈ (pastTo s ds i).2, ∃ d ∈ ds, e.key = d.key := by
  intro i
  induction i with
  | zero => intro _ e he; simp [pastTo] at he
  | succ i ih =>
    intro hi e he
    obtain ⟨d, hd2⟩ : ∃ d, ds[i]? = some d := ⟨_, List.getElem?_eq_getElem (by omega)⟩
    rw [pastTo_succ hd2] at he
    unfold pastStep at he
    cases hm : doM (pastTo s ds i).1 d with
    | none => rw [hm] at he; exact ih (by omega) e he
    | some x =>
      rw [hm] at he
      dsimp only at he
      split at he
      · rcases List.mem_append.1 he with h | h
        · exact ih (by omega) e h
        · obtain rfl : e = entOf d x := by simpa using h
          exact ⟨d, List.mem_of_getElem? hd2, by unfold entOf; split <;> rfl⟩
      · exact ih (by omega) e he
theorem pastM_key {s : Sto} {ds : List Deed} : ∀ e ∈ pastM s ds, ∃ d ∈ ds, e.key = d.key := by
  unfold pastM
  split
  · exact pastTo_key s ds ds.length (Nat.le_refl _)
  · simp
theorem eSto_st (keep : Int) : SmSt (eSto keep) := ⟨smR_nil, fun r hr => by simp [eSto] at hr; subst hr; exact smR_nil, by simp [eSto], by simp [eSto], fun x hx => by simp [eSto] at hx; subst hx; simp [eSve], by simp [eSto]⟩
noncomputable def allV (b : List Int) (p : Nat) : List Ent := pastM (eSto 1) (deedsV b p 30).1
theorem allV_fin {b : List Int} (hb : byteL b) {p : Nat} (hp : p ≤ 100000) : (allV b p).length ≤ 40 ∧ ∀ e ∈ allV b p, e.key.size ≤ 5 := by
  obtain ⟨h1, h2, h3⟩ := deedsV_fin hb (p := p) (most := 30) hp (by omega)
  refine ⟨(pastM_len (eSto_st 1) ⟨fun d hd => by have := h2 d hd; unfold smK; omega⟩).1, fun e he => ?_⟩
  obtain ⟨d, hd, e2⟩ := pastM_key e he
  rw [e2]; exact h2 d hd
theorem l71All_ac {b : List Int} {p : Nat} (hb : byteL b) (hp : p ≤ 100000) : AC Try.prog 74 [.c (.ph 0 0 0)] (hpL [some (rdO b p)]) 1 ⟨.t (.c (.h 1)), hpL [some (rdO b (deedsV b p 30).2), some (eRow (allV b p))], 2⟩ := by
  refine AC_of Try.func74 rfl Try.ntmps74 Try.results74 (by kernel_rfl) rfl ?_
  simp only [List.zipIdx, List.map, Nat.zero_add, Nat.reduceAdd]
  obtain ⟨h1, h2, h3⟩ := deedsV_fin hb (p := p) (most := 30) hp (by omega)
  have k1 := sstoreNew_ok 1 (by omega)
  rw [show ((1 : Nat) : Int) = 1 from rfl] at k1
  have k2 := l71Deeds_ac (most := 30) hb hp (by omega)
  rw [show ((30 : Nat) : Int) = 30 from rfl] at k2
  have k3 := pastAll_ac (eSto 1) (deedsV b p 30).1 (eSto_st 1) ⟨fun d hd => by have := h2 d hd; unfold smK; omega⟩ (by omega)
  repeat (first | apply Aw_seq | apply Aw_block | apply Aw_skip | apply Aw_exit | refine Aw_condt rfl ?_ | refine Aw_condf rfl ?_ | (refine qr ?_; simp only [go_sem, Nat.reduceEqDiff, reduceIte, Nat.reduceAdd, Nat.reduceMul, Nat.reduceSub, Nat.reduceLT, Nat.reduceLeDiff, Nat.reduceBEq]) | (refine qd (by kernel_rfl) (by kernel_rfl) ?_; simp only [go_sem, Nat.reduceEqDiff, reduceIte, Nat.reduceAdd, Nat.reduceMul, Nat.reduceSub, Nat.reduceLT, Nat.reduceLeDiff, Nat.reduceBEq]) | refine dk (by kernel_rfl) ?_ | (refine qp (k1) (by simp only [go_sem, Nat.reduceEqDiff, reduceIte, Nat.reduceAdd, Nat.reduceMul, Nat.reduceSub, Nat.reduceLT, Nat.reduceLeDiff, Nat.reduceBEq]; first | done | rfl) rfl (by simp only [go_sem, Nat.reduceLT]) rfl rfl ?_; simp only [go_sem, Nat.reduceEqDiff, reduceIte, Nat.reduceAdd, Nat.reduceMul, Nat.reduceSub, Nat.reduceLT, Nat.reduceLeDiff, Nat.reduceBEq]) | (refine qx (call_L (N' := [0]) (L := []) (k2) rfl (.cons (.nm rfl) (.cons (.nm rfl) (.nil))) (by decide) (by decide) (by decide) (by simp only [go_sem, Nat.reduceEqDiff, reduceIte, Nat.reduceAdd, Nat.reduceMul, Nat.reduceSub, Nat.reduceLT, Nat.reduceLeDiff, Nat.reduceBEq]; first | done | rfl) (.inl rfl) rfl (by decide)) (by simp only [go_sem, Nat.reduceEqDiff, reduceIte, Nat.reduceAdd, Nat.reduceMul, Nat.reduceSub, Nat.reduceLT, Nat.reduceLeDiff, Nat.reduceBEq]; first | done | rfl) rfl (by simp only [go_sem, Nat.reduceLT]) ?_; simp only [go_sem, Nat.reduceEqDiff, reduceIte, Nat.reduceAdd, Nat.reduceMul, Nat.reduceSub, Nat.reduceLT, Nat.reduceLeDiff, Nat.reduceBEq]) | (refine qx (call_N (L := [10]) (k3) rfl (.cons (.nm rfl) (.cons (arg_lend (m := 10) rfl (by simp)) (.nil))) (.inr ⟨rfl, by simp⟩) rfl) (by simp only [go_sem, Nat.reduceEqDiff, reduceIte, Nat.reduceAdd, Nat.reduceMul, Nat.reduceSub, Nat.reduceLT, Nat.reduceLeDiff, Nat.reduceBEq]; first | done | rfl) rfl (by simp only [go_sem, Nat.reduceLT]) ?_; simp only [go_sem, Nat.reduceEqDiff, reduceIte, Nat.reduceAdd, Nat.reduceMul, Nat.reduceSub, Nat.reduceLT, Nat.reduceLeDiff, Nat.reduceBEq]))
  exact Aw_ret (retL (M := [0, 11]) (.inl rfl) (by simp only [go_sem, Nat.reduceEqDiff, reduceIte, Nat.reduceAdd, Nat.reduceMul, Nat.reduceSub, Nat.reduceLT, Nat.reduceLeDiff, Nat.reduceBEq]; first | done | rfl) rfl rfl (by rfl) (by simp only [go_sem, Nat.reduceEqDiff, reduceIte, Nat.reduceAdd, Nat.reduceMul, Nat.reduceSub, Nat.reduceLT, Nat.reduceLeDiff, Nat.reduceBEq]; first | done | rfl | (and_intros <;> rfl)) (by decide) (by intro m hm; first | omega | (rcases m with _ | _ | _ | _ | _ | _ | m <;> first | exact ⟨by decide, rfl⟩ | omega)))
noncomputable def drL (b : List Int) : List Ent := allV b 0
noncomputable def drP (b : List Int) : Nat := (deedsV b 0 30).2
noncomputable def drK (b : List Int) : ByteArray × Nat := nearV b (drP b) ((drL b).map Ent.key)
noncomputable def drT (b : List Int) : Nat := pickV b (drK b).2 (((drL b).length + 2 : Nat) : Int)
def keyAtI (r : List Ent) (i : Nat) : List ByteArray := (r.take i).map Ent.key
theorem keyAtI_succ {r : List Ent} {i : Nat} {e : Ent} (h : r[i]? = some e) : keyAtI r (i + 1) = keyAtI r i ++ [e.key] := by unfold keyAtI; rw [List.take_add_one, h]; simp
theorem drawPastGet_ac (c : List Int) (hl : c.length ≤ 1099511627776) (hb : byteL (c.take 2000)) : AC Try.prog 25 [bytesT c] noHp 0 ⟨.tup [runT (drL (c.take 2000)), sT (drK (c.take 2000)).1, iT (drT (c.take 2000))], noHp, 0⟩ := by
  refine AC_of Try.func25 rfl Try.ntmps25 Try.results25 (by kernel_rfl) rfl ?_
  simp only [List.zipIdx, List.map, Nat.zero_add, Nat.reduceAdd]
  obtain ⟨b, hbe⟩ : ∃ b, b = c.take 2000 := ⟨_, rfl⟩
  rw [← hbe] at hb ⊢
  have k0 := l6Open_ac c hl
  rw [← hbe] at k0
  have k1 := l71All_ac hb (p := 0) (by omega)
  obtain ⟨h1, h2, h3⟩ := deedsV_fin hb (p := 0) (most := 30) (by omega) (by omega)
  obtain ⟨l1, l2⟩ := allV_fin hb (p := 0) (by omega)
  have kn := l71Near_ac (p := drP b) (l := (drL b).map Ent.key) hb (by show (deedsV b 0 30).2 ≤ _; omega) (by rw [List.length_map]; show (allV b 0).length ≤ _; omega) (fun s hs => by obtain ⟨e, he, rfl⟩ := List.mem_map.1 hs; have := l2 e he; omega)
  have hn := nearV_fin hb (p := drP b) (K := 5) (l := (drL b).map Ent.key) (by show (deedsV b 0 30).2 ≤ _; omega) (by rw [List.length_map]; show (allV b 0).length ≤ _; omega) (by omega) (fun s hs => by obtain ⟨e, he, rfl⟩ := List.mem_map.1 hs; have := l2 e he; omega)
  have hp : (drK b).2 ≤ 1000000 := by have : drP b ≤ 0 + 2000 := h3; show (nearV _ _ _).2 ≤ _; omega
  have kt := pickV_ac (n := (((drL b).length + 2 : Nat) : Int)) hb hp (by have : (drL b).length ≤ 40 := l1; omega)
  have hlen : (drL b).length ≤ 40 := l1
  have w2 : IntKind.i64.wrap (((drL b).length : Int) + 2) = (((drL b).length + 2 : Nat) : Int) := wn (by omega) (by omega)
  change AC Try.prog _ _ _ _ ⟨_, hpL [some (rdO b (drP b)), some (eRow (drL b))], 2⟩ at k1
  change AC Try.prog _ _ _ _ ⟨.t (sT (drK b).1), hpL [some (rdO b (drK b).2)], 1⟩ at kn
  repeat (first | apply Aw_seq | apply Aw_block | apply Aw_skip | apply Aw_exit | refine Aw_condt rfl ?_ | refine Aw_condf rfl ?_ | (refine qr ?_; simp only [go_sem, Nat.reduceEqDiff, reduceIte, Nat.reduceAdd, Nat.reduceMul, Nat.reduceSub, Nat.reduceLT, Nat.reduceLeDiff, Nat.reduceBEq]) | (refine qd (by kernel_rfl) (by kernel_rfl) ?_; simp only [go_sem, Nat.reduceEqDiff, reduceIte, Nat.reduceAdd, Nat.reduceMul, Nat.reduceSub, Nat.reduceLT, Nat.reduceLeDiff, Nat.reduceBEq]) | refine dk (by kernel_rfl) ?_ | (refine qx (call_N (L := []) (k0) rfl (.cons (.nm rfl) (.nil)) (.inl rfl) rfl) (by simp only [go_sem, Nat.reduceEqDiff, reduceIte, Nat.reduceAdd, Nat.reduceMul, Nat.reduceSub, Nat.reduceLT, Nat.reduceLeDiff, Nat.reduceBEq]; first | done | rfl) rfl (by simp only [go_sem, Nat.reduceLT]) ?_; simp only [go_sem, Nat.reduceEqDiff, reduceIte, Nat.reduceAdd, Nat.reduceMul, Nat.reduceSub, Nat.reduceLT, Nat.reduceLeDiff, Nat.reduceBEq]) | (refine qx (call_L (N' := [4]) (L := []) (k1) rfl (.cons (.nm rfl) (.nil)) (by decide) (by decide) (by decide) (by simp only [go_sem, Nat.reduceEqDiff, reduceIte, Nat.reduceAdd, Nat.reduceMul, Nat.reduceSub, Nat.reduceLT, Nat.reduceLeDiff, Nat.reduceBEq]; first | done | rfl) (.inl rfl) rfl (by decide)) (by simp only [go_sem, Nat.reduceEqDiff, reduceIte, Nat.reduceAdd, Nat.reduceMul, Nat.reduceSub, Nat.reduceLT, Nat.reduceLeDiff, Nat.reduceBEq]; first | done | rfl) rfl (by simp only [go_sem, Nat.reduceLT]) ?_; simp only [go_sem, Nat.reduceEqDiff, reduceIte, Nat.reduceAdd, Nat.reduceMul, Nat.reduceSub, Nat.reduceLT, Nat.reduceLeDiff, Nat.reduceBEq]))
  refine Aw.rw (rwL (l' := [(8, .t (iT (0 : Nat))), (7, .t (.c (.h 2))), (6, .t (.c (.h 1))), (5, .t (.c (.ph 0 0 0)))]) (os := [some (rdO b (drP b)), some (eRow (drL b)), some (kRow (keyAtI (drL b) 0))]) (M := [4, 7, 9]) (n' := 3) (by repeat (first | exact trivial | refine ⟨rfl, rfl, ?_⟩)) (by rfl) (by simp only [go_sem, Nat.reduceEqDiff, reduceIte, Nat.reduceAdd, Nat.reduceMul, Nat.reduceSub, Nat.reduceLT, Nat.reduceLeDiff, Nat.reduceBEq, List.map_nil, keyAtI, List.take_zero]; first | done | rfl) (by decide) (by intro m hm; first | omega | (rcases m with _ | _ | _ | _ | _ | _ | m <;> first | exact ⟨by decide, rfl⟩ | omega))) ?_
  refine Aw.setL (l' := [(8, .t (iT (0 : Nat))), (7, .t (.c (.h 2))), (6, .t (runT (drL b))), (5, .t (.c (.ph 0 0 0)))]) (os' := [some (rdO b (drP b)), none, some (kRow (keyAtI (drL b) 0))]) (n' := 3) [1] (by repeat (first | exact trivial | refine ⟨SetA.same rfl, ?_⟩ | refine ⟨SetA.row rfl rfl (by decide), ?_⟩)) (by repeat (first | exact trivial | refine ⟨rfl, rfl, ?_⟩ | show SubL _ _ _ _)) (by decide) ?_
  refine Aw_loop_rw (ι := { j : Nat // j ≤ (drL b).length }) (fun q => S [(8, .t (iT (q.1 : Nat))), (7, .t (.c (.h 2))), (6, .t (runT (drL b))), (5, .t (.c (.ph 0 0 0)))] (hpL [some (rdO b (drP b)), none, some (kRow (keyAtI (drL b) q.1))]) 3) (fun q => (drL b).length - q.1) ⟨0, Nat.zero_le _⟩ ?_
  rintro ⟨i, hi⟩
  dsimp only
  by_cases hlt : i < (drL b).length
  · have g1 : (i : Int) < ((drL b).length : Int) := by omega
    have w1 := wrap_succ hlt (by omega)
    obtain ⟨e, hx⟩ : ∃ e, (drL b)[i]? = some e := ⟨_, List.getElem?_eq_getElem hlt⟩
    have hap : ((keyAtI (drL b) i).length + 1) * 16 ≤ 140737488355328 := by unfold keyAtI; rw [List.length_map, List.length_take]; omega
    have e1 := keyAtI_succ hx
    repeat (first | apply Aw_seq | apply Aw_block | apply Aw_skip | apply Aw_exit | refine Aw_condt rfl ?_ | refine Aw_condf rfl ?_ | (refine qr ?_; simp only [go_sem, Nat.reduceEqDiff, reduceIte, Nat.reduceAdd, Nat.reduceMul, Nat.reduceSub, Nat.reduceLT, Nat.reduceLeDiff, Nat.reduceBEq, g1, w1, hx, hap]) | (refine qd (by kernel_rfl) (by kernel_rfl) ?_; simp only [go_sem, Nat.reduceEqDiff, reduceIte, Nat.reduceAdd, Nat.reduceMul, Nat.reduceSub, Nat.reduceLT, Nat.reduceLeDiff, Nat.reduceBEq, g1, w1, hx, hap]) | refine dk (by kernel_rfl) ?_)
    refine ⟨⟨i + 1, hlt⟩, [0, 0, 14], ?_, rwL (by repeat (first | exact trivial | refine ⟨rfl, rfl, ?_⟩)) (by rfl) (by simp only [go_sem, Nat.reduceEqDiff, reduceIte, Nat.reduceAdd, Nat.reduceMul, Nat.reduceSub, Nat.reduceLT, Nat.reduceLeDiff, Nat.reduceBEq, e1, List.map_append, List.map_cons, List.map_nil]; first | done | rfl) (by decide) (by intro m hm; first | omega | (rcases m with _ | _ | _ | _ | _ | _ | m <;> first | exact ⟨by decide, rfl⟩ | omega))⟩
    show (drL b).length - (i + 1) < (drL b).length - i; omega
  · have g1 : ¬ (i : Int) < ((drL b).length : Int) := by omega
    obtain rfl : i = (drL b).length := by omega
    have e1 : keyAtI (drL b) (drL b).length = (drL b).map Ent.key := by unfold keyAtI; rw [List.take_length]
    rw [e1]
    iterate 6 (first | apply Aw_seq | apply Aw_block | apply Aw_skip | apply Aw_exit | refine Aw_condt rfl ?_ | refine Aw_condf rfl ?_ | (refine qr ?_; simp only [go_sem, Nat.reduceEqDiff, reduceIte, Nat.reduceAdd, Nat.reduceMul, Nat.reduceSub, Nat.reduceLT, Nat.reduceLeDiff, Nat.reduceBEq, g1]) | (refine qd (by kernel_rfl) (by kernel_rfl) ?_; simp only [go_sem, Nat.reduceEqDiff, reduceIte, Nat.reduceAdd, Nat.reduceMul, Nat.reduceSub, Nat.reduceLT, Nat.reduceLeDiff, Nat.reduceBEq, g1]) | refine dk (by kernel_rfl) ?_)
    refine Aw.setL (l' := [(7, .t (strsT ((drL b).map Ent.key))), (6, .t (runT (drL b))), (5, .t (.c (.ph 0 0 0)))]) (os' := [some (rdO b (drP b))]) (n' := 7) [2] (by repeat (first | exact trivial | refine ⟨SetA.same rfl, ?_⟩ | refine ⟨SetA.row rfl rfl (by decide), ?_⟩)) (by repeat (first | exact trivial | refine ⟨rfl, rfl, ?_⟩ | show SubL _ _ _ _)) (by decide) ?_
    repeat (first | apply Aw_seq | apply Aw_block | apply Aw_skip | apply Aw_exit | refine Aw_condt rfl ?_ | refine Aw_condf rfl ?_ | (refine qr ?_; simp only [go_sem, Nat.reduceEqDiff, reduceIte, Nat.reduceAdd, Nat.reduceMul, Nat.reduceSub, Nat.reduceLT, Nat.reduceLeDiff, Nat.reduceBEq, w2]) | (refine qd (by kernel_rfl) (by kernel_rfl) ?_; simp only [go_sem, Nat.reduceEqDiff, reduceIte, Nat.reduceAdd, Nat.reduceMul, Nat.reduceSub, Nat.reduceLT, Nat.reduceLeDiff, Nat.reduceBEq, w2]) | refine dk (by kernel_rfl) ?_ | (refine qx (call_L (N' := [0]) (L := []) (kn) rfl (.cons (.nm rfl) (.cons (.nm rfl) (.nil))) (by decide) (by decide) (by decide) (by simp only [go_sem, Nat.reduceEqDiff, reduceIte, Nat.reduceAdd, Nat.reduceMul, Nat.reduceSub, Nat.reduceLT, Nat.reduceLeDiff, Nat.reduceBEq, w2]; first | done | rfl) (.inl rfl) rfl (by decide)) (by simp only [go_sem, Nat.reduceEqDiff, reduceIte, Nat.reduceAdd, Nat.reduceMul, Nat.reduceSub, Nat.reduceLT, Nat.reduceLeDiff, Nat.reduceBEq, w2]; first | done | rfl) rfl (by simp only [go_sem, Nat.reduceLT]) ?_; simp only [go_sem, Nat.reduceEqDiff, reduceIte, Nat.reduceAdd, Nat.reduceMul, Nat.reduceSub, Nat.reduceLT, Nat.reduceLeDiff, Nat.reduceBEq, w2]) | (refine qx (call_L (N' := [0]) (L := []) (kt) rfl (.cons (.nm rfl) (.cons (.nm rfl) (.nil))) (by decide) (by decide) (by decide) (by simp only [go_sem, Nat.reduceEqDiff, reduceIte, Nat.reduceAdd, Nat.reduceMul, Nat.reduceSub, Nat.reduceLT, Nat.reduceLeDiff, Nat.reduceBEq, w2]; first | done | rfl) (.inl rfl) rfl (by decide)) (by simp only [go_sem, Nat.reduceEqDiff, reduceIte, Nat.reduceAdd, Nat.reduceMul, Nat.reduceSub, Nat.reduceLT, Nat.reduceLeDiff, Nat.reduceBEq, w2]; first | done | rfl) rfl (by simp only [go_sem, Nat.reduceLT]) ?_; simp only [go_sem, Nat.reduceEqDiff, reduceIte, Nat.reduceAdd, Nat.reduceMul, Nat.reduceSub, Nat.reduceLT, Nat.reduceLeDiff, Nat.reduceBEq, w2]))
    exact Aw_ret (ret0 (.inl rfl) (by simp only [go_sem, Nat.reduceEqDiff, reduceIte, Nat.reduceAdd, Nat.reduceMul, Nat.reduceSub, Nat.reduceLT, Nat.reduceLeDiff, Nat.reduceBEq]; rfl) (by rfl) rfl)
end Go.Proofs.Ytcbhgglpgphimaa.Ab
namespace Go.Proofs.Ytcbhgglpgphimaa.Ab
set_option linter.deprecated false
set_option linter.unusedVariables false
set_option linter.unusedSimpArgs false
open Go Go.Proofs
set_option maxRecDepth 10000
set_option maxHeartbeats 8000000
set_option linter.unusedSimpArgs false
set_option linter.unusedVariables false
theorem l71DeedsS_ac {b : List Int} {p most : Nat} (hb : byteL b) (hp : p ≤ 100000) (hm : most ≤ 100) : AC Try.prog 123 [.c (.ph 0 0 0), iT most] (hpL [some (rdO b p)]) 1 ⟨.t (deedsT (deedsV b p most).1), hpL [some (rdO b (deedsV b p most).2), none], 2⟩ :=
  AC.setS [1] (l71Deeds_ac hb hp hm) (SetC.row0 rfl rfl) ⟨.inl rfl, rfl, trivial⟩
/-- How much a drawn store's sieves keep. -/
def kpN : Nat → Nat
  | 0 => 0
  | 1 => 1
  | 2 => 1
  | 3 => 2
  | _ => 5
theorem kpN_le : ∀ n, kpN n ≤ 5
  | 0 => by decide
  | 1 => by decide
  | 2 => by decide
  | 3 => by decide
  | n + 4 => Nat.le_refl 5
noncomputable def stoV (b : List Int) (p : Nat) : Sto × Nat := ((pastTo (eSto (kpN (pickV b p 5) : Nat)) (deedsV b (p + 1) 30).1 (deedsV b (p + 1) 30).1.length).1, (deedsV b (p + 1) 30).2)
abbrev hT1 (s : Sto) : TV := .agg [.h 3, .h 1, .h 2, .d (.s (.int .i64 s.keep)), .d (.s (.int .i64 s.time)), .h 4]
theorem sveEq_refl (x : Sve) : sveEq x x = true := by unfold sveEq; simp
theorem eSto_ok {k : Nat} (hk : k ≤ 5) : storeS (eSto (k : Nat)) = true := by
  have h0 : sieveM (keysM []) (k : Int) = some (eSve k) := by rw [keysM_nil]; exact sieve_nil hk
  have hl : ∀ i, i < 3 → sAt (eSto (k : Nat)) i = true := by
    intro i hi
    have lv : lvM (k : Int) i [] (eSve k) = true := by
      unfold lvM
      rw [h0]
      have : runOk [] = true := rfl
      rw [this]
      simp [sveEq_refl]
    have nw : newestM [] [] 0 = true := rfl
    have sp : ∀ j, j < 3 → (decide (j ≤ i) || sPair (eSto (k : Nat)) i j) = true := by
      intro j hj
      have : sPair (eSto (k : Nat)) i j = true := by
        match i, hi, j, hj with
        | 0, _, 0, _ => rfl
        | 0, _, 1, _ => rfl
        | 0, _, 2, _ => rfl
        | 1, _, 0, _ => rfl
        | 1, _, 1, _ => rfl
        | 1, _, 2, _ => rfl
        | 2, _, 0, _ => rfl
        | 2, _, 1, _ => rfl
        | 2, _, 2, _ => rfl
      rw [this]; simp
    unfold sAt
    rw [allI_t sp]
    match i, hi with
    | 0, _ => simpa [eSto] using ⟨lv, nw⟩
    | 1, _ => simpa [eSto] using ⟨lv, nw⟩
    | 2, _ => simpa [eSto] using ⟨lv, nw⟩
  unfold storeS
  rw [allI_t hl]
  unfold headS
  have h1 : inB 0 (k : Int) 5 = true := inKeep hk
  simp only [eSto, h1]
  rfl
theorem l71Store_ac {b : List Int} {p : Nat} (hb : byteL b) (hp : p ≤ 90000) : AC Try.prog 138 [.c (.ph 0 0 0)] (hpL [some (rdO b p)]) 1 ⟨.t (hT1 (stoV b p).1), hpL [some (rdO b (stoV b p).2), some (lvRow (stoV b p).1.levels), some (svRow (stoV b p).1.sieves), some (eRow (stoV b p).1.top), some (tmRow (stoV b p).1.times)], 5⟩ := by
  refine AC_of Try.func138 rfl Try.ntmps138 Try.results138 (by kernel_rfl) rfl ?_
  simp only [List.zipIdx, List.map, Nat.zero_add, Nat.reduceAdd]
  obtain ⟨d1, d2, d3⟩ := deedsV_fin hb (p := p + 1) (most := 30) (by omega) (by omega)
  have k5 := pickV_ac (n := 5) hb (show p ≤ 1000000 by omega) (by omega)
  have h5 := pickV_lt (n := 5) hb (show p ≤ 1000000 by omega) (by omega) (by omega)
  obtain ⟨v, hv⟩ : ∃ v, v = pickV b p 5 := ⟨_, rfl⟩
  rw [← hv] at k5 h5
  have k1 := sstoreNew_ok (kpN v) (kpN_le v)
  have kd := l71DeedsS_ac (p := p + 1) (most := 30) hb (by omega) (by omega)
  rw [show ((30 : Nat) : Int) = 30 from rfl] at kd
  have kp := pastDo_ac (eSto (kpN v : Nat)) (deedsV b (p + 1) 30).1 (eSto_st _) (eSto_ok (kpN_le v)) ⟨fun d hd => by have := d2 d hd; unfold smK; omega⟩ (by omega)
  unfold stoV
  rw [← hv]
  dsimp only
  generalize (pastTo (eSto (kpN v : Nat)) (deedsV b (p + 1) 30).1 (deedsV b (p + 1) 30).1.length).1 = x at kp ⊢
  have hx : ([[.d (.s (.int .i64 0))], [.d (.s (.int .i64 1))], [.d (.s (.int .i64 1))], [.d (.s (.int .i64 2))], [.d (.s (.int .i64 5))]] : List (List CV))[v]? = some [.d (.s (.int .i64 (kpN v : Nat)))] := by
    match v, h5 with
    | 0, _ => rfl
    | 1, _ => rfl
    | 2, _ => rfl
    | 3, _ => rfl
    | 4, _ => rfl
  have hlt : v < 5 := by omega
  repeat (first | apply Aw_seq | apply Aw_block | apply Aw_skip | apply Aw_exit | refine Aw_condt rfl ?_ | refine Aw_condf rfl ?_ | (refine qr ?_; simp only [go_sem, Nat.reduceEqDiff, reduceIte, Nat.reduceAdd, Nat.reduceMul, Nat.reduceSub, Nat.reduceLT, Nat.reduceLeDiff, Nat.reduceBEq, hx, hlt]) | (refine qd (by kernel_rfl) (by kernel_rfl) ?_; simp only [go_sem, Nat.reduceEqDiff, reduceIte, Nat.reduceAdd, Nat.reduceMul, Nat.reduceSub, Nat.reduceLT, Nat.reduceLeDiff, Nat.reduceBEq, hx, hlt]) | refine dk (by kernel_rfl) ?_ | (refine qp (k1) (by simp only [go_sem, Nat.reduceEqDiff, reduceIte, Nat.reduceAdd, Nat.reduceMul, Nat.reduceSub, Nat.reduceLT, Nat.reduceLeDiff, Nat.reduceBEq, hx, hlt]; first | done | rfl) rfl (by simp only [go_sem, Nat.reduceLT]) rfl rfl ?_; simp only [go_sem, Nat.reduceEqDiff, reduceIte, Nat.reduceAdd, Nat.reduceMul, Nat.reduceSub, Nat.reduceLT, Nat.reduceLeDiff, Nat.reduceBEq, hx, hlt]) | (refine qx (call_L (N' := [0]) (L := []) (k5) rfl (.cons (.nm rfl) (.cons (.nm rfl) (.nil))) (by decide) (by decide) (by decide) (by simp only [go_sem, Nat.reduceEqDiff, reduceIte, Nat.reduceAdd, Nat.reduceMul, Nat.reduceSub, Nat.reduceLT, Nat.reduceLeDiff, Nat.reduceBEq, hx, hlt]; first | done | rfl) (.inl rfl) rfl (by decide)) (by simp only [go_sem, Nat.reduceEqDiff, reduceIte, Nat.reduceAdd, Nat.reduceMul, Nat.reduceSub, Nat.reduceLT, Nat.reduceLeDiff, Nat.reduceBEq, hx, hlt]; first | done | rfl) rfl (by simp only [go_sem, Nat.reduceLT]) ?_; simp only [go_sem, Nat.reduceEqDiff, reduceIte, Nat.reduceAdd, Nat.reduceMul, Nat.reduceSub, Nat.reduceLT, Nat.reduceLeDiff, Nat.reduceBEq, hx, hlt]) | (refine qx (call_L (N' := [0]) (L := []) (kd) rfl (.cons (.nm rfl) (.cons (.nm rfl) (.nil))) (by decide) (by decide) (by decide) (by simp only [go_sem, Nat.reduceEqDiff, reduceIte, Nat.reduceAdd, Nat.reduceMul, Nat.reduceSub, Nat.reduceLT, Nat.reduceLeDiff, Nat.reduceBEq, hx, hlt]; first | done | rfl) (.inl rfl) rfl (by decide)) (by simp only [go_sem, Nat.reduceEqDiff, reduceIte, Nat.reduceAdd, Nat.reduceMul, Nat.reduceSub, Nat.reduceLT, Nat.reduceLeDiff, Nat.reduceBEq, hx, hlt]; first | done | rfl) rfl (by simp only [go_sem, Nat.reduceLT]) ?_; simp only [go_sem, Nat.reduceEqDiff, reduceIte, Nat.reduceAdd, Nat.reduceMul, Nat.reduceSub, Nat.reduceLT, Nat.reduceLeDiff, Nat.reduceBEq, hx, hlt]) | (refine qx (call_N (L := []) (kp) rfl (.cons (.nm rfl) (.cons (.nm rfl) (.nil))) (.inl rfl) rfl) (by simp only [go_sem, Nat.reduceEqDiff, reduceIte, Nat.reduceAdd, Nat.reduceMul, Nat.reduceSub, Nat.reduceLT, Nat.reduceLeDiff, Nat.reduceBEq, hx, hlt]; first | done | rfl) rfl (by simp only [go_sem, Nat.reduceLT]) ?_; simp only [go_sem, Nat.reduceEqDiff, reduceIte, Nat.reduceAdd, Nat.reduceMul, Nat.reduceSub, Nat.reduceLT, Nat.reduceLeDiff, Nat.reduceBEq, hx, hlt]))
  exact Aw_ret (retL (M := [0, 15, 16, 17, 18]) (.inl rfl) (by simp only [go_sem, Nat.reduceEqDiff, reduceIte, Nat.reduceAdd, Nat.reduceMul, Nat.reduceSub, Nat.reduceLT, Nat.reduceLeDiff, Nat.reduceBEq]; first | done | rfl) rfl rfl (by rfl) (by simp only [go_sem, Nat.reduceEqDiff, reduceIte, Nat.reduceAdd, Nat.reduceMul, Nat.reduceSub, Nat.reduceLT, Nat.reduceLeDiff, Nat.reduceBEq]; first | done | rfl | (and_intros <;> rfl)) (by decide) (by intro m hm; first | omega | (rcases m with _ | _ | _ | _ | _ | _ | m <;> first | exact ⟨by decide, rfl⟩ | omega)))
end Go.Proofs.Ytcbhgglpgphimaa.Ab
namespace Go.Proofs.Ytcbhgglpgphimaa.Ab
set_option linter.deprecated false
set_option linter.unusedVariables false
set_option linter.unusedSimpArgs false
open Go Go.Proofs
set_option maxHeartbeats 8000000
set_option linter.unusedSimpArgs false
set_option linter.unusedVariables false
structure InvS (s : Sto) : Prop where
  h : SmH s
  t0 : 0 ≤ s.time
  t1 : s.time ≤ 999
  tp : s.top.length ≤ 1000
theorem inv_of {s : Sto} (hs : SmSt s) (hv : storeS s = true) : InvS s := by
  obtain ⟨h1, h2, h3, h4, h5, h6, _⟩ := storeS_facts hv
  unfold inB at h6
  rw [Bool.and_eq_true] at h6
  have g1 := of_decide_eq_true h6.1; have g2 := of_decide_eq_true h6.2
  exact ⟨valid_sm hs hv, g1, g2, by omega⟩
theorem downM_inv {s x : Sto} (hs : SmSt s) (hv : storeS s = true) (h : downM s = some x) : InvS x := by
  have v := inv_of hs hv
  obtain ⟨g1, g2, g3, g4, g5⟩ := intoM_sm 2 (s := noTop s) (i := 0) rfl ⟨v.h.ll, v.h.sl, v.h.lev, v.h.tl⟩ hs.top v.tp h
  refine ⟨g1, ?_, ?_, ?_⟩
  · rw [g4]; exact v.t0
  · rw [g4]; exact v.t1
  · rw [g3]; simp [noTop]
theorem addM_inv {s x : Sto} {e : Ent} (hs : SmSt s) (h : addM s e = some x) : InvS x := by
  unfold addM at h
  split at h
  · rename_i hc
    rw [Bool.and_eq_true] at hc
    have he : 0 ≤ e.time ∧ e.time ≤ 999 := by
      have := hc.2
      unfold entOk inB at this
      simp only [Bool.and_eq_true, decide_eq_true_eq] at this
      omega
    obtain ⟨h1, h2, h3, h4, h5, _⟩ := storeS_facts hc.1
    split at h
    · obtain ⟨y, hy, rfl⟩ := Option.map_eq_some_iff.1 h
      obtain ⟨g, gt⟩ := downM_st hs hc.1 hy
      have v := downM_inv hs hc.1 hy
      exact ⟨⟨v.h.ll, v.h.sl, v.h.lev, v.h.tl⟩, he.1, he.2, by show (joinM [e] y.top).length ≤ 1000; rw [joinM_len, gt]; simp⟩
    · obtain rfl := Option.some.inj h
      have v := inv_of hs hc.1
      exact ⟨⟨v.h.ll, v.h.sl, v.h.lev, v.h.tl⟩, he.1, he.2, by show (joinM [e] s.top).length ≤ 1000; rw [joinM_len]; simp; omega⟩
  · cases h
theorem doM_inv {s x : Sto} {d : Deed} (hs : SmSt s) (h : doM s d = some x) : InvS x := by
  unfold doM at h
  split at h
  · exact addM_inv (e := ⟨d.key, d.num, false, nextT s⟩) hs h
  split at h
  · exact addM_inv (e := ⟨d.key, 0, true, nextT s⟩) hs h
  split at h
  · unfold holdM at h
    split at h
    · rename_i hv
      have v := inv_of hs hv
      obtain ⟨h1, h2, h3, h4, h5, _⟩ := storeS_facts hv
      split at h
      · obtain rfl := Option.some.inj h
        have hl : (heldTs s).length ≤ 1000 := by
          unfold heldTs
          split
          · omega
          · simp only [List.length_append, List.length_cons, List.length_nil]; omega
        exact ⟨⟨v.h.ll, v.h.sl, v.h.lev, hl⟩, v.t0, v.t1, v.tp⟩
      · cases h
    · cases h
  split at h
  · unfold freeM at h
    split at h
    · rename_i hv
      have v := inv_of hs hv
      split at h
      · cases h
      · obtain rfl := Option.some.inj h
        exact ⟨⟨v.h.ll, v.h.sl, v.h.lev, Nat.le_trans (colI_len (freeAt_len _ _)) v.h.tl⟩, v.t0, v.t1, v.tp⟩
    · cases h
  split at h
  · unfold sDownM at h
    split at h
    · rename_i hv; exact downM_inv hs hv h
    · cases h
  split at h
  · unfold sJoinM at h
    split at h
    · rename_i hc
      rw [Bool.and_eq_true] at hc
      have v := inv_of hs hc.1
      have sm := valid_sm hs hc.1
      have c2 := hc.2
      unfold inB at c2
      rw [Bool.and_eq_true] at c2
      have g1 := of_decide_eq_true c2.1; have g2 := of_decide_eq_true c2.2
      obtain ⟨y, hy, h2⟩ := Option.bind_eq_some_iff.1 h
      have smx := setM_sm sm (by omega) smR_nil hy
      have hq : SmR (s.levels.getD d.num.toNat []) ∧ (s.levels.getD d.num.toNat []).length ≤ 1000 := by
        rw [List.getD_eq_getElem?_getD, List.getElem?_eq_getElem (by rw [sm.ll]; omega)]; exact sm.lev _ (List.getElem_mem _)
      obtain ⟨q1, q2, q3, q4⟩ := setM_times hy
      obtain ⟨k1, k2, k3, k4, k5⟩ := intoM_sm _ (by omega) smx hq.1 hq.2 h2
      refine ⟨k1, ?_, ?_, ?_⟩
      · rw [k4, q3]; exact v.t0
      · rw [k4, q3]; exact v.t1
      · rw [k3, q2]; exact v.tp
    · cases h
  · cases h
theorem pastTo_inv {s : Sto} {ds : List Deed} (hs : SmSt s) (hi : InvS s) (hd : SmD ds) : ∀ i, i ≤ ds.length → InvS (pastTo s ds i).1 := by
  intro i
  induction i with
  | zero => intro _; exact hi
  | succ i ih =>
    intro hl
    have v := ih (by omega)
    obtain ⟨p1, p2, p3⟩ := pastTo_st hs hd i (by omega)
    obtain ⟨d, hd2⟩ : ∃ d, ds[i]? = some d := ⟨_, List.getElem?_eq_getElem (by omega)⟩
    rw [pastTo_succ hd2]
    unfold pastStep
    cases hm : doM (pastTo s ds i).1 d with
    | none => exact v
    | some x => exact doM_inv p1 hm
theorem stoV_fin {b : List Int} (hb : byteL b) {p : Nat} (hp : p ≤ 90000) : InvS (stoV b p).1 ∧ SmSt (stoV b p).1 ∧ (stoV b p).2 ≤ p + 2001 := by
  obtain ⟨d1, d2, d3⟩ := deedsV_fin hb (p := p + 1) (most := 30) (by omega) (by omega)
  have hd : SmD (deedsV b (p + 1) 30).1 := ⟨fun d hd => by have := d2 d hd; unfold smK; omega⟩
  unfold stoV
  refine ⟨pastTo_inv (eSto_st _) (inv_of (eSto_st _) (eSto_ok (kpN_le _))) hd _ (Nat.le_refl _), (pastTo_st (eSto_st _) hd _ (Nat.le_refl _)).1, by dsimp only; omega⟩
end Go.Proofs.Ytcbhgglpgphimaa.Ab
namespace Go.Proofs.Ytcbhgglpgphimaa.Ab
set_option linter.deprecated false
set_option linter.unusedVariables false
set_option linter.unusedSimpArgs false
open Go Go.Proofs
set_option maxHeartbeats 8000000
set_option linter.unusedSimpArgs false
set_option linter.unusedVariables false
theorem bfs_let {keep : Nat} : ∀ (n : Nat) (q : List (List ByteArray × Nat)), (∀ f ∈ q, Fork f) → (bfs keep n q).letters.length ≤ wts q
  | 0, q, _ => by simp [bfs, zPut]
  | n + 1, [], _ => by simp [bfs, zPut]
  | n + 1, f :: q, h => by
    have hff := h f (by simp)
    have ih := bfs_let (keep := keep) n (q ++ (node keep f).kids) fun g hg => by
      rcases List.mem_append.1 hg with hg | hg
      · exact h g (List.mem_cons_of_mem _ hg)
      · exact node_fork hff g hg
    have rb := runs_b keep f.2 hff.dep 49 (spl f.2 f.1)
    rw [spl_flat f.2 _ f.1 (Nat.le_refl _)] at rb
    have rl := (runs_len keep f.2 49 (spl f.2 f.1)).1
    have e1 : (node keep f).letters.length + wts (node keep f).kids < wt f := by unfold node wt; omega
    simp only [bfs, Put.add, List.length_append]
    rw [wts_app] at ih
    rw [wts_cons]
    omega
theorem sieveM_let {ks : List ByteArray} {keep : Int} {z : Sve} (h : sieveM ks keep = some z) : z.letters.size ≤ 1000 := by
  unfold sieveM at h
  split at h
  · rename_i hc
    obtain ⟨hl, hf, _⟩ := ksOk_iff hc.1
    have e := Option.some.inj h
    rw [← e]
    show (bs (bfsF keep.toNat [(ks, 0)]).letters).size ≤ _
    rw [bs_size]
    have hb := bfs_let (keep := keep.toNat) (wts [(ks, 0)]) [(ks, 0)] fun f hf' => by rw [List.mem_singleton.1 hf']; exact hf
    have e2 : wts [(ks, 0)] ≤ 200 := by rw [wts_one]; unfold wt; simp only []; omega
    unfold bfsF
    omega
  · cases h
def LetS (s : Sto) : Prop := ∀ x ∈ s.sieves, x.letters.size ≤ 1000
theorem setM_let {s x : Sto} {i : Nat} {r : List Ent} (hs : LetS s) (h : setM s i r = some x) : LetS x := by
  obtain ⟨y, rfl, hy, _⟩ := setM_ok h
  intro z hz
  rcases List.mem_or_eq_of_mem_set hz with h | rfl
  · exact hs z h
  · exact sieveM_let hy
theorem intoM_let : ∀ (d : Nat) {s x : Sto} {i : Nat} {r : List Ent}, LetS s → intoM d s i r = some x → LetS x
  | 0, s, x, i, r, hs, h => setM_let hs h
  | d + 1, s, x, i, r, hs, h => by
    simp only [intoM] at h
    split at h
    · rename_i y hy
      obtain rfl := Option.some.inj h
      exact setM_let hs hy
    · obtain ⟨s1, h1, h2⟩ := Option.bind_eq_some_iff.1 h
      exact setM_let (intoM_let d hs h1) h2
theorem downM_let {s x : Sto} (hs : LetS s) (h : downM s = some x) : LetS x := intoM_let 2 (s := noTop s) hs h
theorem addM_let {s x : Sto} {e : Ent} (hs : LetS s) (h : addM s e = some x) : LetS x := by
  unfold addM at h
  split at h
  · split at h
    · obtain ⟨y, hy, rfl⟩ := Option.map_eq_some_iff.1 h
      exact (downM_let hs hy : LetS y)
    · obtain rfl := Option.some.inj h; exact hs
  · cases h
theorem doM_let {s x : Sto} {d : Deed} (hs : LetS s) (h : doM s d = some x) : LetS x := by
  unfold doM at h
  split at h
  · exact addM_let (e := ⟨d.key, d.num, false, nextT s⟩) hs h
  split at h
  · exact addM_let (e := ⟨d.key, 0, true, nextT s⟩) hs h
  split at h
  · unfold holdM at h
    split at h
    · split at h
      · obtain rfl := Option.some.inj h; exact hs
      · cases h
    · cases h
  split at h
  · unfold freeM at h
    split at h
    · split at h
      · cases h
      · obtain rfl := Option.some.inj h; exact hs
    · cases h
  split at h
  · unfold sDownM at h
    split at h
    · exact downM_let hs h
    · cases h
  split at h
  · unfold sJoinM at h
    split at h
    · obtain ⟨y, hy, h2⟩ := Option.bind_eq_some_iff.1 h
      exact intoM_let _ (setM_let hs hy) h2
    · cases h
  · cases h
theorem pastTo_let {s : Sto} {ds : List Deed} (hs : LetS s) : ∀ i, i ≤ ds.length → LetS (pastTo s ds i).1 := by
  intro i
  induction i with
  | zero => intro _; exact hs
  | succ i ih =>
    intro hl
    have v := ih (by omega)
    obtain ⟨d, hd2⟩ : ∃ d, ds[i]? = some d := ⟨_, List.getElem?_eq_getElem (by omega)⟩
    rw [pastTo_succ hd2]
    unfold pastStep
    cases hm : doM (pastTo s ds i).1 d with
    | none => exact v
    | some x => exact doM_let v hm
theorem stoV_let (b : List Int) (p : Nat) : LetS (stoV b p).1 := by
  unfold stoV
  refine pastTo_let ?_ _ (Nat.le_refl _)
  intro x hx
  simp [eSto] at hx
  subst hx
  show ByteArray.size zs ≤ 1000
  decide
end Go.Proofs.Ytcbhgglpgphimaa.Ab
namespace Go.Proofs.Ytcbhgglpgphimaa.Ab
set_option linter.deprecated false
set_option linter.unusedVariables false
set_option linter.unusedSimpArgs false
open Go Go.Proofs
set_option maxRecDepth 10000
set_option maxHeartbeats 8000000
set_option linter.unusedSimpArgs false
set_option linter.unusedVariables false
/-- A store, its top a row of its own. -/
abbrev toT (s : Sto) : TV := .agg [.h 1, .d (.rs 1 (s.levels.map lvD)), .d (.rs 5 (s.sieves.map sveD)), .d (.s (.int .i64 s.keep)), .d (.s (.int .i64 s.time)), .d (.rs 1 (s.times.map intD))]
theorem l71StoreT_ac {b : List Int} {p : Nat} (hb : byteL b) (hp : p ≤ 90000) : AC Try.prog 138 [.c (.ph 0 0 0)] (hpL [some (rdO b p)]) 1 ⟨.t (toT (stoV b p).1), hpL [some (rdO b (stoV b p).2), some (eRow (stoV b p).1.top)], 2⟩ := by
  have h := AC.setS [1, 2, 4] (l71Store_ac hb hp) (y := .t (.agg [.h 3, .d (.rs 1 ((stoV b p).1.levels.map lvD)), .d (.rs 5 ((stoV b p).1.sieves.map sveD)), .d (.s (.int .i64 (stoV b p).1.keep)), .d (.s (.int .i64 (stoV b p).1.time)), .d (.rs 1 ((stoV b p).1.times.map intD))])) (os' := [some (rdO b (stoV b p).2), none, none, some (eRow (stoV b p).1.top), none])
    (.cons (.inl rfl) (.cons (SetC.row0 rfl rfl) (.cons (SetC.row0 rfl rfl) (.cons (.inl rfl) (.cons (.inl rfl) (.cons (SetC.row0 rfl rfl) .nil)))))) ⟨.inl rfl, rfl, .inl rfl, rfl, trivial⟩
  refine AC.sel (M := [0, 3]) h rfl rfl (selL rfl ?_) (by decide) fun m hm => ?_
  · simp only [go_sem, LeftL]
  · obtain rfl : m = 0 := by omega
    exact ⟨by decide, rfl⟩
/-- And its times. -/
theorem l71StoreM_ac {b : List Int} {p : Nat} (hb : byteL b) (hp : p ≤ 90000) : AC Try.prog 138 [.c (.ph 0 0 0)] (hpL [some (rdO b p)]) 1 ⟨.t (.agg [.h 1, .d (.rs 1 ((stoV b p).1.levels.map lvD)), .d (.rs 5 ((stoV b p).1.sieves.map sveD)), .d (.s (.int .i64 (stoV b p).1.keep)), .d (.s (.int .i64 (stoV b p).1.time)), .h 2]), hpL [some (rdO b (stoV b p).2), some (eRow (stoV b p).1.top), some (tmRow (stoV b p).1.times)], 3⟩ := by
  have h := AC.setS [1, 2] (l71Store_ac hb hp) (y := .t (.agg [.h 3, .d (.rs 1 ((stoV b p).1.levels.map lvD)), .d (.rs 5 ((stoV b p).1.sieves.map sveD)), .d (.s (.int .i64 (stoV b p).1.keep)), .d (.s (.int .i64 (stoV b p).1.time)), .h 4])) (os' := [some (rdO b (stoV b p).2), none, none, some (eRow (stoV b p).1.top), some (tmRow (stoV b p).1.times)])
    (.cons (.inl rfl) (.cons (SetC.row0 rfl rfl) (.cons (SetC.row0 rfl rfl) (.cons (.inl rfl) (.cons (.inl rfl) (.cons (.inl rfl) .nil)))))) ⟨.inl rfl, rfl, .inl rfl, rfl, .inl rfl, rfl, trivial⟩
  refine AC.sel (M := [0, 3, 4]) h rfl rfl (selL rfl ?_) (by decide) fun m hm => ?_
  · simp only [go_sem, LeftL]
  · obtain rfl : m = 0 := by omega
    exact ⟨by decide, rfl⟩
/-- And its sieves. -/
theorem l71StoreV_ac {b : List Int} {p : Nat} (hb : byteL b) (hp : p ≤ 90000) : AC Try.prog 138 [.c (.ph 0 0 0)] (hpL [some (rdO b p)]) 1 ⟨.t (.agg [.h 1, .d (.rs 1 ((stoV b p).1.levels.map lvD)), .h 2, .d (.s (.int .i64 (stoV b p).1.keep)), .d (.s (.int .i64 (stoV b p).1.time)), .d (.rs 1 ((stoV b p).1.times.map intD))]), hpL [some (rdO b (stoV b p).2), some (eRow (stoV b p).1.top), some (svRow (stoV b p).1.sieves)], 3⟩ := by
  have h := AC.setS [1, 4] (l71Store_ac hb hp) (y := .t (.agg [.h 3, .d (.rs 1 ((stoV b p).1.levels.map lvD)), .h 2, .d (.s (.int .i64 (stoV b p).1.keep)), .d (.s (.int .i64 (stoV b p).1.time)), .d (.rs 1 ((stoV b p).1.times.map intD))])) (os' := [some (rdO b (stoV b p).2), none, some (svRow (stoV b p).1.sieves), some (eRow (stoV b p).1.top), none])
    (.cons (.inl rfl) (.cons (SetC.row0 rfl rfl) (.cons (.inl rfl) (.cons (.inl rfl) (.cons (.inl rfl) (.cons (SetC.row0 rfl rfl) .nil)))))) ⟨.inl rfl, rfl, .inl rfl, rfl, .inl rfl, rfl, trivial⟩
  refine AC.sel (M := [0, 3, 2]) h rfl rfl (selL rfl ?_) (by decide) fun m hm => ?_
  · simp only [go_sem, LeftL]
  · obtain rfl : m = 0 := by omega
    exact ⟨by decide, rfl⟩
def sp0 (s : Sto) (v : Nat) : Sto := { s with time := if v = 0 then -1 else 1000 }
def sp1 (s : Sto) : Sto := { s with times := s.times ++ [s.time + 1] }
def sp2 (s : Sto) : Sto := { s with levels := s.levels.drop 1 }
def upL (x : Sve) : Sve := { x with letters := x.letters ++ bs [97] }
def sp3 (s : Sto) : Sto := { s with sieves := s.sieves.modifyHead upL }
def sp4 (s : Sto) : Sto := { s with keep := 6 }
def sp5 (s : Sto) : Sto := { s with top := s.top ++ [⟨⟨#[]⟩, 0, false, 0⟩] }
noncomputable def spoV (b : List Int) (p : Nat) : Sto × Nat :=
  let s := stoV b p
  if pickV b s.2 14 ≠ 0 then (s.1, s.2 + 1)
  else if pickV b (s.2 + 1) 6 = 0 then (sp0 s.1 (pickV b (s.2 + 2) 2), s.2 + 3)
  else if pickV b (s.2 + 1) 6 = 1 then (sp1 s.1, s.2 + 2)
  else if pickV b (s.2 + 1) 6 = 2 then (sp2 s.1, s.2 + 2)
  else if pickV b (s.2 + 1) 6 = 3 then (sp3 s.1, s.2 + 2)
  else if pickV b (s.2 + 1) 6 = 4 then (sp4 s.1, s.2 + 2)
  else (sp5 s.1, s.2 + 2)
theorem l71Spoilt_ac {b : List Int} {p : Nat} (hb : byteL b) (hp : p ≤ 90000) : AC Try.prog 104 [.c (.ph 0 0 0)] (hpL [some (rdO b p)]) 1 ⟨.t (toT (spoV b p).1), hpL [some (rdO b (spoV b p).2), some (eRow (spoV b p).1.top)], 2⟩ := by
  obtain ⟨inv, st, hq⟩ := stoV_fin hb hp
  have hlet := stoV_let b p
  have kT := l71StoreT_ac hb hp
  have kM := l71StoreM_ac hb hp
  have kV := l71StoreV_ac hb hp
  unfold spoV
  generalize stoV b p = sq at inv st hq hlet kT kM kV ⊢
  obtain ⟨s, q⟩ := sq
  dsimp only at inv st hq hlet kT kM kV ⊢
  have k14 := pickV_ac (n := 14) hb (show q ≤ 1000000 by omega) (by omega)
  have k6 := pickV_ac (n := 6) hb (show q + 1 ≤ 1000000 by omega) (by omega)
  have l6 := pickV_lt (n := 6) hb (show q + 1 ≤ 1000000 by omega) (by omega) (by omega)
  by_cases c0 : pickV b q 14 = 0
  case neg =>
    rw [if_pos c0]
    have g0 : decide ((0 : Int) < ((pickV b q 14 : Nat) : Int)) = true := decide_eq_true (by omega)
    refine AC_of Try.func104 rfl Try.ntmps104 Try.results104 (by kernel_rfl) rfl ?_
    simp only [List.zipIdx, List.map, Nat.zero_add, Nat.reduceAdd]
    repeat (first | apply Aw_seq | apply Aw_block | apply Aw_skip | apply Aw_exit | refine Aw_condt rfl ?_ | refine Aw_condf rfl ?_ | (refine qr ?_; simp only [go_sem, Nat.reduceEqDiff, reduceIte, Nat.reduceAdd, Nat.reduceMul, Nat.reduceSub, Nat.reduceLT, Nat.reduceLeDiff, Nat.reduceBEq, g0]) | (refine qd (by kernel_rfl) (by kernel_rfl) ?_; simp only [go_sem, Nat.reduceEqDiff, reduceIte, Nat.reduceAdd, Nat.reduceMul, Nat.reduceSub, Nat.reduceLT, Nat.reduceLeDiff, Nat.reduceBEq, g0]) | refine dk (by kernel_rfl) ?_ | (refine qx (call_L (N' := [0]) (L := []) (kT) rfl (.cons (.nm rfl) (.nil)) (by decide) (by decide) (by decide) (by simp only [go_sem, Nat.reduceEqDiff, reduceIte, Nat.reduceAdd, Nat.reduceMul, Nat.reduceSub, Nat.reduceLT, Nat.reduceLeDiff, Nat.reduceBEq, g0]; first | done | rfl) (.inl rfl) rfl (by decide)) (by simp only [go_sem, Nat.reduceEqDiff, reduceIte, Nat.reduceAdd, Nat.reduceMul, Nat.reduceSub, Nat.reduceLT, Nat.reduceLeDiff, Nat.reduceBEq, g0]; first | done | rfl) rfl (by simp only [go_sem, Nat.reduceLT]) ?_; simp only [go_sem, Nat.reduceEqDiff, reduceIte, Nat.reduceAdd, Nat.reduceMul, Nat.reduceSub, Nat.reduceLT, Nat.reduceLeDiff, Nat.reduceBEq, g0]) | (refine qx (call_L (N' := [0]) (L := []) (k14) rfl (.cons (.nm rfl) (.cons (.nm rfl) (.nil))) (by decide) (by decide) (by decide) (by simp only [go_sem, Nat.reduceEqDiff, reduceIte, Nat.reduceAdd, Nat.reduceMul, Nat.reduceSub, Nat.reduceLT, Nat.reduceLeDiff, Nat.reduceBEq, g0]; first | done | rfl) (.inl rfl) rfl (by decide)) (by simp only [go_sem, Nat.reduceEqDiff, reduceIte, Nat.reduceAdd, Nat.reduceMul, Nat.reduceSub, Nat.reduceLT, Nat.reduceLeDiff, Nat.reduceBEq, g0]; first | done | rfl) rfl (by simp only [go_sem, Nat.reduceLT]) ?_; simp only [go_sem, Nat.reduceEqDiff, reduceIte, Nat.reduceAdd, Nat.reduceMul, Nat.reduceSub, Nat.reduceLT, Nat.reduceLeDiff, Nat.reduceBEq, g0]))
    exact Aw_ret (retL (M := [0, 3]) (.inl rfl) (by simp only [go_sem, Nat.reduceEqDiff, reduceIte, Nat.reduceAdd, Nat.reduceMul, Nat.reduceSub, Nat.reduceLT, Nat.reduceLeDiff, Nat.reduceBEq]; first | done | rfl) rfl rfl (by rfl) (by simp only [go_sem, Nat.reduceEqDiff, reduceIte, Nat.reduceAdd, Nat.reduceMul, Nat.reduceSub, Nat.reduceLT, Nat.reduceLeDiff, Nat.reduceBEq]; first | done | rfl | (and_intros <;> rfl)) (by decide) (by intro m hm; first | omega | (rcases m with _ | _ | _ | _ | _ | _ | m <;> first | exact ⟨by decide, rfl⟩ | omega)))
  rw [if_neg (by omega)]
  have g0 : decide ((0 : Int) < ((pickV b q 14 : Nat) : Int)) = false := decide_eq_false (by omega)
  by_cases c1 : pickV b (q + 1) 6 = 0
  case pos =>
    rw [if_pos c1]
    have d0 : decide (((pickV b (q + 1) 6 : Nat) : Int) = 0) = true := decide_eq_true (by omega)
    have k2 := pickV_ac (n := 2) hb (show q + 1 + 1 ≤ 1000000 by omega) (by omega)
    have l2 := pickV_lt (n := 2) hb (show q + 1 + 1 ≤ 1000000 by omega) (by omega) (by omega)
    obtain ⟨v, hv⟩ : ∃ v, v = pickV b (q + 2) 2 := ⟨_, rfl⟩
    change AC Try.prog _ _ _ _ ⟨.t (iT (pickV b (q + 2) 2 : Nat)), _, _⟩ at k2
    change ((pickV b (q + 2) 2 : Nat) : Int) < 2 at l2
    rw [← hv] at k2 l2 ⊢
    have hvl : v < 2 := by omega
    have hx : ([[.d (.s (.int .i64 (-1)))], [.d (.s (.int .i64 1000))]] : List (List CV))[v]? = some [.d (.s (.int .i64 (if v = 0 then -1 else 1000)))] := by
      match v, hvl with
      | 0, _ => rfl
      | 1, _ => rfl
    refine AC_of Try.func104 rfl Try.ntmps104 Try.results104 (by kernel_rfl) rfl ?_
    simp only [List.zipIdx, List.map, Nat.zero_add, Nat.reduceAdd]
    repeat (first | apply Aw_seq | apply Aw_block | apply Aw_skip | apply Aw_exit | refine Aw_condt rfl ?_ | refine Aw_condf rfl ?_ | (refine qr ?_; simp only [go_sem, Nat.reduceEqDiff, reduceIte, Nat.reduceAdd, Nat.reduceMul, Nat.reduceSub, Nat.reduceLT, Nat.reduceLeDiff, Nat.reduceBEq, g0, d0, hvl, hx]) | (refine qd (by kernel_rfl) (by kernel_rfl) ?_; simp only [go_sem, Nat.reduceEqDiff, reduceIte, Nat.reduceAdd, Nat.reduceMul, Nat.reduceSub, Nat.reduceLT, Nat.reduceLeDiff, Nat.reduceBEq, g0, d0, hvl, hx]) | refine dk (by kernel_rfl) ?_ | (refine qx (call_L (N' := [0]) (L := []) (kT) rfl (.cons (.nm rfl) (.nil)) (by decide) (by decide) (by decide) (by simp only [go_sem, Nat.reduceEqDiff, reduceIte, Nat.reduceAdd, Nat.reduceMul, Nat.reduceSub, Nat.reduceLT, Nat.reduceLeDiff, Nat.reduceBEq, g0, d0, hvl, hx]; first | done | rfl) (.inl rfl) rfl (by decide)) (by simp only [go_sem, Nat.reduceEqDiff, reduceIte, Nat.reduceAdd, Nat.reduceMul, Nat.reduceSub, Nat.reduceLT, Nat.reduceLeDiff, Nat.reduceBEq, g0, d0, hvl, hx]; first | done | rfl) rfl (by simp only [go_sem, Nat.reduceLT]) ?_; simp only [go_sem, Nat.reduceEqDiff, reduceIte, Nat.reduceAdd, Nat.reduceMul, Nat.reduceSub, Nat.reduceLT, Nat.reduceLeDiff, Nat.reduceBEq, g0, d0, hvl, hx]) | (refine qx (call_L (N' := [0]) (L := []) (k14) rfl (.cons (.nm rfl) (.cons (.nm rfl) (.nil))) (by decide) (by decide) (by decide) (by simp only [go_sem, Nat.reduceEqDiff, reduceIte, Nat.reduceAdd, Nat.reduceMul, Nat.reduceSub, Nat.reduceLT, Nat.reduceLeDiff, Nat.reduceBEq, g0, d0, hvl, hx]; first | done | rfl) (.inl rfl) rfl (by decide)) (by simp only [go_sem, Nat.reduceEqDiff, reduceIte, Nat.reduceAdd, Nat.reduceMul, Nat.reduceSub, Nat.reduceLT, Nat.reduceLeDiff, Nat.reduceBEq, g0, d0, hvl, hx]; first | done | rfl) rfl (by simp only [go_sem, Nat.reduceLT]) ?_; simp only [go_sem, Nat.reduceEqDiff, reduceIte, Nat.reduceAdd, Nat.reduceMul, Nat.reduceSub, Nat.reduceLT, Nat.reduceLeDiff, Nat.reduceBEq, g0, d0, hvl, hx]) | (refine qx (call_L (N' := [0]) (L := []) (k6) rfl (.cons (.nm rfl) (.cons (.nm rfl) (.nil))) (by decide) (by decide) (by decide) (by simp only [go_sem, Nat.reduceEqDiff, reduceIte, Nat.reduceAdd, Nat.reduceMul, Nat.reduceSub, Nat.reduceLT, Nat.reduceLeDiff, Nat.reduceBEq, g0, d0, hvl, hx]; first | done | rfl) (.inl rfl) rfl (by decide)) (by simp only [go_sem, Nat.reduceEqDiff, reduceIte, Nat.reduceAdd, Nat.reduceMul, Nat.reduceSub, Nat.reduceLT, Nat.reduceLeDiff, Nat.reduceBEq, g0, d0, hvl, hx]; first | done | rfl) rfl (by simp only [go_sem, Nat.reduceLT]) ?_; simp only [go_sem, Nat.reduceEqDiff, reduceIte, Nat.reduceAdd, Nat.reduceMul, Nat.reduceSub, Nat.reduceLT, Nat.reduceLeDiff, Nat.reduceBEq, g0, d0, hvl, hx]) | (refine qx (call_L (N' := [0]) (L := []) (k2) rfl (.cons (.nm rfl) (.cons (.nm rfl) (.nil))) (by decide) (by decide) (by decide) (by simp only [go_sem, Nat.reduceEqDiff, reduceIte, Nat.reduceAdd, Nat.reduceMul, Nat.reduceSub, Nat.reduceLT, Nat.reduceLeDiff, Nat.reduceBEq, g0, d0, hvl, hx]; first | done | rfl) (.inl rfl) rfl (by decide)) (by simp only [go_sem, Nat.reduceEqDiff, reduceIte, Nat.reduceAdd, Nat.reduceMul, Nat.reduceSub, Nat.reduceLT, Nat.reduceLeDiff, Nat.reduceBEq, g0, d0, hvl, hx]; first | done | rfl) rfl (by simp only [go_sem, Nat.reduceLT]) ?_; simp only [go_sem, Nat.reduceEqDiff, reduceIte, Nat.reduceAdd, Nat.reduceMul, Nat.reduceSub, Nat.reduceLT, Nat.reduceLeDiff, Nat.reduceBEq, g0, d0, hvl, hx]))
    exact Aw_ret (retL (M := [0, 3]) (.inl rfl) (by simp only [go_sem, Nat.reduceEqDiff, reduceIte, Nat.reduceAdd, Nat.reduceMul, Nat.reduceSub, Nat.reduceLT, Nat.reduceLeDiff, Nat.reduceBEq]; first | done | rfl) rfl rfl (by rfl) (by simp only [go_sem, Nat.reduceEqDiff, reduceIte, Nat.reduceAdd, Nat.reduceMul, Nat.reduceSub, Nat.reduceLT, Nat.reduceLeDiff, Nat.reduceBEq]; first | done | rfl | (and_intros <;> rfl)) (by decide) (by intro m hm; first | omega | (rcases m with _ | _ | _ | _ | _ | _ | m <;> first | exact ⟨by decide, rfl⟩ | omega)))
  have d0 : decide (((pickV b (q + 1) 6 : Nat) : Int) = 0) = false := decide_eq_false (by omega)
  rw [if_neg c1]
  by_cases c2 : pickV b (q + 1) 6 = 1
  case pos =>
    rw [if_pos c2]
    have d1 : decide (((pickV b (q + 1) 6 : Nat) : Int) = 1) = true := decide_eq_true (by omega)
    have w1 : IntKind.i64.wrap (s.time + 1) = s.time + 1 := wrap_in (by have := inv.t0; omega) (by have := inv.t1; omega)
    have hap : (s.times.length + 1) * 8 ≤ 140737488355328 := by have := inv.h.tl; omega
    have h : AC Try.prog 104 [.c (.ph 0 0 0)] (hpL [some (rdO b p)]) 1 ⟨.t (.agg [.h 1, .d (.rs 1 (s.levels.map lvD)), .d (.rs 5 (s.sieves.map sveD)), .d (.s (.int .i64 s.keep)), .d (.s (.int .i64 s.time)), .h 2]), hpL [some (rdO b (q + 2)), some (eRow s.top), some (tmRow (s.times ++ [s.time + 1]))], 3⟩ := by
      refine AC_of Try.func104 rfl Try.ntmps104 Try.results104 (by kernel_rfl) rfl ?_
      simp only [List.zipIdx, List.map, Nat.zero_add, Nat.reduceAdd]
      repeat (first | apply Aw_seq | apply Aw_block | apply Aw_skip | apply Aw_exit | refine Aw_condt rfl ?_ | refine Aw_condf rfl ?_ | (refine qr ?_; simp only [go_sem, Nat.reduceEqDiff, reduceIte, Nat.reduceAdd, Nat.reduceMul, Nat.reduceSub, Nat.reduceLT, Nat.reduceLeDiff, Nat.reduceBEq, g0, d0, d1, w1, hap]) | (refine qd (by kernel_rfl) (by kernel_rfl) ?_; simp only [go_sem, Nat.reduceEqDiff, reduceIte, Nat.reduceAdd, Nat.reduceMul, Nat.reduceSub, Nat.reduceLT, Nat.reduceLeDiff, Nat.reduceBEq, g0, d0, d1, w1, hap]) | refine dk (by kernel_rfl) ?_ | (refine qx (call_L (N' := [0]) (L := []) (kM) rfl (.cons (.nm rfl) (.nil)) (by decide) (by decide) (by decide) (by simp only [go_sem, Nat.reduceEqDiff, reduceIte, Nat.reduceAdd, Nat.reduceMul, Nat.reduceSub, Nat.reduceLT, Nat.reduceLeDiff, Nat.reduceBEq, g0, d0, d1, w1, hap]; first | done | rfl) (.inl rfl) rfl (by decide)) (by simp only [go_sem, Nat.reduceEqDiff, reduceIte, Nat.reduceAdd, Nat.reduceMul, Nat.reduceSub, Nat.reduceLT, Nat.reduceLeDiff, Nat.reduceBEq, g0, d0, d1, w1, hap]; first | done | rfl) rfl (by simp only [go_sem, Nat.reduceLT]) ?_; simp only [go_sem, Nat.reduceEqDiff, reduceIte, Nat.reduceAdd, Nat.reduceMul, Nat.reduceSub, Nat.reduceLT, Nat.reduceLeDiff, Nat.reduceBEq, g0, d0, d1, w1, hap]) | (refine qx (call_L (N' := [0]) (L := []) (k14) rfl (.cons (.nm rfl) (.cons (.nm rfl) (.nil))) (by decide) (by decide) (by decide) (by simp only [go_sem, Nat.reduceEqDiff, reduceIte, Nat.reduceAdd, Nat.reduceMul, Nat.reduceSub, Nat.reduceLT, Nat.reduceLeDiff, Nat.reduceBEq, g0, d0, d1, w1, hap]; first | done | rfl) (.inl rfl) rfl (by decide)) (by simp only [go_sem, Nat.reduceEqDiff, reduceIte, Nat.reduceAdd, Nat.reduceMul, Nat.reduceSub, Nat.reduceLT, Nat.reduceLeDiff, Nat.reduceBEq, g0, d0, d1, w1, hap]; first | done | rfl) rfl (by simp only [go_sem, Nat.reduceLT]) ?_; simp only [go_sem, Nat.reduceEqDiff, reduceIte, Nat.reduceAdd, Nat.reduceMul, Nat.reduceSub, Nat.reduceLT, Nat.reduceLeDiff, Nat.reduceBEq, g0, d0, d1, w1, hap]) | (refine qx (call_L (N' := [0]) (L := []) (k6) rfl (.cons (.nm rfl) (.cons (.nm rfl) (.nil))) (by decide) (by decide) (by decide) (by simp only [go_sem, Nat.reduceEqDiff, reduceIte, Nat.reduceAdd, Nat.reduceMul, Nat.reduceSub, Nat.reduceLT, Nat.reduceLeDiff, Nat.reduceBEq, g0, d0, d1, w1, hap]; first | done | rfl) (.inl rfl) rfl (by decide)) (by simp only [go_sem, Nat.reduceEqDiff, reduceIte, Nat.reduceAdd, Nat.reduceMul, Nat.reduceSub, Nat.reduceLT, Nat.reduceLeDiff, Nat.reduceBEq, g0, d0, d1, w1, hap]; first | done | rfl) rfl (by simp only [go_sem, Nat.reduceLT]) ?_; simp only [go_sem, Nat.reduceEqDiff, reduceIte, Nat.reduceAdd, Nat.reduceMul, Nat.reduceSub, Nat.reduceLT, Nat.reduceLeDiff, Nat.reduceBEq, g0, d0, d1, w1, hap]))
      exact Aw_ret (retL (M := [0, 3, 20]) (.inl rfl) (by simp only [go_sem, Nat.reduceEqDiff, reduceIte, Nat.reduceAdd, Nat.reduceMul, Nat.reduceSub, Nat.reduceLT, Nat.reduceLeDiff, Nat.reduceBEq]; first | done | rfl) rfl rfl (by rfl) (by simp only [go_sem, Nat.reduceEqDiff, reduceIte, Nat.reduceAdd, Nat.reduceMul, Nat.reduceSub, Nat.reduceLT, Nat.reduceLeDiff, Nat.reduceBEq, List.map_append, List.map_cons, List.map_nil]; first | done | rfl | (and_intros <;> rfl)) (by decide) (by intro m hm; first | omega | (rcases m with _ | _ | _ | _ | _ | _ | m <;> first | exact ⟨by decide, rfl⟩ | omega)))
    refine AC.sel (M := [0, 1]) (AC.setS [2] h (y := .t (toT (sp1 s))) (os' := [some (rdO b (q + 2)), some (eRow s.top), none]) (.cons (.inl rfl) (.cons (.inl rfl) (.cons (.inl rfl) (.cons (.inl rfl) (.cons (.inl rfl) (.cons (SetC.row0 rfl rfl) .nil)))))) ⟨.inl rfl, rfl, .inl rfl, rfl, trivial⟩) rfl rfl (selL rfl ?_) (by decide) fun m hm => ?_
    · simp only [go_sem, LeftL, sp1]
    · obtain rfl : m = 0 := by omega
      exact ⟨by decide, rfl⟩
  have d1 : decide (((pickV b (q + 1) 6 : Nat) : Int) = 1) = false := decide_eq_false (by omega)
  rw [if_neg c2]
  by_cases c3 : pickV b (q + 1) 6 = 2
  case pos =>
    rw [if_pos c3]
    have d2 : decide (((pickV b (q + 1) 6 : Nat) : Int) = 2) = true := decide_eq_true (by omega)
    have hl : s.levels.length = 3 := inv.h.ll
    have e2 : List.drop (Int.toNat 1) (List.take 3 (s.levels.map lvD)) = (s.levels.drop 1).map lvD := by rw [List.take_of_length_le (by simp [hl]), List.map_drop]; rfl
    refine AC_of Try.func104 rfl Try.ntmps104 Try.results104 (by kernel_rfl) rfl ?_
    simp only [List.zipIdx, List.map, Nat.zero_add, Nat.reduceAdd]
    repeat (first | apply Aw_seq | apply Aw_block | apply Aw_skip | apply Aw_exit | refine Aw_condt rfl ?_ | refine Aw_condf rfl ?_ | (refine qr ?_; simp only [go_sem, Nat.reduceEqDiff, reduceIte, Nat.reduceAdd, Nat.reduceMul, Nat.reduceSub, Nat.reduceLT, Nat.reduceLeDiff, Nat.reduceBEq, g0, d0, d1, d2, hl, e2]) | (refine qd (by kernel_rfl) (by kernel_rfl) ?_; simp only [go_sem, Nat.reduceEqDiff, reduceIte, Nat.reduceAdd, Nat.reduceMul, Nat.reduceSub, Nat.reduceLT, Nat.reduceLeDiff, Nat.reduceBEq, g0, d0, d1, d2, hl, e2]) | refine dk (by kernel_rfl) ?_ | (refine qx (call_L (N' := [0]) (L := []) (kT) rfl (.cons (.nm rfl) (.nil)) (by decide) (by decide) (by decide) (by simp only [go_sem, Nat.reduceEqDiff, reduceIte, Nat.reduceAdd, Nat.reduceMul, Nat.reduceSub, Nat.reduceLT, Nat.reduceLeDiff, Nat.reduceBEq, g0, d0, d1, d2, hl, e2]; first | done | rfl) (.inl rfl) rfl (by decide)) (by simp only [go_sem, Nat.reduceEqDiff, reduceIte, Nat.reduceAdd, Nat.reduceMul, Nat.reduceSub, Nat.reduceLT, Nat.reduceLeDiff, Nat.reduceBEq, g0, d0, d1, d2, hl, e2]; first | done | rfl) rfl (by simp only [go_sem, Nat.reduceLT]) ?_; simp only [go_sem, Nat.reduceEqDiff, reduceIte, Nat.reduceAdd, Nat.reduceMul, Nat.reduceSub, Nat.reduceLT, Nat.reduceLeDiff, Nat.reduceBEq, g0, d0, d1, d2, hl, e2]) | (refine qx (call_L (N' := [0]) (L := []) (k14) rfl (.cons (.nm rfl) (.cons (.nm rfl) (.nil))) (by decide) (by decide) (by decide) (by simp only [go_sem, Nat.reduceEqDiff, reduceIte, Nat.reduceAdd, Nat.reduceMul, Nat.reduceSub, Nat.reduceLT, Nat.reduceLeDiff, Nat.reduceBEq, g0, d0, d1, d2, hl, e2]; first | done | rfl) (.inl rfl) rfl (by decide)) (by simp only [go_sem, Nat.reduceEqDiff, reduceIte, Nat.reduceAdd, Nat.reduceMul, Nat.reduceSub, Nat.reduceLT, Nat.reduceLeDiff, Nat.reduceBEq, g0, d0, d1, d2, hl, e2]; first | done | rfl) rfl (by simp only [go_sem, Nat.reduceLT]) ?_; simp only [go_sem, Nat.reduceEqDiff, reduceIte, Nat.reduceAdd, Nat.reduceMul, Nat.reduceSub, Nat.reduceLT, Nat.reduceLeDiff, Nat.reduceBEq, g0, d0, d1, d2, hl, e2]) | (refine qx (call_L (N' := [0]) (L := []) (k6) rfl (.cons (.nm rfl) (.cons (.nm rfl) (.nil))) (by decide) (by decide) (by decide) (by simp only [go_sem, Nat.reduceEqDiff, reduceIte, Nat.reduceAdd, Nat.reduceMul, Nat.reduceSub, Nat.reduceLT, Nat.reduceLeDiff, Nat.reduceBEq, g0, d0, d1, d2, hl, e2]; first | done | rfl) (.inl rfl) rfl (by decide)) (by simp only [go_sem, Nat.reduceEqDiff, reduceIte, Nat.reduceAdd, Nat.reduceMul, Nat.reduceSub, Nat.reduceLT, Nat.reduceLeDiff, Nat.reduceBEq, g0, d0, d1, d2, hl, e2]; first | done | rfl) rfl (by simp only [go_sem, Nat.reduceLT]) ?_; simp only [go_sem, Nat.reduceEqDiff, reduceIte, Nat.reduceAdd, Nat.reduceMul, Nat.reduceSub, Nat.reduceLT, Nat.reduceLeDiff, Nat.reduceBEq, g0, d0, d1, d2, hl, e2]))
    exact Aw_ret (retL (M := [0, 3]) (.inl rfl) (by simp only [go_sem, Nat.reduceEqDiff, reduceIte, Nat.reduceAdd, Nat.reduceMul, Nat.reduceSub, Nat.reduceLT, Nat.reduceLeDiff, Nat.reduceBEq]; first | done | rfl) rfl rfl (by rfl) (by simp only [go_sem, Nat.reduceEqDiff, reduceIte, Nat.reduceAdd, Nat.reduceMul, Nat.reduceSub, Nat.reduceLT, Nat.reduceLeDiff, Nat.reduceBEq]; first | done | rfl | (and_intros <;> rfl)) (by decide) (by intro m hm; first | omega | (rcases m with _ | _ | _ | _ | _ | _ | m <;> first | exact ⟨by decide, rfl⟩ | omega)))
  have d2 : decide (((pickV b (q + 1) 6 : Nat) : Int) = 2) = false := decide_eq_false (by omega)
  rw [if_neg c3]
  by_cases c4 : pickV b (q + 1) 6 = 3
  case pos =>
    rw [if_pos c4]
    have d3 : decide (((pickV b (q + 1) 6 : Nat) : Int) = 3) = true := decide_eq_true (by omega)
    obtain ⟨x, y, z, hxyz⟩ := len3 inv.h.sl
    have hsz : x.letters.size ≤ 1000 := hlet x (by rw [hxyz]; simp)
    have hap : x.letters.size ≤ 9223372036854775806 := by omega
    rw [hxyz] at kV
    have h : AC Try.prog 104 [.c (.ph 0 0 0)] (hpL [some (rdO b p)]) 1 ⟨.t (.agg [.h 1, .d (.rs 1 (s.levels.map lvD)), .h 2, .d (.s (.int .i64 s.keep)), .d (.s (.int .i64 s.time)), .d (.rs 1 (s.times.map intD))]), hpL [some (rdO b (q + 2)), some (eRow s.top), some (svRow [upL x, y, z])], 3⟩ := by
      refine AC_of Try.func104 rfl Try.ntmps104 Try.results104 (by kernel_rfl) rfl ?_
      simp only [List.zipIdx, List.map, Nat.zero_add, Nat.reduceAdd]
      repeat (first | apply Aw_seq | apply Aw_block | apply Aw_skip | apply Aw_exit | refine Aw_condt rfl ?_ | refine Aw_condf rfl ?_ | (refine qr ?_; simp only [go_sem, Nat.reduceEqDiff, reduceIte, Nat.reduceAdd, Nat.reduceMul, Nat.reduceSub, Nat.reduceLT, Nat.reduceLeDiff, Nat.reduceBEq, g0, d0, d1, d2, d3, hap]) | (refine qd (by kernel_rfl) (by kernel_rfl) ?_; simp only [go_sem, Nat.reduceEqDiff, reduceIte, Nat.reduceAdd, Nat.reduceMul, Nat.reduceSub, Nat.reduceLT, Nat.reduceLeDiff, Nat.reduceBEq, g0, d0, d1, d2, d3, hap]) | refine dk (by kernel_rfl) ?_ | (refine qx (call_L (N' := [0]) (L := []) (kV) rfl (.cons (.nm rfl) (.nil)) (by decide) (by decide) (by decide) (by simp only [go_sem, Nat.reduceEqDiff, reduceIte, Nat.reduceAdd, Nat.reduceMul, Nat.reduceSub, Nat.reduceLT, Nat.reduceLeDiff, Nat.reduceBEq, g0, d0, d1, d2, d3, hap]; first | done | rfl) (.inl rfl) rfl (by decide)) (by simp only [go_sem, Nat.reduceEqDiff, reduceIte, Nat.reduceAdd, Nat.reduceMul, Nat.reduceSub, Nat.reduceLT, Nat.reduceLeDiff, Nat.reduceBEq, g0, d0, d1, d2, d3, hap]; first | done | rfl) rfl (by simp only [go_sem, Nat.reduceLT]) ?_; simp only [go_sem, Nat.reduceEqDiff, reduceIte, Nat.reduceAdd, Nat.reduceMul, Nat.reduceSub, Nat.reduceLT, Nat.reduceLeDiff, Nat.reduceBEq, g0, d0, d1, d2, d3, hap]) | (refine qx (call_L (N' := [0]) (L := []) (k14) rfl (.cons (.nm rfl) (.cons (.nm rfl) (.nil))) (by decide) (by decide) (by decide) (by simp only [go_sem, Nat.reduceEqDiff, reduceIte, Nat.reduceAdd, Nat.reduceMul, Nat.reduceSub, Nat.reduceLT, Nat.reduceLeDiff, Nat.reduceBEq, g0, d0, d1, d2, d3, hap]; first | done | rfl) (.inl rfl) rfl (by decide)) (by simp only [go_sem, Nat.reduceEqDiff, reduceIte, Nat.reduceAdd, Nat.reduceMul, Nat.reduceSub, Nat.reduceLT, Nat.reduceLeDiff, Nat.reduceBEq, g0, d0, d1, d2, d3, hap]; first | done | rfl) rfl (by simp only [go_sem, Nat.reduceLT]) ?_; simp only [go_sem, Nat.reduceEqDiff, reduceIte, Nat.reduceAdd, Nat.reduceMul, Nat.reduceSub, Nat.reduceLT, Nat.reduceLeDiff, Nat.reduceBEq, g0, d0, d1, d2, d3, hap]) | (refine qx (call_L (N' := [0]) (L := []) (k6) rfl (.cons (.nm rfl) (.cons (.nm rfl) (.nil))) (by decide) (by decide) (by decide) (by simp only [go_sem, Nat.reduceEqDiff, reduceIte, Nat.reduceAdd, Nat.reduceMul, Nat.reduceSub, Nat.reduceLT, Nat.reduceLeDiff, Nat.reduceBEq, g0, d0, d1, d2, d3, hap]; first | done | rfl) (.inl rfl) rfl (by decide)) (by simp only [go_sem, Nat.reduceEqDiff, reduceIte, Nat.reduceAdd, Nat.reduceMul, Nat.reduceSub, Nat.reduceLT, Nat.reduceLeDiff, Nat.reduceBEq, g0, d0, d1, d2, d3, hap]; first | done | rfl) rfl (by simp only [go_sem, Nat.reduceLT]) ?_; simp only [go_sem, Nat.reduceEqDiff, reduceIte, Nat.reduceAdd, Nat.reduceMul, Nat.reduceSub, Nat.reduceLT, Nat.reduceLeDiff, Nat.reduceBEq, g0, d0, d1, d2, d3, hap]))
      exact Aw_ret (retL (M := [0, 3, 4]) (.inl rfl) (by simp only [go_sem, Nat.reduceEqDiff, reduceIte, Nat.reduceAdd, Nat.reduceMul, Nat.reduceSub, Nat.reduceLT, Nat.reduceLeDiff, Nat.reduceBEq]; first | done | rfl) rfl rfl (by rfl) (by simp only [go_sem, Nat.reduceEqDiff, reduceIte, Nat.reduceAdd, Nat.reduceMul, Nat.reduceSub, Nat.reduceLT, Nat.reduceLeDiff, Nat.reduceBEq, upL]; first | done | rfl | (and_intros <;> rfl)) (by decide) (by intro m hm; first | omega | (rcases m with _ | _ | _ | _ | _ | _ | m <;> first | exact ⟨by decide, rfl⟩ | omega)))
    have e3 : (sp3 s).sieves = [upL x, y, z] := by unfold sp3; rw [hxyz]; rfl
    show AC Try.prog 104 [.c (.ph 0 0 0)] (hpL [some (rdO b p)]) 1 ⟨.t (.agg [.h 1, .d (.rs 1 (s.levels.map lvD)), .d (.rs 5 ((sp3 s).sieves.map sveD)), .d (.s (.int .i64 s.keep)), .d (.s (.int .i64 s.time)), .d (.rs 1 (s.times.map intD))]), hpL [some (rdO b (q + 2)), some (eRow s.top)], 2⟩
    rw [e3]
    refine AC.sel (M := [0, 1]) (AC.setS [2] h (y := .t (.agg [.h 1, .d (.rs 1 (s.levels.map lvD)), .d (.rs 5 ([upL x, y, z].map sveD)), .d (.s (.int .i64 s.keep)), .d (.s (.int .i64 s.time)), .d (.rs 1 (s.times.map intD))])) (os' := [some (rdO b (q + 2)), some (eRow s.top), none]) (.cons (.inl rfl) (.cons (.inl rfl) (.cons (SetC.row0 rfl rfl) (.cons (.inl rfl) (.cons (.inl rfl) (.cons (.inl rfl) .nil)))))) ⟨.inl rfl, rfl, .inl rfl, rfl, trivial⟩) rfl rfl (selL rfl ?_) (by decide) fun m hm => ?_
    · simp only [go_sem, LeftL]
    · obtain rfl : m = 0 := by omega
      exact ⟨by decide, rfl⟩
  have d3 : decide (((pickV b (q + 1) 6 : Nat) : Int) = 3) = false := decide_eq_false (by omega)
  rw [if_neg c4]
  by_cases c5 : pickV b (q + 1) 6 = 4
  case pos =>
    rw [if_pos c5]
    have d4 : decide (((pickV b (q + 1) 6 : Nat) : Int) = 4) = true := decide_eq_true (by omega)
    refine AC_of Try.func104 rfl Try.ntmps104 Try.results104 (by kernel_rfl) rfl ?_
    simp only [List.zipIdx, List.map, Nat.zero_add, Nat.reduceAdd]
    repeat (first | apply Aw_seq | apply Aw_block | apply Aw_skip | apply Aw_exit | refine Aw_condt rfl ?_ | refine Aw_condf rfl ?_ | (refine qr ?_; simp only [go_sem, Nat.reduceEqDiff, reduceIte, Nat.reduceAdd, Nat.reduceMul, Nat.reduceSub, Nat.reduceLT, Nat.reduceLeDiff, Nat.reduceBEq, g0, d0, d1, d2, d3, d4]) | (refine qd (by kernel_rfl) (by kernel_rfl) ?_; simp only [go_sem, Nat.reduceEqDiff, reduceIte, Nat.reduceAdd, Nat.reduceMul, Nat.reduceSub, Nat.reduceLT, Nat.reduceLeDiff, Nat.reduceBEq, g0, d0, d1, d2, d3, d4]) | refine dk (by kernel_rfl) ?_ | (refine qx (call_L (N' := [0]) (L := []) (kT) rfl (.cons (.nm rfl) (.nil)) (by decide) (by decide) (by decide) (by simp only [go_sem, Nat.reduceEqDiff, reduceIte, Nat.reduceAdd, Nat.reduceMul, Nat.reduceSub, Nat.reduceLT, Nat.reduceLeDiff, Nat.reduceBEq, g0, d0, d1, d2, d3, d4]; first | done | rfl) (.inl rfl) rfl (by decide)) (by simp only [go_sem, Nat.reduceEqDiff, reduceIte, Nat.reduceAdd, Nat.reduceMul, Nat.reduceSub, Nat.reduceLT, Nat.reduceLeDiff, Nat.reduceBEq, g0, d0, d1, d2, d3, d4]; first | done | rfl) rfl (by simp only [go_sem, Nat.reduceLT]) ?_; simp only [go_sem, Nat.reduceEqDiff, reduceIte, Nat.reduceAdd, Nat.reduceMul, Nat.reduceSub, Nat.reduceLT, Nat.reduceLeDiff, Nat.reduceBEq, g0, d0, d1, d2, d3, d4]) | (refine qx (call_L (N' := [0]) (L := []) (k14) rfl (.cons (.nm rfl) (.cons (.nm rfl) (.nil))) (by decide) (by decide) (by decide) (by simp only [go_sem, Nat.reduceEqDiff, reduceIte, Nat.reduceAdd, Nat.reduceMul, Nat.reduceSub, Nat.reduceLT, Nat.reduceLeDiff, Nat.reduceBEq, g0, d0, d1, d2, d3, d4]; first | done | rfl) (.inl rfl) rfl (by decide)) (by simp only [go_sem, Nat.reduceEqDiff, reduceIte, Nat.reduceAdd, Nat.reduceMul, Nat.reduceSub, Nat.reduceLT, Nat.reduceLeDiff, Nat.reduceBEq, g0, d0, d1, d2, d3, d4]; first | done | rfl) rfl (by simp only [go_sem, Nat.reduceLT]) ?_; simp only [go_sem, Nat.reduceEqDiff, reduceIte, Nat.reduceAdd, Nat.reduceMul, Nat.reduceSub, Nat.reduceLT, Nat.reduceLeDiff, Nat.reduceBEq, g0, d0, d1, d2, d3, d4]) | (refine qx (call_L (N' := [0]) (L := []) (k6) rfl (.cons (.nm rfl) (.cons (.nm rfl) (.nil))) (by decide) (by decide) (by decide) (by simp only [go_sem, Nat.reduceEqDiff, reduceIte, Nat.reduceAdd, Nat.reduceMul, Nat.reduceSub, Nat.reduceLT, Nat.reduceLeDiff, Nat.reduceBEq, g0, d0, d1, d2, d3, d4]; first | done | rfl) (.inl rfl) rfl (by decide)) (by simp only [go_sem, Nat.reduceEqDiff, reduceIte, Nat.reduceAdd, Nat.reduceMul, Nat.reduceSub, Nat.reduceLT, Nat.reduceLeDiff, Nat.reduceBEq, g0, d0, d1, d2, d3, d4]; first | done | rfl) rfl (by simp only [go_sem, Nat.reduceLT]) ?_; simp only [go_sem, Nat.reduceEqDiff, reduceIte, Nat.reduceAdd, Nat.reduceMul, Nat.reduceSub, Nat.reduceLT, Nat.reduceLeDiff, Nat.reduceBEq, g0, d0, d1, d2, d3, d4]))
    exact Aw_ret (retL (M := [0, 3]) (.inl rfl) (by simp only [go_sem, Nat.reduceEqDiff, reduceIte, Nat.reduceAdd, Nat.reduceMul, Nat.reduceSub, Nat.reduceLT, Nat.reduceLeDiff, Nat.reduceBEq]; first | done | rfl) rfl rfl (by rfl) (by simp only [go_sem, Nat.reduceEqDiff, reduceIte, Nat.reduceAdd, Nat.reduceMul, Nat.reduceSub, Nat.reduceLT, Nat.reduceLeDiff, Nat.reduceBEq]; first | done | rfl | (and_intros <;> rfl)) (by decide) (by intro m hm; first | omega | (rcases m with _ | _ | _ | _ | _ | _ | m <;> first | exact ⟨by decide, rfl⟩ | omega)))
  have d4 : decide (((pickV b (q + 1) 6 : Nat) : Int) = 4) = false := decide_eq_false (by omega)
  rw [if_neg c5]
  have hap : (s.top.length + 1) * 40 ≤ 140737488355328 := by have := inv.tp; omega
  refine AC_of Try.func104 rfl Try.ntmps104 Try.results104 (by kernel_rfl) rfl ?_
  simp only [List.zipIdx, List.map, Nat.zero_add, Nat.reduceAdd]
  repeat (first | apply Aw_seq | apply Aw_block | apply Aw_skip | apply Aw_exit | refine Aw_condt rfl ?_ | refine Aw_condf rfl ?_ | (refine qr ?_; simp only [go_sem, Nat.reduceEqDiff, reduceIte, Nat.reduceAdd, Nat.reduceMul, Nat.reduceSub, Nat.reduceLT, Nat.reduceLeDiff, Nat.reduceBEq, g0, d0, d1, d2, d3, d4, hap]) | (refine qd (by kernel_rfl) (by kernel_rfl) ?_; simp only [go_sem, Nat.reduceEqDiff, reduceIte, Nat.reduceAdd, Nat.reduceMul, Nat.reduceSub, Nat.reduceLT, Nat.reduceLeDiff, Nat.reduceBEq, g0, d0, d1, d2, d3, d4, hap]) | refine dk (by kernel_rfl) ?_ | (refine qx (call_L (N' := [0]) (L := []) (kT) rfl (.cons (.nm rfl) (.nil)) (by decide) (by decide) (by decide) (by simp only [go_sem, Nat.reduceEqDiff, reduceIte, Nat.reduceAdd, Nat.reduceMul, Nat.reduceSub, Nat.reduceLT, Nat.reduceLeDiff, Nat.reduceBEq, g0, d0, d1, d2, d3, d4, hap]; first | done | rfl) (.inl rfl) rfl (by decide)) (by simp only [go_sem, Nat.reduceEqDiff, reduceIte, Nat.reduceAdd, Nat.reduceMul, Nat.reduceSub, Nat.reduceLT, Nat.reduceLeDiff, Nat.reduceBEq, g0, d0, d1, d2, d3, d4, hap]; first | done | rfl) rfl (by simp only [go_sem, Nat.reduceLT]) ?_; simp only [go_sem, Nat.reduceEqDiff, reduceIte, Nat.reduceAdd, Nat.reduceMul, Nat.reduceSub, Nat.reduceLT, Nat.reduceLeDiff, Nat.reduceBEq, g0, d0, d1, d2, d3, d4, hap]) | (refine qx (call_L (N' := [0]) (L := []) (k14) rfl (.cons (.nm rfl) (.cons (.nm rfl) (.nil))) (by decide) (by decide) (by decide) (by simp only [go_sem, Nat.reduceEqDiff, reduceIte, Nat.reduceAdd, Nat.reduceMul, Nat.reduceSub, Nat.reduceLT, Nat.reduceLeDiff, Nat.reduceBEq, g0, d0, d1, d2, d3, d4, hap]; first | done | rfl) (.inl rfl) rfl (by decide)) (by simp only [go_sem, Nat.reduceEqDiff, reduceIte, Nat.reduceAdd, Nat.reduceMul, Nat.reduceSub, Nat.reduceLT, Nat.reduceLeDiff, Nat.reduceBEq, g0, d0, d1, d2, d3, d4, hap]; first | done | rfl) rfl (by simp only [go_sem, Nat.reduceLT]) ?_; simp only [go_sem, Nat.reduceEqDiff, reduceIte, Nat.reduceAdd, Nat.reduceMul, Nat.reduceSub, Nat.reduceLT, Nat.reduceLeDiff, Nat.reduceBEq, g0, d0, d1, d2, d3, d4, hap]) | (refine qx (call_L (N' := [0]) (L := []) (k6) rfl (.cons (.nm rfl) (.cons (.nm rfl) (.nil))) (by decide) (by decide) (by decide) (by simp only [go_sem, Nat.reduceEqDiff, reduceIte, Nat.reduceAdd, Nat.reduceMul, Nat.reduceSub, Nat.reduceLT, Nat.reduceLeDiff, Nat.reduceBEq, g0, d0, d1, d2, d3, d4, hap]; first | done | rfl) (.inl rfl) rfl (by decide)) (by simp only [go_sem, Nat.reduceEqDiff, reduceIte, Nat.reduceAdd, Nat.reduceMul, Nat.reduceSub, Nat.reduceLT, Nat.reduceLeDiff, Nat.reduceBEq, g0, d0, d1, d2, d3, d4, hap]; first | done | rfl) rfl (by simp only [go_sem, Nat.reduceLT]) ?_; simp only [go_sem, Nat.reduceEqDiff, reduceIte, Nat.reduceAdd, Nat.reduceMul, Nat.reduceSub, Nat.reduceLT, Nat.reduceLeDiff, Nat.reduceBEq, g0, d0, d1, d2, d3, d4, hap]))
  exact Aw_ret (retL (M := [0, 23]) (.inl rfl) (by simp only [go_sem, Nat.reduceEqDiff, reduceIte, Nat.reduceAdd, Nat.reduceMul, Nat.reduceSub, Nat.reduceLT, Nat.reduceLeDiff, Nat.reduceBEq]; first | done | rfl) rfl rfl (by rfl) (by simp only [go_sem, Nat.reduceEqDiff, reduceIte, Nat.reduceAdd, Nat.reduceMul, Nat.reduceSub, Nat.reduceLT, Nat.reduceLeDiff, Nat.reduceBEq, sp5, List.map_append, List.map_cons, List.map_nil]; first | done | rfl | (and_intros <;> rfl)) (by decide) (by intro m hm; first | omega | (rcases m with _ | _ | _ | _ | _ | _ | m <;> first | exact ⟨by decide, rfl⟩ | omega)))
end Go.Proofs.Ytcbhgglpgphimaa.Ab
namespace Go.Proofs.Ytcbhgglpgphimaa.Ab
set_option linter.deprecated false
set_option linter.unusedVariables false
set_option linter.unusedSimpArgs false
open Go Go.Proofs
set_option maxRecDepth 10000
set_option maxHeartbeats 8000000
set_option linter.unusedSimpArgs false
set_option linter.unusedVariables false
structure SpS (s : Sto) : Prop where
  st : SmSt s
  t0 : -1 ≤ s.time
  t1 : s.time ≤ 1000
theorem spoV_fin {b : List Int} (hb : byteL b) {p : Nat} (hp : p ≤ 90000) : SpS (spoV b p).1 ∧ (spoV b p).2 ≤ p + 2010 := by
  obtain ⟨inv, st, hq⟩ := stoV_fin hb hp
  unfold spoV
  generalize stoV b p = sq at inv st hq ⊢
  obtain ⟨s, q⟩ := sq
  dsimp only at inv st hq ⊢
  have i0 := inv.t0
  have i1 := inv.t1
  have hll := inv.h.ll
  have htl := inv.h.tl
  have base : SpS s := ⟨st, by omega, by omega⟩
  split
  · exact ⟨base, by dsimp only; omega⟩
  split
  · refine ⟨⟨⟨st.top, st.lev, st.ll, st.sl, st.rl, st.tl⟩, ?_, ?_⟩, by dsimp only; omega⟩
    · show -1 ≤ (if _ = 0 then (-1 : Int) else 1000); split <;> omega
    · show (if _ = 0 then (-1 : Int) else 1000) ≤ 1000; split <;> omega
  split
  · exact ⟨⟨⟨st.top, st.lev, st.ll, st.sl, st.rl, by show (s.times ++ [s.time + 1]).length ≤ _; rw [List.length_append]; simp; omega⟩, by show -1 ≤ s.time; omega, by show s.time ≤ 1000; omega⟩, by dsimp only; omega⟩
  split
  · exact ⟨⟨⟨st.top, fun r hr => st.lev r (List.mem_of_mem_drop hr), by show (s.levels.drop 1).length ≤ _; rw [List.length_drop]; omega, st.sl, st.rl, st.tl⟩, by show -1 ≤ s.time; omega, by show s.time ≤ 1000; omega⟩, by dsimp only; omega⟩
  split
  · refine ⟨⟨⟨st.top, st.lev, st.ll, ?_, ?_, st.tl⟩, by show -1 ≤ s.time; omega, by show s.time ≤ 1000; omega⟩, by dsimp only; omega⟩
    · show (s.sieves.modifyHead upL).length ≤ _; rw [List.length_modifyHead]; exact st.sl
    · intro x hx
      replace hx : x ∈ s.sieves.modifyHead upL := hx
      have hr := st.rl
      cases hs : s.sieves with
      | nil => rw [hs] at hx; simp at hx
      | cons y r =>
        rw [hs] at hx hr
        rcases List.mem_cons.1 (show x ∈ upL y :: r from hx) with rfl | h
        · exact hr y (by simp)
        · exact hr x (List.mem_cons_of_mem _ h)
  split
  · exact ⟨⟨⟨st.top, st.lev, st.ll, st.sl, st.rl, st.tl⟩, by show -1 ≤ s.time; omega, by show s.time ≤ 1000; omega⟩, by dsimp only; omega⟩
  · refine ⟨⟨⟨⟨?_, ?_⟩, st.lev, st.ll, st.sl, st.rl, st.tl⟩, by show -1 ≤ s.time; omega, by show s.time ≤ 1000; omega⟩, by dsimp only; omega⟩
    · show (s.top ++ [_]).length ≤ _; rw [List.length_append]; have := inv.tp; simp; omega
    · intro e he
      rcases List.mem_append.1 (show e ∈ s.top ++ [_] from he) with h | h
      · exact st.top.key e h
      · obtain rfl := List.mem_singleton.1 h
        show (ByteArray.size ⟨#[]⟩) ≤ _
        decide
end Go.Proofs.Ytcbhgglpgphimaa.Ab
namespace Go.Proofs.Ytcbhgglpgphimaa.Ab
set_option linter.deprecated false
set_option linter.unusedVariables false
set_option linter.unusedSimpArgs false
open Go Go.Proofs
set_option maxRecDepth 10000
set_option maxHeartbeats 8000000
set_option linter.unusedSimpArgs false
set_option linter.unusedVariables false
def setT0 (s : Sto) (v : Nat) : Sto := { s with top := s.top.modifyHead fun e => { e with time := (v : Int) } }
noncomputable def dsoV (b : List Int) : Sto := let s := spoV b 0
  if pickV b s.2 3 = 0 ∧ 0 < s.1.top.length then setT0 s.1 (pickV b (s.2 + 1) (s.1.time + 3)) else s.1
theorem setT0_st {s : Sto} {v : Nat} (h : SmSt s) : SmSt (setT0 s v) := by
  refine ⟨⟨?_, ?_⟩, h.lev, h.ll, h.sl, h.rl, h.tl⟩
  · show (s.top.modifyHead _).length ≤ _; rw [List.length_modifyHead]; exact h.top.len
  · intro x hx
    replace hx : x ∈ s.top.modifyHead fun e => { e with time := (v : Int) } := hx
    have hr := h.top.key
    cases hs : s.top with
    | nil => rw [hs] at hx; simp at hx
    | cons y r =>
      rw [hs] at hx hr
      rcases List.mem_cons.1 (show x ∈ ({ y with time := (v : Int) } : Ent) :: r from hx) with rfl | h
      · exact hr y (by simp)
      · exact hr x (List.mem_cons_of_mem _ h)
theorem dsoV_st {b : List Int} (hb : byteL b) : SmSt (dsoV b) := by
  obtain ⟨h, _⟩ := spoV_fin hb (p := 0) (by omega)
  unfold dsoV
  dsimp only
  split
  · exact setT0_st h.st
  · exact h.st
abbrev toT0 (s : Sto) : TV := .agg [.h 0, .d (.rs 1 (s.levels.map lvD)), .d (.rs 5 (s.sieves.map sveD)), .d (.s (.int .i64 s.keep)), .d (.s (.int .i64 s.time)), .d (.rs 1 (s.times.map intD))]
theorem toT0_set {f : FuncId} {args : List TV} {s : Sto} (h : AC Try.prog f args noHp 0 ⟨.t (toT0 s), hpL [some (eRow s.top)], 1⟩) : AC Try.prog f args noHp 0 ⟨.t (stT s), noHp, 0⟩ :=
  AC.settle0 [0] h (.cons (SetC.row0 rfl rfl) (.cons (.inl rfl) (.cons (.inl rfl) (.cons (.inl rfl) (.cons (.inl rfl) (.cons (.inl rfl) .nil)))))) rfl
theorem drawStoreOk_ac (c : List Int) (hl : c.length ≤ 1099511627776) (hb : byteL (c.take 2000)) : AC Try.prog 40 [bytesT c] noHp 0 ⟨.t (stT (dsoV (c.take 2000))), noHp, 0⟩ := by
  have k0 := l6Open_ac c hl
  obtain ⟨b, hbe⟩ : ∃ b, b = c.take 2000 := ⟨_, rfl⟩
  rw [← hbe] at hb k0 ⊢
  obtain ⟨h, hq⟩ := spoV_fin hb (p := 0) (by omega)
  have ks := l71Spoilt_ac hb (p := 0) (by omega)
  unfold dsoV
  generalize spoV b 0 = sq at h hq ks ⊢
  obtain ⟨s, q⟩ := sq
  dsimp only at h hq ks ⊢
  have t0 := h.t0
  have t1 := h.t1
  have k3 := pickV_ac (n := 3) hb (show q ≤ 1000000 by omega) (by omega)
  refine toT0_set ?_
  by_cases c1 : pickV b q 3 = 0
  case neg =>
    rw [if_neg (by omega)]
    have g1 : decide (((pickV b q 3 : Nat) : Int) = 0) = false := decide_eq_false (by omega)
    refine AC_of Try.func40 rfl Try.ntmps40 Try.results40 (by kernel_rfl) rfl ?_
    simp only [List.zipIdx, List.map, Nat.zero_add, Nat.reduceAdd]
    repeat (first | apply Aw_seq | apply Aw_block | apply Aw_skip | apply Aw_exit | refine Aw_condt rfl ?_ | refine Aw_condf rfl ?_ | (refine qr ?_; simp only [go_sem, Nat.reduceEqDiff, reduceIte, Nat.reduceAdd, Nat.reduceMul, Nat.reduceSub, Nat.reduceLT, Nat.reduceLeDiff, Nat.reduceBEq, g1]) | (refine qd (by kernel_rfl) (by kernel_rfl) ?_; simp only [go_sem, Nat.reduceEqDiff, reduceIte, Nat.reduceAdd, Nat.reduceMul, Nat.reduceSub, Nat.reduceLT, Nat.reduceLeDiff, Nat.reduceBEq, g1]) | refine dk (by kernel_rfl) ?_ | (refine qx (call_N (L := []) (k0) rfl (.cons (.nm rfl) (.nil)) (.inl rfl) rfl) (by simp only [go_sem, Nat.reduceEqDiff, reduceIte, Nat.reduceAdd, Nat.reduceMul, Nat.reduceSub, Nat.reduceLT, Nat.reduceLeDiff, Nat.reduceBEq, g1]; first | done | rfl) rfl (by simp only [go_sem, Nat.reduceLT]) ?_; simp only [go_sem, Nat.reduceEqDiff, reduceIte, Nat.reduceAdd, Nat.reduceMul, Nat.reduceSub, Nat.reduceLT, Nat.reduceLeDiff, Nat.reduceBEq, g1]) | (refine qx (call_L (N' := [2]) (L := []) (ks) rfl (.cons (.nm rfl) (.nil)) (by decide) (by decide) (by decide) (by simp only [go_sem, Nat.reduceEqDiff, reduceIte, Nat.reduceAdd, Nat.reduceMul, Nat.reduceSub, Nat.reduceLT, Nat.reduceLeDiff, Nat.reduceBEq, g1]; first | done | rfl) (.inl rfl) rfl (by decide)) (by simp only [go_sem, Nat.reduceEqDiff, reduceIte, Nat.reduceAdd, Nat.reduceMul, Nat.reduceSub, Nat.reduceLT, Nat.reduceLeDiff, Nat.reduceBEq, g1]; first | done | rfl) rfl (by simp only [go_sem, Nat.reduceLT]) ?_; simp only [go_sem, Nat.reduceEqDiff, reduceIte, Nat.reduceAdd, Nat.reduceMul, Nat.reduceSub, Nat.reduceLT, Nat.reduceLeDiff, Nat.reduceBEq, g1]) | (refine qx (call_L (N' := [2]) (L := []) (k3) rfl (.cons (.nm rfl) (.cons (.nm rfl) (.nil))) (by decide) (by decide) (by decide) (by simp only [go_sem, Nat.reduceEqDiff, reduceIte, Nat.reduceAdd, Nat.reduceMul, Nat.reduceSub, Nat.reduceLT, Nat.reduceLeDiff, Nat.reduceBEq, g1]; first | done | rfl) (.inl rfl) rfl (by decide)) (by simp only [go_sem, Nat.reduceEqDiff, reduceIte, Nat.reduceAdd, Nat.reduceMul, Nat.reduceSub, Nat.reduceLT, Nat.reduceLeDiff, Nat.reduceBEq, g1]; first | done | rfl) rfl (by simp only [go_sem, Nat.reduceLT]) ?_; simp only [go_sem, Nat.reduceEqDiff, reduceIte, Nat.reduceAdd, Nat.reduceMul, Nat.reduceSub, Nat.reduceLT, Nat.reduceLeDiff, Nat.reduceBEq, g1]))
    exact Aw_ret (retL (M := [5]) (.inl rfl) (by simp only [go_sem, Nat.reduceEqDiff, reduceIte, Nat.reduceAdd, Nat.reduceMul, Nat.reduceSub, Nat.reduceLT, Nat.reduceLeDiff, Nat.reduceBEq]; first | done | rfl) rfl rfl (by rfl) (by simp only [go_sem, Nat.reduceEqDiff, reduceIte, Nat.reduceAdd, Nat.reduceMul, Nat.reduceSub, Nat.reduceLT, Nat.reduceLeDiff, Nat.reduceBEq]; first | done | rfl | (and_intros <;> rfl)) (by decide) (by intro m hm; first | omega | (rcases m with _ | _ | _ | _ | _ | _ | m <;> first | exact ⟨by decide, rfl⟩ | omega)))
  have g1 : decide (((pickV b q 3 : Nat) : Int) = 0) = true := decide_eq_true (by omega)
  by_cases c2 : 0 < s.top.length
  case neg =>
    rw [if_neg (by omega)]
    have g2 : decide ((0 : Int) < (s.top.length : Int)) = false := decide_eq_false (by omega)
    refine AC_of Try.func40 rfl Try.ntmps40 Try.results40 (by kernel_rfl) rfl ?_
    simp only [List.zipIdx, List.map, Nat.zero_add, Nat.reduceAdd]
    repeat (first | apply Aw_seq | apply Aw_block | apply Aw_skip | apply Aw_exit | refine Aw_condt rfl ?_ | refine Aw_condf rfl ?_ | (refine qr ?_; simp only [go_sem, Nat.reduceEqDiff, reduceIte, Nat.reduceAdd, Nat.reduceMul, Nat.reduceSub, Nat.reduceLT, Nat.reduceLeDiff, Nat.reduceBEq, g1, g2]) | (refine qd (by kernel_rfl) (by kernel_rfl) ?_; simp only [go_sem, Nat.reduceEqDiff, reduceIte, Nat.reduceAdd, Nat.reduceMul, Nat.reduceSub, Nat.reduceLT, Nat.reduceLeDiff, Nat.reduceBEq, g1, g2]) | refine dk (by kernel_rfl) ?_ | (refine qx (call_N (L := []) (k0) rfl (.cons (.nm rfl) (.nil)) (.inl rfl) rfl) (by simp only [go_sem, Nat.reduceEqDiff, reduceIte, Nat.reduceAdd, Nat.reduceMul, Nat.reduceSub, Nat.reduceLT, Nat.reduceLeDiff, Nat.reduceBEq, g1, g2]; first | done | rfl) rfl (by simp only [go_sem, Nat.reduceLT]) ?_; simp only [go_sem, Nat.reduceEqDiff, reduceIte, Nat.reduceAdd, Nat.reduceMul, Nat.reduceSub, Nat.reduceLT, Nat.reduceLeDiff, Nat.reduceBEq, g1, g2]) | (refine qx (call_L (N' := [2]) (L := []) (ks) rfl (.cons (.nm rfl) (.nil)) (by decide) (by decide) (by decide) (by simp only [go_sem, Nat.reduceEqDiff, reduceIte, Nat.reduceAdd, Nat.reduceMul, Nat.reduceSub, Nat.reduceLT, Nat.reduceLeDiff, Nat.reduceBEq, g1, g2]; first | done | rfl) (.inl rfl) rfl (by decide)) (by simp only [go_sem, Nat.reduceEqDiff, reduceIte, Nat.reduceAdd, Nat.reduceMul, Nat.reduceSub, Nat.reduceLT, Nat.reduceLeDiff, Nat.reduceBEq, g1, g2]; first | done | rfl) rfl (by simp only [go_sem, Nat.reduceLT]) ?_; simp only [go_sem, Nat.reduceEqDiff, reduceIte, Nat.reduceAdd, Nat.reduceMul, Nat.reduceSub, Nat.reduceLT, Nat.reduceLeDiff, Nat.reduceBEq, g1, g2]) | (refine qx (call_L (N' := [2]) (L := []) (k3) rfl (.cons (.nm rfl) (.cons (.nm rfl) (.nil))) (by decide) (by decide) (by decide) (by simp only [go_sem, Nat.reduceEqDiff, reduceIte, Nat.reduceAdd, Nat.reduceMul, Nat.reduceSub, Nat.reduceLT, Nat.reduceLeDiff, Nat.reduceBEq, g1, g2]; first | done | rfl) (.inl rfl) rfl (by decide)) (by simp only [go_sem, Nat.reduceEqDiff, reduceIte, Nat.reduceAdd, Nat.reduceMul, Nat.reduceSub, Nat.reduceLT, Nat.reduceLeDiff, Nat.reduceBEq, g1, g2]; first | done | rfl) rfl (by simp only [go_sem, Nat.reduceLT]) ?_; simp only [go_sem, Nat.reduceEqDiff, reduceIte, Nat.reduceAdd, Nat.reduceMul, Nat.reduceSub, Nat.reduceLT, Nat.reduceLeDiff, Nat.reduceBEq, g1, g2]))
    exact Aw_ret (retL (M := [5]) (.inl rfl) (by simp only [go_sem, Nat.reduceEqDiff, reduceIte, Nat.reduceAdd, Nat.reduceMul, Nat.reduceSub, Nat.reduceLT, Nat.reduceLeDiff, Nat.reduceBEq]; first | done | rfl) rfl rfl (by rfl) (by simp only [go_sem, Nat.reduceEqDiff, reduceIte, Nat.reduceAdd, Nat.reduceMul, Nat.reduceSub, Nat.reduceLT, Nat.reduceLeDiff, Nat.reduceBEq]; first | done | rfl | (and_intros <;> rfl)) (by decide) (by intro m hm; first | omega | (rcases m with _ | _ | _ | _ | _ | _ | m <;> first | exact ⟨by decide, rfl⟩ | omega)))
  rw [if_pos ⟨c1, c2⟩]
  have kt := pickV_ac (n := s.time + 3) hb (show q + 1 ≤ 1000000 by omega) (by omega)
  obtain ⟨v, hv⟩ : ∃ v, v = pickV b (q + 1) (s.time + 3) := ⟨_, rfl⟩
  rw [← hv] at kt ⊢
  have w3 : IntKind.i64.wrap (s.time + 3) = s.time + 3 := wrap_in (by omega) (by omega)
  cases hs : s.top with
  | nil => rw [hs] at c2; simp at c2
  | cons e r =>
    have e1 : (setT0 s v).top = { e with time := (v : Int) } :: r := by unfold setT0; rw [hs]; rfl
    rw [e1]
    rw [hs] at ks
    have g2 : decide ((0 : Int) < ((r.length + 1 : Nat) : Int)) = true := decide_eq_true (by omega)
    refine AC_of Try.func40 rfl Try.ntmps40 Try.results40 (by kernel_rfl) rfl ?_
    simp only [List.zipIdx, List.map, Nat.zero_add, Nat.reduceAdd]
    repeat (first | apply Aw_seq | apply Aw_block | apply Aw_skip | apply Aw_exit | refine Aw_condt rfl ?_ | refine Aw_condf rfl ?_ | (refine qr ?_; simp only [go_sem, Nat.reduceEqDiff, reduceIte, Nat.reduceAdd, Nat.reduceMul, Nat.reduceSub, Nat.reduceLT, Nat.reduceLeDiff, Nat.reduceBEq, g1, g2, w3]) | (refine qd (by kernel_rfl) (by kernel_rfl) ?_; simp only [go_sem, Nat.reduceEqDiff, reduceIte, Nat.reduceAdd, Nat.reduceMul, Nat.reduceSub, Nat.reduceLT, Nat.reduceLeDiff, Nat.reduceBEq, g1, g2, w3]) | refine dk (by kernel_rfl) ?_ | (refine qx (call_N (L := []) (k0) rfl (.cons (.nm rfl) (.nil)) (.inl rfl) rfl) (by simp only [go_sem, Nat.reduceEqDiff, reduceIte, Nat.reduceAdd, Nat.reduceMul, Nat.reduceSub, Nat.reduceLT, Nat.reduceLeDiff, Nat.reduceBEq, g1, g2, w3]; first | done | rfl) rfl (by simp only [go_sem, Nat.reduceLT]) ?_; simp only [go_sem, Nat.reduceEqDiff, reduceIte, Nat.reduceAdd, Nat.reduceMul, Nat.reduceSub, Nat.reduceLT, Nat.reduceLeDiff, Nat.reduceBEq, g1, g2, w3]) | (refine qx (call_L (N' := [2]) (L := []) (ks) rfl (.cons (.nm rfl) (.nil)) (by decide) (by decide) (by decide) (by simp only [go_sem, Nat.reduceEqDiff, reduceIte, Nat.reduceAdd, Nat.reduceMul, Nat.reduceSub, Nat.reduceLT, Nat.reduceLeDiff, Nat.reduceBEq, g1, g2, w3]; first | done | rfl) (.inl rfl) rfl (by decide)) (by simp only [go_sem, Nat.reduceEqDiff, reduceIte, Nat.reduceAdd, Nat.reduceMul, Nat.reduceSub, Nat.reduceLT, Nat.reduceLeDiff, Nat.reduceBEq, g1, g2, w3]; first | done | rfl) rfl (by simp only [go_sem, Nat.reduceLT]) ?_; simp only [go_sem, Nat.reduceEqDiff, reduceIte, Nat.reduceAdd, Nat.reduceMul, Nat.reduceSub, Nat.reduceLT, Nat.reduceLeDiff, Nat.reduceBEq, g1, g2, w3]) | (refine qx (call_L (N' := [2]) (L := []) (k3) rfl (.cons (.nm rfl) (.cons (.nm rfl) (.nil))) (by decide) (by decide) (by decide) (by simp only [go_sem, Nat.reduceEqDiff, reduceIte, Nat.reduceAdd, Nat.reduceMul, Nat.reduceSub, Nat.reduceLT, Nat.reduceLeDiff, Nat.reduceBEq, g1, g2, w3]; first | done | rfl) (.inl rfl) rfl (by decide)) (by simp only [go_sem, Nat.reduceEqDiff, reduceIte, Nat.reduceAdd, Nat.reduceMul, Nat.reduceSub, Nat.reduceLT, Nat.reduceLeDiff, Nat.reduceBEq, g1, g2, w3]; first | done | rfl) rfl (by simp only [go_sem, Nat.reduceLT]) ?_; simp only [go_sem, Nat.reduceEqDiff, reduceIte, Nat.reduceAdd, Nat.reduceMul, Nat.reduceSub, Nat.reduceLT, Nat.reduceLeDiff, Nat.reduceBEq, g1, g2, w3]) | (refine qx (call_L (N' := [2]) (L := []) (kt) rfl (.cons (.nm rfl) (.cons (.nm rfl) (.nil))) (by decide) (by decide) (by decide) (by simp only [go_sem, Nat.reduceEqDiff, reduceIte, Nat.reduceAdd, Nat.reduceMul, Nat.reduceSub, Nat.reduceLT, Nat.reduceLeDiff, Nat.reduceBEq, g1, g2, w3]; first | done | rfl) (.inl rfl) rfl (by decide)) (by simp only [go_sem, Nat.reduceEqDiff, reduceIte, Nat.reduceAdd, Nat.reduceMul, Nat.reduceSub, Nat.reduceLT, Nat.reduceLeDiff, Nat.reduceBEq, g1, g2, w3]; first | done | rfl) rfl (by simp only [go_sem, Nat.reduceLT]) ?_; simp only [go_sem, Nat.reduceEqDiff, reduceIte, Nat.reduceAdd, Nat.reduceMul, Nat.reduceSub, Nat.reduceLT, Nat.reduceLeDiff, Nat.reduceBEq, g1, g2, w3]))
    exact Aw_ret (retL (M := [5]) (.inl rfl) (by simp only [go_sem, Nat.reduceEqDiff, reduceIte, Nat.reduceAdd, Nat.reduceMul, Nat.reduceSub, Nat.reduceLT, Nat.reduceLeDiff, Nat.reduceBEq]; first | done | rfl) rfl rfl (by rfl) (by simp only [go_sem, Nat.reduceEqDiff, reduceIte, Nat.reduceAdd, Nat.reduceMul, Nat.reduceSub, Nat.reduceLT, Nat.reduceLeDiff, Nat.reduceBEq]; first | done | rfl | (and_intros <;> rfl)) (by decide) (by intro m hm; first | omega | (rcases m with _ | _ | _ | _ | _ | _ | m <;> first | exact ⟨by decide, rfl⟩ | omega)))
end Go.Proofs.Ytcbhgglpgphimaa.Ab
namespace Go.Proofs.Ytcbhgglpgphimaa.Ab
set_option linter.deprecated false
set_option linter.unusedVariables false
set_option linter.unusedSimpArgs false
open Go Go.Proofs
set_option maxRecDepth 10000
set_option maxHeartbeats 8000000
set_option linter.unusedSimpArgs false
set_option linter.unusedVariables false
theorem runKeysS_ac (r : List Ent) (hs : SmR r) : AC Try.prog 31 [runT r] noHp 0 ⟨.t (strsT (if runOk r = true then keysM r else [])), noHp, 0⟩ := AC.settle0 [0] (runKeys_ac r hs) (SetC.row0 rfl rfl) rfl
def upTo (s : Sto) (i : Nat) : List Ent := s.top ++ (s.levels.take i).flatten
def iAt (s : Sto) (i : Nat) : Bool := match s.levels[i]?, s.sieves[i]? with
  | some r, some x => lvM s.keep i r x && newerM (upTo s i) r && !decide (0 ≤ lateI s (upTo s i))
  | _, _ => true
def storeI (s : Sto) : Bool := headM s && allI 3 (iAt s)
abbrev stSl (s : Sto) (i : Nat) (up : List Ent) : List (Nat × AV) := [(49, .t (iT (i : Nat))), (48, .t (iT s.levels.length)), (47, .t (.c (.d (.rs 1 (s.levels.map lvD))))), (3, .t (runT up)), (1, .t (.c (.ph 0 0 0)))]
structure StI (s : Sto) where
  i : Nat
  up : List Ent
  hi : i ≤ 3
  hu : up = upTo s i
  hl : up.length ≤ 4 + 24 * i
  hp : ∀ j, j < i → iAt s j = true
theorem storeOk_ac (s : Sto) (hs : SmSt s) : AC Try.prog 39 [stT s] noHp 0 ⟨.t (bT (storeI s)), noHp, 0⟩ := by
  refine AC_of Try.func39 rfl Try.ntmps39 Try.results39 (by kernel_rfl) rfl ?_
  simp only [List.zipIdx, List.map, Nat.zero_add, Nat.reduceAdd]
  cases c1 : decide ((s.levels.length : Int) = 3)
  · repeat (first | apply Aw_seq | apply Aw_block | apply Aw_skip | apply Aw_exit | refine Aw_condt rfl ?_ | refine Aw_condf rfl ?_ | (refine qr ?_; simp only [go_sem, Nat.reduceEqDiff, reduceIte, Nat.reduceAdd, Nat.reduceMul, Nat.reduceSub, Nat.reduceLT, Nat.reduceLeDiff, Nat.reduceBEq, c1]) | (refine qd (by kernel_rfl) (by kernel_rfl) ?_; simp only [go_sem, Nat.reduceEqDiff, reduceIte, Nat.reduceAdd, Nat.reduceMul, Nat.reduceSub, Nat.reduceLT, Nat.reduceLeDiff, Nat.reduceBEq, c1]) | refine dk (by kernel_rfl) ?_)
    exact Aw_ret (ret0 (.inl rfl) (by simp only [go_sem, Nat.reduceEqDiff, reduceIte, Nat.reduceAdd, Nat.reduceMul, Nat.reduceSub, Nat.reduceLT, Nat.reduceLeDiff, Nat.reduceBEq]; rfl) (by unfold storeI headM; rw [decide_eq_false (by have := of_decide_eq_false c1; omega : ¬ s.levels.length = 3)]; rfl) rfl)
  cases c2 : decide ((s.sieves.length : Int) = 3)
  · repeat (first | apply Aw_seq | apply Aw_block | apply Aw_skip | apply Aw_exit | refine Aw_condt rfl ?_ | refine Aw_condf rfl ?_ | (refine qr ?_; simp only [go_sem, Nat.reduceEqDiff, reduceIte, Nat.reduceAdd, Nat.reduceMul, Nat.reduceSub, Nat.reduceLT, Nat.reduceLeDiff, Nat.reduceBEq, c1, c2]) | (refine qd (by kernel_rfl) (by kernel_rfl) ?_; simp only [go_sem, Nat.reduceEqDiff, reduceIte, Nat.reduceAdd, Nat.reduceMul, Nat.reduceSub, Nat.reduceLT, Nat.reduceLeDiff, Nat.reduceBEq, c1, c2]) | refine dk (by kernel_rfl) ?_)
    exact Aw_ret (ret0 (.inl rfl) (by simp only [go_sem, Nat.reduceEqDiff, reduceIte, Nat.reduceAdd, Nat.reduceMul, Nat.reduceSub, Nat.reduceLT, Nat.reduceLeDiff, Nat.reduceBEq]; rfl) (by unfold storeI headM; rw [decide_eq_false (by have := of_decide_eq_false c2; omega : ¬ s.sieves.length = 3)]; simp) rfl)
  cases c3 : runOk s.top
  · repeat (first | apply Aw_seq | apply Aw_block | apply Aw_skip | apply Aw_exit | refine Aw_condt rfl ?_ | refine Aw_condf rfl ?_ | (refine qr ?_; simp only [go_sem, Nat.reduceEqDiff, reduceIte, Nat.reduceAdd, Nat.reduceMul, Nat.reduceSub, Nat.reduceLT, Nat.reduceLeDiff, Nat.reduceBEq, c1, c2, c3]) | (refine qd (by kernel_rfl) (by kernel_rfl) ?_; simp only [go_sem, Nat.reduceEqDiff, reduceIte, Nat.reduceAdd, Nat.reduceMul, Nat.reduceSub, Nat.reduceLT, Nat.reduceLeDiff, Nat.reduceBEq, c1, c2, c3]) | refine dk (by kernel_rfl) ?_ | (refine qp (runOk_ac _ hs.top) (by simp only [go_sem, Nat.reduceEqDiff, reduceIte, Nat.reduceAdd, Nat.reduceMul, Nat.reduceSub, Nat.reduceLT, Nat.reduceLeDiff, Nat.reduceBEq, c1, c2, c3]; first | done | rfl) rfl (by simp only [go_sem, Nat.reduceLT]) rfl rfl ?_; simp only [go_sem, Nat.reduceEqDiff, reduceIte, Nat.reduceAdd, Nat.reduceMul, Nat.reduceSub, Nat.reduceLT, Nat.reduceLeDiff, Nat.reduceBEq, c1, c2, c3]))
    exact Aw_ret (ret0 (.inl rfl) (by simp only [go_sem, Nat.reduceEqDiff, reduceIte, Nat.reduceAdd, Nat.reduceMul, Nat.reduceSub, Nat.reduceLT, Nat.reduceLeDiff, Nat.reduceBEq]; rfl) (by unfold storeI headM; simp [c3]) rfl)
  cases c4 : decide ((4 : Int) < (s.top.length : Int))
  case true =>
    repeat (first | apply Aw_seq | apply Aw_block | apply Aw_skip | apply Aw_exit | refine Aw_condt rfl ?_ | refine Aw_condf rfl ?_ | (refine qr ?_; simp only [go_sem, Nat.reduceEqDiff, reduceIte, Nat.reduceAdd, Nat.reduceMul, Nat.reduceSub, Nat.reduceLT, Nat.reduceLeDiff, Nat.reduceBEq, c1, c2, c3, c4]) | (refine qd (by kernel_rfl) (by kernel_rfl) ?_; simp only [go_sem, Nat.reduceEqDiff, reduceIte, Nat.reduceAdd, Nat.reduceMul, Nat.reduceSub, Nat.reduceLT, Nat.reduceLeDiff, Nat.reduceBEq, c1, c2, c3, c4]) | refine dk (by kernel_rfl) ?_ | (refine qp (runOk_ac _ hs.top) (by simp only [go_sem, Nat.reduceEqDiff, reduceIte, Nat.reduceAdd, Nat.reduceMul, Nat.reduceSub, Nat.reduceLT, Nat.reduceLeDiff, Nat.reduceBEq, c1, c2, c3, c4]; first | done | rfl) rfl (by simp only [go_sem, Nat.reduceLT]) rfl rfl ?_; simp only [go_sem, Nat.reduceEqDiff, reduceIte, Nat.reduceAdd, Nat.reduceMul, Nat.reduceSub, Nat.reduceLT, Nat.reduceLeDiff, Nat.reduceBEq, c1, c2, c3, c4]))
    exact Aw_ret (ret0 (.inl rfl) (by simp only [go_sem, Nat.reduceEqDiff, reduceIte, Nat.reduceAdd, Nat.reduceMul, Nat.reduceSub, Nat.reduceLT, Nat.reduceLeDiff, Nat.reduceBEq]; rfl) (by unfold storeI headM; rw [decide_eq_false (by have := of_decide_eq_true c4; omega : ¬ s.top.length ≤ 4)]; simp) rfl)
  cases c5 : inB 0 s.time 999
  · repeat (first | apply Aw_seq | apply Aw_block | apply Aw_skip | apply Aw_exit | refine Aw_condt rfl ?_ | refine Aw_condf rfl ?_ | (refine qr ?_; simp only [go_sem, Nat.reduceEqDiff, reduceIte, Nat.reduceAdd, Nat.reduceMul, Nat.reduceSub, Nat.reduceLT, Nat.reduceLeDiff, Nat.reduceBEq, c1, c2, c3, c4, c5]) | (refine qd (by kernel_rfl) (by kernel_rfl) ?_; simp only [go_sem, Nat.reduceEqDiff, reduceIte, Nat.reduceAdd, Nat.reduceMul, Nat.reduceSub, Nat.reduceLT, Nat.reduceLeDiff, Nat.reduceBEq, c1, c2, c3, c4, c5]) | refine dk (by kernel_rfl) ?_ | (refine qp (runOk_ac _ hs.top) (by simp only [go_sem, Nat.reduceEqDiff, reduceIte, Nat.reduceAdd, Nat.reduceMul, Nat.reduceSub, Nat.reduceLT, Nat.reduceLeDiff, Nat.reduceBEq, c1, c2, c3, c4, c5]; first | done | rfl) rfl (by simp only [go_sem, Nat.reduceLT]) rfl rfl ?_; simp only [go_sem, Nat.reduceEqDiff, reduceIte, Nat.reduceAdd, Nat.reduceMul, Nat.reduceSub, Nat.reduceLT, Nat.reduceLeDiff, Nat.reduceBEq, c1, c2, c3, c4, c5]) | (refine qp (in_ac _ _ _) (by simp only [go_sem, Nat.reduceEqDiff, reduceIte, Nat.reduceAdd, Nat.reduceMul, Nat.reduceSub, Nat.reduceLT, Nat.reduceLeDiff, Nat.reduceBEq, c1, c2, c3, c4, c5]; first | done | rfl) rfl (by simp only [go_sem, Nat.reduceLT]) rfl rfl ?_; simp only [go_sem, Nat.reduceEqDiff, reduceIte, Nat.reduceAdd, Nat.reduceMul, Nat.reduceSub, Nat.reduceLT, Nat.reduceLeDiff, Nat.reduceBEq, c1, c2, c3, c4, c5]))
    exact Aw_ret (ret0 (.inl rfl) (by simp only [go_sem, Nat.reduceEqDiff, reduceIte, Nat.reduceAdd, Nat.reduceMul, Nat.reduceSub, Nat.reduceLT, Nat.reduceLeDiff, Nat.reduceBEq]; rfl) (by unfold storeI headM; simp [c5]) rfl)
  cases c6 : timesM s.times s.time
  · repeat (first | apply Aw_seq | apply Aw_block | apply Aw_skip | apply Aw_exit | refine Aw_condt rfl ?_ | refine Aw_condf rfl ?_ | (refine qr ?_; simp only [go_sem, Nat.reduceEqDiff, reduceIte, Nat.reduceAdd, Nat.reduceMul, Nat.reduceSub, Nat.reduceLT, Nat.reduceLeDiff, Nat.reduceBEq, c1, c2, c3, c4, c5, c6]) | (refine qd (by kernel_rfl) (by kernel_rfl) ?_; simp only [go_sem, Nat.reduceEqDiff, reduceIte, Nat.reduceAdd, Nat.reduceMul, Nat.reduceSub, Nat.reduceLT, Nat.reduceLeDiff, Nat.reduceBEq, c1, c2, c3, c4, c5, c6]) | refine dk (by kernel_rfl) ?_ | (refine qp (runOk_ac _ hs.top) (by simp only [go_sem, Nat.reduceEqDiff, reduceIte, Nat.reduceAdd, Nat.reduceMul, Nat.reduceSub, Nat.reduceLT, Nat.reduceLeDiff, Nat.reduceBEq, c1, c2, c3, c4, c5, c6]; first | done | rfl) rfl (by simp only [go_sem, Nat.reduceLT]) rfl rfl ?_; simp only [go_sem, Nat.reduceEqDiff, reduceIte, Nat.reduceAdd, Nat.reduceMul, Nat.reduceSub, Nat.reduceLT, Nat.reduceLeDiff, Nat.reduceBEq, c1, c2, c3, c4, c5, c6]) | (refine qp (in_ac _ _ _) (by simp only [go_sem, Nat.reduceEqDiff, reduceIte, Nat.reduceAdd, Nat.reduceMul, Nat.reduceSub, Nat.reduceLT, Nat.reduceLeDiff, Nat.reduceBEq, c1, c2, c3, c4, c5, c6]; first | done | rfl) rfl (by simp only [go_sem, Nat.reduceLT]) rfl rfl ?_; simp only [go_sem, Nat.reduceEqDiff, reduceIte, Nat.reduceAdd, Nat.reduceMul, Nat.reduceSub, Nat.reduceLT, Nat.reduceLeDiff, Nat.reduceBEq, c1, c2, c3, c4, c5, c6]) | (refine qp (timesOk_ac _ _ hs.tl) (by simp only [go_sem, Nat.reduceEqDiff, reduceIte, Nat.reduceAdd, Nat.reduceMul, Nat.reduceSub, Nat.reduceLT, Nat.reduceLeDiff, Nat.reduceBEq, c1, c2, c3, c4, c5, c6]; first | done | rfl) rfl (by simp only [go_sem, Nat.reduceLT]) rfl rfl ?_; simp only [go_sem, Nat.reduceEqDiff, reduceIte, Nat.reduceAdd, Nat.reduceMul, Nat.reduceSub, Nat.reduceLT, Nat.reduceLeDiff, Nat.reduceBEq, c1, c2, c3, c4, c5, c6]))
    exact Aw_ret (ret0 (.inl rfl) (by simp only [go_sem, Nat.reduceEqDiff, reduceIte, Nat.reduceAdd, Nat.reduceMul, Nat.reduceSub, Nat.reduceLT, Nat.reduceLeDiff, Nat.reduceBEq]; rfl) (by unfold storeI headM; simp [c6]) rfl)
  have hh : headM s = true := by
    have d1 := of_decide_eq_true c1; have d2 := of_decide_eq_true c2; have d4 := of_decide_eq_false c4
    unfold headM
    rw [decide_eq_true (by omega : s.levels.length = 3), decide_eq_true (by omega : s.sieves.length = 3), decide_eq_true (by omega : s.top.length ≤ 4), c3, c5, c6]; rfl
  repeat (first | apply Aw_seq | apply Aw_block | apply Aw_skip | apply Aw_exit | refine Aw_condt rfl ?_ | refine Aw_condf rfl ?_ | (refine qr ?_; simp only [go_sem, Nat.reduceEqDiff, reduceIte, Nat.reduceAdd, Nat.reduceMul, Nat.reduceSub, Nat.reduceLT, Nat.reduceLeDiff, Nat.reduceBEq, c1, c2, c3, c4, c5, c6]) | (refine qd (by kernel_rfl) (by kernel_rfl) ?_; simp only [go_sem, Nat.reduceEqDiff, reduceIte, Nat.reduceAdd, Nat.reduceMul, Nat.reduceSub, Nat.reduceLT, Nat.reduceLeDiff, Nat.reduceBEq, c1, c2, c3, c4, c5, c6]) | refine dk (by kernel_rfl) ?_ | (refine qp (runOk_ac _ hs.top) (by simp only [go_sem, Nat.reduceEqDiff, reduceIte, Nat.reduceAdd, Nat.reduceMul, Nat.reduceSub, Nat.reduceLT, Nat.reduceLeDiff, Nat.reduceBEq, c1, c2, c3, c4, c5, c6]; first | done | rfl) rfl (by simp only [go_sem, Nat.reduceLT]) rfl rfl ?_; simp only [go_sem, Nat.reduceEqDiff, reduceIte, Nat.reduceAdd, Nat.reduceMul, Nat.reduceSub, Nat.reduceLT, Nat.reduceLeDiff, Nat.reduceBEq, c1, c2, c3, c4, c5, c6]) | (refine qp (in_ac _ _ _) (by simp only [go_sem, Nat.reduceEqDiff, reduceIte, Nat.reduceAdd, Nat.reduceMul, Nat.reduceSub, Nat.reduceLT, Nat.reduceLeDiff, Nat.reduceBEq, c1, c2, c3, c4, c5, c6]; first | done | rfl) rfl (by simp only [go_sem, Nat.reduceLT]) rfl rfl ?_; simp only [go_sem, Nat.reduceEqDiff, reduceIte, Nat.reduceAdd, Nat.reduceMul, Nat.reduceSub, Nat.reduceLT, Nat.reduceLeDiff, Nat.reduceBEq, c1, c2, c3, c4, c5, c6]) | (refine qp (timesOk_ac _ _ hs.tl) (by simp only [go_sem, Nat.reduceEqDiff, reduceIte, Nat.reduceAdd, Nat.reduceMul, Nat.reduceSub, Nat.reduceLT, Nat.reduceLeDiff, Nat.reduceBEq, c1, c2, c3, c4, c5, c6]; first | done | rfl) rfl (by simp only [go_sem, Nat.reduceLT]) rfl rfl ?_; simp only [go_sem, Nat.reduceEqDiff, reduceIte, Nat.reduceAdd, Nat.reduceMul, Nat.reduceSub, Nat.reduceLT, Nat.reduceLeDiff, Nat.reduceBEq, c1, c2, c3, c4, c5, c6]))
  have d1 : s.levels.length = 3 := by have := of_decide_eq_true c1; omega
  have d2 : s.sieves.length = 3 := by have := of_decide_eq_true c2; omega
  have d4 : s.top.length ≤ 4 := by have := of_decide_eq_false c4; omega
  refine Aw.rw (rwL (l' := stSl s 0 s.top) (os := [some (stO s)]) (M := [0]) (n' := 1) (by repeat (first | exact trivial | refine ⟨rfl, rfl, ?_⟩)) (by rfl) (by simp only [go_sem, Nat.reduceEqDiff, reduceIte, Nat.reduceAdd, Nat.reduceMul, Nat.reduceSub, Nat.reduceLT, Nat.reduceLeDiff, Nat.reduceBEq]; first | done | rfl) (by decide) (by intro m hm; first | omega | (rcases m with _ | _ | _ | _ | _ | _ | m <;> first | exact ⟨by decide, rfl⟩ | omega))) ?_
  refine Aw_loop_rw (ι := StI s) (fun p => S (stSl s p.i p.up) (hpL [some (stO s)]) 1) (fun p => 3 - p.i) ⟨0, s.top, by omega, by simp [upTo], by omega, fun j hj => absurd hj (by omega)⟩ ?_
  rintro ⟨i, up, hi, hu, hl, hp⟩
  dsimp only
  by_cases hlt : i < 3
  · have h1 : (i : Int) < (s.levels.length : Int) := by omega
    have h2 := wrap_succ (m := 3) hlt (by omega)
    obtain ⟨r, hr⟩ : ∃ r, s.levels[i]? = some r := ⟨_, List.getElem?_eq_getElem (by omega)⟩
    obtain ⟨x, hx⟩ : ∃ x, s.sieves[i]? = some x := ⟨_, List.getElem?_eq_getElem (by omega)⟩
    have hsr := hs.lev r (List.mem_of_getElem? hr)
    have hsx := hs.rl x (List.mem_of_getElem? hx)
    have hat : iAt s i = (lvM s.keep i r x && newerM up r && !decide (0 ≤ lateI s up)) := by unfold iAt; rw [hr, hx, ← hu]
    have bad : iAt s i = false → storeI s = false := fun h => by unfold storeI; rw [allI_f (i := i) hlt h, Bool.and_false]
    have k1 := runKeysS_ac r hsr
    have k3 := runOk_ac r hsr
    have k4 := room_ac i (by omega)
    cases a1 : runOk r
    · rw [a1] at k1 k3
      rw [if_neg (by decide)] at k1
      have k2 := sieveS_ac [] s.keep ⟨by simp, by simp⟩
      rw [bad (by rw [hat]; unfold lvM; rw [a1]; rfl)]
      repeat (first | apply Aw_seq | apply Aw_block | apply Aw_skip | apply Aw_exit | refine Aw_condt rfl ?_ | refine Aw_condf rfl ?_ | (refine qr ?_; simp only [go_sem, Nat.reduceEqDiff, reduceIte, Nat.reduceAdd, Nat.reduceMul, Nat.reduceSub, Nat.reduceLT, Nat.reduceLeDiff, Nat.reduceBEq, h1, hr]) | (refine qd (by kernel_rfl) (by kernel_rfl) ?_; simp only [go_sem, Nat.reduceEqDiff, reduceIte, Nat.reduceAdd, Nat.reduceMul, Nat.reduceSub, Nat.reduceLT, Nat.reduceLeDiff, Nat.reduceBEq, h1, hr]) | refine dk (by kernel_rfl) ?_ | (refine qp (k1) (by simp only [go_sem, Nat.reduceEqDiff, reduceIte, Nat.reduceAdd, Nat.reduceMul, Nat.reduceSub, Nat.reduceLT, Nat.reduceLeDiff, Nat.reduceBEq, h1, hr]; first | done | rfl) rfl (by simp only [go_sem, Nat.reduceLT]) rfl rfl ?_; simp only [go_sem, Nat.reduceEqDiff, reduceIte, Nat.reduceAdd, Nat.reduceMul, Nat.reduceSub, Nat.reduceLT, Nat.reduceLeDiff, Nat.reduceBEq, h1, hr]) | (refine qp (k2) (by simp only [go_sem, Nat.reduceEqDiff, reduceIte, Nat.reduceAdd, Nat.reduceMul, Nat.reduceSub, Nat.reduceLT, Nat.reduceLeDiff, Nat.reduceBEq, h1, hr]; first | done | rfl) rfl (by simp only [go_sem, Nat.reduceLT]) rfl rfl ?_; simp only [go_sem, Nat.reduceEqDiff, reduceIte, Nat.reduceAdd, Nat.reduceMul, Nat.reduceSub, Nat.reduceLT, Nat.reduceLeDiff, Nat.reduceBEq, h1, hr]) | (refine qp (k3) (by simp only [go_sem, Nat.reduceEqDiff, reduceIte, Nat.reduceAdd, Nat.reduceMul, Nat.reduceSub, Nat.reduceLT, Nat.reduceLeDiff, Nat.reduceBEq, h1, hr]; first | done | rfl) rfl (by simp only [go_sem, Nat.reduceLT]) rfl rfl ?_; simp only [go_sem, Nat.reduceEqDiff, reduceIte, Nat.reduceAdd, Nat.reduceMul, Nat.reduceSub, Nat.reduceLT, Nat.reduceLeDiff, Nat.reduceBEq, h1, hr]))
      exact Aw_ret (ret0 (.inl rfl) (by simp only [go_sem, Nat.reduceEqDiff, reduceIte, Nat.reduceAdd, Nat.reduceMul, Nat.reduceSub, Nat.reduceLT, Nat.reduceLeDiff, Nat.reduceBEq]; rfl) (by rfl) rfl)
    rw [a1] at k1 k3
    rw [if_pos rfl] at k1
    have k2 := sieveS_ac (keysM r) s.keep (smS_keys hsr)
    cases a2 : decide (((8 * (i + 1) : Nat) : Int) < (r.length : Int))
    case true =>
      rw [bad (by rw [hat]; unfold lvM; rw [decide_eq_false (by have := of_decide_eq_true a2; omega : ¬ r.length ≤ 8 * (i + 1))]; simp)]
      repeat (first | apply Aw_seq | apply Aw_block | apply Aw_skip | apply Aw_exit | refine Aw_condt rfl ?_ | refine Aw_condf rfl ?_ | (refine qr ?_; simp only [go_sem, Nat.reduceEqDiff, reduceIte, Nat.reduceAdd, Nat.reduceMul, Nat.reduceSub, Nat.reduceLT, Nat.reduceLeDiff, Nat.reduceBEq, h1, hr, a2]) | (refine qd (by kernel_rfl) (by kernel_rfl) ?_; simp only [go_sem, Nat.reduceEqDiff, reduceIte, Nat.reduceAdd, Nat.reduceMul, Nat.reduceSub, Nat.reduceLT, Nat.reduceLeDiff, Nat.reduceBEq, h1, hr, a2]) | refine dk (by kernel_rfl) ?_ | (refine qp (k1) (by simp only [go_sem, Nat.reduceEqDiff, reduceIte, Nat.reduceAdd, Nat.reduceMul, Nat.reduceSub, Nat.reduceLT, Nat.reduceLeDiff, Nat.reduceBEq, h1, hr, a2]; first | done | rfl) rfl (by simp only [go_sem, Nat.reduceLT]) rfl rfl ?_; simp only [go_sem, Nat.reduceEqDiff, reduceIte, Nat.reduceAdd, Nat.reduceMul, Nat.reduceSub, Nat.reduceLT, Nat.reduceLeDiff, Nat.reduceBEq, h1, hr, a2]) | (refine qp (k2) (by simp only [go_sem, Nat.reduceEqDiff, reduceIte, Nat.reduceAdd, Nat.reduceMul, Nat.reduceSub, Nat.reduceLT, Nat.reduceLeDiff, Nat.reduceBEq, h1, hr, a2]; first | done | rfl) rfl (by simp only [go_sem, Nat.reduceLT]) rfl rfl ?_; simp only [go_sem, Nat.reduceEqDiff, reduceIte, Nat.reduceAdd, Nat.reduceMul, Nat.reduceSub, Nat.reduceLT, Nat.reduceLeDiff, Nat.reduceBEq, h1, hr, a2]) | (refine qp (k3) (by simp only [go_sem, Nat.reduceEqDiff, reduceIte, Nat.reduceAdd, Nat.reduceMul, Nat.reduceSub, Nat.reduceLT, Nat.reduceLeDiff, Nat.reduceBEq, h1, hr, a2]; first | done | rfl) rfl (by simp only [go_sem, Nat.reduceLT]) rfl rfl ?_; simp only [go_sem, Nat.reduceEqDiff, reduceIte, Nat.reduceAdd, Nat.reduceMul, Nat.reduceSub, Nat.reduceLT, Nat.reduceLeDiff, Nat.reduceBEq, h1, hr, a2]) | (refine qp (k4) (by simp only [go_sem, Nat.reduceEqDiff, reduceIte, Nat.reduceAdd, Nat.reduceMul, Nat.reduceSub, Nat.reduceLT, Nat.reduceLeDiff, Nat.reduceBEq, h1, hr, a2]; first | done | rfl) rfl (by simp only [go_sem, Nat.reduceLT]) rfl rfl ?_; simp only [go_sem, Nat.reduceEqDiff, reduceIte, Nat.reduceAdd, Nat.reduceMul, Nat.reduceSub, Nat.reduceLT, Nat.reduceLeDiff, Nat.reduceBEq, h1, hr, a2]))
      exact Aw_ret (ret0 (.inl rfl) (by simp only [go_sem, Nat.reduceEqDiff, reduceIte, Nat.reduceAdd, Nat.reduceMul, Nat.reduceSub, Nat.reduceLT, Nat.reduceLeDiff, Nat.reduceBEq]; rfl) (by rfl) rfl)
    have hrl : r.length ≤ 8 * (i + 1) := by have := of_decide_eq_false a2; omega
    cases a3 : (sieveM (keysM r) s.keep).isSome
    · rw [a3] at k2
      rw [bad (by rw [hat]; unfold lvM; rw [a3]; simp)]
      repeat (first | apply Aw_seq | apply Aw_block | apply Aw_skip | apply Aw_exit | refine Aw_condt rfl ?_ | refine Aw_condf rfl ?_ | (refine qr ?_; simp only [go_sem, Nat.reduceEqDiff, reduceIte, Nat.reduceAdd, Nat.reduceMul, Nat.reduceSub, Nat.reduceLT, Nat.reduceLeDiff, Nat.reduceBEq, h1, hr, a2]) | (refine qd (by kernel_rfl) (by kernel_rfl) ?_; simp only [go_sem, Nat.reduceEqDiff, reduceIte, Nat.reduceAdd, Nat.reduceMul, Nat.reduceSub, Nat.reduceLT, Nat.reduceLeDiff, Nat.reduceBEq, h1, hr, a2]) | refine dk (by kernel_rfl) ?_ | (refine qp (k1) (by simp only [go_sem, Nat.reduceEqDiff, reduceIte, Nat.reduceAdd, Nat.reduceMul, Nat.reduceSub, Nat.reduceLT, Nat.reduceLeDiff, Nat.reduceBEq, h1, hr, a2]; first | done | rfl) rfl (by simp only [go_sem, Nat.reduceLT]) rfl rfl ?_; simp only [go_sem, Nat.reduceEqDiff, reduceIte, Nat.reduceAdd, Nat.reduceMul, Nat.reduceSub, Nat.reduceLT, Nat.reduceLeDiff, Nat.reduceBEq, h1, hr, a2]) | (refine qp (k2) (by simp only [go_sem, Nat.reduceEqDiff, reduceIte, Nat.reduceAdd, Nat.reduceMul, Nat.reduceSub, Nat.reduceLT, Nat.reduceLeDiff, Nat.reduceBEq, h1, hr, a2]; first | done | rfl) rfl (by simp only [go_sem, Nat.reduceLT]) rfl rfl ?_; simp only [go_sem, Nat.reduceEqDiff, reduceIte, Nat.reduceAdd, Nat.reduceMul, Nat.reduceSub, Nat.reduceLT, Nat.reduceLeDiff, Nat.reduceBEq, h1, hr, a2]) | (refine qp (k3) (by simp only [go_sem, Nat.reduceEqDiff, reduceIte, Nat.reduceAdd, Nat.reduceMul, Nat.reduceSub, Nat.reduceLT, Nat.reduceLeDiff, Nat.reduceBEq, h1, hr, a2]; first | done | rfl) rfl (by simp only [go_sem, Nat.reduceLT]) rfl rfl ?_; simp only [go_sem, Nat.reduceEqDiff, reduceIte, Nat.reduceAdd, Nat.reduceMul, Nat.reduceSub, Nat.reduceLT, Nat.reduceLeDiff, Nat.reduceBEq, h1, hr, a2]) | (refine qp (k4) (by simp only [go_sem, Nat.reduceEqDiff, reduceIte, Nat.reduceAdd, Nat.reduceMul, Nat.reduceSub, Nat.reduceLT, Nat.reduceLeDiff, Nat.reduceBEq, h1, hr, a2]; first | done | rfl) rfl (by simp only [go_sem, Nat.reduceLT]) rfl rfl ?_; simp only [go_sem, Nat.reduceEqDiff, reduceIte, Nat.reduceAdd, Nat.reduceMul, Nat.reduceSub, Nat.reduceLT, Nat.reduceLeDiff, Nat.reduceBEq, h1, hr, a2]))
      exact Aw_ret (ret0 (.inl rfl) (by simp only [go_sem, Nat.reduceEqDiff, reduceIte, Nat.reduceAdd, Nat.reduceMul, Nat.reduceSub, Nat.reduceLT, Nat.reduceLeDiff, Nat.reduceBEq]; rfl) (by rfl) rfl)
    rw [a3] at k2
    obtain ⟨y, hy⟩ : ∃ y, y = (sieveM (keysM r) s.keep).getD zSve := ⟨_, rfl⟩
    rw [← hy] at k2
    have k5 := same_ac y x (by
      rw [hy]
      cases hm : sieveM (keysM r) s.keep with
      | none => simp [zSve]
      | some z => exact sieveM_len hm)
    cases a4 : sveEq y x
    · rw [a4] at k5
      rw [bad (by rw [hat]; unfold lvM; rw [← hy, a4]; simp)]
      repeat (first | apply Aw_seq | apply Aw_block | apply Aw_skip | apply Aw_exit | refine Aw_condt rfl ?_ | refine Aw_condf rfl ?_ | (refine qr ?_; simp only [go_sem, Nat.reduceEqDiff, reduceIte, Nat.reduceAdd, Nat.reduceMul, Nat.reduceSub, Nat.reduceLT, Nat.reduceLeDiff, Nat.reduceBEq, h1, hr, hx, a2]) | (refine qd (by kernel_rfl) (by kernel_rfl) ?_; simp only [go_sem, Nat.reduceEqDiff, reduceIte, Nat.reduceAdd, Nat.reduceMul, Nat.reduceSub, Nat.reduceLT, Nat.reduceLeDiff, Nat.reduceBEq, h1, hr, hx, a2]) | refine dk (by kernel_rfl) ?_ | (refine qp (k1) (by simp only [go_sem, Nat.reduceEqDiff, reduceIte, Nat.reduceAdd, Nat.reduceMul, Nat.reduceSub, Nat.reduceLT, Nat.reduceLeDiff, Nat.reduceBEq, h1, hr, hx, a2]; first | done | rfl) rfl (by simp only [go_sem, Nat.reduceLT]) rfl rfl ?_; simp only [go_sem, Nat.reduceEqDiff, reduceIte, Nat.reduceAdd, Nat.reduceMul, Nat.reduceSub, Nat.reduceLT, Nat.reduceLeDiff, Nat.reduceBEq, h1, hr, hx, a2]) | (refine qp (k2) (by simp only [go_sem, Nat.reduceEqDiff, reduceIte, Nat.reduceAdd, Nat.reduceMul, Nat.reduceSub, Nat.reduceLT, Nat.reduceLeDiff, Nat.reduceBEq, h1, hr, hx, a2]; first | done | rfl) rfl (by simp only [go_sem, Nat.reduceLT]) rfl rfl ?_; simp only [go_sem, Nat.reduceEqDiff, reduceIte, Nat.reduceAdd, Nat.reduceMul, Nat.reduceSub, Nat.reduceLT, Nat.reduceLeDiff, Nat.reduceBEq, h1, hr, hx, a2]) | (refine qp (k3) (by simp only [go_sem, Nat.reduceEqDiff, reduceIte, Nat.reduceAdd, Nat.reduceMul, Nat.reduceSub, Nat.reduceLT, Nat.reduceLeDiff, Nat.reduceBEq, h1, hr, hx, a2]; first | done | rfl) rfl (by simp only [go_sem, Nat.reduceLT]) rfl rfl ?_; simp only [go_sem, Nat.reduceEqDiff, reduceIte, Nat.reduceAdd, Nat.reduceMul, Nat.reduceSub, Nat.reduceLT, Nat.reduceLeDiff, Nat.reduceBEq, h1, hr, hx, a2]) | (refine qp (k4) (by simp only [go_sem, Nat.reduceEqDiff, reduceIte, Nat.reduceAdd, Nat.reduceMul, Nat.reduceSub, Nat.reduceLT, Nat.reduceLeDiff, Nat.reduceBEq, h1, hr, hx, a2]; first | done | rfl) rfl (by simp only [go_sem, Nat.reduceLT]) rfl rfl ?_; simp only [go_sem, Nat.reduceEqDiff, reduceIte, Nat.reduceAdd, Nat.reduceMul, Nat.reduceSub, Nat.reduceLT, Nat.reduceLeDiff, Nat.reduceBEq, h1, hr, hx, a2]) | (refine qp (k5) (by simp only [go_sem, Nat.reduceEqDiff, reduceIte, Nat.reduceAdd, Nat.reduceMul, Nat.reduceSub, Nat.reduceLT, Nat.reduceLeDiff, Nat.reduceBEq, h1, hr, hx, a2]; first | done | rfl) rfl (by simp only [go_sem, Nat.reduceLT]) rfl rfl ?_; simp only [go_sem, Nat.reduceEqDiff, reduceIte, Nat.reduceAdd, Nat.reduceMul, Nat.reduceSub, Nat.reduceLT, Nat.reduceLeDiff, Nat.reduceBEq, h1, hr, hx, a2]))
      exact Aw_ret (ret0 (.inl rfl) (by simp only [go_sem, Nat.reduceEqDiff, reduceIte, Nat.reduceAdd, Nat.reduceMul, Nat.reduceSub, Nat.reduceLT, Nat.reduceLeDiff, Nat.reduceBEq]; rfl) (by rfl) rfl)
    rw [a4] at k5
    have hlv : lvM s.keep i r x = true := by unfold lvM; rw [← hy, a1, a3, a4, decide_eq_true hrl]; rfl
    have k6 := newer_ac up r (by omega) hsr.len
    cases a5 : newerM up r
    · rw [a5] at k6
      rw [bad (by rw [hat, a5]; simp)]
      repeat (first | apply Aw_seq | apply Aw_block | apply Aw_skip | apply Aw_exit | refine Aw_condt rfl ?_ | refine Aw_condf rfl ?_ | (refine qr ?_; simp only [go_sem, Nat.reduceEqDiff, reduceIte, Nat.reduceAdd, Nat.reduceMul, Nat.reduceSub, Nat.reduceLT, Nat.reduceLeDiff, Nat.reduceBEq, h1, hr, hx, a2]) | (refine qd (by kernel_rfl) (by kernel_rfl) ?_; simp only [go_sem, Nat.reduceEqDiff, reduceIte, Nat.reduceAdd, Nat.reduceMul, Nat.reduceSub, Nat.reduceLT, Nat.reduceLeDiff, Nat.reduceBEq, h1, hr, hx, a2]) | refine dk (by kernel_rfl) ?_ | (refine qp (k1) (by simp only [go_sem, Nat.reduceEqDiff, reduceIte, Nat.reduceAdd, Nat.reduceMul, Nat.reduceSub, Nat.reduceLT, Nat.reduceLeDiff, Nat.reduceBEq, h1, hr, hx, a2]; first | done | rfl) rfl (by simp only [go_sem, Nat.reduceLT]) rfl rfl ?_; simp only [go_sem, Nat.reduceEqDiff, reduceIte, Nat.reduceAdd, Nat.reduceMul, Nat.reduceSub, Nat.reduceLT, Nat.reduceLeDiff, Nat.reduceBEq, h1, hr, hx, a2]) | (refine qp (k2) (by simp only [go_sem, Nat.reduceEqDiff, reduceIte, Nat.reduceAdd, Nat.reduceMul, Nat.reduceSub, Nat.reduceLT, Nat.reduceLeDiff, Nat.reduceBEq, h1, hr, hx, a2]; first | done | rfl) rfl (by simp only [go_sem, Nat.reduceLT]) rfl rfl ?_; simp only [go_sem, Nat.reduceEqDiff, reduceIte, Nat.reduceAdd, Nat.reduceMul, Nat.reduceSub, Nat.reduceLT, Nat.reduceLeDiff, Nat.reduceBEq, h1, hr, hx, a2]) | (refine qp (k3) (by simp only [go_sem, Nat.reduceEqDiff, reduceIte, Nat.reduceAdd, Nat.reduceMul, Nat.reduceSub, Nat.reduceLT, Nat.reduceLeDiff, Nat.reduceBEq, h1, hr, hx, a2]; first | done | rfl) rfl (by simp only [go_sem, Nat.reduceLT]) rfl rfl ?_; simp only [go_sem, Nat.reduceEqDiff, reduceIte, Nat.reduceAdd, Nat.reduceMul, Nat.reduceSub, Nat.reduceLT, Nat.reduceLeDiff, Nat.reduceBEq, h1, hr, hx, a2]) | (refine qp (k4) (by simp only [go_sem, Nat.reduceEqDiff, reduceIte, Nat.reduceAdd, Nat.reduceMul, Nat.reduceSub, Nat.reduceLT, Nat.reduceLeDiff, Nat.reduceBEq, h1, hr, hx, a2]; first | done | rfl) rfl (by simp only [go_sem, Nat.reduceLT]) rfl rfl ?_; simp only [go_sem, Nat.reduceEqDiff, reduceIte, Nat.reduceAdd, Nat.reduceMul, Nat.reduceSub, Nat.reduceLT, Nat.reduceLeDiff, Nat.reduceBEq, h1, hr, hx, a2]) | (refine qp (k5) (by simp only [go_sem, Nat.reduceEqDiff, reduceIte, Nat.reduceAdd, Nat.reduceMul, Nat.reduceSub, Nat.reduceLT, Nat.reduceLeDiff, Nat.reduceBEq, h1, hr, hx, a2]; first | done | rfl) rfl (by simp only [go_sem, Nat.reduceLT]) rfl rfl ?_; simp only [go_sem, Nat.reduceEqDiff, reduceIte, Nat.reduceAdd, Nat.reduceMul, Nat.reduceSub, Nat.reduceLT, Nat.reduceLeDiff, Nat.reduceBEq, h1, hr, hx, a2]) | (refine qp (k6) (by simp only [go_sem, Nat.reduceEqDiff, reduceIte, Nat.reduceAdd, Nat.reduceMul, Nat.reduceSub, Nat.reduceLT, Nat.reduceLeDiff, Nat.reduceBEq, h1, hr, hx, a2]; first | done | rfl) rfl (by simp only [go_sem, Nat.reduceLT]) rfl rfl ?_; simp only [go_sem, Nat.reduceEqDiff, reduceIte, Nat.reduceAdd, Nat.reduceMul, Nat.reduceSub, Nat.reduceLT, Nat.reduceLeDiff, Nat.reduceBEq, h1, hr, hx, a2]))
      exact Aw_ret (ret0 (.inl rfl) (by simp only [go_sem, Nat.reduceEqDiff, reduceIte, Nat.reduceAdd, Nat.reduceMul, Nat.reduceSub, Nat.reduceLT, Nat.reduceLeDiff, Nat.reduceBEq]; rfl) (by rfl) rfl)
    rw [a5] at k6
    have k7 := hasLate_ac s up (by omega)
    cases a6 : decide (0 ≤ lateI s up)
    case true =>
      rw [a6] at k7
      rw [bad (by rw [hat, a6]; simp)]
      repeat (first | apply Aw_seq | apply Aw_block | apply Aw_skip | apply Aw_exit | refine Aw_condt rfl ?_ | refine Aw_condf rfl ?_ | (refine qr ?_; simp only [go_sem, Nat.reduceEqDiff, reduceIte, Nat.reduceAdd, Nat.reduceMul, Nat.reduceSub, Nat.reduceLT, Nat.reduceLeDiff, Nat.reduceBEq, h1, hr, hx, a2]) | (refine qd (by kernel_rfl) (by kernel_rfl) ?_; simp only [go_sem, Nat.reduceEqDiff, reduceIte, Nat.reduceAdd, Nat.reduceMul, Nat.reduceSub, Nat.reduceLT, Nat.reduceLeDiff, Nat.reduceBEq, h1, hr, hx, a2]) | refine dk (by kernel_rfl) ?_ | (refine qp (k1) (by simp only [go_sem, Nat.reduceEqDiff, reduceIte, Nat.reduceAdd, Nat.reduceMul, Nat.reduceSub, Nat.reduceLT, Nat.reduceLeDiff, Nat.reduceBEq, h1, hr, hx, a2]; first | done | rfl) rfl (by simp only [go_sem, Nat.reduceLT]) rfl rfl ?_; simp only [go_sem, Nat.reduceEqDiff, reduceIte, Nat.reduceAdd, Nat.reduceMul, Nat.reduceSub, Nat.reduceLT, Nat.reduceLeDiff, Nat.reduceBEq, h1, hr, hx, a2]) | (refine qp (k2) (by simp only [go_sem, Nat.reduceEqDiff, reduceIte, Nat.reduceAdd, Nat.reduceMul, Nat.reduceSub, Nat.reduceLT, Nat.reduceLeDiff, Nat.reduceBEq, h1, hr, hx, a2]; first | done | rfl) rfl (by simp only [go_sem, Nat.reduceLT]) rfl rfl ?_; simp only [go_sem, Nat.reduceEqDiff, reduceIte, Nat.reduceAdd, Nat.reduceMul, Nat.reduceSub, Nat.reduceLT, Nat.reduceLeDiff, Nat.reduceBEq, h1, hr, hx, a2]) | (refine qp (k3) (by simp only [go_sem, Nat.reduceEqDiff, reduceIte, Nat.reduceAdd, Nat.reduceMul, Nat.reduceSub, Nat.reduceLT, Nat.reduceLeDiff, Nat.reduceBEq, h1, hr, hx, a2]; first | done | rfl) rfl (by simp only [go_sem, Nat.reduceLT]) rfl rfl ?_; simp only [go_sem, Nat.reduceEqDiff, reduceIte, Nat.reduceAdd, Nat.reduceMul, Nat.reduceSub, Nat.reduceLT, Nat.reduceLeDiff, Nat.reduceBEq, h1, hr, hx, a2]) | (refine qp (k4) (by simp only [go_sem, Nat.reduceEqDiff, reduceIte, Nat.reduceAdd, Nat.reduceMul, Nat.reduceSub, Nat.reduceLT, Nat.reduceLeDiff, Nat.reduceBEq, h1, hr, hx, a2]; first | done | rfl) rfl (by simp only [go_sem, Nat.reduceLT]) rfl rfl ?_; simp only [go_sem, Nat.reduceEqDiff, reduceIte, Nat.reduceAdd, Nat.reduceMul, Nat.reduceSub, Nat.reduceLT, Nat.reduceLeDiff, Nat.reduceBEq, h1, hr, hx, a2]) | (refine qp (k5) (by simp only [go_sem, Nat.reduceEqDiff, reduceIte, Nat.reduceAdd, Nat.reduceMul, Nat.reduceSub, Nat.reduceLT, Nat.reduceLeDiff, Nat.reduceBEq, h1, hr, hx, a2]; first | done | rfl) rfl (by simp only [go_sem, Nat.reduceLT]) rfl rfl ?_; simp only [go_sem, Nat.reduceEqDiff, reduceIte, Nat.reduceAdd, Nat.reduceMul, Nat.reduceSub, Nat.reduceLT, Nat.reduceLeDiff, Nat.reduceBEq, h1, hr, hx, a2]) | (refine qp (k6) (by simp only [go_sem, Nat.reduceEqDiff, reduceIte, Nat.reduceAdd, Nat.reduceMul, Nat.reduceSub, Nat.reduceLT, Nat.reduceLeDiff, Nat.reduceBEq, h1, hr, hx, a2]; first | done | rfl) rfl (by simp only [go_sem, Nat.reduceLT]) rfl rfl ?_; simp only [go_sem, Nat.reduceEqDiff, reduceIte, Nat.reduceAdd, Nat.reduceMul, Nat.reduceSub, Nat.reduceLT, Nat.reduceLeDiff, Nat.reduceBEq, h1, hr, hx, a2]) | (refine qx (call_L (N' := [0]) (L := []) (k7) rfl (.cons (.nm rfl) (.cons (.nm rfl) (.nil))) (by decide) (by decide) (by decide) (by simp only [go_sem, Nat.reduceEqDiff, reduceIte, Nat.reduceAdd, Nat.reduceMul, Nat.reduceSub, Nat.reduceLT, Nat.reduceLeDiff, Nat.reduceBEq, h1, hr, hx, a2]; first | done | rfl) (.inl rfl) rfl (by decide)) (by simp only [go_sem, Nat.reduceEqDiff, reduceIte, Nat.reduceAdd, Nat.reduceMul, Nat.reduceSub, Nat.reduceLT, Nat.reduceLeDiff, Nat.reduceBEq, h1, hr, hx, a2]; first | done | rfl) rfl (by simp only [go_sem, Nat.reduceLT]) ?_; simp only [go_sem, Nat.reduceEqDiff, reduceIte, Nat.reduceAdd, Nat.reduceMul, Nat.reduceSub, Nat.reduceLT, Nat.reduceLeDiff, Nat.reduceBEq, h1, hr, hx, a2]))
      exact Aw_ret (ret0 (.inl rfl) (by simp only [go_sem, Nat.reduceEqDiff, reduceIte, Nat.reduceAdd, Nat.reduceMul, Nat.reduceSub, Nat.reduceLT, Nat.reduceLeDiff, Nat.reduceBEq]; rfl) (by rfl) rfl)
    rw [a6] at k7
    have hok : iAt s i = true := by rw [hat, hlv, a5, a6]; rfl
    have k8 := concatS_ac up r (by omega) (by omega)
    repeat (first | apply Aw_seq | apply Aw_block | apply Aw_skip | apply Aw_exit | refine Aw_condt rfl ?_ | refine Aw_condf rfl ?_ | (refine qr ?_; simp only [go_sem, Nat.reduceEqDiff, reduceIte, Nat.reduceAdd, Nat.reduceMul, Nat.reduceSub, Nat.reduceLT, Nat.reduceLeDiff, Nat.reduceBEq, h1, hr, hx, a2, h2]) | (refine qd (by kernel_rfl) (by kernel_rfl) ?_; simp only [go_sem, Nat.reduceEqDiff, reduceIte, Nat.reduceAdd, Nat.reduceMul, Nat.reduceSub, Nat.reduceLT, Nat.reduceLeDiff, Nat.reduceBEq, h1, hr, hx, a2, h2]) | refine dk (by kernel_rfl) ?_ | (refine qp (k1) (by simp only [go_sem, Nat.reduceEqDiff, reduceIte, Nat.reduceAdd, Nat.reduceMul, Nat.reduceSub, Nat.reduceLT, Nat.reduceLeDiff, Nat.reduceBEq, h1, hr, hx, a2, h2]; first | done | rfl) rfl (by simp only [go_sem, Nat.reduceLT]) rfl rfl ?_; simp only [go_sem, Nat.reduceEqDiff, reduceIte, Nat.reduceAdd, Nat.reduceMul, Nat.reduceSub, Nat.reduceLT, Nat.reduceLeDiff, Nat.reduceBEq, h1, hr, hx, a2, h2]) | (refine qp (k2) (by simp only [go_sem, Nat.reduceEqDiff, reduceIte, Nat.reduceAdd, Nat.reduceMul, Nat.reduceSub, Nat.reduceLT, Nat.reduceLeDiff, Nat.reduceBEq, h1, hr, hx, a2, h2]; first | done | rfl) rfl (by simp only [go_sem, Nat.reduceLT]) rfl rfl ?_; simp only [go_sem, Nat.reduceEqDiff, reduceIte, Nat.reduceAdd, Nat.reduceMul, Nat.reduceSub, Nat.reduceLT, Nat.reduceLeDiff, Nat.reduceBEq, h1, hr, hx, a2, h2]) | (refine qp (k3) (by simp only [go_sem, Nat.reduceEqDiff, reduceIte, Nat.reduceAdd, Nat.reduceMul, Nat.reduceSub, Nat.reduceLT, Nat.reduceLeDiff, Nat.reduceBEq, h1, hr, hx, a2, h2]; first | done | rfl) rfl (by simp only [go_sem, Nat.reduceLT]) rfl rfl ?_; simp only [go_sem, Nat.reduceEqDiff, reduceIte, Nat.reduceAdd, Nat.reduceMul, Nat.reduceSub, Nat.reduceLT, Nat.reduceLeDiff, Nat.reduceBEq, h1, hr, hx, a2, h2]) | (refine qp (k4) (by simp only [go_sem, Nat.reduceEqDiff, reduceIte, Nat.reduceAdd, Nat.reduceMul, Nat.reduceSub, Nat.reduceLT, Nat.reduceLeDiff, Nat.reduceBEq, h1, hr, hx, a2, h2]; first | done | rfl) rfl (by simp only [go_sem, Nat.reduceLT]) rfl rfl ?_; simp only [go_sem, Nat.reduceEqDiff, reduceIte, Nat.reduceAdd, Nat.reduceMul, Nat.reduceSub, Nat.reduceLT, Nat.reduceLeDiff, Nat.reduceBEq, h1, hr, hx, a2, h2]) | (refine qp (k5) (by simp only [go_sem, Nat.reduceEqDiff, reduceIte, Nat.reduceAdd, Nat.reduceMul, Nat.reduceSub, Nat.reduceLT, Nat.reduceLeDiff, Nat.reduceBEq, h1, hr, hx, a2, h2]; first | done | rfl) rfl (by simp only [go_sem, Nat.reduceLT]) rfl rfl ?_; simp only [go_sem, Nat.reduceEqDiff, reduceIte, Nat.reduceAdd, Nat.reduceMul, Nat.reduceSub, Nat.reduceLT, Nat.reduceLeDiff, Nat.reduceBEq, h1, hr, hx, a2, h2]) | (refine qp (k6) (by simp only [go_sem, Nat.reduceEqDiff, reduceIte, Nat.reduceAdd, Nat.reduceMul, Nat.reduceSub, Nat.reduceLT, Nat.reduceLeDiff, Nat.reduceBEq, h1, hr, hx, a2, h2]; first | done | rfl) rfl (by simp only [go_sem, Nat.reduceLT]) rfl rfl ?_; simp only [go_sem, Nat.reduceEqDiff, reduceIte, Nat.reduceAdd, Nat.reduceMul, Nat.reduceSub, Nat.reduceLT, Nat.reduceLeDiff, Nat.reduceBEq, h1, hr, hx, a2, h2]) | (refine qx (call_L (N' := [0]) (L := []) (k7) rfl (.cons (.nm rfl) (.cons (.nm rfl) (.nil))) (by decide) (by decide) (by decide) (by simp only [go_sem, Nat.reduceEqDiff, reduceIte, Nat.reduceAdd, Nat.reduceMul, Nat.reduceSub, Nat.reduceLT, Nat.reduceLeDiff, Nat.reduceBEq, h1, hr, hx, a2, h2]; first | done | rfl) (.inl rfl) rfl (by decide)) (by simp only [go_sem, Nat.reduceEqDiff, reduceIte, Nat.reduceAdd, Nat.reduceMul, Nat.reduceSub, Nat.reduceLT, Nat.reduceLeDiff, Nat.reduceBEq, h1, hr, hx, a2, h2]; first | done | rfl) rfl (by simp only [go_sem, Nat.reduceLT]) ?_; simp only [go_sem, Nat.reduceEqDiff, reduceIte, Nat.reduceAdd, Nat.reduceMul, Nat.reduceSub, Nat.reduceLT, Nat.reduceLeDiff, Nat.reduceBEq, h1, hr, hx, a2, h2]) | (refine qx (call_L (N' := [46]) (L := []) (k8) rfl (.cons (.nm rfl) (.nil)) (by decide) (by decide) (by decide) (by simp only [go_sem, Nat.reduceEqDiff, reduceIte, Nat.reduceAdd, Nat.reduceMul, Nat.reduceSub, Nat.reduceLT, Nat.reduceLeDiff, Nat.reduceBEq, h1, hr, hx, a2, h2]; first | done | rfl) (.inl rfl) rfl (by decide)) (by simp only [go_sem, Nat.reduceEqDiff, reduceIte, Nat.reduceAdd, Nat.reduceMul, Nat.reduceSub, Nat.reduceLT, Nat.reduceLeDiff, Nat.reduceBEq, h1, hr, hx, a2, h2]; first | done | rfl) rfl (by simp only [go_sem, Nat.reduceLT]) ?_; simp only [go_sem, Nat.reduceEqDiff, reduceIte, Nat.reduceAdd, Nat.reduceMul, Nat.reduceSub, Nat.reduceLT, Nat.reduceLeDiff, Nat.reduceBEq, h1, hr, hx, a2, h2]))
    simp only [← List.map_append]
    refine ⟨⟨i + 1, up ++ r, by omega, by rw [hu]; unfold upTo; rw [List.take_succ, hr, List.flatten_append, List.append_assoc]; simp, by rw [List.length_append]; omega, fun j hj => by rcases Nat.lt_succ_iff_lt_or_eq.1 hj with h | rfl; exact hp j h; exact hok⟩, [0], ?_, rwL (by repeat (first | exact trivial | refine ⟨rfl, rfl, ?_⟩)) (by rfl) (by simp only [go_sem, Nat.reduceEqDiff, reduceIte, Nat.reduceAdd, Nat.reduceMul, Nat.reduceSub, Nat.reduceLT, Nat.reduceLeDiff, Nat.reduceBEq]; first | done | rfl) (by decide) (by intro m hm; first | omega | (rcases m with _ | _ | _ | _ | _ | _ | m <;> first | exact ⟨by decide, rfl⟩ | omega))⟩
    show 3 - (i + 1) < 3 - i; omega
  · obtain rfl : i = 3 := by omega
    have h1 : ¬ ((3 : Nat) : Int) < (s.levels.length : Int) := by omega
    have hall : storeI s = true := by unfold storeI; rw [hh, allI_t hp]; rfl
    rw [hall]
    repeat (first | apply Aw_seq | apply Aw_block | apply Aw_skip | apply Aw_exit | refine Aw_condt rfl ?_ | refine Aw_condf rfl ?_ | (refine qr ?_; simp only [go_sem, Nat.reduceEqDiff, reduceIte, Nat.reduceAdd, Nat.reduceMul, Nat.reduceSub, Nat.reduceLT, Nat.reduceLeDiff, Nat.reduceBEq, h1]) | (refine qd (by kernel_rfl) (by kernel_rfl) ?_; simp only [go_sem, Nat.reduceEqDiff, reduceIte, Nat.reduceAdd, Nat.reduceMul, Nat.reduceSub, Nat.reduceLT, Nat.reduceLeDiff, Nat.reduceBEq, h1]) | refine dk (by kernel_rfl) ?_)
    exact Aw_ret (ret0 (.inl rfl) (by simp only [go_sem, Nat.reduceEqDiff, reduceIte, Nat.reduceAdd, Nat.reduceMul, Nat.reduceSub, Nat.reduceLT, Nat.reduceLeDiff, Nat.reduceBEq]; rfl) (by rfl) rfl)
end Go.Proofs.Ytcbhgglpgphimaa.Ab
namespace Go.Proofs.Ytcbhgglpgphimaa.Ab
set_option linter.deprecated false
set_option linter.unusedVariables false
set_option linter.unusedSimpArgs false
open Go
set_option linter.unusedVariables false
set_option linter.unusedSimpArgs false
theorem before_trans {a b c : Ent} (h : before a b = true) (k : before b c = true) : before a c = true := by
  unfold before at *
  simp only [Bool.or_eq_true, Bool.and_eq_true, decide_eq_true_eq] at *
  rcases h with h | ⟨h1, h2⟩ <;> rcases k with k | ⟨k1, k2⟩
  · exact .inl (klt_trans h k)
  · exact .inl (k1 ▸ h)
  · exact .inl (h1 ▸ k)
  · exact .inr ⟨h1.trans k1, by omega⟩
theorem run_pw {r : List Ent} (h : runOk r = true) : r.Pairwise (fun a b => before a b = true) ∧ (∀ e ∈ r, entOk e = true) ∧ r.length ≤ 40 := by
  unfold runOk at h
  rw [Bool.and_eq_true] at h
  have h1 := allI_iff.1 h.1
  have hk : ∀ e ∈ r, entOk e = true := fun e he => by
    obtain ⟨i, hi⟩ := List.mem_iff_getElem?.1 he
    have := h1 i (List.getElem?_eq_some_iff.1 hi).1
    unfold okAt at this; rw [hi] at this; simp only [Bool.and_eq_true] at this; exact this.1
  have hadj : ∀ j p k, r[j]? = some p → r[j + 1]? = some k → before p k = true := fun j p k hp hk => by
    have := h1 (j + 1) (List.getElem?_eq_some_iff.1 hk).1
    unfold okAt at this; rw [hk] at this; simp only [hp, Bool.and_eq_true] at this; exact this.2
  refine ⟨?_, hk, by simpa using h.2⟩
  rw [List.pairwise_iff_getElem]
  intro i j hi hj hij
  have key : ∀ d i (h1 : i < r.length) (h2 : i + d + 1 < r.length), before r[i] r[i + d + 1] = true := by
    intro d
    induction d with
    | zero => intro i h1 h2; exact hadj i _ _ (List.getElem?_eq_getElem h1) (List.getElem?_eq_getElem h2)
    | succ d ih =>
      intro i h1 h2
      exact before_trans (ih i h1 (by omega)) (hadj (i + d + 1) _ _ (List.getElem?_eq_getElem (by omega)) (List.getElem?_eq_getElem h2))
  have := key (j - i - 1) i hi (by omega)
  simpa [show i + (j - i - 1) + 1 = j by omega] using this
theorem entOk_time {e : Ent} (h : entOk e = true) : 1 ≤ e.time ∧ e.time ≤ 999 := by
  unfold entOk inB at h
  simp only [Bool.and_eq_true, decide_eq_true_eq] at h
  exact h.2
/-- What is found at the last time is the newest of its key. -/
theorem at_newest : ∀ {b : List Ent}, b.Pairwise (fun a b => before a b = true) → (∀ e ∈ b, e.time ≤ 999) → ∀ x : Ent, (match atM b x.key 999 with
    | some q => !decide (x.time ≤ q.time)
    | none => true) = b.all fun y => !older x y
  | [], _, _, x => rfl
  | y :: b, hp, ht, x => by
    rw [List.pairwise_cons] at hp
    have hy := ht y (by simp)
    unfold atM
    by_cases e : y.key = x.key
    · rw [List.find?_cons_of_pos (by simp [hit, e, hy])]
      simp only [List.all_cons]
      have h1 : older x y = decide (x.time ≤ y.time) := by unfold older; simp [e]
      rw [h1]
      cases hd : decide (x.time ≤ y.time) with
      | true => rfl
      | false =>
        have hgt := of_decide_eq_false hd
        have : (b.all fun z => !older x z) = true := by
          rw [List.all_eq_true]
          intro z hz
          have hb := hp.1 z hz
          unfold older
          unfold before at hb
          simp only [Bool.or_eq_true, Bool.and_eq_true, decide_eq_true_eq] at hb
          rcases hb with hb | ⟨_, hb⟩
          · have : x.key ≠ z.key := fun e2 => by rw [e, e2, klt_irrefl] at hb; cases hb
            simp [this]
          · have : ¬ x.time ≤ z.time := by omega
            simp [this]
        rw [this]; rfl
    · rw [List.find?_cons_of_neg (by simp [hit, e])]
      have ih := at_newest hp.2 (fun e he => ht e (by simp [he])) x
      unfold atM at ih
      rw [ih, List.all_cons]
      have h1 : older x y = false := by unfold older; rw [decide_eq_false (fun h : x.key = y.key => e h.symm)]; rfl
      rw [h1]; rfl
theorem nwAt_eq {b : List Ent} {now : Int} (hp : b.Pairwise (fun a b => before a b = true)) (ht : ∀ e ∈ b, e.time ≤ 999) (x : Ent) : nwAt b now x = (!decide (now < x.time) && b.all fun y => !older x y) := by
  have h := at_newest hp ht x
  unfold nwAt
  cases hA : atM b x.key 999 with
  | none => rw [hA] at h; simp only [] at h ⊢; rw [← h]
  | some q => rw [hA] at h; simp only [] at h ⊢; rw [← h]
theorem newest_iff {a b : List Ent} {now : Int} (hb : runOk b = true) : newestM a b now = true ↔ (∀ x ∈ a, x.time ≤ now) ∧ newerM a b = true := by
  obtain ⟨h1, h2, _⟩ := run_pw hb
  unfold newestM newerM
  rw [List.all_eq_true, List.all_eq_true]
  constructor
  · intro h
    refine ⟨fun x hx => ?_, fun x hx => ?_⟩
    · have := h x hx; rw [nwAt_eq h1 (fun e he => (entOk_time (h2 e he)).2) x] at this; simp only [Bool.and_eq_true, Bool.not_eq_true', decide_eq_false_iff_not] at this; omega
    · have := h x hx
      rw [nwAt_eq h1 (fun e he => (entOk_time (h2 e he)).2) x, Bool.and_eq_true] at this
      exact this.2
  · rintro ⟨h, k⟩ x hx
    rw [nwAt_eq h1 (fun e he => (entOk_time (h2 e he)).2) x, k x hx, Bool.and_true, Bool.not_eq_true', decide_eq_false_iff_not]
    have := h x hx; omega
theorem newer_app {a b c : List Ent} : newerM (a ++ b) c = (newerM a c && newerM b c) := by unfold newerM; rw [List.all_append]
theorem late_iff {s : Sto} {r : List Ent} : decide (0 ≤ lateI s r) = false ↔ ∀ x ∈ r, x.time ≤ s.time := by
  rw [decide_eq_false_iff_not]
  unfold lateI
  cases h : r.findIdx? (fun e => decide (s.time < e.time)) with
  | none =>
    rw [List.findIdx?_eq_none_iff] at h
    simp only []
    exact ⟨fun _ x hx => by have := h x hx; simp at this; omega, fun _ => by omega⟩
  | some i =>
    simp only []
    rw [List.findIdx?_eq_some_iff_getElem] at h
    obtain ⟨hi, h1, _⟩ := h
    constructor
    · intro h; omega
    · intro h2
      have := h2 _ (List.getElem_mem hi)
      simp at h1; omega
theorem lv_run {keep : Int} {i : Nat} {r : List Ent} {x : Sve} (h : lvM keep i r x = true) : runOk r = true ∧ inB 0 keep 5 = true := by
  unfold lvM at h
  simp only [Bool.and_eq_true] at h
  refine ⟨h.1.1.1, ?_⟩
  have := h.1.2
  unfold sieveM at this
  split at this
  · rename_i hc; exact hc.2
  · cases this
theorem allI3 (p : Nat → Bool) : allI 3 p = (p 0 && (p 1 && p 2)) := by
  unfold allI
  show (List.range 3).all p = _
  rw [show List.range 3 = [0, 1, 2] from rfl]
  simp
theorem store_eq (s : Sto) : storeI s = storeS s := by
  by_cases hl : s.levels.length = 3
  case neg => unfold storeI storeS headM headS; rw [decide_eq_false hl]; rfl
  by_cases hx : s.sieves.length = 3
  case neg => unfold storeI storeS headM headS; rw [decide_eq_false hx]; simp
  obtain ⟨a, b, c, ea⟩ := len3 hl
  obtain ⟨x, y, z, ex⟩ := len3 hx
  have u0 : upTo s 0 = s.top := by simp [upTo]
  have u1 : upTo s 1 = s.top ++ a := by simp [upTo, ea]
  have u2 : upTo s 2 = s.top ++ (a ++ b) := by simp [upTo, ea]
  have i0 : iAt s 0 = (lvM s.keep 0 a x && newerM s.top a && !decide (0 ≤ lateI s s.top)) := by unfold iAt; rw [u0, ea, ex]; rfl
  have i1 : iAt s 1 = (lvM s.keep 1 b y && newerM (s.top ++ a) b && !decide (0 ≤ lateI s (s.top ++ a))) := by unfold iAt; rw [u1, ea, ex]; rfl
  have i2 : iAt s 2 = (lvM s.keep 2 c z && newerM (s.top ++ (a ++ b)) c && !decide (0 ≤ lateI s (s.top ++ (a ++ b)))) := by unfold iAt; rw [u2, ea, ex]; rfl
  have p01 : sPair s 0 1 = newestM a b s.time := by unfold sPair; rw [ea]; rfl
  have p02 : sPair s 0 2 = newestM a c s.time := by unfold sPair; rw [ea]; rfl
  have p12 : sPair s 1 2 = newestM b c s.time := by unfold sPair; rw [ea]; rfl
  have s0 : sAt s 0 = (lvM s.keep 0 a x && newestM s.top a s.time && (newestM a b s.time && newestM a c s.time)) := by
    unfold sAt; rw [allI3, p01, p02, ea, ex]; rfl
  have s1 : sAt s 1 = (lvM s.keep 1 b y && newestM s.top b s.time && newestM b c s.time) := by
    unfold sAt; rw [allI3, p12, ea, ex]; rfl
  have s2 : sAt s 2 = (lvM s.keep 2 c z && newestM s.top c s.time) := by
    unfold sAt; rw [allI3, ea, ex]; simp
  rw [Bool.eq_iff_iff]
  unfold storeI storeS headM headS
  rw [allI3, allI3, i0, i1, i2, s0, s1, s2]
  simp only [Bool.and_eq_true, Bool.not_eq_true', late_iff, newer_app, List.mem_append]
  constructor
  · rintro ⟨⟨⟨⟨⟨⟨h1, h2⟩, h3⟩, h4⟩, h5⟩, h6⟩, ⟨⟨l0, n0⟩, t0⟩, ⟨⟨l1, n1, n1'⟩, t1⟩, ⟨⟨l2, n2, n2', n2''⟩, t2⟩⟩
    obtain ⟨ra, hk⟩ := lv_run l0
    have rb := (lv_run l1).1
    have rc := (lv_run l2).1
    exact ⟨⟨⟨⟨⟨⟨⟨h1, h2⟩, hk⟩, h5⟩, h6⟩, h3⟩, h4⟩, ⟨⟨l0, (newest_iff ra).2 ⟨t0, n0⟩⟩, (newest_iff rb).2 ⟨fun e he => t1 e (.inr he), n1'⟩, (newest_iff rc).2 ⟨fun e he => t1 e (.inr he), n2'⟩⟩, ⟨⟨l1, (newest_iff rb).2 ⟨t0, n1⟩⟩, (newest_iff rc).2 ⟨fun e he => t2 e (.inr (.inr he)), n2''⟩⟩, l2, (newest_iff rc).2 ⟨t0, n2⟩⟩
  · rintro ⟨⟨⟨⟨⟨⟨⟨h1, h2⟩, hk⟩, h5⟩, h6⟩, h3⟩, h4⟩, ⟨⟨l0, n0⟩, n01, n02⟩, ⟨⟨l1, n1⟩, n12⟩, l2, n2⟩
    have ra := (lv_run l0).1
    have rb := (lv_run l1).1
    have rc := (lv_run l2).1
    rw [newest_iff ra] at n0
    rw [newest_iff rb] at n01 n1
    rw [newest_iff rc] at n02 n12 n2
    refine ⟨⟨⟨⟨⟨⟨h1, h2⟩, h3⟩, h4⟩, h5⟩, h6⟩, ⟨⟨l0, n0.2⟩, n0.1⟩, ⟨⟨l1, n1.2, n01.2⟩, fun e he => he.elim (n0.1 e) (n01.1 e)⟩, ⟨⟨l2, n2.2, n02.2, n12.2⟩, fun e he => ?_⟩⟩
    rcases he with he | he | he
    · exact n0.1 e he
    · exact n01.1 e he
    · exact n12.1 e he
end Go.Proofs.Ytcbhgglpgphimaa.Ab
