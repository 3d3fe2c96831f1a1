/-
  Contracts: what reads a code, and draws a number from it. No condition.
  Contracts: a key that is put into its place, the reference's. No condition.
  The drawn number, and a key that is put into its place. No condition.
  Contracts: keys that are drawn, the reference's. No condition.
  Contracts: keys near others that are drawn, the reference's. No condition.
  Contracts: runs that are joined, and trimmed, the reference's. No condition.
  Contracts: runs that are drawn, the reference's. No condition.
  Contracts: runs that are drawn, some spoilt; the reference's. No condition.
  slices.Sort and slices.Compact at strings, over a row of our own. No condition.
  slices.Sort and slices.Compact at strings as contracts. No condition.
  Contracts: what was put last of a key; both. No condition.
  Plain law: keys put in place one by one are keys sorted and made one of a kind. No condition.
  Contracts: keys sorted. No condition.
  Contract: the law of a run's keys gives true, whatever the code. No condition.
-/
import Derived.Test.YtcbhgglpgphimaaYd
import Derived.Test.YtcbhgglpgphimaaYc
import Derived.Shelf.Sort.Plain
import Derived.Shelf.Slices.CompactS
import Derived.Shelf.Slices.In.SortNone
import Derived.Ground.NamesProg
import Derived.Sort.OwnSorted
import Derived.Sort.Grow
import Derived.Lib.OwnBridge
import Derived.Lib.RowBridge
namespace Go.Proofs.Ytcbhgglpgphimaa.Ab
set_option linter.deprecated false
set_option linter.unusedVariables false
set_option linter.unusedSimpArgs false
open Go Go.Proofs
set_option maxRecDepth 10000
set_option maxHeartbeats 8000000
set_option linter.unusedSimpArgs false
set_option linter.unusedVariables false
def u8D (n : Int) : List D := [.s (.int .u8 n)]
@[go_sem] theorem r_u8D (n : Int) : u8D n = [.s (.int .u8 n)] := rfl
abbrev bytesT (b : List Int) : TV := .c (.d (.rs 1 (b.map u8D)))
def rdO (b : List Int) (p : Nat) : Obj := ⟨136, 2, false, [[.d (.rs 1 (b.map u8D)), .d (.s (.int .i64 p))]]⟩
@[go_sem] theorem r_rdO (b : List Int) (p : Nat) : rdO b p = ⟨136, 2, false, [[.d (.rs 1 (b.map u8D)), .d (.s (.int .i64 p))]]⟩ := rfl
def byteL (b : List Int) : Prop := b.length ≤ 2000 ∧ ∀ c ∈ b, 0 ≤ c ∧ c ≤ 255
theorem l6Open_ac (b : List Int) (hl : b.length ≤ 1099511627776) : AC Try.prog 73 [bytesT b] noHp 0 ⟨.t (.c (.ph 0 0 0)), hpL [some (rdO (b.take 2000) 0)], 1⟩ := by
  refine AC_of Try.func73 rfl Try.ntmps73 Try.results73 (by kernel_rfl) rfl ?_
  simp only [List.zipIdx, List.map, Nat.zero_add, Nat.reduceAdd]
  by_cases h : b.length ≤ 2000
  · have g1 : decide ((2000 : Int) < (b.length : Int)) = false := decide_eq_false (by omega)
    rw [List.take_of_length_le h]
    repeat (first | apply Aw_seq | apply Aw_block | apply Aw_skip | apply Aw_exit | refine Aw_condt rfl ?_ | refine Aw_condf rfl ?_ | (refine qr ?_; simp only [go_sem, Nat.reduceEqDiff, reduceIte, Nat.reduceAdd, Nat.reduceMul, Nat.reduceSub, Nat.reduceLT, Nat.reduceLeDiff, Nat.reduceBEq, g1]) | (refine qd (by kernel_rfl) (by kernel_rfl) ?_; simp only [go_sem, Nat.reduceEqDiff, reduceIte, Nat.reduceAdd, Nat.reduceMul, Nat.reduceSub, Nat.reduceLT, Nat.reduceLeDiff, Nat.reduceBEq, g1]) | refine dk (by kernel_rfl) ?_)
    exact Aw_ret (retL (M := [6]) (.inl rfl) (by simp only [go_sem, Nat.reduceEqDiff, reduceIte, Nat.reduceAdd, Nat.reduceMul, Nat.reduceSub, Nat.reduceLT, Nat.reduceLeDiff, Nat.reduceBEq]; first | done | rfl) rfl rfl (by rfl) (by simp only [go_sem, Nat.reduceEqDiff, reduceIte, Nat.reduceAdd, Nat.reduceMul, Nat.reduceSub, Nat.reduceLT, Nat.reduceLeDiff, Nat.reduceBEq]; first | done | rfl | (and_intros <;> rfl)) (by decide) (by intro m hm; first | omega | (rcases m with _ | _ | _ | _ | _ | _ | m <;> first | exact ⟨by decide, rfl⟩ | omega)))
  · have g1 : decide ((2000 : Int) < (b.length : Int)) = true := decide_eq_true (by omega)
    have g2 : ((2000 : Int) ≤ (b.length : Int)) = True := eq_true (by omega)
    have g3 : ((0 : Int) ≤ 2000) = True := eq_true (by omega)
    have g4 : Int.toNat 2000 = 2000 := rfl
    have g5 : (List.map u8D b).take 2000 = List.map u8D (b.take 2000) := by rw [List.map_take]
    repeat (first | apply Aw_seq | apply Aw_block | apply Aw_skip | apply Aw_exit | refine Aw_condt rfl ?_ | refine Aw_condf rfl ?_ | (refine qr ?_; simp only [go_sem, Nat.reduceEqDiff, reduceIte, Nat.reduceAdd, Nat.reduceMul, Nat.reduceSub, Nat.reduceLT, Nat.reduceLeDiff, Nat.reduceBEq, g1, g2, g3, g4, g5]) | (refine qd (by kernel_rfl) (by kernel_rfl) ?_; simp only [go_sem, Nat.reduceEqDiff, reduceIte, Nat.reduceAdd, Nat.reduceMul, Nat.reduceSub, Nat.reduceLT, Nat.reduceLeDiff, Nat.reduceBEq, g1, g2, g3, g4, g5]) | refine dk (by kernel_rfl) ?_)
    exact Aw_ret (retL (M := [9]) (.inl rfl) (by simp only [go_sem, Nat.reduceEqDiff, reduceIte, Nat.reduceAdd, Nat.reduceMul, Nat.reduceSub, Nat.reduceLT, Nat.reduceLeDiff, Nat.reduceBEq]; first | done | rfl) rfl rfl (by rfl) (by simp only [go_sem, Nat.reduceEqDiff, reduceIte, Nat.reduceAdd, Nat.reduceMul, Nat.reduceSub, Nat.reduceLT, Nat.reduceLeDiff, Nat.reduceBEq]; first | done | rfl | (and_intros <;> rfl)) (by decide) (by intro m hm; first | omega | (rcases m with _ | _ | _ | _ | _ | _ | m <;> first | exact ⟨by decide, rfl⟩ | omega)))
theorem wn {x : Int} {m : Nat} (e : x = (m : Int)) (h : m ≤ 1099511627776) : IntKind.i64.wrap x = (m : Int) := by rw [e]; exact wrap_nat h
theorem xorN (X Y : Nat) (hX : X ≤ 1099511627776) (hY : Y ≤ 1099511627776) : ∃ v : Nat, IntKind.i64.wrap (((BitVec.ofInt IntKind.i64.bits (X : Int) ^^^ BitVec.ofInt IntKind.i64.bits (Y : Int)).toNat : Nat) : Int) = v := by
  have e62 : (2 : Nat) ^ 62 = 4611686018427387904 := by decide
  have e64 : (2 : Nat) ^ 64 = 18446744073709551616 := by decide
  have hx := Nat.xor_lt_two_pow (n := 62) (show X < 2 ^ 62 by omega) (show Y < 2 ^ 62 by omega)
  have hb : ∀ q : Nat, q < 2 ^ 62 → (BitVec.ofInt IntKind.i64.bits (q : Int)).toNat = q := fun q hq => by
    show (BitVec.ofInt 64 (q : Int)).toNat = q
    rw [BitVec.ofInt_natCast, BitVec.toNat_ofNat]; exact Nat.mod_eq_of_lt (by omega)
  refine ⟨X ^^^ Y, ?_⟩
  rw [BitVec.toNat_xor, hb X (by omega), hb Y (by omega)]
  simp only [IntKind.wrap, IntKind.bits, IntKind.signed]
  simp
  omega
theorem byte_at {b : List Int} (hb : byteL b) {i : Nat} (h : i < b.length) : ∃ n : Nat, n ≤ 255 ∧ b[i]? = some (n : Int) := by
  have := hb.2 b[i] (List.getElem_mem h)
  exact ⟨b[i].toNat, by omega, by rw [List.getElem?_eq_getElem h]; congr 1; omega⟩
theorem pick_ac (b : List Int) (p : Nat) (n : Int) (hb : byteL b) (hp : p ≤ 1000000) (hn : n ≤ 1099511627776) : ∃ v : Nat, (1 ≤ n → (v : Int) < n) ∧ (¬ 1 ≤ n → v = 0) ∧ AC Try.prog 76 [.c (.ph 0 0 0), iT n] (hpL [some (rdO b p)]) 1 ⟨.t (iT v), hpL [some (rdO b (p + 1))], 1⟩ := by
  have w1 : IntKind.i64.wrap ((p : Int) + 1) = ((p + 1 : Nat) : Int) := wn (by omega) (by omega)
  have w2 : IntKind.i64.wrap (((p + 1 : Nat) : Int) - 1) = (p : Int) := wn (by omega) (by omega)
  have z0 : ((0 : Nat) : Int) = 0 := rfl
  by_cases c1 : 1 ≤ n
  case neg =>
    refine ⟨0, fun h => absurd h c1, fun _ => rfl, ?_⟩
    have g1 : decide (n < 1) = true := decide_eq_true (by omega)
    refine AC_of Try.func76 rfl Try.ntmps76 Try.results76 (by kernel_rfl) rfl ?_
    simp only [List.zipIdx, List.map, Nat.zero_add, Nat.reduceAdd]
    repeat (first | apply Aw_seq | apply Aw_block | apply Aw_skip | apply Aw_exit | refine Aw_condt rfl ?_ | refine Aw_condf rfl ?_ | (refine qr ?_; simp only [go_sem, Nat.reduceEqDiff, reduceIte, Nat.reduceAdd, Nat.reduceMul, Nat.reduceSub, Nat.reduceLT, Nat.reduceLeDiff, Nat.reduceBEq, w1, g1]) | (refine qd (by kernel_rfl) (by kernel_rfl) ?_; simp only [go_sem, Nat.reduceEqDiff, reduceIte, Nat.reduceAdd, Nat.reduceMul, Nat.reduceSub, Nat.reduceLT, Nat.reduceLeDiff, Nat.reduceBEq, w1, g1]) | refine dk (by kernel_rfl) ?_)
    exact Aw_ret (retL (M := [0]) (.inl rfl) (by simp only [go_sem, Nat.reduceEqDiff, reduceIte, Nat.reduceAdd, Nat.reduceMul, Nat.reduceSub, Nat.reduceLT, Nat.reduceLeDiff, Nat.reduceBEq]; first | done | rfl) rfl rfl (by rfl) (by simp only [go_sem, Nat.reduceEqDiff, reduceIte, Nat.reduceAdd, Nat.reduceMul, Nat.reduceSub, Nat.reduceLT, Nat.reduceLeDiff, Nat.reduceBEq]; first | done | rfl | (and_intros <;> rfl)) (by decide) (by intro m hm; first | omega | (rcases m with _ | _ | _ | _ | _ | _ | m <;> first | exact ⟨by decide, rfl⟩ | omega)))
  have g1 : decide (n < 1) = false := decide_eq_false (by omega)
  have gn : (n = 0) = False := eq_false (by omega)
  by_cases c2 : b.length = 0
  · refine ⟨0, fun _ => by omega, fun h => absurd c1 h, ?_⟩
    have g2 : decide (((b.length : Nat) : Int) = 0) = true := decide_eq_true (by omega)
    refine AC_of Try.func76 rfl Try.ntmps76 Try.results76 (by kernel_rfl) rfl ?_
    simp only [List.zipIdx, List.map, Nat.zero_add, Nat.reduceAdd]
    repeat (first | apply Aw_seq | apply Aw_block | apply Aw_skip | apply Aw_exit | refine Aw_condt rfl ?_ | refine Aw_condf rfl ?_ | (refine qr ?_; simp only [go_sem, Nat.reduceEqDiff, reduceIte, Nat.reduceAdd, Nat.reduceMul, Nat.reduceSub, Nat.reduceLT, Nat.reduceLeDiff, Nat.reduceBEq, w1, g1, g2]) | (refine qd (by kernel_rfl) (by kernel_rfl) ?_; simp only [go_sem, Nat.reduceEqDiff, reduceIte, Nat.reduceAdd, Nat.reduceMul, Nat.reduceSub, Nat.reduceLT, Nat.reduceLeDiff, Nat.reduceBEq, w1, g1, g2]) | refine dk (by kernel_rfl) ?_)
    exact Aw_ret (retL (M := [0]) (.inl rfl) (by simp only [go_sem, Nat.reduceEqDiff, reduceIte, Nat.reduceAdd, Nat.reduceMul, Nat.reduceSub, Nat.reduceLT, Nat.reduceLeDiff, Nat.reduceBEq]; first | done | rfl) rfl rfl (by rfl) (by simp only [go_sem, Nat.reduceEqDiff, reduceIte, Nat.reduceAdd, Nat.reduceMul, Nat.reduceSub, Nat.reduceLT, Nat.reduceLeDiff, Nat.reduceBEq]; first | done | rfl | (and_intros <;> rfl)) (by decide) (by intro m hm; first | omega | (rcases m with _ | _ | _ | _ | _ | _ | m <;> first | exact ⟨by decide, rfl⟩ | omega)))
  have g2 : decide (((b.length : Nat) : Int) = 0) = false := decide_eq_false (by omega)
  have gl : (((b.length : Nat) : Int) = 0) = False := eq_false (by omega)
  have hL := hb.1
  have tm : ∀ x : Nat, ∃ v : Nat, (x : Int).tmod n = v ∧ (v : Int) < n := fun x => by
    have h1 := Int.tmod_nonneg n (show (0 : Int) ≤ (x : Int) by omega)
    have h2 := Int.tmod_lt_of_pos (x : Int) (show (0 : Int) < n by omega)
    exact ⟨((x : Int).tmod n).toNat, by omega, by omega⟩
  by_cases c3 : p < b.length
  · obtain ⟨x, hx1, hx⟩ := byte_at hb c3
    obtain ⟨v, hv, hv2⟩ := tm x
    refine ⟨v, fun _ => hv2, fun h => absurd c1 h, ?_⟩
    have g3 : decide ((p : Int) < ((b.length : Nat) : Int)) = true := decide_eq_true (by omega)
    have wx : IntKind.i64.wrap (x : Int) = x := wrap_nat (by omega)
    refine AC_of Try.func76 rfl Try.ntmps76 Try.results76 (by kernel_rfl) rfl ?_
    simp only [List.zipIdx, List.map, Nat.zero_add, Nat.reduceAdd]
    repeat (first | apply Aw_seq | apply Aw_block | apply Aw_skip | apply Aw_exit | refine Aw_condt rfl ?_ | refine Aw_condf rfl ?_ | (refine qr ?_; simp only [go_sem, Nat.reduceEqDiff, reduceIte, Nat.reduceAdd, Nat.reduceMul, Nat.reduceSub, Nat.reduceLT, Nat.reduceLeDiff, Nat.reduceBEq, w1, w2, g1, g2, g3, hx, wx, gn, hv]) | (refine qd (by kernel_rfl) (by kernel_rfl) ?_; simp only [go_sem, Nat.reduceEqDiff, reduceIte, Nat.reduceAdd, Nat.reduceMul, Nat.reduceSub, Nat.reduceLT, Nat.reduceLeDiff, Nat.reduceBEq, w1, w2, g1, g2, g3, hx, wx, gn, hv]) | refine dk (by kernel_rfl) ?_)
    exact Aw_ret (retL (M := [0]) (.inl rfl) (by simp only [go_sem, Nat.reduceEqDiff, reduceIte, Nat.reduceAdd, Nat.reduceMul, Nat.reduceSub, Nat.reduceLT, Nat.reduceLeDiff, Nat.reduceBEq]; first | done | rfl) rfl rfl (by rfl) (by simp only [go_sem, Nat.reduceEqDiff, reduceIte, Nat.reduceAdd, Nat.reduceMul, Nat.reduceSub, Nat.reduceLT, Nat.reduceLeDiff, Nat.reduceBEq]; first | done | rfl | (and_intros <;> rfl)) (by decide) (by intro m hm; first | omega | (rcases m with _ | _ | _ | _ | _ | _ | m <;> first | exact ⟨by decide, rfl⟩ | omega)))
  · have g3 : decide ((p : Int) < ((b.length : Nat) : Int)) = false := decide_eq_false (by omega)
    have hi1 : p % b.length < b.length := Nat.mod_lt _ (by omega)
    have hi2 : (p * 7 + 3) % b.length < b.length := Nat.mod_lt _ (by omega)
    obtain ⟨x1, b1, hx1⟩ := byte_at hb hi1
    obtain ⟨x2, b2, hx2⟩ := byte_at hb hi2
    have hq : p / b.length ≤ p := Nat.div_le_self _ _
    have t1 : (p : Int).tmod ((b.length : Nat) : Int) = ((p % b.length : Nat) : Int) := rfl
    have e7 : IntKind.i64.wrap ((p : Int) * 7) = ((p * 7 : Nat) : Int) := wn (by omega) (by omega)
    have e73 : IntKind.i64.wrap (((p * 7 : Nat) : Int) + 3) = ((p * 7 + 3 : Nat) : Int) := wn (by omega) (by omega)
    have t2 : ((p * 7 + 3 : Nat) : Int).tmod ((b.length : Nat) : Int) = (((p * 7 + 3) % b.length : Nat) : Int) := rfl
    have t3 : (p : Int).tdiv ((b.length : Nat) : Int) = ((p / b.length : Nat) : Int) := rfl
    obtain ⟨q, hqe⟩ : ∃ q, q = p / b.length := ⟨_, rfl⟩
    rw [← hqe] at t3 hq
    have wq : IntKind.i64.wrap (q : Int) = q := wrap_nat (by omega)
    have wx1 : IntKind.i64.wrap (x1 : Int) = x1 := wrap_nat (by omega)
    have wx2 : IntKind.i64.wrap (x2 : Int) = x2 := wrap_nat (by omega)
    have m1 : IntKind.i64.wrap ((x1 : Int) * 131) = ((x1 * 131 : Nat) : Int) := wn (by omega) (by omega)
    have m2 : IntKind.i64.wrap ((x2 : Int) * 1117) = ((x2 * 1117 : Nat) : Int) := wn (by omega) (by omega)
    have m3 : IntKind.i64.wrap (((x1 * 131 : Nat) : Int) + ((x2 * 1117 : Nat) : Int)) = ((x1 * 131 + x2 * 1117 : Nat) : Int) := wn (by omega) (by omega)
    have m4 : IntKind.i64.wrap ((p : Int) * 29) = ((p * 29 : Nat) : Int) := wn (by omega) (by omega)
    have m5 : IntKind.i64.wrap (((x1 * 131 + x2 * 1117 : Nat) : Int) + ((p * 29 : Nat) : Int)) = ((x1 * 131 + x2 * 1117 + p * 29 : Nat) : Int) := wn (by omega) (by omega)
    have m6 : IntKind.i64.wrap ((q : Int) * 53) = ((q * 53 : Nat) : Int) := wn (by omega) (by omega)
    obtain ⟨X, hX⟩ : ∃ X, X = x1 * 131 + x2 * 1117 + p * 29 + q * 53 := ⟨_, rfl⟩
    have m7 : IntKind.i64.wrap (((x1 * 131 + x2 * 1117 + p * 29 : Nat) : Int) + ((q * 53 : Nat) : Int)) = (X : Int) := wn (by omega) (by omega)
    have t4 : (X : Int).tdiv 64 = ((X / 64 : Nat) : Int) := rfl
    have m8 : IntKind.i64.wrap ((X / 64 : Nat) : Int) = ((X / 64 : Nat) : Int) := wrap_nat (by omega)
    have s0 : ((64 : Int) = 0) = False := eq_false (by decide)
    obtain ⟨u, hu⟩ := xorN X (X / 64) (by omega) (by omega)
    obtain ⟨v, hv, hv2⟩ := tm u
    refine ⟨v, fun _ => hv2, fun h => absurd c1 h, ?_⟩
    refine AC_of Try.func76 rfl Try.ntmps76 Try.results76 (by kernel_rfl) rfl ?_
    simp only [List.zipIdx, List.map, Nat.zero_add, Nat.reduceAdd]
    repeat (first | apply Aw_seq | apply Aw_block | apply Aw_skip | apply Aw_exit | refine Aw_condt rfl ?_ | refine Aw_condf rfl ?_ | (refine qr ?_; simp only [go_sem, Nat.reduceEqDiff, reduceIte, Nat.reduceAdd, Nat.reduceMul, Nat.reduceSub, Nat.reduceLT, Nat.reduceLeDiff, Nat.reduceBEq, w1, w2, g1, g2, gl, g3, t1, hx1, wx1, m1, e7, e73, t2, hx2, wx2, m2, m3, m4, m5, t3, wq, m6, m7, t4, m8, s0, gn]) | (refine qd (by kernel_rfl) (by kernel_rfl) ?_; simp only [go_sem, Nat.reduceEqDiff, reduceIte, Nat.reduceAdd, Nat.reduceMul, Nat.reduceSub, Nat.reduceLT, Nat.reduceLeDiff, Nat.reduceBEq, w1, w2, g1, g2, gl, g3, t1, hx1, wx1, m1, e7, e73, t2, hx2, wx2, m2, m3, m4, m5, t3, wq, m6, m7, t4, m8, s0, gn]) | refine dk (by kernel_rfl) ?_)
    generalize hg : IntKind.i64.wrap ((BitVec.toNat _ : Nat) : Int) = w
    obtain rfl : w = (u : Int) := hg.symm.trans hu
    rw [hv]
    exact Aw_ret (retL (M := [0]) (.inl rfl) (by simp only [go_sem, Nat.reduceEqDiff, reduceIte, Nat.reduceAdd, Nat.reduceMul, Nat.reduceSub, Nat.reduceLT, Nat.reduceLeDiff, Nat.reduceBEq]; first | done | rfl) rfl rfl (by rfl) (by simp only [go_sem, Nat.reduceEqDiff, reduceIte, Nat.reduceAdd, Nat.reduceMul, Nat.reduceSub, Nat.reduceLT, Nat.reduceLeDiff, Nat.reduceBEq]; first | done | rfl | (and_intros <;> rfl)) (by decide) (by intro m hm; first | omega | (rcases m with _ | _ | _ | _ | _ | _ | m <;> first | exact ⟨by decide, rfl⟩ | omega)))
end Go.Proofs.Ytcbhgglpgphimaa.Ab
namespace Go.Proofs.Ytcbhgglpgphimaa.Ab
set_option linter.deprecated false
set_option linter.unusedVariables false
set_option linter.unusedSimpArgs false
open Go Go.Proofs
set_option maxRecDepth 10000
set_option maxHeartbeats 8000000
set_option linter.unusedSimpArgs false
set_option linter.unusedVariables false
def putL (k : ByteArray) : List ByteArray → Bool → List ByteArray → Option (List ByteArray)
  | [], done, out => some (if done = true then out else out ++ [k])
  | x :: r, done, out => if x = k then none else putL k r (done || !klt x k) ((if (!done && !klt x k) = true then out ++ [k] else out) ++ [x])
def putK (ks : List ByteArray) (k : ByteArray) : List ByteArray := (putL k ks false []).getD ks
theorem putL_mem {k : ByteArray} : ∀ {xs : List ByteArray} {d : Bool} {out o : List ByteArray}, putL k xs d out = some o → (∀ y ∈ o, y ∈ out ∨ y ∈ xs ∨ y = k) ∧ o.length ≤ out.length + xs.length + (if d = true then 0 else 1)
  | [], d, out, o, h => by
    simp only [putL, Option.some.injEq] at h
    subst h
    cases d
    · exact ⟨fun y hy => by simp at hy; rcases hy with h | h; exact .inl h; exact .inr (.inr h), by simp⟩
    · exact ⟨fun y hy => .inl (by simpa using hy), by simp⟩
  | x :: r, d, out, o, h => by
    simp only [putL] at h
    split at h
    · cases h
    · obtain ⟨h1, h2⟩ := putL_mem h
      constructor
      · intro y hy
        rcases h1 y hy with h | h | h
        · rcases List.mem_append.1 h with h | h
          · split at h
            · rcases List.mem_append.1 h with h | h
              · exact .inl h
              · exact .inr (.inr (by simpa using h))
            · exact .inl h
          · exact .inr (.inl (by simp at h; simp [h]))
        · exact .inr (.inl (by simp [h]))
        · exact .inr (.inr h)
      · refine Nat.le_trans h2 ?_
        cases d <;> cases klt x k <;> simp <;> omega
@[go_sem] theorem d_ft2 (e k : Nat) (a : List (List D)) (x y : D) : (⟨e, k, true, List.map (fun x => List.map CV.d x) a ++ [[.d x], [.d y]]⟩ : Obj) = dRow e k (a ++ [[x], [y]]) := by simp [dRow]
theorem lenA {α : Type} {out : List α} {i : Nat} {k x : α} (h : out.length ≤ i + (if false = true then 1 else 0)) : (out ++ [k] ++ [x]).length ≤ i + 1 + (if true = true then 1 else 0) := by simp at h ⊢; omega
theorem lenB {α : Type} {out : List α} {i : Nat} {b : Bool} {x : α} (h : out.length ≤ i + (if b = true then 1 else 0)) : (out ++ [x]).length ≤ i + 1 + (if b = true then 1 else 0) := by cases b <;> simp at h ⊢ <;> omega
theorem lenC {α : Type} {out : List α} {i n : Nat} {b : Bool} (h : out.length ≤ i + (if b = true then 1 else 0)) (hi : i ≤ n) (hn : n ≤ 4000000) : (out.length + 1) * 16 ≤ 140737488355328 ∧ (out.length + 1 + 1) * 16 ≤ 140737488355328 := by cases b <;> simp at h <;> omega
structure PuI (ks : List ByteArray) (k : ByteArray) where
  i : Nat
  d : Bool
  out : List ByteArray
  hi : i ≤ ks.length
  hl : out.length ≤ i + (if d = true then 1 else 0)
  h : putL k (ks.drop i) d out = putL k ks false []
theorem l2Put_no (ks : List ByteArray) (k : ByteArray) (hl : ks.length ≤ 4000000) (h0 : putL k ks false [] = none) : AC Try.prog 79 [strsT ks, sT k] noHp 0 ⟨.t (strsT ks), noHp, 0⟩ := by
  refine AC_of Try.func79 rfl Try.ntmps79 Try.results79 (by kernel_rfl) rfl ?_
  simp only [List.zipIdx, List.map, Nat.zero_add, Nat.reduceAdd]
  repeat (first | apply Aw_seq | apply Aw_block | apply Aw_skip | apply Aw_exit | refine Aw_condt rfl ?_ | refine Aw_condf rfl ?_ | (refine qr ?_; simp only [go_sem, Nat.reduceEqDiff, reduceIte, Nat.reduceAdd, Nat.reduceMul, Nat.reduceSub, Nat.reduceLT, Nat.reduceLeDiff, Nat.reduceBEq]) | (refine qd (by kernel_rfl) (by kernel_rfl) ?_; simp only [go_sem, Nat.reduceEqDiff, reduceIte, Nat.reduceAdd, Nat.reduceMul, Nat.reduceSub, Nat.reduceLT, Nat.reduceLeDiff, Nat.reduceBEq]) | refine dk (by kernel_rfl) ?_)
  refine Aw.rw (rwL (l' := [(7, .t (iT (0 : Nat))), (6, .t (bT false)), (5, .t (.c (.h 0))), (1, .t (sT k)), (0, .t (strsT ks))]) (os := [some (kRow [])]) (M := [1]) (n' := 1) (by repeat (first | exact trivial | refine ⟨rfl, rfl, ?_⟩)) (by rfl) (by simp only [go_sem, Nat.reduceEqDiff, reduceIte, Nat.reduceAdd, Nat.reduceMul, Nat.reduceSub, Nat.reduceLT, Nat.reduceLeDiff, Nat.reduceBEq, List.map_nil]; first | done | rfl) (by decide) (by intro m hm; first | omega | (rcases m with _ | _ | _ | _ | _ | _ | m <;> first | exact ⟨by decide, rfl⟩ | omega))) ?_
  refine Aw_loop_rw (ι := PuI ks k) (fun q => S [(7, .t (iT (q.i : Nat))), (6, .t (bT q.d)), (5, .t (.c (.h 0))), (1, .t (sT k)), (0, .t (strsT ks))] (hpL [some (kRow q.out)]) 1) (fun q => ks.length - q.i) ⟨0, false, [], Nat.zero_le _, by simp, rfl⟩ ?_
  rintro ⟨i, d, out, hi, hlo, h⟩
  dsimp only
  by_cases hlt : i < ks.length
  · have g1 : (i : Int) < (ks.length : Int) := by omega
    have w1 := wrap_succ hlt (by omega)
    obtain ⟨x, hx⟩ : ∃ e, ks[i]? = some e := ⟨_, List.getElem?_eq_getElem hlt⟩
    have hd : ks.drop i = x :: ks.drop (i + 1) := by rw [List.drop_eq_getElem_cons hlt]; congr 1; rw [List.getElem?_eq_getElem hlt] at hx; exact Option.some.inj hx
    obtain ⟨q1, q2⟩ := lenC hlo hi hl
    rw [hd] at h
    cases c1 : decide (x = k)
    · have hne := of_decide_eq_false c1
      simp only [putL, if_neg hne] at h
      cases d
      · cases c2 : klt x k
        · have h' : putL k (ks.drop (i + 1)) true (out ++ [k] ++ [x]) = putL k ks false [] := by rw [← h, c2]; rfl
          repeat (first | apply Aw_seq | apply Aw_block | apply Aw_skip | apply Aw_exit | refine Aw_condt rfl ?_ | refine Aw_condf rfl ?_ | (refine qr ?_; simp only [go_sem, Nat.reduceEqDiff, reduceIte, Nat.reduceAdd, Nat.reduceMul, Nat.reduceSub, Nat.reduceLT, Nat.reduceLeDiff, Nat.reduceBEq, g1, w1, hx, c1, c2, q1, q2]) | (refine qd (by kernel_rfl) (by kernel_rfl) ?_; simp only [go_sem, Nat.reduceEqDiff, reduceIte, Nat.reduceAdd, Nat.reduceMul, Nat.reduceSub, Nat.reduceLT, Nat.reduceLeDiff, Nat.reduceBEq, g1, w1, hx, c1, c2, q1, q2]) | refine dk (by kernel_rfl) ?_)
          refine ⟨⟨i + 1, true, out ++ [k] ++ [x], hlt, lenA hlo, h'⟩, [33], ?_, rwL (by repeat (first | exact trivial | refine ⟨rfl, rfl, ?_⟩)) (by rfl) (by simp only [go_sem, Nat.reduceEqDiff, reduceIte, Nat.reduceAdd, Nat.reduceMul, Nat.reduceSub, Nat.reduceLT, Nat.reduceLeDiff, Nat.reduceBEq, List.map_append, List.map_cons, List.map_nil, List.append_assoc]; first | done | rfl) (by decide) (by intro m hm; first | omega | (rcases m with _ | _ | _ | _ | _ | _ | m <;> first | exact ⟨by decide, rfl⟩ | omega))⟩
          show ks.length - (i + 1) < ks.length - i; omega
        · have h' : putL k (ks.drop (i + 1)) false (out ++ [x]) = putL k ks false [] := by rw [← h, c2]; rfl
          repeat (first | apply Aw_seq | apply Aw_block | apply Aw_skip | apply Aw_exit | refine Aw_condt rfl ?_ | refine Aw_condf rfl ?_ | (refine qr ?_; simp only [go_sem, Nat.reduceEqDiff, reduceIte, Nat.reduceAdd, Nat.reduceMul, Nat.reduceSub, Nat.reduceLT, Nat.reduceLeDiff, Nat.reduceBEq, g1, w1, hx, c1, c2, q1]) | (refine qd (by kernel_rfl) (by kernel_rfl) ?_; simp only [go_sem, Nat.reduceEqDiff, reduceIte, Nat.reduceAdd, Nat.reduceMul, Nat.reduceSub, Nat.reduceLT, Nat.reduceLeDiff, Nat.reduceBEq, g1, w1, hx, c1, c2, q1]) | refine dk (by kernel_rfl) ?_)
          refine ⟨⟨i + 1, false, out ++ [x], hlt, lenB hlo, h'⟩, [27], ?_, rwL (by repeat (first | exact trivial | refine ⟨rfl, rfl, ?_⟩)) (by rfl) (by simp only [go_sem, Nat.reduceEqDiff, reduceIte, Nat.reduceAdd, Nat.reduceMul, Nat.reduceSub, Nat.reduceLT, Nat.reduceLeDiff, Nat.reduceBEq, List.map_append, List.map_cons, List.map_nil]; first | done | rfl) (by decide) (by intro m hm; first | omega | (rcases m with _ | _ | _ | _ | _ | _ | m <;> first | exact ⟨by decide, rfl⟩ | omega))⟩
          show ks.length - (i + 1) < ks.length - i; omega
      · have h' : putL k (ks.drop (i + 1)) true (out ++ [x]) = putL k ks false [] := by rw [← h]; cases klt x k <;> rfl
        repeat (first | apply Aw_seq | apply Aw_block | apply Aw_skip | apply Aw_exit | refine Aw_condt rfl ?_ | refine Aw_condf rfl ?_ | (refine qr ?_; simp only [go_sem, Nat.reduceEqDiff, reduceIte, Nat.reduceAdd, Nat.reduceMul, Nat.reduceSub, Nat.reduceLT, Nat.reduceLeDiff, Nat.reduceBEq, g1, w1, hx, c1, q1]) | (refine qd (by kernel_rfl) (by kernel_rfl) ?_; simp only [go_sem, Nat.reduceEqDiff, reduceIte, Nat.reduceAdd, Nat.reduceMul, Nat.reduceSub, Nat.reduceLT, Nat.reduceLeDiff, Nat.reduceBEq, g1, w1, hx, c1, q1]) | refine dk (by kernel_rfl) ?_)
        refine ⟨⟨i + 1, true, out ++ [x], hlt, lenB hlo, h'⟩, [21], ?_, rwL (by repeat (first | exact trivial | refine ⟨rfl, rfl, ?_⟩)) (by rfl) (by simp only [go_sem, Nat.reduceEqDiff, reduceIte, Nat.reduceAdd, Nat.reduceMul, Nat.reduceSub, Nat.reduceLT, Nat.reduceLeDiff, Nat.reduceBEq, List.map_append, List.map_cons, List.map_nil]; first | done | rfl) (by decide) (by intro m hm; first | omega | (rcases m with _ | _ | _ | _ | _ | _ | m <;> first | exact ⟨by decide, rfl⟩ | omega))⟩
        show ks.length - (i + 1) < ks.length - i; omega
    · repeat (first | apply Aw_seq | apply Aw_block | apply Aw_skip | apply Aw_exit | refine Aw_condt rfl ?_ | refine Aw_condf rfl ?_ | (refine qr ?_; simp only [go_sem, Nat.reduceEqDiff, reduceIte, Nat.reduceAdd, Nat.reduceMul, Nat.reduceSub, Nat.reduceLT, Nat.reduceLeDiff, Nat.reduceBEq, g1, hx, c1]) | (refine qd (by kernel_rfl) (by kernel_rfl) ?_; simp only [go_sem, Nat.reduceEqDiff, reduceIte, Nat.reduceAdd, Nat.reduceMul, Nat.reduceSub, Nat.reduceLT, Nat.reduceLeDiff, Nat.reduceBEq, g1, hx, c1]) | refine dk (by kernel_rfl) ?_)
      exact Aw_ret (ret0 (.inl rfl) (by simp only [go_sem, Nat.reduceEqDiff, reduceIte, Nat.reduceAdd, Nat.reduceMul, Nat.reduceSub, Nat.reduceLT, Nat.reduceLeDiff, Nat.reduceBEq]; rfl) (by rfl) rfl)
  · have g1 : ¬ (i : Int) < (ks.length : Int) := by omega
    rw [List.drop_eq_nil_of_le (by omega), h0] at h
    simp [putL] at h
theorem l2Put_ok (ks o : List ByteArray) (k : ByteArray) (hl : ks.length ≤ 4000000) (h0 : putL k ks false [] = some o) : AC Try.prog 79 [strsT ks, sT k] noHp 0 ⟨.t (.c (.h 0)), hpL [some (kRow o)], 1⟩ := by
  refine AC_of Try.func79 rfl Try.ntmps79 Try.results79 (by kernel_rfl) rfl ?_
  simp only [List.zipIdx, List.map, Nat.zero_add, Nat.reduceAdd]
  repeat (first | apply Aw_seq | apply Aw_block | apply Aw_skip | apply Aw_exit | refine Aw_condt rfl ?_ | refine Aw_condf rfl ?_ | (refine qr ?_; simp only [go_sem, Nat.reduceEqDiff, reduceIte, Nat.reduceAdd, Nat.reduceMul, Nat.reduceSub, Nat.reduceLT, Nat.reduceLeDiff, Nat.reduceBEq]) | (refine qd (by kernel_rfl) (by kernel_rfl) ?_; simp only [go_sem, Nat.reduceEqDiff, reduceIte, Nat.reduceAdd, Nat.reduceMul, Nat.reduceSub, Nat.reduceLT, Nat.reduceLeDiff, Nat.reduceBEq]) | refine dk (by kernel_rfl) ?_)
  refine Aw.rw (rwL (l' := [(7, .t (iT (0 : Nat))), (6, .t (bT false)), (5, .t (.c (.h 0))), (1, .t (sT k)), (0, .t (strsT ks))]) (os := [some (kRow [])]) (M := [1]) (n' := 1) (by repeat (first | exact trivial | refine ⟨rfl, rfl, ?_⟩)) (by rfl) (by simp only [go_sem, Nat.reduceEqDiff, reduceIte, Nat.reduceAdd, Nat.reduceMul, Nat.reduceSub, Nat.reduceLT, Nat.reduceLeDiff, Nat.reduceBEq, List.map_nil]; first | done | rfl) (by decide) (by intro m hm; first | omega | (rcases m with _ | _ | _ | _ | _ | _ | m <;> first | exact ⟨by decide, rfl⟩ | omega))) ?_
  refine Aw_loop_rw (ι := PuI ks k) (fun q => S [(7, .t (iT (q.i : Nat))), (6, .t (bT q.d)), (5, .t (.c (.h 0))), (1, .t (sT k)), (0, .t (strsT ks))] (hpL [some (kRow q.out)]) 1) (fun q => ks.length - q.i) ⟨0, false, [], Nat.zero_le _, by simp, rfl⟩ ?_
  rintro ⟨i, d, out, hi, hlo, h⟩
  dsimp only
  by_cases hlt : i < ks.length
  · have g1 : (i : Int) < (ks.length : Int) := by omega
    have w1 := wrap_succ hlt (by omega)
    obtain ⟨x, hx⟩ : ∃ e, ks[i]? = some e := ⟨_, List.getElem?_eq_getElem hlt⟩
    have hd : ks.drop i = x :: ks.drop (i + 1) := by rw [List.drop_eq_getElem_cons hlt]; congr 1; rw [List.getElem?_eq_getElem hlt] at hx; exact Option.some.inj hx
    obtain ⟨q1, q2⟩ := lenC hlo hi hl
    rw [hd] at h
    cases c1 : decide (x = k)
    · have hne := of_decide_eq_false c1
      simp only [putL, if_neg hne] at h
      cases d
      · cases c2 : klt x k
        · have h' : putL k (ks.drop (i + 1)) true (out ++ [k] ++ [x]) = putL k ks false [] := by rw [← h, c2]; rfl
          repeat (first | apply Aw_seq | apply Aw_block | apply Aw_skip | apply Aw_exit | refine Aw_condt rfl ?_ | refine Aw_condf rfl ?_ | (refine qr ?_; simp only [go_sem, Nat.reduceEqDiff, reduceIte, Nat.reduceAdd, Nat.reduceMul, Nat.reduceSub, Nat.reduceLT, Nat.reduceLeDiff, Nat.reduceBEq, g1, w1, hx, c1, c2, q1, q2]) | (refine qd (by kernel_rfl) (by kernel_rfl) ?_; simp only [go_sem, Nat.reduceEqDiff, reduceIte, Nat.reduceAdd, Nat.reduceMul, Nat.reduceSub, Nat.reduceLT, Nat.reduceLeDiff, Nat.reduceBEq, g1, w1, hx, c1, c2, q1, q2]) | refine dk (by kernel_rfl) ?_)
          refine ⟨⟨i + 1, true, out ++ [k] ++ [x], hlt, lenA hlo, h'⟩, [33], ?_, rwL (by repeat (first | exact trivial | refine ⟨rfl, rfl, ?_⟩)) (by rfl) (by simp only [go_sem, Nat.reduceEqDiff, reduceIte, Nat.reduceAdd, Nat.reduceMul, Nat.reduceSub, Nat.reduceLT, Nat.reduceLeDiff, Nat.reduceBEq, List.map_append, List.map_cons, List.map_nil, List.append_assoc]; first | done | rfl) (by decide) (by intro m hm; first | omega | (rcases m with _ | _ | _ | _ | _ | _ | m <;> first | exact ⟨by decide, rfl⟩ | omega))⟩
          show ks.length - (i + 1) < ks.length - i; omega
        · have h' : putL k (ks.drop (i + 1)) false (out ++ [x]) = putL k ks false [] := by rw [← h, c2]; rfl
          repeat (first | apply Aw_seq | apply Aw_block | apply Aw_skip | apply Aw_exit | refine Aw_condt rfl ?_ | refine Aw_condf rfl ?_ | (refine qr ?_; simp only [go_sem, Nat.reduceEqDiff, reduceIte, Nat.reduceAdd, Nat.reduceMul, Nat.reduceSub, Nat.reduceLT, Nat.reduceLeDiff, Nat.reduceBEq, g1, w1, hx, c1, c2, q1]) | (refine qd (by kernel_rfl) (by kernel_rfl) ?_; simp only [go_sem, Nat.reduceEqDiff, reduceIte, Nat.reduceAdd, Nat.reduceMul, Nat.reduceSub, Nat.reduceLT, Nat.reduceLeDiff, Nat.reduceBEq, g1, w1, hx, c1, c2, q1]) | refine dk (by kernel_rfl) ?_)
          refine ⟨⟨i + 1, false, out ++ [x], hlt, lenB hlo, h'⟩, [27], ?_, rwL (by repeat (first | exact trivial | refine ⟨rfl, rfl, ?_⟩)) (by rfl) (by simp only [go_sem, Nat.reduceEqDiff, reduceIte, Nat.reduceAdd, Nat.reduceMul, Nat.reduceSub, Nat.reduceLT, Nat.reduceLeDiff, Nat.reduceBEq, List.map_append, List.map_cons, List.map_nil]; first | done | rfl) (by decide) (by intro m hm; first | omega | (rcases m with _ | _ | _ | _ | _ | _ | m <;> first | exact ⟨by decide, rfl⟩ | omega))⟩
          show ks.length - (i + 1) < ks.length - i; omega
      · have h' : putL k (ks.drop (i + 1)) true (out ++ [x]) = putL k ks false [] := by rw [← h]; cases klt x k <;> rfl
        repeat (first | apply Aw_seq | apply Aw_block | apply Aw_skip | apply Aw_exit | refine Aw_condt rfl ?_ | refine Aw_condf rfl ?_ | (refine qr ?_; simp only [go_sem, Nat.reduceEqDiff, reduceIte, Nat.reduceAdd, Nat.reduceMul, Nat.reduceSub, Nat.reduceLT, Nat.reduceLeDiff, Nat.reduceBEq, g1, w1, hx, c1, q1]) | (refine qd (by kernel_rfl) (by kernel_rfl) ?_; simp only [go_sem, Nat.reduceEqDiff, reduceIte, Nat.reduceAdd, Nat.reduceMul, Nat.reduceSub, Nat.reduceLT, Nat.reduceLeDiff, Nat.reduceBEq, g1, w1, hx, c1, q1]) | refine dk (by kernel_rfl) ?_)
        refine ⟨⟨i + 1, true, out ++ [x], hlt, lenB hlo, h'⟩, [21], ?_, rwL (by repeat (first | exact trivial | refine ⟨rfl, rfl, ?_⟩)) (by rfl) (by simp only [go_sem, Nat.reduceEqDiff, reduceIte, Nat.reduceAdd, Nat.reduceMul, Nat.reduceSub, Nat.reduceLT, Nat.reduceLeDiff, Nat.reduceBEq, List.map_append, List.map_cons, List.map_nil]; first | done | rfl) (by decide) (by intro m hm; first | omega | (rcases m with _ | _ | _ | _ | _ | _ | m <;> first | exact ⟨by decide, rfl⟩ | omega))⟩
        show ks.length - (i + 1) < ks.length - i; omega
    · rw [h0] at h
      simp [putL, of_decide_eq_true c1] at h
  · have g1 : ¬ (i : Int) < (ks.length : Int) := by omega
    obtain ⟨q1, q2⟩ := lenC hlo hi hl
    rw [List.drop_eq_nil_of_le (by omega), h0] at h
    cases d
    · have ho : o = out ++ [k] := by simpa [putL] using h.symm
      subst ho
      repeat (first | apply Aw_seq | apply Aw_block | apply Aw_skip | apply Aw_exit | refine Aw_condt rfl ?_ | refine Aw_condf rfl ?_ | (refine qr ?_; simp only [go_sem, Nat.reduceEqDiff, reduceIte, Nat.reduceAdd, Nat.reduceMul, Nat.reduceSub, Nat.reduceLT, Nat.reduceLeDiff, Nat.reduceBEq, g1, q1]) | (refine qd (by kernel_rfl) (by kernel_rfl) ?_; simp only [go_sem, Nat.reduceEqDiff, reduceIte, Nat.reduceAdd, Nat.reduceMul, Nat.reduceSub, Nat.reduceLT, Nat.reduceLeDiff, Nat.reduceBEq, g1, q1]) | refine dk (by kernel_rfl) ?_)
      exact Aw_ret (retL (M := [10]) (.inl rfl) (by simp only [go_sem, Nat.reduceEqDiff, reduceIte, Nat.reduceAdd, Nat.reduceMul, Nat.reduceSub, Nat.reduceLT, Nat.reduceLeDiff, Nat.reduceBEq]; first | done | rfl) rfl rfl (by rfl) (by simp only [go_sem, Nat.reduceEqDiff, reduceIte, Nat.reduceAdd, Nat.reduceMul, Nat.reduceSub, Nat.reduceLT, Nat.reduceLeDiff, Nat.reduceBEq, List.map_append, List.map_cons, List.map_nil]; first | done | rfl | (and_intros <;> rfl)) (by decide) (by intro m hm; first | omega | (rcases m with _ | _ | _ | _ | _ | _ | m <;> first | exact ⟨by decide, rfl⟩ | omega)))
    · have ho : o = out := by simpa [putL] using h.symm
      subst ho
      repeat (first | apply Aw_seq | apply Aw_block | apply Aw_skip | apply Aw_exit | refine Aw_condt rfl ?_ | refine Aw_condf rfl ?_ | (refine qr ?_; simp only [go_sem, Nat.reduceEqDiff, reduceIte, Nat.reduceAdd, Nat.reduceMul, Nat.reduceSub, Nat.reduceLT, Nat.reduceLeDiff, Nat.reduceBEq, g1]) | (refine qd (by kernel_rfl) (by kernel_rfl) ?_; simp only [go_sem, Nat.reduceEqDiff, reduceIte, Nat.reduceAdd, Nat.reduceMul, Nat.reduceSub, Nat.reduceLT, Nat.reduceLeDiff, Nat.reduceBEq, g1]) | refine dk (by kernel_rfl) ?_)
      exact Aw_ret (retL (M := [0]) (.inl rfl) (by simp only [go_sem, Nat.reduceEqDiff, reduceIte, Nat.reduceAdd, Nat.reduceMul, Nat.reduceSub, Nat.reduceLT, Nat.reduceLeDiff, Nat.reduceBEq]; first | done | rfl) rfl rfl (by rfl) (by simp only [go_sem, Nat.reduceEqDiff, reduceIte, Nat.reduceAdd, Nat.reduceMul, Nat.reduceSub, Nat.reduceLT, Nat.reduceLeDiff, Nat.reduceBEq]; first | done | rfl | (and_intros <;> rfl)) (by decide) (by intro m hm; first | omega | (rcases m with _ | _ | _ | _ | _ | _ | m <;> first | exact ⟨by decide, rfl⟩ | omega)))
theorem l2Put_ac (ks : List ByteArray) (k : ByteArray) (hl : ks.length ≤ 4000000) : AC Try.prog 79 [strsT ks, sT k] noHp 0 ⟨.t (strsT (putK ks k)), noHp, 0⟩ := by
  unfold putK
  cases h : putL k ks false [] with
  | none => exact l2Put_no ks k hl h
  | some o => exact AC.settle0 [0] (l2Put_ok ks o k hl h) (SetC.row0 rfl rfl) rfl
theorem putK_mem {ks : List ByteArray} {k : ByteArray} : (∀ y ∈ putK ks k, y ∈ ks ∨ y = k) ∧ (putK ks k).length ≤ ks.length + 1 := by
  unfold putK
  cases h : putL k ks false [] with
  | none => exact ⟨fun y hy => .inl hy, by simp⟩
  | some o =>
    obtain ⟨h1, h2⟩ := putL_mem h
    exact ⟨fun y hy => by rcases h1 y hy with h | h | h; simp at h; exact .inl h; exact .inr h, by simpa using h2⟩
end Go.Proofs.Ytcbhgglpgphimaa.Ab

namespace Go.Proofs.Ytcbhgglpgphimaa.Ab
set_option linter.deprecated false
set_option linter.unusedVariables false
set_option linter.unusedSimpArgs false
open Go Go.Proofs
set_option maxRecDepth 10000
set_option maxHeartbeats 8000000
set_option linter.unusedSimpArgs false
set_option linter.unusedVariables false
open Classical in
noncomputable def pickV (b : List Int) (p : Nat) (n : Int) : Nat := if h : byteL b ∧ p ≤ 1000000 ∧ n ≤ 1099511627776 then Classical.choose (pick_ac b p n h.1 h.2.1 h.2.2) else 0
theorem pickV_ac {b : List Int} {p : Nat} {n : Int} (hb : byteL b) (hp : p ≤ 1000000) (hn : n ≤ 1099511627776) : AC Try.prog 76 [.c (.ph 0 0 0), iT n] (hpL [some (rdO b p)]) 1 ⟨.t (iT (pickV b p n)), hpL [some (rdO b (p + 1))], 1⟩ := by
  unfold pickV
  rw [dif_pos ⟨hb, hp, hn⟩]
  exact (Classical.choose_spec (pick_ac b p n hb hp hn)).2.2
theorem pickV_lt {b : List Int} {p : Nat} {n : Int} (hb : byteL b) (hp : p ≤ 1000000) (hn : n ≤ 1099511627776) (h1 : 1 ≤ n) : (pickV b p n : Int) < n := by
  unfold pickV
  rw [dif_pos ⟨hb, hp, hn⟩]
  exact (Classical.choose_spec (pick_ac b p n hb hp hn)).1 h1
noncomputable def ofV (b : List Int) (p : Nat) (l : List ByteArray) : ByteArray := l.getD (pickV b p (l.length : Int)) zs
theorem ofV_at {b : List Int} {p : Nat} {l : List ByteArray} (hb : byteL b) (hp : p ≤ 1000000) (h0 : 0 < l.length) (h1 : l.length ≤ 1000) : l[pickV b p (l.length : Int)]? = some (ofV b p l) := by
  have := pickV_lt (n := (l.length : Int)) hb hp (by omega) (by omega)
  unfold ofV
  rw [List.getD_eq_getElem?_getD, List.getElem?_eq_getElem (by omega)]; rfl
theorem of_ac {b : List Int} {p : Nat} {l : List ByteArray} (hb : byteL b) (hp : p ≤ 1000000) (h0 : 0 < l.length) (h1 : l.length ≤ 1000) : AC Try.prog 125 [.c (.ph 0 0 0), .c (.h 1)] (hpL [some (rdO b p), some (kRow l)]) 2 ⟨.t (sT (ofV b p l)), hpL [some (rdO b (p + 1)), none], 2⟩ := by
  refine AC_of Try.func125 rfl Try.ntmps125 Try.results125 (by kernel_rfl) rfl ?_
  simp only [List.zipIdx, List.map, Nat.zero_add, Nat.reduceAdd]
  have k := pickV_ac (n := (l.length : Int)) hb hp (by omega)
  have hx := ofV_at hb hp h0 h1
  have hlt := (List.getElem?_eq_some_iff.1 hx).1
  repeat (first | apply Aw_seq | apply Aw_block | apply Aw_skip | apply Aw_exit | refine Aw_condt rfl ?_ | refine Aw_condf rfl ?_ | (refine qr ?_; simp only [go_sem, Nat.reduceEqDiff, reduceIte, Nat.reduceAdd, Nat.reduceMul, Nat.reduceSub, Nat.reduceLT, Nat.reduceLeDiff, Nat.reduceBEq, hx, hlt]) | (refine qd (by kernel_rfl) (by kernel_rfl) ?_; simp only [go_sem, Nat.reduceEqDiff, reduceIte, Nat.reduceAdd, Nat.reduceMul, Nat.reduceSub, Nat.reduceLT, Nat.reduceLeDiff, Nat.reduceBEq, hx, hlt]) | refine dk (by kernel_rfl) ?_ | (refine qx (call_L (N' := [0]) (L := []) (k) rfl (.cons (.nm rfl) (.cons (.nm rfl) (.nil))) (by decide) (by decide) (by decide) (by simp only [go_sem, Nat.reduceEqDiff, reduceIte, Nat.reduceAdd, Nat.reduceMul, Nat.reduceSub, Nat.reduceLT, Nat.reduceLeDiff, Nat.reduceBEq, hx, hlt]) (.inl rfl) rfl (by decide)) (by simp only [go_sem, Nat.reduceEqDiff, reduceIte, Nat.reduceAdd, Nat.reduceMul, Nat.reduceSub, Nat.reduceLT, Nat.reduceLeDiff, Nat.reduceBEq, hx, hlt]; first | done | rfl) rfl (by simp only [go_sem, Nat.reduceLT]) ?_; simp only [go_sem, Nat.reduceEqDiff, reduceIte, Nat.reduceAdd, Nat.reduceMul, Nat.reduceSub, Nat.reduceLT, Nat.reduceLeDiff, Nat.reduceBEq, hx, hlt]))
  exact Aw_ret (retL (M := [0, 1]) (.inl rfl) (by simp only [go_sem, Nat.reduceEqDiff, reduceIte, Nat.reduceAdd, Nat.reduceMul, Nat.reduceSub, Nat.reduceLT, Nat.reduceLeDiff, Nat.reduceBEq]; first | done | rfl) rfl rfl (by rfl) (by simp only [go_sem, Nat.reduceEqDiff, reduceIte, Nat.reduceAdd, Nat.reduceMul, Nat.reduceSub, Nat.reduceLT, Nat.reduceLeDiff, Nat.reduceBEq]; first | done | rfl | (and_intros <;> rfl)) (by decide) (by intro m hm; first | omega | (rcases m with _ | _ | _ | _ | _ | _ | m <;> first | exact ⟨by decide, rfl⟩ | omega)))
@[go_sem] theorem d_five (e k : Nat) (a b c d f : D) : (⟨e, k, true, [[.d a], [.d b], [.d c], [.d d], [.d f]]⟩ : Obj) = dRow e k [[a], [b], [c], [d], [f]] := rfl
@[go_sem] theorem d_three (e k : Nat) (a b c : D) : (⟨e, k, true, [[.d a], [.d b], [.d c]]⟩ : Obj) = dRow e k [[a], [b], [c]] := rfl
def five : List ByteArray := [bs [97], bs [98], bs [97], bs [99], bs [100]]
def three : List ByteArray := [bs [97], bs [98], bs [100]]
theorem ofV_mem {b : List Int} {p : Nat} {l : List ByteArray} (hb : byteL b) (hp : p ≤ 1000000) (h0 : 0 < l.length) (h1 : l.length ≤ 1000) : ofV b p l ∈ l := List.mem_of_getElem? (ofV_at hb hp h0 h1)
theorem five_size {s : ByteArray} (h : s ∈ five) : s.size = 1 := by
  have : five.all (fun s => s.size == 1) = true := rfl
  simpa using List.all_eq_true.1 this s h
theorem three_size {s : ByteArray} (h : s ∈ three) : s.size = 1 := by
  have : three.all (fun s => s.size == 1) = true := rfl
  simpa using List.all_eq_true.1 this s h
noncomputable def keyL (b : List Int) : Nat → ByteArray → Nat → ByteArray × Nat
  | 0, s, p => (s, p)
  | n + 1, s, p => keyL b n (s ++ ofV b p five) (p + 1)
noncomputable def keyV (b : List Int) (p : Nat) : ByteArray × Nat := keyL b (pickV b p 6) zs (p + 1)
theorem keyL_fin {b : List Int} (hb : byteL b) : ∀ (n : Nat) (s : ByteArray) (p : Nat), p + n ≤ 1000000 → (keyL b n s p).1.size = s.size + n ∧ (keyL b n s p).2 = p + n
  | 0, s, p, _ => ⟨rfl, rfl⟩
  | n + 1, s, p, h => by
    have h1 := five_size (ofV_mem (l := five) hb (show p ≤ 1000000 by omega) (by decide) (by decide))
    obtain ⟨h2, h3⟩ := keyL_fin hb n (s ++ ofV b p five) (p + 1) (by omega)
    have e : (s ++ ofV b p five).size = s.size + 1 := by rw [ByteArray.size_append, h1]
    exact ⟨by simp only [keyL]; rw [h2, e]; omega, by simp only [keyL]; rw [h3]; omega⟩
theorem keyV_fin {b : List Int} (hb : byteL b) {p : Nat} (hp : p ≤ 900000) : (keyV b p).1.size ≤ 5 ∧ (keyV b p).2 ≤ p + 6 := by
  have h := pickV_lt (n := 6) hb (show p ≤ 1000000 by omega) (by omega) (by omega)
  obtain ⟨h1, h2⟩ := keyL_fin hb (pickV b p 6) zs (p + 1) (by omega)
  have z : zs.size = 0 := rfl
  unfold keyV
  rw [h1, h2, z]
  constructor <;> omega
structure KyI (b : List Int) (p0 : Nat) where
  n : Nat
  s : ByteArray
  p : Nat
  hn : n ≤ 5
  hs : s.size + n ≤ 100
  hp : p + n ≤ 1000000
  h : keyL b n s p = keyV b p0
theorem l71Key_ac {b : List Int} {p : Nat} (hb : byteL b) (hp : p ≤ 900000) : AC Try.prog 124 [.c (.ph 0 0 0)] (hpL [some (rdO b p)]) 1 ⟨.t (sT (keyV b p).1), hpL [some (rdO b (keyV b p).2)], 1⟩ := by
  refine AC_of Try.func124 rfl Try.ntmps124 Try.results124 (by kernel_rfl) rfl ?_
  simp only [List.zipIdx, List.map, Nat.zero_add, Nat.reduceAdd]
  have k := pickV_ac (n := 6) hb (show p ≤ 1000000 by omega) (by omega)
  have h6 := pickV_lt (n := 6) hb (show p ≤ 1000000 by omega) (by omega) (by omega)
  repeat (first | apply Aw_seq | apply Aw_block | apply Aw_skip | apply Aw_exit | refine Aw_condt rfl ?_ | refine Aw_condf rfl ?_ | (refine qr ?_; simp only [go_sem, Nat.reduceEqDiff, reduceIte, Nat.reduceAdd, Nat.reduceMul, Nat.reduceSub, Nat.reduceLT, Nat.reduceLeDiff, Nat.reduceBEq]) | (refine qd (by kernel_rfl) (by kernel_rfl) ?_; simp only [go_sem, Nat.reduceEqDiff, reduceIte, Nat.reduceAdd, Nat.reduceMul, Nat.reduceSub, Nat.reduceLT, Nat.reduceLeDiff, Nat.reduceBEq]) | refine dk (by kernel_rfl) ?_ | (refine qx (call_L (N' := [0]) (L := []) (k) rfl (.cons (.nm rfl) (.cons (.nm rfl) (.nil))) (by decide) (by decide) (by decide) (by simp only [go_sem, Nat.reduceEqDiff, reduceIte, Nat.reduceAdd, Nat.reduceMul, Nat.reduceSub, Nat.reduceLT, Nat.reduceLeDiff, Nat.reduceBEq]) (.inl rfl) rfl (by decide)) (by simp only [go_sem, Nat.reduceEqDiff, reduceIte, Nat.reduceAdd, Nat.reduceMul, Nat.reduceSub, Nat.reduceLT, Nat.reduceLeDiff, Nat.reduceBEq]; first | done | rfl) rfl (by simp only [go_sem, Nat.reduceLT]) ?_; simp only [go_sem, Nat.reduceEqDiff, reduceIte, Nat.reduceAdd, Nat.reduceMul, Nat.reduceSub, Nat.reduceLT, Nat.reduceLeDiff, Nat.reduceBEq]))
  refine Aw.rw (rwL (l' := [(4, .t (iT (pickV b p 6 : Nat))), (3, .t (sT zs)), (0, .t (.c (.ph 0 0 0)))]) (os := [some (rdO b (p + 1))]) (M := [0]) (n' := 1) (by repeat (first | exact trivial | refine ⟨rfl, rfl, ?_⟩)) (by rfl) (by simp only [go_sem, Nat.reduceEqDiff, reduceIte, Nat.reduceAdd, Nat.reduceMul, Nat.reduceSub, Nat.reduceLT, Nat.reduceLeDiff, Nat.reduceBEq]; first | done | rfl) (by decide) (by intro m hm; first | omega | (rcases m with _ | _ | _ | _ | _ | _ | m <;> first | exact ⟨by decide, rfl⟩ | omega))) ?_
  refine Aw_loop_rw (ι := KyI b p) (fun q => S [(4, .t (iT (q.n : Nat))), (3, .t (sT q.s)), (0, .t (.c (.ph 0 0 0)))] (hpL [some (rdO b q.p)]) 1) (fun q => q.n) ⟨pickV b p 6, zs, p + 1, by omega, by show 0 + _ ≤ _; omega, by omega, rfl⟩ ?_
  rintro ⟨n, s, q, hn, hs, hq, h⟩
  dsimp only
  rcases n with _ | n
  · have g1 : decide ((0 : Int) < ((0 : Nat) : Int)) = false := rfl
    rw [← h]
    repeat (first | apply Aw_seq | apply Aw_block | apply Aw_skip | apply Aw_exit | refine Aw_condt rfl ?_ | refine Aw_condf rfl ?_ | (refine qr ?_; simp only [go_sem, Nat.reduceEqDiff, reduceIte, Nat.reduceAdd, Nat.reduceMul, Nat.reduceSub, Nat.reduceLT, Nat.reduceLeDiff, Nat.reduceBEq, g1]) | (refine qd (by kernel_rfl) (by kernel_rfl) ?_; simp only [go_sem, Nat.reduceEqDiff, reduceIte, Nat.reduceAdd, Nat.reduceMul, Nat.reduceSub, Nat.reduceLT, Nat.reduceLeDiff, Nat.reduceBEq, g1]) | refine dk (by kernel_rfl) ?_)
    exact Aw_ret (retL (M := [0]) (.inl rfl) (by simp only [go_sem, Nat.reduceEqDiff, reduceIte, Nat.reduceAdd, Nat.reduceMul, Nat.reduceSub, Nat.reduceLT, Nat.reduceLeDiff, Nat.reduceBEq]; first | done | rfl) rfl rfl (by rfl) (by simp only [go_sem, Nat.reduceEqDiff, reduceIte, Nat.reduceAdd, Nat.reduceMul, Nat.reduceSub, Nat.reduceLT, Nat.reduceLeDiff, Nat.reduceBEq, keyL]; first | done | rfl | (and_intros <;> rfl)) (by decide) (by intro m hm; first | omega | (rcases m with _ | _ | _ | _ | _ | _ | m <;> first | exact ⟨by decide, rfl⟩ | omega)))
  · have g1 : decide ((0 : Int) < ((n + 1 : Nat) : Int)) = true := decide_eq_true (by omega)
    have w1 : IntKind.i64.wrap (((n + 1 : Nat) : Int) - 1) = (n : Int) := wn (by omega) (by omega)
    have ko : AC Try.prog 125 [.c (.ph 0 0 0), .c (.h 1)] (hpL [some (rdO b q), some (kRow [bs [97], bs [98], bs [97], bs [99], bs [100]])]) 2 ⟨.t (sT (ofV b q five)), hpL [some (rdO b (q + 1)), none], 2⟩ := of_ac (l := five) hb (show q ≤ 1000000 by omega) (by decide) (by decide)
    have e5 := five_size (ofV_mem (l := five) hb (show q ≤ 1000000 by omega) (by decide) (by decide))
    have gs : (s.size + (ofV b q five).size ≤ 9223372036854775807) = True := eq_true (by rw [e5]; omega)
    have hs2 : (s ++ ofV b q five).size = s.size + 1 := by rw [ByteArray.size_append, e5]
    repeat (first | apply Aw_seq | apply Aw_block | apply Aw_skip | apply Aw_exit | refine Aw_condt rfl ?_ | refine Aw_condf rfl ?_ | (refine qr ?_; simp only [go_sem, Nat.reduceEqDiff, reduceIte, Nat.reduceAdd, Nat.reduceMul, Nat.reduceSub, Nat.reduceLT, Nat.reduceLeDiff, Nat.reduceBEq, g1, w1, gs]) | (refine qd (by kernel_rfl) (by kernel_rfl) ?_; simp only [go_sem, Nat.reduceEqDiff, reduceIte, Nat.reduceAdd, Nat.reduceMul, Nat.reduceSub, Nat.reduceLT, Nat.reduceLeDiff, Nat.reduceBEq, g1, w1, gs]) | refine dk (by kernel_rfl) ?_ | (refine qx (call_L (N' := [0, 5]) (L := []) (ko) rfl (.cons (.nm rfl) (.cons (.nm rfl) (.nil))) (by decide) (by decide) (by decide) (by simp only [go_sem, Nat.reduceEqDiff, reduceIte, Nat.reduceAdd, Nat.reduceMul, Nat.reduceSub, Nat.reduceLT, Nat.reduceLeDiff, Nat.reduceBEq, g1, w1, gs]) (.inl rfl) rfl (by decide)) (by simp only [go_sem, Nat.reduceEqDiff, reduceIte, Nat.reduceAdd, Nat.reduceMul, Nat.reduceSub, Nat.reduceLT, Nat.reduceLeDiff, Nat.reduceBEq, g1, w1, gs]; first | done | rfl) rfl (by simp only [go_sem, Nat.reduceLT]) ?_; simp only [go_sem, Nat.reduceEqDiff, reduceIte, Nat.reduceAdd, Nat.reduceMul, Nat.reduceSub, Nat.reduceLT, Nat.reduceLeDiff, Nat.reduceBEq, g1, w1, gs]))
    refine ⟨⟨n, s ++ ofV b q five, q + 1, by omega, by rw [hs2]; omega, by omega, h⟩, [0], ?_, rwL (by repeat (first | exact trivial | refine ⟨rfl, rfl, ?_⟩)) (by rfl) (by simp only [go_sem, Nat.reduceEqDiff, reduceIte, Nat.reduceAdd, Nat.reduceMul, Nat.reduceSub, Nat.reduceLT, Nat.reduceLeDiff, Nat.reduceBEq]; first | done | rfl) (by decide) (by intro m hm; first | omega | (rcases m with _ | _ | _ | _ | _ | _ | m <;> first | exact ⟨by decide, rfl⟩ | omega))⟩
    show n < n + 1; omega
end Go.Proofs.Ytcbhgglpgphimaa.Ab
namespace Go.Proofs.Ytcbhgglpgphimaa.Ab
set_option linter.deprecated false
set_option linter.unusedVariables false
set_option linter.unusedSimpArgs false
open Go Go.Proofs
set_option maxRecDepth 10000
set_option maxHeartbeats 8000000
set_option linter.unusedSimpArgs false
set_option linter.unusedVariables false
noncomputable def nearV (b : List Int) (p : Nat) (l : List ByteArray) : ByteArray × Nat :=
  if l.length = 0 then keyV b p else if pickV b p 4 = 0 then keyV b (p + 1) else
    let k := ofV b (p + 1) l
    if pickV b (p + 2) 4 = 0 then (k.extract 0 (pickV b (p + 3) ((k.size + 1 : Nat) : Int)), p + 4)
    else if pickV b (p + 2) 4 = 1 then (if k.size < 5 then (k ++ ofV b (p + 3) three, p + 4) else (k, p + 3)) else (k, p + 3)
theorem nearV_fin {b : List Int} (hb : byteL b) {p K : Nat} {l : List ByteArray} (hp : p ≤ 800000) (hl : l.length ≤ 1000) (hK : 5 ≤ K) (hs : ∀ s ∈ l, s.size ≤ K) : (nearV b p l).1.size ≤ K ∧ (nearV b p l).2 ≤ p + 7 := by
  unfold nearV
  split
  · have := keyV_fin hb (show p ≤ 900000 by omega); omega
  split
  · have := keyV_fin hb (show p + 1 ≤ 900000 by omega); omega
  have hk := hs _ (ofV_mem (l := l) hb (show p + 1 ≤ 1000000 by omega) (by omega) hl)
  dsimp only
  split
  · exact ⟨by rw [ByteArray.size_extract]; omega, by dsimp only; omega⟩
  split
  · split
    · have h3 := three_size (ofV_mem (l := three) hb (show p + 3 ≤ 1000000 by omega) (by decide) (by decide))
      exact ⟨by rw [ByteArray.size_append, h3]; omega, by dsimp only; omega⟩
    · exact ⟨hk, by dsimp only; omega⟩
  · exact ⟨hk, by dsimp only; omega⟩
theorem l71Near_ac {b : List Int} {p : Nat} {l : List ByteArray} (hb : byteL b) (hp : p ≤ 800000) (hl : l.length ≤ 1000) (hs : ∀ s ∈ l, s.size ≤ 1000000) : AC Try.prog 75 [.c (.ph 0 0 0), strsT l] (hpL [some (rdO b p)]) 1 ⟨.t (sT (nearV b p l).1), hpL [some (rdO b (nearV b p l).2)], 1⟩ := by
  by_cases c0 : l.length = 0
  · have e : nearV b p l = keyV b p := by unfold nearV; rw [if_pos c0]
    have g0 : decide (((l.length : Nat) : Int) = 0) = true := decide_eq_true (by omega)
    have kk := l71Key_ac hb (show p ≤ 900000 by omega)
    rw [e]
    refine AC_of Try.func75 rfl Try.ntmps75 Try.results75 (by kernel_rfl) rfl ?_
    simp only [List.zipIdx, List.map, Nat.zero_add, Nat.reduceAdd]
    repeat (first | apply Aw_seq | apply Aw_block | apply Aw_skip | apply Aw_exit | refine Aw_condt rfl ?_ | refine Aw_condf rfl ?_ | (refine qr ?_; simp only [go_sem, Nat.reduceEqDiff, reduceIte, Nat.reduceAdd, Nat.reduceMul, Nat.reduceSub, Nat.reduceLT, Nat.reduceLeDiff, Nat.reduceBEq, g0]) | (refine qd (by kernel_rfl) (by kernel_rfl) ?_; simp only [go_sem, Nat.reduceEqDiff, reduceIte, Nat.reduceAdd, Nat.reduceMul, Nat.reduceSub, Nat.reduceLT, Nat.reduceLeDiff, Nat.reduceBEq, g0]) | refine dk (by kernel_rfl) ?_ | (refine qx (call_L (N' := [0]) (L := []) (kk) rfl (.cons (.nm rfl) (.nil)) (by decide) (by decide) (by decide) (by simp only [go_sem, Nat.reduceEqDiff, reduceIte, Nat.reduceAdd, Nat.reduceMul, Nat.reduceSub, Nat.reduceLT, Nat.reduceLeDiff, Nat.reduceBEq, g0]; first | done | rfl) (.inl rfl) rfl (by decide)) (by simp only [go_sem, Nat.reduceEqDiff, reduceIte, Nat.reduceAdd, Nat.reduceMul, Nat.reduceSub, Nat.reduceLT, Nat.reduceLeDiff, Nat.reduceBEq, g0]; first | done | rfl) rfl (by simp only [go_sem, Nat.reduceLT]) ?_; simp only [go_sem, Nat.reduceEqDiff, reduceIte, Nat.reduceAdd, Nat.reduceMul, Nat.reduceSub, Nat.reduceLT, Nat.reduceLeDiff, Nat.reduceBEq, g0]))
    exact Aw_ret (retL (M := [0]) (.inl rfl) (by simp only [go_sem, Nat.reduceEqDiff, reduceIte, Nat.reduceAdd, Nat.reduceMul, Nat.reduceSub, Nat.reduceLT, Nat.reduceLeDiff, Nat.reduceBEq]; first | done | rfl) rfl rfl (by rfl) (by simp only [go_sem, Nat.reduceEqDiff, reduceIte, Nat.reduceAdd, Nat.reduceMul, Nat.reduceSub, Nat.reduceLT, Nat.reduceLeDiff, Nat.reduceBEq]; first | done | rfl | (and_intros <;> rfl)) (by decide) (by intro m hm; first | omega | (rcases m with _ | _ | _ | _ | _ | _ | m <;> first | exact ⟨by decide, rfl⟩ | omega)))
  have g0 : decide (((l.length : Nat) : Int) = 0) = false := decide_eq_false (by omega)
  have k1 := pickV_ac (n := 4) hb (show p ≤ 1000000 by omega) (by omega)
  by_cases c1 : pickV b p 4 = 0
  · have e : nearV b p l = keyV b (p + 1) := by unfold nearV; rw [if_neg c0, if_pos c1]
    have kk := l71Key_ac hb (show p + 1 ≤ 900000 by omega)
    have g1 : decide (((pickV b p 4 : Nat) : Int) = 0) = true := decide_eq_true (by omega)
    rw [e]
    refine AC_of Try.func75 rfl Try.ntmps75 Try.results75 (by kernel_rfl) rfl ?_
    simp only [List.zipIdx, List.map, Nat.zero_add, Nat.reduceAdd]
    repeat (first | apply Aw_seq | apply Aw_block | apply Aw_skip | apply Aw_exit | refine Aw_condt rfl ?_ | refine Aw_condf rfl ?_ | (refine qr ?_; simp only [go_sem, Nat.reduceEqDiff, reduceIte, Nat.reduceAdd, Nat.reduceMul, Nat.reduceSub, Nat.reduceLT, Nat.reduceLeDiff, Nat.reduceBEq, g0, g1]) | (refine qd (by kernel_rfl) (by kernel_rfl) ?_; simp only [go_sem, Nat.reduceEqDiff, reduceIte, Nat.reduceAdd, Nat.reduceMul, Nat.reduceSub, Nat.reduceLT, Nat.reduceLeDiff, Nat.reduceBEq, g0, g1]) | refine dk (by kernel_rfl) ?_ | (refine qx (call_L (N' := [0]) (L := []) (k1) rfl (.cons (.nm rfl) (.cons (.nm rfl) (.nil))) (by decide) (by decide) (by decide) (by simp only [go_sem, Nat.reduceEqDiff, reduceIte, Nat.reduceAdd, Nat.reduceMul, Nat.reduceSub, Nat.reduceLT, Nat.reduceLeDiff, Nat.reduceBEq, g0, g1]; first | done | rfl) (.inl rfl) rfl (by decide)) (by simp only [go_sem, Nat.reduceEqDiff, reduceIte, Nat.reduceAdd, Nat.reduceMul, Nat.reduceSub, Nat.reduceLT, Nat.reduceLeDiff, Nat.reduceBEq, g0, g1]; first | done | rfl) rfl (by simp only [go_sem, Nat.reduceLT]) ?_; simp only [go_sem, Nat.reduceEqDiff, reduceIte, Nat.reduceAdd, Nat.reduceMul, Nat.reduceSub, Nat.reduceLT, Nat.reduceLeDiff, Nat.reduceBEq, g0, g1]) | (refine qx (call_L (N' := [0]) (L := []) (kk) rfl (.cons (.nm rfl) (.nil)) (by decide) (by decide) (by decide) (by simp only [go_sem, Nat.reduceEqDiff, reduceIte, Nat.reduceAdd, Nat.reduceMul, Nat.reduceSub, Nat.reduceLT, Nat.reduceLeDiff, Nat.reduceBEq, g0, g1]; first | done | rfl) (.inl rfl) rfl (by decide)) (by simp only [go_sem, Nat.reduceEqDiff, reduceIte, Nat.reduceAdd, Nat.reduceMul, Nat.reduceSub, Nat.reduceLT, Nat.reduceLeDiff, Nat.reduceBEq, g0, g1]; first | done | rfl) rfl (by simp only [go_sem, Nat.reduceLT]) ?_; simp only [go_sem, Nat.reduceEqDiff, reduceIte, Nat.reduceAdd, Nat.reduceMul, Nat.reduceSub, Nat.reduceLT, Nat.reduceLeDiff, Nat.reduceBEq, g0, g1]))
    exact Aw_ret (retL (M := [0]) (.inl rfl) (by simp only [go_sem, Nat.reduceEqDiff, reduceIte, Nat.reduceAdd, Nat.reduceMul, Nat.reduceSub, Nat.reduceLT, Nat.reduceLeDiff, Nat.reduceBEq]; first | done | rfl) rfl rfl (by rfl) (by simp only [go_sem, Nat.reduceEqDiff, reduceIte, Nat.reduceAdd, Nat.reduceMul, Nat.reduceSub, Nat.reduceLT, Nat.reduceLeDiff, Nat.reduceBEq]; first | done | rfl | (and_intros <;> rfl)) (by decide) (by intro m hm; first | omega | (rcases m with _ | _ | _ | _ | _ | _ | m <;> first | exact ⟨by decide, rfl⟩ | omega)))
  have g1 : decide (((pickV b p 4 : Nat) : Int) = 0) = false := decide_eq_false (by omega)
  have k2 := pickV_ac (n := (l.length : Int)) hb (show p + 1 ≤ 1000000 by omega) (by omega)
  have k3 := pickV_ac (n := 4) hb (show p + 1 + 1 ≤ 1000000 by omega) (by omega)
  have hx := ofV_at hb (show p + 1 ≤ 1000000 by omega) (show 0 < l.length by omega) hl
  obtain ⟨k, hk⟩ : ∃ k, k = ofV b (p + 1) l := ⟨_, rfl⟩
  rw [← hk] at hx
  have hks := hs k (List.mem_of_getElem? hx)
  by_cases c2 : pickV b (p + 1 + 1) 4 = 0
  · have e : nearV b p l = (k.extract 0 (pickV b (p + 1 + 1 + 1) ((k.size + 1 : Nat) : Int)), p + 4) := by unfold nearV; rw [if_neg c0, if_neg c1]; dsimp only; rw [if_pos c2, ← hk]
    have g2 : decide (((pickV b (p + 1 + 1) 4 : Nat) : Int) = 0) = true := decide_eq_true (by omega)
    have w1 : IntKind.i64.wrap ((k.size : Int) + 1) = ((k.size + 1 : Nat) : Int) := wn (by omega) (by omega)
    have k4 := pickV_ac (n := ((k.size + 1 : Nat) : Int)) hb (show p + 1 + 1 + 1 ≤ 1000000 by omega) (by omega)
    have h4 := pickV_lt (n := ((k.size + 1 : Nat) : Int)) hb (show p + 1 + 1 + 1 ≤ 1000000 by omega) (by omega) (by omega)
    have s1 : ((0 : Int) ≤ ((pickV b (p + 1 + 1 + 1) ((k.size + 1 : Nat) : Int) : Nat) : Int)) = True := eq_true (by omega)
    have s2 : (((pickV b (p + 1 + 1 + 1) ((k.size + 1 : Nat) : Int) : Nat) : Int) ≤ (k.size : Int)) = True := eq_true (by omega)
    have s3 : Int.toNat ((pickV b (p + 1 + 1 + 1) ((k.size + 1 : Nat) : Int) : Nat) : Int) = pickV b (p + 1 + 1 + 1) ((k.size + 1 : Nat) : Int) := rfl
    have s4 : Int.toNat 0 = 0 := rfl
    rw [e]
    refine AC_of Try.func75 rfl Try.ntmps75 Try.results75 (by kernel_rfl) rfl ?_
    simp only [List.zipIdx, List.map, Nat.zero_add, Nat.reduceAdd]
    repeat (first | apply Aw_seq | apply Aw_block | apply Aw_skip | apply Aw_exit | refine Aw_condt rfl ?_ | refine Aw_condf rfl ?_ | (refine qr ?_; simp only [go_sem, Nat.reduceEqDiff, reduceIte, Nat.reduceAdd, Nat.reduceMul, Nat.reduceSub, Nat.reduceLT, Nat.reduceLeDiff, Nat.reduceBEq, g0, g1, hx, g2, w1, s1, s2, s3, s4]) | (refine qd (by kernel_rfl) (by kernel_rfl) ?_; simp only [go_sem, Nat.reduceEqDiff, reduceIte, Nat.reduceAdd, Nat.reduceMul, Nat.reduceSub, Nat.reduceLT, Nat.reduceLeDiff, Nat.reduceBEq, g0, g1, hx, g2, w1, s1, s2, s3, s4]) | refine dk (by kernel_rfl) ?_ | (refine qx (call_L (N' := [0]) (L := []) (k1) rfl (.cons (.nm rfl) (.cons (.nm rfl) (.nil))) (by decide) (by decide) (by decide) (by simp only [go_sem, Nat.reduceEqDiff, reduceIte, Nat.reduceAdd, Nat.reduceMul, Nat.reduceSub, Nat.reduceLT, Nat.reduceLeDiff, Nat.reduceBEq, g0, g1, hx, g2, w1, s1, s2, s3, s4]; first | done | rfl) (.inl rfl) rfl (by decide)) (by simp only [go_sem, Nat.reduceEqDiff, reduceIte, Nat.reduceAdd, Nat.reduceMul, Nat.reduceSub, Nat.reduceLT, Nat.reduceLeDiff, Nat.reduceBEq, g0, g1, hx, g2, w1, s1, s2, s3, s4]; first | done | rfl) rfl (by simp only [go_sem, Nat.reduceLT]) ?_; simp only [go_sem, Nat.reduceEqDiff, reduceIte, Nat.reduceAdd, Nat.reduceMul, Nat.reduceSub, Nat.reduceLT, Nat.reduceLeDiff, Nat.reduceBEq, g0, g1, hx, g2, w1, s1, s2, s3, s4]) | (refine qx (call_L (N' := [0]) (L := []) (k2) rfl (.cons (.nm rfl) (.cons (.nm rfl) (.nil))) (by decide) (by decide) (by decide) (by simp only [go_sem, Nat.reduceEqDiff, reduceIte, Nat.reduceAdd, Nat.reduceMul, Nat.reduceSub, Nat.reduceLT, Nat.reduceLeDiff, Nat.reduceBEq, g0, g1, hx, g2, w1, s1, s2, s3, s4]; first | done | rfl) (.inl rfl) rfl (by decide)) (by simp only [go_sem, Nat.reduceEqDiff, reduceIte, Nat.reduceAdd, Nat.reduceMul, Nat.reduceSub, Nat.reduceLT, Nat.reduceLeDiff, Nat.reduceBEq, g0, g1, hx, g2, w1, s1, s2, s3, s4]; first | done | rfl) rfl (by simp only [go_sem, Nat.reduceLT]) ?_; simp only [go_sem, Nat.reduceEqDiff, reduceIte, Nat.reduceAdd, Nat.reduceMul, Nat.reduceSub, Nat.reduceLT, Nat.reduceLeDiff, Nat.reduceBEq, g0, g1, hx, g2, w1, s1, s2, s3, s4]) | (refine qx (call_L (N' := [0]) (L := []) (k3) rfl (.cons (.nm rfl) (.cons (.nm rfl) (.nil))) (by decide) (by decide) (by decide) (by simp only [go_sem, Nat.reduceEqDiff, reduceIte, Nat.reduceAdd, Nat.reduceMul, Nat.reduceSub, Nat.reduceLT, Nat.reduceLeDiff, Nat.reduceBEq, g0, g1, hx, g2, w1, s1, s2, s3, s4]; first | done | rfl) (.inl rfl) rfl (by decide)) (by simp only [go_sem, Nat.reduceEqDiff, reduceIte, Nat.reduceAdd, Nat.reduceMul, Nat.reduceSub, Nat.reduceLT, Nat.reduceLeDiff, Nat.reduceBEq, g0, g1, hx, g2, w1, s1, s2, s3, s4]; first | done | rfl) rfl (by simp only [go_sem, Nat.reduceLT]) ?_; simp only [go_sem, Nat.reduceEqDiff, reduceIte, Nat.reduceAdd, Nat.reduceMul, Nat.reduceSub, Nat.reduceLT, Nat.reduceLeDiff, Nat.reduceBEq, g0, g1, hx, g2, w1, s1, s2, s3, s4]) | (refine qx (call_L (N' := [0]) (L := []) (k4) rfl (.cons (.nm rfl) (.cons (.nm rfl) (.nil))) (by decide) (by decide) (by decide) (by simp only [go_sem, Nat.reduceEqDiff, reduceIte, Nat.reduceAdd, Nat.reduceMul, Nat.reduceSub, Nat.reduceLT, Nat.reduceLeDiff, Nat.reduceBEq, g0, g1, hx, g2, w1, s1, s2, s3, s4]; first | done | rfl) (.inl rfl) rfl (by decide)) (by simp only [go_sem, Nat.reduceEqDiff, reduceIte, Nat.reduceAdd, Nat.reduceMul, Nat.reduceSub, Nat.reduceLT, Nat.reduceLeDiff, Nat.reduceBEq, g0, g1, hx, g2, w1, s1, s2, s3, s4]; first | done | rfl) rfl (by simp only [go_sem, Nat.reduceLT]) ?_; simp only [go_sem, Nat.reduceEqDiff, reduceIte, Nat.reduceAdd, Nat.reduceMul, Nat.reduceSub, Nat.reduceLT, Nat.reduceLeDiff, Nat.reduceBEq, g0, g1, hx, g2, w1, s1, s2, s3, s4]))
    exact Aw_ret (retL (M := [0]) (.inl rfl) (by simp only [go_sem, Nat.reduceEqDiff, reduceIte, Nat.reduceAdd, Nat.reduceMul, Nat.reduceSub, Nat.reduceLT, Nat.reduceLeDiff, Nat.reduceBEq]; first | done | rfl) rfl rfl (by rfl) (by simp only [go_sem, Nat.reduceEqDiff, reduceIte, Nat.reduceAdd, Nat.reduceMul, Nat.reduceSub, Nat.reduceLT, Nat.reduceLeDiff, Nat.reduceBEq]; first | done | rfl | (and_intros <;> rfl)) (by decide) (by intro m hm; first | omega | (rcases m with _ | _ | _ | _ | _ | _ | m <;> first | exact ⟨by decide, rfl⟩ | omega)))
  have g2 : decide (((pickV b (p + 1 + 1) 4 : Nat) : Int) = 0) = false := decide_eq_false (by omega)
  by_cases c3 : pickV b (p + 1 + 1) 4 = 1
  · have g3 : decide (((pickV b (p + 1 + 1) 4 : Nat) : Int) = 1) = true := decide_eq_true (by omega)
    by_cases c4 : k.size < 5
    · have e : nearV b p l = (k ++ ofV b (p + 1 + 1 + 1) three, p + 4) := by unfold nearV; rw [if_neg c0, if_neg c1]; dsimp only; rw [if_neg c2, if_pos c3, ← hk, if_pos c4]
      have g4 : decide ((k.size : Int) < 5) = true := decide_eq_true (by omega)
      have e3 := three_size (ofV_mem (l := three) hb (show p + 1 + 1 + 1 ≤ 1000000 by omega) (by decide) (by decide))
      have gs : (k.size + (ofV b (p + 1 + 1 + 1) three).size ≤ 9223372036854775807) = True := eq_true (by rw [e3]; omega)
      have ko : AC Try.prog 125 [.c (.ph 0 0 0), .c (.h 1)] (hpL [some (rdO b (p + 1 + 1 + 1)), some (kRow [bs [97], bs [98], bs [100]])]) 2 ⟨.t (sT (ofV b (p + 1 + 1 + 1) three)), hpL [some (rdO b (p + 1 + 1 + 1 + 1)), none], 2⟩ := of_ac (l := three) hb (show p + 1 + 1 + 1 ≤ 1000000 by omega) (by decide) (by decide)
      rw [e]
      refine AC_of Try.func75 rfl Try.ntmps75 Try.results75 (by kernel_rfl) rfl ?_
      simp only [List.zipIdx, List.map, Nat.zero_add, Nat.reduceAdd]
      repeat (first | apply Aw_seq | apply Aw_block | apply Aw_skip | apply Aw_exit | refine Aw_condt rfl ?_ | refine Aw_condf rfl ?_ | (refine qr ?_; simp only [go_sem, Nat.reduceEqDiff, reduceIte, Nat.reduceAdd, Nat.reduceMul, Nat.reduceSub, Nat.reduceLT, Nat.reduceLeDiff, Nat.reduceBEq, g0, g1, hx, g2, g3, g4, gs]) | (refine qd (by kernel_rfl) (by kernel_rfl) ?_; simp only [go_sem, Nat.reduceEqDiff, reduceIte, Nat.reduceAdd, Nat.reduceMul, Nat.reduceSub, Nat.reduceLT, Nat.reduceLeDiff, Nat.reduceBEq, g0, g1, hx, g2, g3, g4, gs]) | refine dk (by kernel_rfl) ?_ | (refine qx (call_L (N' := [0]) (L := []) (k1) rfl (.cons (.nm rfl) (.cons (.nm rfl) (.nil))) (by decide) (by decide) (by decide) (by simp only [go_sem, Nat.reduceEqDiff, reduceIte, Nat.reduceAdd, Nat.reduceMul, Nat.reduceSub, Nat.reduceLT, Nat.reduceLeDiff, Nat.reduceBEq, g0, g1, hx, g2, g3, g4, gs]; first | done | rfl) (.inl rfl) rfl (by decide)) (by simp only [go_sem, Nat.reduceEqDiff, reduceIte, Nat.reduceAdd, Nat.reduceMul, Nat.reduceSub, Nat.reduceLT, Nat.reduceLeDiff, Nat.reduceBEq, g0, g1, hx, g2, g3, g4, gs]; first | done | rfl) rfl (by simp only [go_sem, Nat.reduceLT]) ?_; simp only [go_sem, Nat.reduceEqDiff, reduceIte, Nat.reduceAdd, Nat.reduceMul, Nat.reduceSub, Nat.reduceLT, Nat.reduceLeDiff, Nat.reduceBEq, g0, g1, hx, g2, g3, g4, gs]) | (refine qx (call_L (N' := [0]) (L := []) (k2) rfl (.cons (.nm rfl) (.cons (.nm rfl) (.nil))) (by decide) (by decide) (by decide) (by simp only [go_sem, Nat.reduceEqDiff, reduceIte, Nat.reduceAdd, Nat.reduceMul, Nat.reduceSub, Nat.reduceLT, Nat.reduceLeDiff, Nat.reduceBEq, g0, g1, hx, g2, g3, g4, gs]; first | done | rfl) (.inl rfl) rfl (by decide)) (by simp only [go_sem, Nat.reduceEqDiff, reduceIte, Nat.reduceAdd, Nat.reduceMul, Nat.reduceSub, Nat.reduceLT, Nat.reduceLeDiff, Nat.reduceBEq, g0, g1, hx, g2, g3, g4, gs]; first | done | rfl) rfl (by simp only [go_sem, Nat.reduceLT]) ?_; simp only [go_sem, Nat.reduceEqDiff, reduceIte, Nat.reduceAdd, Nat.reduceMul, Nat.reduceSub, Nat.reduceLT, Nat.reduceLeDiff, Nat.reduceBEq, g0, g1, hx, g2, g3, g4, gs]) | (refine qx (call_L (N' := [0]) (L := []) (k3) rfl (.cons (.nm rfl) (.cons (.nm rfl) (.nil))) (by decide) (by decide) (by decide) (by simp only [go_sem, Nat.reduceEqDiff, reduceIte, Nat.reduceAdd, Nat.reduceMul, Nat.reduceSub, Nat.reduceLT, Nat.reduceLeDiff, Nat.reduceBEq, g0, g1, hx, g2, g3, g4, gs]; first | done | rfl) (.inl rfl) rfl (by decide)) (by simp only [go_sem, Nat.reduceEqDiff, reduceIte, Nat.reduceAdd, Nat.reduceMul, Nat.reduceSub, Nat.reduceLT, Nat.reduceLeDiff, Nat.reduceBEq, g0, g1, hx, g2, g3, g4, gs]; first | done | rfl) rfl (by simp only [go_sem, Nat.reduceLT]) ?_; simp only [go_sem, Nat.reduceEqDiff, reduceIte, Nat.reduceAdd, Nat.reduceMul, Nat.reduceSub, Nat.reduceLT, Nat.reduceLeDiff, Nat.reduceBEq, g0, g1, hx, g2, g3, g4, gs]) | (refine qx (call_L (N' := [0, 26]) (L := []) (ko) rfl (.cons (.nm rfl) (.cons (.nm rfl) (.nil))) (by decide) (by decide) (by decide) (by simp only [go_sem, Nat.reduceEqDiff, reduceIte, Nat.reduceAdd, Nat.reduceMul, Nat.reduceSub, Nat.reduceLT, Nat.reduceLeDiff, Nat.reduceBEq, g0, g1, hx, g2, g3, g4, gs]; first | done | rfl) (.inl rfl) rfl (by decide)) (by simp only [go_sem, Nat.reduceEqDiff, reduceIte, Nat.reduceAdd, Nat.reduceMul, Nat.reduceSub, Nat.reduceLT, Nat.reduceLeDiff, Nat.reduceBEq, g0, g1, hx, g2, g3, g4, gs]; first | done | rfl) rfl (by simp only [go_sem, Nat.reduceLT]) ?_; simp only [go_sem, Nat.reduceEqDiff, reduceIte, Nat.reduceAdd, Nat.reduceMul, Nat.reduceSub, Nat.reduceLT, Nat.reduceLeDiff, Nat.reduceBEq, g0, g1, hx, g2, g3, g4, gs]))
      exact Aw_ret (retL (M := [0]) (.inl rfl) (by simp only [go_sem, Nat.reduceEqDiff, reduceIte, Nat.reduceAdd, Nat.reduceMul, Nat.reduceSub, Nat.reduceLT, Nat.reduceLeDiff, Nat.reduceBEq]; first | done | rfl) rfl rfl (by rfl) (by simp only [go_sem, Nat.reduceEqDiff, reduceIte, Nat.reduceAdd, Nat.reduceMul, Nat.reduceSub, Nat.reduceLT, Nat.reduceLeDiff, Nat.reduceBEq]; first | done | rfl | (and_intros <;> rfl)) (by decide) (by intro m hm; first | omega | (rcases m with _ | _ | _ | _ | _ | _ | m <;> first | exact ⟨by decide, rfl⟩ | omega)))
    · have e : nearV b p l = (k, p + 3) := by unfold nearV; rw [if_neg c0, if_neg c1]; dsimp only; rw [if_neg c2, if_pos c3, ← hk, if_neg c4]
      have g4 : decide ((k.size : Int) < 5) = false := decide_eq_false (by omega)
      rw [e]
      refine AC_of Try.func75 rfl Try.ntmps75 Try.results75 (by kernel_rfl) rfl ?_
      simp only [List.zipIdx, List.map, Nat.zero_add, Nat.reduceAdd]
      repeat (first | apply Aw_seq | apply Aw_block | apply Aw_skip | apply Aw_exit | refine Aw_condt rfl ?_ | refine Aw_condf rfl ?_ | (refine qr ?_; simp only [go_sem, Nat.reduceEqDiff, reduceIte, Nat.reduceAdd, Nat.reduceMul, Nat.reduceSub, Nat.reduceLT, Nat.reduceLeDiff, Nat.reduceBEq, g0, g1, hx, g2, g3, g4]) | (refine qd (by kernel_rfl) (by kernel_rfl) ?_; simp only [go_sem, Nat.reduceEqDiff, reduceIte, Nat.reduceAdd, Nat.reduceMul, Nat.reduceSub, Nat.reduceLT, Nat.reduceLeDiff, Nat.reduceBEq, g0, g1, hx, g2, g3, g4]) | refine dk (by kernel_rfl) ?_ | (refine qx (call_L (N' := [0]) (L := []) (k1) rfl (.cons (.nm rfl) (.cons (.nm rfl) (.nil))) (by decide) (by decide) (by decide) (by simp only [go_sem, Nat.reduceEqDiff, reduceIte, Nat.reduceAdd, Nat.reduceMul, Nat.reduceSub, Nat.reduceLT, Nat.reduceLeDiff, Nat.reduceBEq, g0, g1, hx, g2, g3, g4]; first | done | rfl) (.inl rfl) rfl (by decide)) (by simp only [go_sem, Nat.reduceEqDiff, reduceIte, Nat.reduceAdd, Nat.reduceMul, Nat.reduceSub, Nat.reduceLT, Nat.reduceLeDiff, Nat.reduceBEq, g0, g1, hx, g2, g3, g4]; first | done | rfl) rfl (by simp only [go_sem, Nat.reduceLT]) ?_; simp only [go_sem, Nat.reduceEqDiff, reduceIte, Nat.reduceAdd, Nat.reduceMul, Nat.reduceSub, Nat.reduceLT, Nat.reduceLeDiff, Nat.reduceBEq, g0, g1, hx, g2, g3, g4]) | (refine qx (call_L (N' := [0]) (L := []) (k2) rfl (.cons (.nm rfl) (.cons (.nm rfl) (.nil))) (by decide) (by decide) (by decide) (by simp only [go_sem, Nat.reduceEqDiff, reduceIte, Nat.reduceAdd, Nat.reduceMul, Nat.reduceSub, Nat.reduceLT, Nat.reduceLeDiff, Nat.reduceBEq, g0, g1, hx, g2, g3, g4]; first | done | rfl) (.inl rfl) rfl (by decide)) (by simp only [go_sem, Nat.reduceEqDiff, reduceIte, Nat.reduceAdd, Nat.reduceMul, Nat.reduceSub, Nat.reduceLT, Nat.reduceLeDiff, Nat.reduceBEq, g0, g1, hx, g2, g3, g4]; first | done | rfl) rfl (by simp only [go_sem, Nat.reduceLT]) ?_; simp only [go_sem, Nat.reduceEqDiff, reduceIte, Nat.reduceAdd, Nat.reduceMul, Nat.reduceSub, Nat.reduceLT, Nat.reduceLeDiff, Nat.reduceBEq, g0, g1, hx, g2, g3, g4]) | (refine qx (call_L (N' := [0]) (L := []) (k3) rfl (.cons (.nm rfl) (.cons (.nm rfl) (.nil))) (by decide) (by decide) (by decide) (by simp only [go_sem, Nat.reduceEqDiff, reduceIte, Nat.reduceAdd, Nat.reduceMul, Nat.reduceSub, Nat.reduceLT, Nat.reduceLeDiff, Nat.reduceBEq, g0, g1, hx, g2, g3, g4]; first | done | rfl) (.inl rfl) rfl (by decide)) (by simp only [go_sem, Nat.reduceEqDiff, reduceIte, Nat.reduceAdd, Nat.reduceMul, Nat.reduceSub, Nat.reduceLT, Nat.reduceLeDiff, Nat.reduceBEq, g0, g1, hx, g2, g3, g4]; first | done | rfl) rfl (by simp only [go_sem, Nat.reduceLT]) ?_; simp only [go_sem, Nat.reduceEqDiff, reduceIte, Nat.reduceAdd, Nat.reduceMul, Nat.reduceSub, Nat.reduceLT, Nat.reduceLeDiff, Nat.reduceBEq, g0, g1, hx, g2, g3, g4]))
      exact Aw_ret (retL (M := [0]) (.inl rfl) (by simp only [go_sem, Nat.reduceEqDiff, reduceIte, Nat.reduceAdd, Nat.reduceMul, Nat.reduceSub, Nat.reduceLT, Nat.reduceLeDiff, Nat.reduceBEq]; first | done | rfl) rfl rfl (by rfl) (by simp only [go_sem, Nat.reduceEqDiff, reduceIte, Nat.reduceAdd, Nat.reduceMul, Nat.reduceSub, Nat.reduceLT, Nat.reduceLeDiff, Nat.reduceBEq]; first | done | rfl | (and_intros <;> rfl)) (by decide) (by intro m hm; first | omega | (rcases m with _ | _ | _ | _ | _ | _ | m <;> first | exact ⟨by decide, rfl⟩ | omega)))
  · have g3 : decide (((pickV b (p + 1 + 1) 4 : Nat) : Int) = 1) = false := decide_eq_false (by omega)
    have e : nearV b p l = (k, p + 3) := by unfold nearV; rw [if_neg c0, if_neg c1]; dsimp only; rw [if_neg c2, if_neg c3, ← hk]
    rw [e]
    refine AC_of Try.func75 rfl Try.ntmps75 Try.results75 (by kernel_rfl) rfl ?_
    simp only [List.zipIdx, List.map, Nat.zero_add, Nat.reduceAdd]
    repeat (first | apply Aw_seq | apply Aw_block | apply Aw_skip | apply Aw_exit | refine Aw_condt rfl ?_ | refine Aw_condf rfl ?_ | (refine qr ?_; simp only [go_sem, Nat.reduceEqDiff, reduceIte, Nat.reduceAdd, Nat.reduceMul, Nat.reduceSub, Nat.reduceLT, Nat.reduceLeDiff, Nat.reduceBEq, g0, g1, hx, g2, g3]) | (refine qd (by kernel_rfl) (by kernel_rfl) ?_; simp only [go_sem, Nat.reduceEqDiff, reduceIte, Nat.reduceAdd, Nat.reduceMul, Nat.reduceSub, Nat.reduceLT, Nat.reduceLeDiff, Nat.reduceBEq, g0, g1, hx, g2, g3]) | refine dk (by kernel_rfl) ?_ | (refine qx (call_L (N' := [0]) (L := []) (k1) rfl (.cons (.nm rfl) (.cons (.nm rfl) (.nil))) (by decide) (by decide) (by decide) (by simp only [go_sem, Nat.reduceEqDiff, reduceIte, Nat.reduceAdd, Nat.reduceMul, Nat.reduceSub, Nat.reduceLT, Nat.reduceLeDiff, Nat.reduceBEq, g0, g1, hx, g2, g3]; first | done | rfl) (.inl rfl) rfl (by decide)) (by simp only [go_sem, Nat.reduceEqDiff, reduceIte, Nat.reduceAdd, Nat.reduceMul, Nat.reduceSub, Nat.reduceLT, Nat.reduceLeDiff, Nat.reduceBEq, g0, g1, hx, g2, g3]; first | done | rfl) rfl (by simp only [go_sem, Nat.reduceLT]) ?_; simp only [go_sem, Nat.reduceEqDiff, reduceIte, Nat.reduceAdd, Nat.reduceMul, Nat.reduceSub, Nat.reduceLT, Nat.reduceLeDiff, Nat.reduceBEq, g0, g1, hx, g2, g3]) | (refine qx (call_L (N' := [0]) (L := []) (k2) rfl (.cons (.nm rfl) (.cons (.nm rfl) (.nil))) (by decide) (by decide) (by decide) (by simp only [go_sem, Nat.reduceEqDiff, reduceIte, Nat.reduceAdd, Nat.reduceMul, Nat.reduceSub, Nat.reduceLT, Nat.reduceLeDiff, Nat.reduceBEq, g0, g1, hx, g2, g3]; first | done | rfl) (.inl rfl) rfl (by decide)) (by simp only [go_sem, Nat.reduceEqDiff, reduceIte, Nat.reduceAdd, Nat.reduceMul, Nat.reduceSub, Nat.reduceLT, Nat.reduceLeDiff, Nat.reduceBEq, g0, g1, hx, g2, g3]; first | done | rfl) rfl (by simp only [go_sem, Nat.reduceLT]) ?_; simp only [go_sem, Nat.reduceEqDiff, reduceIte, Nat.reduceAdd, Nat.reduceMul, Nat.reduceSub, Nat.reduceLT, Nat.reduceLeDiff, Nat.reduceBEq, g0, g1, hx, g2, g3]) | (refine qx (call_L (N' := [0]) (L := []) (k3) rfl (.cons (.nm rfl) (.cons (.nm rfl) (.nil))) (by decide) (by decide) (by decide) (by simp only [go_sem, Nat.reduceEqDiff, reduceIte, Nat.reduceAdd, Nat.reduceMul, Nat.reduceSub, Nat.reduceLT, Nat.reduceLeDiff, Nat.reduceBEq, g0, g1, hx, g2, g3]; first | done | rfl) (.inl rfl) rfl (by decide)) (by simp only [go_sem, Nat.reduceEqDiff, reduceIte, Nat.reduceAdd, Nat.reduceMul, Nat.reduceSub, Nat.reduceLT, Nat.reduceLeDiff, Nat.reduceBEq, g0, g1, hx, g2, g3]; first | done | rfl) rfl (by simp only [go_sem, Nat.reduceLT]) ?_; simp only [go_sem, Nat.reduceEqDiff, reduceIte, Nat.reduceAdd, Nat.reduceMul, Nat.reduceSub, Nat.reduceLT, Nat.reduceLeDiff, Nat.reduceBEq, g0, g1, hx, g2, g3]))
    exact Aw_ret (retL (M := [0]) (.inl rfl) (by simp only [go_sem, Nat.reduceEqDiff, reduceIte, Nat.reduceAdd, Nat.reduceMul, Nat.reduceSub, Nat.reduceLT, Nat.reduceLeDiff, Nat.reduceBEq]; first | done | rfl) rfl rfl (by rfl) (by simp only [go_sem, Nat.reduceEqDiff, reduceIte, Nat.reduceAdd, Nat.reduceMul, Nat.reduceSub, Nat.reduceLT, Nat.reduceLeDiff, Nat.reduceBEq]; first | done | rfl | (and_intros <;> rfl)) (by decide) (by intro m hm; first | omega | (rcases m with _ | _ | _ | _ | _ | _ | m <;> first | exact ⟨by decide, rfl⟩ | omega)))
noncomputable def keysL (b : List Int) : Nat → List ByteArray → Nat → List ByteArray × Nat
  | 0, l, p => (l, p)
  | n + 1, l, p => keysL b n (putK l (nearV b p l).1) (nearV b p l).2
noncomputable def keysV (b : List Int) (p : Nat) (most : Nat) : List ByteArray × Nat := keysL b (pickV b p ((most + 1 : Nat) : Int)) [] (p + 1)
theorem keysL_fin {b : List Int} (hb : byteL b) : ∀ (n : Nat) (l : List ByteArray) (p : Nat), p + 7 * n ≤ 700000 → l.length + n ≤ 1000 → (∀ s ∈ l, s.size ≤ 5) → (keysL b n l p).1.length ≤ l.length + n ∧ (∀ s ∈ (keysL b n l p).1, s.size ≤ 5) ∧ (keysL b n l p).2 ≤ p + 7 * n
  | 0, l, p, _, _, h => ⟨by simp [keysL], h, by simp [keysL]⟩
  | n + 1, l, p, h1, h2, h3 => by
    obtain ⟨a1, a2⟩ := nearV_fin hb (p := p) (K := 5) (l := l) (by omega) (by omega) (by omega) h3
    obtain ⟨b1, b2⟩ := putK_mem (ks := l) (k := (nearV b p l).1)
    obtain ⟨c1, c2, c3⟩ := keysL_fin hb n (putK l (nearV b p l).1) (nearV b p l).2 (by omega) (by omega) (fun s hs => by
      rcases b1 s hs with h | h
      · exact h3 s h
      · rw [h]; exact a1)
    exact ⟨by simp only [keysL]; omega, by simp only [keysL]; exact c2, by simp only [keysL]; omega⟩
theorem keysV_fin {b : List Int} (hb : byteL b) {p most : Nat} (hp : p ≤ 600000) (hm : most ≤ 100) : (keysV b p most).1.length ≤ most ∧ (∀ s ∈ (keysV b p most).1, s.size ≤ 5) ∧ (keysV b p most).2 ≤ p + 1 + 7 * most := by
  have h := pickV_lt (n := ((most + 1 : Nat) : Int)) hb (show p ≤ 1000000 by omega) (by omega) (by omega)
  obtain ⟨h1, h2, h3⟩ := keysL_fin hb (pickV b p ((most + 1 : Nat) : Int)) [] (p + 1) (by omega) (by show 0 + _ ≤ _; omega) (by simp)
  unfold keysV
  rw [show ([] : List ByteArray).length = 0 from rfl] at h1
  exact ⟨by omega, h2, by omega⟩
structure KsI (b : List Int) (p0 most : Nat) where
  n : Nat
  l : List ByteArray
  p : Nat
  hn : l.length + n ≤ 1000
  hs : ∀ s ∈ l, s.size ≤ 5
  hp : p + 7 * n ≤ 700000
  h : keysL b n l p = keysV b p0 most
theorem l71Keys_ac {b : List Int} {p most : Nat} (hb : byteL b) (hp : p ≤ 600000) (hm : most ≤ 100) : AC Try.prog 152 [.c (.ph 0 0 0), iT most] (hpL [some (rdO b p)]) 1 ⟨.t (strsT (keysV b p most).1), hpL [some (rdO b (keysV b p most).2)], 1⟩ := by
  refine AC_of Try.func152 rfl Try.ntmps152 Try.results152 (by kernel_rfl) rfl ?_
  simp only [List.zipIdx, List.map, Nat.zero_add, Nat.reduceAdd]
  have w0 : IntKind.i64.wrap ((most : Int) + 1) = ((most + 1 : Nat) : Int) := wn (by omega) (by omega)
  have k := pickV_ac (n := ((most + 1 : Nat) : Int)) hb (show p ≤ 1000000 by omega) (by omega)
  have h6 := pickV_lt (n := ((most + 1 : Nat) : Int)) hb (show p ≤ 1000000 by omega) (by omega) (by omega)
  repeat (first | apply Aw_seq | apply Aw_block | apply Aw_skip | apply Aw_exit | refine Aw_condt rfl ?_ | refine Aw_condf rfl ?_ | (refine qr ?_; simp only [go_sem, Nat.reduceEqDiff, reduceIte, Nat.reduceAdd, Nat.reduceMul, Nat.reduceSub, Nat.reduceLT, Nat.reduceLeDiff, Nat.reduceBEq, w0]) | (refine qd (by kernel_rfl) (by kernel_rfl) ?_; simp only [go_sem, Nat.reduceEqDiff, reduceIte, Nat.reduceAdd, Nat.reduceMul, Nat.reduceSub, Nat.reduceLT, Nat.reduceLeDiff, Nat.reduceBEq, w0]) | refine dk (by kernel_rfl) ?_ | (refine qx (call_L (N' := [0]) (L := []) (k) rfl (.cons (.nm rfl) (.cons (.nm rfl) (.nil))) (by decide) (by decide) (by decide) (by simp only [go_sem, Nat.reduceEqDiff, reduceIte, Nat.reduceAdd, Nat.reduceMul, Nat.reduceSub, Nat.reduceLT, Nat.reduceLeDiff, Nat.reduceBEq, w0]; first | done | rfl) (.inl rfl) rfl (by decide)) (by simp only [go_sem, Nat.reduceEqDiff, reduceIte, Nat.reduceAdd, Nat.reduceMul, Nat.reduceSub, Nat.reduceLT, Nat.reduceLeDiff, Nat.reduceBEq, w0]; first | done | rfl) rfl (by simp only [go_sem, Nat.reduceLT]) ?_; simp only [go_sem, Nat.reduceEqDiff, reduceIte, Nat.reduceAdd, Nat.reduceMul, Nat.reduceSub, Nat.reduceLT, Nat.reduceLeDiff, Nat.reduceBEq, w0]))
  refine Aw.rw (rwL (l' := [(6, .t (iT (pickV b p ((most + 1 : Nat) : Int) : Nat))), (5, .t (.c (.h 1))), (0, .t (.c (.ph 0 0 0)))]) (os := [some (rdO b (p + 1)), some (kRow [])]) (M := [0, 2]) (n' := 2) (by repeat (first | exact trivial | refine ⟨rfl, rfl, ?_⟩)) (by rfl) (by simp only [go_sem, Nat.reduceEqDiff, reduceIte, Nat.reduceAdd, Nat.reduceMul, Nat.reduceSub, Nat.reduceLT, Nat.reduceLeDiff, Nat.reduceBEq, List.map_nil]; first | done | rfl) (by decide) (by intro m hm; first | omega | (rcases m with _ | _ | _ | _ | _ | _ | m <;> first | exact ⟨by decide, rfl⟩ | omega))) ?_
  refine Aw.setL (l' := [(6, .t (iT (pickV b p ((most + 1 : Nat) : Int) : Nat))), (5, .t (strsT [])), (0, .t (.c (.ph 0 0 0)))]) (os' := [some (rdO b (p + 1))]) (n' := 2) [1] (by repeat (first | exact trivial | refine ⟨SetA.same rfl, ?_⟩ | refine ⟨SetA.row rfl rfl (by decide), ?_⟩)) (by repeat (first | exact trivial | refine ⟨rfl, rfl, ?_⟩ | show SubL _ _ _ _)) (by decide) ?_
  refine Aw_loop_rw (ι := KsI b p most) (fun q => S [(6, .t (iT (q.n : Nat))), (5, .t (strsT q.l)), (0, .t (.c (.ph 0 0 0)))] (hpL [some (rdO b q.p)]) 2) (fun q => q.n) ⟨pickV b p ((most + 1 : Nat) : Int), [], p + 1, by show 0 + _ ≤ _; omega, by simp, by omega, rfl⟩ ?_
  rintro ⟨n, l, q, hn, hs, hq, h⟩
  dsimp only
  rcases n with _ | n
  · have g1 : decide ((0 : Int) < ((0 : Nat) : Int)) = false := rfl
    rw [← h]
    repeat (first | apply Aw_seq | apply Aw_block | apply Aw_skip | apply Aw_exit | refine Aw_condt rfl ?_ | refine Aw_condf rfl ?_ | (refine qr ?_; simp only [go_sem, Nat.reduceEqDiff, reduceIte, Nat.reduceAdd, Nat.reduceMul, Nat.reduceSub, Nat.reduceLT, Nat.reduceLeDiff, Nat.reduceBEq, g1]) | (refine qd (by kernel_rfl) (by kernel_rfl) ?_; simp only [go_sem, Nat.reduceEqDiff, reduceIte, Nat.reduceAdd, Nat.reduceMul, Nat.reduceSub, Nat.reduceLT, Nat.reduceLeDiff, Nat.reduceBEq, g1]) | refine dk (by kernel_rfl) ?_)
    exact Aw_ret (retL (M := [0]) (.inl rfl) (by simp only [go_sem, Nat.reduceEqDiff, reduceIte, Nat.reduceAdd, Nat.reduceMul, Nat.reduceSub, Nat.reduceLT, Nat.reduceLeDiff, Nat.reduceBEq]; first | done | rfl) rfl rfl (by rfl) (by simp only [go_sem, Nat.reduceEqDiff, reduceIte, Nat.reduceAdd, Nat.reduceMul, Nat.reduceSub, Nat.reduceLT, Nat.reduceLeDiff, Nat.reduceBEq, keysL]; first | done | rfl | (and_intros <;> rfl)) (by decide) (by intro m hm; first | omega | (rcases m with _ | _ | _ | _ | _ | _ | m <;> first | exact ⟨by decide, rfl⟩ | omega)))
  · have g1 : decide ((0 : Int) < ((n + 1 : Nat) : Int)) = true := decide_eq_true (by omega)
    have w1 : IntKind.i64.wrap (((n + 1 : Nat) : Int) - 1) = (n : Int) := wn (by omega) (by omega)
    have kn := l71Near_ac (l := l) hb (show q ≤ 800000 by omega) (by omega) (fun s h => by have := hs s h; omega)
    have kp := l2Put_ac l (nearV b q l).1 (by omega)
    obtain ⟨a1, a2⟩ := nearV_fin hb (p := q) (K := 5) (l := l) (by omega) (by omega) (by omega) hs
    obtain ⟨b1, b2⟩ := putK_mem (ks := l) (k := (nearV b q l).1)
    repeat (first | apply Aw_seq | apply Aw_block | apply Aw_skip | apply Aw_exit | refine Aw_condt rfl ?_ | refine Aw_condf rfl ?_ | (refine qr ?_; simp only [go_sem, Nat.reduceEqDiff, reduceIte, Nat.reduceAdd, Nat.reduceMul, Nat.reduceSub, Nat.reduceLT, Nat.reduceLeDiff, Nat.reduceBEq, g1, w1]) | (refine qd (by kernel_rfl) (by kernel_rfl) ?_; simp only [go_sem, Nat.reduceEqDiff, reduceIte, Nat.reduceAdd, Nat.reduceMul, Nat.reduceSub, Nat.reduceLT, Nat.reduceLeDiff, Nat.reduceBEq, g1, w1]) | refine dk (by kernel_rfl) ?_ | (refine qp (kp) (by simp only [go_sem, Nat.reduceEqDiff, reduceIte, Nat.reduceAdd, Nat.reduceMul, Nat.reduceSub, Nat.reduceLT, Nat.reduceLeDiff, Nat.reduceBEq, g1, w1]; first | done | rfl) rfl (by simp only [go_sem, Nat.reduceLT]) rfl rfl ?_; simp only [go_sem, Nat.reduceEqDiff, reduceIte, Nat.reduceAdd, Nat.reduceMul, Nat.reduceSub, Nat.reduceLT, Nat.reduceLeDiff, Nat.reduceBEq, g1, w1]) | (refine qx (call_L (N' := [0]) (L := []) (kn) rfl (.cons (.nm rfl) (.cons (.nm rfl) (.nil))) (by decide) (by decide) (by decide) (by simp only [go_sem, Nat.reduceEqDiff, reduceIte, Nat.reduceAdd, Nat.reduceMul, Nat.reduceSub, Nat.reduceLT, Nat.reduceLeDiff, Nat.reduceBEq, g1, w1]; first | done | rfl) (.inl rfl) rfl (by decide)) (by simp only [go_sem, Nat.reduceEqDiff, reduceIte, Nat.reduceAdd, Nat.reduceMul, Nat.reduceSub, Nat.reduceLT, Nat.reduceLeDiff, Nat.reduceBEq, g1, w1]; first | done | rfl) rfl (by simp only [go_sem, Nat.reduceLT]) ?_; simp only [go_sem, Nat.reduceEqDiff, reduceIte, Nat.reduceAdd, Nat.reduceMul, Nat.reduceSub, Nat.reduceLT, Nat.reduceLeDiff, Nat.reduceBEq, g1, w1]))
    refine ⟨⟨n, putK l (nearV b q l).1, (nearV b q l).2, by omega, fun s hs2 => (b1 s hs2).elim (hs s) (fun e => by rw [e]; exact a1), by omega, h⟩, [0], ?_, rwL (by repeat (first | exact trivial | refine ⟨rfl, rfl, ?_⟩)) (by rfl) (by simp only [go_sem, Nat.reduceEqDiff, reduceIte, Nat.reduceAdd, Nat.reduceMul, Nat.reduceSub, Nat.reduceLT, Nat.reduceLeDiff, Nat.reduceBEq]; first | done | rfl) (by decide) (by intro m hm; first | omega | (rcases m with _ | _ | _ | _ | _ | _ | m <;> first | exact ⟨by decide, rfl⟩ | omega))⟩
    show n < n + 1; omega
end Go.Proofs.Ytcbhgglpgphimaa.Ab
namespace Go.Proofs.Ytcbhgglpgphimaa.Ab
set_option linter.deprecated false
set_option linter.unusedVariables false
set_option linter.unusedSimpArgs false
open Go Go.Proofs
set_option maxRecDepth 10000
set_option maxHeartbeats 8000000
set_option linter.unusedSimpArgs false
set_option linter.unusedVariables false
def entV (e : Ent) : List Value := [.string e.key, .int .i64 e.val, .bool e.gone, .int .i64 e.time]
@[simp] theorem flat_eRow (r : List Ent) : (eRow r).flat = true := by
  unfold eRow
  rw [show r.map entD = (r.map entV).map (·.map D.s) by rw [List.map_map]; rfl]
  exact dRow_flat _ _ _
theorem lnBB {hp : Hp} {n : Nat} {a : TV} {L : List Nat} (h : (a.cells.all fun z => (lendN hp n z).all L.contains) = true) : ∀ z ∈ a.cells, ∀ m ∈ lendN hp n z, m ∈ L := fun z hz m hm => by
  have := List.all_eq_true.1 (List.all_eq_true.1 h z hz) m hm
  simpa using this
@[simp] theorem flat_kRow (r : List ByteArray) : (kRow r).flat = true := by
  unfold kRow
  rw [show r.map strD = (r.map fun s => [Value.string s]).map (·.map D.s) by rw [List.map_map]; rfl]
  exact dRow_flat _ _ _
theorem AC.toL0 {P : Program} {f : FuncId} {args : List TV} {x : AV} (h : AC P f args noHp 0 ⟨x, noHp, 0⟩) : AC P f args noHp 0 ⟨x, hpL [], 0⟩ := by rw [hpL_nil]; exact h
def joinM (a b : List Ent) : List Ent := List.merge a b before
theorem joinM_nil (a : List Ent) : joinM a [] = a := by unfold joinM; exact List.merge_right a
theorem joinM_cc (x y : Ent) (a b : List Ent) : joinM (x :: a) (y :: b) = if before x y = true then x :: joinM a (y :: b) else y :: joinM (x :: a) b := by
  unfold joinM; rw [List.cons_merge_cons]
theorem joinM_nc (y : Ent) (b : List Ent) : joinM [] (y :: b) = y :: joinM [] b := by
  unfold joinM; simp
theorem joinM_len (a b : List Ent) : (joinM a b).length = a.length + b.length := by unfold joinM; rw [List.length_merge]
theorem mem_joinM {a b : List Ent} {e : Ent} (h : e ∈ joinM a b) : e ∈ a ∨ e ∈ b := by unfold joinM at h; exact List.mem_merge.1 h
structure JnI (a b : List Ent) where
  P : List Ent
  i : Nat
  k : Nat
  hi : i ≤ a.length
  hk : k ≤ b.length
  hl : P.length = i + k
  h : P ++ joinM (a.drop i) (b.drop k) = joinM a b
theorem l11Join_ac (a b : List Ent) (ha : a.length ≤ 100000) (hb : b.length ≤ 100000) : AC Try.prog 52 [runT a, runT b] noHp 0 ⟨.t (.c (.h 0)), hpL [some (eRow (joinM a b))], 1⟩ := by
  refine AC_of Try.func52 rfl Try.ntmps52 Try.results52 (by kernel_rfl) rfl ?_
  simp only [List.zipIdx, List.map, Nat.zero_add, Nat.reduceAdd]
  repeat (first | apply Aw_seq | apply Aw_block | apply Aw_skip | apply Aw_exit | refine Aw_condt rfl ?_ | refine Aw_condf rfl ?_ | (refine qr ?_; simp only [go_sem, Nat.reduceEqDiff, reduceIte, Nat.reduceAdd, Nat.reduceMul, Nat.reduceSub, Nat.reduceLT, Nat.reduceLeDiff, Nat.reduceBEq]) | (refine qd (by kernel_rfl) (by kernel_rfl) ?_; simp only [go_sem, Nat.reduceEqDiff, reduceIte, Nat.reduceAdd, Nat.reduceMul, Nat.reduceSub, Nat.reduceLT, Nat.reduceLeDiff, Nat.reduceBEq]) | refine dk (by kernel_rfl) ?_)
  refine Aw.rw (rwL (l' := [(7, .t (iT (0 : Nat))), (6, .t (iT (0 : Nat))), (5, .t (.c (.h 0))), (1, .t (runT b)), (0, .t (runT a))]) (os := [some (eRow [])]) (M := [1]) (n' := 1) (by repeat (first | exact trivial | refine ⟨rfl, rfl, ?_⟩)) (by rfl) (by simp only [go_sem, Nat.reduceEqDiff, reduceIte, Nat.reduceAdd, Nat.reduceMul, Nat.reduceSub, Nat.reduceLT, Nat.reduceLeDiff, Nat.reduceBEq]; first | done | rfl) (by decide) (by intro m hm; first | omega | (rcases m with _ | _ | _ | _ | _ | _ | m <;> first | exact ⟨by decide, rfl⟩ | omega))) ?_
  refine Aw_loop_rw (ι := JnI a b) (fun q => S [(7, .t (iT (q.k : Nat))), (6, .t (iT (q.i : Nat))), (5, .t (.c (.h 0))), (1, .t (runT b)), (0, .t (runT a))] (hpL [some (eRow q.P)]) 1) (fun q => b.length - q.k) ⟨[], 0, 0, Nat.zero_le _, Nat.zero_le _, rfl, rfl⟩ ?_
  rintro ⟨P, i, k, hi, hk, hl, h⟩
  dsimp only
  by_cases hlt : k < b.length
  · have h1 : (k : Int) < (b.length : Int) := by omega
    have w1 := wrap_succ hlt (by omega)
    obtain ⟨y, hy⟩ : ∃ e, b[k]? = some e := ⟨_, List.getElem?_eq_getElem hlt⟩
    have hbd : b.drop k = y :: b.drop (k + 1) := by rw [List.drop_eq_getElem_cons hlt]; congr 1; rw [List.getElem?_eq_getElem hlt] at hy; exact Option.some.inj hy
    repeat (first | apply Aw_seq | apply Aw_block | apply Aw_skip | apply Aw_exit | refine Aw_condt rfl ?_ | refine Aw_condf rfl ?_ | (refine qr ?_; simp only [go_sem, Nat.reduceEqDiff, reduceIte, Nat.reduceAdd, Nat.reduceMul, Nat.reduceSub, Nat.reduceLT, Nat.reduceLeDiff, Nat.reduceBEq, h1]) | (refine qd (by kernel_rfl) (by kernel_rfl) ?_; simp only [go_sem, Nat.reduceEqDiff, reduceIte, Nat.reduceAdd, Nat.reduceMul, Nat.reduceSub, Nat.reduceLT, Nat.reduceLeDiff, Nat.reduceBEq, h1]) | refine dk (by kernel_rfl) ?_)
    refine Aw.rw (rwL (l' := [(7, .t (iT (k : Nat))), (6, .t (iT (i : Nat))), (5, .t (.c (.h 0))), (1, .t (runT b)), (0, .t (runT a))]) (os := [some (eRow P)]) (M := [0]) (n' := 1) (by repeat (first | exact trivial | refine ⟨rfl, rfl, ?_⟩)) (by rfl) (by simp only [go_sem, Nat.reduceEqDiff, reduceIte, Nat.reduceAdd, Nat.reduceMul, Nat.reduceSub, Nat.reduceLT, Nat.reduceLeDiff, Nat.reduceBEq]; first | done | rfl) (by decide) (by intro m hm; first | omega | (rcases m with _ | _ | _ | _ | _ | _ | m <;> first | exact ⟨by decide, rfl⟩ | omega))) ?_
    refine Aw_loop_rw (ι := { q : JnI a b // q.k = k }) (fun q => S [(7, .t (iT (k : Nat))), (6, .t (iT (q.1.i : Nat))), (5, .t (.c (.h 0))), (1, .t (runT b)), (0, .t (runT a))] (hpL [some (eRow q.1.P)]) 1) (fun q => a.length - q.1.i) ⟨⟨P, i, k, hi, hk, hl, h⟩, rfl⟩ ?_
    clear h hl hi P i
    rintro ⟨⟨P, i, k', hi, hk', hl, h⟩, hkk⟩
    dsimp only at hkk ⊢
    subst hkk
    have hap : (P.length + 1) * 40 ≤ 140737488355328 := by omega
    by_cases hia : i < a.length
    · have h2 : (i : Int) < (a.length : Int) := by omega
      have w2 := wrap_succ hia (by omega)
      obtain ⟨x, hx⟩ : ∃ e, a[i]? = some e := ⟨_, List.getElem?_eq_getElem hia⟩
      have had : a.drop i = x :: a.drop (i + 1) := by rw [List.drop_eq_getElem_cons hia]; congr 1; rw [List.getElem?_eq_getElem hia] at hx; exact Option.some.inj hx
      cases c : before x y
      · have hj : (P ++ [y]) ++ joinM (a.drop i) (b.drop (k' + 1)) = joinM a b := by
          rw [← h, hbd, had, joinM_cc, if_neg (by rw [c]; simp)]; simp
        repeat (first | apply Aw_seq | apply Aw_block | apply Aw_skip | apply Aw_exit | refine Aw_condt rfl ?_ | refine Aw_condf rfl ?_ | (refine qr ?_; simp only [go_sem, Nat.reduceEqDiff, reduceIte, Nat.reduceAdd, Nat.reduceMul, Nat.reduceSub, Nat.reduceLT, Nat.reduceLeDiff, Nat.reduceBEq, h2, hx, hy, c, w1, hap]) | (refine qd (by kernel_rfl) (by kernel_rfl) ?_; simp only [go_sem, Nat.reduceEqDiff, reduceIte, Nat.reduceAdd, Nat.reduceMul, Nat.reduceSub, Nat.reduceLT, Nat.reduceLeDiff, Nat.reduceBEq, h2, hx, hy, c, w1, hap]) | refine dk (by kernel_rfl) ?_ | (refine qp (sbefore_ac _ _) (by simp only [go_sem, Nat.reduceEqDiff, reduceIte, Nat.reduceAdd, Nat.reduceMul, Nat.reduceSub, Nat.reduceLT, Nat.reduceLeDiff, Nat.reduceBEq, h2, hx, hy, c, w1, hap]; first | done | rfl) rfl (by simp only [go_sem, Nat.reduceLT]) rfl rfl ?_; simp only [go_sem, Nat.reduceEqDiff, reduceIte, Nat.reduceAdd, Nat.reduceMul, Nat.reduceSub, Nat.reduceLT, Nat.reduceLeDiff, Nat.reduceBEq, h2, hx, hy, c, w1, hap]))
        refine ⟨⟨P ++ [y], i, k' + 1, hi, hlt, by simp; omega, hj⟩, [21], ?_, rwL (by repeat (first | exact trivial | refine ⟨rfl, rfl, ?_⟩)) (by rfl) (by simp only [go_sem, Nat.reduceEqDiff, reduceIte, Nat.reduceAdd, Nat.reduceMul, Nat.reduceSub, Nat.reduceLT, Nat.reduceLeDiff, Nat.reduceBEq, List.map_append, List.map_cons, List.map_nil]; first | done | rfl) (by decide) (by intro m hm; first | omega | (rcases m with _ | _ | _ | _ | _ | _ | m <;> first | exact ⟨by decide, rfl⟩ | omega))⟩
        show b.length - (k' + 1) < b.length - k'; omega
      · have hj : (P ++ [x]) ++ joinM (a.drop (i + 1)) (b.drop k') = joinM a b := by
          rw [← h, hbd, had, joinM_cc, if_pos c]; simp
        repeat (first | apply Aw_seq | apply Aw_block | apply Aw_skip | apply Aw_exit | refine Aw_condt rfl ?_ | refine Aw_condf rfl ?_ | (refine qr ?_; simp only [go_sem, Nat.reduceEqDiff, reduceIte, Nat.reduceAdd, Nat.reduceMul, Nat.reduceSub, Nat.reduceLT, Nat.reduceLeDiff, Nat.reduceBEq, h2, hx, hy, c, w2, hap]) | (refine qd (by kernel_rfl) (by kernel_rfl) ?_; simp only [go_sem, Nat.reduceEqDiff, reduceIte, Nat.reduceAdd, Nat.reduceMul, Nat.reduceSub, Nat.reduceLT, Nat.reduceLeDiff, Nat.reduceBEq, h2, hx, hy, c, w2, hap]) | refine dk (by kernel_rfl) ?_ | (refine qp (sbefore_ac _ _) (by simp only [go_sem, Nat.reduceEqDiff, reduceIte, Nat.reduceAdd, Nat.reduceMul, Nat.reduceSub, Nat.reduceLT, Nat.reduceLeDiff, Nat.reduceBEq, h2, hx, hy, c, w2, hap]; first | done | rfl) rfl (by simp only [go_sem, Nat.reduceLT]) rfl rfl ?_; simp only [go_sem, Nat.reduceEqDiff, reduceIte, Nat.reduceAdd, Nat.reduceMul, Nat.reduceSub, Nat.reduceLT, Nat.reduceLeDiff, Nat.reduceBEq, h2, hx, hy, c, w2, hap]))
        refine ⟨⟨⟨P ++ [x], i + 1, k', hia, hk, by simp; omega, hj⟩, rfl⟩, [21], ?_, rwL (by repeat (first | exact trivial | refine ⟨rfl, rfl, ?_⟩)) (by rfl) (by simp only [go_sem, Nat.reduceEqDiff, reduceIte, Nat.reduceAdd, Nat.reduceMul, Nat.reduceSub, Nat.reduceLT, Nat.reduceLeDiff, Nat.reduceBEq, List.map_append, List.map_cons, List.map_nil]; first | done | rfl) (by decide) (by intro m hm; first | omega | (rcases m with _ | _ | _ | _ | _ | _ | m <;> first | exact ⟨by decide, rfl⟩ | omega))⟩
        show a.length - (i + 1) < a.length - i; omega
    · have h2 : ¬ (i : Int) < (a.length : Int) := by omega
      have hj : (P ++ [y]) ++ joinM (a.drop i) (b.drop (k' + 1)) = joinM a b := by
        rw [← h, hbd, List.drop_eq_nil_of_le (by omega : a.length ≤ i), joinM_nc]; simp
      repeat (first | apply Aw_seq | apply Aw_block | apply Aw_skip | apply Aw_exit | refine Aw_condt rfl ?_ | refine Aw_condf rfl ?_ | (refine qr ?_; simp only [go_sem, Nat.reduceEqDiff, reduceIte, Nat.reduceAdd, Nat.reduceMul, Nat.reduceSub, Nat.reduceLT, Nat.reduceLeDiff, Nat.reduceBEq, h2, hy, w1, hap]) | (refine qd (by kernel_rfl) (by kernel_rfl) ?_; simp only [go_sem, Nat.reduceEqDiff, reduceIte, Nat.reduceAdd, Nat.reduceMul, Nat.reduceSub, Nat.reduceLT, Nat.reduceLeDiff, Nat.reduceBEq, h2, hy, w1, hap]) | refine dk (by kernel_rfl) ?_)
      refine ⟨⟨P ++ [y], i, k' + 1, hi, hlt, by simp; omega, hj⟩, [13], ?_, rwL (by repeat (first | exact trivial | refine ⟨rfl, rfl, ?_⟩)) (by rfl) (by simp only [go_sem, Nat.reduceEqDiff, reduceIte, Nat.reduceAdd, Nat.reduceMul, Nat.reduceSub, Nat.reduceLT, Nat.reduceLeDiff, Nat.reduceBEq, List.map_append, List.map_cons, List.map_nil]; first | done | rfl) (by decide) (by intro m hm; first | omega | (rcases m with _ | _ | _ | _ | _ | _ | m <;> first | exact ⟨by decide, rfl⟩ | omega))⟩
      show b.length - (k' + 1) < b.length - k'; omega
  · have h1 : ¬ (k : Int) < (b.length : Int) := by omega
    have hj : P ++ a.drop i = joinM a b := by rw [← h, List.drop_eq_nil_of_le (by omega : b.length ≤ k), joinM_nil]
    have hap : (P.length + (a.length - i)) * 40 ≤ 140737488355328 := by omega
    rw [← hj]
    have i0 : (0 : Int) ≤ (i : Int) := by omega
    have i1 : (i : Int) ≤ (a.length : Int) := by omega
    have tn : Int.toNat ((i : Nat) : Int) = i := rfl
    have tn2 : Int.toNat ((a.length : Nat) : Int) = a.length := rfl
    have tk : List.take a.length (List.map entD a) = List.map entD a := by rw [List.take_of_length_le (by simp)]
    have td : List.drop i (List.map entD a) = List.map entD (a.drop i) := by rw [List.map_drop]
    repeat (first | apply Aw_seq | apply Aw_block | apply Aw_skip | apply Aw_exit | refine Aw_condt rfl ?_ | refine Aw_condf rfl ?_ | (refine qr ?_; simp only [go_sem, Nat.reduceEqDiff, reduceIte, Nat.reduceAdd, Nat.reduceMul, Nat.reduceSub, Nat.reduceLT, Nat.reduceLeDiff, Nat.reduceBEq, h1, hap, i0, i1, tn, tn2, tk, td, List.length_drop]) | (refine qd (by kernel_rfl) (by kernel_rfl) ?_; simp only [go_sem, Nat.reduceEqDiff, reduceIte, Nat.reduceAdd, Nat.reduceMul, Nat.reduceSub, Nat.reduceLT, Nat.reduceLeDiff, Nat.reduceBEq, h1, hap, i0, i1, tn, tn2, tk, td, List.length_drop]) | refine dk (by kernel_rfl) ?_)
    exact Aw_ret (retL (M := [9]) (.inl rfl) (by simp only [go_sem, Nat.reduceEqDiff, reduceIte, Nat.reduceAdd, Nat.reduceMul, Nat.reduceSub, Nat.reduceLT, Nat.reduceLeDiff, Nat.reduceBEq]; first | done | rfl) rfl rfl (by rfl) (by simp only [go_sem, Nat.reduceEqDiff, reduceIte, Nat.reduceAdd, Nat.reduceMul, Nat.reduceSub, Nat.reduceLT, Nat.reduceLeDiff, Nat.reduceBEq, List.map_append, List.map_cons, List.map_nil]; first | done | rfl | (and_intros <;> rfl)) (by decide) (by intro m hm; first | omega | (rcases m with _ | _ | _ | _ | _ | _ | m <;> first | exact ⟨by decide, rfl⟩ | omega)))
theorem l11JoinS_ac (a b : List Ent) (ha : a.length ≤ 100000) (hb : b.length ≤ 100000) : AC Try.prog 52 [runT a, runT b] noHp 0 ⟨.t (runT (joinM a b)), noHp, 0⟩ := AC.settle0 [0] (l11Join_ac a b ha hb) (SetC.row0 rfl rfl) rfl
/-- Whether an entry is seen, though one of its key stands ahead of it. -/
def gapM (ts : List Int) (e p : Ent) : Bool := ts.any fun t => decide (e.time ≤ t) && decide (t < p.time)
def seenAt (r : List Ent) (ts : List Int) (i : Nat) : Bool := match r[i]? with
  | some e => (match i with
    | 0 => true
    | j + 1 => match r[j]? with
      | some p => !decide (p.key = e.key) || gapM ts e p
      | none => true)
  | none => true
theorem any_hit {α : Type} {p : α → Bool} {xs : List α} {i : Nat} {x : α} (h : xs[i]? = some x) (hp : p x = true) : xs.any p = true := List.any_eq_true.2 ⟨x, List.mem_of_getElem? h, hp⟩
theorem any_none {α : Type} {p : α → Bool} {xs : List α} (h : ∀ j, j < xs.length → ∀ y, xs[j]? = some y → p y = false) : xs.any p = false := by
  rw [List.any_eq_false]
  intro x hx
  obtain ⟨i, hi⟩ := List.mem_iff_getElem?.1 hx
  rw [h i (List.getElem?_eq_some_iff.1 hi).1 x hi]; simp
theorem l11Seen_ac (r : List Ent) (i : Nat) (ts : List Int) (e : Ent) (he : r[i]? = some e) (hr : r.length ≤ 1099511627776) (ht : ts.length ≤ 1099511627776) : AC Try.prog 212 [runT r, iT i, intsT ts] noHp 0 ⟨.t (bT (seenAt r ts i)), noHp, 0⟩ := by
  refine AC_of Try.func212 rfl Try.ntmps212 Try.results212 (by kernel_rfl) rfl ?_
  simp only [List.zipIdx, List.map, Nat.zero_add, Nat.reduceAdd]
  have hil := (List.getElem?_eq_some_iff.1 he).1
  rcases i with _ | j
  · have h5 : decide (((0 : Nat) : Int) = 0) = true := rfl
    have hs : seenAt r ts 0 = true := by unfold seenAt; rw [he]
    rw [hs]
    repeat (first | apply Aw_seq | apply Aw_block | apply Aw_skip | apply Aw_exit | refine Aw_condt rfl ?_ | refine Aw_condf rfl ?_ | (refine qr ?_; simp only [go_sem, Nat.reduceEqDiff, reduceIte, Nat.reduceAdd, Nat.reduceMul, Nat.reduceSub, Nat.reduceLT, Nat.reduceLeDiff, Nat.reduceBEq, h5]) | (refine qd (by kernel_rfl) (by kernel_rfl) ?_; simp only [go_sem, Nat.reduceEqDiff, reduceIte, Nat.reduceAdd, Nat.reduceMul, Nat.reduceSub, Nat.reduceLT, Nat.reduceLeDiff, Nat.reduceBEq, h5]) | refine dk (by kernel_rfl) ?_)
    exact Aw_ret (ret0 (.inl rfl) (by simp only [go_sem, Nat.reduceEqDiff, reduceIte, Nat.reduceAdd, Nat.reduceMul, Nat.reduceSub, Nat.reduceLT, Nat.reduceLeDiff, Nat.reduceBEq]; rfl) (by rfl) rfl)
  · have h5 : decide (((j + 1 : Nat) : Int) = 0) = false := decide_eq_false (by omega)
    have h6 := wrap_pred (i := j) (by omega) hr
    obtain ⟨p, hy⟩ : ∃ e, r[j]? = some e := ⟨_, List.getElem?_eq_getElem (by omega)⟩
    cases c : decide (p.key = e.key)
    · have hs : seenAt r ts (j + 1) = true := by unfold seenAt; rw [he]; simp only [hy, c]; rfl
      rw [hs]
      repeat (first | apply Aw_seq | apply Aw_block | apply Aw_skip | apply Aw_exit | refine Aw_condt rfl ?_ | refine Aw_condf rfl ?_ | (refine qr ?_; simp only [go_sem, Nat.reduceEqDiff, reduceIte, Nat.reduceAdd, Nat.reduceMul, Nat.reduceSub, Nat.reduceLT, Nat.reduceLeDiff, Nat.reduceBEq, h5, h6, he, hy, c]) | (refine qd (by kernel_rfl) (by kernel_rfl) ?_; simp only [go_sem, Nat.reduceEqDiff, reduceIte, Nat.reduceAdd, Nat.reduceMul, Nat.reduceSub, Nat.reduceLT, Nat.reduceLeDiff, Nat.reduceBEq, h5, h6, he, hy, c]) | refine dk (by kernel_rfl) ?_)
      exact Aw_ret (ret0 (.inl rfl) (by simp only [go_sem, Nat.reduceEqDiff, reduceIte, Nat.reduceAdd, Nat.reduceMul, Nat.reduceSub, Nat.reduceLT, Nat.reduceLeDiff, Nat.reduceBEq]; rfl) (by rfl) rfl)
    · have hs : seenAt r ts (j + 1) = gapM ts e p := by unfold seenAt; rw [he]; simp only [hy, c]; rfl
      rw [hs]
      repeat (first | apply Aw_seq | apply Aw_block | apply Aw_skip | apply Aw_exit | refine Aw_condt rfl ?_ | refine Aw_condf rfl ?_ | (refine qr ?_; simp only [go_sem, Nat.reduceEqDiff, reduceIte, Nat.reduceAdd, Nat.reduceMul, Nat.reduceSub, Nat.reduceLT, Nat.reduceLeDiff, Nat.reduceBEq, h5, h6, he, hy, c]) | (refine qd (by kernel_rfl) (by kernel_rfl) ?_; simp only [go_sem, Nat.reduceEqDiff, reduceIte, Nat.reduceAdd, Nat.reduceMul, Nat.reduceSub, Nat.reduceLT, Nat.reduceLeDiff, Nat.reduceBEq, h5, h6, he, hy, c]) | refine dk (by kernel_rfl) ?_)
      refine Aw.rw (rw0 (l' := [(7, .t (iT (0 : Nat))), (2, .t (intsT ts)), (1, .t (iT ((j + 1 : Nat) : Int))), (0, .t (runT r))]) (n' := 0) (by repeat (first | exact trivial | refine ⟨rfl, rfl, ?_⟩))) ?_
      refine Aw_loop0 (ι := { i : Nat // i ≤ ts.length ∧ (∀ q, q < i → ∀ t, ts[q]? = some t → (decide (e.time ≤ t) && decide (t < p.time)) = false) }) (fun q => [(7, .t (iT (q.1 : Nat))), (2, .t (intsT ts)), (1, .t (iT ((j + 1 : Nat) : Int))), (0, .t (runT r))]) (fun q => ts.length - q.1) ⟨0, Nat.zero_le _, fun q hq => absurd hq (by omega)⟩ ?_
      rintro ⟨i, hi, hp⟩
      dsimp only
      by_cases hlt : i < ts.length
      · have h1 : (i : Int) < (ts.length : Int) := by omega
        have h2 := wrap_succ hlt ht
        obtain ⟨t, hx⟩ : ∃ t, ts[i]? = some t := ⟨_, List.getElem?_eq_getElem hlt⟩
        cases c1 : decide (e.time ≤ t)
        · repeat (first | apply Aw_seq | apply Aw_block | apply Aw_skip | apply Aw_exit | refine Aw_condt rfl ?_ | refine Aw_condf rfl ?_ | (refine qr ?_; simp only [go_sem, Nat.reduceEqDiff, reduceIte, Nat.reduceAdd, Nat.reduceMul, Nat.reduceSub, Nat.reduceLT, Nat.reduceLeDiff, Nat.reduceBEq, h1, h2, hx, he, c1]) | (refine qd (by kernel_rfl) (by kernel_rfl) ?_; simp only [go_sem, Nat.reduceEqDiff, reduceIte, Nat.reduceAdd, Nat.reduceMul, Nat.reduceSub, Nat.reduceLT, Nat.reduceLeDiff, Nat.reduceBEq, h1, h2, hx, he, c1]) | refine dk (by kernel_rfl) ?_)
          exact ⟨⟨i + 1, by omega, no_succ hp hx (by rw [c1]; rfl)⟩, (by simp only []; omega), rw0 (by repeat (first | exact trivial | refine ⟨rfl, rfl, ?_⟩))⟩
        · cases c2 : decide (t < p.time)
          · repeat (first | apply Aw_seq | apply Aw_block | apply Aw_skip | apply Aw_exit | refine Aw_condt rfl ?_ | refine Aw_condf rfl ?_ | (refine qr ?_; simp only [go_sem, Nat.reduceEqDiff, reduceIte, Nat.reduceAdd, Nat.reduceMul, Nat.reduceSub, Nat.reduceLT, Nat.reduceLeDiff, Nat.reduceBEq, h1, h2, hx, he, hy, h6, c1, c2]) | (refine qd (by kernel_rfl) (by kernel_rfl) ?_; simp only [go_sem, Nat.reduceEqDiff, reduceIte, Nat.reduceAdd, Nat.reduceMul, Nat.reduceSub, Nat.reduceLT, Nat.reduceLeDiff, Nat.reduceBEq, h1, h2, hx, he, hy, h6, c1, c2]) | refine dk (by kernel_rfl) ?_)
            exact ⟨⟨i + 1, by omega, no_succ hp hx (by rw [c2]; simp)⟩, (by simp only []; omega), rw0 (by repeat (first | exact trivial | refine ⟨rfl, rfl, ?_⟩))⟩
          · have hg : gapM ts e p = true := any_hit hx (by rw [c1, c2]; rfl)
            rw [hg]
            repeat (first | apply Aw_seq | apply Aw_block | apply Aw_skip | apply Aw_exit | refine Aw_condt rfl ?_ | refine Aw_condf rfl ?_ | (refine qr ?_; simp only [go_sem, Nat.reduceEqDiff, reduceIte, Nat.reduceAdd, Nat.reduceMul, Nat.reduceSub, Nat.reduceLT, Nat.reduceLeDiff, Nat.reduceBEq, h1, h2, hx, he, hy, h6, c1, c2]) | (refine qd (by kernel_rfl) (by kernel_rfl) ?_; simp only [go_sem, Nat.reduceEqDiff, reduceIte, Nat.reduceAdd, Nat.reduceMul, Nat.reduceSub, Nat.reduceLT, Nat.reduceLeDiff, Nat.reduceBEq, h1, h2, hx, he, hy, h6, c1, c2]) | refine dk (by kernel_rfl) ?_)
            exact Aw_ret (ret0 (.inl rfl) (by simp only [go_sem, Nat.reduceEqDiff, reduceIte, Nat.reduceAdd, Nat.reduceMul, Nat.reduceSub, Nat.reduceLT, Nat.reduceLeDiff, Nat.reduceBEq]; rfl) (by rfl) rfl)
      · have h1 : ¬ (i : Int) < (ts.length : Int) := by omega
        obtain rfl : i = ts.length := by omega
        have hg : gapM ts e p = false := any_none hp
        rw [hg]
        repeat (first | apply Aw_seq | apply Aw_block | apply Aw_skip | apply Aw_exit | refine Aw_condt rfl ?_ | refine Aw_condf rfl ?_ | (refine qr ?_; simp only [go_sem, Nat.reduceEqDiff, reduceIte, Nat.reduceAdd, Nat.reduceMul, Nat.reduceSub, Nat.reduceLT, Nat.reduceLeDiff, Nat.reduceBEq, h1]) | (refine qd (by kernel_rfl) (by kernel_rfl) ?_; simp only [go_sem, Nat.reduceEqDiff, reduceIte, Nat.reduceAdd, Nat.reduceMul, Nat.reduceSub, Nat.reduceLT, Nat.reduceLeDiff, Nat.reduceBEq, h1]) | refine dk (by kernel_rfl) ?_)
        exact Aw_ret (ret0 (.inl rfl) (by simp only [go_sem, Nat.reduceEqDiff, reduceIte, Nat.reduceAdd, Nat.reduceMul, Nat.reduceSub, Nat.reduceLT, Nat.reduceLeDiff, Nat.reduceBEq]; rfl) (by rfl) rfl)
def trimAt (r : List Ent) (ts : List Int) (i : Nat) : List Ent := match r[i]? with
  | some e => if seenAt r ts i = true then [e] else []
  | none => []
def trim1 (r : List Ent) (ts : List Int) : List Ent := colI r.length (trimAt r ts)
def lastAt (r : List Ent) (e : Ent) (i : Nat) : Bool := match r[i + 1]? with
  | some q => !decide (q.key = e.key)
  | none => true
def lowAt (r : List Ent) (i : Nat) : List Ent := match r[i]? with
  | some e => if (!e.gone || !lastAt r e i) = true then [e] else []
  | none => []
def trim2 (r : List Ent) : List Ent := colI r.length (lowAt r)
def trimM (r : List Ent) (ts : List Int) (bottom : Bool) : List Ent := if bottom = true then trim2 (trim1 r ts) else trim1 r ts
theorem trimAt_len (r : List Ent) (ts : List Int) (i : Nat) : (trimAt r ts i).length ≤ 1 := by unfold trimAt; split <;> (try split) <;> simp
theorem lowAt_len (r : List Ent) (i : Nat) : (lowAt r i).length ≤ 1 := by unfold lowAt; split <;> (try split) <;> simp
theorem trim1_len (r : List Ent) (ts : List Int) : (trim1 r ts).length ≤ r.length := colI_len (trimAt_len r ts)
theorem trim2_len (r : List Ent) : (trim2 r).length ≤ r.length := colI_len (lowAt_len r)
theorem trimM_len (r : List Ent) (ts : List Int) (b : Bool) : (trimM r ts b).length ≤ r.length := by
  unfold trimM; split
  · exact Nat.le_trans (trim2_len _) (trim1_len r ts)
  · exact trim1_len r ts
theorem mem_colI {β : Type} {n : Nat} {f : Nat → List β} {x : β} (h : x ∈ colI n f) : ∃ i, i < n ∧ x ∈ f i := by
  unfold colI at h
  obtain ⟨i, hi, hx⟩ := List.mem_flatMap.1 h
  exact ⟨i, List.mem_range.1 hi, hx⟩
theorem mem_trim1 {r : List Ent} {ts : List Int} {e : Ent} (h : e ∈ trim1 r ts) : e ∈ r := by
  obtain ⟨i, _, hx⟩ := mem_colI h
  unfold trimAt at hx
  split at hx
  · rename_i e' he
    split at hx
    · obtain rfl : e = e' := by simpa using hx
      exact List.mem_of_getElem? he
    · simp at hx
  · simp at hx
theorem mem_trim2 {r : List Ent} {e : Ent} (h : e ∈ trim2 r) : e ∈ r := by
  obtain ⟨i, _, hx⟩ := mem_colI h
  unfold lowAt at hx
  split at hx
  · rename_i e' he
    split at hx
    · obtain rfl : e = e' := by simpa using hx
      exact List.mem_of_getElem? he
    · simp at hx
  · simp at hx
theorem mem_trimM {r : List Ent} {ts : List Int} {b : Bool} {e : Ent} (h : e ∈ trimM r ts b) : e ∈ r := by
  unfold trimM at h; split at h
  · exact mem_trim1 (mem_trim2 h)
  · exact mem_trim1 h
end Go.Proofs.Ytcbhgglpgphimaa.Ab
namespace Go.Proofs.Ytcbhgglpgphimaa.Ab
set_option linter.deprecated false
set_option linter.unusedVariables false
set_option linter.unusedSimpArgs false
open Go Go.Proofs
set_option maxRecDepth 10000
set_option maxHeartbeats 8000000
set_option linter.unusedSimpArgs false
set_option linter.unusedVariables false
noncomputable def oneV (b : List Int) (p : Nat) (l : List ByteArray) : Ent × Nat :=
  if pickV b ((nearV b p l).2 + 2) 4 = 0 then (⟨(nearV b p l).1, 0, true, ((1 + pickV b ((nearV b p l).2 + 1) 60 : Nat) : Int)⟩, (nearV b p l).2 + 3)
  else (⟨(nearV b p l).1, (pickV b (nearV b p l).2 100 : Nat), false, ((1 + pickV b ((nearV b p l).2 + 1) 60 : Nat) : Int)⟩, (nearV b p l).2 + 3)
noncomputable def runL (b : List Int) (l : List ByteArray) : Nat → List Ent → Nat → List Ent × Nat
  | 0, o, p => (o, p)
  | n + 1, o, p => runL b l n (if runOk (joinM o [(oneV b p l).1]) = true then joinM o [(oneV b p l).1] else o) (oneV b p l).2
noncomputable def runV (b : List Int) (p most : Nat) : List Ent × Nat := runL b (keysV b p 5).1 (pickV b (keysV b p 5).2 ((most + 1 : Nat) : Int)) [] ((keysV b p 5).2 + 1)
theorem oneV_fin {b : List Int} (hb : byteL b) {p : Nat} {l : List ByteArray} (hp : p ≤ 500000) (hl : l.length ≤ 1000) (hs : ∀ s ∈ l, s.size ≤ 5) : (oneV b p l).1.key.size ≤ 5 ∧ (oneV b p l).2 ≤ p + 10 := by
  have h := nearV_fin hb (p := p) (K := 5) (l := l) (by omega) hl (by omega) hs
  unfold oneV
  split <;> dsimp only <;> (constructor <;> omega)
theorem runL_fin {b : List Int} (hb : byteL b) {l : List ByteArray} (hl : l.length ≤ 1000) (hs : ∀ s ∈ l, s.size ≤ 5) : ∀ (n : Nat) (o : List Ent) (p : Nat), p + 10 * n ≤ 400000 → (∀ e ∈ o, e.key.size ≤ 5) →
    (runL b l n o p).1.length ≤ o.length + n ∧ (∀ e ∈ (runL b l n o p).1, e.key.size ≤ 5) ∧ (runL b l n o p).2 ≤ p + 10 * n
  | 0, o, p, hp, ho => ⟨Nat.le_refl _, ho, by show p ≤ _; omega⟩
  | n + 1, o, p, hp, ho => by
    obtain ⟨h1, h2⟩ := oneV_fin hb (p := p) (l := l) (by omega) hl hs
    have hm : ∀ e ∈ (if runOk (joinM o [(oneV b p l).1]) = true then joinM o [(oneV b p l).1] else o), e.key.size ≤ 5 := by
      intro e he
      split at he
      · rcases mem_joinM he with h | h
        · exact ho e h
        · obtain rfl : e = (oneV b p l).1 := by simpa using h
          exact h1
      · exact ho e he
    have hn : (if runOk (joinM o [(oneV b p l).1]) = true then joinM o [(oneV b p l).1] else o).length ≤ o.length + 1 := by
      split
      · rw [joinM_len]; simp
      · omega
    obtain ⟨k1, k2, k3⟩ := runL_fin hb hl hs n _ (oneV b p l).2 (by omega) hm
    exact ⟨by unfold runL; omega, by unfold runL; exact k2, by unfold runL; omega⟩
structure RnI (b : List Int) (l : List ByteArray) (R : List Ent × Nat) where
  n : Nat
  o : List Ent
  p : Nat
  hn : o.length + n ≤ 1000
  hp : p + 10 * n ≤ 400000
  hk : ∀ e ∈ o, e.key.size ≤ 5
  h : runL b l n o p = R
theorem l71Run_ac {b : List Int} {p most : Nat} (hb : byteL b) (hp : p ≤ 100000) (hm : most ≤ 100) : AC Try.prog 128 [.c (.ph 0 0 0), iT most] (hpL [some (rdO b p)]) 1 ⟨.t (.c (.h 1)), hpL [some (rdO b (runV b p most).2), some (eRow (runV b p most).1)], 2⟩ := by
  refine AC_of Try.func128 rfl Try.ntmps128 Try.results128 (by kernel_rfl) rfl ?_
  simp only [List.zipIdx, List.map, Nat.zero_add, Nat.reduceAdd]
  have w0 : IntKind.i64.wrap ((most : Int) + 1) = ((most + 1 : Nat) : Int) := wn (by omega) (by omega)
  obtain ⟨a1, a2, a3⟩ := keysV_fin hb (p := p) (most := 5) (by omega) (by omega)
  have kk := l71Keys_ac (most := 5) hb (show p ≤ 600000 by omega) (by omega)
  rw [show ((5 : Nat) : Int) = 5 from rfl] at kk
  have k := pickV_ac (n := ((most + 1 : Nat) : Int)) hb (show (keysV b p 5).2 ≤ 1000000 by omega) (by omega)
  have h6 := pickV_lt (n := ((most + 1 : Nat) : Int)) hb (show (keysV b p 5).2 ≤ 1000000 by omega) (by omega) (by omega)
  obtain ⟨R, hR⟩ : ∃ R, R = runV b p most := ⟨_, rfl⟩
  rw [← hR]
  repeat (first | apply Aw_seq | apply Aw_block | apply Aw_skip | apply Aw_exit | refine Aw_condt rfl ?_ | refine Aw_condf rfl ?_ | (refine qr ?_; simp only [go_sem, Nat.reduceEqDiff, reduceIte, Nat.reduceAdd, Nat.reduceMul, Nat.reduceSub, Nat.reduceLT, Nat.reduceLeDiff, Nat.reduceBEq, w0]) | (refine qd (by kernel_rfl) (by kernel_rfl) ?_; simp only [go_sem, Nat.reduceEqDiff, reduceIte, Nat.reduceAdd, Nat.reduceMul, Nat.reduceSub, Nat.reduceLT, Nat.reduceLeDiff, Nat.reduceBEq, w0]) | refine dk (by kernel_rfl) ?_ | (refine qx (call_L (N' := [0]) (L := []) (kk) rfl (.cons (.nm rfl) (.cons (.nm rfl) (.nil))) (by decide) (by decide) (by decide) (by simp only [go_sem, Nat.reduceEqDiff, reduceIte, Nat.reduceAdd, Nat.reduceMul, Nat.reduceSub, Nat.reduceLT, Nat.reduceLeDiff, Nat.reduceBEq, w0]; first | done | rfl) (.inl rfl) rfl (by decide)) (by simp only [go_sem, Nat.reduceEqDiff, reduceIte, Nat.reduceAdd, Nat.reduceMul, Nat.reduceSub, Nat.reduceLT, Nat.reduceLeDiff, Nat.reduceBEq, w0]; first | done | rfl) rfl (by simp only [go_sem, Nat.reduceLT]) ?_; simp only [go_sem, Nat.reduceEqDiff, reduceIte, Nat.reduceAdd, Nat.reduceMul, Nat.reduceSub, Nat.reduceLT, Nat.reduceLeDiff, Nat.reduceBEq, w0]) | (refine qx (call_L (N' := [0]) (L := []) (k) rfl (.cons (.nm rfl) (.cons (.nm rfl) (.nil))) (by decide) (by decide) (by decide) (by simp only [go_sem, Nat.reduceEqDiff, reduceIte, Nat.reduceAdd, Nat.reduceMul, Nat.reduceSub, Nat.reduceLT, Nat.reduceLeDiff, Nat.reduceBEq, w0]; first | done | rfl) (.inl rfl) rfl (by decide)) (by simp only [go_sem, Nat.reduceEqDiff, reduceIte, Nat.reduceAdd, Nat.reduceMul, Nat.reduceSub, Nat.reduceLT, Nat.reduceLeDiff, Nat.reduceBEq, w0]; first | done | rfl) rfl (by simp only [go_sem, Nat.reduceLT]) ?_; simp only [go_sem, Nat.reduceEqDiff, reduceIte, Nat.reduceAdd, Nat.reduceMul, Nat.reduceSub, Nat.reduceLT, Nat.reduceLeDiff, Nat.reduceBEq, w0]))
  refine Aw.rw (rwL (l' := [(7, .t (iT (pickV b (keysV b p 5).2 ((most + 1 : Nat) : Int) : Nat))), (6, .t (.c (.h 1))), (5, .t (strsT (keysV b p 5).1)), (0, .t (.c (.ph 0 0 0)))]) (os := [some (rdO b ((keysV b p 5).2 + 1)), some (eRow [])]) (M := [0, 4]) (n' := 2) (by repeat (first | exact trivial | refine ⟨rfl, rfl, ?_⟩)) (by rfl) (by simp only [go_sem, Nat.reduceEqDiff, reduceIte, Nat.reduceAdd, Nat.reduceMul, Nat.reduceSub, Nat.reduceLT, Nat.reduceLeDiff, Nat.reduceBEq, List.map_nil]; first | done | rfl) (by decide) (by intro m hm; first | omega | (rcases m with _ | _ | _ | _ | _ | _ | m <;> first | exact ⟨by decide, rfl⟩ | omega))) ?_
  refine Aw_loop_rw (ι := RnI b (keysV b p 5).1 R) (fun q => S [(7, .t (iT (q.n : Nat))), (6, .t (.c (.h 1))), (5, .t (strsT (keysV b p 5).1)), (0, .t (.c (.ph 0 0 0)))] (hpL [some (rdO b q.p), some (eRow q.o)]) 2) (fun q => q.n) ⟨pickV b (keysV b p 5).2 ((most + 1 : Nat) : Int), [], (keysV b p 5).2 + 1, by show 0 + _ ≤ _; omega, by omega, by simp, hR.symm⟩ ?_
  rintro ⟨n, o, q, hn, hq, hk, h⟩
  dsimp only
  rcases n with _ | n
  · have g1 : decide ((0 : Int) < ((0 : Nat) : Int)) = false := rfl
    have ho : R = (o, q) := h.symm
    rw [ho]
    repeat (first | apply Aw_seq | apply Aw_block | apply Aw_skip | apply Aw_exit | refine Aw_condt rfl ?_ | refine Aw_condf rfl ?_ | (refine qr ?_; simp only [go_sem, Nat.reduceEqDiff, reduceIte, Nat.reduceAdd, Nat.reduceMul, Nat.reduceSub, Nat.reduceLT, Nat.reduceLeDiff, Nat.reduceBEq, g1]) | (refine qd (by kernel_rfl) (by kernel_rfl) ?_; simp only [go_sem, Nat.reduceEqDiff, reduceIte, Nat.reduceAdd, Nat.reduceMul, Nat.reduceSub, Nat.reduceLT, Nat.reduceLeDiff, Nat.reduceBEq, g1]) | refine dk (by kernel_rfl) ?_)
    exact Aw_ret (retL (M := [0, 1]) (.inl rfl) (by simp only [go_sem, Nat.reduceEqDiff, reduceIte, Nat.reduceAdd, Nat.reduceMul, Nat.reduceSub, Nat.reduceLT, Nat.reduceLeDiff, Nat.reduceBEq]; first | done | rfl) rfl rfl (by rfl) (by simp only [go_sem, Nat.reduceEqDiff, reduceIte, Nat.reduceAdd, Nat.reduceMul, Nat.reduceSub, Nat.reduceLT, Nat.reduceLeDiff, Nat.reduceBEq]; first | done | rfl | (and_intros <;> rfl)) (by decide) (by intro m hm; first | omega | (rcases m with _ | _ | _ | _ | _ | _ | m <;> first | exact ⟨by decide, rfl⟩ | omega)))
  · have g1 : decide ((0 : Int) < ((n + 1 : Nat) : Int)) = true := decide_eq_true (by omega)
    have w1 : IntKind.i64.wrap (((n + 1 : Nat) : Int) - 1) = (n : Int) := wn (by omega) (by omega)
    have kn := l71Near_ac (l := (keysV b p 5).1) hb (show q ≤ 800000 by omega) (by omega) (fun s hs => by have := a2 s hs; omega)
    have nf := nearV_fin hb (p := q) (K := 5) (l := (keysV b p 5).1) (by omega) (by omega) (by omega) a2
    obtain ⟨y, hy⟩ : ∃ y, y = nearV b q (keysV b p 5).1 := ⟨_, rfl⟩
    rw [← hy] at kn nf
    have k1 := pickV_ac (n := 100) hb (show y.2 ≤ 1000000 by omega) (by omega)
    have k2 := pickV_ac (n := 60) hb (show y.2 + 1 ≤ 1000000 by omega) (by omega)
    have k3 := pickV_ac (n := 4) hb (show y.2 + 1 + 1 ≤ 1000000 by omega) (by omega)
    have p60 := pickV_lt (n := 60) hb (show y.2 + 1 ≤ 1000000 by omega) (by omega) (by omega)
    have w2 : IntKind.i64.wrap (1 + ((pickV b (y.2 + 1) 60 : Nat) : Int)) = ((1 + pickV b (y.2 + 1) 60 : Nat) : Int) := by rw [show (1 : Int) + ((pickV b (y.2 + 1) 60 : Nat) : Int) = ((1 + pickV b (y.2 + 1) 60 : Nat) : Int) by omega]; exact wn (by omega) (by omega)
    have one := oneV_fin hb (p := q) (l := (keysV b p 5).1) (by omega) (by omega) a2
    have h2 : runL b (keysV b p 5).1 n (if runOk (joinM o [(oneV b q (keysV b p 5).1).1]) = true then joinM o [(oneV b q (keysV b p 5).1).1] else o) (oneV b q (keysV b p 5).1).2 = R := h
    by_cases c0 : pickV b (y.2 + 2) 4 = 0
    · have g2 : decide (((pickV b (y.2 + 1 + 1) 4 : Nat) : Int) = 0) = true := decide_eq_true (by show ((pickV b (y.2 + 2) 4 : Nat) : Int) = 0; omega)
      have e1 : oneV b q (keysV b p 5).1 = (⟨y.1, 0, true, ((1 + pickV b (y.2 + 1) 60 : Nat) : Int)⟩, y.2 + 3) := by unfold oneV; rw [← hy, if_pos c0]
      rw [e1] at one h2
      dsimp only at one h2
      obtain ⟨J, hJ⟩ : ∃ J, J = joinM o [(⟨y.1, 0, true, ((1 + pickV b (y.2 + 1) 60 : Nat) : Int)⟩ : Ent)] := ⟨_, rfl⟩
      have kj := l11Join_ac o [(⟨y.1, 0, true, ((1 + pickV b (y.2 + 1) 60 : Nat) : Int)⟩ : Ent)] (by omega) (by simp)
      rw [← hJ] at kj h2
      have hJl : J.length = o.length + 1 := by rw [hJ, joinM_len]; rfl
      have hJk : ∀ e ∈ J, e.key.size ≤ 5 := by
        intro e he
        rw [hJ] at he
        rcases mem_joinM he with h | h
        · exact hk e h
        · obtain rfl := List.mem_singleton.1 h; exact one.1
      have kr := srunOk_ac J ⟨by omega, fun e he => by have := hJk e he; unfold smK; omega⟩
      clear hJ
      cases c : runOk J
      · rw [c] at kr h2
        rw [if_neg (by simp)] at h2
        repeat (first | apply Aw_seq | apply Aw_block | apply Aw_skip | apply Aw_exit | refine Aw_condt rfl ?_ | refine Aw_condf rfl ?_ | (refine qr ?_; simp only [go_sem, Nat.reduceEqDiff, reduceIte, Nat.reduceAdd, Nat.reduceMul, Nat.reduceSub, Nat.reduceLT, Nat.reduceLeDiff, Nat.reduceBEq, g1, w1, w2, g2]) | (refine qd (by kernel_rfl) (by kernel_rfl) ?_; simp only [go_sem, Nat.reduceEqDiff, reduceIte, Nat.reduceAdd, Nat.reduceMul, Nat.reduceSub, Nat.reduceLT, Nat.reduceLeDiff, Nat.reduceBEq, g1, w1, w2, g2]) | refine dk (by kernel_rfl) ?_ | (refine qx (call_L (N' := [0]) (L := []) (kn) rfl (.cons (.nm rfl) (.cons (.nm rfl) (.nil))) (by decide) (by decide) (by decide) (by simp only [go_sem, Nat.reduceEqDiff, reduceIte, Nat.reduceAdd, Nat.reduceMul, Nat.reduceSub, Nat.reduceLT, Nat.reduceLeDiff, Nat.reduceBEq, g1, w1, w2, g2]; first | done | rfl) (.inl rfl) rfl (by decide)) (by simp only [go_sem, Nat.reduceEqDiff, reduceIte, Nat.reduceAdd, Nat.reduceMul, Nat.reduceSub, Nat.reduceLT, Nat.reduceLeDiff, Nat.reduceBEq, g1, w1, w2, g2]; first | done | rfl) rfl (by simp only [go_sem, Nat.reduceLT]) ?_; simp only [go_sem, Nat.reduceEqDiff, reduceIte, Nat.reduceAdd, Nat.reduceMul, Nat.reduceSub, Nat.reduceLT, Nat.reduceLeDiff, Nat.reduceBEq, g1, w1, w2, g2]) | (refine qx (call_L (N' := [0]) (L := []) (k1) rfl (.cons (.nm rfl) (.cons (.nm rfl) (.nil))) (by decide) (by decide) (by decide) (by simp only [go_sem, Nat.reduceEqDiff, reduceIte, Nat.reduceAdd, Nat.reduceMul, Nat.reduceSub, Nat.reduceLT, Nat.reduceLeDiff, Nat.reduceBEq, g1, w1, w2, g2]; first | done | rfl) (.inl rfl) rfl (by decide)) (by simp only [go_sem, Nat.reduceEqDiff, reduceIte, Nat.reduceAdd, Nat.reduceMul, Nat.reduceSub, Nat.reduceLT, Nat.reduceLeDiff, Nat.reduceBEq, g1, w1, w2, g2]; first | done | rfl) rfl (by simp only [go_sem, Nat.reduceLT]) ?_; simp only [go_sem, Nat.reduceEqDiff, reduceIte, Nat.reduceAdd, Nat.reduceMul, Nat.reduceSub, Nat.reduceLT, Nat.reduceLeDiff, Nat.reduceBEq, g1, w1, w2, g2]) | (refine qx (call_L (N' := [0]) (L := []) (k2) rfl (.cons (.nm rfl) (.cons (.nm rfl) (.nil))) (by decide) (by decide) (by decide) (by simp only [go_sem, Nat.reduceEqDiff, reduceIte, Nat.reduceAdd, Nat.reduceMul, Nat.reduceSub, Nat.reduceLT, Nat.reduceLeDiff, Nat.reduceBEq, g1, w1, w2, g2]; first | done | rfl) (.inl rfl) rfl (by decide)) (by simp only [go_sem, Nat.reduceEqDiff, reduceIte, Nat.reduceAdd, Nat.reduceMul, Nat.reduceSub, Nat.reduceLT, Nat.reduceLeDiff, Nat.reduceBEq, g1, w1, w2, g2]; first | done | rfl) rfl (by simp only [go_sem, Nat.reduceLT]) ?_; simp only [go_sem, Nat.reduceEqDiff, reduceIte, Nat.reduceAdd, Nat.reduceMul, Nat.reduceSub, Nat.reduceLT, Nat.reduceLeDiff, Nat.reduceBEq, g1, w1, w2, g2]) | (refine qx (call_L (N' := [0]) (L := []) (k3) rfl (.cons (.nm rfl) (.cons (.nm rfl) (.nil))) (by decide) (by decide) (by decide) (by simp only [go_sem, Nat.reduceEqDiff, reduceIte, Nat.reduceAdd, Nat.reduceMul, Nat.reduceSub, Nat.reduceLT, Nat.reduceLeDiff, Nat.reduceBEq, g1, w1, w2, g2]; first | done | rfl) (.inl rfl) rfl (by decide)) (by simp only [go_sem, Nat.reduceEqDiff, reduceIte, Nat.reduceAdd, Nat.reduceMul, Nat.reduceSub, Nat.reduceLT, Nat.reduceLeDiff, Nat.reduceBEq, g1, w1, w2, g2]; first | done | rfl) rfl (by simp only [go_sem, Nat.reduceLT]) ?_; simp only [go_sem, Nat.reduceEqDiff, reduceIte, Nat.reduceAdd, Nat.reduceMul, Nat.reduceSub, Nat.reduceLT, Nat.reduceLeDiff, Nat.reduceBEq, g1, w1, w2, g2]) | (refine qx (call_N (L := [1, 20]) (kj) rfl (.cons (arg_lend (m := 1) rfl (by simp)) (.cons (arg_lend (m := 20) rfl (by simp)) (.nil))) (.inr ⟨rfl, by simp⟩) rfl) (by simp only [go_sem, Nat.reduceEqDiff, reduceIte, Nat.reduceAdd, Nat.reduceMul, Nat.reduceSub, Nat.reduceLT, Nat.reduceLeDiff, Nat.reduceBEq, g1, w1, w2, g2]; first | done | rfl) rfl (by simp only [go_sem, Nat.reduceLT]) ?_; simp only [go_sem, Nat.reduceEqDiff, reduceIte, Nat.reduceAdd, Nat.reduceMul, Nat.reduceSub, Nat.reduceLT, Nat.reduceLeDiff, Nat.reduceBEq, g1, w1, w2, g2]) | (refine qx (call_N (L := [21]) (kr.toL0) rfl (.cons (arg_lend (m := 21) rfl (by simp)) (.nil)) (.inr ⟨rfl, by simp⟩) rfl) (by simp only [go_sem, Nat.reduceEqDiff, reduceIte, Nat.reduceAdd, Nat.reduceMul, Nat.reduceSub, Nat.reduceLT, Nat.reduceLeDiff, Nat.reduceBEq, g1, w1, w2, g2]; first | done | rfl) rfl (by simp only [go_sem, Nat.reduceLT]) ?_; simp only [go_sem, Nat.reduceEqDiff, reduceIte, Nat.reduceAdd, Nat.reduceMul, Nat.reduceSub, Nat.reduceLT, Nat.reduceLeDiff, Nat.reduceBEq, g1, w1, w2, g2]))
        refine ⟨⟨n, o, y.2 + 3, by omega, by omega, hk, h2⟩, [0, 1], ?_, rwL (by repeat (first | exact trivial | refine ⟨rfl, rfl, ?_⟩)) (by rfl) (by simp only [go_sem, Nat.reduceEqDiff, reduceIte, Nat.reduceAdd, Nat.reduceMul, Nat.reduceSub, Nat.reduceLT, Nat.reduceLeDiff, Nat.reduceBEq]; first | done | rfl) (by decide) (by intro m hm; first | omega | (rcases m with _ | _ | _ | _ | _ | _ | m <;> first | exact ⟨by decide, rfl⟩ | omega))⟩
        show n < n + 1; omega
      · rw [c] at kr h2
        rw [if_pos rfl] at h2
        repeat (first | apply Aw_seq | apply Aw_block | apply Aw_skip | apply Aw_exit | refine Aw_condt rfl ?_ | refine Aw_condf rfl ?_ | (refine qr ?_; simp only [go_sem, Nat.reduceEqDiff, reduceIte, Nat.reduceAdd, Nat.reduceMul, Nat.reduceSub, Nat.reduceLT, Nat.reduceLeDiff, Nat.reduceBEq, g1, w1, w2, g2]) | (refine qd (by kernel_rfl) (by kernel_rfl) ?_; simp only [go_sem, Nat.reduceEqDiff, reduceIte, Nat.reduceAdd, Nat.reduceMul, Nat.reduceSub, Nat.reduceLT, Nat.reduceLeDiff, Nat.reduceBEq, g1, w1, w2, g2]) | refine dk (by kernel_rfl) ?_ | (refine qx (call_L (N' := [0]) (L := []) (kn) rfl (.cons (.nm rfl) (.cons (.nm rfl) (.nil))) (by decide) (by decide) (by decide) (by simp only [go_sem, Nat.reduceEqDiff, reduceIte, Nat.reduceAdd, Nat.reduceMul, Nat.reduceSub, Nat.reduceLT, Nat.reduceLeDiff, Nat.reduceBEq, g1, w1, w2, g2]; first | done | rfl) (.inl rfl) rfl (by decide)) (by simp only [go_sem, Nat.reduceEqDiff, reduceIte, Nat.reduceAdd, Nat.reduceMul, Nat.reduceSub, Nat.reduceLT, Nat.reduceLeDiff, Nat.reduceBEq, g1, w1, w2, g2]; first | done | rfl) rfl (by simp only [go_sem, Nat.reduceLT]) ?_; simp only [go_sem, Nat.reduceEqDiff, reduceIte, Nat.reduceAdd, Nat.reduceMul, Nat.reduceSub, Nat.reduceLT, Nat.reduceLeDiff, Nat.reduceBEq, g1, w1, w2, g2]) | (refine qx (call_L (N' := [0]) (L := []) (k1) rfl (.cons (.nm rfl) (.cons (.nm rfl) (.nil))) (by decide) (by decide) (by decide) (by simp only [go_sem, Nat.reduceEqDiff, reduceIte, Nat.reduceAdd, Nat.reduceMul, Nat.reduceSub, Nat.reduceLT, Nat.reduceLeDiff, Nat.reduceBEq, g1, w1, w2, g2]; first | done | rfl) (.inl rfl) rfl (by decide)) (by simp only [go_sem, Nat.reduceEqDiff, reduceIte, Nat.reduceAdd, Nat.reduceMul, Nat.reduceSub, Nat.reduceLT, Nat.reduceLeDiff, Nat.reduceBEq, g1, w1, w2, g2]; first | done | rfl) rfl (by simp only [go_sem, Nat.reduceLT]) ?_; simp only [go_sem, Nat.reduceEqDiff, reduceIte, Nat.reduceAdd, Nat.reduceMul, Nat.reduceSub, Nat.reduceLT, Nat.reduceLeDiff, Nat.reduceBEq, g1, w1, w2, g2]) | (refine qx (call_L (N' := [0]) (L := []) (k2) rfl (.cons (.nm rfl) (.cons (.nm rfl) (.nil))) (by decide) (by decide) (by decide) (by simp only [go_sem, Nat.reduceEqDiff, reduceIte, Nat.reduceAdd, Nat.reduceMul, Nat.reduceSub, Nat.reduceLT, Nat.reduceLeDiff, Nat.reduceBEq, g1, w1, w2, g2]; first | done | rfl) (.inl rfl) rfl (by decide)) (by simp only [go_sem, Nat.reduceEqDiff, reduceIte, Nat.reduceAdd, Nat.reduceMul, Nat.reduceSub, Nat.reduceLT, Nat.reduceLeDiff, Nat.reduceBEq, g1, w1, w2, g2]; first | done | rfl) rfl (by simp only [go_sem, Nat.reduceLT]) ?_; simp only [go_sem, Nat.reduceEqDiff, reduceIte, Nat.reduceAdd, Nat.reduceMul, Nat.reduceSub, Nat.reduceLT, Nat.reduceLeDiff, Nat.reduceBEq, g1, w1, w2, g2]) | (refine qx (call_L (N' := [0]) (L := []) (k3) rfl (.cons (.nm rfl) (.cons (.nm rfl) (.nil))) (by decide) (by decide) (by decide) (by simp only [go_sem, Nat.reduceEqDiff, reduceIte, Nat.reduceAdd, Nat.reduceMul, Nat.reduceSub, Nat.reduceLT, Nat.reduceLeDiff, Nat.reduceBEq, g1, w1, w2, g2]; first | done | rfl) (.inl rfl) rfl (by decide)) (by simp only [go_sem, Nat.reduceEqDiff, reduceIte, Nat.reduceAdd, Nat.reduceMul, Nat.reduceSub, Nat.reduceLT, Nat.reduceLeDiff, Nat.reduceBEq, g1, w1, w2, g2]; first | done | rfl) rfl (by simp only [go_sem, Nat.reduceLT]) ?_; simp only [go_sem, Nat.reduceEqDiff, reduceIte, Nat.reduceAdd, Nat.reduceMul, Nat.reduceSub, Nat.reduceLT, Nat.reduceLeDiff, Nat.reduceBEq, g1, w1, w2, g2]) | (refine qx (call_N (L := [1, 20]) (kj) rfl (.cons (arg_lend (m := 1) rfl (by simp)) (.cons (arg_lend (m := 20) rfl (by simp)) (.nil))) (.inr ⟨rfl, by simp⟩) rfl) (by simp only [go_sem, Nat.reduceEqDiff, reduceIte, Nat.reduceAdd, Nat.reduceMul, Nat.reduceSub, Nat.reduceLT, Nat.reduceLeDiff, Nat.reduceBEq, g1, w1, w2, g2]; first | done | rfl) rfl (by simp only [go_sem, Nat.reduceLT]) ?_; simp only [go_sem, Nat.reduceEqDiff, reduceIte, Nat.reduceAdd, Nat.reduceMul, Nat.reduceSub, Nat.reduceLT, Nat.reduceLeDiff, Nat.reduceBEq, g1, w1, w2, g2]) | (refine qx (call_N (L := [21]) (kr.toL0) rfl (.cons (arg_lend (m := 21) rfl (by simp)) (.nil)) (.inr ⟨rfl, by simp⟩) rfl) (by simp only [go_sem, Nat.reduceEqDiff, reduceIte, Nat.reduceAdd, Nat.reduceMul, Nat.reduceSub, Nat.reduceLT, Nat.reduceLeDiff, Nat.reduceBEq, g1, w1, w2, g2]; first | done | rfl) rfl (by simp only [go_sem, Nat.reduceLT]) ?_; simp only [go_sem, Nat.reduceEqDiff, reduceIte, Nat.reduceAdd, Nat.reduceMul, Nat.reduceSub, Nat.reduceLT, Nat.reduceLeDiff, Nat.reduceBEq, g1, w1, w2, g2]))
        refine ⟨⟨n, J, y.2 + 3, by omega, by omega, hJk, h2⟩, [0, 21], ?_, rwL (by repeat (first | exact trivial | refine ⟨rfl, rfl, ?_⟩)) (by rfl) (by simp only [go_sem, Nat.reduceEqDiff, reduceIte, Nat.reduceAdd, Nat.reduceMul, Nat.reduceSub, Nat.reduceLT, Nat.reduceLeDiff, Nat.reduceBEq]; first | done | rfl) (by decide) (by intro m hm; first | omega | (rcases m with _ | _ | _ | _ | _ | _ | m <;> first | exact ⟨by decide, rfl⟩ | omega))⟩
        show n < n + 1; omega
    · have g2 : decide (((pickV b (y.2 + 1 + 1) 4 : Nat) : Int) = 0) = false := decide_eq_false (by show ¬ ((pickV b (y.2 + 2) 4 : Nat) : Int) = 0; omega)
      have e1 : oneV b q (keysV b p 5).1 = (⟨y.1, (pickV b y.2 100 : Nat), false, ((1 + pickV b (y.2 + 1) 60 : Nat) : Int)⟩, y.2 + 3) := by unfold oneV; rw [← hy, if_neg c0]
      rw [e1] at one h2
      dsimp only at one h2
      obtain ⟨J, hJ⟩ : ∃ J, J = joinM o [(⟨y.1, (pickV b y.2 100 : Nat), false, ((1 + pickV b (y.2 + 1) 60 : Nat) : Int)⟩ : Ent)] := ⟨_, rfl⟩
      have kj := l11Join_ac o [(⟨y.1, (pickV b y.2 100 : Nat), false, ((1 + pickV b (y.2 + 1) 60 : Nat) : Int)⟩ : Ent)] (by omega) (by simp)
      rw [← hJ] at kj h2
      have hJl : J.length = o.length + 1 := by rw [hJ, joinM_len]; rfl
      have hJk : ∀ e ∈ J, e.key.size ≤ 5 := by
        intro e he
        rw [hJ] at he
        rcases mem_joinM he with h | h
        · exact hk e h
        · obtain rfl := List.mem_singleton.1 h; exact one.1
      have kr := srunOk_ac J ⟨by omega, fun e he => by have := hJk e he; unfold smK; omega⟩
      clear hJ
      cases c : runOk J
      · rw [c] at kr h2
        rw [if_neg (by simp)] at h2
        repeat (first | apply Aw_seq | apply Aw_block | apply Aw_skip | apply Aw_exit | refine Aw_condt rfl ?_ | refine Aw_condf rfl ?_ | (refine qr ?_; simp only [go_sem, Nat.reduceEqDiff, reduceIte, Nat.reduceAdd, Nat.reduceMul, Nat.reduceSub, Nat.reduceLT, Nat.reduceLeDiff, Nat.reduceBEq, g1, w1, w2, g2]) | (refine qd (by kernel_rfl) (by kernel_rfl) ?_; simp only [go_sem, Nat.reduceEqDiff, reduceIte, Nat.reduceAdd, Nat.reduceMul, Nat.reduceSub, Nat.reduceLT, Nat.reduceLeDiff, Nat.reduceBEq, g1, w1, w2, g2]) | refine dk (by kernel_rfl) ?_ | (refine qx (call_L (N' := [0]) (L := []) (kn) rfl (.cons (.nm rfl) (.cons (.nm rfl) (.nil))) (by decide) (by decide) (by decide) (by simp only [go_sem, Nat.reduceEqDiff, reduceIte, Nat.reduceAdd, Nat.reduceMul, Nat.reduceSub, Nat.reduceLT, Nat.reduceLeDiff, Nat.reduceBEq, g1, w1, w2, g2]; first | done | rfl) (.inl rfl) rfl (by decide)) (by simp only [go_sem, Nat.reduceEqDiff, reduceIte, Nat.reduceAdd, Nat.reduceMul, Nat.reduceSub, Nat.reduceLT, Nat.reduceLeDiff, Nat.reduceBEq, g1, w1, w2, g2]; first | done | rfl) rfl (by simp only [go_sem, Nat.reduceLT]) ?_; simp only [go_sem, Nat.reduceEqDiff, reduceIte, Nat.reduceAdd, Nat.reduceMul, Nat.reduceSub, Nat.reduceLT, Nat.reduceLeDiff, Nat.reduceBEq, g1, w1, w2, g2]) | (refine qx (call_L (N' := [0]) (L := []) (k1) rfl (.cons (.nm rfl) (.cons (.nm rfl) (.nil))) (by decide) (by decide) (by decide) (by simp only [go_sem, Nat.reduceEqDiff, reduceIte, Nat.reduceAdd, Nat.reduceMul, Nat.reduceSub, Nat.reduceLT, Nat.reduceLeDiff, Nat.reduceBEq, g1, w1, w2, g2]; first | done | rfl) (.inl rfl) rfl (by decide)) (by simp only [go_sem, Nat.reduceEqDiff, reduceIte, Nat.reduceAdd, Nat.reduceMul, Nat.reduceSub, Nat.reduceLT, Nat.reduceLeDiff, Nat.reduceBEq, g1, w1, w2, g2]; first | done | rfl) rfl (by simp only [go_sem, Nat.reduceLT]) ?_; simp only [go_sem, Nat.reduceEqDiff, reduceIte, Nat.reduceAdd, Nat.reduceMul, Nat.reduceSub, Nat.reduceLT, Nat.reduceLeDiff, Nat.reduceBEq, g1, w1, w2, g2]) | (refine qx (call_L (N' := [0]) (L := []) (k2) rfl (.cons (.nm rfl) (.cons (.nm rfl) (.nil))) (by decide) (by decide) (by decide) (by simp only [go_sem, Nat.reduceEqDiff, reduceIte, Nat.reduceAdd, Nat.reduceMul, Nat.reduceSub, Nat.reduceLT, Nat.reduceLeDiff, Nat.reduceBEq, g1, w1, w2, g2]; first | done | rfl) (.inl rfl) rfl (by decide)) (by simp only [go_sem, Nat.reduceEqDiff, reduceIte, Nat.reduceAdd, Nat.reduceMul, Nat.reduceSub, Nat.reduceLT, Nat.reduceLeDiff, Nat.reduceBEq, g1, w1, w2, g2]; first | done | rfl) rfl (by simp only [go_sem, Nat.reduceLT]) ?_; simp only [go_sem, Nat.reduceEqDiff, reduceIte, Nat.reduceAdd, Nat.reduceMul, Nat.reduceSub, Nat.reduceLT, Nat.reduceLeDiff, Nat.reduceBEq, g1, w1, w2, g2]) | (refine qx (call_L (N' := [0]) (L := []) (k3) rfl (.cons (.nm rfl) (.cons (.nm rfl) (.nil))) (by decide) (by decide) (by decide) (by simp only [go_sem, Nat.reduceEqDiff, reduceIte, Nat.reduceAdd, Nat.reduceMul, Nat.reduceSub, Nat.reduceLT, Nat.reduceLeDiff, Nat.reduceBEq, g1, w1, w2, g2]; first | done | rfl) (.inl rfl) rfl (by decide)) (by simp only [go_sem, Nat.reduceEqDiff, reduceIte, Nat.reduceAdd, Nat.reduceMul, Nat.reduceSub, Nat.reduceLT, Nat.reduceLeDiff, Nat.reduceBEq, g1, w1, w2, g2]; first | done | rfl) rfl (by simp only [go_sem, Nat.reduceLT]) ?_; simp only [go_sem, Nat.reduceEqDiff, reduceIte, Nat.reduceAdd, Nat.reduceMul, Nat.reduceSub, Nat.reduceLT, Nat.reduceLeDiff, Nat.reduceBEq, g1, w1, w2, g2]) | (refine qx (call_N (L := [1, 16]) (kj) rfl (.cons (arg_lend (m := 1) rfl (by simp)) (.cons (arg_lend (m := 16) rfl (by simp)) (.nil))) (.inr ⟨rfl, by simp⟩) rfl) (by simp only [go_sem, Nat.reduceEqDiff, reduceIte, Nat.reduceAdd, Nat.reduceMul, Nat.reduceSub, Nat.reduceLT, Nat.reduceLeDiff, Nat.reduceBEq, g1, w1, w2, g2]; first | done | rfl) rfl (by simp only [go_sem, Nat.reduceLT]) ?_; simp only [go_sem, Nat.reduceEqDiff, reduceIte, Nat.reduceAdd, Nat.reduceMul, Nat.reduceSub, Nat.reduceLT, Nat.reduceLeDiff, Nat.reduceBEq, g1, w1, w2, g2]) | (refine qx (call_N (L := [17]) (kr.toL0) rfl (.cons (arg_lend (m := 17) rfl (by simp)) (.nil)) (.inr ⟨rfl, by simp⟩) rfl) (by simp only [go_sem, Nat.reduceEqDiff, reduceIte, Nat.reduceAdd, Nat.reduceMul, Nat.reduceSub, Nat.reduceLT, Nat.reduceLeDiff, Nat.reduceBEq, g1, w1, w2, g2]; first | done | rfl) rfl (by simp only [go_sem, Nat.reduceLT]) ?_; simp only [go_sem, Nat.reduceEqDiff, reduceIte, Nat.reduceAdd, Nat.reduceMul, Nat.reduceSub, Nat.reduceLT, Nat.reduceLeDiff, Nat.reduceBEq, g1, w1, w2, g2]))
        refine ⟨⟨n, o, y.2 + 3, by omega, by omega, hk, h2⟩, [0, 1], ?_, rwL (by repeat (first | exact trivial | refine ⟨rfl, rfl, ?_⟩)) (by rfl) (by simp only [go_sem, Nat.reduceEqDiff, reduceIte, Nat.reduceAdd, Nat.reduceMul, Nat.reduceSub, Nat.reduceLT, Nat.reduceLeDiff, Nat.reduceBEq]; first | done | rfl) (by decide) (by intro m hm; first | omega | (rcases m with _ | _ | _ | _ | _ | _ | m <;> first | exact ⟨by decide, rfl⟩ | omega))⟩
        show n < n + 1; omega
      · rw [c] at kr h2
        rw [if_pos rfl] at h2
        repeat (first | apply Aw_seq | apply Aw_block | apply Aw_skip | apply Aw_exit | refine Aw_condt rfl ?_ | refine Aw_condf rfl ?_ | (refine qr ?_; simp only [go_sem, Nat.reduceEqDiff, reduceIte, Nat.reduceAdd, Nat.reduceMul, Nat.reduceSub, Nat.reduceLT, Nat.reduceLeDiff, Nat.reduceBEq, g1, w1, w2, g2]) | (refine qd (by kernel_rfl) (by kernel_rfl) ?_; simp only [go_sem, Nat.reduceEqDiff, reduceIte, Nat.reduceAdd, Nat.reduceMul, Nat.reduceSub, Nat.reduceLT, Nat.reduceLeDiff, Nat.reduceBEq, g1, w1, w2, g2]) | refine dk (by kernel_rfl) ?_ | (refine qx (call_L (N' := [0]) (L := []) (kn) rfl (.cons (.nm rfl) (.cons (.nm rfl) (.nil))) (by decide) (by decide) (by decide) (by simp only [go_sem, Nat.reduceEqDiff, reduceIte, Nat.reduceAdd, Nat.reduceMul, Nat.reduceSub, Nat.reduceLT, Nat.reduceLeDiff, Nat.reduceBEq, g1, w1, w2, g2]; first | done | rfl) (.inl rfl) rfl (by decide)) (by simp only [go_sem, Nat.reduceEqDiff, reduceIte, Nat.reduceAdd, Nat.reduceMul, Nat.reduceSub, Nat.reduceLT, Nat.reduceLeDiff, Nat.reduceBEq, g1, w1, w2, g2]; first | done | rfl) rfl (by simp only [go_sem, Nat.reduceLT]) ?_; simp only [go_sem, Nat.reduceEqDiff, reduceIte, Nat.reduceAdd, Nat.reduceMul, Nat.reduceSub, Nat.reduceLT, Nat.reduceLeDiff, Nat.reduceBEq, g1, w1, w2, g2]) | (refine qx (call_L (N' := [0]) (L := []) (k1) rfl (.cons (.nm rfl) (.cons (.nm rfl) (.nil))) (by decide) (by decide) (by decide) (by simp only [go_sem, Nat.reduceEqDiff, reduceIte, Nat.reduceAdd, Nat.reduceMul, Nat.reduceSub, Nat.reduceLT, Nat.reduceLeDiff, Nat.reduceBEq, g1, w1, w2, g2]; first | done | rfl) (.inl rfl) rfl (by decide)) (by simp only [go_sem, Nat.reduceEqDiff, reduceIte, Nat.reduceAdd, Nat.reduceMul, Nat.reduceSub, Nat.reduceLT, Nat.reduceLeDiff, Nat.reduceBEq, g1, w1, w2, g2]; first | done | rfl) rfl (by simp only [go_sem, Nat.reduceLT]) ?_; simp only [go_sem, Nat.reduceEqDiff, reduceIte, Nat.reduceAdd, Nat.reduceMul, Nat.reduceSub, Nat.reduceLT, Nat.reduceLeDiff, Nat.reduceBEq, g1, w1, w2, g2]) | (refine qx (call_L (N' := [0]) (L := []) (k2) rfl (.cons (.nm rfl) (.cons (.nm rfl) (.nil))) (by decide) (by decide) (by decide) (by simp only [go_sem, Nat.reduceEqDiff, reduceIte, Nat.reduceAdd, Nat.reduceMul, Nat.reduceSub, Nat.reduceLT, Nat.reduceLeDiff, Nat.reduceBEq, g1, w1, w2, g2]; first | done | rfl) (.inl rfl) rfl (by decide)) (by simp only [go_sem, Nat.reduceEqDiff, reduceIte, Nat.reduceAdd, Nat.reduceMul, Nat.reduceSub, Nat.reduceLT, Nat.reduceLeDiff, Nat.reduceBEq, g1, w1, w2, g2]; first | done | rfl) rfl (by simp only [go_sem, Nat.reduceLT]) ?_; simp only [go_sem, Nat.reduceEqDiff, reduceIte, Nat.reduceAdd, Nat.reduceMul, Nat.reduceSub, Nat.reduceLT, Nat.reduceLeDiff, Nat.reduceBEq, g1, w1, w2, g2]) | (refine qx (call_L (N' := [0]) (L := []) (k3) rfl (.cons (.nm rfl) (.cons (.nm rfl) (.nil))) (by decide) (by decide) (by decide) (by simp only [go_sem, Nat.reduceEqDiff, reduceIte, Nat.reduceAdd, Nat.reduceMul, Nat.reduceSub, Nat.reduceLT, Nat.reduceLeDiff, Nat.reduceBEq, g1, w1, w2, g2]; first | done | rfl) (.inl rfl) rfl (by decide)) (by simp only [go_sem, Nat.reduceEqDiff, reduceIte, Nat.reduceAdd, Nat.reduceMul, Nat.reduceSub, Nat.reduceLT, Nat.reduceLeDiff, Nat.reduceBEq, g1, w1, w2, g2]; first | done | rfl) rfl (by simp only [go_sem, Nat.reduceLT]) ?_; simp only [go_sem, Nat.reduceEqDiff, reduceIte, Nat.reduceAdd, Nat.reduceMul, Nat.reduceSub, Nat.reduceLT, Nat.reduceLeDiff, Nat.reduceBEq, g1, w1, w2, g2]) | (refine qx (call_N (L := [1, 16]) (kj) rfl (.cons (arg_lend (m := 1) rfl (by simp)) (.cons (arg_lend (m := 16) rfl (by simp)) (.nil))) (.inr ⟨rfl, by simp⟩) rfl) (by simp only [go_sem, Nat.reduceEqDiff, reduceIte, Nat.reduceAdd, Nat.reduceMul, Nat.reduceSub, Nat.reduceLT, Nat.reduceLeDiff, Nat.reduceBEq, g1, w1, w2, g2]; first | done | rfl) rfl (by simp only [go_sem, Nat.reduceLT]) ?_; simp only [go_sem, Nat.reduceEqDiff, reduceIte, Nat.reduceAdd, Nat.reduceMul, Nat.reduceSub, Nat.reduceLT, Nat.reduceLeDiff, Nat.reduceBEq, g1, w1, w2, g2]) | (refine qx (call_N (L := [17]) (kr.toL0) rfl (.cons (arg_lend (m := 17) rfl (by simp)) (.nil)) (.inr ⟨rfl, by simp⟩) rfl) (by simp only [go_sem, Nat.reduceEqDiff, reduceIte, Nat.reduceAdd, Nat.reduceMul, Nat.reduceSub, Nat.reduceLT, Nat.reduceLeDiff, Nat.reduceBEq, g1, w1, w2, g2]; first | done | rfl) rfl (by simp only [go_sem, Nat.reduceLT]) ?_; simp only [go_sem, Nat.reduceEqDiff, reduceIte, Nat.reduceAdd, Nat.reduceMul, Nat.reduceSub, Nat.reduceLT, Nat.reduceLeDiff, Nat.reduceBEq, g1, w1, w2, g2]))
        refine ⟨⟨n, J, y.2 + 3, by omega, by omega, hJk, h2⟩, [0, 17], ?_, rwL (by repeat (first | exact trivial | refine ⟨rfl, rfl, ?_⟩)) (by rfl) (by simp only [go_sem, Nat.reduceEqDiff, reduceIte, Nat.reduceAdd, Nat.reduceMul, Nat.reduceSub, Nat.reduceLT, Nat.reduceLeDiff, Nat.reduceBEq]; first | done | rfl) (by decide) (by intro m hm; first | omega | (rcases m with _ | _ | _ | _ | _ | _ | m <;> first | exact ⟨by decide, rfl⟩ | omega))⟩
        show n < n + 1; omega
end Go.Proofs.Ytcbhgglpgphimaa.Ab
namespace Go.Proofs.Ytcbhgglpgphimaa.Ab
set_option linter.deprecated false
set_option linter.unusedVariables false
set_option linter.unusedSimpArgs false
open Go Go.Proofs
set_option maxRecDepth 10000
set_option maxHeartbeats 8000000
set_option linter.unusedSimpArgs false
set_option linter.unusedVariables false
noncomputable def offE (b : List Int) (p v : Nat) : Ent := match v with
  | 0 => ⟨zs, 0, false, 1⟩
  | 1 => ⟨bs [100, 100, 100, 100, 100, 100], 0, false, 1⟩
  | 2 => ⟨bs [100, 100, 100, 100, 100], 100, false, 1⟩
  | 3 => ⟨bs [100, 100, 100, 100, 100], if pickV b p 2 = 0 then 0 else 0, false, if pickV b p 2 = 0 then 0 else 1000⟩
  | _ => ⟨bs [100, 100, 100, 100, 100], 1, true, 1⟩
noncomputable def offV (b : List Int) (p : Nat) : List Ent × Nat :=
  if 0 < pickV b (runV b p 10).2 12 then ((runV b p 10).1, (runV b p 10).2 + 1)
  else ((runV b p 10).1 ++ [offE b ((runV b p 10).2 + 1 + 1) (pickV b ((runV b p 10).2 + 1) 5)], if pickV b ((runV b p 10).2 + 1) 5 = 3 then (runV b p 10).2 + 1 + 1 + 1 else (runV b p 10).2 + 1 + 1)
theorem runV_fin {b : List Int} (hb : byteL b) {p most : Nat} (hp : p ≤ 100000) (hm : most ≤ 100) : (runV b p most).1.length ≤ most ∧ (∀ e ∈ (runV b p most).1, e.key.size ≤ 5) ∧ (runV b p most).2 ≤ p + 2000 := by
  obtain ⟨a1, a2, a3⟩ := keysV_fin hb (p := p) (most := 5) (by omega) (by omega)
  have h6 := pickV_lt (n := ((most + 1 : Nat) : Int)) hb (show (keysV b p 5).2 ≤ 1000000 by omega) (by omega) (by omega)
  obtain ⟨h1, h2, h3⟩ := runL_fin hb (l := (keysV b p 5).1) (by omega) a2 (pickV b (keysV b p 5).2 ((most + 1 : Nat) : Int)) [] ((keysV b p 5).2 + 1) (by omega) (by simp)
  unfold runV
  refine ⟨by have : ([] : List Ent).length = 0 := rfl; omega, h2, by omega⟩
theorem offE_key (b : List Int) (p v : Nat) : (offE b p v).key.size ≤ 6 := by
  unfold offE
  split <;> simp [zs, bs, ByteArray.size]
theorem offV_fin {b : List Int} (hb : byteL b) {p : Nat} (hp : p ≤ 100000) : (offV b p).1.length ≤ 11 ∧ (∀ e ∈ (offV b p).1, e.key.size ≤ 6) ∧ (offV b p).2 ≤ p + 2010 := by
  obtain ⟨h1, h2, h3⟩ := runV_fin hb (p := p) (most := 10) hp (by omega)
  unfold offV
  split
  · exact ⟨by dsimp only; omega, fun e he => by have := h2 e he; omega, by dsimp only; omega⟩
  · refine ⟨by dsimp only; simp; omega, fun e he => ?_, by dsimp only; split <;> omega⟩
    rcases List.mem_append.1 he with h | h
    · have := h2 e h; omega
    · obtain rfl := List.mem_singleton.1 h; exact offE_key _ _ _
theorem l71Off_ac {b : List Int} {p : Nat} (hb : byteL b) (hp : p ≤ 100000) : AC Try.prog 82 [.c (.ph 0 0 0)] (hpL [some (rdO b p)]) 1 ⟨.t (.c (.h 1)), hpL [some (rdO b (offV b p).2), some (eRow (offV b p).1)], 2⟩ := by
  have kr := l71Run_ac (most := 10) hb hp (by omega)
  rw [show ((10 : Nat) : Int) = 10 from rfl] at kr
  obtain ⟨m1, m2, m3⟩ := runV_fin hb (p := p) (most := 10) hp (by omega)
  obtain ⟨R, hR⟩ : ∃ R, R = runV b p 10 := ⟨_, rfl⟩
  have hV : offV b p = if 0 < pickV b R.2 12 then (R.1, R.2 + 1) else (R.1 ++ [offE b (R.2 + 1 + 1) (pickV b (R.2 + 1) 5)], if pickV b (R.2 + 1) 5 = 3 then R.2 + 1 + 1 + 1 else R.2 + 1 + 1) := by rw [hR]; rfl
  rw [hV]
  rw [← hR] at kr m1 m2 m3
  clear hV hR
  have k1 := pickV_ac (n := 12) hb (show R.2 ≤ 1000000 by omega) (by omega)
  have k2 := pickV_ac (n := 5) hb (show R.2 + 1 ≤ 1000000 by omega) (by omega)
  have k3 := pickV_ac (n := 2) hb (show R.2 + 1 + 1 ≤ 1000000 by omega) (by omega)
  have hap : (R.1.length + 1) * 40 ≤ 140737488355328 := by omega
  by_cases c0 : 0 < pickV b R.2 12
  · rw [if_pos c0]
    have g0 : decide ((0 : Int) < ((pickV b R.2 12 : Nat) : Int)) = true := decide_eq_true (by omega)
    refine AC_of Try.func82 rfl Try.ntmps82 Try.results82 (by kernel_rfl) rfl ?_
    simp only [List.zipIdx, List.map, Nat.zero_add, Nat.reduceAdd]
    repeat (first | apply Aw_seq | apply Aw_block | apply Aw_skip | apply Aw_exit | refine Aw_condt rfl ?_ | refine Aw_condf rfl ?_ | (refine qr ?_; simp only [go_sem, Nat.reduceEqDiff, reduceIte, Nat.reduceAdd, Nat.reduceMul, Nat.reduceSub, Nat.reduceLT, Nat.reduceLeDiff, Nat.reduceBEq, g0]) | (refine qd (by kernel_rfl) (by kernel_rfl) ?_; simp only [go_sem, Nat.reduceEqDiff, reduceIte, Nat.reduceAdd, Nat.reduceMul, Nat.reduceSub, Nat.reduceLT, Nat.reduceLeDiff, Nat.reduceBEq, g0]) | refine dk (by kernel_rfl) ?_ | (refine qx (call_L (N' := [0]) (L := []) (kr) rfl (.cons (.nm rfl) (.cons (.nm rfl) (.nil))) (by decide) (by decide) (by decide) (by simp only [go_sem, Nat.reduceEqDiff, reduceIte, Nat.reduceAdd, Nat.reduceMul, Nat.reduceSub, Nat.reduceLT, Nat.reduceLeDiff, Nat.reduceBEq, g0]; first | done | rfl) (.inl rfl) rfl (by decide)) (by simp only [go_sem, Nat.reduceEqDiff, reduceIte, Nat.reduceAdd, Nat.reduceMul, Nat.reduceSub, Nat.reduceLT, Nat.reduceLeDiff, Nat.reduceBEq, g0]; first | done | rfl) rfl (by simp only [go_sem, Nat.reduceLT]) ?_; simp only [go_sem, Nat.reduceEqDiff, reduceIte, Nat.reduceAdd, Nat.reduceMul, Nat.reduceSub, Nat.reduceLT, Nat.reduceLeDiff, Nat.reduceBEq, g0]) | (refine qx (call_L (N' := [0]) (L := []) (k1) rfl (.cons (.nm rfl) (.cons (.nm rfl) (.nil))) (by decide) (by decide) (by decide) (by simp only [go_sem, Nat.reduceEqDiff, reduceIte, Nat.reduceAdd, Nat.reduceMul, Nat.reduceSub, Nat.reduceLT, Nat.reduceLeDiff, Nat.reduceBEq, g0]; first | done | rfl) (.inl rfl) rfl (by decide)) (by simp only [go_sem, Nat.reduceEqDiff, reduceIte, Nat.reduceAdd, Nat.reduceMul, Nat.reduceSub, Nat.reduceLT, Nat.reduceLeDiff, Nat.reduceBEq, g0]; first | done | rfl) rfl (by simp only [go_sem, Nat.reduceLT]) ?_; simp only [go_sem, Nat.reduceEqDiff, reduceIte, Nat.reduceAdd, Nat.reduceMul, Nat.reduceSub, Nat.reduceLT, Nat.reduceLeDiff, Nat.reduceBEq, g0]))
    exact Aw_ret (retL (M := [0, 3]) (.inl rfl) (by simp only [go_sem, Nat.reduceEqDiff, reduceIte, Nat.reduceAdd, Nat.reduceMul, Nat.reduceSub, Nat.reduceLT, Nat.reduceLeDiff, Nat.reduceBEq]; first | done | rfl) rfl rfl (by rfl) (by simp only [go_sem, Nat.reduceEqDiff, reduceIte, Nat.reduceAdd, Nat.reduceMul, Nat.reduceSub, Nat.reduceLT, Nat.reduceLeDiff, Nat.reduceBEq]; first | done | rfl | (and_intros <;> rfl)) (by decide) (by intro m hm; first | omega | (rcases m with _ | _ | _ | _ | _ | _ | m <;> first | exact ⟨by decide, rfl⟩ | omega)))
  rw [if_neg c0]
  have g0 : decide ((0 : Int) < ((pickV b R.2 12 : Nat) : Int)) = false := decide_eq_false (by omega)
  have h5 := pickV_lt (n := 5) hb (show R.2 + 1 ≤ 1000000 by omega) (by omega) (by omega)
  have hc : pickV b (R.2 + 1) 5 = 0 ∨ pickV b (R.2 + 1) 5 = 1 ∨ pickV b (R.2 + 1) 5 = 2 ∨ pickV b (R.2 + 1) 5 = 3 ∨ pickV b (R.2 + 1) 5 = 4 := by omega
  rcases hc with hv | hv | hv | hv | hv
  · rw [hv] at k2
    have g1 : decide (((0 : Nat) : Int) = 0) = true := rfl
    rw [hv, if_neg (by decide)]
    have e1 : offE b (R.2 + 1 + 1) 0 = ⟨zs, 0, false, 1⟩ := rfl
    rw [e1]
    refine AC_of Try.func82 rfl Try.ntmps82 Try.results82 (by kernel_rfl) rfl ?_
    simp only [List.zipIdx, List.map, Nat.zero_add, Nat.reduceAdd]
    repeat (first | apply Aw_seq | apply Aw_block | apply Aw_skip | apply Aw_exit | refine Aw_condt rfl ?_ | refine Aw_condf rfl ?_ | (refine qr ?_; simp only [go_sem, Nat.reduceEqDiff, reduceIte, Nat.reduceAdd, Nat.reduceMul, Nat.reduceSub, Nat.reduceLT, Nat.reduceLeDiff, Nat.reduceBEq, g0, g1, hap]) | (refine qd (by kernel_rfl) (by kernel_rfl) ?_; simp only [go_sem, Nat.reduceEqDiff, reduceIte, Nat.reduceAdd, Nat.reduceMul, Nat.reduceSub, Nat.reduceLT, Nat.reduceLeDiff, Nat.reduceBEq, g0, g1, hap]) | refine dk (by kernel_rfl) ?_ | (refine qx (call_L (N' := [0]) (L := []) (kr) rfl (.cons (.nm rfl) (.cons (.nm rfl) (.nil))) (by decide) (by decide) (by decide) (by simp only [go_sem, Nat.reduceEqDiff, reduceIte, Nat.reduceAdd, Nat.reduceMul, Nat.reduceSub, Nat.reduceLT, Nat.reduceLeDiff, Nat.reduceBEq, g0, g1, hap]; first | done | rfl) (.inl rfl) rfl (by decide)) (by simp only [go_sem, Nat.reduceEqDiff, reduceIte, Nat.reduceAdd, Nat.reduceMul, Nat.reduceSub, Nat.reduceLT, Nat.reduceLeDiff, Nat.reduceBEq, g0, g1, hap]; first | done | rfl) rfl (by simp only [go_sem, Nat.reduceLT]) ?_; simp only [go_sem, Nat.reduceEqDiff, reduceIte, Nat.reduceAdd, Nat.reduceMul, Nat.reduceSub, Nat.reduceLT, Nat.reduceLeDiff, Nat.reduceBEq, g0, g1, hap]) | (refine qx (call_L (N' := [0]) (L := []) (k1) rfl (.cons (.nm rfl) (.cons (.nm rfl) (.nil))) (by decide) (by decide) (by decide) (by simp only [go_sem, Nat.reduceEqDiff, reduceIte, Nat.reduceAdd, Nat.reduceMul, Nat.reduceSub, Nat.reduceLT, Nat.reduceLeDiff, Nat.reduceBEq, g0, g1, hap]; first | done | rfl) (.inl rfl) rfl (by decide)) (by simp only [go_sem, Nat.reduceEqDiff, reduceIte, Nat.reduceAdd, Nat.reduceMul, Nat.reduceSub, Nat.reduceLT, Nat.reduceLeDiff, Nat.reduceBEq, g0, g1, hap]; first | done | rfl) rfl (by simp only [go_sem, Nat.reduceLT]) ?_; simp only [go_sem, Nat.reduceEqDiff, reduceIte, Nat.reduceAdd, Nat.reduceMul, Nat.reduceSub, Nat.reduceLT, Nat.reduceLeDiff, Nat.reduceBEq, g0, g1, hap]) | (refine qx (call_L (N' := [0]) (L := []) (k2) rfl (.cons (.nm rfl) (.cons (.nm rfl) (.nil))) (by decide) (by decide) (by decide) (by simp only [go_sem, Nat.reduceEqDiff, reduceIte, Nat.reduceAdd, Nat.reduceMul, Nat.reduceSub, Nat.reduceLT, Nat.reduceLeDiff, Nat.reduceBEq, g0, g1, hap]; first | done | rfl) (.inl rfl) rfl (by decide)) (by simp only [go_sem, Nat.reduceEqDiff, reduceIte, Nat.reduceAdd, Nat.reduceMul, Nat.reduceSub, Nat.reduceLT, Nat.reduceLeDiff, Nat.reduceBEq, g0, g1, hap]; first | done | rfl) rfl (by simp only [go_sem, Nat.reduceLT]) ?_; simp only [go_sem, Nat.reduceEqDiff, reduceIte, Nat.reduceAdd, Nat.reduceMul, Nat.reduceSub, Nat.reduceLT, Nat.reduceLeDiff, Nat.reduceBEq, g0, g1, hap]))
    exact Aw_ret (retL (M := [0, 13]) (.inl rfl) (by simp only [go_sem, Nat.reduceEqDiff, reduceIte, Nat.reduceAdd, Nat.reduceMul, Nat.reduceSub, Nat.reduceLT, Nat.reduceLeDiff, Nat.reduceBEq]; first | done | rfl) rfl rfl (by rfl) (by simp only [go_sem, Nat.reduceEqDiff, reduceIte, Nat.reduceAdd, Nat.reduceMul, Nat.reduceSub, Nat.reduceLT, Nat.reduceLeDiff, Nat.reduceBEq, List.map_append, List.map_cons, List.map_nil]; first | done | rfl | (and_intros <;> rfl)) (by decide) (by intro m hm; first | omega | (rcases m with _ | _ | _ | _ | _ | _ | m <;> first | exact ⟨by decide, rfl⟩ | omega)))
  · rw [hv] at k2
    have g1 : decide (((1 : Nat) : Int) = 0) = false := rfl
    have g2 : decide (((1 : Nat) : Int) = 1) = true := rfl
    rw [hv, if_neg (by decide)]
    have e1 : offE b (R.2 + 1 + 1) 1 = ⟨bs [100, 100, 100, 100, 100, 100], 0, false, 1⟩ := rfl
    rw [e1]
    refine AC_of Try.func82 rfl Try.ntmps82 Try.results82 (by kernel_rfl) rfl ?_
    simp only [List.zipIdx, List.map, Nat.zero_add, Nat.reduceAdd]
    repeat (first | apply Aw_seq | apply Aw_block | apply Aw_skip | apply Aw_exit | refine Aw_condt rfl ?_ | refine Aw_condf rfl ?_ | (refine qr ?_; simp only [go_sem, Nat.reduceEqDiff, reduceIte, Nat.reduceAdd, Nat.reduceMul, Nat.reduceSub, Nat.reduceLT, Nat.reduceLeDiff, Nat.reduceBEq, g0, g1, g2, hap]) | (refine qd (by kernel_rfl) (by kernel_rfl) ?_; simp only [go_sem, Nat.reduceEqDiff, reduceIte, Nat.reduceAdd, Nat.reduceMul, Nat.reduceSub, Nat.reduceLT, Nat.reduceLeDiff, Nat.reduceBEq, g0, g1, g2, hap]) | refine dk (by kernel_rfl) ?_ | (refine qx (call_L (N' := [0]) (L := []) (kr) rfl (.cons (.nm rfl) (.cons (.nm rfl) (.nil))) (by decide) (by decide) (by decide) (by simp only [go_sem, Nat.reduceEqDiff, reduceIte, Nat.reduceAdd, Nat.reduceMul, Nat.reduceSub, Nat.reduceLT, Nat.reduceLeDiff, Nat.reduceBEq, g0, g1, g2, hap]; first | done | rfl) (.inl rfl) rfl (by decide)) (by simp only [go_sem, Nat.reduceEqDiff, reduceIte, Nat.reduceAdd, Nat.reduceMul, Nat.reduceSub, Nat.reduceLT, Nat.reduceLeDiff, Nat.reduceBEq, g0, g1, g2, hap]; first | done | rfl) rfl (by simp only [go_sem, Nat.reduceLT]) ?_; simp only [go_sem, Nat.reduceEqDiff, reduceIte, Nat.reduceAdd, Nat.reduceMul, Nat.reduceSub, Nat.reduceLT, Nat.reduceLeDiff, Nat.reduceBEq, g0, g1, g2, hap]) | (refine qx (call_L (N' := [0]) (L := []) (k1) rfl (.cons (.nm rfl) (.cons (.nm rfl) (.nil))) (by decide) (by decide) (by decide) (by simp only [go_sem, Nat.reduceEqDiff, reduceIte, Nat.reduceAdd, Nat.reduceMul, Nat.reduceSub, Nat.reduceLT, Nat.reduceLeDiff, Nat.reduceBEq, g0, g1, g2, hap]; first | done | rfl) (.inl rfl) rfl (by decide)) (by simp only [go_sem, Nat.reduceEqDiff, reduceIte, Nat.reduceAdd, Nat.reduceMul, Nat.reduceSub, Nat.reduceLT, Nat.reduceLeDiff, Nat.reduceBEq, g0, g1, g2, hap]; first | done | rfl) rfl (by simp only [go_sem, Nat.reduceLT]) ?_; simp only [go_sem, Nat.reduceEqDiff, reduceIte, Nat.reduceAdd, Nat.reduceMul, Nat.reduceSub, Nat.reduceLT, Nat.reduceLeDiff, Nat.reduceBEq, g0, g1, g2, hap]) | (refine qx (call_L (N' := [0]) (L := []) (k2) rfl (.cons (.nm rfl) (.cons (.nm rfl) (.nil))) (by decide) (by decide) (by decide) (by simp only [go_sem, Nat.reduceEqDiff, reduceIte, Nat.reduceAdd, Nat.reduceMul, Nat.reduceSub, Nat.reduceLT, Nat.reduceLeDiff, Nat.reduceBEq, g0, g1, g2, hap]; first | done | rfl) (.inl rfl) rfl (by decide)) (by simp only [go_sem, Nat.reduceEqDiff, reduceIte, Nat.reduceAdd, Nat.reduceMul, Nat.reduceSub, Nat.reduceLT, Nat.reduceLeDiff, Nat.reduceBEq, g0, g1, g2, hap]; first | done | rfl) rfl (by simp only [go_sem, Nat.reduceLT]) ?_; simp only [go_sem, Nat.reduceEqDiff, reduceIte, Nat.reduceAdd, Nat.reduceMul, Nat.reduceSub, Nat.reduceLT, Nat.reduceLeDiff, Nat.reduceBEq, g0, g1, g2, hap]))
    exact Aw_ret (retL (M := [0, 15]) (.inl rfl) (by simp only [go_sem, Nat.reduceEqDiff, reduceIte, Nat.reduceAdd, Nat.reduceMul, Nat.reduceSub, Nat.reduceLT, Nat.reduceLeDiff, Nat.reduceBEq]; first | done | rfl) rfl rfl (by rfl) (by simp only [go_sem, Nat.reduceEqDiff, reduceIte, Nat.reduceAdd, Nat.reduceMul, Nat.reduceSub, Nat.reduceLT, Nat.reduceLeDiff, Nat.reduceBEq, List.map_append, List.map_cons, List.map_nil]; first | done | rfl | (and_intros <;> rfl)) (by decide) (by intro m hm; first | omega | (rcases m with _ | _ | _ | _ | _ | _ | m <;> first | exact ⟨by decide, rfl⟩ | omega)))
  · rw [hv] at k2
    have g1 : decide (((2 : Nat) : Int) = 0) = false := rfl
    have g2 : decide (((2 : Nat) : Int) = 1) = false := rfl
    have g3 : decide (((2 : Nat) : Int) = 2) = true := rfl
    rw [hv, if_neg (by decide)]
    have e1 : offE b (R.2 + 1 + 1) 2 = ⟨bs [100, 100, 100, 100, 100], 100, false, 1⟩ := rfl
    rw [e1]
    refine AC_of Try.func82 rfl Try.ntmps82 Try.results82 (by kernel_rfl) rfl ?_
    simp only [List.zipIdx, List.map, Nat.zero_add, Nat.reduceAdd]
    repeat (first | apply Aw_seq | apply Aw_block | apply Aw_skip | apply Aw_exit | refine Aw_condt rfl ?_ | refine Aw_condf rfl ?_ | (refine qr ?_; simp only [go_sem, Nat.reduceEqDiff, reduceIte, Nat.reduceAdd, Nat.reduceMul, Nat.reduceSub, Nat.reduceLT, Nat.reduceLeDiff, Nat.reduceBEq, g0, g1, g2, g3, hap]) | (refine qd (by kernel_rfl) (by kernel_rfl) ?_; simp only [go_sem, Nat.reduceEqDiff, reduceIte, Nat.reduceAdd, Nat.reduceMul, Nat.reduceSub, Nat.reduceLT, Nat.reduceLeDiff, Nat.reduceBEq, g0, g1, g2, g3, hap]) | refine dk (by kernel_rfl) ?_ | (refine qx (call_L (N' := [0]) (L := []) (kr) rfl (.cons (.nm rfl) (.cons (.nm rfl) (.nil))) (by decide) (by decide) (by decide) (by simp only [go_sem, Nat.reduceEqDiff, reduceIte, Nat.reduceAdd, Nat.reduceMul, Nat.reduceSub, Nat.reduceLT, Nat.reduceLeDiff, Nat.reduceBEq, g0, g1, g2, g3, hap]; first | done | rfl) (.inl rfl) rfl (by decide)) (by simp only [go_sem, Nat.reduceEqDiff, reduceIte, Nat.reduceAdd, Nat.reduceMul, Nat.reduceSub, Nat.reduceLT, Nat.reduceLeDiff, Nat.reduceBEq, g0, g1, g2, g3, hap]; first | done | rfl) rfl (by simp only [go_sem, Nat.reduceLT]) ?_; simp only [go_sem, Nat.reduceEqDiff, reduceIte, Nat.reduceAdd, Nat.reduceMul, Nat.reduceSub, Nat.reduceLT, Nat.reduceLeDiff, Nat.reduceBEq, g0, g1, g2, g3, hap]) | (refine qx (call_L (N' := [0]) (L := []) (k1) rfl (.cons (.nm rfl) (.cons (.nm rfl) (.nil))) (by decide) (by decide) (by decide) (by simp only [go_sem, Nat.reduceEqDiff, reduceIte, Nat.reduceAdd, Nat.reduceMul, Nat.reduceSub, Nat.reduceLT, Nat.reduceLeDiff, Nat.reduceBEq, g0, g1, g2, g3, hap]; first | done | rfl) (.inl rfl) rfl (by decide)) (by simp only [go_sem, Nat.reduceEqDiff, reduceIte, Nat.reduceAdd, Nat.reduceMul, Nat.reduceSub, Nat.reduceLT, Nat.reduceLeDiff, Nat.reduceBEq, g0, g1, g2, g3, hap]; first | done | rfl) rfl (by simp only [go_sem, Nat.reduceLT]) ?_; simp only [go_sem, Nat.reduceEqDiff, reduceIte, Nat.reduceAdd, Nat.reduceMul, Nat.reduceSub, Nat.reduceLT, Nat.reduceLeDiff, Nat.reduceBEq, g0, g1, g2, g3, hap]) | (refine qx (call_L (N' := [0]) (L := []) (k2) rfl (.cons (.nm rfl) (.cons (.nm rfl) (.nil))) (by decide) (by decide) (by decide) (by simp only [go_sem, Nat.reduceEqDiff, reduceIte, Nat.reduceAdd, Nat.reduceMul, Nat.reduceSub, Nat.reduceLT, Nat.reduceLeDiff, Nat.reduceBEq, g0, g1, g2, g3, hap]; first | done | rfl) (.inl rfl) rfl (by decide)) (by simp only [go_sem, Nat.reduceEqDiff, reduceIte, Nat.reduceAdd, Nat.reduceMul, Nat.reduceSub, Nat.reduceLT, Nat.reduceLeDiff, Nat.reduceBEq, g0, g1, g2, g3, hap]; first | done | rfl) rfl (by simp only [go_sem, Nat.reduceLT]) ?_; simp only [go_sem, Nat.reduceEqDiff, reduceIte, Nat.reduceAdd, Nat.reduceMul, Nat.reduceSub, Nat.reduceLT, Nat.reduceLeDiff, Nat.reduceBEq, g0, g1, g2, g3, hap]))
    exact Aw_ret (retL (M := [0, 17]) (.inl rfl) (by simp only [go_sem, Nat.reduceEqDiff, reduceIte, Nat.reduceAdd, Nat.reduceMul, Nat.reduceSub, Nat.reduceLT, Nat.reduceLeDiff, Nat.reduceBEq]; first | done | rfl) rfl rfl (by rfl) (by simp only [go_sem, Nat.reduceEqDiff, reduceIte, Nat.reduceAdd, Nat.reduceMul, Nat.reduceSub, Nat.reduceLT, Nat.reduceLeDiff, Nat.reduceBEq, List.map_append, List.map_cons, List.map_nil]; first | done | rfl | (and_intros <;> rfl)) (by decide) (by intro m hm; first | omega | (rcases m with _ | _ | _ | _ | _ | _ | m <;> first | exact ⟨by decide, rfl⟩ | omega)))
  · rw [hv] at k2
    have g1 : decide (((3 : Nat) : Int) = 0) = false := rfl
    have g2 : decide (((3 : Nat) : Int) = 1) = false := rfl
    have g3 : decide (((3 : Nat) : Int) = 2) = false := rfl
    have g4 : decide (((3 : Nat) : Int) = 3) = true := rfl
    rw [hv, if_pos rfl]
    have h2 := pickV_lt (n := 2) hb (show R.2 + 1 + 1 ≤ 1000000 by omega) (by omega) (by omega)
    have hd : pickV b (R.2 + 1 + 1) 2 = 0 ∨ pickV b (R.2 + 1 + 1) 2 = 1 := by omega
    rcases hd with hw | hw
    · rw [hw] at k3
      have e1 : offE b (R.2 + 1 + 1) 3 = ⟨bs [100, 100, 100, 100, 100], 0, false, 0⟩ := by unfold offE; simp only [hw]; rfl
      rw [e1]
      refine AC_of Try.func82 rfl Try.ntmps82 Try.results82 (by kernel_rfl) rfl ?_
      simp only [List.zipIdx, List.map, Nat.zero_add, Nat.reduceAdd]
      repeat (first | apply Aw_seq | apply Aw_block | apply Aw_skip | apply Aw_exit | refine Aw_condt rfl ?_ | refine Aw_condf rfl ?_ | (refine qr ?_; simp only [go_sem, Nat.reduceEqDiff, reduceIte, Nat.reduceAdd, Nat.reduceMul, Nat.reduceSub, Nat.reduceLT, Nat.reduceLeDiff, Nat.reduceBEq, g0, g1, g2, g3, g4, hap]) | (refine qd (by kernel_rfl) (by kernel_rfl) ?_; simp only [go_sem, Nat.reduceEqDiff, reduceIte, Nat.reduceAdd, Nat.reduceMul, Nat.reduceSub, Nat.reduceLT, Nat.reduceLeDiff, Nat.reduceBEq, g0, g1, g2, g3, g4, hap]) | refine dk (by kernel_rfl) ?_ | (refine qx (call_L (N' := [0]) (L := []) (kr) rfl (.cons (.nm rfl) (.cons (.nm rfl) (.nil))) (by decide) (by decide) (by decide) (by simp only [go_sem, Nat.reduceEqDiff, reduceIte, Nat.reduceAdd, Nat.reduceMul, Nat.reduceSub, Nat.reduceLT, Nat.reduceLeDiff, Nat.reduceBEq, g0, g1, g2, g3, g4, hap]; first | done | rfl) (.inl rfl) rfl (by decide)) (by simp only [go_sem, Nat.reduceEqDiff, reduceIte, Nat.reduceAdd, Nat.reduceMul, Nat.reduceSub, Nat.reduceLT, Nat.reduceLeDiff, Nat.reduceBEq, g0, g1, g2, g3, g4, hap]; first | done | rfl) rfl (by simp only [go_sem, Nat.reduceLT]) ?_; simp only [go_sem, Nat.reduceEqDiff, reduceIte, Nat.reduceAdd, Nat.reduceMul, Nat.reduceSub, Nat.reduceLT, Nat.reduceLeDiff, Nat.reduceBEq, g0, g1, g2, g3, g4, hap]) | (refine qx (call_L (N' := [0]) (L := []) (k1) rfl (.cons (.nm rfl) (.cons (.nm rfl) (.nil))) (by decide) (by decide) (by decide) (by simp only [go_sem, Nat.reduceEqDiff, reduceIte, Nat.reduceAdd, Nat.reduceMul, Nat.reduceSub, Nat.reduceLT, Nat.reduceLeDiff, Nat.reduceBEq, g0, g1, g2, g3, g4, hap]; first | done | rfl) (.inl rfl) rfl (by decide)) (by simp only [go_sem, Nat.reduceEqDiff, reduceIte, Nat.reduceAdd, Nat.reduceMul, Nat.reduceSub, Nat.reduceLT, Nat.reduceLeDiff, Nat.reduceBEq, g0, g1, g2, g3, g4, hap]; first | done | rfl) rfl (by simp only [go_sem, Nat.reduceLT]) ?_; simp only [go_sem, Nat.reduceEqDiff, reduceIte, Nat.reduceAdd, Nat.reduceMul, Nat.reduceSub, Nat.reduceLT, Nat.reduceLeDiff, Nat.reduceBEq, g0, g1, g2, g3, g4, hap]) | (refine qx (call_L (N' := [0]) (L := []) (k2) rfl (.cons (.nm rfl) (.cons (.nm rfl) (.nil))) (by decide) (by decide) (by decide) (by simp only [go_sem, Nat.reduceEqDiff, reduceIte, Nat.reduceAdd, Nat.reduceMul, Nat.reduceSub, Nat.reduceLT, Nat.reduceLeDiff, Nat.reduceBEq, g0, g1, g2, g3, g4, hap]; first | done | rfl) (.inl rfl) rfl (by decide)) (by simp only [go_sem, Nat.reduceEqDiff, reduceIte, Nat.reduceAdd, Nat.reduceMul, Nat.reduceSub, Nat.reduceLT, Nat.reduceLeDiff, Nat.reduceBEq, g0, g1, g2, g3, g4, hap]; first | done | rfl) rfl (by simp only [go_sem, Nat.reduceLT]) ?_; simp only [go_sem, Nat.reduceEqDiff, reduceIte, Nat.reduceAdd, Nat.reduceMul, Nat.reduceSub, Nat.reduceLT, Nat.reduceLeDiff, Nat.reduceBEq, g0, g1, g2, g3, g4, hap]) | (refine qx (call_L (N' := [0]) (L := []) (k3) rfl (.cons (.nm rfl) (.cons (.nm rfl) (.nil))) (by decide) (by decide) (by decide) (by simp only [go_sem, Nat.reduceEqDiff, reduceIte, Nat.reduceAdd, Nat.reduceMul, Nat.reduceSub, Nat.reduceLT, Nat.reduceLeDiff, Nat.reduceBEq, g0, g1, g2, g3, g4, hap]; first | done | rfl) (.inl rfl) rfl (by decide)) (by simp only [go_sem, Nat.reduceEqDiff, reduceIte, Nat.reduceAdd, Nat.reduceMul, Nat.reduceSub, Nat.reduceLT, Nat.reduceLeDiff, Nat.reduceBEq, g0, g1, g2, g3, g4, hap]; first | done | rfl) rfl (by simp only [go_sem, Nat.reduceLT]) ?_; simp only [go_sem, Nat.reduceEqDiff, reduceIte, Nat.reduceAdd, Nat.reduceMul, Nat.reduceSub, Nat.reduceLT, Nat.reduceLeDiff, Nat.reduceBEq, g0, g1, g2, g3, g4, hap]))
      exact Aw_ret (retL (M := [0, 23]) (.inl rfl) (by simp only [go_sem, Nat.reduceEqDiff, reduceIte, Nat.reduceAdd, Nat.reduceMul, Nat.reduceSub, Nat.reduceLT, Nat.reduceLeDiff, Nat.reduceBEq]; first | done | rfl) rfl rfl (by rfl) (by simp only [go_sem, Nat.reduceEqDiff, reduceIte, Nat.reduceAdd, Nat.reduceMul, Nat.reduceSub, Nat.reduceLT, Nat.reduceLeDiff, Nat.reduceBEq, List.map_append, List.map_cons, List.map_nil]; first | done | rfl | (and_intros <;> rfl)) (by decide) (by intro m hm; first | omega | (rcases m with _ | _ | _ | _ | _ | _ | m <;> first | exact ⟨by decide, rfl⟩ | omega)))
    · rw [hw] at k3
      have e1 : offE b (R.2 + 1 + 1) 3 = ⟨bs [100, 100, 100, 100, 100], 0, false, 1000⟩ := by unfold offE; simp only [hw]; rfl
      rw [e1]
      refine AC_of Try.func82 rfl Try.ntmps82 Try.results82 (by kernel_rfl) rfl ?_
      simp only [List.zipIdx, List.map, Nat.zero_add, Nat.reduceAdd]
      repeat (first | apply Aw_seq | apply Aw_block | apply Aw_skip | apply Aw_exit | refine Aw_condt rfl ?_ | refine Aw_condf rfl ?_ | (refine qr ?_; simp only [go_sem, Nat.reduceEqDiff, reduceIte, Nat.reduceAdd, Nat.reduceMul, Nat.reduceSub, Nat.reduceLT, Nat.reduceLeDiff, Nat.reduceBEq, g0, g1, g2, g3, g4, hap]) | (refine qd (by kernel_rfl) (by kernel_rfl) ?_; simp only [go_sem, Nat.reduceEqDiff, reduceIte, Nat.reduceAdd, Nat.reduceMul, Nat.reduceSub, Nat.reduceLT, Nat.reduceLeDiff, Nat.reduceBEq, g0, g1, g2, g3, g4, hap]) | refine dk (by kernel_rfl) ?_ | (refine qx (call_L (N' := [0]) (L := []) (kr) rfl (.cons (.nm rfl) (.cons (.nm rfl) (.nil))) (by decide) (by decide) (by decide) (by simp only [go_sem, Nat.reduceEqDiff, reduceIte, Nat.reduceAdd, Nat.reduceMul, Nat.reduceSub, Nat.reduceLT, Nat.reduceLeDiff, Nat.reduceBEq, g0, g1, g2, g3, g4, hap]; first | done | rfl) (.inl rfl) rfl (by decide)) (by simp only [go_sem, Nat.reduceEqDiff, reduceIte, Nat.reduceAdd, Nat.reduceMul, Nat.reduceSub, Nat.reduceLT, Nat.reduceLeDiff, Nat.reduceBEq, g0, g1, g2, g3, g4, hap]; first | done | rfl) rfl (by simp only [go_sem, Nat.reduceLT]) ?_; simp only [go_sem, Nat.reduceEqDiff, reduceIte, Nat.reduceAdd, Nat.reduceMul, Nat.reduceSub, Nat.reduceLT, Nat.reduceLeDiff, Nat.reduceBEq, g0, g1, g2, g3, g4, hap]) | (refine qx (call_L (N' := [0]) (L := []) (k1) rfl (.cons (.nm rfl) (.cons (.nm rfl) (.nil))) (by decide) (by decide) (by decide) (by simp only [go_sem, Nat.reduceEqDiff, reduceIte, Nat.reduceAdd, Nat.reduceMul, Nat.reduceSub, Nat.reduceLT, Nat.reduceLeDiff, Nat.reduceBEq, g0, g1, g2, g3, g4, hap]; first | done | rfl) (.inl rfl) rfl (by decide)) (by simp only [go_sem, Nat.reduceEqDiff, reduceIte, Nat.reduceAdd, Nat.reduceMul, Nat.reduceSub, Nat.reduceLT, Nat.reduceLeDiff, Nat.reduceBEq, g0, g1, g2, g3, g4, hap]; first | done | rfl) rfl (by simp only [go_sem, Nat.reduceLT]) ?_; simp only [go_sem, Nat.reduceEqDiff, reduceIte, Nat.reduceAdd, Nat.reduceMul, Nat.reduceSub, Nat.reduceLT, Nat.reduceLeDiff, Nat.reduceBEq, g0, g1, g2, g3, g4, hap]) | (refine qx (call_L (N' := [0]) (L := []) (k2) rfl (.cons (.nm rfl) (.cons (.nm rfl) (.nil))) (by decide) (by decide) (by decide) (by simp only [go_sem, Nat.reduceEqDiff, reduceIte, Nat.reduceAdd, Nat.reduceMul, Nat.reduceSub, Nat.reduceLT, Nat.reduceLeDiff, Nat.reduceBEq, g0, g1, g2, g3, g4, hap]; first | done | rfl) (.inl rfl) rfl (by decide)) (by simp only [go_sem, Nat.reduceEqDiff, reduceIte, Nat.reduceAdd, Nat.reduceMul, Nat.reduceSub, Nat.reduceLT, Nat.reduceLeDiff, Nat.reduceBEq, g0, g1, g2, g3, g4, hap]; first | done | rfl) rfl (by simp only [go_sem, Nat.reduceLT]) ?_; simp only [go_sem, Nat.reduceEqDiff, reduceIte, Nat.reduceAdd, Nat.reduceMul, Nat.reduceSub, Nat.reduceLT, Nat.reduceLeDiff, Nat.reduceBEq, g0, g1, g2, g3, g4, hap]) | (refine qx (call_L (N' := [0]) (L := []) (k3) rfl (.cons (.nm rfl) (.cons (.nm rfl) (.nil))) (by decide) (by decide) (by decide) (by simp only [go_sem, Nat.reduceEqDiff, reduceIte, Nat.reduceAdd, Nat.reduceMul, Nat.reduceSub, Nat.reduceLT, Nat.reduceLeDiff, Nat.reduceBEq, g0, g1, g2, g3, g4, hap]; first | done | rfl) (.inl rfl) rfl (by decide)) (by simp only [go_sem, Nat.reduceEqDiff, reduceIte, Nat.reduceAdd, Nat.reduceMul, Nat.reduceSub, Nat.reduceLT, Nat.reduceLeDiff, Nat.reduceBEq, g0, g1, g2, g3, g4, hap]; first | done | rfl) rfl (by simp only [go_sem, Nat.reduceLT]) ?_; simp only [go_sem, Nat.reduceEqDiff, reduceIte, Nat.reduceAdd, Nat.reduceMul, Nat.reduceSub, Nat.reduceLT, Nat.reduceLeDiff, Nat.reduceBEq, g0, g1, g2, g3, g4, hap]))
      exact Aw_ret (retL (M := [0, 23]) (.inl rfl) (by simp only [go_sem, Nat.reduceEqDiff, reduceIte, Nat.reduceAdd, Nat.reduceMul, Nat.reduceSub, Nat.reduceLT, Nat.reduceLeDiff, Nat.reduceBEq]; first | done | rfl) rfl rfl (by rfl) (by simp only [go_sem, Nat.reduceEqDiff, reduceIte, Nat.reduceAdd, Nat.reduceMul, Nat.reduceSub, Nat.reduceLT, Nat.reduceLeDiff, Nat.reduceBEq, List.map_append, List.map_cons, List.map_nil]; first | done | rfl | (and_intros <;> rfl)) (by decide) (by intro m hm; first | omega | (rcases m with _ | _ | _ | _ | _ | _ | m <;> first | exact ⟨by decide, rfl⟩ | omega)))
  · rw [hv] at k2
    have g1 : decide (((4 : Nat) : Int) = 0) = false := rfl
    have g2 : decide (((4 : Nat) : Int) = 1) = false := rfl
    have g3 : decide (((4 : Nat) : Int) = 2) = false := rfl
    have g4 : decide (((4 : Nat) : Int) = 3) = false := rfl
    rw [hv, if_neg (by decide)]
    have e1 : offE b (R.2 + 1 + 1) 4 = ⟨bs [100, 100, 100, 100, 100], 1, true, 1⟩ := rfl
    rw [e1]
    refine AC_of Try.func82 rfl Try.ntmps82 Try.results82 (by kernel_rfl) rfl ?_
    simp only [List.zipIdx, List.map, Nat.zero_add, Nat.reduceAdd]
    repeat (first | apply Aw_seq | apply Aw_block | apply Aw_skip | apply Aw_exit | refine Aw_condt rfl ?_ | refine Aw_condf rfl ?_ | (refine qr ?_; simp only [go_sem, Nat.reduceEqDiff, reduceIte, Nat.reduceAdd, Nat.reduceMul, Nat.reduceSub, Nat.reduceLT, Nat.reduceLeDiff, Nat.reduceBEq, g0, g1, g2, g3, g4, hap]) | (refine qd (by kernel_rfl) (by kernel_rfl) ?_; simp only [go_sem, Nat.reduceEqDiff, reduceIte, Nat.reduceAdd, Nat.reduceMul, Nat.reduceSub, Nat.reduceLT, Nat.reduceLeDiff, Nat.reduceBEq, g0, g1, g2, g3, g4, hap]) | refine dk (by kernel_rfl) ?_ | (refine qx (call_L (N' := [0]) (L := []) (kr) rfl (.cons (.nm rfl) (.cons (.nm rfl) (.nil))) (by decide) (by decide) (by decide) (by simp only [go_sem, Nat.reduceEqDiff, reduceIte, Nat.reduceAdd, Nat.reduceMul, Nat.reduceSub, Nat.reduceLT, Nat.reduceLeDiff, Nat.reduceBEq, g0, g1, g2, g3, g4, hap]; first | done | rfl) (.inl rfl) rfl (by decide)) (by simp only [go_sem, Nat.reduceEqDiff, reduceIte, Nat.reduceAdd, Nat.reduceMul, Nat.reduceSub, Nat.reduceLT, Nat.reduceLeDiff, Nat.reduceBEq, g0, g1, g2, g3, g4, hap]; first | done | rfl) rfl (by simp only [go_sem, Nat.reduceLT]) ?_; simp only [go_sem, Nat.reduceEqDiff, reduceIte, Nat.reduceAdd, Nat.reduceMul, Nat.reduceSub, Nat.reduceLT, Nat.reduceLeDiff, Nat.reduceBEq, g0, g1, g2, g3, g4, hap]) | (refine qx (call_L (N' := [0]) (L := []) (k1) rfl (.cons (.nm rfl) (.cons (.nm rfl) (.nil))) (by decide) (by decide) (by decide) (by simp only [go_sem, Nat.reduceEqDiff, reduceIte, Nat.reduceAdd, Nat.reduceMul, Nat.reduceSub, Nat.reduceLT, Nat.reduceLeDiff, Nat.reduceBEq, g0, g1, g2, g3, g4, hap]; first | done | rfl) (.inl rfl) rfl (by decide)) (by simp only [go_sem, Nat.reduceEqDiff, reduceIte, Nat.reduceAdd, Nat.reduceMul, Nat.reduceSub, Nat.reduceLT, Nat.reduceLeDiff, Nat.reduceBEq, g0, g1, g2, g3, g4, hap]; first | done | rfl) rfl (by simp only [go_sem, Nat.reduceLT]) ?_; simp only [go_sem, Nat.reduceEqDiff, reduceIte, Nat.reduceAdd, Nat.reduceMul, Nat.reduceSub, Nat.reduceLT, Nat.reduceLeDiff, Nat.reduceBEq, g0, g1, g2, g3, g4, hap]) | (refine qx (call_L (N' := [0]) (L := []) (k2) rfl (.cons (.nm rfl) (.cons (.nm rfl) (.nil))) (by decide) (by decide) (by decide) (by simp only [go_sem, Nat.reduceEqDiff, reduceIte, Nat.reduceAdd, Nat.reduceMul, Nat.reduceSub, Nat.reduceLT, Nat.reduceLeDiff, Nat.reduceBEq, g0, g1, g2, g3, g4, hap]; first | done | rfl) (.inl rfl) rfl (by decide)) (by simp only [go_sem, Nat.reduceEqDiff, reduceIte, Nat.reduceAdd, Nat.reduceMul, Nat.reduceSub, Nat.reduceLT, Nat.reduceLeDiff, Nat.reduceBEq, g0, g1, g2, g3, g4, hap]; first | done | rfl) rfl (by simp only [go_sem, Nat.reduceLT]) ?_; simp only [go_sem, Nat.reduceEqDiff, reduceIte, Nat.reduceAdd, Nat.reduceMul, Nat.reduceSub, Nat.reduceLT, Nat.reduceLeDiff, Nat.reduceBEq, g0, g1, g2, g3, g4, hap]))
    exact Aw_ret (retL (M := [0, 19]) (.inl rfl) (by simp only [go_sem, Nat.reduceEqDiff, reduceIte, Nat.reduceAdd, Nat.reduceMul, Nat.reduceSub, Nat.reduceLT, Nat.reduceLeDiff, Nat.reduceBEq]; first | done | rfl) rfl rfl (by rfl) (by simp only [go_sem, Nat.reduceEqDiff, reduceIte, Nat.reduceAdd, Nat.reduceMul, Nat.reduceSub, Nat.reduceLT, Nat.reduceLeDiff, Nat.reduceBEq, List.map_append, List.map_cons, List.map_nil]; first | done | rfl | (and_intros <;> rfl)) (by decide) (by intro m hm; first | omega | (rcases m with _ | _ | _ | _ | _ | _ | m <;> first | exact ⟨by decide, rfl⟩ | omega)))
end Go.Proofs.Ytcbhgglpgphimaa.Ab
namespace Go.Proofs.Ytcbhgglpgphimaa.Ab
set_option linter.deprecated false
set_option linter.unusedVariables false
set_option linter.unusedSimpArgs false
open Go Go.Proofs Go.Shelf Go.Sort
set_option maxRecDepth 10000
set_option linter.unusedSimpArgs false
set_option linter.unusedVariables false
def Try.lSort_ren : Go.Shelf.Ren := ⟨fun | 190 => 80 | 125 => 127 | 258 => 126 | 128 => 163 | 129 => 164 | 302 => 154 | 303 => 155 | 304 => 156 | 305 => 157 | 306 => 158 | 307 => 159 | 308 => 160 | 309 => 161 | 310 => 162 | 333 => 183 | 329 => 184 | 330 => 185 | 334 => 186 | 335 => 187 | 336 => 188 | 344 => 205 | n => n, fun | 31 => 52 | 9 => 9 | 3 => 3 | 46 => 144 | 0 => 0 | 51 => 171 | 53 => 173 | 4 => 4 | 183 => 165 | 182 => 164 | 131 => 44 | 5 => 5 | 218 => 195 | 222 => 199 | 228 => 211 | 229 => 152 | n => n, fun | n => n⟩
theorem Try.lSort : Go.Proofs.Lays.n190 Try.prog Try.lSort_ren := {
  mixed := by kernel_rfl
  f125 := Try.func127.trans (congrArg some (by kernel_rfl))
  f128 := Try.func163.trans (congrArg some (by kernel_rfl))
  f129 := Try.func164.trans (congrArg some (by kernel_rfl))
  f190 := Try.func80.trans (congrArg some (by kernel_rfl))
  f258 := Try.func126.trans (congrArg some (by kernel_rfl))
  f302 := Try.func154.trans (congrArg some (by kernel_rfl))
  f303 := Try.func155.trans (congrArg some (by kernel_rfl))
  f304 := Try.func156.trans (congrArg some (by kernel_rfl))
  f305 := Try.func157.trans (congrArg some (by kernel_rfl))
  f306 := Try.func158.trans (congrArg some (by kernel_rfl))
  f307 := Try.func159.trans (congrArg some (by kernel_rfl))
  f308 := Try.func160.trans (congrArg some (by kernel_rfl))
  f309 := Try.func161.trans (congrArg some (by kernel_rfl))
  f310 := Try.func162.trans (congrArg some (by kernel_rfl))
  f329 := Try.func184.trans (congrArg some (by kernel_rfl))
  f330 := Try.func185.trans (congrArg some (by kernel_rfl))
  f333 := Try.func183.trans (congrArg some (by kernel_rfl))
  f334 := Try.func186.trans (congrArg some (by kernel_rfl))
  f335 := Try.func187.trans (congrArg some (by kernel_rfl))
  f336 := Try.func188.trans (congrArg some (by kernel_rfl))
  f344 := Try.func205.trans (congrArg some (by kernel_rfl))
  t0 := Try.underlying0
  a0 := Try.isAgg0
  z0 := Try.sizeOf0
  v0 := Try.zeroValue0
  t3 := Try.underlying3
  a3 := Try.isAgg3
  z3 := Try.sizeOf3
  v3 := Try.zeroValue3
  t4 := Try.underlying4
  a4 := Try.isAgg4
  z4 := Try.sizeOf4
  v4 := Try.zeroValue4
  t5 := Try.underlying5
  a5 := Try.isAgg5
  z5 := Try.sizeOf5
  v5 := Try.zeroValue5
  t9 := Try.underlying9
  a9 := Try.isAgg9
  z9 := Try.sizeOf9
  v9 := Try.zeroValue9
  t31 := Try.underlying52
  a31 := Try.isAgg52
  z31 := Try.sizeOf52
  v31 := Try.zeroValue52
  t46 := Try.underlying144
  a46 := Try.isAgg144
  z46 := Try.sizeOf144
  v46 := Try.zeroValue144
  t51 := Try.underlying171
  a51 := Try.isAgg171
  z51 := Try.sizeOf171
  v51 := Try.zeroValue171
  t53 := Try.underlying173
  a53 := Try.isAgg173
  z53 := Try.sizeOf173
  v53 := Try.zeroValue173
  t131 := Try.underlying44
  a131 := Try.isAgg44
  z131 := Try.sizeOf44
  v131 := Try.zeroValue44
  t182 := Try.underlying164
  a182 := Try.isAgg164
  z182 := Try.sizeOf164
  v182 := Try.zeroValue164
  t183 := Try.underlying165
  a183 := Try.isAgg165
  z183 := Try.sizeOf165
  v183 := Try.zeroValue165
  t218 := Try.underlying195
  a218 := Try.isAgg195
  z218 := Try.sizeOf195
  v218 := Try.zeroValue195
  t222 := Try.underlying199
  a222 := Try.isAgg199
  z222 := Try.sizeOf199
  v222 := Try.zeroValue199
  t228 := Try.underlying211
  a228 := Try.isAgg211
  z228 := Try.sizeOf211
  v228 := Try.zeroValue211
  t229 := Try.underlying152
  a229 := Try.isAgg152
  z229 := Try.sizeOf152
  v229 := Try.zeroValue152 }
def Try.lComp_ren : Go.Shelf.Ren := ⟨fun | 194 => 81 | n => n, fun | 31 => 52 | 9 => 9 | 3 => 3 | 4 => 4 | 0 => 0 | n => n, fun | n => n⟩
theorem Try.lComp : Go.Proofs.Lays.n194 Try.prog Try.lComp_ren := {
  mixed := by kernel_rfl
  f194 := Try.func81.trans (congrArg some (by kernel_rfl))
  t0 := Try.underlying0
  a0 := Try.isAgg0
  z0 := Try.sizeOf0
  v0 := Try.zeroValue0
  t3 := Try.underlying3
  a3 := Try.isAgg3
  z3 := Try.sizeOf3
  v3 := Try.zeroValue3
  t4 := Try.underlying4
  a4 := Try.isAgg4
  z4 := Try.sizeOf4
  v4 := Try.zeroValue4
  t9 := Try.underlying9
  a9 := Try.isAgg9
  z9 := Try.sizeOf9
  v9 := Try.zeroValue9
  t31 := Try.underlying52
  a31 := Try.isAgg52
  z31 := Try.sizeOf52
  v31 := Try.zeroValue52 }
def bsOf (l : List UInt8) : ByteArray := ⟨l.toArray⟩
def u8s (x : ByteArray) : List UInt8 := x.data.toList
theorem bs_u8 (x : ByteArray) : bsOf (u8s x) = x := by cases x; simp [bsOf, u8s]
theorem u8_bs (l : List UInt8) : u8s (bsOf l) = l := by simp [bsOf, u8s]
def sortK (xs : List ByteArray) : List ByteArray := ((xs.map u8s).mergeSort (fun x y => decide (x ≤ y))).map bsOf
def compK (xs : List ByteArray) : List ByteArray := (Lib.compact (xs.map u8s)).map bsOf
theorem sortK_u8 (xs : List ByteArray) : (sortK xs).map u8s = (xs.map u8s).mergeSort (fun x y => decide (x ≤ y)) := by
  unfold sortK; rw [List.map_map]; conv => rhs; rw [← List.map_id ((xs.map u8s).mergeSort _)]
  exact List.map_congr_left fun l _ => u8_bs l
theorem compK_u8 (xs : List ByteArray) : (compK xs).map u8s = Lib.compact (xs.map u8s) := by
  unfold compK; rw [List.map_map]; conv => rhs; rw [← List.map_id (Lib.compact (xs.map u8s))]
  exact List.map_congr_left fun l _ => u8_bs l
theorem sortK_len (xs : List ByteArray) : (sortK xs).length = xs.length := by simp [sortK, List.length_mergeSort]
theorem compK_len (xs : List ByteArray) : (compK xs).length ≤ xs.length := by
  have := Lib.compact_length_le (xs.map u8s); simpa [compK] using this
theorem enc_u8 (xs : List ByteArray) : (xs.map u8s).map encStr = xs.map Value.string := by
  rw [List.map_map]; exact List.map_congr_left fun x _ => by simp [encStr, u8s]
theorem own_nil {w : World} {e : Nat} {n : Nat} {vs : List Value} (h : w.ownsRow 0 e 1 (.slice none 0 0) n vs) : n = 0 := by
  rcases h.2 with ⟨_, h⟩ | ⟨_, _, _, h, _⟩
  · exact h
  · cases h
theorem sort_calls (v : Value) (xs : List ByteArray) (w : World) (hrow : w.ownsRow 0 9 1 v xs.length (xs.map Value.string)) (hn : xs.length ≤ 1000000000000000) :
    Calls Try.prog 80 #[v] w fun e w' => e = .returned (.tuple #[]) ∧ w'.ownsRow 0 9 1 v xs.length ((sortK xs).map Value.string) ∧ w.grownBy w' v.ownBlock := by
  rw [← enc_u8] at hrow
  by_cases hv : v = .slice none 0 0
  · subst hv
    have h0 : xs = [] := List.eq_nil_of_length_eq_zero (own_nil hrow)
    subst h0
    refine (Any.slices_Sort_string_none Try.lSort none 0 w).mono ?_
    rintro e w' ⟨rfl, rfl⟩
    exact ⟨rfl, by simpa [sortK] using hrow, rfl, rfl, rfl, Nat.le_refl _, fun _ _ _ => rfl⟩
  obtain ⟨g, cap, rfl, hbg, hgl, hncap, hcm, hlen, hH⟩ := Lib.holds_of_ownsRow hrow hv
  have hs := Any.slices_Sort_string Try.lSort g 0 cap (xs.map u8s) w hH hgl (by simp; omega)
  rw [List.length_map] at hs
  refine hs.mono ?_
  rintro e w' ⟨rfl, n, os, rfl⟩
  rcases hrow.2 with ⟨h0, _⟩ | ⟨g', cap', cur, hv', hbase, hb, h1, h2, h3, h4⟩
  · cases h0
  cases hv'
  refine ⟨rfl, ?_, ?_⟩
  · have := ownsRow_sorted (w := w) (n := n) (os := os) (ss := xs.map u8s) (ts := (xs.map u8s).mergeSort fun x y => decide (x ≤ y)) (List.length_mergeSort _) hbase hb (by simpa using h1) h2 h3
    rw [← sortK_u8, enc_u8, List.length_map] at this
    rw [← sortK_u8]
    exact this
  · obtain ⟨a, b, c, d, f⟩ := grownBy_sorted (w := w) (g := g) (n := n) (os := os) ((xs.map u8s).mergeSort fun x y => decide (x ≤ y)).toArray
    exact ⟨a, b, c, d, fun k hk hne => f k hk (by simpa [Value.ownBlock] using hne)⟩
theorem comp_calls (v : Value) (xs : List ByteArray) (w : World) (hrow : w.ownsRow 0 9 1 v xs.length (xs.map Value.string)) (hn : xs.length ≤ 1000000000000000) :
    Calls Try.prog 81 #[v] w fun e w' => ∃ v', e = .returned v' ∧ v'.ownBlock = v.ownBlock ∧ w'.ownsRow 0 9 1 v' (compK xs).length ((compK xs).map Value.string) ∧ w.grownBy w' v.ownBlock := by
  rw [← enc_u8] at hrow
  by_cases hv : v = .slice none 0 0
  · subst hv
    have h0 : xs = [] := List.eq_nil_of_length_eq_zero (own_nil hrow)
    subst h0
    refine (Any.slices_Compact_string_empty Try.lComp none 0 w).mono ?_
    rintro e w' ⟨rfl, rfl⟩
    exact ⟨_, rfl, rfl, by simpa [compK, Lib.compact, Lib.compactUpTo] using hrow, rfl, rfl, rfl, Nat.le_refl _, fun _ _ _ => rfl⟩
  obtain ⟨g, cap, rfl, hbg, hgl, hncap, hcm, hlen, hH⟩ := Lib.holds_of_ownsRow hrow hv
  have hs := Any.slices_Compact_string Try.lComp g 0 cap (xs.map u8s) w hH (by simp; omega) (by simpa using hncap)
  rw [List.length_map] at hs
  refine hs.mono ?_
  rintro e w' ⟨rfl, q, rfl⟩
  have hle := compK_len xs
  have hle2 : (Lib.compact (xs.map u8s)).length ≤ xs.length := by simpa [compK] using hle
  refine ⟨_, rfl, rfl, ?_, rfl, rfl, rfl, ?_, ?_⟩
  · have := Lib.ownsRow_putRow (q := q) (k := (Lib.compact (xs.map u8s)).length) (ys := Lib.compact (xs.map u8s) ++ List.replicate (xs.length - (Lib.compact (xs.map u8s)).length) []) hrow (by simp; omega) (by omega)
    rw [List.take_left] at this
    rw [← compK_u8, enc_u8] at this
    rw [show (compK xs).length = (Lib.compact (xs.map u8s)).length by simp [compK], ← compK_u8]
    exact this
  · simp [putRow, mapBlock, Sort.ahead]
  · intro k hk hne
    have : g ≠ k := fun e => hne (by simp [Value.ownBlock, e])
    simp [putRow, mapBlock, Sort.ahead, Array.getElem?_modify, this]
end Go.Proofs.Ytcbhgglpgphimaa.Ab
namespace Go.Proofs.Ytcbhgglpgphimaa.Ab
set_option linter.deprecated false
set_option linter.unusedVariables false
set_option linter.unusedSimpArgs false
open Go Go.Proofs
set_option maxRecDepth 10000
set_option linter.unusedSimpArgs false
set_option linter.unusedVariables false
/-- Row m is changed where it lies. -/
theorem renew_same {c : Cx} {hp : Hp} (g : Good c hp) {m : Nat} {q : Obj} (hq : hp m = some q) (hrow : q.row = true) {w' : World} {els : List (List CV)} {xs : List Value} (hg : c.w.grownBy w' (c.hd m).ownBlock) (hE : RepE c q.k els xs)
    (hown : w'.ownsRow 0 q.e q.k (c.hd m) els.length xs) :
    Tr c hp (c.at w') (upd hp m (some { q with els := els })) ∧ Good (c.at w') (upd hp m (some { q with els := els })) := by
  have hbm : blk c m q = (c.hd m).ownBlock := by unfold blk; rw [if_pos hrow]
  have hbm' : blk c m { q with els := els } = blk c m q := rfl
  obtain ⟨k1, k2, xs0, hE0, hor⟩ := g.obj m q hq
  have hrho : ∀ b, (c.hd m).ownBlock = some b → b = c.ρ m := by
    rcases hor with ⟨_, _, h⟩ | ⟨h, _⟩
    · exact h
    · rw [hrow] at h; cases h
  obtain ⟨g1, t1⟩ := g.drop (hp1 := upd hp m none) (w' := w') (fun n r hr => by
      by_cases e : n = m
      · subst e; rw [upd_same] at hr; cases hr
      · rw [upd_ne _ _ e] at hr; exact hr) hg.os hg.tape hg.output hg.size (fun b hb hnb => hg.block b hb (fun he => hnb ⟨⟨m, q, hq, by rw [hbm]; exact he.symm⟩, fun ⟨n, r, h1, h2⟩ => by
        by_cases e : n = m
        · subst e; rw [upd_same] at h1; cases h1
        · rw [upd_ne _ _ e] at h1; exact e (g.inj n r m q b h1 hq h2 (by rw [hbm]; exact he.symm))⟩))
  have le : Le c (c.at w') := t1.le g
  have hup : ∀ n r, upd hp m (some { q with els := els }) n = some r → ∃ r0, hp n = some r0 ∧ blk c n r = blk c n r0 ∧ ((n = m ∧ r = { q with els := els }) ∨ (n ≠ m ∧ upd hp m none n = some r)) := by
    intro n r h
    by_cases e : n = m
    · subst e; rw [upd_same] at h; obtain rfl := Option.some.inj h; exact ⟨q, hq, rfl, .inl ⟨rfl, rfl⟩⟩
    · rw [upd_ne _ _ e] at h; exact ⟨r, h, rfl, .inr ⟨e, by rw [upd_ne _ _ e]; exact h⟩⟩
  have hO : ∀ b, Owned c (upd hp m (some { q with els := els })) b → Owned c hp b := by
    rintro b ⟨n, r, h1, h2⟩
    obtain ⟨r0, h3, h4, _⟩ := hup n r h1
    exact ⟨n, r0, h3, by rw [← h4]; exact h2⟩
  refine ⟨⟨t1.os, t1.tape, t1.output, t1.size, t1.keep, t1.names, t1.sup, t1.sub, fun b h => .inl (hO b h)⟩, ⟨fun n r h => ?_, fun n r h => ?_, fun b h => g.own b (hO b h), fun n r n' r' b a1 a2 a3 a4 => ?_, g1.lt⟩⟩
  · obtain ⟨r0, h3, _⟩ := hup n r h; exact g.dom n r0 h3
  · obtain ⟨r0, h3, h4, ⟨rfl, rfl⟩ | ⟨e, h5⟩⟩ := hup n r h
    · exact ⟨k1, k2, xs, hE.mono le, .inl ⟨hrow, hown, hrho⟩⟩
    · exact g1.obj n r h5
  · obtain ⟨r0, h3, h4, _⟩ := hup n r a1
    obtain ⟨r0', h3', h4', _⟩ := hup n' r' a2
    exact g.inj n r0 n' r0' b h3 h3' (by rw [← h4]; exact a3) (by rw [← h4']; exact a4)
theorem repE_strs (c : Cx) (xs : List ByteArray) : RepE c 1 (kRow xs).els (xs.map Value.string) := by
  refine ⟨by simp [kRow, dRow], fun cs h => ?_, fun i j cs x h1 h2 => ?_⟩
  · simp [kRow, dRow] at h; obtain ⟨a, _, rfl⟩ := h; rfl
  · simp [kRow, dRow] at h1
    obtain ⟨a, h3, rfl⟩ := h1
    cases j with
    | succ j => simp [strD] at h2
    | zero =>
      simp [strD] at h2; subst h2
      exact ⟨.string a, by simp [h3], .s rfl⟩
theorem strs_of (c : Cx) (xs : List ByteArray) (vs : List Value) (h : RepE c 1 (kRow xs).els vs) : vs = xs.map Value.string := by
  obtain ⟨h1, _, h3⟩ := h
  refine List.ext_getElem? fun i => ?_
  have hl : vs.length = xs.length := by simpa [kRow, dRow] using h1
  by_cases hi : i < xs.length
  · obtain ⟨u, h4, h5⟩ := h3 i 0 [.d (.s (.string xs[i]))] (.d (.s (.string xs[i]))) (by simp [kRow, dRow, strD, hi]) rfl
    rw [Nat.mul_one, Nat.add_zero] at h4
    rw [h4, repD_s h5]; simp [hi]
  · rw [List.getElem?_eq_none (by omega), List.getElem?_eq_none (by simp; omega)]
theorem own_strs {c : Cx} {hp : Hp} (g : Good c hp) {m : Nat} {xs : List ByteArray} (hq : hp m = some (kRow xs)) : c.w.ownsRow 0 9 1 (c.hd m) xs.length (xs.map Value.string) := by
  obtain ⟨_, _, vs, hE, ⟨_, h, _⟩ | ⟨h, _⟩⟩ := g.obj m _ hq
  · have hh : c.w.ownsRow 0 9 1 (c.hd m) (kRow xs).els.length vs := h
    rw [strs_of c xs vs hE] at hh
    have hl : (kRow xs).els.length = xs.length := by simp [kRow, dRow]
    rw [hl] at hh; exact hh
  · cases h
theorem hp1_upd (o o' : Obj) : upd (hpL [some o]) 0 (some o') = hpL [some o'] := by
  rw [← hp1_L, ← hp1_L]; funext j; cases j <;> simp [hp1, upd]
theorem sort_ac (xs : List ByteArray) (hn : xs.length ≤ 1000000000000000) : AC Try.prog 80 [.c (.h 0)] (hpL [some (kRow xs)]) 1 ⟨.tup [], hpL [some (kRow (sortK xs))], 1⟩ := by
  refine ⟨by exact ⟨_, Try.func80, rfl, rfl⟩, fun c vs g hU hA => ?_⟩
  obtain ⟨v, rfl, rfl⟩ : ∃ v, vs = [v] ∧ v = c.hd 0 := by
    cases hA with
    | cons h1 h2 => cases h2; exact ⟨_, rfl, h1.2.1⟩
  refine (sort_calls _ xs c.w (own_strs g rfl) hn).mono ?_
  rintro e w' ⟨rfl, hown, hg⟩
  obtain ⟨t, g2⟩ := renew_same g (m := 0) (q := kRow xs) rfl rfl hg (els := (kRow (sortK xs)).els) (repE_strs c _) (by simpa [kRow, dRow, sortK_len] using hown)
  rw [hp1_upd] at t g2
  exact ⟨_, _, rfl, rfl, t, g2, ⟨[], rfl, .nil⟩, hU⟩
theorem comp_ac (xs : List ByteArray) (hn : xs.length ≤ 1000000000000000) : AC Try.prog 81 [.c (.h 0)] (hpL [some (kRow xs)]) 1 ⟨.t (.c (.h 1)), hpL [none, some (kRow (compK xs))], 2⟩ := by
  refine ⟨by exact ⟨_, Try.func81, rfl, rfl⟩, fun c vs g hU hA => ?_⟩
  obtain ⟨v, rfl, rfl⟩ : ∃ v, vs = [v] ∧ v = c.hd 0 := by
    cases hA with
    | cons h1 h2 => cases h2; exact ⟨_, rfl, h1.2.1⟩
  refine (comp_calls _ xs c.w (own_strs g rfl) hn).mono ?_
  rintro e w' ⟨v', rfl, hb, hown, hg⟩
  obtain ⟨c', hw, t, g2, hr, hU2⟩ := renew (nm := 1) g (fun h => by have := hU 1 h; omega) (m := 0) (q := kRow xs) rfl rfl hg (u := v') (els := (kRow (compK xs)).els) (repE_strs c _) (by simpa [kRow, dRow] using hown) (fun b hb' => .inl (by rw [← hb]; exact hb'))
  have hh : upd (upd (hpL [some (kRow xs)]) 0 none) 1 (some { kRow xs with els := (kRow (compK xs)).els }) = hpL [none, some (kRow (compK xs))] := by
    funext j; rcases j with _ | _ | j <;> simp [upd, hpL, kRow, dRow]
  rw [hh] at t g2
  exact ⟨_, c', rfl, hw, t, g2, hr, fun m hm => (hU2 m hm).elim (fun h => by have := hU m h; show m < 2; omega) (fun h => by subst h; show 1 < 2; omega)⟩
end Go.Proofs.Ytcbhgglpgphimaa.Ab
namespace Go.Proofs.Ytcbhgglpgphimaa.Ab
set_option linter.deprecated false
set_option linter.unusedVariables false
set_option linter.unusedSimpArgs false
open Go Go.Proofs
set_option maxRecDepth 10000
set_option maxHeartbeats 8000000
set_option linter.unusedSimpArgs false
set_option linter.unusedVariables false
def upToM (r : List Ent) (k : ByteArray) (t : Int) (n : Nat) : Option Ent := (r.take n).reverse.find? (hit k t)
def lastM (r : List Ent) (k : ByteArray) (t : Int) : Option Ent := upToM r k t r.length
theorem upToM_0 (r : List Ent) (k : ByteArray) (t : Int) : upToM r k t 0 = none := rfl
theorem upToM_succ {r : List Ent} {k : ByteArray} {t : Int} {n : Nat} {e : Ent} (h : r[n]? = some e) : upToM r k t (n + 1) = if hit k t e = true then some e else upToM r k t n := by
  unfold upToM
  rw [List.take_add_one, h]
  simp only [Option.toList_some, List.reverse_append, List.reverse_cons, List.reverse_nil, List.nil_append, List.singleton_append, List.find?_cons]
  cases hit k t e <;> rfl
theorem back1 (j : Nat) : ((j + 1 : Nat) : Int) - 1 = (j : Int) := by omega
abbrev resL (o : Option Ent) : AV := .tup [entT (o.getD zEnt), bT (match o with | some e => !e.gone | none => false)]
theorem l13Last_ac (r : List Ent) (k : ByteArray) (t : Int) (hl : r.length ≤ 4000000) : AC Try.prog 77 [runT r, sT k, iT t] noHp 0 ⟨resE (lastM r k t), noHp, 0⟩ := by
  refine AC_of Try.func77 rfl Try.ntmps77 Try.results77 (by kernel_rfl) rfl ?_
  simp only [List.zipIdx, List.map, Nat.zero_add, Nat.reduceAdd]
  have w0 : IntKind.i64.wrap (((r.length : Nat) : Int) - 1) = ((r.length : Nat) : Int) - 1 := wrap_in (by omega) (by omega)
  repeat (first | apply Aw_seq | apply Aw_block | apply Aw_skip | apply Aw_exit | refine Aw_condt rfl ?_ | refine Aw_condf rfl ?_ | (refine qr ?_; simp only [go_sem, Nat.reduceEqDiff, reduceIte, Nat.reduceAdd, Nat.reduceMul, Nat.reduceSub, Nat.reduceLT, Nat.reduceLeDiff, Nat.reduceBEq, w0]) | (refine qd (by kernel_rfl) (by kernel_rfl) ?_; simp only [go_sem, Nat.reduceEqDiff, reduceIte, Nat.reduceAdd, Nat.reduceMul, Nat.reduceSub, Nat.reduceLT, Nat.reduceLeDiff, Nat.reduceBEq, w0]) | refine dk (by kernel_rfl) ?_)
  refine Aw.rw (rwL (l' := [(8, .t (iT (((r.length : Nat) : Int) - 1))), (6, .t (.c (.ph 0 0 0))), (2, .t (iT t)), (1, .t (sT k)), (0, .t (runT r))]) (os := [some (enO zEnt)]) (M := [0]) (n' := 1) (by repeat (first | exact trivial | refine ⟨rfl, rfl, ?_⟩)) (by rfl) (by simp only [go_sem, Nat.reduceEqDiff, reduceIte, Nat.reduceAdd, Nat.reduceMul, Nat.reduceSub, Nat.reduceLT, Nat.reduceLeDiff, Nat.reduceBEq, zEnt]; first | done | rfl) (by decide) (by intro m hm; first | omega | (rcases m with _ | _ | _ | _ | _ | _ | m <;> first | exact ⟨by decide, rfl⟩ | omega))) ?_
  refine Aw_loop_rw (ι := { n : Nat // n ≤ r.length ∧ upToM r k t n = lastM r k t }) (fun q => S [(8, .t (iT (((q.1 : Nat) : Int) - 1))), (6, .t (.c (.ph 0 0 0))), (2, .t (iT t)), (1, .t (sT k)), (0, .t (runT r))] (hpL [some (enO zEnt)]) 1) (fun q => q.1) ⟨r.length, Nat.le_refl _, rfl⟩ ?_
  rintro ⟨n, hn, h⟩
  dsimp only
  rcases n with _ | j
  · have g1 : decide ((0 : Int) ≤ ((0 : Nat) : Int) - 1) = false := rfl
    rw [upToM_0] at h
    rw [← h]
    repeat (first | apply Aw_seq | apply Aw_block | apply Aw_skip | apply Aw_exit | refine Aw_condt rfl ?_ | refine Aw_condf rfl ?_ | (refine qr ?_; simp only [go_sem, Nat.reduceEqDiff, reduceIte, Nat.reduceAdd, Nat.reduceMul, Nat.reduceSub, Nat.reduceLT, Nat.reduceLeDiff, Nat.reduceBEq, g1]) | (refine qd (by kernel_rfl) (by kernel_rfl) ?_; simp only [go_sem, Nat.reduceEqDiff, reduceIte, Nat.reduceAdd, Nat.reduceMul, Nat.reduceSub, Nat.reduceLT, Nat.reduceLeDiff, Nat.reduceBEq, g1]) | refine dk (by kernel_rfl) ?_)
    exact Aw_ret (ret0 (.inl rfl) (by simp only [go_sem, Nat.reduceEqDiff, reduceIte, Nat.reduceAdd, Nat.reduceMul, Nat.reduceSub, Nat.reduceLT, Nat.reduceLeDiff, Nat.reduceBEq]; rfl) (by rfl) rfl)
  · rw [back1]
    have g1 : decide ((0 : Int) ≤ (j : Int)) = true := decide_eq_true (by omega)
    have w1 : IntKind.i64.wrap ((j : Int) - 1) = (j : Int) - 1 := wrap_in (by omega) (by omega)
    obtain ⟨e, hx⟩ : ∃ e, r[j]? = some e := ⟨_, List.getElem?_eq_getElem (by omega)⟩
    rw [upToM_succ hx] at h
    cases c1 : decide (e.key = k)
    · rw [if_neg (by simp [hit, c1])] at h
      repeat (first | apply Aw_seq | apply Aw_block | apply Aw_skip | apply Aw_exit | refine Aw_condt rfl ?_ | refine Aw_condf rfl ?_ | (refine qr ?_; simp only [go_sem, Nat.reduceEqDiff, reduceIte, Nat.reduceAdd, Nat.reduceMul, Nat.reduceSub, Nat.reduceLT, Nat.reduceLeDiff, Nat.reduceBEq, g1, hx, c1, w1]) | (refine qd (by kernel_rfl) (by kernel_rfl) ?_; simp only [go_sem, Nat.reduceEqDiff, reduceIte, Nat.reduceAdd, Nat.reduceMul, Nat.reduceSub, Nat.reduceLT, Nat.reduceLeDiff, Nat.reduceBEq, g1, hx, c1, w1]) | refine dk (by kernel_rfl) ?_)
      refine ⟨⟨j, by omega, h⟩, [0], ?_, rwL (by repeat (first | exact trivial | refine ⟨rfl, rfl, ?_⟩)) (by rfl) (by simp only [go_sem, Nat.reduceEqDiff, reduceIte, Nat.reduceAdd, Nat.reduceMul, Nat.reduceSub, Nat.reduceLT, Nat.reduceLeDiff, Nat.reduceBEq]; first | done | rfl) (by decide) (by intro m hm; first | omega | (rcases m with _ | _ | _ | _ | _ | _ | m <;> first | exact ⟨by decide, rfl⟩ | omega))⟩
      show j < j + 1; omega
    · cases c2 : decide (e.time ≤ t)
      · rw [if_neg (by simp [hit, c2])] at h
        repeat (first | apply Aw_seq | apply Aw_block | apply Aw_skip | apply Aw_exit | refine Aw_condt rfl ?_ | refine Aw_condf rfl ?_ | (refine qr ?_; simp only [go_sem, Nat.reduceEqDiff, reduceIte, Nat.reduceAdd, Nat.reduceMul, Nat.reduceSub, Nat.reduceLT, Nat.reduceLeDiff, Nat.reduceBEq, g1, hx, c1, c2, w1]) | (refine qd (by kernel_rfl) (by kernel_rfl) ?_; simp only [go_sem, Nat.reduceEqDiff, reduceIte, Nat.reduceAdd, Nat.reduceMul, Nat.reduceSub, Nat.reduceLT, Nat.reduceLeDiff, Nat.reduceBEq, g1, hx, c1, c2, w1]) | refine dk (by kernel_rfl) ?_)
        refine ⟨⟨j, by omega, h⟩, [0], ?_, rwL (by repeat (first | exact trivial | refine ⟨rfl, rfl, ?_⟩)) (by rfl) (by simp only [go_sem, Nat.reduceEqDiff, reduceIte, Nat.reduceAdd, Nat.reduceMul, Nat.reduceSub, Nat.reduceLT, Nat.reduceLeDiff, Nat.reduceBEq]; first | done | rfl) (by decide) (by intro m hm; first | omega | (rcases m with _ | _ | _ | _ | _ | _ | m <;> first | exact ⟨by decide, rfl⟩ | omega))⟩
        show j < j + 1; omega
      · rw [if_pos (by simp [hit, c1, c2])] at h
        rw [← h]
        repeat (first | apply Aw_seq | apply Aw_block | apply Aw_skip | apply Aw_exit | refine Aw_condt rfl ?_ | refine Aw_condf rfl ?_ | (refine qr ?_; simp only [go_sem, Nat.reduceEqDiff, reduceIte, Nat.reduceAdd, Nat.reduceMul, Nat.reduceSub, Nat.reduceLT, Nat.reduceLeDiff, Nat.reduceBEq, g1, hx, c1, c2]) | (refine qd (by kernel_rfl) (by kernel_rfl) ?_; simp only [go_sem, Nat.reduceEqDiff, reduceIte, Nat.reduceAdd, Nat.reduceMul, Nat.reduceSub, Nat.reduceLT, Nat.reduceLeDiff, Nat.reduceBEq, g1, hx, c1, c2]) | refine dk (by kernel_rfl) ?_)
        exact Aw_ret (ret0 (.inl rfl) (by simp only [go_sem, Nat.reduceEqDiff, reduceIte, Nat.reduceAdd, Nat.reduceMul, Nat.reduceSub, Nat.reduceLT, Nat.reduceLeDiff, Nat.reduceBEq]; rfl) (by rfl) rfl)
theorem latest_ac (r : List Ent) (k : ByteArray) (t : Int) (hl : r.length ≤ 4000000) : AC Try.prog 78 [runT r, sT k, iT t] noHp 0 ⟨resL (lastM r k t), noHp, 0⟩ := by
  refine AC_of Try.func78 rfl Try.ntmps78 Try.results78 (by kernel_rfl) rfl ?_
  simp only [List.zipIdx, List.map, Nat.zero_add, Nat.reduceAdd]
  have w0 : IntKind.i64.wrap (((r.length : Nat) : Int) - 1) = ((r.length : Nat) : Int) - 1 := wrap_in (by omega) (by omega)
  repeat (first | apply Aw_seq | apply Aw_block | apply Aw_skip | apply Aw_exit | refine Aw_condt rfl ?_ | refine Aw_condf rfl ?_ | (refine qr ?_; simp only [go_sem, Nat.reduceEqDiff, reduceIte, Nat.reduceAdd, Nat.reduceMul, Nat.reduceSub, Nat.reduceLT, Nat.reduceLeDiff, Nat.reduceBEq, w0]) | (refine qd (by kernel_rfl) (by kernel_rfl) ?_; simp only [go_sem, Nat.reduceEqDiff, reduceIte, Nat.reduceAdd, Nat.reduceMul, Nat.reduceSub, Nat.reduceLT, Nat.reduceLeDiff, Nat.reduceBEq, w0]) | refine dk (by kernel_rfl) ?_)
  refine Aw.rw (rwL (l' := [(8, .t (iT (((r.length : Nat) : Int) - 1))), (6, .t (.c (.ph 0 0 0))), (2, .t (iT t)), (1, .t (sT k)), (0, .t (runT r))]) (os := [some (enO zEnt)]) (M := [0]) (n' := 1) (by repeat (first | exact trivial | refine ⟨rfl, rfl, ?_⟩)) (by rfl) (by simp only [go_sem, Nat.reduceEqDiff, reduceIte, Nat.reduceAdd, Nat.reduceMul, Nat.reduceSub, Nat.reduceLT, Nat.reduceLeDiff, Nat.reduceBEq, zEnt]; first | done | rfl) (by decide) (by intro m hm; first | omega | (rcases m with _ | _ | _ | _ | _ | _ | m <;> first | exact ⟨by decide, rfl⟩ | omega))) ?_
  refine Aw_loop_rw (ι := { n : Nat // n ≤ r.length ∧ upToM r k t n = lastM r k t }) (fun q => S [(8, .t (iT (((q.1 : Nat) : Int) - 1))), (6, .t (.c (.ph 0 0 0))), (2, .t (iT t)), (1, .t (sT k)), (0, .t (runT r))] (hpL [some (enO zEnt)]) 1) (fun q => q.1) ⟨r.length, Nat.le_refl _, rfl⟩ ?_
  rintro ⟨n, hn, h⟩
  dsimp only
  rcases n with _ | j
  · have g1 : decide ((0 : Int) ≤ ((0 : Nat) : Int) - 1) = false := rfl
    rw [upToM_0] at h
    rw [← h]
    repeat (first | apply Aw_seq | apply Aw_block | apply Aw_skip | apply Aw_exit | refine Aw_condt rfl ?_ | refine Aw_condf rfl ?_ | (refine qr ?_; simp only [go_sem, Nat.reduceEqDiff, reduceIte, Nat.reduceAdd, Nat.reduceMul, Nat.reduceSub, Nat.reduceLT, Nat.reduceLeDiff, Nat.reduceBEq, g1]) | (refine qd (by kernel_rfl) (by kernel_rfl) ?_; simp only [go_sem, Nat.reduceEqDiff, reduceIte, Nat.reduceAdd, Nat.reduceMul, Nat.reduceSub, Nat.reduceLT, Nat.reduceLeDiff, Nat.reduceBEq, g1]) | refine dk (by kernel_rfl) ?_)
    exact Aw_ret (ret0 (.inl rfl) (by simp only [go_sem, Nat.reduceEqDiff, reduceIte, Nat.reduceAdd, Nat.reduceMul, Nat.reduceSub, Nat.reduceLT, Nat.reduceLeDiff, Nat.reduceBEq]; rfl) (by rfl) rfl)
  · rw [back1]
    have g1 : decide ((0 : Int) ≤ (j : Int)) = true := decide_eq_true (by omega)
    have w1 : IntKind.i64.wrap ((j : Int) - 1) = (j : Int) - 1 := wrap_in (by omega) (by omega)
    obtain ⟨e, hx⟩ : ∃ e, r[j]? = some e := ⟨_, List.getElem?_eq_getElem (by omega)⟩
    rw [upToM_succ hx] at h
    cases c1 : decide (e.key = k)
    · rw [if_neg (by simp [hit, c1])] at h
      repeat (first | apply Aw_seq | apply Aw_block | apply Aw_skip | apply Aw_exit | refine Aw_condt rfl ?_ | refine Aw_condf rfl ?_ | (refine qr ?_; simp only [go_sem, Nat.reduceEqDiff, reduceIte, Nat.reduceAdd, Nat.reduceMul, Nat.reduceSub, Nat.reduceLT, Nat.reduceLeDiff, Nat.reduceBEq, g1, hx, c1, w1]) | (refine qd (by kernel_rfl) (by kernel_rfl) ?_; simp only [go_sem, Nat.reduceEqDiff, reduceIte, Nat.reduceAdd, Nat.reduceMul, Nat.reduceSub, Nat.reduceLT, Nat.reduceLeDiff, Nat.reduceBEq, g1, hx, c1, w1]) | refine dk (by kernel_rfl) ?_)
      refine ⟨⟨j, by omega, h⟩, [0], ?_, rwL (by repeat (first | exact trivial | refine ⟨rfl, rfl, ?_⟩)) (by rfl) (by simp only [go_sem, Nat.reduceEqDiff, reduceIte, Nat.reduceAdd, Nat.reduceMul, Nat.reduceSub, Nat.reduceLT, Nat.reduceLeDiff, Nat.reduceBEq]; first | done | rfl) (by decide) (by intro m hm; first | omega | (rcases m with _ | _ | _ | _ | _ | _ | m <;> first | exact ⟨by decide, rfl⟩ | omega))⟩
      show j < j + 1; omega
    · cases c2 : decide (e.time ≤ t)
      · rw [if_neg (by simp [hit, c2])] at h
        repeat (first | apply Aw_seq | apply Aw_block | apply Aw_skip | apply Aw_exit | refine Aw_condt rfl ?_ | refine Aw_condf rfl ?_ | (refine qr ?_; simp only [go_sem, Nat.reduceEqDiff, reduceIte, Nat.reduceAdd, Nat.reduceMul, Nat.reduceSub, Nat.reduceLT, Nat.reduceLeDiff, Nat.reduceBEq, g1, hx, c1, c2, w1]) | (refine qd (by kernel_rfl) (by kernel_rfl) ?_; simp only [go_sem, Nat.reduceEqDiff, reduceIte, Nat.reduceAdd, Nat.reduceMul, Nat.reduceSub, Nat.reduceLT, Nat.reduceLeDiff, Nat.reduceBEq, g1, hx, c1, c2, w1]) | refine dk (by kernel_rfl) ?_)
        refine ⟨⟨j, by omega, h⟩, [0], ?_, rwL (by repeat (first | exact trivial | refine ⟨rfl, rfl, ?_⟩)) (by rfl) (by simp only [go_sem, Nat.reduceEqDiff, reduceIte, Nat.reduceAdd, Nat.reduceMul, Nat.reduceSub, Nat.reduceLT, Nat.reduceLeDiff, Nat.reduceBEq]; first | done | rfl) (by decide) (by intro m hm; first | omega | (rcases m with _ | _ | _ | _ | _ | _ | m <;> first | exact ⟨by decide, rfl⟩ | omega))⟩
        show j < j + 1; omega
      · rw [if_pos (by simp [hit, c1, c2])] at h
        rw [← h]
        repeat (first | apply Aw_seq | apply Aw_block | apply Aw_skip | apply Aw_exit | refine Aw_condt rfl ?_ | refine Aw_condf rfl ?_ | (refine qr ?_; simp only [go_sem, Nat.reduceEqDiff, reduceIte, Nat.reduceAdd, Nat.reduceMul, Nat.reduceSub, Nat.reduceLT, Nat.reduceLeDiff, Nat.reduceBEq, g1, hx, c1, c2]) | (refine qd (by kernel_rfl) (by kernel_rfl) ?_; simp only [go_sem, Nat.reduceEqDiff, reduceIte, Nat.reduceAdd, Nat.reduceMul, Nat.reduceSub, Nat.reduceLT, Nat.reduceLeDiff, Nat.reduceBEq, g1, hx, c1, c2]) | refine dk (by kernel_rfl) ?_)
        exact Aw_ret (ret0 (.inl rfl) (by simp only [go_sem, Nat.reduceEqDiff, reduceIte, Nat.reduceAdd, Nat.reduceMul, Nat.reduceSub, Nat.reduceLT, Nat.reduceLeDiff, Nat.reduceBEq]; rfl) (by rfl) rfl)
end Go.Proofs.Ytcbhgglpgphimaa.Ab
namespace Go.Proofs.Ytcbhgglpgphimaa.Ab
set_option linter.deprecated false
set_option linter.unusedVariables false
set_option linter.unusedSimpArgs false
open Go Go.Proofs
set_option linter.unusedSimpArgs false
set_option linter.unusedVariables false
def Asc (xs : List ByteArray) : Prop := xs.Pairwise fun a b => klt a b = true
theorem asc_uni : ∀ {xs ys : List ByteArray}, Asc xs → Asc ys → (∀ k, k ∈ xs ↔ k ∈ ys) → xs = ys
  | [], [], _, _, _ => rfl
  | [], y :: ys, _, _, h => absurd ((h y).2 (by simp)) (by simp)
  | x :: xs, [], _, _, h => absurd ((h x).1 (by simp)) (by simp)
  | x :: xs, y :: ys, hx, hy, h => by
    obtain ⟨hx1, hx2⟩ := List.pairwise_cons.1 hx
    obtain ⟨hy1, hy2⟩ := List.pairwise_cons.1 hy
    have e : x = y := by
      rcases List.mem_cons.1 ((h x).1 (by simp)) with e | h1
      · exact e
      · rcases List.mem_cons.1 ((h y).2 (by simp)) with e | h2
        · exact e.symm
        · have := klt_trans (hy1 x h1) (hx1 y h2)
          rw [klt_irrefl] at this; cases this
    subst e
    rw [asc_uni hx2 hy2 fun k => ⟨fun hk => ?_, fun hk => ?_⟩]
    · rcases List.mem_cons.1 ((h k).1 (List.mem_cons_of_mem _ hk)) with e | h1
      · subst e; have := hx1 k hk; rw [klt_irrefl] at this; cases this
      · exact h1
    · rcases List.mem_cons.1 ((h k).2 (List.mem_cons_of_mem _ hk)) with e | h1
      · subst e; have := hy1 k hk; rw [klt_irrefl] at this; cases this
      · exact h1
def insK (k : ByteArray) : List ByteArray → List ByteArray
  | [] => [k]
  | x :: r => if klt x k = true then x :: insK k r else k :: x :: r
open Classical in
theorem putL_done (k : ByteArray) : ∀ (xs out : List ByteArray), putL k xs true out = if k ∈ xs then none else some (out ++ xs)
  | [], out => by simp [putL]
  | x :: r, out => by
    simp only [putL]
    by_cases e : x = k
    · simp [e]
    · rw [if_neg e]
      simp only [Bool.not_true, Bool.false_and, Bool.true_or, Bool.false_eq_true, if_false]
      rw [putL_done k r]
      by_cases h : k ∈ r
      · simp [h]
      · simp [h, Ne.symm e]
open Classical in
theorem putL_ins (k : ByteArray) : ∀ (xs out : List ByteArray), putL k xs false out = if k ∈ xs then none else some (out ++ insK k xs)
  | [], out => by simp [putL, insK]
  | x :: r, out => by
    simp only [putL, insK]
    by_cases e : x = k
    · simp [e]
    · rw [if_neg e]
      cases c : klt x k
      · simp only [Bool.not_false, Bool.true_and, Bool.false_or, if_true, Bool.false_eq_true, if_false]
        rw [putL_done]
        by_cases h : k ∈ r
        · simp [h]
        · simp [h, Ne.symm e]
      · simp only [Bool.not_true, Bool.and_false, Bool.false_or, Bool.false_eq_true, if_false, if_true]
        rw [putL_ins k r]
        by_cases h : k ∈ r
        · simp [h]
        · simp [h, Ne.symm e]
theorem insK_mem {k y : ByteArray} : ∀ {xs : List ByteArray}, y ∈ insK k xs ↔ y = k ∨ y ∈ xs
  | [] => by simp [insK]
  | x :: r => by
    simp only [insK]
    split
    · simp only [List.mem_cons, insK_mem]; constructor <;> (rintro (h | h | h) <;> simp [h])
    · simp
theorem insK_asc {k : ByteArray} : ∀ {xs : List ByteArray}, Asc xs → k ∉ xs → Asc (insK k xs)
  | [], _, _ => by simp [insK, Asc]
  | x :: r, h, hk => by
    obtain ⟨h1, h2⟩ := List.pairwise_cons.1 h
    simp only [insK]
    cases c : klt x k
    · have hxk : klt k x = true := klt_total c (fun e => hk (by simp [e]))
      simp only [Bool.false_eq_true, if_false]
      exact List.pairwise_cons.2 ⟨fun y hy => by
        rcases List.mem_cons.1 hy with rfl | hy
        · exact hxk
        · exact klt_trans hxk (h1 y hy), h⟩
    · rw [if_pos rfl]
      refine List.pairwise_cons.2 ⟨fun y hy => ?_, insK_asc h2 fun e => hk (List.mem_cons_of_mem _ e)⟩
      rcases insK_mem.1 hy with rfl | hy
      · exact c
      · exact h1 y hy
open Classical in
theorem putK_eq (ks : List ByteArray) (k : ByteArray) : putK ks k = if k ∈ ks then ks else insK k ks := by
  unfold putK
  rw [putL_ins]
  by_cases h : k ∈ ks <;> simp [h]
open Classical in
theorem putK_in {ks : List ByteArray} {k y : ByteArray} : y ∈ putK ks k ↔ y = k ∨ y ∈ ks := by
  rw [putK_eq]
  split
  · rename_i h
    exact ⟨.inr, fun e => e.elim (fun e => e ▸ h) id⟩
  · exact insK_mem
open Classical in
theorem putK_asc {ks : List ByteArray} {k : ByteArray} (h : Asc ks) : Asc (putK ks k) := by
  rw [putK_eq]
  split
  · exact h
  · exact insK_asc h ‹_›
def allK (xs : List ByteArray) : List ByteArray := xs.foldl putK []
theorem foldK : ∀ (xs ks : List ByteArray), Asc ks → Asc (xs.foldl putK ks) ∧ ∀ y, y ∈ xs.foldl putK ks ↔ y ∈ xs ∨ y ∈ ks
  | [], ks, h => ⟨h, by simp⟩
  | x :: r, ks, h => by
    obtain ⟨h1, h2⟩ := foldK r (putK ks x) (putK_asc h)
    refine ⟨h1, fun y => (h2 y).trans ?_⟩
    rw [putK_in, List.mem_cons]
    constructor
    · rintro (h | h | h) <;> simp [h]
    · rintro ((h | h) | h) <;> simp [h]
theorem allK_asc (xs : List ByteArray) : Asc (allK xs) := (foldK xs [] .nil).1
theorem allK_mem {xs : List ByteArray} {y : ByteArray} : y ∈ allK xs ↔ y ∈ xs := by
  have := (foldK xs [] .nil).2 y
  simpa [allK] using this
-- sorted and compacted
theorem tl_data (x : ByteArray) : x.toList = x.data.toList := by
  have := ByteArray.toList_eq x
  exact this
theorem lt_u8 (x y : ByteArray) : klt x y = true ↔ u8s x < u8s y := by
  rw [klt_iff, tl_data, tl_data]; rfl
theorem lt_l (x y : List UInt8) : x < y ↔ klt (bsOf x) (bsOf y) = true := by rw [lt_u8, u8_bs, u8_bs]
theorem sortU (l : List (List UInt8)) : (l.mergeSort fun x y => decide (x ≤ y)).Pairwise fun a b => ¬ b < a := by
  have h := List.pairwise_mergeSort (le := fun x y : List UInt8 => decide (x ≤ y)) (fun a b c h1 h2 => by
    simp only [decide_eq_true_eq] at *; exact List.le_trans h1 h2) (fun a b => by
    simp only [Bool.or_eq_true, decide_eq_true_eq]; exact List.le_total a b) l
  exact h.imp fun h => by
    simp only [decide_eq_true_eq] at h
    exact List.not_lt.2 h
theorem compU (d : Array (List UInt8)) (hs : d.toList.Pairwise fun a b => ¬ b < a) : ∀ m, m ≤ d.size →
    (Lib.compactUpTo d m).Pairwise (· < ·) ∧ (∀ x, x ∈ Lib.compactUpTo d m ↔ ∃ j, j < m ∧ d[j]! = x)
  | 0, _ => by simp [Lib.compactUpTo]
  | m + 1, h => by
    obtain ⟨h1, h2⟩ := compU d hs m (by omega)
    have hle : ∀ i j, i < j → j < d.size → ¬ d[j]! < d[i]! := fun i j hij hj => by
      have := List.pairwise_iff_getElem.1 hs i j (by simpa using (by omega : i < d.size)) (by simpa using hj) hij
      simpa [getElem!_pos, show i < d.size by omega, hj] using this
    rw [Lib.compactUpTo_succ]
    cases c : Lib.keeps d m
    · have hm : m ≠ 0 ∧ d[m]! = d[m - 1]! := by
        simp only [Lib.keeps, decide_eq_false_iff_not, not_or, Classical.not_not] at c
        exact c
      refine ⟨by simpa using h1, fun x => ?_⟩
      simp only [Bool.false_eq_true, if_false, List.append_nil]
      rw [h2]
      constructor
      · rintro ⟨j, hj, e⟩; exact ⟨j, by omega, e⟩
      · rintro ⟨j, hj, e⟩
        by_cases e2 : j = m
        · subst e2; exact ⟨j - 1, by omega, by rw [← e, hm.2]⟩
        · exact ⟨j, by omega, e⟩
    · have hm : m = 0 ∨ d[m]! ≠ d[m - 1]! := by simpa [Lib.keeps] using c
      simp only [if_true]
      refine ⟨List.pairwise_append.2 ⟨h1, by simp, fun x hx y hy => ?_⟩, fun x => ?_⟩
      · obtain rfl : y = d[m]! := by simpa using hy
        obtain ⟨j, hj, rfl⟩ := (h2 x).1 hx
        rcases hm with hm | hm
        · omega
        · have a1 : ¬ d[m - 1]! < d[j]! := by
            by_cases e : j = m - 1
            · subst e; exact List.lt_irrefl _
            · exact hle j (m - 1) (by omega) (by omega)
          have a2 := hle (m - 1) m (by omega) (by omega)
          have a3 : d[m - 1]! < d[m]! := by
            rcases Std.lt_trichotomy d[m - 1]! d[m]! with x | x | x
            · exact x
            · exact absurd x.symm hm
            · exact absurd x a2
          rcases Std.lt_trichotomy d[j]! d[m - 1]! with x | x | x
          · exact List.lt_trans x a3
          · rw [x]; exact a3
          · exact absurd x a1
      · rw [List.mem_append, h2]
        constructor
        · rintro (⟨j, hj, e⟩ | h3)
          · exact ⟨j, by omega, e⟩
          · exact ⟨m, by omega, by simpa using (by simpa using h3 : x = d[m]!).symm⟩
        · rintro ⟨j, hj, e⟩
          by_cases e2 : j = m
          · subst e2; exact .inr (by simp [e])
          · exact .inl ⟨j, by omega, e⟩
theorem comp_sort (xs : List ByteArray) : compK (sortK xs) = allK xs := by
  have hs : (sortK xs).map u8s = (xs.map u8s).mergeSort fun x y => decide (x ≤ y) := sortK_u8 xs
  obtain ⟨h1, h2⟩ := compU ((sortK xs).map u8s).toArray (by rw [hs]; exact sortU _) ((sortK xs).map u8s).length (by simp)
  refine asc_uni (ys := allK xs) ?_ (allK_asc xs) fun k => ?_
  · unfold compK Asc Lib.compact
    rw [List.pairwise_map]
    exact h1.imp fun h => (lt_l _ _).1 h
  · rw [allK_mem]
    unfold compK Lib.compact
    rw [List.mem_map]
    constructor
    · rintro ⟨a, ha, rfl⟩
      obtain ⟨j, hj, e⟩ := (h2 a).1 ha
      have : a ∈ (sortK xs).map u8s := by
        rw [← e]
        have : ((sortK xs).map u8s).toArray[j]! = ((sortK xs).map u8s)[j] := by rw [getElem!_pos _ j (by simpa using hj)]; rfl
        rw [this]; exact List.getElem_mem hj
      rw [hs, List.mem_mergeSort, List.mem_map] at this
      obtain ⟨y, hy, rfl⟩ := this
      rw [bs_u8]; exact hy
    · intro hk
      have : u8s k ∈ (sortK xs).map u8s := by rw [hs, List.mem_mergeSort]; exact List.mem_map_of_mem hk
      obtain ⟨j, hj, e⟩ := List.getElem_of_mem this
      exact ⟨u8s k, (h2 _).2 ⟨j, hj, by rw [getElem!_pos _ j (by simpa using hj)]; exact e⟩, bs_u8 k⟩
end Go.Proofs.Ytcbhgglpgphimaa.Ab
namespace Go.Proofs.Ytcbhgglpgphimaa.Ab
set_option linter.deprecated false
set_option linter.unusedVariables false
set_option linter.unusedSimpArgs false
open Go Go.Proofs
set_option maxRecDepth 10000
set_option maxHeartbeats 8000000
set_option linter.unusedSimpArgs false
set_option linter.unusedVariables false
theorem tfil {α : Type} {p : α → Bool} {xs : List α} {i : Nat} {x : α} (h : xs[i]? = some x) : (xs.take (i + 1)).filter p = (xs.take i).filter p ++ (if p x = true then [x] else []) := by
  rw [List.take_add_one, h, List.filter_append]
  cases c : p x <;> simp [c]
theorem tfil_le {α : Type} (p : α → Bool) (xs : List α) (i : Nat) : ((xs.take i).filter p).length ≤ i := Nat.le_trans (List.length_filter_le _ _) (by rw [List.length_take]; omega)
theorem keysSort_ac (ks : List ByteArray) (hs : SmS ks) (hl : ks.length ≤ 4000000) : AC Try.prog 35 [strsT ks] noHp 0 ⟨.t (.c (.h 0)), hpL [some (kRow (allK (ks.filter keyOk)))], 1⟩ := by
  refine AC_of Try.func35 rfl Try.ntmps35 Try.results35 (by kernel_rfl) rfl ?_
  simp only [List.zipIdx, List.map, Nat.zero_add, Nat.reduceAdd]
  repeat (first | apply Aw_seq | apply Aw_block | apply Aw_skip | apply Aw_exit | refine Aw_condt rfl ?_ | refine Aw_condf rfl ?_ | (refine qr ?_; simp only [go_sem, Nat.reduceEqDiff, reduceIte, Nat.reduceAdd, Nat.reduceMul, Nat.reduceSub, Nat.reduceLT, Nat.reduceLeDiff, Nat.reduceBEq]) | (refine qd (by kernel_rfl) (by kernel_rfl) ?_; simp only [go_sem, Nat.reduceEqDiff, reduceIte, Nat.reduceAdd, Nat.reduceMul, Nat.reduceSub, Nat.reduceLT, Nat.reduceLeDiff, Nat.reduceBEq]) | refine dk (by kernel_rfl) ?_)
  refine Aw.own (t := 3) (e := 9) (j := 1) rfl (by decide) (by simp only [Nat.reduceAdd]; rfl) ?_
  refine Aw.rw (rw1 (m := _) (l' := [(8, .t (iT (0 : Nat))), (7, .t (iT ks.length)), (6, .t (strsT ks)), (0, .t (strsT ks)), (3, .t (.c (.h 0)))]) (by repeat (first | exact trivial | refine ⟨rfl, rfl, ?_⟩)) (show _ = some (dRow 9 1 (((ks.take 0).filter keyOk).map strD)) from rfl)) ?_
  refine Aw_loop1 (ι := { i : Nat // i ≤ ks.length ∧ (True) }) (fun q => [(8, .t (iT (q.1 : Nat))), (7, .t (iT ks.length)), (6, .t (strsT ks)), (0, .t (strsT ks)), (3, .t (.c (.h 0)))]) (fun q => dRow 9 1 (((ks.take q.1).filter keyOk).map strD)) (fun q => ks.length - q.1) ⟨0, Nat.zero_le _, trivial⟩ ?_
  rintro ⟨i, hi, hp⟩
  dsimp only
  by_cases hlt : i < ks.length
  · have h1 : (i : Int) < (ks.length : Int) := by omega
    have h2 := wrap_succ hlt hs.len
    have hb : (((ks.take i).filter keyOk).length + 1) * 16 ≤ 140737488355328 := by have := tfil_le keyOk ks i; omega
    obtain ⟨e, hx⟩ : ∃ e, ks[i]? = some e := ⟨_, List.getElem?_eq_getElem hlt⟩
    have he := hs.key e (List.mem_of_getElem? hx)
    have hc := tfil (p := keyOk) hx
    cases c : keyOk e
    · rw [c, if_neg (by simp), List.append_nil] at hc
      repeat (first | apply Aw_seq | apply Aw_block | apply Aw_skip | apply Aw_exit | refine Aw_condt rfl ?_ | refine Aw_condf rfl ?_ | (refine qr ?_; simp only [go_sem, Nat.reduceEqDiff, reduceIte, Nat.reduceAdd, Nat.reduceMul, Nat.reduceSub, Nat.reduceLT, Nat.reduceLeDiff, Nat.reduceBEq, h1, h2, hx, c]) | (refine qd (by kernel_rfl) (by kernel_rfl) ?_; simp only [go_sem, Nat.reduceEqDiff, reduceIte, Nat.reduceAdd, Nat.reduceMul, Nat.reduceSub, Nat.reduceLT, Nat.reduceLeDiff, Nat.reduceBEq, h1, h2, hx, c]) | refine dk (by kernel_rfl) ?_ | (refine qp (keyOk_ac _ he) (by simp only [go_sem, Nat.reduceEqDiff, reduceIte, Nat.reduceAdd, Nat.reduceMul, Nat.reduceSub, Nat.reduceLT, Nat.reduceLeDiff, Nat.reduceBEq, h1, h2, hx, c]; first | done | rfl) rfl (by simp only [go_sem, Nat.reduceLT]) rfl rfl ?_; simp only [go_sem, Nat.reduceEqDiff, reduceIte, Nat.reduceAdd, Nat.reduceMul, Nat.reduceSub, Nat.reduceLT, Nat.reduceLeDiff, Nat.reduceBEq, h1, h2, hx, c]))
      refine ⟨⟨i + 1, by omega, trivial⟩, [_], (by simp only []; omega), rw1 (by repeat (first | exact trivial | refine ⟨rfl, rfl, ?_⟩)) (by simp only [go_sem, Nat.reduceEqDiff, reduceIte, Nat.reduceAdd, Nat.reduceMul, Nat.reduceSub, Nat.reduceLT, Nat.reduceLeDiff, Nat.reduceBEq]; rw [hc])⟩
    · rw [c, if_pos rfl] at hc
      repeat (first | apply Aw_seq | apply Aw_block | apply Aw_skip | apply Aw_exit | refine Aw_condt rfl ?_ | refine Aw_condf rfl ?_ | (refine qr ?_; simp only [go_sem, Nat.reduceEqDiff, reduceIte, Nat.reduceAdd, Nat.reduceMul, Nat.reduceSub, Nat.reduceLT, Nat.reduceLeDiff, Nat.reduceBEq, h1, h2, hx, c, hb]) | (refine qd (by kernel_rfl) (by kernel_rfl) ?_; simp only [go_sem, Nat.reduceEqDiff, reduceIte, Nat.reduceAdd, Nat.reduceMul, Nat.reduceSub, Nat.reduceLT, Nat.reduceLeDiff, Nat.reduceBEq, h1, h2, hx, c, hb]) | refine dk (by kernel_rfl) ?_ | (refine qp (keyOk_ac _ he) (by simp only [go_sem, Nat.reduceEqDiff, reduceIte, Nat.reduceAdd, Nat.reduceMul, Nat.reduceSub, Nat.reduceLT, Nat.reduceLeDiff, Nat.reduceBEq, h1, h2, hx, c, hb]; first | done | rfl) rfl (by simp only [go_sem, Nat.reduceLT]) rfl rfl ?_; simp only [go_sem, Nat.reduceEqDiff, reduceIte, Nat.reduceAdd, Nat.reduceMul, Nat.reduceSub, Nat.reduceLT, Nat.reduceLeDiff, Nat.reduceBEq, h1, h2, hx, c, hb]))
      refine ⟨⟨i + 1, by omega, trivial⟩, [_], (by simp only []; omega), rw1 (by repeat (first | exact trivial | refine ⟨rfl, rfl, ?_⟩)) (by simp only [go_sem, Nat.reduceEqDiff, reduceIte, Nat.reduceAdd, Nat.reduceMul, Nat.reduceSub, Nat.reduceLT, Nat.reduceLeDiff, Nat.reduceBEq]; rw [hc]; simp only [go_sem])⟩
  · have h1 : ¬ (i : Int) < (ks.length : Int) := by omega
    have he : i = ks.length := by omega
    subst he
    rw [List.take_length]
    have hf := List.length_filter_le keyOk ks
    have k1 := sort_ac (ks.filter keyOk) (by omega)
    have k2 := comp_ac (sortK (ks.filter keyOk)) (by rw [sortK_len]; omega)
    rw [comp_sort] at k2
    have hf2 := compK_len (sortK (ks.filter keyOk))
    rw [comp_sort, sortK_len] at hf2
    have hb : (allK (ks.filter keyOk)).length * 16 ≤ 140737488355328 := by omega

    repeat (first | apply Aw_seq | apply Aw_block | apply Aw_skip | apply Aw_exit | refine Aw_condt rfl ?_ | refine Aw_condf rfl ?_ | (refine qr ?_; simp only [go_sem, Nat.reduceEqDiff, reduceIte, Nat.reduceAdd, Nat.reduceMul, Nat.reduceSub, Nat.reduceLT, Nat.reduceLeDiff, Nat.reduceBEq, h1, hb]) | (refine qd (by kernel_rfl) (by kernel_rfl) ?_; simp only [go_sem, Nat.reduceEqDiff, reduceIte, Nat.reduceAdd, Nat.reduceMul, Nat.reduceSub, Nat.reduceLT, Nat.reduceLeDiff, Nat.reduceBEq, h1, hb]) | refine dk (by kernel_rfl) ?_ | (refine qx (call_L (N' := [0]) (L := []) (k1) rfl (.cons (.nm rfl) (.nil)) (by decide) (by decide) (by decide) (by simp only [go_sem, Nat.reduceEqDiff, reduceIte, Nat.reduceAdd, Nat.reduceMul, Nat.reduceSub, Nat.reduceLT, Nat.reduceLeDiff, Nat.reduceBEq, h1, hb]) (.inl rfl) rfl (by decide)) (by simp only [go_sem, Nat.reduceEqDiff, reduceIte, Nat.reduceAdd, Nat.reduceMul, Nat.reduceSub, Nat.reduceLT, Nat.reduceLeDiff, Nat.reduceBEq, h1, hb]; first | done | rfl) rfl (by simp only [go_sem, Nat.reduceLT]) ?_; simp only [go_sem, Nat.reduceEqDiff, reduceIte, Nat.reduceAdd, Nat.reduceMul, Nat.reduceSub, Nat.reduceLT, Nat.reduceLeDiff, Nat.reduceBEq, h1, hb]) | (refine qx (call_L (N' := [0]) (L := []) (k2) rfl (.cons (.nm rfl) (.nil)) (by decide) (by decide) (by decide) (by simp only [go_sem, Nat.reduceEqDiff, reduceIte, Nat.reduceAdd, Nat.reduceMul, Nat.reduceSub, Nat.reduceLT, Nat.reduceLeDiff, Nat.reduceBEq, h1, hb]) (.inl rfl) rfl (by decide)) (by simp only [go_sem, Nat.reduceEqDiff, reduceIte, Nat.reduceAdd, Nat.reduceMul, Nat.reduceSub, Nat.reduceLT, Nat.reduceLeDiff, Nat.reduceBEq, h1, hb]; first | done | rfl) rfl (by simp only [go_sem, Nat.reduceLT]) ?_; simp only [go_sem, Nat.reduceEqDiff, reduceIte, Nat.reduceAdd, Nat.reduceMul, Nat.reduceSub, Nat.reduceLT, Nat.reduceLeDiff, Nat.reduceBEq, h1, hb]))


    exact Aw_ret (retL (M := [5]) (.inl rfl) (by simp only [go_sem, Nat.reduceEqDiff, reduceIte, Nat.reduceAdd, Nat.reduceMul, Nat.reduceSub, Nat.reduceLT, Nat.reduceLeDiff, Nat.reduceBEq]; first | done | rfl) rfl rfl (by rfl) (by simp only [go_sem, Nat.reduceEqDiff, reduceIte, Nat.reduceAdd, Nat.reduceMul, Nat.reduceSub, Nat.reduceLT, Nat.reduceLeDiff, Nat.reduceBEq]; first | done | rfl | (and_intros <;> rfl)) (by decide) (by intro m hm; first | omega | (rcases m with _ | _ | _ | _ | _ | _ | m <;> first | exact ⟨by decide, rfl⟩ | omega)))
end Go.Proofs.Ytcbhgglpgphimaa.Ab
namespace Go.Proofs.Ytcbhgglpgphimaa.Ab
set_option linter.deprecated false
set_option linter.unusedVariables false
set_option linter.unusedSimpArgs false
open Go Go.Proofs
set_option maxRecDepth 10000
set_option maxHeartbeats 8000000
set_option linter.unusedSimpArgs false
set_option linter.unusedVariables false
theorem keysM_all {r : List Ent} (hb : r.Pairwise fun a b => before a b = true) : ∀ n, n ≤ r.length → Asc (colI n (keyAt r)) ∧ ∀ y, y ∈ colI n (keyAt r) ↔ ∃ (j : Nat) (e : Ent), j < n ∧ r[j]? = some e ∧ e.key = y
  | 0, _ => ⟨List.Pairwise.nil, by simp [colI_0]⟩
  | n + 1, h => by
    obtain ⟨h1, h2⟩ := keysM_all hb n (by omega)
    obtain ⟨e, hx⟩ : ∃ e, r[n]? = some e := ⟨_, List.getElem?_eq_getElem (by omega)⟩
    have bf : ∀ (i : Nat) (a : Ent) (j : Nat) (b : Ent), i < j → r[i]? = some a → r[j]? = some b → klt a.key b.key = true ∨ a.key = b.key := fun i a j b hij ha hb' => by
      obtain ⟨i1, i2⟩ := List.getElem?_eq_some_iff.1 ha
      obtain ⟨j1, j2⟩ := List.getElem?_eq_some_iff.1 hb'
      have := List.pairwise_iff_getElem.1 hb i j i1 j1 hij
      rw [i2, j2] at this
      unfold before at this
      simp only [Bool.or_eq_true, Bool.and_eq_true, decide_eq_true_eq] at this
      exact this.imp id And.left
    rw [colI_succ]
    have memo : ∀ k : List ByteArray, (∀ y, y ∈ k → y = e.key) → (e.key ∈ k ∨ ∃ (j : Nat) (a : Ent), j < n ∧ r[j]? = some a ∧ a.key = e.key) → ∀ y, y ∈ colI n (keyAt r) ++ k ↔ ∃ (j : Nat) (a : Ent), j < n + 1 ∧ r[j]? = some a ∧ a.key = y := by
      intro k hk hk2 y
      rw [List.mem_append, h2]
      constructor
      · rintro (⟨j, a, hj, ha, e1⟩ | h)
        · exact ⟨j, a, by omega, ha, e1⟩
        · exact ⟨n, e, by omega, hx, (hk y h).symm⟩
      · rintro ⟨j, a, hj, ha, e1⟩
        by_cases e2 : j = n
        · subst e2
          rw [hx] at ha
          obtain rfl := Option.some.inj ha
          subst e1
          rcases hk2 with h | ⟨j, a, hj, ha, e1⟩
          · exact .inr h
          · exact .inl ⟨j, a, hj, ha, e1⟩
        · exact .inl ⟨j, a, by omega, ha, e1⟩
    rcases n with _ | m
    · have hk : keyAt r 0 = [e.key] := by simp [keyAt, hx]
      rw [hk]
      exact ⟨by simp [colI_0, Asc], memo _ (by simp) (.inl (by simp))⟩
    · obtain ⟨p, hy⟩ : ∃ e, r[m]? = some e := ⟨_, List.getElem?_eq_getElem (by omega)⟩
      by_cases c : p.key = e.key
      · have hk : keyAt r (m + 1) = [] := by simp [keyAt, hx, hy, c]
        rw [hk]
        exact ⟨by simpa using h1, memo _ (by simp) (.inr ⟨m, p, by omega, hy, c⟩)⟩
      · have hk : keyAt r (m + 1) = [e.key] := by simp [keyAt, hx, hy, c]
        rw [hk]
        refine ⟨List.pairwise_append.2 ⟨h1, by simp, fun x hxx y hyy => ?_⟩, memo _ (by simp) (.inl (by simp))⟩
        obtain rfl := List.mem_singleton.1 hyy
        obtain ⟨j, a, hj, ha, rfl⟩ := (h2 x).1 hxx
        have hpe : klt p.key e.key = true := (bf m p (m + 1) e (by omega) hy hx).resolve_right c
        by_cases e2 : j = m
        · subst e2; rw [hy] at ha; obtain rfl := Option.some.inj ha; exact hpe
        · rcases bf j a m p (by omega) ha hy with h | h
          · exact klt_trans h hpe
          · rw [h]; exact hpe
theorem keysM_sort {r : List Ent} (h : runOk r = true) : allK ((r.map Ent.key).filter keyOk) = keysM r := by
  obtain ⟨h1, h2, h3⟩ := run_pw h
  obtain ⟨k1, k2⟩ := keysM_all h1 r.length (Nat.le_refl _)
  refine asc_uni (allK_asc _) k1 fun k => ?_
  show k ∈ allK _ ↔ k ∈ colI r.length (keyAt r)
  rw [allK_mem, k2, List.mem_filter, List.mem_map]
  constructor
  · rintro ⟨⟨e, he, rfl⟩, _⟩
    obtain ⟨j, hj⟩ := List.mem_iff_getElem?.1 he
    exact ⟨j, e, (List.getElem?_eq_some_iff.1 hj).1, hj, rfl⟩
  · rintro ⟨j, e, _, hj, rfl⟩
    have he := List.mem_of_getElem? hj
    refine ⟨⟨e, he, rfl⟩, ?_⟩
    have := h2 e he
    unfold entOk at this
    simp only [Bool.and_eq_true] at this
    exact this.1.1.1
theorem ltSames_ac (a : List ByteArray) (hl : a.length ≤ 4000000) : AC Try.prog 32 [strsT a, strsT a] noHp 0 ⟨.t (bT true), noHp, 0⟩ := by
  refine AC_of Try.func32 rfl Try.ntmps32 Try.results32 (by kernel_rfl) rfl ?_
  simp only [List.zipIdx, List.map, Nat.zero_add, Nat.reduceAdd]
  repeat (first | apply Aw_seq | apply Aw_block | apply Aw_skip | apply Aw_exit | refine Aw_condt rfl ?_ | refine Aw_condf rfl ?_ | (refine qr ?_; simp only [go_sem, Nat.reduceEqDiff, reduceIte, Nat.reduceAdd, Nat.reduceMul, Nat.reduceSub, Nat.reduceLT, Nat.reduceLeDiff, Nat.reduceBEq, iref]) | (refine qd (by kernel_rfl) (by kernel_rfl) ?_; simp only [go_sem, Nat.reduceEqDiff, reduceIte, Nat.reduceAdd, Nat.reduceMul, Nat.reduceSub, Nat.reduceLT, Nat.reduceLeDiff, Nat.reduceBEq, iref]) | refine dk (by kernel_rfl) ?_)
  refine Aw.rw (rw0 (l' := [(5, .t (iT (0 : Nat))), (1, .t (strsT a)), (0, .t (strsT a))]) (n' := 0) (by repeat (first | exact trivial | refine ⟨rfl, rfl, ?_⟩))) ?_
  refine Aw_loop0 (ι := { i : Nat // i ≤ a.length ∧ (True) }) (fun q => [(5, .t (iT (q.1 : Nat))), (1, .t (strsT a)), (0, .t (strsT a))]) (fun q => a.length - q.1) ⟨0, Nat.zero_le _, trivial⟩ ?_
  rintro ⟨i, hi, hp⟩
  dsimp only
  by_cases hlt : i < a.length
  · have h1 : (i : Int) < (a.length : Int) := by omega
    have h2 := wrap_succ hlt (by omega)
    obtain ⟨e, hx⟩ : ∃ e, a[i]? = some e := ⟨_, List.getElem?_eq_getElem hlt⟩
    repeat (first | apply Aw_seq | apply Aw_block | apply Aw_skip | apply Aw_exit | refine Aw_condt rfl ?_ | refine Aw_condf rfl ?_ | (refine qr ?_; simp only [go_sem, Nat.reduceEqDiff, reduceIte, Nat.reduceAdd, Nat.reduceMul, Nat.reduceSub, Nat.reduceLT, Nat.reduceLeDiff, Nat.reduceBEq, h1, h2, hx, iref, sref, bref]) | (refine qd (by kernel_rfl) (by kernel_rfl) ?_; simp only [go_sem, Nat.reduceEqDiff, reduceIte, Nat.reduceAdd, Nat.reduceMul, Nat.reduceSub, Nat.reduceLT, Nat.reduceLeDiff, Nat.reduceBEq, h1, h2, hx, iref, sref, bref]) | refine dk (by kernel_rfl) ?_)
    exact ⟨⟨i + 1, by omega, trivial⟩, (by simp only []; omega), rw0 (by repeat (first | exact trivial | refine ⟨rfl, rfl, ?_⟩))⟩
  · have h1 : ¬ (i : Int) < (a.length : Int) := by omega
    repeat (first | apply Aw_seq | apply Aw_block | apply Aw_skip | apply Aw_exit | refine Aw_condt rfl ?_ | refine Aw_condf rfl ?_ | (refine qr ?_; simp only [go_sem, Nat.reduceEqDiff, reduceIte, Nat.reduceAdd, Nat.reduceMul, Nat.reduceSub, Nat.reduceLT, Nat.reduceLeDiff, Nat.reduceBEq, h1]) | (refine qd (by kernel_rfl) (by kernel_rfl) ?_; simp only [go_sem, Nat.reduceEqDiff, reduceIte, Nat.reduceAdd, Nat.reduceMul, Nat.reduceSub, Nat.reduceLT, Nat.reduceLeDiff, Nat.reduceBEq, h1]) | refine dk (by kernel_rfl) ?_)
    exact Aw_ret (ret0 (.inl rfl) (by simp only [go_sem, Nat.reduceEqDiff, reduceIte, Nat.reduceAdd, Nat.reduceMul, Nat.reduceSub, Nat.reduceLT, Nat.reduceLeDiff, Nat.reduceBEq]; rfl) (by rfl) rfl)
noncomputable def drR (b : List Int) : List Ent := (offV b 0).1
theorem drawRunKeys_ac (c : List Int) (hl : c.length ≤ 1099511627776) (hb : byteL (c.take 2000)) : AC Try.prog 30 [bytesT c] noHp 0 ⟨.t (.c (.h 0)), hpL [some (eRow (drR (c.take 2000)))], 1⟩ := by
  refine AC_of Try.func30 rfl Try.ntmps30 Try.results30 (by kernel_rfl) rfl ?_
  simp only [List.zipIdx, List.map, Nat.zero_add, Nat.reduceAdd]
  have k0 := l6Open_ac c hl
  have k1 := l71Off_ac hb (p := 0) (by omega)
  repeat (first | apply Aw_seq | apply Aw_block | apply Aw_skip | apply Aw_exit | refine Aw_condt rfl ?_ | refine Aw_condf rfl ?_ | (refine qr ?_; simp only [go_sem, Nat.reduceEqDiff, reduceIte, Nat.reduceAdd, Nat.reduceMul, Nat.reduceSub, Nat.reduceLT, Nat.reduceLeDiff, Nat.reduceBEq]) | (refine qd (by kernel_rfl) (by kernel_rfl) ?_; simp only [go_sem, Nat.reduceEqDiff, reduceIte, Nat.reduceAdd, Nat.reduceMul, Nat.reduceSub, Nat.reduceLT, Nat.reduceLeDiff, Nat.reduceBEq]) | refine dk (by kernel_rfl) ?_ | (refine qx (call_N (L := []) (k0) rfl (.cons (.nm rfl) (.nil)) (.inl rfl) rfl) (by simp only [go_sem, Nat.reduceEqDiff, reduceIte, Nat.reduceAdd, Nat.reduceMul, Nat.reduceSub, Nat.reduceLT, Nat.reduceLeDiff, Nat.reduceBEq]; first | done | rfl) rfl (by simp only [go_sem, Nat.reduceLT]) ?_; simp only [go_sem, Nat.reduceEqDiff, reduceIte, Nat.reduceAdd, Nat.reduceMul, Nat.reduceSub, Nat.reduceLT, Nat.reduceLeDiff, Nat.reduceBEq]) | (refine qx (call_L (N' := [2]) (L := []) (k1) rfl (.cons (.nm rfl) (.nil)) (by decide) (by decide) (by decide) (by simp only [go_sem, Nat.reduceEqDiff, reduceIte, Nat.reduceAdd, Nat.reduceMul, Nat.reduceSub, Nat.reduceLT, Nat.reduceLeDiff, Nat.reduceBEq]; first | done | rfl) (.inl rfl) rfl (by decide)) (by simp only [go_sem, Nat.reduceEqDiff, reduceIte, Nat.reduceAdd, Nat.reduceMul, Nat.reduceSub, Nat.reduceLT, Nat.reduceLeDiff, Nat.reduceBEq]; first | done | rfl) rfl (by simp only [go_sem, Nat.reduceLT]) ?_; simp only [go_sem, Nat.reduceEqDiff, reduceIte, Nat.reduceAdd, Nat.reduceMul, Nat.reduceSub, Nat.reduceLT, Nat.reduceLeDiff, Nat.reduceBEq]))
  exact Aw_ret (retL (M := [3]) (.inl rfl) (by simp only [go_sem, Nat.reduceEqDiff, reduceIte, Nat.reduceAdd, Nat.reduceMul, Nat.reduceSub, Nat.reduceLT, Nat.reduceLeDiff, Nat.reduceBEq]; first | done | rfl) rfl rfl (by rfl) (by simp only [go_sem, Nat.reduceEqDiff, reduceIte, Nat.reduceAdd, Nat.reduceMul, Nat.reduceSub, Nat.reduceLT, Nat.reduceLeDiff, Nat.reduceBEq]; first | done | rfl | (and_intros <;> rfl)) (by decide) (by intro m hm; first | omega | (rcases m with _ | _ | _ | _ | _ | _ | m <;> first | exact ⟨by decide, rfl⟩ | omega)))
theorem drR_fin {b : List Int} (hb : byteL b) : (drR b).length ≤ 11 ∧ ∀ e ∈ drR b, e.key.size ≤ 6 := by
  obtain ⟨h1, h2, h3⟩ := offV_fin hb (p := 0) (by omega)
  exact ⟨h1, h2⟩
def okY (c : List Int) : Prop := big c.length ∧ ∀ x ∈ c, (Lit.int .u8 x).wf = true
theorem okY.byte {c : List Int} (h : okY c) : byteL (c.take 2000) := by
  refine ⟨by rw [List.length_take]; omega, fun x hx => ?_⟩
  have := h.2 x (List.mem_of_mem_take hx)
  simp only [Lit.wf, IntKind.min, IntKind.max, Bool.and_eq_true, decide_eq_true_eq] at this
  simp [IntKind.signed, IntKind.bits] at this
  omega
theorem rdBytes : RdB Try.prog 41 (fun r => [.rs 1 (r.map u8D)]) okY := RdB.slice Try.underlying41 (by kernel_rfl) (RdB.int Try.underlying5)
def kAt (r : List Ent) (i : Nat) : List ByteArray := (r.take i).map Ent.key
theorem kAt_0 (r : List Ent) : kAt r 0 = [] := rfl
theorem kAt_succ {r : List Ent} {i : Nat} {e : Ent} (h : r[i]? = some e) : kAt r (i + 1) = kAt r i ++ [e.key] := by unfold kAt; rw [List.take_add_one, h]; simp
theorem law_RunKeys (c : List Int) (ho : okY c) : AC Try.prog 8 [bytesT c] noHp 0 ⟨.t (bT true), noHp, 0⟩ := by
  refine AC_of Try.func8 rfl Try.ntmps8 Try.results8 (by kernel_rfl) rfl ?_
  simp only [List.zipIdx, List.map, Nat.zero_add, Nat.reduceAdd]
  by_cases hc : c.length ≤ 1048576
  case neg =>
    have g0 : decide ((1048576 : Int) < (c.length : Int)) = true := decide_eq_true (by omega)
    repeat (first | apply Aw_seq | apply Aw_block | apply Aw_skip | apply Aw_exit | refine Aw_condt rfl ?_ | refine Aw_condf rfl ?_ | (refine qr ?_; simp only [go_sem, Nat.reduceEqDiff, reduceIte, Nat.reduceAdd, Nat.reduceMul, Nat.reduceSub, Nat.reduceLT, Nat.reduceLeDiff, Nat.reduceBEq, g0]) | (refine qd (by kernel_rfl) (by kernel_rfl) ?_; simp only [go_sem, Nat.reduceEqDiff, reduceIte, Nat.reduceAdd, Nat.reduceMul, Nat.reduceSub, Nat.reduceLT, Nat.reduceLeDiff, Nat.reduceBEq, g0]) | refine dk (by kernel_rfl) ?_)
    exact Aw_ret (ret0 (.inl rfl) (by simp only [go_sem, Nat.reduceEqDiff, reduceIte, Nat.reduceAdd, Nat.reduceMul, Nat.reduceSub, Nat.reduceLT, Nat.reduceLeDiff, Nat.reduceBEq]; rfl) (by rfl) rfl)
  have g0 : decide ((1048576 : Int) < (c.length : Int)) = false := decide_eq_false (by omega)
  have hb := ho.byte
  have k0' := drawRunKeys_ac c (by omega) hb
  obtain ⟨m1, m2⟩ := drR_fin hb
  obtain ⟨r, hr⟩ : ∃ r, r = drR (c.take 2000) := ⟨_, rfl⟩
  rw [← hr] at k0' m1 m2
  have k0 : AC Try.prog 30 [bytesT c] noHp 0 ⟨.t (runT r), noHp, 0⟩ := AC.settle0 [0] k0' (SetC.row0 rfl rfl) rfl
  clear hr k0'
  have sm : SmR r := ⟨by omega, fun e he => by have := m2 e he; unfold smK; omega⟩
  have k1 := runKeysS_ac r sm
  have k2 : AC Try.prog 33 [runT r] noHp 0 ⟨.t (strsT (if runOk r = true then keysM r else [])), noHp, 0⟩ := AC.settle0 [0] (srunKeys_ac r sm) (SetC.row0 rfl rfl) rfl
  have k3 := srunOk_ac r sm
  have kl : (if runOk r = true then keysM r else []).length ≤ 40 := by
    split
    · have := colI_len (n := r.length) (keyAt_len r); show (colI r.length (keyAt r)).length ≤ 40; omega
    · simp
  have k4 := ltSames_ac (if runOk r = true then keysM r else []) (by omega)
  cases hk : runOk r
  · rw [hk] at k3
    obtain ⟨K, hK⟩ : ∃ K, K = (if runOk r = true then keysM r else []) := ⟨_, rfl⟩
    rw [← hK] at k1 k2 k4
    repeat (first | apply Aw_seq | apply Aw_block | apply Aw_skip | apply Aw_exit | refine Aw_condt rfl ?_ | refine Aw_condf rfl ?_ | (refine qr ?_; simp only [go_sem, Nat.reduceEqDiff, reduceIte, Nat.reduceAdd, Nat.reduceMul, Nat.reduceSub, Nat.reduceLT, Nat.reduceLeDiff, Nat.reduceBEq, g0, bref, iref]) | (refine qd (by kernel_rfl) (by kernel_rfl) ?_; simp only [go_sem, Nat.reduceEqDiff, reduceIte, Nat.reduceAdd, Nat.reduceMul, Nat.reduceSub, Nat.reduceLT, Nat.reduceLeDiff, Nat.reduceBEq, g0, bref, iref]) | refine dk (by kernel_rfl) ?_ | (refine qp (k0) (by simp only [go_sem, Nat.reduceEqDiff, reduceIte, Nat.reduceAdd, Nat.reduceMul, Nat.reduceSub, Nat.reduceLT, Nat.reduceLeDiff, Nat.reduceBEq, g0, bref, iref]; first | done | rfl) rfl (by simp only [go_sem, Nat.reduceLT]) rfl rfl ?_; simp only [go_sem, Nat.reduceEqDiff, reduceIte, Nat.reduceAdd, Nat.reduceMul, Nat.reduceSub, Nat.reduceLT, Nat.reduceLeDiff, Nat.reduceBEq, g0, bref, iref]) | (refine qp (k1) (by simp only [go_sem, Nat.reduceEqDiff, reduceIte, Nat.reduceAdd, Nat.reduceMul, Nat.reduceSub, Nat.reduceLT, Nat.reduceLeDiff, Nat.reduceBEq, g0, bref, iref]; first | done | rfl) rfl (by simp only [go_sem, Nat.reduceLT]) rfl rfl ?_; simp only [go_sem, Nat.reduceEqDiff, reduceIte, Nat.reduceAdd, Nat.reduceMul, Nat.reduceSub, Nat.reduceLT, Nat.reduceLeDiff, Nat.reduceBEq, g0, bref, iref]) | (refine qp (k2) (by simp only [go_sem, Nat.reduceEqDiff, reduceIte, Nat.reduceAdd, Nat.reduceMul, Nat.reduceSub, Nat.reduceLT, Nat.reduceLeDiff, Nat.reduceBEq, g0, bref, iref]; first | done | rfl) rfl (by simp only [go_sem, Nat.reduceLT]) rfl rfl ?_; simp only [go_sem, Nat.reduceEqDiff, reduceIte, Nat.reduceAdd, Nat.reduceMul, Nat.reduceSub, Nat.reduceLT, Nat.reduceLeDiff, Nat.reduceBEq, g0, bref, iref]) | (refine qp (k3) (by simp only [go_sem, Nat.reduceEqDiff, reduceIte, Nat.reduceAdd, Nat.reduceMul, Nat.reduceSub, Nat.reduceLT, Nat.reduceLeDiff, Nat.reduceBEq, g0, bref, iref]; first | done | rfl) rfl (by simp only [go_sem, Nat.reduceLT]) rfl rfl ?_; simp only [go_sem, Nat.reduceEqDiff, reduceIte, Nat.reduceAdd, Nat.reduceMul, Nat.reduceSub, Nat.reduceLT, Nat.reduceLeDiff, Nat.reduceBEq, g0, bref, iref]) | (refine qp (k4) (by simp only [go_sem, Nat.reduceEqDiff, reduceIte, Nat.reduceAdd, Nat.reduceMul, Nat.reduceSub, Nat.reduceLT, Nat.reduceLeDiff, Nat.reduceBEq, g0, bref, iref]; first | done | rfl) rfl (by simp only [go_sem, Nat.reduceLT]) rfl rfl ?_; simp only [go_sem, Nat.reduceEqDiff, reduceIte, Nat.reduceAdd, Nat.reduceMul, Nat.reduceSub, Nat.reduceLT, Nat.reduceLeDiff, Nat.reduceBEq, g0, bref, iref]))
    exact Aw_ret (ret0 (.inl rfl) (by simp only [go_sem, Nat.reduceEqDiff, reduceIte, Nat.reduceAdd, Nat.reduceMul, Nat.reduceSub, Nat.reduceLT, Nat.reduceLeDiff, Nat.reduceBEq]; rfl) (by rfl) rfl)
  · rw [hk] at k3
    rw [hk, if_pos rfl] at k1 k2 k4
    have hs := keysM_sort hk
    have ks := keysSort_ac (r.map Ent.key) ⟨by rw [List.length_map]; omega, fun k hk => by obtain ⟨e, he, rfl⟩ := List.mem_map.1 hk; have := m2 e he; unfold smK; omega⟩ (by rw [List.length_map]; omega)
    rw [hs] at ks
    obtain ⟨K, hK⟩ : ∃ K, K = keysM r := ⟨_, rfl⟩
    rw [← hK] at k1 k2 k4 ks
    repeat (first | apply Aw_seq | apply Aw_block | apply Aw_skip | apply Aw_exit | refine Aw_condt rfl ?_ | refine Aw_condf rfl ?_ | (refine qr ?_; simp only [go_sem, Nat.reduceEqDiff, reduceIte, Nat.reduceAdd, Nat.reduceMul, Nat.reduceSub, Nat.reduceLT, Nat.reduceLeDiff, Nat.reduceBEq, g0, bref, iref]) | (refine qd (by kernel_rfl) (by kernel_rfl) ?_; simp only [go_sem, Nat.reduceEqDiff, reduceIte, Nat.reduceAdd, Nat.reduceMul, Nat.reduceSub, Nat.reduceLT, Nat.reduceLeDiff, Nat.reduceBEq, g0, bref, iref]) | refine dk (by kernel_rfl) ?_ | (refine qp (k0) (by simp only [go_sem, Nat.reduceEqDiff, reduceIte, Nat.reduceAdd, Nat.reduceMul, Nat.reduceSub, Nat.reduceLT, Nat.reduceLeDiff, Nat.reduceBEq, g0, bref, iref]; first | done | rfl) rfl (by simp only [go_sem, Nat.reduceLT]) rfl rfl ?_; simp only [go_sem, Nat.reduceEqDiff, reduceIte, Nat.reduceAdd, Nat.reduceMul, Nat.reduceSub, Nat.reduceLT, Nat.reduceLeDiff, Nat.reduceBEq, g0, bref, iref]) | (refine qp (k1) (by simp only [go_sem, Nat.reduceEqDiff, reduceIte, Nat.reduceAdd, Nat.reduceMul, Nat.reduceSub, Nat.reduceLT, Nat.reduceLeDiff, Nat.reduceBEq, g0, bref, iref]; first | done | rfl) rfl (by simp only [go_sem, Nat.reduceLT]) rfl rfl ?_; simp only [go_sem, Nat.reduceEqDiff, reduceIte, Nat.reduceAdd, Nat.reduceMul, Nat.reduceSub, Nat.reduceLT, Nat.reduceLeDiff, Nat.reduceBEq, g0, bref, iref]) | (refine qp (k2) (by simp only [go_sem, Nat.reduceEqDiff, reduceIte, Nat.reduceAdd, Nat.reduceMul, Nat.reduceSub, Nat.reduceLT, Nat.reduceLeDiff, Nat.reduceBEq, g0, bref, iref]; first | done | rfl) rfl (by simp only [go_sem, Nat.reduceLT]) rfl rfl ?_; simp only [go_sem, Nat.reduceEqDiff, reduceIte, Nat.reduceAdd, Nat.reduceMul, Nat.reduceSub, Nat.reduceLT, Nat.reduceLeDiff, Nat.reduceBEq, g0, bref, iref]) | (refine qp (k3) (by simp only [go_sem, Nat.reduceEqDiff, reduceIte, Nat.reduceAdd, Nat.reduceMul, Nat.reduceSub, Nat.reduceLT, Nat.reduceLeDiff, Nat.reduceBEq, g0, bref, iref]; first | done | rfl) rfl (by simp only [go_sem, Nat.reduceLT]) rfl rfl ?_; simp only [go_sem, Nat.reduceEqDiff, reduceIte, Nat.reduceAdd, Nat.reduceMul, Nat.reduceSub, Nat.reduceLT, Nat.reduceLeDiff, Nat.reduceBEq, g0, bref, iref]) | (refine qp (k4) (by simp only [go_sem, Nat.reduceEqDiff, reduceIte, Nat.reduceAdd, Nat.reduceMul, Nat.reduceSub, Nat.reduceLT, Nat.reduceLeDiff, Nat.reduceBEq, g0, bref, iref]; first | done | rfl) rfl (by simp only [go_sem, Nat.reduceLT]) rfl rfl ?_; simp only [go_sem, Nat.reduceEqDiff, reduceIte, Nat.reduceAdd, Nat.reduceMul, Nat.reduceSub, Nat.reduceLT, Nat.reduceLeDiff, Nat.reduceBEq, g0, bref, iref]))
    refine Aw.rw (rwL (l' := [(6, .t (iT (0 : Nat))), (5, .t (.c (.h 0))), (4, .t (strsT K)), (3, .t (runT r))]) (os := [some (kRow (kAt r 0))]) (M := [15]) (n' := 1) (by repeat (first | exact trivial | refine ⟨rfl, rfl, ?_⟩)) (by rfl) (by simp only [go_sem, Nat.reduceEqDiff, reduceIte, Nat.reduceAdd, Nat.reduceMul, Nat.reduceSub, Nat.reduceLT, Nat.reduceLeDiff, Nat.reduceBEq, kAt_0, List.map_nil]; first | done | rfl) (by decide) (by intro m hm; first | omega | (rcases m with _ | _ | _ | _ | _ | _ | m <;> first | exact ⟨by decide, rfl⟩ | omega))) ?_
    refine Aw_loop_rw (ι := { i : Nat // i ≤ r.length }) (fun q => S [(6, .t (iT (q.1 : Nat))), (5, .t (.c (.h 0))), (4, .t (strsT K)), (3, .t (runT r))] (hpL [some (kRow (kAt r q.1))]) 1) (fun q => r.length - q.1) ⟨0, Nat.zero_le _⟩ ?_
    rintro ⟨i, hi⟩
    dsimp only
    by_cases hlt : i < r.length
    · have g1 : (i : Int) < (r.length : Int) := by omega
      have w1 := wrap_succ hlt (by omega)
      obtain ⟨e, hx⟩ : ∃ e, r[i]? = some e := ⟨_, List.getElem?_eq_getElem hlt⟩
      have hap : ((kAt r i).length + 1) * 16 ≤ 140737488355328 := by unfold kAt; rw [List.length_map, List.length_take]; omega
      have e1 := kAt_succ hx
      repeat (first | apply Aw_seq | apply Aw_block | apply Aw_skip | apply Aw_exit | refine Aw_condt rfl ?_ | refine Aw_condf rfl ?_ | (refine qr ?_; simp only [go_sem, Nat.reduceEqDiff, reduceIte, Nat.reduceAdd, Nat.reduceMul, Nat.reduceSub, Nat.reduceLT, Nat.reduceLeDiff, Nat.reduceBEq, g1, w1, hx, hap]) | (refine qd (by kernel_rfl) (by kernel_rfl) ?_; simp only [go_sem, Nat.reduceEqDiff, reduceIte, Nat.reduceAdd, Nat.reduceMul, Nat.reduceSub, Nat.reduceLT, Nat.reduceLeDiff, Nat.reduceBEq, g1, w1, hx, hap]) | refine dk (by kernel_rfl) ?_)
      refine ⟨⟨i + 1, hlt⟩, [12], ?_, rwL (by repeat (first | exact trivial | refine ⟨rfl, rfl, ?_⟩)) (by rfl) (by simp only [go_sem, Nat.reduceEqDiff, reduceIte, Nat.reduceAdd, Nat.reduceMul, Nat.reduceSub, Nat.reduceLT, Nat.reduceLeDiff, Nat.reduceBEq, e1, List.map_append, List.map_cons, List.map_nil]; first | done | rfl) (by decide) (by intro m hm; first | omega | (rcases m with _ | _ | _ | _ | _ | _ | m <;> first | exact ⟨by decide, rfl⟩ | omega))⟩
      show r.length - (i + 1) < r.length - i; omega
    · have g1 : ¬ (i : Int) < (r.length : Int) := by omega
      obtain rfl : i = r.length := by omega
      have e1 : kAt r r.length = r.map Ent.key := by unfold kAt; rw [List.take_length]
      rw [e1]
      have kf := (ltSames_ac K (by rw [hK]; have h5 := colI_len (n := r.length) (keyAt_len r); show (colI r.length (keyAt r)).length ≤ _; omega)).toL0
      repeat (first | apply Aw_seq | apply Aw_block | apply Aw_skip | apply Aw_exit | refine Aw_condt rfl ?_ | refine Aw_condf rfl ?_ | (refine qr ?_; simp only [go_sem, Nat.reduceEqDiff, reduceIte, Nat.reduceAdd, Nat.reduceMul, Nat.reduceSub, Nat.reduceLT, Nat.reduceLeDiff, Nat.reduceBEq, g1]) | (refine qd (by kernel_rfl) (by kernel_rfl) ?_; simp only [go_sem, Nat.reduceEqDiff, reduceIte, Nat.reduceAdd, Nat.reduceMul, Nat.reduceSub, Nat.reduceLT, Nat.reduceLeDiff, Nat.reduceBEq, g1]) | refine dk (by kernel_rfl) ?_ | (refine qx (call_N (L := [0]) (ks) rfl (.cons (arg_lend (m := 0) rfl (by simp)) (.nil)) (.inr ⟨rfl, by simp⟩) rfl) (by simp only [go_sem, Nat.reduceEqDiff, reduceIte, Nat.reduceAdd, Nat.reduceMul, Nat.reduceSub, Nat.reduceLT, Nat.reduceLeDiff, Nat.reduceBEq, g1]; first | done | rfl) rfl (by simp only [go_sem, Nat.reduceLT]) ?_; simp only [go_sem, Nat.reduceEqDiff, reduceIte, Nat.reduceAdd, Nat.reduceMul, Nat.reduceSub, Nat.reduceLT, Nat.reduceLeDiff, Nat.reduceBEq, g1]) | (refine qx (call_N (L := [6]) (kf) rfl (.cons (arg_lend (m := 6) rfl (by simp)) (.cons (.nm rfl) (.nil))) (.inr ⟨rfl, by simp⟩) rfl) (by simp only [go_sem, Nat.reduceEqDiff, reduceIte, Nat.reduceAdd, Nat.reduceMul, Nat.reduceSub, Nat.reduceLT, Nat.reduceLeDiff, Nat.reduceBEq, g1]; first | done | rfl) rfl (by simp only [go_sem, Nat.reduceLT]) ?_; simp only [go_sem, Nat.reduceEqDiff, reduceIte, Nat.reduceAdd, Nat.reduceMul, Nat.reduceSub, Nat.reduceLT, Nat.reduceLeDiff, Nat.reduceBEq, g1]))

      exact Aw_ret (ret0 (.inl rfl) (by simp only [go_sem, Nat.reduceEqDiff, reduceIte, Nat.reduceAdd, Nat.reduceMul, Nat.reduceSub, Nat.reduceLT, Nat.reduceLeDiff, Nat.reduceBEq]; rfl) (by rfl) rfl)
end Go.Proofs.Ytcbhgglpgphimaa.Ab
