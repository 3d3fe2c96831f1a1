/-
  The plain law of FnRunTrimTop: what the printed functions compute answers true, for every argument that fits; and the lemmas on each function that it reaches. No condition beyond that numbers are of their kind and lengths within a slice's.
-/
import Derived.Test.YtkifijclehgiaaaPFnRunTrimTopx0
import Derived.Test.YtkifijclehgiaaaPFnRunTrimTopx1
import Derived.Test.YtkifijclehgiaaaPFnRunTrimTopx2
import Derived.Test.YtkifijclehgiaaaPFnRunTrimTopx3
import Derived.Test.YtkifijclehgiaaaPFnRunTrimTopx4
import Derived.Test.YtkifijclehgiaaaPFnRunTrimTopx5
import Derived.Test.YtkifijclehgiaaaPFnRunTrimTopx6
import Derived.Test.YtkifijclehgiaaaPFnRunTrimTopx7
import Derived.Test.YtkifijclehgiaaaPFnRunTrimTopx8
import Derived.Test.YtkifijclehgiaaaPFnRunTrimTopx9
import Derived.Test.YtkifijclehgiaaaPFnRunTrimTopx10
import Derived.Test.YtkifijclehgiaaaPFnRunTrimTopx11
import Derived.Test.YtkifijclehgiaaaPFnRunTrimTopx12
import Derived.Test.YtkifijclehgiaaaPFnRunTrimTopx13
import Derived.Test.YtkifijclehgiaaaPFnRunTrimTopx14
namespace Go.Proofs.Ytkifijclehgiaaa.PFnRunTrimTop
open Go.RowKit Go.Proofs.YtkifijclehgiaaaW.PrintWords Go.Proofs.YtkifijclehgiaaaW.PrintLast Go.Proofs.YtkifijclehgiaaaW.PrintMore
set_option linter.unusedVariables false
set_option linter.unusedSimpArgs false

/-! #### base -/
theorem w64 {x : Int} (h0 : -9223372036854775808 ≤ x) (h1 : x ≤ 9223372036854775807) : wrap64 x = x := by unfold wrap64; omega
theorem fuel {k d : Nat} (h : d < k) : ∃ m, k = m + 1 := ⟨k - 1, by omega⟩

theorem rdE (xs : List S27) (n : Nat) (h : n < xs.length) : rd_T27 xs (n : Int) = xs[n] := by simp [rd_T27, List.getD, h]
instance : DecidableEq S27 := fun a b => decidable_of_iff (a.f0 = b.f0 ∧ a.f1 = b.f1 ∧ a.f2 = b.f2 ∧ a.f3 = b.f3) (by cases a; cases b; simp)

/-! #### runOk -/
def inB (a lo hi : Int) : Bool := decide (lo ≤ a) && decide (a ≤ hi)
theorem specIn_f (a b c : Int) : spec_l6In.f a b c = some (inB a b c) := by
  unfold spec_l6In.f inB
  by_cases h : b ≤ a <;> simp [h]
theorem implIn_f (a b c : Int) : impl_in.f a b c = some (inB a b c) := by
  unfold impl_in.f inB
  by_cases h : b ≤ a <;> simp [h]
def keyL (a : ByteArray) : Nat → Nat → Bool
  | 0, _ => decide ((a.size : Int) ≤ 5)
  | d + 1, i => inB (bt a (i : Int)) 97 100 && keyL a d (i + 1)
def keyB (a : ByteArray) : Bool := keyL a a.size 0
theorem specKey_l (a : ByteArray) (hn : a.size ≤ 9223372036854775807) (d : Nat) : ∀ (k i : Nat), i ≤ a.size → a.size - i = d → d < k → spec_KeyOk.l0 k a (i : Int) = some (keyL a d i) := by
  induction d with
  | zero =>
    intro k i h1 hd hk
    obtain ⟨k, rfl⟩ := fuel hk
    simp only [spec_KeyOk.l0]; rw [if_neg (by omega)]; rfl
  | succ d ih =>
    intro k i h1 hd hk
    obtain ⟨k, rfl⟩ := fuel hk
    obtain ⟨b1, b2⟩ := bt_range a (i : Int)
    simp only [spec_KeyOk.l0]; rw [if_pos (by omega), if_pos (by omega), w64 (x := bt a (i : Int)) (by omega) (by omega), specIn_f, w64 (by omega) (by omega)]
    have := ih k (i + 1) (by omega) (by omega) (by omega)
    simp only [Option.bind_some, keyL]
    cases inB (bt a (i : Int)) 97 100
    · simp
    · simpa using this
theorem specKey_f (a : ByteArray) (hn : a.size ≤ 9223372036854775807) (k : Nat) (hk : a.size < k) : spec_KeyOk.f k a = some (keyB a) := specKey_l a hn a.size k 0 (by omega) (by omega) hk
theorem implKey_l (a : ByteArray) (hn : a.size ≤ 9223372036854775807) (d : Nat) : ∀ (k i : Nat), i ≤ a.size → a.size - i = d → d < k → impl_KeyOk.l0 k a (a.size : Int) (i : Int) = some (keyL a d i) := by
  induction d with
  | zero =>
    intro k i h1 hd hk
    obtain ⟨k, rfl⟩ := fuel hk
    simp only [impl_KeyOk.l0]; rw [if_neg (by omega)]; rfl
  | succ d ih =>
    intro k i h1 hd hk
    obtain ⟨k, rfl⟩ := fuel hk
    simp only [impl_KeyOk.l0]; rw [if_pos (by omega), if_pos (by omega), if_pos (by omega), w64 (by omega) (by omega)]
    have := ih k (i + 1) (by omega) (by omega) (by omega)
    simp only [keyL, inB]
    by_cases c1 : bt a (i : Int) < 97
    · rw [if_pos c1]; simp [show ¬ (97 ≤ bt a (i : Int)) by omega]
    · rw [if_neg c1]
      by_cases c2 : bt a (i : Int) > 100
      · rw [if_pos c2]; simp [show ¬ (bt a (i : Int) ≤ 100) by omega]
      · rw [if_neg c2]; simpa [show 97 ≤ bt a (i : Int) by omega, show bt a (i : Int) ≤ 100 by omega] using this
theorem implKey_f (a : ByteArray) (hn : a.size ≤ 9223372036854775807) (k : Nat) (hk : a.size < k) : impl_KeyOk.f k a = some (keyB a) := implKey_l a hn a.size k 0 (by omega) (by omega) hk
def entryB (e : S27) : Bool := keyB e.f0 && (inB e.f1 0 99 && (if e.f2 = true then decide (e.f1 = 0) && inB e.f3 1 999 else inB e.f3 1 999))
theorem specEntry_f (e : S27) (hn : e.f0.size ≤ 9223372036854775807) (k : Nat) (hk : e.f0.size < k) : spec_l11Ok.f k e.f0 e.f1 e.f2 e.f3 = some (entryB e) := by
  unfold spec_l11Ok.f entryB
  rw [specKey_f _ hn k hk]
  simp only [Option.bind_some, specIn_f]
  cases keyB e.f0 <;> cases inB e.f1 0 99 <;> cases e.f2 <;> by_cases h : e.f1 = 0 <;> simp [h]
theorem implEntry_f (e : S27) (hn : e.f0.size ≤ 9223372036854775807) (k : Nat) (hk : e.f0.size < k) : impl_entryOk.f k e.f0 e.f1 e.f2 e.f3 = some (entryB e) := by
  unfold impl_entryOk.f entryB
  rw [implKey_f _ hn k hk]
  simp only [Option.bind_some, implIn_f]
  cases keyB e.f0 <;> cases inB e.f1 0 99 <;> cases e.f2 <;> by_cases h : e.f1 = 0 <;> simp [h]
def aheadB (a b : S27) : Bool := Go.Op.bytesLess a.f0.toList b.f0.toList || (decide (a.f0.toList = b.f0.toList) && decide (a.f3 > b.f3))
theorem specAhead_f (a b : S27) : spec_l11Ahead.f a.f0 a.f1 a.f2 a.f3 b.f0 b.f1 b.f2 b.f3 = some (aheadB a b) := by
  unfold spec_l11Ahead.f aheadB
  cases Go.Op.bytesLess a.f0.toList b.f0.toList <;> by_cases h : a.f0.toList = b.f0.toList <;> simp [h]
theorem implBefore_f (a b : S27) : impl_before.f a.f0 a.f1 a.f2 a.f3 b.f0 b.f1 b.f2 b.f3 = some (aheadB a b) := by
  unfold impl_before.f aheadB
  cases Go.Op.bytesLess a.f0.toList b.f0.toList <;> by_cases h : a.f0.toList = b.f0.toList <;> simp [h]
def stepB (xs : List S27) (i : Nat) : Bool := entryB (rd_T27 xs (i : Int)) && (decide (i = 0) || aheadB (rd_T27 xs ((i : Int) - 1)) (rd_T27 xs (i : Int)))
def runL (xs : List S27) : Nat → Nat → Bool
  | 0, _ => decide ((xs.length : Int) ≤ 40)
  | d + 1, i => stepB xs i && runL xs d (i + 1)
def runB (xs : List S27) : Bool := runL xs xs.length 0
theorem specRunOk_l (xs : List S27) (hn : xs.length ≤ 9223372036854775806) (B : Nat) (ho : ∀ x ∈ xs, x.f0.size ≤ 9223372036854775807 ∧ x.f0.size < B) (d : Nat) : ∀ (k i : Nat), i ≤ xs.length → xs.length - i = d → d + B < k → spec_RunOk.l0 k xs (i : Int) = some (runL xs d i) := by
  induction d with
  | zero =>
    intro k i h1 hd hk
    obtain ⟨k, rfl⟩ := fuel hk
    simp only [spec_RunOk.l0]; rw [if_neg (by omega)]; rfl
  | succ d ih =>
    intro k i h1 hd hk
    obtain ⟨k, rfl⟩ := fuel hk
    have hlt : i < xs.length := by omega
    have ho' := ho xs[i] (List.getElem_mem hlt)
    have := ih k (i + 1) (by omega) (by omega) (by omega)
    simp only [spec_RunOk.l0]; rw [if_pos (by omega), if_pos (by omega), specEntry_f (rd_T27 xs (i : Int)) (by rw [rdE xs i hlt]; exact ho'.1) k (by rw [rdE xs i hlt]; omega), w64 (x := (i : Int) - 1) (by omega) (by omega), specAhead_f, w64 (by omega) (by omega)]
    simp only [Option.bind_some, runL, stepB]
    cases entryB (rd_T27 xs (i : Int))
    · simp
    · by_cases h0 : i = 0
      · subst h0; simpa using this
      · rw [if_pos rfl, if_pos (by omega), if_pos (by omega), if_pos (by omega)]
        cases aheadB (rd_T27 xs ((i : Int) - 1)) (rd_T27 xs (i : Int))
        · simp [h0]
        · simpa [h0] using this
theorem implRunOk_l (xs : List S27) (hn : xs.length ≤ 9223372036854775806) (B : Nat) (ho : ∀ x ∈ xs, x.f0.size ≤ 9223372036854775807 ∧ x.f0.size < B) (d : Nat) : ∀ (k i : Nat), i ≤ xs.length → xs.length - i = d → d + B < k → impl_RunOk.l0 k xs xs (xs.length : Int) (i : Int) = some (runL xs d i) := by
  induction d with
  | zero =>
    intro k i h1 hd hk
    obtain ⟨k, rfl⟩ := fuel hk
    simp only [impl_RunOk.l0]; rw [if_neg (by omega)]; rfl
  | succ d ih =>
    intro k i h1 hd hk
    obtain ⟨k, rfl⟩ := fuel hk
    have hlt : i < xs.length := by omega
    have ho' := ho xs[i] (List.getElem_mem hlt)
    have := ih k (i + 1) (by omega) (by omega) (by omega)
    simp only [impl_RunOk.l0]; rw [if_pos (by omega), if_pos (by omega), if_pos (by omega), implEntry_f (rd_T27 xs (i : Int)) (by rw [rdE xs i hlt]; exact ho'.1) k (by rw [rdE xs i hlt]; omega), w64 (x := (i : Int) - 1) (by omega) (by omega), implBefore_f, w64 (by omega) (by omega)]
    simp only [Option.bind_some, runL, stepB]
    cases entryB (rd_T27 xs (i : Int))
    · simp
    · by_cases h0 : i = 0
      · subst h0; simpa using this
      · rw [if_pos rfl, if_pos (by omega), if_pos (by omega), if_pos (by omega)]
        cases aheadB (rd_T27 xs ((i : Int) - 1)) (rd_T27 xs (i : Int))
        · simp [h0]
        · simpa [h0] using this
theorem specRunOk_f (xs : List S27) (hn : xs.length ≤ 9223372036854775806) (B : Nat) (ho : ∀ x ∈ xs, x.f0.size ≤ 9223372036854775807 ∧ x.f0.size < B) (k : Nat) (hk : xs.length + B < k) : spec_RunOk.f k xs = some (runB xs) := specRunOk_l xs hn B ho xs.length k 0 (by omega) (by omega) hk
theorem implRunOk_f (xs : List S27) (hn : xs.length ≤ 9223372036854775806) (B : Nat) (ho : ∀ x ∈ xs, x.f0.size ≤ 9223372036854775807 ∧ x.f0.size < B) (k : Nat) (hk : xs.length + B < k) : impl_RunOk.f k xs = some (runB xs) := implRunOk_l xs hn B ho xs.length k 0 (by omega) (by omega) hk

/-! #### at -/
def hitA (q : ByteArray) (t : Int) (e : S27) : Bool := decide (e.f0.toList = q.toList) && decide (e.f3 ≤ t)
def atT : Option S27 → ByteArray × Int × Bool × Int × Bool
  | some e => (e.f0, e.f1, e.f2, e.f3, true)
  | none => ((⟨#[]⟩ : ByteArray), 0, false, 0, false)
theorem implAt_l (xs : List S27) (q : ByteArray) (t : Int) (hn : xs.length ≤ 9223372036854775806) (d : Nat) : ∀ (k i : Nat), i ≤ xs.length → xs.length - i = d → d < k → impl_at.l0 k q t xs (xs.length : Int) (i : Int) = some (atT ((xs.drop i).find? (hitA q t))) := by
  induction d with
  | zero =>
    intro k i h1 hd hk
    obtain ⟨k, rfl⟩ := fuel hk
    simp only [impl_at.l0]; rw [if_neg (by omega), List.drop_of_length_le (by omega)]; rfl
  | succ d ih =>
    intro k i h1 hd hk
    obtain ⟨k, rfl⟩ := fuel hk
    have hlt : i < xs.length := by omega
    simp only [impl_at.l0]; rw [if_pos (by omega), if_pos (by omega), if_pos (by omega), rdE xs i hlt, w64 (by omega) (by omega)]
    have := ih k (i + 1) (by omega) (by omega) (by omega)
    rw [List.drop_eq_getElem_cons hlt, List.find?_cons]
    unfold hitA
    by_cases c : xs[i].f0.toList = q.toList <;> by_cases c2 : xs[i].f3 ≤ t <;> simp only [c, c2, if_true, if_false, decide_true, decide_false, Bool.and_true, Bool.and_false, Bool.false_and] <;> first | rfl | exact this

/-! #### runAt -/
def runAtF (xs : List S27) (q : ByteArray) (t : Int) : Option S27 := if runB xs = true then xs.find? (hitA q t) else none
theorem implRunAt_f (xs : List S27) (q : ByteArray) (t : Int) (hn : xs.length ≤ 9223372036854775806) (B : Nat) (ho : ∀ x ∈ xs, x.f0.size ≤ 9223372036854775807 ∧ x.f0.size < B) (k : Nat) (hk : xs.length + B < k) : impl_RunAt.f k xs q t = some (atT (runAtF xs q t)) := by
  unfold impl_RunAt.f runAtF impl_at.f
  have := implAt_l xs q t hn xs.length k 0 (by omega) (by omega) (by omega)
  rw [implRunOk_f xs hn B ho k hk]
  simp only [Option.bind_some]
  cases runB xs
  · rfl
  · simp only [if_true]
    rw [show (0 : Int) = ((0 : Nat) : Int) from rfl, this]; rfl

/-! #### pick -/
theorem xor_nonneg (a b : Int) (ha : 0 ≤ a) (ha2 : a < 4611686018427387904) (hb : 0 ≤ b) (hb2 : b < 4611686018427387904) : 0 ≤ Go.bits .xor .i64 a b := by
  obtain ⟨m, rfl⟩ := Int.eq_ofNat_of_zero_le ha
  obtain ⟨n, rfl⟩ := Int.eq_ofNat_of_zero_le hb
  have hm : m < 2 ^ 62 := by have : (2 : Nat) ^ 62 = 4611686018427387904 := by decide
                             omega
  have hn : n < 2 ^ 62 := by have : (2 : Nat) ^ 62 = 4611686018427387904 := by decide
                             omega
  have hx := Nat.xor_lt_two_pow hm hn
  have e62 : (2 : Nat) ^ 62 = 4611686018427387904 := by decide
  have e64 : (2 : Nat) ^ 64 = 18446744073709551616 := by decide
  have hb : ∀ q : Nat, q < 2 ^ 62 → (BitVec.ofInt 64 (q : Int)).toNat = q := fun q hq => by
    rw [BitVec.ofInt_natCast, BitVec.toNat_ofNat]; exact Nat.mod_eq_of_lt (by omega)
  have e : (BitVec.ofInt 64 (m : Int) ^^^ BitVec.ofInt 64 (n : Int)).toNat = m ^^^ n := by rw [BitVec.toNat_xor, hb m hm, hb n hn]
  have : Go.bits .xor .i64 (m : Int) (n : Int) = IntKind.wrap .i64 ((m ^^^ n : Nat) : Int) := by
    show IntKind.wrap .i64 (((BitVec.ofInt 64 (m : Int) ^^^ BitVec.ofInt 64 (n : Int)).toNat : Nat) : Int) = _
    rw [e]
  rw [this]
  show 0 ≤ IntKind.wrap .i64 _
  simp only [IntKind.wrap, IntKind.bits, IntKind.signed]
  simp
  omega
def byteL (z : List Int) : Prop := z.length ≤ 2000 ∧ ∀ x ∈ z, 0 ≤ x ∧ x ≤ 255
theorem rd_byte {z : List Int} (hz : byteL z) (i : Int) : 0 ≤ rd z i ∧ rd z i ≤ 255 := by
  unfold rd
  rw [List.getD_eq_getElem?_getD]
  cases h : z[i.toNat]? with
  | none => simp
  | some x => exact hz.2 x (List.mem_of_getElem? h)
theorem pick_f (z : List Int) (hz : byteL z) (c n : Int) (hc : 0 ≤ c) (hc2 : c ≤ 1000000000) (k : Nat) (hk : 0 < k) : ∃ v, spec_l6Rd_pick.f k z c n = some (v, c + 1) ∧ 0 ≤ v ∧ (1 ≤ n → v < n) := by
  obtain ⟨k, rfl⟩ := fuel hk
  have hl := hz.1
  have hr := rd_byte hz
  have ec : wrap64 (c + 1) = c + 1 := w64 (by omega) (by omega)
  unfold spec_l6Rd_pick.f
  rw [ec]
  by_cases hn : n < 1
  · rw [if_pos hn]; exact ⟨0, by simp [spec_l6Rd_pick.j0], by omega, by omega⟩
  · rw [if_neg hn]
    by_cases h0 : (z.length : Int) = 0
    · have hb : ((z.length : Int) == 0) = true := by simp [h0]
      rw [hb]; exact ⟨0, by simp [spec_l6Rd_pick.j0], by omega, by omega⟩
    · have hb : ((z.length : Int) == 0) = false := by simpa using h0
      have e1 : wrap64 (c + 1 - 1) = c := by rw [w64 (by omega) (by omega)]; omega
      have er : ∀ i, wrap64 (rd z i) = rd z i := fun i => w64 (by have := hr i; omega) (by have := hr i; omega)
      have key : ∀ y : Int, 0 ≤ y → 0 ≤ Int.tmod y n ∧ Int.tmod y n < n := fun y hy => ⟨Int.tmod_nonneg n hy, Int.tmod_lt_of_pos y (by omega)⟩
      rw [hb]; simp only [spec_l6Rd_pick.j0, Bool.false_eq_true, if_false, e1, er]
      by_cases h1 : c < (z.length : Int)
      · rw [if_pos h1, if_pos hc, if_neg (by omega)]
        obtain ⟨a1, a2⟩ := key (rd z c) (hr c).1
        exact ⟨_, rfl, a1, fun _ => a2⟩
      · have m1 : 0 ≤ Int.tmod c (z.length : Int) := Int.tmod_nonneg _ hc
        have m2 : Int.tmod c (z.length : Int) < (z.length : Int) := Int.tmod_lt_of_pos c (by omega)
        have m3 : 0 ≤ Int.tmod (c * 7 + 3) (z.length : Int) := Int.tmod_nonneg _ (by omega)
        have m4 : Int.tmod (c * 7 + 3) (z.length : Int) < (z.length : Int) := Int.tmod_lt_of_pos _ (by omega)
        have e7 : wrap64 (c * 7) = c * 7 := w64 (by omega) (by omega)
        have e73 : wrap64 (c * 7 + 3) = c * 7 + 3 := w64 (by omega) (by omega)
        have d0 : Int.tdiv c (z.length : Int) = c / (z.length : Int) := Int.tdiv_eq_ediv_of_nonneg hc
        have d1 : 0 ≤ c / (z.length : Int) := Int.ediv_nonneg hc (by omega)
        have d2 : c / (z.length : Int) ≤ c := Int.ediv_le_self _ hc
        rw [if_neg h1, if_neg h0, e7, e73, if_pos m1, if_pos m2, if_pos m3, if_pos m4, if_neg (by omega)]
        have hx := hr (Int.tmod c (z.length : Int))
        have hy := hr (Int.tmod (c * 7 + 3) (z.length : Int))
        rw [d0]
        generalize rd z (Int.tmod c (z.length : Int)) = x at *
        generalize rd z (Int.tmod (c * 7 + 3) (z.length : Int)) = y at *
        generalize c / (z.length : Int) = q at *
        rw [w64 (x := x * 131) (by omega) (by omega), w64 (x := y * 1117) (by omega) (by omega), w64 (x := x * 131 + y * 1117) (by omega) (by omega), w64 (x := c * 29) (by omega) (by omega), w64 (x := q) (by omega) (by omega), w64 (x := q * 53) (by omega) (by omega), w64 (x := x * 131 + y * 1117 + c * 29) (by omega) (by omega), w64 (x := x * 131 + y * 1117 + c * 29 + q * 53) (by omega) (by omega)]
        have t0 : Int.tdiv (x * 131 + y * 1117 + c * 29 + q * 53) 64 = (x * 131 + y * 1117 + c * 29 + q * 53) / 64 := Int.tdiv_eq_ediv_of_nonneg (by omega)
        rw [t0, w64 (x := (x * 131 + y * 1117 + c * 29 + q * 53) / 64) (by omega) (by omega)]
        obtain ⟨a1, a2⟩ := key _ (xor_nonneg (x * 131 + y * 1117 + c * 29 + q * 53) ((x * 131 + y * 1117 + c * 29 + q * 53) / 64) (by omega) (by omega) (by omega) (by omega))
        exact ⟨_, rfl, a1, fun _ => a2⟩

/-! #### draw1: of, key, near -/
theorem rdOf_mem {α : Type} (d : α) (xs : List α) (i : Int) (h0 : 0 ≤ i) (h1 : i < (xs.length : Int)) : rdOf d xs i ∈ xs := by
  unfold rdOf
  have h : i.toNat < xs.length := by omega
  rw [List.getD_eq_getElem?_getD, List.getElem?_eq_getElem h]
  exact List.getElem_mem h
theorem of_f (z : List Int) (hz : byteL z) (c : Int) (l : List ByteArray) (hl : 0 < l.length) (hl2 : l.length ≤ 1000) (hc : 0 ≤ c) (hc2 : c ≤ 1000000000) (k : Nat) (hk : 0 < k) : ∃ s, spec_l6Rd_of.f k z c l = some (s, c + 1) ∧ s ∈ l := by
  obtain ⟨v, h, h0, h1⟩ := pick_f z hz c (l.length : Int) hc hc2 k hk
  have h2 := h1 (by omega)
  unfold spec_l6Rd_of.f
  rw [h]; simp only [Option.bind_some]
  rw [if_pos h0, if_pos h2]
  exact ⟨_, rfl, rdOf_mem _ _ _ h0 h2⟩
theorem key_l (z : List Int) (hz : byteL z) (d : Nat) (hd : d ≤ 100) : ∀ (k : Nat) (s : ByteArray) (c : Int), d < k → 0 ≤ c → c + d ≤ 1000000000 → s.size + d ≤ 1000 → ∃ r, spec_l71Key.l0 k s (d : Int) z c = some (r, c + d) ∧ r.size ≤ s.size + d := by
  induction d with
  | zero =>
    intro k s c hk hc hc2 hs
    obtain ⟨k, rfl⟩ := fuel hk
    exact ⟨s, by simp only [spec_l71Key.l0]; rw [if_neg (by omega)]; simp, by omega⟩
  | succ d ih =>
    intro k s c hk hc hc2 hs
    obtain ⟨k, rfl⟩ := fuel hk
    simp only [spec_l71Key.l0]
    rw [if_pos (by omega)]
    obtain ⟨y, h, hm⟩ := of_f z hz c (l := [(⟨#[97]⟩ : ByteArray), (⟨#[98]⟩ : ByteArray), (⟨#[97]⟩ : ByteArray), (⟨#[99]⟩ : ByteArray), (⟨#[100]⟩ : ByteArray)]) (by simp) (by simp) hc (by omega) k (by omega)
    rw [h]; simp only [Option.bind_some]
    have hy : y.size = 1 := by
      simp only [List.mem_cons, List.not_mem_nil, or_false] at hm
      rcases hm with rfl | rfl | rfl | rfl | rfl <;> rfl
    have hsz : (s ++ y).size = s.size + 1 := by rw [ByteArray.size_append, hy]
    rw [if_pos (by omega), w64 (by omega) (by omega)]
    obtain ⟨r, hr, hr2⟩ := ih (by omega) k (s ++ y) (c + 1) (by omega) (by omega) (by omega) (by omega)
    refine ⟨r, ?_, by omega⟩
    rw [show ((d + 1 : Nat) : Int) - 1 = (d : Int) by omega, hr, show c + 1 + (d : Int) = c + ((d + 1 : Nat) : Int) by omega]
theorem key_f (z : List Int) (hz : byteL z) (c : Int) (hc : 0 ≤ c) (hc2 : c ≤ 900000000) (k : Nat) (hk : 10 < k) : ∃ r c', spec_l71Key.f k z c = some (r, c') ∧ r.size ≤ 5 ∧ c ≤ c' ∧ c' ≤ c + 6 := by
  obtain ⟨v, h, h0, h1⟩ := pick_f z hz c 6 hc (by omega) k (by omega)
  have h2 := h1 (by omega)
  unfold spec_l71Key.f
  rw [h]; simp only [Option.bind_some]
  obtain ⟨n, rfl⟩ := Int.eq_ofNat_of_zero_le h0
  obtain ⟨r, hr, hr2⟩ := key_l z hz n (by omega) k (⟨#[]⟩ : ByteArray) (c + 1) (by omega) (by omega) (by omega) (by show 0 + n ≤ 1000; omega)
  have : (⟨#[]⟩ : ByteArray).size = 0 := rfl
  exact ⟨r, _, hr, by omega, by omega, by omega⟩
theorem near_f (z : List Int) (hz : byteL z) (c : Int) (l : List ByteArray) (K : Nat) (hK : 5 ≤ K) (hK2 : K ≤ 1000) (hl : ∀ s ∈ l, s.size ≤ K) (hl2 : l.length ≤ 1000) (hc : 0 ≤ c) (hc2 : c ≤ 800000000) (k : Nat) (hk : 20 < k) : ∃ r c', spec_l71Near.f k z c l = some (r, c') ∧ r.size ≤ K ∧ c ≤ c' ∧ c' ≤ c + 10 := by
  have hj : ∀ (b : Bool) (c' : Int), c ≤ c' → c' ≤ c + 1 → (b = false → 0 < l.length) → ∃ r c'', spec_l71Near.j0 k l b z c' = some (r, c'') ∧ r.size ≤ K ∧ c' ≤ c'' ∧ c'' ≤ c' + 9 := by
    intro b c' g1 g2 g3
    obtain ⟨k, rfl⟩ := fuel (show 0 < k by omega)
    simp only [spec_l71Near.j0]
    cases b
    · have g3 := g3 rfl
      obtain ⟨v, h, h0, h1⟩ := pick_f z hz c' (l.length : Int) (by omega) (by omega) k (by omega)
      have h2 := h1 (by omega)
      simp only [Bool.false_eq_true, if_false]
      rw [h]; simp only [Option.bind_some]
      rw [if_pos h0, if_pos h2]
      have hs := hl _ (rdOf_mem ByteArray.empty l v h0 h2)
      generalize rdOf ByteArray.empty l v = s at *
      obtain ⟨v2, h', h0', h1'⟩ := pick_f z hz (c' + 1) 4 (by omega) (by omega) k (by omega)
      rw [h']; simp only [Option.bind_some]
      by_cases e0 : v2 = 0
      · rw [if_pos e0, w64 (by omega) (by omega)]
        obtain ⟨v3, h'', h0'', h1''⟩ := pick_f z hz (c' + 1 + 1) ((s.size : Int) + 1) (by omega) (by omega) k (by omega)
        have := h1'' (by omega)
        rw [h'']; simp only [Option.bind_some]
        rw [if_pos h0'', if_pos (by omega)]
        exact ⟨_, _, rfl, by rw [ByteArray.size_extract]; omega, by omega, by omega⟩
      · rw [if_neg e0]
        by_cases e1 : v2 = 1
        · rw [if_pos e1]
          by_cases e2 : (s.size : Int) < 5
          · rw [if_pos e2]
            obtain ⟨y, h, hm⟩ := of_f z hz (c' + 1 + 1) (l := [(⟨#[97]⟩ : ByteArray), (⟨#[98]⟩ : ByteArray), (⟨#[100]⟩ : ByteArray)]) (by simp) (by simp) (by omega) (by omega) k (by omega)
            have hy : y.size = 1 := by
              simp only [List.mem_cons, List.not_mem_nil, or_false] at hm
              rcases hm with rfl | rfl | rfl <;> rfl
            rw [h]; simp only [Option.bind_some]
            rw [if_pos (by omega)]
            exact ⟨_, _, rfl, by rw [ByteArray.size_append, hy]; omega, by omega, by omega⟩
          · rw [if_neg e2]; exact ⟨_, _, rfl, hs, by omega, by omega⟩
        · rw [if_neg e1]; exact ⟨_, _, rfl, hs, by omega, by omega⟩
    · obtain ⟨r, c'', h, h1, h2, h3⟩ := key_f z hz c' (by omega) (by omega) k (by omega)
      simp only [if_true]
      rw [h]; simp only [Option.bind_some]
      exact ⟨_, _, rfl, by omega, h2, by omega⟩
  unfold spec_l71Near.f
  by_cases e : (l.length : Int) = 0
  · rw [if_pos e]
    obtain ⟨r, c'', h, h1, h2, h3⟩ := hj true c (by omega) (by omega) (fun h => by cases h)
    exact ⟨r, c'', h, h1, h2, by omega⟩
  · rw [if_neg e]
    obtain ⟨v, h, h0, h1⟩ := pick_f z hz c 4 hc (by omega) k (by omega)
    rw [h]; simp only [Option.bind_some]
    obtain ⟨r, c'', h, h1, h2, h3⟩ := hj (v == 0) (c + 1) (by omega) (by omega) (fun _ => by omega)
    exact ⟨r, c'', h, h1, by omega, by omega⟩

/-! #### draw2: put, keys -/
theorem put_l (K : Nat) (x0 : List ByteArray) (x1 : ByteArray) (h0 : ∀ s ∈ x0, s.size ≤ K) (h1 : x1.size ≤ K) (hn : x0.length ≤ 1000) (d : Nat) : ∀ (k i : Nat) (out : List ByteArray) (b : Bool), i ≤ x0.length → x0.length - i = d → d < k → (∀ s ∈ out, s.size ≤ K) → out.length ≤ i + (if b = true then 1 else 0) →
    ∃ r, spec_l2Put.l0 k x0 x1 out b (i : Int) = some r ∧ r.length ≤ x0.length + 1 ∧ ∀ s ∈ r, s.size ≤ K := by
  have hcons : ∀ (l : List ByteArray) (y : ByteArray), (∀ s ∈ l, s.size ≤ K) → y.size ≤ K → ∀ s ∈ l ++ [y], s.size ≤ K := fun l y hl hy s hs => by
    rcases List.mem_append.1 hs with h | h
    · exact hl s h
    · simp at h; subst h; exact hy
  induction d with
  | zero =>
    intro k i out b hi hd hk ho hl
    obtain ⟨k, rfl⟩ := fuel hk
    simp only [spec_l2Put.l0]; rw [if_neg (by omega)]
    cases b
    · simp at hl
      rw [if_neg (by simp), if_pos (by omega)]
      exact ⟨_, rfl, by simp; omega, hcons _ _ ho h1⟩
    · simp at hl
      rw [if_pos rfl]
      exact ⟨_, rfl, by omega, ho⟩
  | succ d ih =>
    intro k i out b hi hd hk ho hl
    obtain ⟨k, rfl⟩ := fuel hk
    have hy : (rdOf ByteArray.empty x0 (i : Int)).size ≤ K := h0 _ (rdOf_mem ByteArray.empty x0 (i : Int) (by omega) (by omega))
    simp only [spec_l2Put.l0]; rw [if_pos (by omega), if_pos (by omega), w64 (by omega) (by omega)]
    generalize rdOf ByteArray.empty x0 (i : Int) = y at *
    split
    · exact ⟨_, rfl, by omega, h0⟩
    · cases b
      · simp only [Bool.false_eq_true, if_false] at hl ⊢
        split
        · rw [if_pos (by omega)]; simp only [Option.bind_some]
          rw [if_pos (by simp; omega)]
          exact ih k (i + 1) _ true (by omega) (by omega) (by omega) (hcons _ _ (hcons _ _ ho h1) hy) (by simp; omega)
        · rw [if_pos (by omega)]
          exact ih k (i + 1) _ false (by omega) (by omega) (by omega) (hcons _ _ ho hy) (by simp; omega)
      · simp only [if_true] at hl ⊢
        rw [if_pos (by omega)]
        exact ih k (i + 1) _ true (by omega) (by omega) (by omega) (hcons _ _ ho hy) (by simp; omega)
theorem put_f (K : Nat) (x0 : List ByteArray) (x1 : ByteArray) (h0 : ∀ s ∈ x0, s.size ≤ K) (h1 : x1.size ≤ K) (hn : x0.length ≤ 1000) (k : Nat) (hk : 1000 < k) : ∃ r, spec_l2Put.f k x0 x1 = some r ∧ r.length ≤ x0.length + 1 ∧ ∀ s ∈ r, s.size ≤ K :=
  put_l K x0 x1 h0 h1 hn x0.length k 0 [] false (by omega) (by omega) (by omega) (by simp) (by simp)
theorem keys_l (z : List Int) (hz : byteL z) (d : Nat) (hd : d ≤ 100) : ∀ (k : Nat) (l : List ByteArray) (c : Int), d + 2000 < k → 0 ≤ c → c + 10 * d ≤ 800000000 → (∀ s ∈ l, s.size ≤ 5) → l.length + d ≤ 1000 →
    ∃ r c', spec_l71Keys.l0 k l (d : Int) z c = some (r, c') ∧ r.length ≤ l.length + d ∧ (∀ s ∈ r, s.size ≤ 5) ∧ c ≤ c' ∧ c' ≤ c + 10 * d := by
  induction d with
  | zero =>
    intro k l c hk hc hc2 hl hn
    obtain ⟨k, rfl⟩ := fuel (show 0 < k by omega)
    exact ⟨l, c, by simp only [spec_l71Keys.l0]; rw [if_neg (by omega)], by omega, hl, by omega, by omega⟩
  | succ d ih =>
    intro k l c hk hc hc2 hl hn
    obtain ⟨k, rfl⟩ := fuel (show 0 < k by omega)
    simp only [spec_l71Keys.l0]
    rw [if_pos (by omega)]
    obtain ⟨s, c1, h, a1, a2, a3⟩ := near_f z hz c l 5 (by omega) (by omega) hl (by omega) hc (by omega) k (by omega)
    rw [h]; simp only [Option.bind_some]
    obtain ⟨q, h', b1, b2⟩ := put_f 5 l s hl a1 (by omega) k (by omega)
    rw [h']; simp only [Option.bind_some]
    rw [w64 (by omega) (by omega)]
    obtain ⟨r, c', h'', d1, d2, d3, d4⟩ := ih (by omega) k q c1 (by omega) (by omega) (by omega) b2 (by omega)
    refine ⟨r, c', ?_, by omega, d2, by omega, by omega⟩
    rw [show ((d + 1 : Nat) : Int) - 1 = (d : Int) by omega]; exact h''
theorem keys_f (z : List Int) (hz : byteL z) (c n : Int) (hn : 0 ≤ n) (hn2 : n ≤ 50) (hc : 0 ≤ c) (hc2 : c ≤ 700000000) (k : Nat) (hk : 3000 < k) : ∃ r c', spec_l71Keys.f k z c n = some (r, c') ∧ r.length ≤ 50 ∧ (∀ s ∈ r, s.size ≤ 5) ∧ c ≤ c' ∧ c' ≤ c + 510 := by
  unfold spec_l71Keys.f
  rw [w64 (by omega) (by omega)]
  obtain ⟨v, h, h0, h1⟩ := pick_f z hz c (n + 1) hc (by omega) k (by omega)
  have h2 := h1 (by omega)
  rw [h]; simp only [Option.bind_some]
  obtain ⟨m, rfl⟩ := Int.eq_ofNat_of_zero_le h0
  obtain ⟨r, c', h, a1, a2, a3, a4⟩ := keys_l z hz m (by omega) k [] (c + 1) (by omega) (by omega) (by omega) (by simp) (by simp; omega)
  exact ⟨r, c', h, by simp at a1; omega, a2, by omega, by omega⟩

/-! #### join -/
theorem specJoin_l (xa xb : List S27) (ha : xa.length ≤ 2000000) (hb : xb.length ≤ 2000000) (d : Nat) :
    (∀ (k i j : Nat) (out : List S27), i ≤ xa.length → j < xb.length → (xa.length - i) + (xb.length - j) = d → 2 * d + 2 < k → out.length ≤ i + j → spec_l11Join.l1 k xa xb out (i : Int) (j : Int) = some (out ++ List.merge (xa.drop i) (xb.drop j) aheadB)) ∧
    (∀ (k i j : Nat) (out : List S27), i ≤ xa.length → j ≤ xb.length → (xa.length - i) + (xb.length - j) = d → 2 * d + 3 < k → out.length ≤ i + j → spec_l11Join.l0 k xa xb out (i : Int) (j : Int) = some (out ++ List.merge (xa.drop i) (xb.drop j) aheadB)) := by
  induction d with
  | zero =>
    refine ⟨fun k i j out h1 h2 hd hk ho => by omega, fun k i j out h1 h2 hd hk ho => ?_⟩
    obtain ⟨k, rfl⟩ := fuel (show 0 < k by omega)
    simp only [spec_l11Join.l0]; rw [if_neg (by omega), if_pos (by omega), if_pos (by omega)]
    simp only [Option.bind_some]
    rw [if_pos (by simp; omega), List.drop_of_length_le (l := xb) (by omega), List.merge_right]
    simp
  | succ d ih =>
    have one : ∀ (k i j : Nat) (out : List S27), i ≤ xa.length → j < xb.length → (xa.length - i) + (xb.length - j) = d + 1 → 2 * (d + 1) + 2 < k → out.length ≤ i + j → spec_l11Join.l1 k xa xb out (i : Int) (j : Int) = some (out ++ List.merge (xa.drop i) (xb.drop j) aheadB) := by
      intro k i j out h1 h2 hd hk ho
      obtain ⟨k, rfl⟩ := fuel (show 0 < k by omega)
      simp only [spec_l11Join.l1]
      have hB := List.drop_eq_getElem_cons h2
      by_cases c : i < xa.length
      · rw [if_pos (by omega), if_pos (by omega), if_pos (by omega), if_pos (by omega), specAhead_f, rdE xa i c, rdE xb j h2, w64 (x := (i : Int) + 1) (by omega) (by omega), w64 (x := (j : Int) + 1) (by omega) (by omega)]
        simp only [Option.bind_some]
        have hA := List.drop_eq_getElem_cons c
        have e1 := ih.1 k (i + 1) j (out ++ [xa[i]]) (by omega) h2 (by omega) (by omega) (by simp; omega)
        have e2 := ih.2 k i (j + 1) (out ++ [xb[j]]) (by omega) (by omega) (by omega) (by omega) (by simp; omega)
        rw [hA, hB, List.cons_merge_cons]
        rw [hB] at e1
        rw [hA] at e2
        cases aheadB xa[i] xb[j]
        · simp only [Bool.false_eq_true, if_false]
          rw [if_pos (by omega)]
          simpa [List.append_assoc] using e2
        · simp only [if_true]
          rw [if_pos (by omega)]
          simpa [List.append_assoc] using e1
      · rw [if_neg (by omega), if_pos (by omega), if_pos (by omega), if_pos (by omega), rdE xb j h2, w64 (x := (j : Int) + 1) (by omega) (by omega)]
        have e2 := ih.2 k i (j + 1) (out ++ [xb[j]]) (by omega) (by omega) (by omega) (by omega) (by simp; omega)
        rw [List.drop_of_length_le (l := xa) (by omega), List.nil_merge] at *
        rw [hB]
        simpa [List.append_assoc] using e2
    refine ⟨one, fun k i j out h1 h2 hd hk ho => ?_⟩
    obtain ⟨k, rfl⟩ := fuel (show 0 < k by omega)
    simp only [spec_l11Join.l0]
    by_cases c : j < xb.length
    · rw [if_pos (by omega)]; exact one k i j out h1 c hd (by omega) ho
    · rw [if_neg (by omega), if_pos (by omega), if_pos (by omega)]
      simp only [Option.bind_some]
      rw [if_pos (by simp; omega), List.drop_of_length_le (l := xb) (by omega), List.merge_right]
      simp
theorem specJoin_f (xa xb : List S27) (ha : xa.length ≤ 2000000) (hb : xb.length ≤ 2000000) (k : Nat) (hk : 8000010 < k) : spec_l11Join.f k xa xb = some (List.merge xa xb aheadB) := by
  have := (specJoin_l xa xb ha hb _).2 k 0 0 [] (by omega) (by omega) rfl (by omega) (by simp)
  unfold spec_l11Join.f
  simpa using this

/-! #### drawRun: the runs that the laws draw -/
theorem runL_get (xs : List S27) (d : Nat) : ∀ i, runL xs d i = true → (∀ j, i ≤ j → j < i + d → stepB xs j = true) ∧ xs.length ≤ 40 := by
  induction d with
  | zero => intro i h; simp [runL] at h; exact ⟨fun j a b => by omega, by omega⟩
  | succ d ih =>
    intro i h
    simp only [runL, Bool.and_eq_true] at h
    obtain ⟨h1, h2⟩ := h
    obtain ⟨a, b⟩ := ih (i + 1) h2
    refine ⟨fun j c1 c2 => ?_, b⟩
    by_cases e : j = i
    · subst e; exact h1
    · exact a j (by omega) (by omega)
theorem keyL_size (a : ByteArray) (d : Nat) : ∀ i, keyL a d i = true → a.size ≤ 5 := by
  induction d with
  | zero => intro i h; simp [keyL] at h; omega
  | succ d ih => intro i h; simp only [keyL, Bool.and_eq_true] at h; exact ih _ h.2
theorem runB_len {xs : List S27} (h : runB xs = true) : xs.length ≤ 40 := (runL_get xs xs.length 0 h).2
theorem runB_step {xs : List S27} (h : runB xs = true) (j : Nat) (hj : j < xs.length) : stepB xs j = true := (runL_get xs xs.length 0 h).1 j (by omega) (by omega)
theorem runB_entry {xs : List S27} (h : runB xs = true) : ∀ x ∈ xs, entryB x = true := by
  intro x hx
  obtain ⟨j, hj, rfl⟩ := List.mem_iff_getElem.1 hx
  have := runB_step h j hj
  simp only [stepB, Bool.and_eq_true] at this
  rw [rdE xs j hj] at this
  exact this.1
theorem runB_size {xs : List S27} (h : runB xs = true) : ∀ x ∈ xs, x.f0.size ≤ 5 := by
  intro x hx
  have := runB_entry h x hx
  simp only [entryB, Bool.and_eq_true, keyB] at this
  exact keyL_size _ _ _ this.1
theorem run_l (z : List Int) (hz : byteL z) (keys : List ByteArray) (hk1 : ∀ s ∈ keys, s.size ≤ 5) (hk2 : keys.length ≤ 50) (d : Nat) (hd : d ≤ 50) : ∀ (k : Nat) (xs : List S27) (c : Int), 2 * d + 9000000 < k → 0 ≤ c → c + 20 * d ≤ 600000000 → runB xs = true →
    ∃ r c', spec_l71Run.l0 k keys xs (d : Int) z c = some (r, c') ∧ runB r = true ∧ c ≤ c' ∧ c' ≤ c + 20 * d := by
  induction d with
  | zero =>
    intro k xs c hk hc hc2 hx
    obtain ⟨k, rfl⟩ := fuel (show 0 < k by omega)
    exact ⟨xs, c, by simp only [spec_l71Run.l0]; rw [if_neg (by omega)], hx, by omega, by omega⟩
  | succ d ih =>
    intro k xs c hk hc hc2 hx
    obtain ⟨k, rfl⟩ := fuel (show 0 < k by omega)
    have hxl := runB_len hx
    have hxs := runB_size hx
    simp only [spec_l71Run.l0]
    rw [if_pos (by omega)]
    obtain ⟨s, c1, h, a1, a2, a3⟩ := near_f z hz c keys 5 (by omega) (by omega) hk1 (by omega) hc (by omega) k (by omega)
    rw [h]; simp only [Option.bind_some]
    obtain ⟨v1, h, b1, b2⟩ := pick_f z hz c1 100 (by omega) (by omega) k (by omega)
    rw [h]; simp only [Option.bind_some]
    obtain ⟨v2, h, b3, b4⟩ := pick_f z hz (c1 + 1) 60 (by omega) (by omega) k (by omega)
    rw [h]; simp only [Option.bind_some]
    obtain ⟨v3, h, b5, b6⟩ := pick_f z hz (c1 + 1 + 1) 4 (by omega) (by omega) k (by omega)
    rw [h]; simp only [Option.bind_some]
    have fin : ∀ (e : S27), e.f0.size ≤ 5 → ∃ r c', spec_l71Run.j1 k keys xs ((d + 1 : Nat) : Int) z (c1 + 1 + 1 + 1) e.f0 e.f1 e.f2 e.f3 = some (r, c') ∧ runB r = true ∧ c ≤ c' ∧ c' ≤ c + 20 * ((d + 1 : Nat) : Int) := by
      intro e he
      obtain ⟨k, rfl⟩ := fuel (show 0 < k by omega)
      simp only [spec_l71Run.j1]
      have hin : ∀ x ∈ List.merge xs [e] aheadB, x.f0.size ≤ 9223372036854775807 ∧ x.f0.size < 6 := fun x hx => by
        have hm : x ∈ xs ++ [e] := (List.merge_perm_append (xs := xs) (ys := [e]) (le := aheadB)).mem_iff.1 hx
        rcases List.mem_append.1 hm with hm | hm
        · have := hxs x hm; omega
        · simp at hm; subst hm; omega
      have hlen : (List.merge xs [e] aheadB).length = xs.length + 1 := by rw [List.length_merge]; rfl
      rw [show (⟨e.f0, e.f1, e.f2, e.f3⟩ : S27) = e from rfl, specJoin_f xs [e] (by omega) (by simp) k (by omega)]
      simp only [Option.bind_some]
      rw [specRunOk_f _ (by omega) 6 hin k (by omega)]
      simp only [Option.bind_some]
      rw [w64 (by omega) (by omega), show ((d + 1 : Nat) : Int) - 1 = (d : Int) by omega]
      cases hr : runB (List.merge xs [e] aheadB)
      · obtain ⟨r, c', h, g1, g2, g3⟩ := ih (by omega) k xs (c1 + 1 + 1 + 1) (by omega) (by omega) (by omega) hx
        exact ⟨r, c', by simpa using h, g1, by omega, by omega⟩
      · obtain ⟨r, c', h, g1, g2, g3⟩ := ih (by omega) k _ (c1 + 1 + 1 + 1) (by omega) (by omega) (by omega) hr
        exact ⟨r, c', by simpa using h, g1, by omega, by omega⟩
    split
    · exact fin ⟨s, 0, true, wrap64 (1 + v2)⟩ a1
    · exact fin ⟨s, v1, false, wrap64 (1 + v2)⟩ a1
theorem run_f (z : List Int) (hz : byteL z) (c n : Int) (hn : 0 ≤ n) (hn2 : n ≤ 49) (hc : 0 ≤ c) (hc2 : c ≤ 500000000) (k : Nat) (hk : 10000000 < k) : ∃ r c', spec_l71Run.f k z c n = some (r, c') ∧ runB r = true ∧ c ≤ c' ∧ c' ≤ c + 2000 := by
  unfold spec_l71Run.f
  obtain ⟨ks, c1, h, a1, a2, a3, a4⟩ := keys_f z hz c 5 (by omega) (by omega) hc (by omega) k (by omega)
  rw [h]; simp only [Option.bind_some]
  rw [w64 (by omega) (by omega)]
  obtain ⟨v, h, b1, b2⟩ := pick_f z hz c1 (n + 1) (by omega) (by omega) k (by omega)
  have b2 := b2 (by omega)
  rw [h]; simp only [Option.bind_some]
  obtain ⟨m, rfl⟩ := Int.eq_ofNat_of_zero_le b1
  obtain ⟨r, c', h, g1, g2, g3⟩ := run_l z hz ks a2 a1 m (by omega) k [] (c1 + 1) (by omega) (by omega) (by omega) (by rfl)
  exact ⟨r, c', h, g1, by omega, by omega⟩
theorem off_f (z : List Int) (hz : byteL z) (c : Int) (hc : 0 ≤ c) (hc2 : c ≤ 400000000) (k : Nat) (hk : 10000000 < k) : ∃ r c', spec_l71Off.f k z c = some (r, c') ∧ r.length ≤ 41 ∧ (∀ x ∈ r, x.f0.size ≤ 6) ∧ c ≤ c' ∧ c' ≤ c + 2010 := by
  unfold spec_l71Off.f
  obtain ⟨r, c1, h, a1, a2, a3⟩ := run_f z hz c 10 (by omega) (by omega) hc (by omega) k hk
  have hl := runB_len a1
  have hs := runB_size a1
  have happ : ∀ e : S27, e.f0.size ≤ 6 → (r ++ [e]).length ≤ 41 ∧ ∀ x ∈ r ++ [e], x.f0.size ≤ 6 := fun e he => ⟨by simp; omega, fun x hx => by
    rcases List.mem_append.1 hx with hx | hx
    · have := hs x hx; omega
    · simp at hx; subst hx; exact he⟩
  rw [h]; simp only [Option.bind_some]
  obtain ⟨v, h, b1, b2⟩ := pick_f z hz c1 12 (by omega) (by omega) k (by omega)
  rw [h]; simp only [Option.bind_some]
  by_cases e : v > 0
  · rw [if_pos e]; exact ⟨_, _, rfl, by omega, fun x hx => by have := hs x hx; omega, by omega, by omega⟩
  rw [if_neg e]
  obtain ⟨v2, h, b3, b4⟩ := pick_f z hz (c1 + 1) 5 (by omega) (by omega) k (by omega)
  rw [h]; simp only [Option.bind_some]
  by_cases e0 : v2 = 0
  · rw [if_pos e0, if_pos (by omega)]
    exact ⟨_, _, rfl, (happ _ (by decide)).1, (happ _ (by decide)).2, by omega, by omega⟩
  rw [if_neg e0]
  by_cases e1 : v2 = 1
  · rw [if_pos e1, if_pos (by omega)]
    exact ⟨_, _, rfl, (happ _ (by decide)).1, (happ _ (by decide)).2, by omega, by omega⟩
  rw [if_neg e1]
  by_cases e2 : v2 = 2
  · rw [if_pos e2, if_pos (by omega)]
    exact ⟨_, _, rfl, (happ _ (by decide)).1, (happ _ (by decide)).2, by omega, by omega⟩
  rw [if_neg e2]
  by_cases e3 : v2 = 3
  · rw [if_pos e3]
    obtain ⟨v4, h, b5, b6⟩ := pick_f z hz (c1 + 1 + 1) 2 (by omega) (by omega) k (by omega)
    rw [h]; simp only [Option.bind_some]
    rw [if_pos b5, if_pos (by simp; omega), if_pos (by omega)]
    have hq : (⟨#[100, 100, 100, 100, 100]⟩ : ByteArray).size ≤ 6 := by decide
    exact ⟨_, _, rfl, (happ _ hq).1, (happ _ hq).2, by omega, by omega⟩
  · rw [if_neg e3, if_pos (by omega)]
    exact ⟨_, _, rfl, (happ _ (by decide)).1, (happ _ (by decide)).2, by omega, by omega⟩
theorem open_f (l : List Int) (hl : ∀ x ∈ l, 0 ≤ x ∧ x ≤ 255) : ∃ z, spec_l6Open.f l = some (z, 0) ∧ byteL z := by
  unfold spec_l6Open.f
  by_cases h : (l.length : Int) > 2000
  · rw [if_pos h, if_pos (by omega)]
    exact ⟨_, rfl, by simp; omega, fun x hx => hl x (List.mem_of_mem_take hx)⟩
  · rw [if_neg h]; exact ⟨_, rfl, by omega, hl⟩

/-! #### runKeys -/
def keysL (xs : List S27) : Nat → Nat → List ByteArray → List ByteArray
  | 0, _, out => out
  | d + 1, i, out => if i = 0 then keysL xs d (i + 1) (out ++ [(rd_T27 xs (i : Int)).f0]) else if (rd_T27 xs ((i : Int) - 1)).f0.toList = (rd_T27 xs (i : Int)).f0.toList then keysL xs d (i + 1) out else keysL xs d (i + 1) (out ++ [(rd_T27 xs (i : Int)).f0])
theorem keysL_len (xs : List S27) (d : Nat) : ∀ (i : Nat) (out : List ByteArray), (keysL xs d i out).length ≤ out.length + d := by
  induction d with
  | zero => intro i out; simp [keysL]
  | succ d ih =>
    intro i out
    simp only [keysL]
    split
    · have := ih (i + 1) (out ++ [(rd_T27 xs (i : Int)).f0]); simp at this; omega
    · split
      · have := ih (i + 1) out; omega
      · have := ih (i + 1) (out ++ [(rd_T27 xs (i : Int)).f0]); simp at this; omega

/-! #### runKeys2 -/
theorem implKeys_l (xs : List S27) (hn : xs.length ≤ 1048576) (d : Nat) : ∀ (k i : Nat) (out : List ByteArray), i ≤ xs.length → xs.length - i = d → d < k → out.length ≤ i → impl_keysOf.l0 k xs out xs (xs.length : Int) (i : Int) = some (keysL xs d i out) := by
  induction d with
  | zero =>
    intro k i out h1 hd hk ho
    obtain ⟨k, rfl⟩ := fuel hk
    simp only [impl_keysOf.l0]; rw [if_neg (by omega)]; rfl
  | succ d ih =>
    intro k i out h1 hd hk ho
    obtain ⟨k, rfl⟩ := fuel hk
    have a1 := ih k (i + 1) (out ++ [(rd_T27 xs (i : Int)).f0]) (by omega) (by omega) (by omega) (by simp; omega)
    have a2 := ih k (i + 1) out (by omega) (by omega) (by omega) (by omega)
    rw [Int.natCast_add] at a1 a2
    simp only [impl_keysOf.l0, keysL]; rw [if_pos (by omega), if_pos (by omega), if_pos (by omega), w64 (x := (i : Int) + 1) (by omega) (by omega), w64 (x := (i : Int) - 1) (by omega) (by omega)]
    by_cases h0 : i = 0
    · rw [if_pos (show (i : Int) = 0 by omega), if_pos (by omega), if_pos h0]; exact a1
    · rw [if_neg (show ¬ (i : Int) = 0 by omega), if_pos (by omega), if_pos (by omega), if_neg h0]
      split
      · exact a2
      · rw [if_pos (by omega)]; exact a1
def keysF (xs : List S27) : List ByteArray := if runB xs = true then keysL xs xs.length 0 [] else []
theorem keysF_len (xs : List S27) : (keysF xs).length ≤ xs.length := by
  unfold keysF
  split
  · have := keysL_len xs xs.length 0 []; simpa using this
  · simp
theorem implRunKeys_f (xs : List S27) (hn : xs.length ≤ 1048576) (B : Nat) (ho : ∀ x ∈ xs, x.f0.size ≤ 9223372036854775807 ∧ x.f0.size < B) (k : Nat) (hk : xs.length + B < k) : impl_RunKeys.f k xs = some (keysF xs) := by
  unfold impl_RunKeys.f keysF impl_keysOf.f
  have := implKeys_l xs hn xs.length k 0 [] (by omega) (by omega) (by omega) (by simp)
  rw [implRunOk_f xs (by omega) B ho k hk]
  simp only [Option.bind_some]
  cases runB xs
  · rfl
  · simp only [if_true]
    rw [show (0 : Int) = ((0 : Nat) : Int) from rfl, this]; rfl

/-! #### order: a run is in order -/
theorem ahead_iff (a b : S27) : aheadB a b = true ↔ (a.f0.toList < b.f0.toList ∨ (a.f0.toList = b.f0.toList ∧ b.f3 < a.f3)) := by
  unfold aheadB
  rw [Go.Proofs.bytesLess_eq]
  simp
theorem ahead_trans {a b c : S27} (h : aheadB a b = true) (h' : aheadB b c = true) : aheadB a c = true := by
  rw [ahead_iff] at *
  rcases h with h | ⟨h, g⟩ <;> rcases h' with h' | ⟨h', g'⟩
  · exact .inl (List.lt_trans h h')
  · exact .inl (h' ▸ h)
  · exact .inl (h ▸ h')
  · exact .inr ⟨h.trans h', by omega⟩
theorem ahead_time {a b : S27} (h : aheadB a b = true) (e : a.f0.toList = b.f0.toList) : b.f3 < a.f3 := by
  rw [ahead_iff] at h
  rcases h with h | ⟨_, h⟩
  · rw [e] at h; exact absurd h (List.lt_irrefl _)
  · exact h
theorem run_next {xs : List S27} (h : runB xs = true) (i : Nat) (hi : i + 1 < xs.length) : aheadB xs[i] xs[i + 1] = true := by
  have := runB_step h (i + 1) hi
  simp only [stepB, Bool.and_eq_true, Bool.or_eq_true] at this
  rcases this.2 with h | h
  · simp at h
  · rw [show ((i + 1 : Nat) : Int) - 1 = (i : Int) by omega, rdE xs i (by omega), rdE xs (i + 1) hi] at h
    exact h
theorem run_pw {xs : List S27} (h : runB xs = true) : xs.Pairwise (fun a b => aheadB a b = true) := by
  rw [List.pairwise_iff_getElem]
  intro i j hi hj hij
  obtain ⟨d, rfl⟩ : ∃ d, j = i + 1 + d := ⟨j - i - 1, by omega⟩
  induction d with
  | zero => exact run_next h i hj
  | succ d ih => exact ahead_trans (ih (by omega) (by omega)) (run_next h (i + 1 + d) hj)
theorem find_max {xs : List S27} (h : runB xs = true) {q : ByteArray} {t : Int} {e : S27} (he : xs.find? (hitA q t) = some e) : e ∈ xs ∧ e.f0.toList = q.toList ∧ e.f3 ≤ t ∧ ∀ y ∈ xs, y.f0.toList = q.toList → y.f3 ≤ t → y.f3 ≤ e.f3 := by
  obtain ⟨hp, l1, l2, rfl, hn⟩ := List.find?_eq_some_iff_append.1 he
  have hh : e.f0.toList = q.toList ∧ e.f3 ≤ t := by simpa [hitA] using hp
  refine ⟨by simp, hh.1, hh.2, fun y hy hk ht => ?_⟩
  have hpw := run_pw h
  rw [List.pairwise_append] at hpw
  rcases List.mem_append.1 hy with hy | hy
  · have := hn y hy; simp [hitA, hk, ht] at this
  · rcases List.mem_cons.1 hy with rfl | hy
    · omega
    · have := ahead_time ((List.pairwise_cons.1 hpw.2.1).1 y hy) (hh.1.trans hk.symm); omega

/-! #### order2 -/
theorem run_uniq {xs : List S27} (h : runB xs = true) {x y : S27} (hx : x ∈ xs) (hy : y ∈ xs) (hk : x.f0.toList = y.f0.toList) (ht : x.f3 = y.f3) : x = y := by
  have hp := List.pairwise_iff_getElem.1 (run_pw h)
  obtain ⟨i, hi, rfl⟩ := List.mem_iff_getElem.1 hx
  obtain ⟨j, hj, rfl⟩ := List.mem_iff_getElem.1 hy
  by_cases c : i = j
  · subst c; rfl
  · rcases Nat.lt_or_gt_of_ne c with c | c
    · have := ahead_time (hp i j hi hj c) hk; omega
    · have := ahead_time (hp j i hj hi c) hk.symm; omega
theorem find_some {xs : List S27} {q : ByteArray} {t : Int} {e : S27} (hx : e ∈ xs) (hk : e.f0.toList = q.toList) (ht : e.f3 ≤ t) : ∃ e', xs.find? (hitA q t) = some e' := by
  cases h : xs.find? (hitA q t) with
  | some e' => exact ⟨e', rfl⟩
  | none => exact absurd (by simp [hitA, hk, ht]) (List.find?_eq_none.1 h e hx)

/-! #### ltRuns -/
theorem ltRuns_l (xs : List S27) (hn : xs.length ≤ 9223372036854775806) (d : Nat) : ∀ (k i : Nat), i ≤ xs.length → xs.length - i = d → d < k → laws_ltRuns.l0 k xs xs (i : Int) = some true := by
  induction d with
  | zero =>
    intro k i h1 hd hk
    obtain ⟨k, rfl⟩ := fuel hk
    simp only [laws_ltRuns.l0]; rw [if_neg (by omega)]
  | succ d ih =>
    intro k i h1 hd hk
    obtain ⟨k, rfl⟩ := fuel hk
    simp only [laws_ltRuns.l0]; rw [if_pos (by omega), if_pos (by omega), if_pos (by omega), if_neg (by simp), w64 (by omega) (by omega)]
    exact ih k (i + 1) (by omega) (by omega) (by omega)
theorem ltRuns_f (xs : List S27) (hn : xs.length ≤ 9223372036854775806) (k : Nat) (hk : xs.length < k) : laws_ltRuns.f k xs xs = some true := by
  unfold laws_ltRuns.f
  rw [if_pos rfl]
  exact ltRuns_l xs hn xs.length k 0 (by omega) (by omega) hk

/-! #### ltSames -/
theorem ltSames_l (xs : List ByteArray) (hn : xs.length ≤ 9223372036854775806) (d : Nat) : ∀ (k i : Nat), i ≤ xs.length → xs.length - i = d → d < k → laws_ltSames.l0 k xs xs (i : Int) = some true := by
  induction d with
  | zero =>
    intro k i h1 hd hk
    obtain ⟨k, rfl⟩ := fuel hk
    simp only [laws_ltSames.l0]; rw [if_neg (by omega)]
  | succ d ih =>
    intro k i h1 hd hk
    obtain ⟨k, rfl⟩ := fuel hk
    simp only [laws_ltSames.l0]; rw [if_pos (by omega), if_pos (by omega), if_pos (by omega), if_pos trivial, w64 (by omega) (by omega)]
    exact ih k (i + 1) (by omega) (by omega) (by omega)
theorem ltSames_f (xs : List ByteArray) (hn : xs.length ≤ 9223372036854775806) (k : Nat) (hk : xs.length < k) : laws_ltSames.f k xs xs = some true := by
  unfold laws_ltSames.f
  rw [if_pos rfl]
  exact ltSames_l xs hn xs.length k 0 (by omega) (by omega) hk

/-! #### listThy: what is in a list of a run -/
theorem keysL_acc (xs : List S27) (d : Nat) : ∀ (i : Nat) (out : List ByteArray), keysL xs d i out = out ++ keysL xs d i [] := by
  induction d with
  | zero => intro i out; simp [keysL]
  | succ d ih =>
    intro i out
    simp only [keysL]
    split
    · rw [ih (i + 1) (out ++ _), ih (i + 1) ([] ++ _)]; simp
    · split
      · exact ih (i + 1) out
      · rw [ih (i + 1) (out ++ _), ih (i + 1) ([] ++ _)]; simp
theorem runL_of (xs : List S27) (hl : xs.length ≤ 40) (d : Nat) : ∀ i, (∀ j, i ≤ j → j < i + d → stepB xs j = true) → runL xs d i = true := by
  induction d with
  | zero => intro i _; simp [runL]; omega
  | succ d ih =>
    intro i h
    simp only [runL, Bool.and_eq_true]
    exact ⟨h i (by omega) (by omega), ih (i + 1) fun j a b => h j (by omega) (by omega)⟩

/-! #### trim -/
def keepA (xs : List S27) (ts : List Int) (i : Nat) : Bool := decide (i = 0) || (((rd_T27 xs ((i : Int) - 1)).f0.toList != (rd_T27 xs (i : Int)).f0.toList) || seenB ts (rd_T27 xs (i : Int)).f3 (rd_T27 xs ((i : Int) - 1)).f3)
def passA (xs : List S27) (ts : List Int) : Nat → Nat → List S27 → List S27
  | 0, _, out => out
  | d + 1, i, out => if keepA xs ts i = true then passA xs ts d (i + 1) (out ++ [rd_T27 xs (i : Int)]) else passA xs ts d (i + 1) out
def lastB (ss : List S27) (i : Nat) : Bool := decide (i + 1 = ss.length) || ((rd_T27 ss ((i : Int) + 1)).f0.toList != (rd_T27 ss (i : Int)).f0.toList)
def passB (b : Bool) (ss : List S27) : Nat → Nat → List S27 → List S27
  | 0, _, out => out
  | d + 1, i, out => if (b && ((rd_T27 ss (i : Int)).f2 && lastB ss i)) = true then passB b ss d (i + 1) out else passB b ss d (i + 1) (out ++ [rd_T27 ss (i : Int)])
theorem passA_len (xs : List S27) (ts : List Int) (d : Nat) : ∀ (i : Nat) (out : List S27), (passA xs ts d i out).length ≤ out.length + d := by
  induction d with
  | zero => intro i out; simp [passA]
  | succ d ih =>
    intro i out
    simp only [passA]
    split
    · have := ih (i + 1) (out ++ [rd_T27 xs (i : Int)]); simp at this; omega
    · have := ih (i + 1) out; omega
theorem passB_len (b : Bool) (ss : List S27) (d : Nat) : ∀ (i : Nat) (out : List S27), (passB b ss d i out).length ≤ out.length + d := by
  induction d with
  | zero => intro i out; simp [passB]
  | succ d ih =>
    intro i out
    simp only [passB]
    split
    · have := ih (i + 1) out; omega
    · have := ih (i + 1) (out ++ [rd_T27 ss (i : Int)]); simp at this; omega
theorem passB_false (ss : List S27) (d : Nat) : ∀ (i : Nat) (out : List S27), i + d = ss.length → passB false ss d i out = out ++ ss.drop i := by
  induction d with
  | zero => intro i out h; rw [List.drop_of_length_le (by omega)]; simp [passB]
  | succ d ih =>
    intro i out h
    simp only [passB, Bool.false_and, Bool.false_eq_true, if_false]
    rw [ih (i + 1) _ (by omega), rdE ss i (by omega), List.drop_eq_getElem_cons (show i < ss.length by omega)]
    simp
theorem seen_l (xs : List S27) (ts : List Int) (i : Nat) (hi : i < xs.length) (h0 : 0 < i) (hn : xs.length ≤ 9223372036854775806) (ht : ts.length ≤ 9223372036854775806) (d : Nat) : ∀ (k j : Nat), j ≤ ts.length → ts.length - j = d → d < k → spec_l11Seen.l0 k xs (i : Int) ts (j : Int) = some ((ts.drop j).any fun t => decide ((rd_T27 xs (i : Int)).f3 ≤ t) && decide (t < (rd_T27 xs ((i : Int) - 1)).f3)) := by
  induction d with
  | zero =>
    intro k j h1 hd hk
    obtain ⟨k, rfl⟩ := fuel hk
    simp only [spec_l11Seen.l0]; rw [if_neg (by omega), List.drop_of_length_le (by omega)]; rfl
  | succ d ih =>
    intro k j h1 hd hk
    obtain ⟨k, rfl⟩ := fuel hk
    have hlt : j < ts.length := by omega
    have hr : rd ts (j : Int) = ts[j] := by simp [rd, List.getD, hlt]
    have := ih k (j + 1) (by omega) (by omega) (by omega)
    rw [Int.natCast_add] at this
    simp only [spec_l11Seen.l0]; rw [if_pos (by omega), if_pos (by omega), if_pos (by omega), if_pos (by omega), hr, w64 (x := (i : Int) - 1) (by omega) (by omega), w64 (x := (j : Int) + 1) (by omega) (by omega), List.drop_eq_getElem_cons hlt, List.any_cons]
    by_cases c1 : (rd_T27 xs (i : Int)).f3 ≤ ts[j]
    · rw [if_pos c1, if_pos (by omega), if_pos (by omega)]
      by_cases c2 : ts[j] < (rd_T27 xs ((i : Int) - 1)).f3
      · rw [if_pos c2]; simp [c1, c2]
      · rw [if_neg c2]; simpa [c1, c2] using this
    · rw [if_neg c1]; simpa [c1] using this
theorem seen_f (xs : List S27) (ts : List Int) (i : Nat) (hi : i < xs.length) (hn : xs.length ≤ 9223372036854775806) (ht : ts.length ≤ 9223372036854775806) (k : Nat) (hk : ts.length + 1 < k) : spec_l11Seen.f k xs (i : Int) ts = some (keepA xs ts i) := by
  obtain ⟨k, rfl⟩ := fuel (show 0 < k by omega)
  unfold spec_l11Seen.f keepA
  by_cases h0 : i = 0
  · rw [if_pos (by omega)]; simp [spec_l11Seen.j0, h0]
  · rw [if_neg (by omega), w64 (x := (i : Int) - 1) (by omega) (by omega), if_pos (by omega), if_pos (by omega), if_pos (by omega), if_pos (by omega)]
    have := seen_l xs ts i hi (by omega) hn ht ts.length k 0 (by omega) (by omega) (by omega)
    simp only [spec_l11Seen.j0]
    split
    · rename_i hc; simp [hc]
    · rename_i hc
      rw [show (0 : Int) = ((0 : Nat) : Int) from rfl, this]
      simp only [Bool.not_eq_true] at hc
      simp [hc, h0, seenB]
theorem specTrim1_l (ss : List S27) (hn : ss.length ≤ 2000000) (d : Nat) : ∀ (k i : Nat) (out : List S27), i ≤ ss.length → ss.length - i = d → d < k → out.length ≤ i → spec_l11Trim.l1 k ss out (i : Int) = some (passB true ss d i out) := by
  induction d with
  | zero =>
    intro k i out h1 hd hk ho
    obtain ⟨k, rfl⟩ := fuel hk
    simp only [spec_l11Trim.l1]; rw [if_neg (by omega)]; rfl
  | succ d ih =>
    intro k i out h1 hd hk ho
    obtain ⟨k, rfl⟩ := fuel hk
    have e1 := ih k (i + 1) (out ++ [rd_T27 ss (i : Int)]) (by omega) (by omega) (by omega) (by simp; omega)
    have e2 := ih k (i + 1) out (by omega) (by omega) (by omega) (by omega)
    rw [Int.natCast_add] at e1 e2
    simp only [spec_l11Trim.l1, passB]; rw [if_pos (by omega), w64 (x := (i : Int) + 1) (by omega) (by omega)]
    by_cases c : i + 1 = ss.length
    · rw [if_pos (by omega), if_pos (by omega)]
      split
      · rename_i g; rw [if_pos (by simp [g, c, lastB])]; exact e2
      · rename_i g; rw [if_pos (by omega), if_neg (by simp [g])]; exact e1
    · rw [if_neg (by omega), if_pos (by omega), if_pos (by omega), if_pos (by omega)]
      split
      · rename_i g
        split
        · rename_i g2; rw [if_pos (by simp [g, g2, lastB])]; exact e2
        · rename_i g2; rw [if_pos (by omega), if_neg (by simp at g2; simp [g, g2, c, lastB])]; exact e1
      · rename_i g; rw [if_pos (by omega), if_neg (by simp [g])]; exact e1
def trimF (xs : List S27) (ts : List Int) (b : Bool) : List S27 := if runB xs = true then passB b (passA xs ts xs.length 0 []) (passA xs ts xs.length 0 []).length 0 [] else []
theorem specTrim_l (xs : List S27) (ts : List Int) (b : Bool) (hn : xs.length ≤ 1048576) (ht : ts.length ≤ 1048576) (d : Nat) : ∀ (k i : Nat) (out : List S27), i ≤ xs.length → xs.length - i = d → d + 5000000 < k → out.length ≤ i → spec_l11Trim.l0 k xs ts b out (i : Int) = some (passB b (passA xs ts d i out) (passA xs ts d i out).length 0 []) := by
  induction d with
  | zero =>
    intro k i out h1 hd hk ho
    obtain ⟨k, rfl⟩ := fuel (show 0 < k by omega)
    simp only [spec_l11Trim.l0, passA]; rw [if_neg (by omega)]
    cases b
    · rw [if_neg (by simp), passB_false _ _ _ _ (by omega)]; simp
    · rw [if_pos rfl, show (0 : Int) = ((0 : Nat) : Int) from rfl]
      exact specTrim1_l out (by omega) out.length k 0 [] (by omega) (by omega) (by omega) (by simp)
  | succ d ih =>
    intro k i out h1 hd hk ho
    obtain ⟨k, rfl⟩ := fuel (show 0 < k by omega)
    have e1 := ih k (i + 1) (out ++ [rd_T27 xs (i : Int)]) (by omega) (by omega) (by omega) (by simp; omega)
    have e2 := ih k (i + 1) out (by omega) (by omega) (by omega) (by omega)
    rw [Int.natCast_add] at e1 e2
    simp only [spec_l11Trim.l0, passA]; rw [if_pos (by omega), seen_f xs ts i (by omega) (by omega) (by omega) k (by omega), w64 (x := (i : Int) + 1) (by omega) (by omega)]
    simp only [Option.bind_some]
    cases keepA xs ts i
    · simpa using e2
    · rw [if_pos rfl, if_pos rfl, if_pos (by omega), if_pos (by omega)]; exact e1

/-! #### trim2: the program's -/
theorem implTrim1_l (b : Bool) (ss : List S27) (hn : ss.length ≤ 2000000) (d : Nat) : ∀ (k i : Nat) (out : List S27), i ≤ ss.length → ss.length - i = d → d < k → out.length ≤ i → impl_RunTrim.l1 k b ss out ss (ss.length : Int) (i : Int) = some (passB b ss d i out) := by
  induction d with
  | zero =>
    intro k i out h1 hd hk ho
    obtain ⟨k, rfl⟩ := fuel hk
    simp only [impl_RunTrim.l1]; rw [if_neg (by omega)]; rfl
  | succ d ih =>
    intro k i out h1 hd hk ho
    obtain ⟨k, rfl⟩ := fuel hk
    have e1 := ih k (i + 1) (out ++ [rd_T27 ss (i : Int)]) (by omega) (by omega) (by omega) (by simp; omega)
    have e2 := ih k (i + 1) out (by omega) (by omega) (by omega) (by omega)
    rw [Int.natCast_add] at e1 e2
    have p : out.length < 3518437208883 := by omega
    simp only [impl_RunTrim.l1, passB]; rw [if_pos (by omega), if_pos (by omega), if_pos (by omega), w64 (x := (i : Int) + 1) (by omega) (by omega)]
    simp only [if_pos p]
    by_cases c : i + 1 = ss.length
    · rw [if_pos (by omega)]
      cases b
      · rw [if_neg (by simp), if_neg (by simp)]; exact e1
      · rw [if_pos rfl]
        split
        · rename_i g; rw [if_pos (by simp [g, c, lastB])]; exact e2
        · rename_i g; rw [if_neg (by simp [g])]; exact e1
    · rw [if_neg (by omega), if_pos (by omega), if_pos (by omega)]
      cases b
      · rw [if_neg (by simp), if_neg (by simp)]; exact e1
      · rw [if_pos rfl]
        split
        · rename_i g2
          split
          · rename_i g; rw [if_pos (by simp [g, g2, lastB])]; exact e2
          · rename_i g; rw [if_neg (by simp [g])]; exact e1
        · rename_i g2; rw [if_neg (by simp at g2; simp [g2, c, lastB])]; exact e1
theorem implTrim_l (xs : List S27) (ts : List Int) (b : Bool) (hn : xs.length ≤ 1048576) (d : Nat) : ∀ (k i : Nat) (out : List S27), i ≤ xs.length → xs.length - i = d → d + 5000000 < k → out.length ≤ i → impl_RunTrim.l0 k xs ts b out xs (xs.length : Int) (i : Int) = some (passB b (passA xs ts d i out) (passA xs ts d i out).length 0 []) := by
  induction d with
  | zero =>
    intro k i out h1 hd hk ho
    obtain ⟨k, rfl⟩ := fuel (show 0 < k by omega)
    simp only [impl_RunTrim.l0, passA]; rw [if_neg (by omega), show (0 : Int) = ((0 : Nat) : Int) from rfl]
    exact implTrim1_l b out (by omega) out.length k 0 [] (by omega) (by omega) (by omega) (by simp)
  | succ d ih =>
    intro k i out h1 hd hk ho
    obtain ⟨k, rfl⟩ := fuel (show 0 < k by omega)
    have e1 := ih k (i + 1) (out ++ [rd_T27 xs (i : Int)]) (by omega) (by omega) (by omega) (by simp; omega)
    have e2 := ih k (i + 1) out (by omega) (by omega) (by omega) (by omega)
    rw [Int.natCast_add] at e1 e2
    have p : out.length < 3518437208883 := by omega
    simp only [impl_RunTrim.l0, passA]; rw [if_pos (by omega), if_pos (by omega), if_pos (by omega), w64 (x := (i : Int) + 1) (by omega) (by omega), w64 (x := (i : Int) - 1) (by omega) (by omega)]
    simp only [if_pos p]
    by_cases h0 : i = 0
    · rw [if_pos (by omega), if_pos (by simp [h0, keepA])]; exact e1
    · rw [if_neg (by omega), if_pos (by omega), if_pos (by omega)]
      split
      · rename_i g
        simp only [impl_seen.f, Option.bind_some]
        split
        · rename_i g2; rw [if_pos (by simp [g2, keepA])]; exact e1
        · rename_i g2; rw [if_neg (by simp at g2; simp [g, g2, h0, keepA])]; exact e2
      · rename_i g; rw [if_pos (by simp [g, keepA])]; exact e1
theorem specRunTrim_f (xs : List S27) (ts : List Int) (b : Bool) (hn : xs.length ≤ 1048576) (ht : ts.length ≤ 1048576) (B : Nat) (ho : ∀ x ∈ xs, x.f0.size ≤ 9223372036854775807 ∧ x.f0.size < B) (k : Nat) (hk : xs.length + B + 10000000 < k) : spec_RunTrim.f k xs ts b = some (trimF xs ts b) := by
  unfold spec_RunTrim.f trimF spec_l11Trim.f
  have h2 := specTrim_l xs ts b hn ht xs.length k 0 [] (by omega) (by omega) (by omega) (by simp)
  rw [specRunOk_f xs (by omega) B ho k (by omega)]
  simp only [Option.bind_some]
  cases runB xs
  · rfl
  · simp only [if_true]
    rw [show (0 : Int) = ((0 : Nat) : Int) from rfl, h2]; rfl
theorem implRunTrim_f (xs : List S27) (ts : List Int) (b : Bool) (hn : xs.length ≤ 1048576) (B : Nat) (ho : ∀ x ∈ xs, x.f0.size ≤ 9223372036854775807 ∧ x.f0.size < B) (k : Nat) (hk : xs.length + B + 10000000 < k) : impl_RunTrim.f k xs ts b = some (trimF xs ts b) := by
  unfold impl_RunTrim.f trimF
  have h2 := implTrim_l xs ts b hn xs.length k 0 [] (by omega) (by omega) (by omega) (by simp)
  rw [implRunOk_f xs (by omega) B ho k (by omega)]
  simp only [Option.bind_some]
  cases runB xs
  · rfl
  · simp only [if_true]
    rw [show (0 : Int) = ((0 : Nat) : Int) from rfl, h2]
theorem trimF_len (xs : List S27) (ts : List Int) (b : Bool) : (trimF xs ts b).length ≤ xs.length := by
  unfold trimF
  have h1 := passA_len xs ts xs.length 0 []
  have h2 := passB_len b (passA xs ts xs.length 0 []) (passA xs ts xs.length 0 []).length 0 []
  split
  · simp at h1 h2; omega
  · simp

/-! #### trimThy: what is left of a run -/
theorem runB_of2 {xs : List S27} (hl : xs.length ≤ 40) (he : ∀ x ∈ xs, entryB x = true) (hp : xs.Pairwise (fun x y => aheadB x y = true)) : runB xs = true := by
  refine runL_of xs hl xs.length 0 fun j _ hj => ?_
  have hj : j < xs.length := by omega
  simp only [stepB, Bool.and_eq_true, Bool.or_eq_true]
  rw [rdE xs j hj]
  refine ⟨he _ (List.getElem_mem hj), ?_⟩
  by_cases h0 : j = 0
  · exact .inl (by simp [h0])
  · obtain ⟨i, rfl⟩ : ∃ i, j = i + 1 := ⟨j - 1, by omega⟩
    rw [show ((i + 1 : Nat) : Int) - 1 = (i : Int) by omega, rdE xs i (by omega)]
    exact .inr (List.pairwise_iff_getElem.1 hp i (i + 1) (by omega) hj (by omega))
theorem run_sub {xs ys : List S27} (hr : runB xs = true) (h : ys.Sublist xs) : runB ys = true :=
  runB_of2 (Nat.le_trans h.length_le (runB_len hr)) (fun x hx => runB_entry hr x (h.subset hx)) ((run_pw hr).sublist h)
def kp (ts : List Int) (p : Option S27) (e : S27) : Bool := match p with
  | none => true
  | some p => (p.f0.toList != e.f0.toList) || seenB ts e.f3 p.f3
def tA (ts : List Int) : Option S27 → List S27 → List S27
  | _, [] => []
  | p, e :: r => if kp ts p e = true then e :: tA ts (some e) r else tA ts (some e) r
def prevO (xs : List S27) (i : Nat) : Option S27 := if i = 0 then none else some (rd_T27 xs ((i : Int) - 1))
theorem keepA_kp (xs : List S27) (ts : List Int) (i : Nat) : keepA xs ts i = kp ts (prevO xs i) (rd_T27 xs (i : Int)) := by
  unfold keepA prevO kp
  by_cases h : i = 0 <;> simp [h]
theorem prevO_succ (xs : List S27) (i : Nat) (h : i < xs.length) : prevO xs (i + 1) = some xs[i] := by
  unfold prevO; rw [if_neg (by omega), show ((i + 1 : Nat) : Int) - 1 = (i : Int) by omega, rdE xs i h]
theorem passA_tA (xs : List S27) (ts : List Int) (d : Nat) : ∀ (i : Nat) (out : List S27), i + d = xs.length → passA xs ts d i out = out ++ tA ts (prevO xs i) (xs.drop i) := by
  induction d with
  | zero => intro i out h; rw [List.drop_of_length_le (by omega)]; simp [passA, tA]
  | succ d ih =>
    intro i out h
    have hlt : i < xs.length := by omega
    rw [List.drop_eq_getElem_cons hlt]
    simp only [passA, tA]
    rw [keepA_kp, rdE xs i hlt, ih (i + 1) _ (by omega), ih (i + 1) _ (by omega), prevO_succ xs i hlt]
    split <;> simp
theorem passA_eq (xs : List S27) (ts : List Int) : passA xs ts xs.length 0 [] = tA ts none xs := by
  rw [passA_tA xs ts xs.length 0 [] (by omega)]; rfl
theorem tA_sub (ts : List Int) (r : List S27) : ∀ p, (tA ts p r).Sublist r := by
  induction r with
  | nil => intro p; simp [tA]
  | cons e r ih =>
    intro p
    simp only [tA]
    split
    · exact (ih _).cons_cons e
    · exact (ih _).cons e
def lastH (e : S27) : List S27 → Bool
  | [] => true
  | n :: _ => n.f0.toList != e.f0.toList
def tB (b : Bool) : List S27 → List S27
  | [] => []
  | e :: r => if (b && (e.f2 && lastH e r)) = true then tB b r else e :: tB b r
theorem lastB_lastH (ss : List S27) (i : Nat) (h : i < ss.length) : lastB ss i = lastH ss[i] (ss.drop (i + 1)) := by
  unfold lastB
  by_cases c : i + 1 = ss.length
  · rw [List.drop_of_length_le (by omega)]; simp [c, lastH]
  · rw [List.drop_eq_getElem_cons (show i + 1 < ss.length by omega), rdE ss i h, show (i : Int) + 1 = ((i + 1 : Nat) : Int) by omega, rdE ss (i + 1) (by omega)]; simp [c, lastH]
theorem passB_tB (b : Bool) (ss : List S27) (d : Nat) : ∀ (i : Nat) (out : List S27), i + d = ss.length → passB b ss d i out = out ++ tB b (ss.drop i) := by
  induction d with
  | zero => intro i out h; rw [List.drop_of_length_le (by omega)]; simp [passB, tB]
  | succ d ih =>
    intro i out h
    have hlt : i < ss.length := by omega
    rw [List.drop_eq_getElem_cons hlt]
    simp only [passB, tB]
    rw [lastB_lastH ss i hlt, rdE ss i hlt, ih (i + 1) _ (by omega), ih (i + 1) _ (by omega)]
    split <;> simp
theorem tB_sub (b : Bool) (r : List S27) : (tB b r).Sublist r := by
  induction r with
  | nil => simp [tB]
  | cons e r ih =>
    simp only [tB]
    split
    · exact ih.cons e
    · exact ih.cons_cons e
theorem tB_false (r : List S27) : tB false r = r := by
  induction r with
  | nil => rfl
  | cons e r ih => simp [tB, ih]
theorem trimF_eq {xs : List S27} (hr : runB xs = true) (ts : List Int) (b : Bool) : trimF xs ts b = tB b (tA ts none xs) := by
  unfold trimF
  rw [if_pos hr, passA_eq, passB_tB _ _ _ _ _ (by omega)]; rfl
theorem trim_sub {xs : List S27} (hr : runB xs = true) (ts : List Int) (b : Bool) : (trimF xs ts b).Sublist xs := by
  rw [trimF_eq hr]; exact (tB_sub b _).trans (tA_sub ts xs none)
theorem find_sub {xs ys : List S27} (hx : runB xs = true) (hs : ys.Sublist xs) {q : ByteArray} {t : Int} {e : S27} (hf : xs.find? (hitA q t) = some e) (he : e ∈ ys) : ys.find? (hitA q t) = some e := by
  obtain ⟨h1, h2, h3, h4⟩ := find_max hx hf
  obtain ⟨e', hf'⟩ := find_some he h2 h3
  obtain ⟨g1, g2, g3, g4⟩ := find_max (run_sub hx hs) hf'
  have := run_uniq hx (hs.subset g1) h1 (g2.trans h2.symm) (Int.le_antisymm (h4 e' (hs.subset g1) g2 g3) (g4 e he h2 h3))
  rw [hf', this]
theorem find_none_sub {xs ys : List S27} (hs : ys.Sublist xs) {q : ByteArray} {t : Int} (hf : xs.find? (hitA q t) = none) : ys.find? (hitA q t) = none :=
  List.find?_eq_none.2 fun y hy => List.find?_eq_none.1 hf y (hs.subset hy)
theorem seenB_of {l : List Int} {lo hi t : Int} (h : t ∈ l) (h1 : lo ≤ t) (h2 : t < hi) : seenB l lo hi = true := by
  unfold seenB
  exact List.any_eq_true.2 ⟨t, h, by simp [h1, h2]⟩
theorem tA_find (ts : List Int) {q : ByteArray} {t : Int} {e : S27} (r : List S27) : ∀ p : Option S27, (∀ y, p = some y → hitA q t y = false ∧ (t ∈ ts ∨ y.f3 ≤ t)) → (∀ y ∈ r, t ∈ ts ∨ y.f3 ≤ t) → r.find? (hitA q t) = some e → e ∈ tA ts p r := by
  induction r with
  | nil => intro p _ _ h; simp at h
  | cons x r ih =>
    intro p hp hr h
    rw [List.find?_cons] at h
    simp only [tA]
    cases hx : hitA q t x
    · rw [hx] at h
      have := ih (some x) (fun y hy => by cases hy; exact ⟨hx, hr x (by simp)⟩) (fun y hy => hr y (by simp [hy])) h
      split
      · exact List.mem_cons_of_mem _ this
      · exact this
    · rw [hx] at h
      obtain rfl := Option.some.inj h
      have hk : kp ts p x = true := by
        cases p with
        | none => rfl
        | some y =>
          obtain ⟨h1, h2⟩ := hp y rfl
          simp only [kp, Bool.or_eq_true, bne_iff_ne, ne_eq]
          by_cases c : y.f0.toList = x.f0.toList
          · simp only [hitA, Bool.and_eq_true, decide_eq_true_eq] at hx
            have g : t < y.f3 := by
              have := h1
              simp only [hitA, c.trans hx.1, decide_true, Bool.true_and, decide_eq_false_iff_not] at this
              omega
            rcases h2 with h2 | h2
            · exact .inr (seenB_of h2 hx.2 g)
            · omega
          · exact .inl c
      rw [if_pos hk]; simp
theorem trim_top {xs : List S27} (hr : runB xs = true) (ts : List Int) {q : ByteArray} {t : Int} (ht : ∀ y ∈ xs, t ∈ ts ∨ y.f3 ≤ t) : (trimF xs ts false).find? (hitA q t) = xs.find? (hitA q t) := by
  cases h : xs.find? (hitA q t) with
  | none => exact find_none_sub (trim_sub hr ts false) h
  | some e =>
    refine find_sub hr (trim_sub hr ts false) h ?_
    rw [trimF_eq hr, tB_false]
    exact tA_find ts xs none (fun y h => by cases h) ht h
def kL : Option (List UInt8) → List S27 → List ByteArray
  | _, [] => []
  | p, e :: r => if p = some e.f0.toList then kL p r else e.f0 :: kL (some e.f0.toList) r
def keyO (p : Option S27) : Option (List UInt8) := p.map fun e => e.f0.toList
theorem keysL_kL (xs : List S27) (d : Nat) : ∀ i, i + d = xs.length → keysL xs d i [] = kL (keyO (prevO xs i)) (xs.drop i) := by
  induction d with
  | zero => intro i h; rw [List.drop_of_length_le (by omega)]; simp [keysL, kL]
  | succ d ih =>
    intro i h
    have hlt : i < xs.length := by omega
    have e1 := ih (i + 1) (by omega)
    rw [prevO_succ xs i hlt] at e1
    rw [List.drop_eq_getElem_cons hlt]
    simp only [keysL, kL]
    rw [keysL_acc xs d (i + 1) ([] ++ _), e1, rdE xs i hlt]
    by_cases h0 : i = 0
    · rw [if_pos h0, if_neg (by simp [prevO, h0, keyO])]; rfl
    · rw [if_neg h0]
      have hp : keyO (prevO xs i) = some (rd_T27 xs ((i : Int) - 1)).f0.toList := by unfold prevO; rw [if_neg h0]; rfl
      rw [hp]
      by_cases c : (rd_T27 xs ((i : Int) - 1)).f0.toList = xs[i].f0.toList
      · rw [if_pos c, if_pos (by rw [c]), c]; rfl
      · rw [if_neg c, if_neg (by simpa using c)]; rfl
theorem keysF_kL {xs : List S27} (hr : runB xs = true) : keysF xs = kL none xs := by
  unfold keysF; rw [if_pos hr, keysL_kL xs xs.length 0 (by omega)]; rfl
theorem kp_false {ts : List Int} {p : Option S27} {e : S27} (h : ¬ kp ts p e = true) : ∃ y, p = some y ∧ y.f0.toList = e.f0.toList ∧ seenB ts e.f3 y.f3 = false := by
  cases p with
  | none => exact absurd rfl h
  | some y => simp only [kp, Bool.or_eq_true, bne_iff_ne, ne_eq, not_or, Decidable.not_not, Bool.not_eq_true] at h; exact ⟨y, rfl, h⟩
theorem kL_tA (ts : List Int) (r : List S27) : ∀ p, kL (keyO p) (tA ts p r) = kL (keyO p) r := by
  induction r with
  | nil => intro p; rfl
  | cons e r ih =>
    intro p
    have := ih (some e)
    simp only [tA]
    split
    · simp only [kL]
      by_cases c : keyO p = some e.f0.toList
      · rw [if_pos c, if_pos c, c]; exact this
      · rw [if_neg c, if_neg c]; congr 1
    · rename_i h
      obtain ⟨y, rfl, h1, _⟩ := kp_false h
      have c : keyO (some y) = some e.f0.toList := by simp [keyO, h1]
      simp only [kL]
      rw [if_pos c, c]; exact this
theorem trim_keys {xs : List S27} (hr : runB xs = true) (ts : List Int) : keysF (trimF xs ts false) = keysF xs := by
  rw [keysF_kL hr, keysF_kL (run_sub hr (trim_sub hr ts false)), trimF_eq hr, tB_false]
  exact kL_tA ts xs none
def cB (ts : List Int) (v : Int) : Nat := ts.countP fun t => decide (t < v)
/-! #### drawTrim: the run, the times and the place that the laws draw -/
theorem times_l (z : List Int) (hz : byteL z) (d : Nat) (hd : d ≤ 50) : ∀ (k : Nat) (xs : List Int) (a c : Int), d + 1000 < k → 0 ≤ c → c + d ≤ 600000000 → xs.length + d ≤ 1000 →
    ∃ r c', spec_l71Times.l0 k xs a (d : Int) z c = some (r, c') ∧ r.length = xs.length + d ∧ c ≤ c' ∧ c' ≤ c + d := by
  induction d with
  | zero =>
    intro k xs a c hk hc hc2 hx
    obtain ⟨k, rfl⟩ := fuel (show 0 < k by omega)
    exact ⟨xs, c, by simp only [spec_l71Times.l0]; rw [if_neg (by omega)], by omega, by omega, by omega⟩
  | succ d ih =>
    intro k xs a c hk hc hc2 hx
    obtain ⟨k, rfl⟩ := fuel (show 0 < k by omega)
    simp only [spec_l71Times.l0]
    rw [if_pos (by omega)]
    obtain ⟨v, h, b1, b2⟩ := pick_f z hz c 25 (by omega) (by omega) k (by omega)
    rw [h]; simp only [Option.bind_some]
    rw [if_pos (by omega), w64 (x := ((d + 1 : Nat) : Int) - 1) (by omega) (by omega), show ((d + 1 : Nat) : Int) - 1 = (d : Int) by omega]
    obtain ⟨r, c', h, g1, g2, g3⟩ := ih (by omega) k (xs ++ [wrap64 (wrap64 (a + 1) + v)]) (wrap64 (wrap64 (a + 1) + v)) (c + 1) (by omega) (by omega) (by omega) (by simp; omega)
    exact ⟨r, c', h, by simp at g1; omega, by omega, by omega⟩
theorem times_f (z : List Int) (hz : byteL z) (c : Int) (hc : 0 ≤ c) (hc2 : c ≤ 500000000) (k : Nat) (hk : 10000 < k) : ∃ r c', spec_l71Times.f k z c = some (r, c') ∧ r.length ≤ 3 ∧ c ≤ c' ∧ c' ≤ c + 10 := by
  unfold spec_l71Times.f
  obtain ⟨v, h, b1, b2⟩ := pick_f z hz c 4 (by omega) (by omega) k (by omega)
  have b2 := b2 (by omega)
  rw [h]; simp only [Option.bind_some]
  obtain ⟨m, rfl⟩ := Int.eq_ofNat_of_zero_le b1
  obtain ⟨r, c', h, g1, g2, g3⟩ := times_l z hz m (by omega) k [] 0 (c + 1) (by omega) (by omega) (by omega) (by simp; omega)
  exact ⟨r, c', h, by simp at g1; omega, by omega, by omega⟩
theorem drawRunTrim_f (l : List Int) (hl : ∀ x ∈ l, 0 ≤ x ∧ x ≤ 255) (k : Nat) (hk : 10000000 < k) : ∃ r ts b, spec_DrawRunTrim.f k l = some (r, ts, b) ∧ r.length ≤ 41 ∧ (∀ x ∈ r, x.f0.size ≤ 6) ∧ ts.length ≤ 3 := by
  unfold spec_DrawRunTrim.f
  obtain ⟨z, h, hz⟩ := open_f l hl
  rw [h]; simp only [Option.bind_some]
  obtain ⟨r, c, h, a1, a2, a3⟩ := run_f z hz 0 14 (by omega) (by omega) (by omega) (by omega) k hk
  have hl := runB_len a1
  have hs := runB_size a1
  rw [h]; simp only [Option.bind_some]
  obtain ⟨v, h, b1, b2⟩ := pick_f z hz c 16 (by omega) (by omega) k (by omega)
  rw [h]; simp only [Option.bind_some]
  by_cases e : v = 0
  · rw [if_pos e]
    obtain ⟨r2, c2, h, d1, d2, d3, d4⟩ := off_f z hz (c + 1) (by omega) (by omega) k hk
    rw [h]; simp only [Option.bind_some]
    obtain ⟨ts, c3, h, g1, g2, g3⟩ := times_f z hz c2 (by omega) (by omega) k (by omega)
    rw [h]; simp only [Option.bind_some]
    obtain ⟨v, h, b1, b2⟩ := pick_f z hz c3 2 (by omega) (by omega) k (by omega)
    rw [h]; simp only [Option.bind_some]
    exact ⟨_, _, _, rfl, d1, d2, g1⟩
  · rw [if_neg e]
    obtain ⟨ts, c3, h, g1, g2, g3⟩ := times_f z hz (c + 1) (by omega) (by omega) k (by omega)
    rw [h]; simp only [Option.bind_some]
    obtain ⟨v, h, b1, b2⟩ := pick_f z hz c3 2 (by omega) (by omega) k (by omega)
    rw [h]; simp only [Option.bind_some]
    exact ⟨_, _, _, rfl, by omega, fun x hx => by have := hs x hx; omega, g1⟩

theorem byte_wf {x : Int} (h : (Lit.int .u8 x).wf = true) : 0 ≤ x ∧ x ≤ 255 := by
  simp only [Lit.wf, Bool.and_eq_true, decide_eq_true_eq] at h
  exact h

/-! #### the law -/
theorem top_l1 (xs : List S27) (ts : List Int) (x : List S27) (ks : List ByteArray) (hr : runB xs = true) (hn : xs.length ≤ 41) (hts : ts.length ≤ 3) (hks : ks.length ≤ 41) (ho : ∀ x ∈ xs, x.f0.size ≤ 9223372036854775807 ∧ x.f0.size < 7) (i : Nat) (hi : i < ks.length) (K : Nat) (hc : ∀ k, K < k → laws_FnRunTrimTop.l0 k xs ts x (trimF xs ts false) ks ((i + 1 : Nat) : Int) = some true) (d : Nat) : ∀ (k j : Nat), j ≤ ts.length → ts.length - j = d → d + K + 1000 < k → laws_FnRunTrimTop.l1 k xs ts x (trimF xs ts false) ks (i : Int) (j : Int) = some true := by
  have hs := trim_sub hr ts false
  have hol := trimF_len xs ts false
  induction d with
  | zero =>
    intro k j hj hd hk
    obtain ⟨k, rfl⟩ := fuel (show 0 < k by omega)
    simp only [laws_FnRunTrimTop.l1]
    rw [if_neg (by omega), w64 (x := (i : Int) + 1) (by omega) (by omega)]
    exact hc k (by omega)
  | succ d ih =>
    intro k j hj hd hk
    obtain ⟨k, rfl⟩ := fuel (show 0 < k by omega)
    simp only [laws_FnRunTrimTop.l1]
    have c : j < ts.length := by omega
    have e := ih k (j + 1) (by omega) (by omega) (by omega)
    have hm : rd ts (j : Int) = ts[j] := by simp [rd, List.getD, c]
    rw [if_pos (by omega), if_pos (by omega), if_pos (by omega), if_pos (by omega), implRunAt_f xs _ _ (by omega) 7 ho k (by omega), implRunAt_f (trimF xs ts false) _ _ (by omega) 7 (fun x hx => ho x (hs.subset hx)) k (by omega), w64 (x := (j : Int) + 1) (by omega) (by omega)]
    simp only [Option.bind_some]
    generalize rdOf ByteArray.empty ks (i : Int) = q
    rw [show runAtF xs q (rd ts (j : Int)) = xs.find? (hitA q (rd ts (j : Int))) by unfold runAtF; rw [if_pos hr], show runAtF (trimF xs ts false) q (rd ts (j : Int)) = (trimF xs ts false).find? (hitA q (rd ts (j : Int))) by unfold runAtF; rw [if_pos (run_sub hr hs)], trim_top hr ts (fun y _ => .inl (by rw [hm]; exact List.getElem_mem c))]
    rw [if_neg (by simp), if_neg (by simp)]
    exact e
set_option maxRecDepth 100000 in
theorem top_l0 (xs : List S27) (ts : List Int) (b : Bool) (hr : runB xs = true) (hn : xs.length ≤ 41) (hts : ts.length ≤ 3) (ho : ∀ x ∈ xs, x.f0.size ≤ 9223372036854775807 ∧ x.f0.size < 7) (d : Nat) : ∀ (k i : Nat), i ≤ (keysF xs).length → (keysF xs).length - i = d → 3000 * d + 2000 < k → laws_FnRunTrimTop.l0 k xs ts (trimF xs ts b) (trimF xs ts false) (keysF xs) (i : Int) = some true := by
  have hkl := keysF_len xs
  have hs := trim_sub hr ts false
  have hol := trimF_len xs ts false
  induction d with
  | zero =>
    intro k i hi hd hk
    obtain ⟨k, rfl⟩ := fuel (show 0 < k by omega)
    have hle : (trimF xs ts b).length ≤ (trimF xs ts false).length := by
      rw [trimF_eq hr, trimF_eq hr, tB_false]; exact (tB_sub b _).length_le
    simp only [laws_FnRunTrimTop.l0]
    rw [if_neg (by omega), implRunKeys_f _ (by omega) 7 (fun x hx => ho x (hs.subset hx)) k (by omega), trim_keys hr]
    simp only [Option.bind_some]
    rw [ltSames_f _ (by omega) k (by omega)]
    simp; omega
  | succ d ih =>
    intro k i hi hd hk
    obtain ⟨k, rfl⟩ := fuel (show 0 < k by omega)
    simp only [laws_FnRunTrimTop.l0]
    rw [if_pos (by omega), show (0 : Int) = ((0 : Nat) : Int) from rfl]
    exact top_l1 xs ts _ (keysF xs) hr hn hts (by omega) ho i (by omega) (3000 * d + 2000) (fun k hk => ih k (i + 1) (by omega) (by omega) hk) ts.length k 0 (by omega) (by omega) (by omega)
theorem law_f (l : List Int) (hl : ∀ x ∈ l, 0 ≤ x ∧ x ≤ 255) : ∃ k, laws_FnRunTrimTop.f k l = some true := by
  refine ⟨50000001, ?_⟩
  unfold laws_FnRunTrimTop.f
  split
  · rfl
  obtain ⟨xs, ts, b, h, a1, a2, a3⟩ := drawRunTrim_f l hl 50000001 (by omega)
  have ho : ∀ x ∈ xs, x.f0.size ≤ 9223372036854775807 ∧ x.f0.size < 7 := fun x hx => by have := a2 x hx; omega
  have hol := trimF_len xs ts b
  have hkl := keysF_len xs
  rw [h]; simp only [Option.bind_some]
  rw [implRunTrim_f xs ts b (by omega) 7 ho 50000001 (by omega)]; simp only [Option.bind_some]
  rw [specRunTrim_f xs ts b (by omega) (by omega) 7 ho 50000001 (by omega)]; simp only [Option.bind_some]
  rw [ltRuns_f _ (by omega) 50000001 (by omega)]; simp only [Option.bind_some, if_true]
  rw [specRunOk_f xs (by omega) 7 ho 50000001 (by omega)]; simp only [Option.bind_some]
  show laws_FnRunTrimTop.j0 (50000000 + 1) _ _ _ _ _ = _
  simp only [laws_FnRunTrimTop.j0]
  cases hr : runB xs
  · simp only [Bool.not_false, if_true]
    rw [specRunTrim_f xs ts b (by omega) (by omega) 7 ho 50000000 (by omega)]; simp only [Option.bind_some]
    rw [ltRuns_f _ (by omega) 50000000 (by omega)]; rfl
  · simp only [Bool.not_true, Bool.false_eq_true, if_false]
    rw [implRunTrim_f xs ts false (by omega) 7 ho 50000000 (by omega)]; simp only [Option.bind_some]
    rw [implRunKeys_f xs (by omega) 7 ho 50000000 (by omega)]; simp only [Option.bind_some]
    rw [show (0 : Int) = ((0 : Nat) : Int) from rfl]
    exact top_l0 xs ts b hr (by omega) a3 ho (keysF xs).length 50000000 0 (by omega) (by omega) (by omega)
theorem law : laws_FnRunTrimTop.Pure := fun l0 _ _ h => law_f l0 fun x hx => byte_wf (h x hx)

end Go.Proofs.Ytkifijclehgiaaa.PFnRunTrimTop
