/-
  The plain law of FnRunJoinAt: what the printed functions compute answers true, for every argument that fits; and the lemmas on each function that it reaches. No condition beyond that numbers are of their kind and lengths within a slice's.
-/
import Derived.Test.YtkifijclehgiaaaPFnRunJoinAtx0
import Derived.Test.YtkifijclehgiaaaPFnRunJoinAtx1
import Derived.Test.YtkifijclehgiaaaPFnRunJoinAtx2
import Derived.Test.YtkifijclehgiaaaPFnRunJoinAtx3
import Derived.Test.YtkifijclehgiaaaPFnRunJoinAtx4
import Derived.Test.YtkifijclehgiaaaPFnRunJoinAtx5
import Derived.Test.YtkifijclehgiaaaPFnRunJoinAtx6
import Derived.Test.YtkifijclehgiaaaPFnRunJoinAtx7
import Derived.Test.YtkifijclehgiaaaPFnRunJoinAtx8
import Derived.Test.YtkifijclehgiaaaPFnRunJoinAtx9
import Derived.Test.YtkifijclehgiaaaPFnRunJoinAtx10
import Derived.Test.YtkifijclehgiaaaPFnRunJoinAtx11
import Derived.Test.YtkifijclehgiaaaPFnRunJoinAtx12
import Derived.Test.YtkifijclehgiaaaPFnRunJoinAtx13
namespace Go.Proofs.Ytkifijclehgiaaa.PFnRunJoinAt
open Go.RowKit Go.Proofs.YtkifijclehgiaaaW.PrintWords Go.Proofs.YtkifijclehgiaaaW.PrintLast Go.Proofs.YtkifijclehgiaaaW.PrintMore
set_option linter.unusedVariables false
set_option linter.unusedSimpArgs false

/-! #### base -/
theorem w64 {x : Int} (h0 : -9223372036854775808 ≤ x) (h1 : x ≤ 9223372036854775807) : wrap64 x = x := by unfold wrap64; omega
theorem toList_inj {a b : ByteArray} (h : a.toList = b.toList) : a = b := by
  rw [ByteArray.toList_eq, ByteArray.toList_eq] at h
  exact ByteArray.ext (Array.ext' h)
theorem fuel {k d : Nat} (h : d < k) : ∃ m, k = m + 1 := ⟨k - 1, by omega⟩

theorem rdE (xs : List S27) (n : Nat) (h : n < xs.length) : rd_T27 xs (n : Int) = xs[n] := by simp [rd_T27, List.getD, h]
instance : DecidableEq S27 := fun a b => decidable_of_iff (a.f0 = b.f0 ∧ a.f1 = b.f1 ∧ a.f2 = b.f2 ∧ a.f3 = b.f3) (by cases a; cases b; simp)

/-! #### runOk -/
def inB (a lo hi : Int) : Bool := decide (lo ≤ a) && decide (a ≤ hi)
theorem specIn_f (a b c : Int) : spec_l6In.f a b c = some (inB a b c) := by
  unfold spec_l6In.f inB
  by_cases h : b ≤ a <;> simp [h]
theorem implIn_f (a b c : Int) : impl_in.f a b c = some (inB a b c) := by
  unfold impl_in.f inB
  by_cases h : b ≤ a <;> simp [h]
def keyL (a : ByteArray) : Nat → Nat → Bool
  | 0, _ => decide ((a.size : Int) ≤ 5)
  | d + 1, i => inB (bt a (i : Int)) 97 100 && keyL a d (i + 1)
def keyB (a : ByteArray) : Bool := keyL a a.size 0
theorem specKey_l (a : ByteArray) (hn : a.size ≤ 9223372036854775807) (d : Nat) : ∀ (k i : Nat), i ≤ a.size → a.size - i = d → d < k → spec_KeyOk.l0 k a (i : Int) = some (keyL a d i) := by
  induction d with
  | zero =>
    intro k i h1 hd hk
    obtain ⟨k, rfl⟩ := fuel hk
    simp only [spec_KeyOk.l0]; rw [if_neg (by omega)]; rfl
  | succ d ih =>
    intro k i h1 hd hk
    obtain ⟨k, rfl⟩ := fuel hk
    obtain ⟨b1, b2⟩ := bt_range a (i : Int)
    simp only [spec_KeyOk.l0]; rw [if_pos (by omega), if_pos (by omega), w64 (x := bt a (i : Int)) (by omega) (by omega), specIn_f, w64 (by omega) (by omega)]
    have := ih k (i + 1) (by omega) (by omega) (by omega)
    simp only [Option.bind_some, keyL]
    cases inB (bt a (i : Int)) 97 100
    · simp
    · simpa using this
theorem specKey_f (a : ByteArray) (hn : a.size ≤ 9223372036854775807) (k : Nat) (hk : a.size < k) : spec_KeyOk.f k a = some (keyB a) := specKey_l a hn a.size k 0 (by omega) (by omega) hk
theorem implKey_l (a : ByteArray) (hn : a.size ≤ 9223372036854775807) (d : Nat) : ∀ (k i : Nat), i ≤ a.size → a.size - i = d → d < k → impl_KeyOk.l0 k a (a.size : Int) (i : Int) = some (keyL a d i) := by
  induction d with
  | zero =>
    intro k i h1 hd hk
    obtain ⟨k, rfl⟩ := fuel hk
    simp only [impl_KeyOk.l0]; rw [if_neg (by omega)]; rfl
  | succ d ih =>
    intro k i h1 hd hk
    obtain ⟨k, rfl⟩ := fuel hk
    simp only [impl_KeyOk.l0]; rw [if_pos (by omega), if_pos (by omega), if_pos (by omega), w64 (by omega) (by omega)]
    have := ih k (i + 1) (by omega) (by omega) (by omega)
    simp only [keyL, inB]
    by_cases c1 : bt a (i : Int) < 97
    · rw [if_pos c1]; simp [show ¬ (97 ≤ bt a (i : Int)) by omega]
    · rw [if_neg c1]
      by_cases c2 : bt a (i : Int) > 100
      · rw [if_pos c2]; simp [show ¬ (bt a (i : Int) ≤ 100) by omega]
      · rw [if_neg c2]; simpa [show 97 ≤ bt a (i : Int) by omega, show bt a (i : Int) ≤ 100 by omega] using this
theorem implKey_f (a : ByteArray) (hn : a.size ≤ 9223372036854775807) (k : Nat) (hk : a.size < k) : impl_KeyOk.f k a = some (keyB a) := implKey_l a hn a.size k 0 (by omega) (by omega) hk
def entryB (e : S27) : Bool := keyB e.f0 && (inB e.f1 0 99 && (if e.f2 = true then decide (e.f1 = 0) && inB e.f3 1 999 else inB e.f3 1 999))
theorem specEntry_f (e : S27) (hn : e.f0.size ≤ 9223372036854775807) (k : Nat) (hk : e.f0.size < k) : spec_l11Ok.f k e.f0 e.f1 e.f2 e.f3 = some (entryB e) := by
  unfold spec_l11Ok.f entryB
  rw [specKey_f _ hn k hk]
  simp only [Option.bind_some, specIn_f]
  cases keyB e.f0 <;> cases inB e.f1 0 99 <;> cases e.f2 <;> by_cases h : e.f1 = 0 <;> simp [h]
theorem implEntry_f (e : S27) (hn : e.f0.size ≤ 9223372036854775807) (k : Nat) (hk : e.f0.size < k) : impl_entryOk.f k e.f0 e.f1 e.f2 e.f3 = some (entryB e) := by
  unfold impl_entryOk.f entryB
  rw [implKey_f _ hn k hk]
  simp only [Option.bind_some, implIn_f]
  cases keyB e.f0 <;> cases inB e.f1 0 99 <;> cases e.f2 <;> by_cases h : e.f1 = 0 <;> simp [h]
def aheadB (a b : S27) : Bool := Go.Op.bytesLess a.f0.toList b.f0.toList || (decide (a.f0.toList = b.f0.toList) && decide (a.f3 > b.f3))
theorem specAhead_f (a b : S27) : spec_l11Ahead.f a.f0 a.f1 a.f2 a.f3 b.f0 b.f1 b.f2 b.f3 = some (aheadB a b) := by
  unfold spec_l11Ahead.f aheadB
  cases Go.Op.bytesLess a.f0.toList b.f0.toList <;> by_cases h : a.f0.toList = b.f0.toList <;> simp [h]
theorem implBefore_f (a b : S27) : impl_before.f a.f0 a.f1 a.f2 a.f3 b.f0 b.f1 b.f2 b.f3 = some (aheadB a b) := by
  unfold impl_before.f aheadB
  cases Go.Op.bytesLess a.f0.toList b.f0.toList <;> by_cases h : a.f0.toList = b.f0.toList <;> simp [h]
def stepB (xs : List S27) (i : Nat) : Bool := entryB (rd_T27 xs (i : Int)) && (decide (i = 0) || aheadB (rd_T27 xs ((i : Int) - 1)) (rd_T27 xs (i : Int)))
def runL (xs : List S27) : Nat → Nat → Bool
  | 0, _ => decide ((xs.length : Int) ≤ 40)
  | d + 1, i => stepB xs i && runL xs d (i + 1)
def runB (xs : List S27) : Bool := runL xs xs.length 0
theorem specRunOk_l (xs : List S27) (hn : xs.length ≤ 9223372036854775806) (B : Nat) (ho : ∀ x ∈ xs, x.f0.size ≤ 9223372036854775807 ∧ x.f0.size < B) (d : Nat) : ∀ (k i : Nat), i ≤ xs.length → xs.length - i = d → d + B < k → spec_RunOk.l0 k xs (i : Int) = some (runL xs d i) := by
  induction d with
  | zero =>
    intro k i h1 hd hk
    obtain ⟨k, rfl⟩ := fuel hk
    simp only [spec_RunOk.l0]; rw [if_neg (by omega)]; rfl
  | succ d ih =>
    intro k i h1 hd hk
    obtain ⟨k, rfl⟩ := fuel hk
    have hlt : i < xs.length := by omega
    have ho' := ho xs[i] (List.getElem_mem hlt)
    have := ih k (i + 1) (by omega) (by omega) (by omega)
    simp only [spec_RunOk.l0]; rw [if_pos (by omega), if_pos (by omega), specEntry_f (rd_T27 xs (i : Int)) (by rw [rdE xs i hlt]; exact ho'.1) k (by rw [rdE xs i hlt]; omega), w64 (x := (i : Int) - 1) (by omega) (by omega), specAhead_f, w64 (by omega) (by omega)]
    simp only [Option.bind_some, runL, stepB]
    cases entryB (rd_T27 xs (i : Int))
    · simp
    · by_cases h0 : i = 0
      · subst h0; simpa using this
      · rw [if_pos rfl, if_pos (by omega), if_pos (by omega), if_pos (by omega)]
        cases aheadB (rd_T27 xs ((i : Int) - 1)) (rd_T27 xs (i : Int))
        · simp [h0]
        · simpa [h0] using this
theorem implRunOk_l (xs : List S27) (hn : xs.length ≤ 9223372036854775806) (B : Nat) (ho : ∀ x ∈ xs, x.f0.size ≤ 9223372036854775807 ∧ x.f0.size < B) (d : Nat) : ∀ (k i : Nat), i ≤ xs.length → xs.length - i = d → d + B < k → impl_RunOk.l0 k xs xs (xs.length : Int) (i : Int) = some (runL xs d i) := by
  induction d with
  | zero =>
    intro k i h1 hd hk
    obtain ⟨k, rfl⟩ := fuel hk
    simp only [impl_RunOk.l0]; rw [if_neg (by omega)]; rfl
  | succ d ih =>
    intro k i h1 hd hk
    obtain ⟨k, rfl⟩ := fuel hk
    have hlt : i < xs.length := by omega
    have ho' := ho xs[i] (List.getElem_mem hlt)
    have := ih k (i + 1) (by omega) (by omega) (by omega)
    simp only [impl_RunOk.l0]; rw [if_pos (by omega), if_pos (by omega), if_pos (by omega), implEntry_f (rd_T27 xs (i : Int)) (by rw [rdE xs i hlt]; exact ho'.1) k (by rw [rdE xs i hlt]; omega), w64 (x := (i : Int) - 1) (by omega) (by omega), implBefore_f, w64 (by omega) (by omega)]
    simp only [Option.bind_some, runL, stepB]
    cases entryB (rd_T27 xs (i : Int))
    · simp
    · by_cases h0 : i = 0
      · subst h0; simpa using this
      · rw [if_pos rfl, if_pos (by omega), if_pos (by omega), if_pos (by omega)]
        cases aheadB (rd_T27 xs ((i : Int) - 1)) (rd_T27 xs (i : Int))
        · simp [h0]
        · simpa [h0] using this
theorem specRunOk_f (xs : List S27) (hn : xs.length ≤ 9223372036854775806) (B : Nat) (ho : ∀ x ∈ xs, x.f0.size ≤ 9223372036854775807 ∧ x.f0.size < B) (k : Nat) (hk : xs.length + B < k) : spec_RunOk.f k xs = some (runB xs) := specRunOk_l xs hn B ho xs.length k 0 (by omega) (by omega) hk
theorem implRunOk_f (xs : List S27) (hn : xs.length ≤ 9223372036854775806) (B : Nat) (ho : ∀ x ∈ xs, x.f0.size ≤ 9223372036854775807 ∧ x.f0.size < B) (k : Nat) (hk : xs.length + B < k) : impl_RunOk.f k xs = some (runB xs) := implRunOk_l xs hn B ho xs.length k 0 (by omega) (by omega) hk

/-! #### at -/
def hitA (q : ByteArray) (t : Int) (e : S27) : Bool := decide (e.f0.toList = q.toList) && decide (e.f3 ≤ t)
def atT : Option S27 → ByteArray × Int × Bool × Int × Bool
  | some e => (e.f0, e.f1, e.f2, e.f3, true)
  | none => ((⟨#[]⟩ : ByteArray), 0, false, 0, false)
theorem implAt_l (xs : List S27) (q : ByteArray) (t : Int) (hn : xs.length ≤ 9223372036854775806) (d : Nat) : ∀ (k i : Nat), i ≤ xs.length → xs.length - i = d → d < k → impl_at.l0 k q t xs (xs.length : Int) (i : Int) = some (atT ((xs.drop i).find? (hitA q t))) := by
  induction d with
  | zero =>
    intro k i h1 hd hk
    obtain ⟨k, rfl⟩ := fuel hk
    simp only [impl_at.l0]; rw [if_neg (by omega), List.drop_of_length_le (by omega)]; rfl
  | succ d ih =>
    intro k i h1 hd hk
    obtain ⟨k, rfl⟩ := fuel hk
    have hlt : i < xs.length := by omega
    simp only [impl_at.l0]; rw [if_pos (by omega), if_pos (by omega), if_pos (by omega), rdE xs i hlt, w64 (by omega) (by omega)]
    have := ih k (i + 1) (by omega) (by omega) (by omega)
    rw [List.drop_eq_getElem_cons hlt, List.find?_cons]
    unfold hitA
    by_cases c : xs[i].f0.toList = q.toList <;> by_cases c2 : xs[i].f3 ≤ t <;> simp only [c, c2, if_true, if_false, decide_true, decide_false, Bool.and_true, Bool.and_false, Bool.false_and] <;> first | rfl | exact this

/-! #### runAt -/
def runAtF (xs : List S27) (q : ByteArray) (t : Int) : Option S27 := if runB xs = true then xs.find? (hitA q t) else none
theorem implRunAt_f (xs : List S27) (q : ByteArray) (t : Int) (hn : xs.length ≤ 9223372036854775806) (B : Nat) (ho : ∀ x ∈ xs, x.f0.size ≤ 9223372036854775807 ∧ x.f0.size < B) (k : Nat) (hk : xs.length + B < k) : impl_RunAt.f k xs q t = some (atT (runAtF xs q t)) := by
  unfold impl_RunAt.f runAtF impl_at.f
  have := implAt_l xs q t hn xs.length k 0 (by omega) (by omega) (by omega)
  rw [implRunOk_f xs hn B ho k hk]
  simp only [Option.bind_some]
  cases runB xs
  · rfl
  · simp only [if_true]
    rw [show (0 : Int) = ((0 : Nat) : Int) from rfl, this]; rfl

/-! #### pick -/
theorem xor_nonneg (a b : Int) (ha : 0 ≤ a) (ha2 : a < 4611686018427387904) (hb : 0 ≤ b) (hb2 : b < 4611686018427387904) : 0 ≤ Go.bits .xor .i64 a b := by
  obtain ⟨m, rfl⟩ := Int.eq_ofNat_of_zero_le ha
  obtain ⟨n, rfl⟩ := Int.eq_ofNat_of_zero_le hb
  have hm : m < 2 ^ 62 := by have : (2 : Nat) ^ 62 = 4611686018427387904 := by decide
                             omega
  have hn : n < 2 ^ 62 := by have : (2 : Nat) ^ 62 = 4611686018427387904 := by decide
                             omega
  have hx := Nat.xor_lt_two_pow hm hn
  have e62 : (2 : Nat) ^ 62 = 4611686018427387904 := by decide
  have e64 : (2 : Nat) ^ 64 = 18446744073709551616 := by decide
  have hb : ∀ q : Nat, q < 2 ^ 62 → (BitVec.ofInt 64 (q : Int)).toNat = q := fun q hq => by
    rw [BitVec.ofInt_natCast, BitVec.toNat_ofNat]; exact Nat.mod_eq_of_lt (by omega)
  have e : (BitVec.ofInt 64 (m : Int) ^^^ BitVec.ofInt 64 (n : Int)).toNat = m ^^^ n := by rw [BitVec.toNat_xor, hb m hm, hb n hn]
  have : Go.bits .xor .i64 (m : Int) (n : Int) = IntKind.wrap .i64 ((m ^^^ n : Nat) : Int) := by
    show IntKind.wrap .i64 (((BitVec.ofInt 64 (m : Int) ^^^ BitVec.ofInt 64 (n : Int)).toNat : Nat) : Int) = _
    rw [e]
  rw [this]
  show 0 ≤ IntKind.wrap .i64 _
  simp only [IntKind.wrap, IntKind.bits, IntKind.signed]
  simp
  omega
def byteL (z : List Int) : Prop := z.length ≤ 2000 ∧ ∀ x ∈ z, 0 ≤ x ∧ x ≤ 255
theorem rd_byte {z : List Int} (hz : byteL z) (i : Int) : 0 ≤ rd z i ∧ rd z i ≤ 255 := by
  unfold rd
  rw [List.getD_eq_getElem?_getD]
  cases h : z[i.toNat]? with
  | none => simp
  | some x => exact hz.2 x (List.mem_of_getElem? h)
theorem pick_f (z : List Int) (hz : byteL z) (c n : Int) (hc : 0 ≤ c) (hc2 : c ≤ 1000000000) (k : Nat) (hk : 0 < k) : ∃ v, spec_l6Rd_pick.f k z c n = some (v, c + 1) ∧ 0 ≤ v ∧ (1 ≤ n → v < n) := by
  obtain ⟨k, rfl⟩ := fuel hk
  have hl := hz.1
  have hr := rd_byte hz
  have ec : wrap64 (c + 1) = c + 1 := w64 (by omega) (by omega)
  unfold spec_l6Rd_pick.f
  rw [ec]
  by_cases hn : n < 1
  · rw [if_pos hn]; exact ⟨0, by simp [spec_l6Rd_pick.j0], by omega, by omega⟩
  · rw [if_neg hn]
    by_cases h0 : (z.length : Int) = 0
    · have hb : ((z.length : Int) == 0) = true := by simp [h0]
      rw [hb]; exact ⟨0, by simp [spec_l6Rd_pick.j0], by omega, by omega⟩
    · have hb : ((z.length : Int) == 0) = false := by simpa using h0
      have e1 : wrap64 (c + 1 - 1) = c := by rw [w64 (by omega) (by omega)]; omega
      have er : ∀ i, wrap64 (rd z i) = rd z i := fun i => w64 (by have := hr i; omega) (by have := hr i; omega)
      have key : ∀ y : Int, 0 ≤ y → 0 ≤ Int.tmod y n ∧ Int.tmod y n < n := fun y hy => ⟨Int.tmod_nonneg n hy, Int.tmod_lt_of_pos y (by omega)⟩
      rw [hb]; simp only [spec_l6Rd_pick.j0, Bool.false_eq_true, if_false, e1, er]
      by_cases h1 : c < (z.length : Int)
      · rw [if_pos h1, if_pos hc, if_neg (by omega)]
        obtain ⟨a1, a2⟩ := key (rd z c) (hr c).1
        exact ⟨_, rfl, a1, fun _ => a2⟩
      · have m1 : 0 ≤ Int.tmod c (z.length : Int) := Int.tmod_nonneg _ hc
        have m2 : Int.tmod c (z.length : Int) < (z.length : Int) := Int.tmod_lt_of_pos c (by omega)
        have m3 : 0 ≤ Int.tmod (c * 7 + 3) (z.length : Int) := Int.tmod_nonneg _ (by omega)
        have m4 : Int.tmod (c * 7 + 3) (z.length : Int) < (z.length : Int) := Int.tmod_lt_of_pos _ (by omega)
        have e7 : wrap64 (c * 7) = c * 7 := w64 (by omega) (by omega)
        have e73 : wrap64 (c * 7 + 3) = c * 7 + 3 := w64 (by omega) (by omega)
        have d0 : Int.tdiv c (z.length : Int) = c / (z.length : Int) := Int.tdiv_eq_ediv_of_nonneg hc
        have d1 : 0 ≤ c / (z.length : Int) := Int.ediv_nonneg hc (by omega)
        have d2 : c / (z.length : Int) ≤ c := Int.ediv_le_self _ hc
        rw [if_neg h1, if_neg h0, e7, e73, if_pos m1, if_pos m2, if_pos m3, if_pos m4, if_neg (by omega)]
        have hx := hr (Int.tmod c (z.length : Int))
        have hy := hr (Int.tmod (c * 7 + 3) (z.length : Int))
        rw [d0]
        generalize rd z (Int.tmod c (z.length : Int)) = x at *
        generalize rd z (Int.tmod (c * 7 + 3) (z.length : Int)) = y at *
        generalize c / (z.length : Int) = q at *
        rw [w64 (x := x * 131) (by omega) (by omega), w64 (x := y * 1117) (by omega) (by omega), w64 (x := x * 131 + y * 1117) (by omega) (by omega), w64 (x := c * 29) (by omega) (by omega), w64 (x := q) (by omega) (by omega), w64 (x := q * 53) (by omega) (by omega), w64 (x := x * 131 + y * 1117 + c * 29) (by omega) (by omega), w64 (x := x * 131 + y * 1117 + c * 29 + q * 53) (by omega) (by omega)]
        have t0 : Int.tdiv (x * 131 + y * 1117 + c * 29 + q * 53) 64 = (x * 131 + y * 1117 + c * 29 + q * 53) / 64 := Int.tdiv_eq_ediv_of_nonneg (by omega)
        rw [t0, w64 (x := (x * 131 + y * 1117 + c * 29 + q * 53) / 64) (by omega) (by omega)]
        obtain ⟨a1, a2⟩ := key _ (xor_nonneg (x * 131 + y * 1117 + c * 29 + q * 53) ((x * 131 + y * 1117 + c * 29 + q * 53) / 64) (by omega) (by omega) (by omega) (by omega))
        exact ⟨_, rfl, a1, fun _ => a2⟩

/-! #### draw1: of, key, near -/
theorem rdOf_mem {α : Type} (d : α) (xs : List α) (i : Int) (h0 : 0 ≤ i) (h1 : i < (xs.length : Int)) : rdOf d xs i ∈ xs := by
  unfold rdOf
  have h : i.toNat < xs.length := by omega
  rw [List.getD_eq_getElem?_getD, List.getElem?_eq_getElem h]
  exact List.getElem_mem h
theorem of_f (z : List Int) (hz : byteL z) (c : Int) (l : List ByteArray) (hl : 0 < l.length) (hl2 : l.length ≤ 1000) (hc : 0 ≤ c) (hc2 : c ≤ 1000000000) (k : Nat) (hk : 0 < k) : ∃ s, spec_l6Rd_of.f k z c l = some (s, c + 1) ∧ s ∈ l := by
  obtain ⟨v, h, h0, h1⟩ := pick_f z hz c (l.length : Int) hc hc2 k hk
  have h2 := h1 (by omega)
  unfold spec_l6Rd_of.f
  rw [h]; simp only [Option.bind_some]
  rw [if_pos h0, if_pos h2]
  exact ⟨_, rfl, rdOf_mem _ _ _ h0 h2⟩
theorem key_l (z : List Int) (hz : byteL z) (d : Nat) (hd : d ≤ 100) : ∀ (k : Nat) (s : ByteArray) (c : Int), d < k → 0 ≤ c → c + d ≤ 1000000000 → s.size + d ≤ 1000 → ∃ r, spec_l71Key.l0 k s (d : Int) z c = some (r, c + d) ∧ r.size ≤ s.size + d := by
  induction d with
  | zero =>
    intro k s c hk hc hc2 hs
    obtain ⟨k, rfl⟩ := fuel hk
    exact ⟨s, by simp only [spec_l71Key.l0]; rw [if_neg (by omega)]; simp, by omega⟩
  | succ d ih =>
    intro k s c hk hc hc2 hs
    obtain ⟨k, rfl⟩ := fuel hk
    simp only [spec_l71Key.l0]
    rw [if_pos (by omega)]
    obtain ⟨y, h, hm⟩ := of_f z hz c (l := [(⟨#[97]⟩ : ByteArray), (⟨#[98]⟩ : ByteArray), (⟨#[97]⟩ : ByteArray), (⟨#[99]⟩ : ByteArray), (⟨#[100]⟩ : ByteArray)]) (by simp) (by simp) hc (by omega) k (by omega)
    rw [h]; simp only [Option.bind_some]
    have hy : y.size = 1 := by
      simp only [List.mem_cons, List.not_mem_nil, or_false] at hm
      rcases hm with rfl | rfl | rfl | rfl | rfl <;> rfl
    have hsz : (s ++ y).size = s.size + 1 := by rw [ByteArray.size_append, hy]
    rw [if_pos (by omega), w64 (by omega) (by omega)]
    obtain ⟨r, hr, hr2⟩ := ih (by omega) k (s ++ y) (c + 1) (by omega) (by omega) (by omega) (by omega)
    refine ⟨r, ?_, by omega⟩
    rw [show ((d + 1 : Nat) : Int) - 1 = (d : Int) by omega, hr, show c + 1 + (d : Int) = c + ((d + 1 : Nat) : Int) by omega]
theorem key_f (z : List Int) (hz : byteL z) (c : Int) (hc : 0 ≤ c) (hc2 : c ≤ 900000000) (k : Nat) (hk : 10 < k) : ∃ r c', spec_l71Key.f k z c = some (r, c') ∧ r.size ≤ 5 ∧ c ≤ c' ∧ c' ≤ c + 6 := by
  obtain ⟨v, h, h0, h1⟩ := pick_f z hz c 6 hc (by omega) k (by omega)
  have h2 := h1 (by omega)
  unfold spec_l71Key.f
  rw [h]; simp only [Option.bind_some]
  obtain ⟨n, rfl⟩ := Int.eq_ofNat_of_zero_le h0
  obtain ⟨r, hr, hr2⟩ := key_l z hz n (by omega) k (⟨#[]⟩ : ByteArray) (c + 1) (by omega) (by omega) (by omega) (by show 0 + n ≤ 1000; omega)
  have : (⟨#[]⟩ : ByteArray).size = 0 := rfl
  exact ⟨r, _, hr, by omega, by omega, by omega⟩
theorem near_f (z : List Int) (hz : byteL z) (c : Int) (l : List ByteArray) (K : Nat) (hK : 5 ≤ K) (hK2 : K ≤ 1000) (hl : ∀ s ∈ l, s.size ≤ K) (hl2 : l.length ≤ 1000) (hc : 0 ≤ c) (hc2 : c ≤ 800000000) (k : Nat) (hk : 20 < k) : ∃ r c', spec_l71Near.f k z c l = some (r, c') ∧ r.size ≤ K ∧ c ≤ c' ∧ c' ≤ c + 10 := by
  have hj : ∀ (b : Bool) (c' : Int), c ≤ c' → c' ≤ c + 1 → (b = false → 0 < l.length) → ∃ r c'', spec_l71Near.j0 k l b z c' = some (r, c'') ∧ r.size ≤ K ∧ c' ≤ c'' ∧ c'' ≤ c' + 9 := by
    intro b c' g1 g2 g3
    obtain ⟨k, rfl⟩ := fuel (show 0 < k by omega)
    simp only [spec_l71Near.j0]
    cases b
    · have g3 := g3 rfl
      obtain ⟨v, h, h0, h1⟩ := pick_f z hz c' (l.length : Int) (by omega) (by omega) k (by omega)
      have h2 := h1 (by omega)
      simp only [Bool.false_eq_true, if_false]
      rw [h]; simp only [Option.bind_some]
      rw [if_pos h0, if_pos h2]
      have hs := hl _ (rdOf_mem ByteArray.empty l v h0 h2)
      generalize rdOf ByteArray.empty l v = s at *
      obtain ⟨v2, h', h0', h1'⟩ := pick_f z hz (c' + 1) 4 (by omega) (by omega) k (by omega)
      rw [h']; simp only [Option.bind_some]
      by_cases e0 : v2 = 0
      · rw [if_pos e0, w64 (by omega) (by omega)]
        obtain ⟨v3, h'', h0'', h1''⟩ := pick_f z hz (c' + 1 + 1) ((s.size : Int) + 1) (by omega) (by omega) k (by omega)
        have := h1'' (by omega)
        rw [h'']; simp only [Option.bind_some]
        rw [if_pos h0'', if_pos (by omega)]
        exact ⟨_, _, rfl, by rw [ByteArray.size_extract]; omega, by omega, by omega⟩
      · rw [if_neg e0]
        by_cases e1 : v2 = 1
        · rw [if_pos e1]
          by_cases e2 : (s.size : Int) < 5
          · rw [if_pos e2]
            obtain ⟨y, h, hm⟩ := of_f z hz (c' + 1 + 1) (l := [(⟨#[97]⟩ : ByteArray), (⟨#[98]⟩ : ByteArray), (⟨#[100]⟩ : ByteArray)]) (by simp) (by simp) (by omega) (by omega) k (by omega)
            have hy : y.size = 1 := by
              simp only [List.mem_cons, List.not_mem_nil, or_false] at hm
              rcases hm with rfl | rfl | rfl <;> rfl
            rw [h]; simp only [Option.bind_some]
            rw [if_pos (by omega)]
            exact ⟨_, _, rfl, by rw [ByteArray.size_append, hy]; omega, by omega, by omega⟩
          · rw [if_neg e2]; exact ⟨_, _, rfl, hs, by omega, by omega⟩
        · rw [if_neg e1]; exact ⟨_, _, rfl, hs, by omega, by omega⟩
    · obtain ⟨r, c'', h, h1, h2, h3⟩ := key_f z hz c' (by omega) (by omega) k (by omega)
      simp only [if_true]
      rw [h]; simp only [Option.bind_some]
      exact ⟨_, _, rfl, by omega, h2, by omega⟩
  unfold spec_l71Near.f
  by_cases e : (l.length : Int) = 0
  · rw [if_pos e]
    obtain ⟨r, c'', h, h1, h2, h3⟩ := hj true c (by omega) (by omega) (fun h => by cases h)
    exact ⟨r, c'', h, h1, h2, by omega⟩
  · rw [if_neg e]
    obtain ⟨v, h, h0, h1⟩ := pick_f z hz c 4 hc (by omega) k (by omega)
    rw [h]; simp only [Option.bind_some]
    obtain ⟨r, c'', h, h1, h2, h3⟩ := hj (v == 0) (c + 1) (by omega) (by omega) (fun _ => by omega)
    exact ⟨r, c'', h, h1, by omega, by omega⟩

/-! #### draw2: put, keys -/
theorem put_l (K : Nat) (x0 : List ByteArray) (x1 : ByteArray) (h0 : ∀ s ∈ x0, s.size ≤ K) (h1 : x1.size ≤ K) (hn : x0.length ≤ 1000) (d : Nat) : ∀ (k i : Nat) (out : List ByteArray) (b : Bool), i ≤ x0.length → x0.length - i = d → d < k → (∀ s ∈ out, s.size ≤ K) → out.length ≤ i + (if b = true then 1 else 0) →
    ∃ r, spec_l2Put.l0 k x0 x1 out b (i : Int) = some r ∧ r.length ≤ x0.length + 1 ∧ ∀ s ∈ r, s.size ≤ K := by
  have hcons : ∀ (l : List ByteArray) (y : ByteArray), (∀ s ∈ l, s.size ≤ K) → y.size ≤ K → ∀ s ∈ l ++ [y], s.size ≤ K := fun l y hl hy s hs => by
    rcases List.mem_append.1 hs with h | h
    · exact hl s h
    · simp at h; subst h; exact hy
  induction d with
  | zero =>
    intro k i out b hi hd hk ho hl
    obtain ⟨k, rfl⟩ := fuel hk
    simp only [spec_l2Put.l0]; rw [if_neg (by omega)]
    cases b
    · simp at hl
      rw [if_neg (by simp), if_pos (by omega)]
      exact ⟨_, rfl, by simp; omega, hcons _ _ ho h1⟩
    · simp at hl
      rw [if_pos rfl]
      exact ⟨_, rfl, by omega, ho⟩
  | succ d ih =>
    intro k i out b hi hd hk ho hl
    obtain ⟨k, rfl⟩ := fuel hk
    have hy : (rdOf ByteArray.empty x0 (i : Int)).size ≤ K := h0 _ (rdOf_mem ByteArray.empty x0 (i : Int) (by omega) (by omega))
    simp only [spec_l2Put.l0]; rw [if_pos (by omega), if_pos (by omega), w64 (by omega) (by omega)]
    generalize rdOf ByteArray.empty x0 (i : Int) = y at *
    split
    · exact ⟨_, rfl, by omega, h0⟩
    · cases b
      · simp only [Bool.false_eq_true, if_false] at hl ⊢
        split
        · rw [if_pos (by omega)]; simp only [Option.bind_some]
          rw [if_pos (by simp; omega)]
          exact ih k (i + 1) _ true (by omega) (by omega) (by omega) (hcons _ _ (hcons _ _ ho h1) hy) (by simp; omega)
        · rw [if_pos (by omega)]
          exact ih k (i + 1) _ false (by omega) (by omega) (by omega) (hcons _ _ ho hy) (by simp; omega)
      · simp only [if_true] at hl ⊢
        rw [if_pos (by omega)]
        exact ih k (i + 1) _ true (by omega) (by omega) (by omega) (hcons _ _ ho hy) (by simp; omega)
theorem put_f (K : Nat) (x0 : List ByteArray) (x1 : ByteArray) (h0 : ∀ s ∈ x0, s.size ≤ K) (h1 : x1.size ≤ K) (hn : x0.length ≤ 1000) (k : Nat) (hk : 1000 < k) : ∃ r, spec_l2Put.f k x0 x1 = some r ∧ r.length ≤ x0.length + 1 ∧ ∀ s ∈ r, s.size ≤ K :=
  put_l K x0 x1 h0 h1 hn x0.length k 0 [] false (by omega) (by omega) (by omega) (by simp) (by simp)
theorem keys_l (z : List Int) (hz : byteL z) (d : Nat) (hd : d ≤ 100) : ∀ (k : Nat) (l : List ByteArray) (c : Int), d + 2000 < k → 0 ≤ c → c + 10 * d ≤ 800000000 → (∀ s ∈ l, s.size ≤ 5) → l.length + d ≤ 1000 →
    ∃ r c', spec_l71Keys.l0 k l (d : Int) z c = some (r, c') ∧ r.length ≤ l.length + d ∧ (∀ s ∈ r, s.size ≤ 5) ∧ c ≤ c' ∧ c' ≤ c + 10 * d := by
  induction d with
  | zero =>
    intro k l c hk hc hc2 hl hn
    obtain ⟨k, rfl⟩ := fuel (show 0 < k by omega)
    exact ⟨l, c, by simp only [spec_l71Keys.l0]; rw [if_neg (by omega)], by omega, hl, by omega, by omega⟩
  | succ d ih =>
    intro k l c hk hc hc2 hl hn
    obtain ⟨k, rfl⟩ := fuel (show 0 < k by omega)
    simp only [spec_l71Keys.l0]
    rw [if_pos (by omega)]
    obtain ⟨s, c1, h, a1, a2, a3⟩ := near_f z hz c l 5 (by omega) (by omega) hl (by omega) hc (by omega) k (by omega)
    rw [h]; simp only [Option.bind_some]
    obtain ⟨q, h', b1, b2⟩ := put_f 5 l s hl a1 (by omega) k (by omega)
    rw [h']; simp only [Option.bind_some]
    rw [w64 (by omega) (by omega)]
    obtain ⟨r, c', h'', d1, d2, d3, d4⟩ := ih (by omega) k q c1 (by omega) (by omega) (by omega) b2 (by omega)
    refine ⟨r, c', ?_, by omega, d2, by omega, by omega⟩
    rw [show ((d + 1 : Nat) : Int) - 1 = (d : Int) by omega]; exact h''
theorem keys_f (z : List Int) (hz : byteL z) (c n : Int) (hn : 0 ≤ n) (hn2 : n ≤ 50) (hc : 0 ≤ c) (hc2 : c ≤ 700000000) (k : Nat) (hk : 3000 < k) : ∃ r c', spec_l71Keys.f k z c n = some (r, c') ∧ r.length ≤ 50 ∧ (∀ s ∈ r, s.size ≤ 5) ∧ c ≤ c' ∧ c' ≤ c + 510 := by
  unfold spec_l71Keys.f
  rw [w64 (by omega) (by omega)]
  obtain ⟨v, h, h0, h1⟩ := pick_f z hz c (n + 1) hc (by omega) k (by omega)
  have h2 := h1 (by omega)
  rw [h]; simp only [Option.bind_some]
  obtain ⟨m, rfl⟩ := Int.eq_ofNat_of_zero_le h0
  obtain ⟨r, c', h, a1, a2, a3, a4⟩ := keys_l z hz m (by omega) k [] (c + 1) (by omega) (by omega) (by omega) (by simp) (by simp; omega)
  exact ⟨r, c', h, by simp at a1; omega, a2, by omega, by omega⟩

/-! #### join -/
theorem specJoin_l (xa xb : List S27) (ha : xa.length ≤ 2000000) (hb : xb.length ≤ 2000000) (d : Nat) :
    (∀ (k i j : Nat) (out : List S27), i ≤ xa.length → j < xb.length → (xa.length - i) + (xb.length - j) = d → 2 * d + 2 < k → out.length ≤ i + j → spec_l11Join.l1 k xa xb out (i : Int) (j : Int) = some (out ++ List.merge (xa.drop i) (xb.drop j) aheadB)) ∧
    (∀ (k i j : Nat) (out : List S27), i ≤ xa.length → j ≤ xb.length → (xa.length - i) + (xb.length - j) = d → 2 * d + 3 < k → out.length ≤ i + j → spec_l11Join.l0 k xa xb out (i : Int) (j : Int) = some (out ++ List.merge (xa.drop i) (xb.drop j) aheadB)) := by
  induction d with
  | zero =>
    refine ⟨fun k i j out h1 h2 hd hk ho => by omega, fun k i j out h1 h2 hd hk ho => ?_⟩
    obtain ⟨k, rfl⟩ := fuel (show 0 < k by omega)
    simp only [spec_l11Join.l0]; rw [if_neg (by omega), if_pos (by omega), if_pos (by omega)]
    simp only [Option.bind_some]
    rw [if_pos (by simp; omega), List.drop_of_length_le (l := xb) (by omega), List.merge_right]
    simp
  | succ d ih =>
    have one : ∀ (k i j : Nat) (out : List S27), i ≤ xa.length → j < xb.length → (xa.length - i) + (xb.length - j) = d + 1 → 2 * (d + 1) + 2 < k → out.length ≤ i + j → spec_l11Join.l1 k xa xb out (i : Int) (j : Int) = some (out ++ List.merge (xa.drop i) (xb.drop j) aheadB) := by
      intro k i j out h1 h2 hd hk ho
      obtain ⟨k, rfl⟩ := fuel (show 0 < k by omega)
      simp only [spec_l11Join.l1]
      have hB := List.drop_eq_getElem_cons h2
      by_cases c : i < xa.length
      · rw [if_pos (by omega), if_pos (by omega), if_pos (by omega), if_pos (by omega), specAhead_f, rdE xa i c, rdE xb j h2, w64 (x := (i : Int) + 1) (by omega) (by omega), w64 (x := (j : Int) + 1) (by omega) (by omega)]
        simp only [Option.bind_some]
        have hA := List.drop_eq_getElem_cons c
        have e1 := ih.1 k (i + 1) j (out ++ [xa[i]]) (by omega) h2 (by omega) (by omega) (by simp; omega)
        have e2 := ih.2 k i (j + 1) (out ++ [xb[j]]) (by omega) (by omega) (by omega) (by omega) (by simp; omega)
        rw [hA, hB, List.cons_merge_cons]
        rw [hB] at e1
        rw [hA] at e2
        cases aheadB xa[i] xb[j]
        · simp only [Bool.false_eq_true, if_false]
          rw [if_pos (by omega)]
          simpa [List.append_assoc] using e2
        · simp only [if_true]
          rw [if_pos (by omega)]
          simpa [List.append_assoc] using e1
      · rw [if_neg (by omega), if_pos (by omega), if_pos (by omega), if_pos (by omega), rdE xb j h2, w64 (x := (j : Int) + 1) (by omega) (by omega)]
        have e2 := ih.2 k i (j + 1) (out ++ [xb[j]]) (by omega) (by omega) (by omega) (by omega) (by simp; omega)
        rw [List.drop_of_length_le (l := xa) (by omega), List.nil_merge] at *
        rw [hB]
        simpa [List.append_assoc] using e2
    refine ⟨one, fun k i j out h1 h2 hd hk ho => ?_⟩
    obtain ⟨k, rfl⟩ := fuel (show 0 < k by omega)
    simp only [spec_l11Join.l0]
    by_cases c : j < xb.length
    · rw [if_pos (by omega)]; exact one k i j out h1 c hd (by omega) ho
    · rw [if_neg (by omega), if_pos (by omega), if_pos (by omega)]
      simp only [Option.bind_some]
      rw [if_pos (by simp; omega), List.drop_of_length_le (l := xb) (by omega), List.merge_right]
      simp
theorem specJoin_f (xa xb : List S27) (ha : xa.length ≤ 2000000) (hb : xb.length ≤ 2000000) (k : Nat) (hk : 8000010 < k) : spec_l11Join.f k xa xb = some (List.merge xa xb aheadB) := by
  have := (specJoin_l xa xb ha hb _).2 k 0 0 [] (by omega) (by omega) rfl (by omega) (by simp)
  unfold spec_l11Join.f
  simpa using this

/-! #### drawRun: the runs that the laws draw -/
theorem runL_get (xs : List S27) (d : Nat) : ∀ i, runL xs d i = true → (∀ j, i ≤ j → j < i + d → stepB xs j = true) ∧ xs.length ≤ 40 := by
  induction d with
  | zero => intro i h; simp [runL] at h; exact ⟨fun j a b => by omega, by omega⟩
  | succ d ih =>
    intro i h
    simp only [runL, Bool.and_eq_true] at h
    obtain ⟨h1, h2⟩ := h
    obtain ⟨a, b⟩ := ih (i + 1) h2
    refine ⟨fun j c1 c2 => ?_, b⟩
    by_cases e : j = i
    · subst e; exact h1
    · exact a j (by omega) (by omega)
theorem keyL_size (a : ByteArray) (d : Nat) : ∀ i, keyL a d i = true → a.size ≤ 5 := by
  induction d with
  | zero => intro i h; simp [keyL] at h; omega
  | succ d ih => intro i h; simp only [keyL, Bool.and_eq_true] at h; exact ih _ h.2
theorem runB_len {xs : List S27} (h : runB xs = true) : xs.length ≤ 40 := (runL_get xs xs.length 0 h).2
theorem runB_step {xs : List S27} (h : runB xs = true) (j : Nat) (hj : j < xs.length) : stepB xs j = true := (runL_get xs xs.length 0 h).1 j (by omega) (by omega)
theorem runB_entry {xs : List S27} (h : runB xs = true) : ∀ x ∈ xs, entryB x = true := by
  intro x hx
  obtain ⟨j, hj, rfl⟩ := List.mem_iff_getElem.1 hx
  have := runB_step h j hj
  simp only [stepB, Bool.and_eq_true] at this
  rw [rdE xs j hj] at this
  exact this.1
theorem runB_size {xs : List S27} (h : runB xs = true) : ∀ x ∈ xs, x.f0.size ≤ 5 := by
  intro x hx
  have := runB_entry h x hx
  simp only [entryB, Bool.and_eq_true, keyB] at this
  exact keyL_size _ _ _ this.1
theorem run_l (z : List Int) (hz : byteL z) (keys : List ByteArray) (hk1 : ∀ s ∈ keys, s.size ≤ 5) (hk2 : keys.length ≤ 50) (d : Nat) (hd : d ≤ 50) : ∀ (k : Nat) (xs : List S27) (c : Int), 2 * d + 9000000 < k → 0 ≤ c → c + 20 * d ≤ 600000000 → runB xs = true →
    ∃ r c', spec_l71Run.l0 k keys xs (d : Int) z c = some (r, c') ∧ runB r = true ∧ c ≤ c' ∧ c' ≤ c + 20 * d := by
  induction d with
  | zero =>
    intro k xs c hk hc hc2 hx
    obtain ⟨k, rfl⟩ := fuel (show 0 < k by omega)
    exact ⟨xs, c, by simp only [spec_l71Run.l0]; rw [if_neg (by omega)], hx, by omega, by omega⟩
  | succ d ih =>
    intro k xs c hk hc hc2 hx
    obtain ⟨k, rfl⟩ := fuel (show 0 < k by omega)
    have hxl := runB_len hx
    have hxs := runB_size hx
    simp only [spec_l71Run.l0]
    rw [if_pos (by omega)]
    obtain ⟨s, c1, h, a1, a2, a3⟩ := near_f z hz c keys 5 (by omega) (by omega) hk1 (by omega) hc (by omega) k (by omega)
    rw [h]; simp only [Option.bind_some]
    obtain ⟨v1, h, b1, b2⟩ := pick_f z hz c1 100 (by omega) (by omega) k (by omega)
    rw [h]; simp only [Option.bind_some]
    obtain ⟨v2, h, b3, b4⟩ := pick_f z hz (c1 + 1) 60 (by omega) (by omega) k (by omega)
    rw [h]; simp only [Option.bind_some]
    obtain ⟨v3, h, b5, b6⟩ := pick_f z hz (c1 + 1 + 1) 4 (by omega) (by omega) k (by omega)
    rw [h]; simp only [Option.bind_some]
    have fin : ∀ (e : S27), e.f0.size ≤ 5 → ∃ r c', spec_l71Run.j1 k keys xs ((d + 1 : Nat) : Int) z (c1 + 1 + 1 + 1) e.f0 e.f1 e.f2 e.f3 = some (r, c') ∧ runB r = true ∧ c ≤ c' ∧ c' ≤ c + 20 * ((d + 1 : Nat) : Int) := by
      intro e he
      obtain ⟨k, rfl⟩ := fuel (show 0 < k by omega)
      simp only [spec_l71Run.j1]
      have hin : ∀ x ∈ List.merge xs [e] aheadB, x.f0.size ≤ 9223372036854775807 ∧ x.f0.size < 6 := fun x hx => by
        have hm : x ∈ xs ++ [e] := (List.merge_perm_append (xs := xs) (ys := [e]) (le := aheadB)).mem_iff.1 hx
        rcases List.mem_append.1 hm with hm | hm
        · have := hxs x hm; omega
        · simp at hm; subst hm; omega
      have hlen : (List.merge xs [e] aheadB).length = xs.length + 1 := by rw [List.length_merge]; rfl
      rw [show (⟨e.f0, e.f1, e.f2, e.f3⟩ : S27) = e from rfl, specJoin_f xs [e] (by omega) (by simp) k (by omega)]
      simp only [Option.bind_some]
      rw [specRunOk_f _ (by omega) 6 hin k (by omega)]
      simp only [Option.bind_some]
      rw [w64 (by omega) (by omega), show ((d + 1 : Nat) : Int) - 1 = (d : Int) by omega]
      cases hr : runB (List.merge xs [e] aheadB)
      · obtain ⟨r, c', h, g1, g2, g3⟩ := ih (by omega) k xs (c1 + 1 + 1 + 1) (by omega) (by omega) (by omega) hx
        exact ⟨r, c', by simpa using h, g1, by omega, by omega⟩
      · obtain ⟨r, c', h, g1, g2, g3⟩ := ih (by omega) k _ (c1 + 1 + 1 + 1) (by omega) (by omega) (by omega) hr
        exact ⟨r, c', by simpa using h, g1, by omega, by omega⟩
    split
    · exact fin ⟨s, 0, true, wrap64 (1 + v2)⟩ a1
    · exact fin ⟨s, v1, false, wrap64 (1 + v2)⟩ a1
theorem run_f (z : List Int) (hz : byteL z) (c n : Int) (hn : 0 ≤ n) (hn2 : n ≤ 49) (hc : 0 ≤ c) (hc2 : c ≤ 500000000) (k : Nat) (hk : 10000000 < k) : ∃ r c', spec_l71Run.f k z c n = some (r, c') ∧ runB r = true ∧ c ≤ c' ∧ c' ≤ c + 2000 := by
  unfold spec_l71Run.f
  obtain ⟨ks, c1, h, a1, a2, a3, a4⟩ := keys_f z hz c 5 (by omega) (by omega) hc (by omega) k (by omega)
  rw [h]; simp only [Option.bind_some]
  rw [w64 (by omega) (by omega)]
  obtain ⟨v, h, b1, b2⟩ := pick_f z hz c1 (n + 1) (by omega) (by omega) k (by omega)
  have b2 := b2 (by omega)
  rw [h]; simp only [Option.bind_some]
  obtain ⟨m, rfl⟩ := Int.eq_ofNat_of_zero_le b1
  obtain ⟨r, c', h, g1, g2, g3⟩ := run_l z hz ks a2 a1 m (by omega) k [] (c1 + 1) (by omega) (by omega) (by omega) (by rfl)
  exact ⟨r, c', h, g1, by omega, by omega⟩
theorem off_f (z : List Int) (hz : byteL z) (c : Int) (hc : 0 ≤ c) (hc2 : c ≤ 400000000) (k : Nat) (hk : 10000000 < k) : ∃ r c', spec_l71Off.f k z c = some (r, c') ∧ r.length ≤ 41 ∧ (∀ x ∈ r, x.f0.size ≤ 6) ∧ c ≤ c' ∧ c' ≤ c + 2010 := by
  unfold spec_l71Off.f
  obtain ⟨r, c1, h, a1, a2, a3⟩ := run_f z hz c 10 (by omega) (by omega) hc (by omega) k hk
  have hl := runB_len a1
  have hs := runB_size a1
  have happ : ∀ e : S27, e.f0.size ≤ 6 → (r ++ [e]).length ≤ 41 ∧ ∀ x ∈ r ++ [e], x.f0.size ≤ 6 := fun e he => ⟨by simp; omega, fun x hx => by
    rcases List.mem_append.1 hx with hx | hx
    · have := hs x hx; omega
    · simp at hx; subst hx; exact he⟩
  rw [h]; simp only [Option.bind_some]
  obtain ⟨v, h, b1, b2⟩ := pick_f z hz c1 12 (by omega) (by omega) k (by omega)
  rw [h]; simp only [Option.bind_some]
  by_cases e : v > 0
  · rw [if_pos e]; exact ⟨_, _, rfl, by omega, fun x hx => by have := hs x hx; omega, by omega, by omega⟩
  rw [if_neg e]
  obtain ⟨v2, h, b3, b4⟩ := pick_f z hz (c1 + 1) 5 (by omega) (by omega) k (by omega)
  rw [h]; simp only [Option.bind_some]
  by_cases e0 : v2 = 0
  · rw [if_pos e0, if_pos (by omega)]
    exact ⟨_, _, rfl, (happ _ (by decide)).1, (happ _ (by decide)).2, by omega, by omega⟩
  rw [if_neg e0]
  by_cases e1 : v2 = 1
  · rw [if_pos e1, if_pos (by omega)]
    exact ⟨_, _, rfl, (happ _ (by decide)).1, (happ _ (by decide)).2, by omega, by omega⟩
  rw [if_neg e1]
  by_cases e2 : v2 = 2
  · rw [if_pos e2, if_pos (by omega)]
    exact ⟨_, _, rfl, (happ _ (by decide)).1, (happ _ (by decide)).2, by omega, by omega⟩
  rw [if_neg e2]
  by_cases e3 : v2 = 3
  · rw [if_pos e3]
    obtain ⟨v4, h, b5, b6⟩ := pick_f z hz (c1 + 1 + 1) 2 (by omega) (by omega) k (by omega)
    rw [h]; simp only [Option.bind_some]
    rw [if_pos b5, if_pos (by simp; omega), if_pos (by omega)]
    have hq : (⟨#[100, 100, 100, 100, 100]⟩ : ByteArray).size ≤ 6 := by decide
    exact ⟨_, _, rfl, (happ _ hq).1, (happ _ hq).2, by omega, by omega⟩
  · rw [if_neg e3, if_pos (by omega)]
    exact ⟨_, _, rfl, (happ _ (by decide)).1, (happ _ (by decide)).2, by omega, by omega⟩
theorem open_f (l : List Int) (hl : ∀ x ∈ l, 0 ≤ x ∧ x ≤ 255) : ∃ z, spec_l6Open.f l = some (z, 0) ∧ byteL z := by
  unfold spec_l6Open.f
  by_cases h : (l.length : Int) > 2000
  · rw [if_pos h, if_pos (by omega)]
    exact ⟨_, rfl, by simp; omega, fun x hx => hl x (List.mem_of_mem_take hx)⟩
  · rw [if_neg h]; exact ⟨_, rfl, by omega, hl⟩

/-! #### runKeys -/
def keysL (xs : List S27) : Nat → Nat → List ByteArray → List ByteArray
  | 0, _, out => out
  | d + 1, i, out => if i = 0 then keysL xs d (i + 1) (out ++ [(rd_T27 xs (i : Int)).f0]) else if (rd_T27 xs ((i : Int) - 1)).f0.toList = (rd_T27 xs (i : Int)).f0.toList then keysL xs d (i + 1) out else keysL xs d (i + 1) (out ++ [(rd_T27 xs (i : Int)).f0])
theorem keysL_len (xs : List S27) (d : Nat) : ∀ (i : Nat) (out : List ByteArray), (keysL xs d i out).length ≤ out.length + d := by
  induction d with
  | zero => intro i out; simp [keysL]
  | succ d ih =>
    intro i out
    simp only [keysL]
    split
    · have := ih (i + 1) (out ++ [(rd_T27 xs (i : Int)).f0]); simp at this; omega
    · split
      · have := ih (i + 1) out; omega
      · have := ih (i + 1) (out ++ [(rd_T27 xs (i : Int)).f0]); simp at this; omega
theorem specKeys_l (xs : List S27) (hn : xs.length ≤ 1048576) (d : Nat) : ∀ (k i : Nat) (out : List ByteArray), i ≤ xs.length → xs.length - i = d → d < k → out.length ≤ i → spec_l11Keys.l0 k xs out (i : Int) = some (keysL xs d i out) := by
  induction d with
  | zero =>
    intro k i out h1 hd hk ho
    obtain ⟨k, rfl⟩ := fuel hk
    simp only [spec_l11Keys.l0]; rw [if_neg (by omega)]; rfl
  | succ d ih =>
    intro k i out h1 hd hk ho
    obtain ⟨k, rfl⟩ := fuel hk
    have a1 := ih k (i + 1) (out ++ [(rd_T27 xs (i : Int)).f0]) (by omega) (by omega) (by omega) (by simp; omega)
    have a2 := ih k (i + 1) out (by omega) (by omega) (by omega) (by omega)
    rw [Int.natCast_add] at a1 a2
    simp only [spec_l11Keys.l0, keysL]; rw [if_pos (by omega), w64 (x := (i : Int) + 1) (by omega) (by omega), w64 (x := (i : Int) - 1) (by omega) (by omega)]
    by_cases h0 : i = 0
    · rw [if_pos (show (i : Int) = 0 by omega), if_pos (by omega), if_pos (by omega), if_pos h0]; exact a1
    · rw [if_neg (show ¬ (i : Int) = 0 by omega), if_pos (by omega), if_pos (by omega), if_pos (by omega), if_neg h0]
      split
      · exact a2
      · rw [if_pos (by omega)]; exact a1

/-! #### keysMem -/
theorem keysL_mem (xs : List S27) (d : Nat) : ∀ (i : Nat) (out : List ByteArray), i + d ≤ xs.length → ∀ s ∈ keysL xs d i out, s ∈ out ∨ ∃ x ∈ xs, s = x.f0 := by
  induction d with
  | zero => intro i out _ s hs; exact .inl hs
  | succ d ih =>
    intro i out hd s hs
    have hx : ∃ x ∈ xs, (rd_T27 xs (i : Int)).f0 = x.f0 := ⟨xs[i]'(by omega), List.getElem_mem _, by rw [rdE xs i (by omega)]⟩
    have two : s ∈ keysL xs d (i + 1) (out ++ [(rd_T27 xs (i : Int)).f0]) → s ∈ out ∨ ∃ x ∈ xs, s = x.f0 := fun h => by
      rcases ih _ _ (by omega) s h with h | h
      · rcases List.mem_append.1 h with h | h
        · exact .inl h
        · simp at h; obtain ⟨x, h1, h2⟩ := hx; exact .inr ⟨x, h1, h.trans h2⟩
      · exact .inr h
    simp only [keysL] at hs
    split at hs
    · exact two hs
    · split at hs
      · exact ih _ _ (by omega) s hs
      · exact two hs

/-! #### order: a run is in order -/
theorem ahead_iff (a b : S27) : aheadB a b = true ↔ (a.f0.toList < b.f0.toList ∨ (a.f0.toList = b.f0.toList ∧ b.f3 < a.f3)) := by
  unfold aheadB
  rw [Go.Proofs.bytesLess_eq]
  simp
theorem ahead_trans {a b c : S27} (h : aheadB a b = true) (h' : aheadB b c = true) : aheadB a c = true := by
  rw [ahead_iff] at *
  rcases h with h | ⟨h, g⟩ <;> rcases h' with h' | ⟨h', g'⟩
  · exact .inl (List.lt_trans h h')
  · exact .inl (h' ▸ h)
  · exact .inl (h ▸ h')
  · exact .inr ⟨h.trans h', by omega⟩
theorem ahead_time {a b : S27} (h : aheadB a b = true) (e : a.f0.toList = b.f0.toList) : b.f3 < a.f3 := by
  rw [ahead_iff] at h
  rcases h with h | ⟨_, h⟩
  · rw [e] at h; exact absurd h (List.lt_irrefl _)
  · exact h
theorem run_next {xs : List S27} (h : runB xs = true) (i : Nat) (hi : i + 1 < xs.length) : aheadB xs[i] xs[i + 1] = true := by
  have := runB_step h (i + 1) hi
  simp only [stepB, Bool.and_eq_true, Bool.or_eq_true] at this
  rcases this.2 with h | h
  · simp at h
  · rw [show ((i + 1 : Nat) : Int) - 1 = (i : Int) by omega, rdE xs i (by omega), rdE xs (i + 1) hi] at h
    exact h
theorem run_pw {xs : List S27} (h : runB xs = true) : xs.Pairwise (fun a b => aheadB a b = true) := by
  rw [List.pairwise_iff_getElem]
  intro i j hi hj hij
  obtain ⟨d, rfl⟩ : ∃ d, j = i + 1 + d := ⟨j - i - 1, by omega⟩
  induction d with
  | zero => exact run_next h i hj
  | succ d ih => exact ahead_trans (ih (by omega) (by omega)) (run_next h (i + 1 + d) hj)
theorem find_max {xs : List S27} (h : runB xs = true) {q : ByteArray} {t : Int} {e : S27} (he : xs.find? (hitA q t) = some e) : e ∈ xs ∧ e.f0.toList = q.toList ∧ e.f3 ≤ t ∧ ∀ y ∈ xs, y.f0.toList = q.toList → y.f3 ≤ t → y.f3 ≤ e.f3 := by
  obtain ⟨hp, l1, l2, rfl, hn⟩ := List.find?_eq_some_iff_append.1 he
  have hh : e.f0.toList = q.toList ∧ e.f3 ≤ t := by simpa [hitA] using hp
  refine ⟨by simp, hh.1, hh.2, fun y hy hk ht => ?_⟩
  have hpw := run_pw h
  rw [List.pairwise_append] at hpw
  rcases List.mem_append.1 hy with hy | hy
  · have := hn y hy; simp [hitA, hk, ht] at this
  · rcases List.mem_cons.1 hy with rfl | hy
    · omega
    · have := ahead_time ((List.pairwise_cons.1 hpw.2.1).1 y hy) (hh.1.trans hk.symm); omega

/-! #### order2 -/
theorem run_uniq {xs : List S27} (h : runB xs = true) {x y : S27} (hx : x ∈ xs) (hy : y ∈ xs) (hk : x.f0.toList = y.f0.toList) (ht : x.f3 = y.f3) : x = y := by
  have hp := List.pairwise_iff_getElem.1 (run_pw h)
  obtain ⟨i, hi, rfl⟩ := List.mem_iff_getElem.1 hx
  obtain ⟨j, hj, rfl⟩ := List.mem_iff_getElem.1 hy
  by_cases c : i = j
  · subst c; rfl
  · rcases Nat.lt_or_gt_of_ne c with c | c
    · have := ahead_time (hp i j hi hj c) hk; omega
    · have := ahead_time (hp j i hj hi c) hk.symm; omega
theorem run_time {xs : List S27} (h : runB xs = true) {x : S27} (hx : x ∈ xs) : 1 ≤ x.f3 ∧ x.f3 ≤ 999 := by
  have := runB_entry h x hx
  simp only [entryB, Bool.and_eq_true] at this
  have := this.2.2
  split at this
  · simp only [Bool.and_eq_true, inB, decide_eq_true_eq] at this; exact this.2
  · simpa [inB] using this
theorem find_some {xs : List S27} {q : ByteArray} {t : Int} {e : S27} (hx : e ∈ xs) (hk : e.f0.toList = q.toList) (ht : e.f3 ≤ t) : ∃ e', xs.find? (hitA q t) = some e' := by
  cases h : xs.find? (hitA q t) with
  | some e' => exact ⟨e', rfl⟩
  | none => exact absurd (by simp [hitA, hk, ht]) (List.find?_eq_none.1 h e hx)

/-! #### drawRunAt -/
theorem drawRunAt_f (l : List Int) (hl : ∀ x ∈ l, 0 ≤ x ∧ x ≤ 255) (k : Nat) (hk : 10000000 < k) : ∃ r q t, spec_DrawRunAt.f k l = some (r, q, t) ∧ r.length ≤ 41 ∧ (∀ x ∈ r, x.f0.size ≤ 6) ∧ q.size ≤ 6 ∧ 0 ≤ t ∧ t < 70 := by
  unfold spec_DrawRunAt.f
  obtain ⟨z, h, hz⟩ := open_f l hl
  rw [h]; simp only [Option.bind_some]
  obtain ⟨r, c, h, a1, a2, a3, a4⟩ := off_f z hz 0 (by omega) (by omega) k hk
  rw [h]; simp only [Option.bind_some]
  have hks := specKeys_l r (by omega) r.length k 0 [] (by omega) (by omega) (by omega) (by simp)
  have hkl := keysL_len r r.length 0 []
  have hkm := keysL_mem r r.length 0 [] (by omega)
  unfold spec_l11Keys.f
  rw [show (0 : Int) = ((0 : Nat) : Int) from rfl, hks]; simp only [Option.bind_some]
  obtain ⟨q, c', h, b1, b2, b3⟩ := near_f z hz c (keysL r r.length 0 []) 6 (by omega) (by omega) (fun s hs => by
    rcases hkm s hs with h | ⟨x, hx, rfl⟩
    · simp at h
    · exact a2 x hx) (by simp at hkl; omega) (by omega) (by omega) k (by omega)
  rw [h]; simp only [Option.bind_some]
  obtain ⟨v, h, d1, d2⟩ := pick_f z hz c' 70 (by omega) (by omega) k (by omega)
  rw [h]; simp only [Option.bind_some]
  exact ⟨_, _, _, rfl, a1, a2, b1, d1, d2 (by omega)⟩

/-! #### ltRuns -/
theorem ltRuns_l (xs : List S27) (hn : xs.length ≤ 9223372036854775806) (d : Nat) : ∀ (k i : Nat), i ≤ xs.length → xs.length - i = d → d < k → laws_ltRuns.l0 k xs xs (i : Int) = some true := by
  induction d with
  | zero =>
    intro k i h1 hd hk
    obtain ⟨k, rfl⟩ := fuel hk
    simp only [laws_ltRuns.l0]; rw [if_neg (by omega)]
  | succ d ih =>
    intro k i h1 hd hk
    obtain ⟨k, rfl⟩ := fuel hk
    simp only [laws_ltRuns.l0]; rw [if_pos (by omega), if_pos (by omega), if_pos (by omega), if_neg (by simp), w64 (by omega) (by omega)]
    exact ih k (i + 1) (by omega) (by omega) (by omega)
theorem ltRuns_f (xs : List S27) (hn : xs.length ≤ 9223372036854775806) (k : Nat) (hk : xs.length < k) : laws_ltRuns.f k xs xs = some true := by
  unfold laws_ltRuns.f
  rw [if_pos rfl]
  exact ltRuns_l xs hn xs.length k 0 (by omega) (by omega) hk

/-! #### sort: the program's stable sort of entries -/
abbrev LeE (x y : S27) : Prop := aheadB y x = false
abbrev Sd (l : List S27) : Prop := l.Pairwise LeE
theorem key_tri (a b : List UInt8) : a < b ∨ a = b ∨ b < a := by
  by_cases h : a < b
  · exact .inl h
  · by_cases h' : b < a
    · exact .inr (.inr h')
    · exact .inr (.inl (List.le_antisymm (List.not_lt.1 h') (List.not_lt.1 h)))
theorem ahead_irr (a : S27) : aheadB a a = false := by
  cases h : aheadB a a
  · rfl
  · rw [ahead_iff] at h
    rcases h with h | ⟨_, h⟩
    · exact absurd h (List.lt_irrefl _)
    · omega
theorem ahead_asym {a b : S27} (h : aheadB a b = true) : aheadB b a = false := by
  cases h' : aheadB b a
  · rfl
  · have := ahead_trans h h'; rw [ahead_irr] at this; cases this
theorem leE_trans {a b c : S27} (h : LeE a b) (h' : LeE b c) : LeE a c := by
  cases g : aheadB c a
  · exact g
  · exfalso
    have nb : ¬ aheadB b a = true := by rw [h]; simp
    have nc : ¬ aheadB c b = true := by rw [h']; simp
    rw [ahead_iff] at g nb nc
    have irr : ∀ {x : List UInt8}, ¬ x < x := fun {x} => List.lt_irrefl x
    rcases key_tri c.f0.toList b.f0.toList with h1 | h1 | h1
    · exact nc (.inl h1)
    · rcases key_tri b.f0.toList a.f0.toList with h2 | h2 | h2
      · exact nb (.inl h2)
      · rcases g with g | ⟨_, g⟩
        · rw [h1, h2] at g; exact irr g
        · have : ¬ a.f3 < b.f3 := fun x => nb (.inr ⟨h2, x⟩)
          have : ¬ b.f3 < c.f3 := fun x => nc (.inr ⟨h1, x⟩)
          omega
      · rcases g with g | ⟨g, _⟩
        · rw [h1] at g; exact irr (List.lt_trans g h2)
        · rw [← h1, g] at h2; exact irr h2
    · rcases key_tri b.f0.toList a.f0.toList with h2 | h2 | h2
      · exact nb (.inl h2)
      · rw [h2] at h1
        rcases g with g | ⟨g, _⟩
        · exact irr (List.lt_trans g h1)
        · rw [g] at h1; exact irr h1
      · have h3 := List.lt_trans h2 h1
        rcases g with g | ⟨g, _⟩
        · exact irr (List.lt_trans g h3)
        · rw [g] at h3; exact irr h3
def cmpF (a b : S27) : Int := if aheadB a b = true then -1 else if aheadB b a = true then 1 else 0
theorem cmp_f (a b : S27) : impl_RunJoin1x.f a.f0 a.f1 a.f2 a.f3 b.f0 b.f1 b.f2 b.f3 = some (cmpF a b) := by
  unfold impl_RunJoin1x.f cmpF
  rw [implBefore_f, implBefore_f]
  simp only [Option.bind_some]
  cases aheadB a b <;> cases aheadB b a <;> rfl
theorem cmpF_neg (a b : S27) : cmpF a b < 0 ↔ aheadB a b = true := by
  unfold cmpF
  cases aheadB a b <;> cases aheadB b a <;> simp
theorem rd_mid (P Q : List S27) (p : S27) (n : Nat) (h : n = P.length) : rd_T27 (P ++ p :: Q) (n : Int) = p := by
  subst h; rw [rdE _ _ (by simp)]; simp
theorem set_mid (P Q : List S27) (p v : S27) (n : Nat) (h : n = P.length) : (P ++ p :: Q).set n v = P ++ v :: Q := by
  subst h; simp
theorem swap_mid (P M Q : List S27) (p q : S27) (i j : Nat) (hi : i = P.length) (hj : j = P.length + 1 + M.length) : ((P ++ p :: (M ++ q :: Q)).set i q).set j p = P ++ q :: (M ++ p :: Q) := by
  rw [set_mid _ _ _ _ i hi, show P ++ q :: (M ++ q :: Q) = (P ++ q :: M) ++ q :: Q by simp, set_mid _ _ _ _ j (by simp; omega)]; simp
theorem swap_mid2 (P M Q : List S27) (p q : S27) (i j : Nat) (hi : i = P.length) (hj : j = P.length + 1 + M.length) : ((P ++ p :: (M ++ q :: Q)).set j p).set i q = P ++ q :: (M ++ p :: Q) := by
  rw [show P ++ p :: (M ++ q :: Q) = (P ++ p :: M) ++ q :: Q by simp, set_mid _ _ _ _ j (by simp; omega), show (P ++ p :: M) ++ p :: Q = P ++ p :: (M ++ p :: Q) by simp, set_mid _ _ _ _ i hi]
theorem wadd {a i n : Nat} (h : a + i = n) (hn : n ≤ 1000000) : wrap64 ((a : Int) + (i : Int)) = (n : Int) := by rw [w64 (by omega) (by omega)]; omega
theorem wsub {a i n : Nat} (h : n + i = a) (hn : a ≤ 1000000) : wrap64 ((a : Int) - (i : Int)) = (n : Int) := by rw [w64 (by omega) (by omega)]; omega
theorem wsucc {a : Nat} (hn : a ≤ 1000000) : wrap64 ((a : Int) + 1) = ((a + 1 : Nat) : Int) := by rw [w64 (by omega) (by omega)]; omega
theorem wpred {a n : Nat} (h : n + 1 = a) (hn : a ≤ 1000000) : wrap64 ((a : Int) - 1) = (n : Int) := by rw [w64 (by omega) (by omega)]; omega
theorem ltI {a b : Nat} (h : a < b) : (a : Int) < (b : Int) := Int.ofNat_lt.2 h
theorem half_w (i j : Nat) (h : i + j ≤ 1000000) : wrap64 ((IntKind.u64.wrap (wrap64 ((i : Int) + (j : Int)))) / 2) = (((i + j) / 2 : Nat) : Int) := by
  rw [w64 (x := (i : Int) + (j : Int)) (by omega) (by omega)]
  have : IntKind.u64.wrap ((i : Int) + (j : Int)) = (i : Int) + (j : Int) := by simp [IntKind.wrap, IntKind.bits, IntKind.signed]; omega
  rw [this, w64 (by omega) (by omega)]; omega
def rI (y : S27) : List S27 → List S27
  | [] => [y]
  | z :: zs => if aheadB y z = true then z :: rI y zs else y :: z :: zs
theorem rI_perm (y : S27) (R : List S27) : (rI y R).Perm (y :: R) := by
  induction R with
  | nil => exact .refl _
  | cons z R ih =>
    simp only [rI]
    split
    · exact (ih.cons z).trans (.swap y z R)
    · exact .refl _
theorem rI_len (y : S27) (R : List S27) : (rI y R).length = R.length + 1 := by simpa using (rI_perm y R).length_eq
theorem rI_sorted (y : S27) (R : List S27) (h : R.Pairwise fun a b => LeE b a) : (rI y R).Pairwise fun a b => LeE b a := by
  induction R with
  | nil => simp [rI]
  | cons z R ih =>
    obtain ⟨h1, h2⟩ := List.pairwise_cons.1 h
    simp only [rI]
    split
    · rename_i c
      refine List.pairwise_cons.2 ⟨fun w hw => ?_, ih h2⟩
      rcases List.mem_cons.1 ((rI_perm y R).mem_iff.1 hw) with rfl | hw
      · exact ahead_asym c
      · exact h1 w hw
    · rename_i c
      have c : LeE z y := by simpa using c
      refine List.pairwise_cons.2 ⟨fun w hw => ?_, h⟩
      rcases List.mem_cons.1 hw with rfl | hw
      · exact c
      · exact leE_trans (h1 w hw) c
def insAll (R T : List S27) : List S27 := T.foldl (fun R y => rI y R) R
theorem insAll_perm (T : List S27) : ∀ R, (insAll R T).Perm (R ++ T) := by
  induction T with
  | nil => intro R; simp [insAll]
  | cons y T ih =>
    intro R
    have := ih (rI y R)
    refine (show (insAll (rI y R) T).Perm _ from this).trans ?_
    exact ((rI_perm y R).append_right T).trans List.perm_middle.symm
theorem insAll_sorted (T : List S27) : ∀ R, (R.Pairwise fun a b => LeE b a) → (insAll R T).Pairwise fun a b => LeE b a := by
  induction T with
  | nil => intro R h; exact h
  | cons y T ih => intro R h; exact ih _ (rI_sorted y R h)
def isort (R : List S27) : List S27 := (insAll [] R).reverse
theorem isort_perm (R : List S27) : (isort R).Perm R := (List.reverse_perm _).trans (by simpa using insAll_perm R [])
theorem isort_sorted (R : List S27) : Sd (isort R) := List.pairwise_reverse.2 (insAll_sorted R [] .nil)
theorem ins_l1 (A : List S27) (b i : Int) (y : S27) (hA : A.length ≤ 2000) : ∀ (R T : List S27) (k : Nat), R.length ≤ 2000 → R.length + 1 < k → ∃ k', k ≤ k' + R.length + 1 ∧ impl_Entry_70.l1 k (A ++ R.reverse ++ y :: T) (A.length : Int) b i ((A.length + R.length : Nat) : Int) = impl_Entry_70.l0 k' (A ++ (rI y R).reverse ++ T) (A.length : Int) b (wrap64 (i + 1)) := by
  intro R
  induction R with
  | nil =>
    intro T k hR hk
    obtain ⟨k, rfl⟩ := fuel (show 0 < k by omega)
    refine ⟨k, by simp, ?_⟩
    simp only [impl_Entry_70.l1]
    rw [if_neg (by simp)]
    simp [rI]
  | cons z R ih =>
    intro T k hR hk
    obtain ⟨k, rfl⟩ := fuel (show 0 < k by omega)
    simp only [List.length_cons] at hR hk ⊢
    have e : A ++ (z :: R).reverse ++ y :: T = (A ++ R.reverse) ++ z :: ([] ++ y :: T) := by simp
    have len : ((A ++ R.reverse) ++ z :: ([] ++ y :: T)).length = A.length + R.length + 2 + T.length := by simp; omega
    rw [e]
    simp only [impl_Entry_70.l1]
    have r1 : rd_T27 ((A ++ R.reverse) ++ z :: ([] ++ y :: T)) ((A.length + (R.length + 1) : Nat) : Int) = y := by
      rw [show ((A ++ R.reverse) ++ z :: ([] ++ y :: T)) = (A ++ R.reverse ++ [z]) ++ y :: T by simp]
      exact rd_mid _ _ _ _ (by simp [Nat.add_assoc])
    have w1 : wrap64 (((A.length + (R.length + 1) : Nat) : Int) - 1) = ((A.length + R.length : Nat) : Int) := by rw [w64 (by omega) (by omega)]; omega
    have r2 : rd_T27 ((A ++ R.reverse) ++ z :: ([] ++ y :: T)) ((A.length + R.length : Nat) : Int) = z := rd_mid _ _ _ _ (by simp)
    rw [w1, if_pos (by omega), if_pos (by omega), if_pos (by omega), if_pos (by omega), if_pos (by omega), r1, r2, cmp_f]
    simp only [Option.bind_some, Int.toNat_natCast]
    by_cases c : aheadB y z = true
    · rw [if_pos ((cmpF_neg y z).2 c), swap_mid2 (A ++ R.reverse) [] T z y (A.length + R.length) (A.length + (R.length + 1)) (by simp) (by simp; omega)]
      obtain ⟨k', h1, h2⟩ := ih (z :: T) k (by omega) (by omega)
      exact ⟨k', by omega, by rw [show A ++ R.reverse ++ y :: ([] ++ z :: T) = A ++ R.reverse ++ y :: (z :: T) from rfl, h2]; simp [rI, c]⟩
    · rw [if_neg (fun h => c ((cmpF_neg y z).1 h))]
      exact ⟨k, by omega, by simp [rI, c]⟩
theorem ins_l0 (A B : List S27) (hA : A.length ≤ 2000) : ∀ (T R : List S27) (k : Nat), R.length + T.length ≤ 2000 → 3000 * T.length + 10 < k → impl_Entry_70.l0 k (A ++ R.reverse ++ (T ++ B)) (A.length : Int) ((A.length + R.length + T.length : Nat) : Int) ((A.length + R.length : Nat) : Int) = some (A ++ (insAll R T).reverse ++ B) := by
  intro T
  induction T with
  | nil =>
    intro R k hR hk
    obtain ⟨k, rfl⟩ := fuel (show 0 < k by omega)
    simp only [impl_Entry_70.l0]
    rw [if_neg (by simp)]
    simp [insAll]
  | cons y T ih =>
    intro R k hR hk
    obtain ⟨k, rfl⟩ := fuel (show 0 < k by omega)
    simp only [List.length_cons] at hR hk ⊢
    simp only [impl_Entry_70.l0]
    rw [if_pos (by omega)]
    obtain ⟨k', h1, h2⟩ := ins_l1 A ((A.length + R.length + (T.length + 1) : Nat) : Int) ((A.length + R.length : Nat) : Int) y hA R (T ++ B) k (by omega) (by omega)
    rw [show A ++ R.reverse ++ (y :: T ++ B) = A ++ R.reverse ++ y :: (T ++ B) by simp, h2]
    have := ih (rI y R) k' (by rw [rI_len]; omega) (by omega)
    rw [rI_len] at this
    rw [w64 (by omega) (by omega), show ((A.length + R.length : Nat) : Int) + 1 = ((A.length + (R.length + 1) : Nat) : Int) by omega, show A.length + R.length + (T.length + 1) = A.length + (R.length + 1) + T.length by omega]
    exact this
theorem ins_f (A R B : List S27) (hA : A.length ≤ 2000) (hR : R.length ≤ 2000) (k : Nat) (hk : 7000000 < k) (c : Int) : impl_Entry_70.f k (A ++ R ++ B) (A.length : Int) ((A.length + R.length : Nat) : Int) c = some (A ++ isort R ++ B) := by
  unfold impl_Entry_70.f
  cases R with
  | nil =>
    obtain ⟨k, rfl⟩ := fuel (show 0 < k by omega)
    simp only [impl_Entry_70.l0]
    rw [w64 (by omega) (by omega), if_neg (by simp; omega)]
    simp [isort, insAll]
  | cons y R =>
    simp only [List.length_cons] at hR ⊢
    have := ins_l0 A B hA R [y] k (by simp; omega) (by omega)
    rw [w64 (by omega) (by omega), show A ++ y :: R ++ B = A ++ [y].reverse ++ (R ++ B) by simp, show (A.length : Int) + 1 = ((A.length + [y].length : Nat) : Int) by simp, show A.length + (R.length + 1) = A.length + [y].length + R.length by simp; omega]
    exact this
theorem swr_ar {a b n i u v w A k : Nat} (h1 : u + 1 = v + 1) (h2 : A = a + i) (h3 : i + (u + 1) = n) (h4 : A + (u + 1) + w = b + i) (h5 : b + n ≤ 100000) (h6 : a ≤ 100000) (hk : u + 1 + 1 < k + 1) : a + i = A ∧ A ≤ 1000000 ∧ b + i = A + 1 + (u + w) ∧ A + 1 + (u + w) ≤ 1000000 ∧ i ≤ 1000000 ∧ i < n ∧ A + 1 = a + (i + 1) ∧ i + 1 + u = n ∧ A + 1 + u + (w + 1) = b + (i + 1) ∧ u = v ∧ u + 1 < k := by omega
theorem swr_l (a b n : Nat) : ∀ (U V A W B : List S27) (i k : Nat), U.length = V.length → A.length = a + i → i + U.length = n → A.length + U.length + W.length = b + i → b + n ≤ 100000 → a ≤ 100000 → U.length + 1 < k → impl_Entry_73.l0 k (A ++ U ++ W ++ V ++ B) (a : Int) (b : Int) (n : Int) (i : Int) = some (A ++ V ++ W ++ U ++ B) := by
  intro U
  induction U with
  | nil =>
    intro V A W B i k h1 h2 h3 h4 h5 h6 hk
    obtain ⟨k, rfl⟩ := fuel (show 0 < k by omega)
    have hV : V = [] := List.eq_nil_of_length_eq_zero (by simpa using h1.symm)
    subst hV
    simp only [impl_Entry_73.l0]
    simp at h3
    rw [if_neg (by omega)]
  | cons p U ih =>
    intro V A W B i k h1 h2 h3 h4 h5 h6 hk
    obtain ⟨k, rfl⟩ := fuel (show 0 < k by omega)
    cases V with
    | nil => simp at h1
    | cons q V =>
      simp only [List.length_cons] at h1 h3 h4 hk
      obtain ⟨b1, b2, b3, b4, b5, b6, i1, i2, i3, i4, i5⟩ := swr_ar h1 h2 h3 h4 h5 h6 hk
      have wa := wadd b1 b2
      have wb := wadd b3 b4
      have wi := wsucc b5
      have g1 : (i : Int) < (n : Int) := ltI b6
      have := ih V (A ++ [q]) (W ++ [p]) B (i + 1) k i4 (by simpa using i1) i2 (by simpa using i3) h5 h6 i5
      clear ih i1 i2 i3 i4 i5 h1 h2 h3 h4 h5 h6 hk
      have e : A ++ p :: U ++ W ++ q :: V ++ B = A ++ p :: ((U ++ W) ++ q :: (V ++ B)) := by simp
      have g3 : ((A.length + 1 + (U.length + W.length) : Nat) : Int) < ((A ++ p :: ((U ++ W) ++ q :: (V ++ B))).length : Int) := ltI (by simp; omega)
      have g5 : ((A.length : Nat) : Int) < ((A ++ p :: ((U ++ W) ++ q :: (V ++ B))).length : Int) := ltI (by simp)
      have r1 : rd_T27 (A ++ p :: ((U ++ W) ++ q :: (V ++ B))) ((A.length + 1 + (U.length + W.length) : Nat) : Int) = q := by
        rw [show A ++ p :: ((U ++ W) ++ q :: (V ++ B)) = (A ++ p :: (U ++ W)) ++ q :: (V ++ B) by simp]
        exact rd_mid _ _ _ _ (by simp; omega)
      have r2 : rd_T27 (A ++ p :: ((U ++ W) ++ q :: (V ++ B))) ((A.length : Nat) : Int) = p := rd_mid _ _ _ _ rfl
      rw [e]
      simp only [impl_Entry_73.l0]
      rw [wa, wb, if_pos g1, if_pos (Int.natCast_nonneg _), if_pos g3, if_pos (Int.natCast_nonneg _), if_pos g5, r1, r2]
      simp only [Int.toNat_natCast]
      rw [swap_mid A (U ++ W) (V ++ B) p q A.length (A.length + 1 + (U.length + W.length)) rfl (by simp), wi]
      rw [show A ++ q :: (U ++ W ++ p :: (V ++ B)) = A ++ [q] ++ U ++ (W ++ [p]) ++ V ++ B by simp, this]
      simp
theorem swr_f (A U W V B : List S27) (h1 : U.length = V.length) (hn : A.length + U.length + W.length + V.length ≤ 2000) (k : Nat) (hk : 3000 < k) (c : Int) : impl_Entry_73.f k (A ++ U ++ W ++ V ++ B) (A.length : Int) ((A.length + U.length + W.length : Nat) : Int) (U.length : Int) c = some (A ++ V ++ W ++ U ++ B) := by
  unfold impl_Entry_73.f
  exact swr_l A.length (A.length + U.length + W.length) U.length U V A W B 0 k h1 (by omega) (by omega) (by omega) (by omega) (by omega) (by omega)
theorem rot_l (c : Int) (d : Nat) : ∀ (A X Y B : List S27) (k : Nat), X.length + Y.length ≤ d → X ≠ [] → Y ≠ [] → A.length + X.length + Y.length ≤ 1000 → d + 4000 < k → impl_Entry_72.l0 k (A ++ X ++ Y ++ B) ((A.length + X.length : Nat) : Int) c (X.length : Int) (Y.length : Int) = some (A ++ Y ++ X ++ B) := by
  induction d with
  | zero => intro A X Y B k h hX; exact absurd (List.eq_nil_of_length_eq_zero (by omega)) hX
  | succ d ih =>
    intro A X Y B k h hX hY hn hk
    obtain ⟨k, rfl⟩ := fuel (show 0 < k by omega)
    have pX : 0 < X.length := List.length_pos_iff.2 hX
    have pY : 0 < Y.length := List.length_pos_iff.2 hY
    simp only [impl_Entry_72.l0]
    have w1 : wrap64 (((A.length + X.length : Nat) : Int) - (X.length : Int)) = (A.length : Int) := by rw [w64 (by omega) (by omega)]; omega
    rw [w1]
    by_cases c1 : X.length = Y.length
    · rw [if_pos (by omega)]
      have := swr_f A X [] Y B c1 (by simp; omega) k (by omega) c
      simp only [List.append_nil, List.length_nil, Nat.add_zero] at this
      rw [this]; rfl
    · rw [if_neg (by omega)]
      by_cases c2 : Y.length < X.length
      · rw [if_pos (by omega)]
        have t1 : (X.take Y.length).length = Y.length := by rw [List.length_take]; omega
        have t2 : (X.drop Y.length).length = X.length - Y.length := List.length_drop
        have eX : X.take Y.length ++ X.drop Y.length = X := List.take_append_drop _ _
        have := swr_f A (X.take Y.length) (X.drop Y.length) Y B t1 (by omega) k (by omega) c
        rw [t1, t2, show A.length + Y.length + (X.length - Y.length) = A.length + X.length by omega, show A ++ X.take Y.length ++ X.drop Y.length ++ Y ++ B = A ++ X ++ Y ++ B by rw [List.append_assoc A, eX]] at this
        rw [this]
        simp only [Option.bind_some]
        have := ih (A ++ Y) (X.drop Y.length) (X.take Y.length) B k (by omega) (fun h => by rw [h] at t2; simp at t2; omega) (fun h => by rw [h] at t1; simp at t1; omega) (by rw [List.length_append]; omega) (by omega)
        rw [List.length_append, t1, t2, show A.length + Y.length + (X.length - Y.length) = A.length + X.length by omega] at this
        rw [w64 (by omega) (by omega), show (X.length : Int) - (Y.length : Int) = ((X.length - Y.length : Nat) : Int) by omega, this]
        rw [List.append_assoc (A ++ Y), eX]
      · rw [if_neg (by omega)]
        have t1 : (Y.take (Y.length - X.length)).length = Y.length - X.length := by rw [List.length_take]; omega
        have t2 : (Y.drop (Y.length - X.length)).length = X.length := by rw [List.length_drop]; omega
        have eY : Y.take (Y.length - X.length) ++ Y.drop (Y.length - X.length) = Y := List.take_append_drop _ _
        have := swr_f A X (Y.take (Y.length - X.length)) (Y.drop (Y.length - X.length)) B t2.symm (by omega) k (by omega) c
        rw [t1, show A ++ X ++ Y.take (Y.length - X.length) ++ Y.drop (Y.length - X.length) ++ B = A ++ X ++ Y ++ B by rw [List.append_assoc (A ++ X), eY]] at this
        have w2 : wrap64 (wrap64 (((A.length + X.length : Nat) : Int) + (Y.length : Int)) - (X.length : Int)) = ((A.length + X.length + (Y.length - X.length) : Nat) : Int) := by
          rw [w64 (x := ((A.length + X.length : Nat) : Int) + (Y.length : Int)) (by omega) (by omega), w64 (by omega) (by omega)]; omega
        rw [w2, this]
        simp only [Option.bind_some]
        have := ih A (Y.drop (Y.length - X.length)) (Y.take (Y.length - X.length)) (X ++ B) k (by omega) (fun h => by rw [h] at t2; simp at t2; omega) (fun h => by rw [h] at t1; simp at t1; omega) (by omega) (by omega)
        rw [t1, t2] at this
        rw [w64 (by omega) (by omega), show (Y.length : Int) - (X.length : Int) = ((Y.length - X.length : Nat) : Int) by omega, show A ++ Y.drop (Y.length - X.length) ++ Y.take (Y.length - X.length) ++ X ++ B = A ++ Y.drop (Y.length - X.length) ++ Y.take (Y.length - X.length) ++ (X ++ B) by simp, this]
        rw [List.append_assoc A, eY]; simp
theorem rot_f (A X Y B : List S27) (hX : X ≠ []) (hY : Y ≠ []) (hn : A.length + X.length + Y.length ≤ 1000) (k : Nat) (hk : 6000 < k) (c : Int) : impl_Entry_72.f k (A ++ X ++ Y ++ B) (A.length : Int) ((A.length + X.length : Nat) : Int) ((A.length + X.length + Y.length : Nat) : Int) c = some (A ++ Y ++ X ++ B) := by
  unfold impl_Entry_72.f
  rw [w64 (by omega) (by omega), w64 (by omega) (by omega), show ((A.length + X.length : Nat) : Int) - (A.length : Int) = (X.length : Int) by omega, show ((A.length + X.length + Y.length : Nat) : Int) - ((A.length + X.length : Nat) : Int) = (Y.length : Int) by omega]
  exact rot_l c (X.length + Y.length) A X Y B k (by omega) hX hY hn (by omega)

/-! #### sort2: the merging -/
theorem bs {β : Type} (L : Nat → Int → Int → β) (NX : Nat → Int → β) (P : Nat → Prop) (lo hi : Nat)
    (step : ∀ k i j : Nat, lo ≤ i → i < j → j ≤ hi → (P ((i + j) / 2) → L (k + 1) i j = L k (((i + j) / 2 + 1 : Nat) : Int) j) ∧ (¬ P ((i + j) / 2) → L (k + 1) i j = L k i (((i + j) / 2 : Nat) : Int)))
    (stop : ∀ k i : Nat, L (k + 1) i i = NX k i) (d : Nat) : ∀ (k i j : Nat), i ≤ j → j - i ≤ d → lo ≤ i → j ≤ hi → (i = lo ∨ P (i - 1)) → (j = hi ∨ ¬ P j) → d + 1 < k → ∃ r k', lo ≤ r ∧ r ≤ hi ∧ (r = lo ∨ P (r - 1)) ∧ (r = hi ∨ ¬ P r) ∧ k ≤ k' + d + 1 ∧ L k i j = NX k' r := by
  induction d with
  | zero =>
    intro k i j h1 h2 h3 h4 h5 h6 hk
    obtain ⟨k, rfl⟩ := fuel (show 0 < k by omega)
    obtain rfl : i = j := by omega
    exact ⟨i, k, h3, h4, h5, h6, by omega, stop k i⟩
  | succ d ih =>
    intro k i j h1 h2 h3 h4 h5 h6 hk
    obtain ⟨k, rfl⟩ := fuel (show 0 < k by omega)
    by_cases c : i = j
    · subst c; exact ⟨i, k, h3, h4, h5, h6, by omega, stop k i⟩
    · have hij : i < j := by omega
      obtain ⟨s1, s2⟩ := step k i j h3 hij h4
      by_cases p : P ((i + j) / 2)
      · obtain ⟨r, k', g1, g2, g3, g4, g5, g6⟩ := ih k ((i + j) / 2 + 1) j (by omega) (by omega) (by omega) h4 (.inr (by simpa using p)) h6 (by omega)
        exact ⟨r, k', g1, g2, g3, g4, by omega, (s1 p).trans g6⟩
      · obtain ⟨r, k', g1, g2, g3, g4, g5, g6⟩ := ih k i ((i + j) / 2) (by omega) (by omega) h3 (by omega) h5 (.inr p) (by omega)
        exact ⟨r, k', g1, g2, g3, g4, by omega, (s2 p).trans g6⟩
theorem sym_l1 : ∀ (V1 A C : List S27) (x : S27) (k : Nat), A.length + V1.length ≤ 100000 → V1.length + 1 < k → impl_Entry_71.l1 k (A ++ x :: (V1 ++ C)) ((A.length + 1 + V1.length : Nat) : Int) (A.length : Int) = some (A ++ V1 ++ x :: C) := by
  intro V1
  induction V1 with
  | nil =>
    intro A C x k hn hk
    obtain ⟨k, rfl⟩ := fuel (show 0 < k by omega)
    simp only [List.length_nil, Nat.add_zero] at hn ⊢
    simp only [impl_Entry_71.l1]
    rw [wpred (n := A.length) rfl (by omega), if_neg (by omega)]
    simp
  | cons v V1 ih =>
    intro A C x k hn hk
    obtain ⟨k, rfl⟩ := fuel (show 0 < k by omega)
    simp only [List.length_cons] at hn hk ⊢
    have a1 : wrap64 (((A.length + 1 + (V1.length + 1) : Nat) : Int) - 1) = ((A.length + 1 + V1.length : Nat) : Int) := wpred (by omega) (by omega)
    have a2 : wrap64 ((A.length : Int) + 1) = ((A.length + 1 : Nat) : Int) := wsucc (by omega)
    have g1 : (A.length : Int) < ((A.length + 1 + V1.length : Nat) : Int) := ltI (by omega)
    have := ih (A ++ [v]) C x k (by simp; omega) (by omega)
    rw [show (A ++ [v]).length = A.length + 1 by simp] at this
    clear ih hn hk
    have g2 : ((A.length + 1 : Nat) : Int) < ((A ++ x :: ([] ++ v :: (V1 ++ C))).length : Int) := ltI (by simp)
    have g3 : (A.length : Int) < ((A ++ x :: ([] ++ v :: (V1 ++ C))).length : Int) := ltI (by simp)
    have r1 : rd_T27 (A ++ x :: ([] ++ v :: (V1 ++ C))) ((A.length + 1 : Nat) : Int) = v := by
      rw [show A ++ x :: ([] ++ v :: (V1 ++ C)) = (A ++ [x]) ++ v :: (V1 ++ C) by simp]
      exact rd_mid _ _ _ _ (by simp)
    have r2 : rd_T27 (A ++ x :: ([] ++ v :: (V1 ++ C))) ((A.length : Nat) : Int) = x := rd_mid _ _ _ _ rfl
    rw [show A ++ x :: (v :: V1 ++ C) = A ++ x :: ([] ++ v :: (V1 ++ C)) from rfl]
    simp only [impl_Entry_71.l1]
    rw [a1, a2, if_pos g1, if_pos (Int.natCast_nonneg _), if_pos g2, if_pos (Int.natCast_nonneg _), if_pos g3, r1, r2]
    simp only [Int.toNat_natCast]
    rw [swap_mid A [] (V1 ++ C) x v A.length (A.length + 1) rfl rfl, show A ++ v :: ([] ++ x :: (V1 ++ C)) = A ++ [v] ++ x :: (V1 ++ C) by simp, show A.length + 1 + (V1.length + 1) = A.length + 1 + 1 + V1.length by omega, this]
    simp
theorem sym_l3 (A : List S27) (y : S27) : ∀ (R C : List S27) (k : Nat), A.length + R.length ≤ 100000 → R.length + 1 < k → impl_Entry_71.l3 k (A ++ R.reverse ++ y :: C) (A.length : Int) ((A.length + R.length : Nat) : Int) = some (A ++ y :: (R.reverse ++ C)) := by
  intro R
  induction R with
  | nil =>
    intro C k hn hk
    obtain ⟨k, rfl⟩ := fuel (show 0 < k by omega)
    simp only [impl_Entry_71.l3]
    rw [if_neg (by simp)]
    simp
  | cons z R ih =>
    intro C k hn hk
    obtain ⟨k, rfl⟩ := fuel (show 0 < k by omega)
    simp only [List.length_cons] at hn hk ⊢
    have a1 : wrap64 (((A.length + (R.length + 1) : Nat) : Int) - 1) = ((A.length + R.length : Nat) : Int) := wpred (by omega) (by omega)
    have g1 : ((A.length + (R.length + 1) : Nat) : Int) > (A.length : Int) := ltI (by omega)
    have := ih (z :: C) k (by omega) (by omega)
    clear ih hn hk
    have g2 : ((A.length + R.length : Nat) : Int) < (((A ++ R.reverse) ++ z :: ([] ++ y :: C)).length : Int) := ltI (by simp)
    have g3 : ((A.length + (R.length + 1) : Nat) : Int) < (((A ++ R.reverse) ++ z :: ([] ++ y :: C)).length : Int) := ltI (by simp)
    have r1 : rd_T27 ((A ++ R.reverse) ++ z :: ([] ++ y :: C)) ((A.length + (R.length + 1) : Nat) : Int) = y := by
      rw [show (A ++ R.reverse) ++ z :: ([] ++ y :: C) = (A ++ R.reverse ++ [z]) ++ y :: C by simp]
      exact rd_mid _ _ _ _ (by simp [Nat.add_assoc])
    have r2 : rd_T27 ((A ++ R.reverse) ++ z :: ([] ++ y :: C)) ((A.length + R.length : Nat) : Int) = z := rd_mid _ _ _ _ (by simp)
    rw [show A ++ (z :: R).reverse ++ y :: C = (A ++ R.reverse) ++ z :: ([] ++ y :: C) by simp]
    simp only [impl_Entry_71.l3]
    rw [a1, if_pos g1, if_pos (Int.natCast_nonneg _), if_pos g2, if_pos (Int.natCast_nonneg _), if_pos g3, r1, r2]
    simp only [Int.toNat_natCast]
    rw [swap_mid2 (A ++ R.reverse) [] C z y (A.length + R.length) (A.length + (R.length + 1)) (by simp) (by simp [Nat.add_assoc]), show A ++ R.reverse ++ y :: ([] ++ z :: C) = A ++ R.reverse ++ y :: (z :: C) from rfl, this]
    simp
theorem sd_head {h : S27} {T : List S27} (s : Sd (h :: T)) : ∀ v ∈ h :: T, LeE h v := fun v hv => by
  rcases List.mem_cons.1 hv with rfl | hv
  · exact ahead_irr v
  · exact (List.pairwise_cons.1 s).1 v hv
theorem sd_last {T : List S27} {l : S27} (s : Sd (T ++ [l])) : ∀ v ∈ T ++ [l], LeE v l := fun v hv => by
  rcases List.mem_append.1 hv with hv | hv
  · exact (List.pairwise_append.1 s).2.2 v hv l (by simp)
  · simp at hv; subst hv; exact ahead_irr v
/-- All of one list up to all of another, if the first's last is up to the second's first. -/
theorem sd_cross {T1 T2 : List S27} (s1 : Sd T1) (s2 : Sd T2) (h : ∀ X l z Y, T1 = X ++ [l] → T2 = z :: Y → LeE l z) : ∀ x ∈ T1, ∀ y ∈ T2, LeE x y := fun x hx y hy => by
  rcases List.eq_nil_or_concat T1 with rfl | ⟨X, l, e1⟩
  · simp at hx
  · cases T2 with
    | nil => simp at hy
    | cons z Y =>
      rw [List.concat_eq_append] at e1
      subst e1
      exact leE_trans (sd_last s1 x hx) (leE_trans (h X l z Y rfl rfl) (sd_head s2 y hy))
def SymOk (n : Nat) : Prop := ∀ (A U V B : List S27) (c : Int) (k : Nat), U.length + V.length ≤ n → U ≠ [] → V ≠ [] → A.length + U.length + V.length + B.length ≤ 1000 → 5000 * n + 20000 < k → ∃ R, impl_Entry_71.f k (A ++ U ++ V ++ B) (A.length : Int) ((A.length + U.length : Nat) : Int) ((A.length + U.length + V.length : Nat) : Int) c = some (A ++ R ++ B) ∧ R.Perm (U ++ V) ∧ (Sd U → Sd V → Sd R)
theorem ne_pos {α : Type} {l : List α} (h : l ≠ []) : 0 < l.length := List.length_pos_iff.2 h
theorem sym_half (n : Nat) (H : SymOk n) (A U V B : List S27) (c : Int) (k : Nat) (h : U.length + V.length ≤ n) (hb : A.length + U.length + V.length + B.length ≤ 1000) (hk : 5000 * n + 20000 < k) :
    ∃ R, (U ≠ [] → V ≠ [] → impl_Entry_71.f k (A ++ U ++ V ++ B) (A.length : Int) ((A.length + U.length : Nat) : Int) ((A.length + U.length + V.length : Nat) : Int) c = some (A ++ R ++ B)) ∧ ((U = [] ∨ V = []) → R = U ++ V) ∧ R.Perm (U ++ V) ∧ (Sd U → Sd V → Sd R) := by
  by_cases h1 : U = []
  · subst h1; exact ⟨[] ++ V, fun h => absurd rfl h, fun _ => rfl, .refl _, fun _ s => s⟩
  · by_cases h2 : V = []
    · subst h2; exact ⟨U ++ [], fun _ h => absurd rfl h, fun _ => rfl, .refl _, fun s _ => by simpa using s⟩
    · obtain ⟨R, e, p, s⟩ := H A U V B c k h h1 h2 hb hk
      exact ⟨R, fun _ _ => e, fun h => by rcases h with h | h <;> contradiction, p, s⟩
theorem sym_j7 (n : Nat) (H : SymOk n) (A U1 V1 U2 V2 B : List S27) (c : Int) (k : Nat) (h1 : U1.length + V1.length ≤ n) (h2 : U2.length + V2.length ≤ n) (hb : A.length + U1.length + V1.length + U2.length + V2.length + B.length ≤ 1000) (hk : 5000 * n + 20010 < k) :
    ∃ R, impl_Entry_71.j7 k (A ++ U1 ++ V1 ++ U2 ++ V2 ++ B) (A.length : Int) ((A.length + U1.length + V1.length + U2.length + V2.length : Nat) : Int) c ((A.length + U1.length + V1.length : Nat) : Int) ((A.length + U1.length : Nat) : Int) ((A.length + U1.length + V1.length + U2.length : Nat) : Int) = some (A ++ R ++ B) ∧ R.Perm ((U1 ++ V1) ++ (U2 ++ V2)) ∧
      (Sd U1 → Sd V1 → Sd U2 → Sd V2 → (∀ x ∈ U1 ++ V1, ∀ y ∈ U2 ++ V2, LeE x y) → Sd R) := by
  obtain ⟨k, rfl⟩ := fuel (show 0 < k by omega)
  obtain ⟨k, rfl⟩ := fuel (show 0 < k by omega)
  obtain ⟨M1, e1, n1, p1, s1⟩ := sym_half n H A U1 V1 (U2 ++ V2 ++ B) c k h1 (by simp; omega) (by omega)
  have l1 : M1.length = U1.length + V1.length := by simpa using p1.length_eq
  obtain ⟨M2, e2, n2, p2, s2⟩ := sym_half n H (A ++ M1) U2 V2 B c k h2 (by simp; omega) (by omega)
  have lA : (A ++ M1).length = A.length + U1.length + V1.length := by simp; omega
  rw [lA] at e2
  have two : ((if ((A.length + U1.length + V1.length : Nat) : Int) < ((A.length + U1.length + V1.length + U2.length : Nat) : Int) then (if ((A.length + U1.length + V1.length + U2.length : Nat) : Int) < ((A.length + U1.length + V1.length + U2.length + V2.length : Nat) : Int) then ((impl_Entry_71.f k (A ++ M1 ++ U2 ++ V2 ++ B) ((A.length + U1.length + V1.length : Nat) : Int) ((A.length + U1.length + V1.length + U2.length : Nat) : Int) ((A.length + U1.length + V1.length + U2.length + V2.length : Nat) : Int) c).bind fun t => (some t)) else (some (A ++ M1 ++ U2 ++ V2 ++ B))) else (some (A ++ M1 ++ U2 ++ V2 ++ B)))) = some (A ++ (M1 ++ M2) ++ B) := by
    by_cases g1 : U2 = []
    · rw [if_neg (by rw [g1]; simp), n2 (.inl g1)]; simp
    · rw [if_pos (ltI (by have := ne_pos g1; omega))]
      by_cases g2 : V2 = []
      · rw [if_neg (by rw [g2]; simp), n2 (.inr g2)]; simp
      · rw [if_pos (ltI (by have := ne_pos g2; omega)), e2 g1 g2]; simp
  refine ⟨M1 ++ M2, ?_, p1.append p2, fun a1 a2 a3 a4 cr => List.pairwise_append.2 ⟨s1 a1 a2, s2 a3 a4, fun x hx y hy => cr x (p1.mem_iff.1 hx) y (p2.mem_iff.1 hy)⟩⟩
  simp only [impl_Entry_71.j7]
  have one : (U1 = [] ∨ V1 = []) → A ++ U1 ++ V1 ++ U2 ++ V2 ++ B = A ++ M1 ++ U2 ++ V2 ++ B := fun h => by rw [n1 h]; simp
  by_cases g1 : U1 = []
  · rw [if_neg (by rw [g1]; simp), one (.inl g1)]
    simp only [impl_Entry_71.j8, Bool.false_eq_true, if_false]
    exact two
  · rw [if_pos (ltI (by have := ne_pos g1; omega))]
    by_cases g2 : V1 = []
    · rw [show decide (((A.length + U1.length : Nat) : Int) < ((A.length + U1.length + V1.length : Nat) : Int)) = false by rw [g2]; simp, one (.inr g2)]
      simp only [impl_Entry_71.j8, Bool.false_eq_true, if_false]
      exact two
    · rw [decide_eq_true (ltI (by have := ne_pos g2; omega))]
      simp only [impl_Entry_71.j8, if_true]
      rw [show A ++ U1 ++ V1 ++ U2 ++ V2 ++ B = A ++ U1 ++ V1 ++ (U2 ++ V2 ++ B) by simp, e1 g1 g2, show A ++ M1 ++ (U2 ++ V2 ++ B) = A ++ M1 ++ U2 ++ V2 ++ B by simp]
      simp only [Option.bind_some]
      exact two
theorem sym_j6 (n : Nat) (H : SymOk n) (A U1 U2 V1 V2 B : List S27) (c : Int) (k : Nat) (f : Bool) (hf : f = true ↔ U2 ≠ [] ∧ V1 ≠ []) (h1 : U1.length + V1.length ≤ n) (h2 : U2.length + V2.length ≤ n) (hb : A.length + U1.length + V1.length + U2.length + V2.length + B.length ≤ 1000) (hk : 5000 * n + 20020 < k) :
    ∃ R, impl_Entry_71.j6 k (A ++ U1 ++ U2 ++ V1 ++ V2 ++ B) (A.length : Int) ((A.length + U1.length + U2.length : Nat) : Int) ((A.length + U1.length + V1.length + U2.length + V2.length : Nat) : Int) c ((A.length + U1.length + V1.length : Nat) : Int) ((A.length + U1.length : Nat) : Int) ((A.length + U1.length + V1.length + U2.length : Nat) : Int) f = some (A ++ R ++ B) ∧ R.Perm ((U1 ++ V1) ++ (U2 ++ V2)) ∧
      (Sd U1 → Sd V1 → Sd U2 → Sd V2 → (∀ x ∈ U1 ++ V1, ∀ y ∈ U2 ++ V2, LeE x y) → Sd R) := by
  obtain ⟨k, rfl⟩ := fuel (show 0 < k by omega)
  obtain ⟨R, e, p, s⟩ := sym_j7 n H A U1 V1 U2 V2 B c k h1 h2 hb (by omega)
  refine ⟨R, ?_, p, s⟩
  simp only [impl_Entry_71.j6]
  by_cases g : f = true
  · obtain ⟨g1, g2⟩ := hf.1 g
    have := rot_f (A ++ U1) U2 V1 (V2 ++ B) g1 g2 (by simp; omega) k (by omega) c
    rw [show (A ++ U1).length = A.length + U1.length by simp, show A.length + U1.length + U2.length + V1.length = A.length + U1.length + V1.length + U2.length by omega, show A ++ U1 ++ U2 ++ V1 ++ (V2 ++ B) = A ++ U1 ++ U2 ++ V1 ++ V2 ++ B by simp] at this
    rw [if_pos g, this, show A ++ U1 ++ V1 ++ U2 ++ (V2 ++ B) = A ++ U1 ++ V1 ++ U2 ++ V2 ++ B by simp]
    simp only [Option.bind_some]
    exact e
  · rw [if_neg g]
    have : U2 = [] ∨ V1 = [] := by
      by_cases g1 : U2 = []
      · exact .inl g1
      · by_cases g2 : V1 = []
        · exact .inr g2
        · exact absurd (hf.2 ⟨g1, g2⟩) g
    rw [show A ++ U1 ++ U2 ++ V1 ++ V2 ++ B = A ++ U1 ++ V1 ++ U2 ++ V2 ++ B by rcases this with h | h <;> simp [h]]
    exact e

/-! #### sort3: the whole sort -/
theorem rd_split (P Q : List S27) (p : S27) (xs : List S27) (n : Nat) (e : xs = P ++ p :: Q) (h : n = P.length) : rd_T27 xs (n : Int) = p := by subst e; exact rd_mid P Q p n h
theorem take_drop_len {α : Type} (V : List α) (i : Nat) (h : i ≤ V.length) : (V.take i).length = i ∧ (V.drop i).length = V.length - i ∧ V.take i ++ V.drop i = V := ⟨by rw [List.length_take]; omega, List.length_drop, List.take_append_drop i V⟩
/-- One element ahead of a row. -/
theorem sym_one (A V B : List S27) (x : S27) (hV : V ≠ []) (hb : A.length + 1 + V.length + B.length ≤ 1000) (k : Nat) (hk : 5000 < k) :
    ∃ R, impl_Entry_71.l0 k (A ++ [x] ++ V ++ B) (A.length : Int) ((A.length + 1 : Nat) : Int) ((A.length + 1 + V.length : Nat) : Int) = some (A ++ R ++ B) ∧ R.Perm ([x] ++ V) ∧ (Sd V → Sd R) := by
  have hl : (A ++ [x] ++ V ++ B).length = A.length + 1 + V.length + B.length := by simp; omega
  have rx : rd_T27 (A ++ [x] ++ V ++ B) ((A.length : Nat) : Int) = x := rd_split A (V ++ B) x _ _ (by simp) rfl
  obtain ⟨r, k', g1, g2, g3, g4, g5, g6⟩ := bs (fun k i j => impl_Entry_71.l0 k (A ++ [x] ++ V ++ B) (A.length : Int) i j) (fun k r => impl_Entry_71.l1 k (A ++ [x] ++ V ++ B) r (A.length : Int)) (fun h => aheadB (rd_T27 (A ++ [x] ++ V ++ B) (h : Int)) x = true) (A.length + 1) (A.length + 1 + V.length) (fun k i j h1 h2 h3 => by
    have q1 : (((i + j) / 2 : Nat) : Int) < ((A ++ [x] ++ V ++ B).length : Int) := ltI (by rw [hl]; omega)
    have q2 : ((A.length : Nat) : Int) < ((A ++ [x] ++ V ++ B).length : Int) := ltI (by rw [hl]; omega)
    have q3 : wrap64 ((((i + j) / 2 : Nat) : Int) + 1) = (((i + j) / 2 + 1 : Nat) : Int) := wsucc (by omega)
    simp only [impl_Entry_71.l0]
    rw [half_w i j (by omega), if_pos (ltI h2), if_pos (Int.natCast_nonneg _), if_pos q1, if_pos (Int.natCast_nonneg _), if_pos q2, rx, cmp_f, q3]
    simp only [Option.bind_some]
    exact ⟨fun p => if_pos ((cmpF_neg _ _).2 p), fun p => if_neg fun h => p ((cmpF_neg _ _).1 h)⟩) (fun k i => by
    simp only [impl_Entry_71.l0]
    rw [if_neg (by omega)]) 1000 k (A.length + 1) (A.length + 1 + V.length) (by omega) (by omega) (by omega) (by omega) (.inl rfl) (.inl rfl) (by omega)
  obtain ⟨t1, t2, t3⟩ := take_drop_len V (r - (A.length + 1)) (by omega)
  have e : A ++ [x] ++ V ++ B = A ++ x :: (V.take (r - (A.length + 1)) ++ (V.drop (r - (A.length + 1)) ++ B)) := by rw [← List.append_assoc (V.take _), t3]; simp
  have m := sym_l1 (V.take (r - (A.length + 1))) A (V.drop (r - (A.length + 1)) ++ B) x k' (by omega) (by omega)
  rw [t1, ← e, show A.length + 1 + (r - (A.length + 1)) = r by omega] at m
  refine ⟨V.take (r - (A.length + 1)) ++ x :: V.drop (r - (A.length + 1)), ?_, ?_, fun s => ?_⟩
  · exact g6.trans (m.trans (by simp))
  · exact List.perm_middle.trans (by rw [t3]; exact .refl _)
  · rw [← t3] at s
    obtain ⟨s1, s2, s3⟩ := List.pairwise_append.1 s
    refine List.pairwise_append.2 ⟨s1, List.pairwise_cons.2 ⟨fun y hy => ?_, s2⟩, fun y hy z hz => ?_⟩
    · refine sd_cross (T1 := [x]) (T2 := V.drop (r - (A.length + 1))) (by simp) s2 (fun X l z Y e1 e2 => ?_) x (by simp) y hy
      have hx : l = x := by
        have h := congrArg List.getLast? e1
        simp at h; exact h.symm
      subst hx
      rcases g4 with g4 | g4
      · rw [e2] at t2; simp at t2; omega
      · have rz := rd_split (A ++ l :: V.take (r - (A.length + 1))) (Y ++ B) z (A ++ [l] ++ V ++ B) r (by rw [e, e2]; simp) (by simp [t1]; omega)
        rw [rz] at g4
        simpa using g4
    · have low : ∀ y ∈ V.take (r - (A.length + 1)), LeE y x := fun y hy => by
        refine sd_cross (T1 := V.take (r - (A.length + 1))) (T2 := [x]) s1 (by simp) (fun X l z Y e1 e2 => ?_) y hy x (by simp)
        injection e2 with e2 _
        subst e2
        rcases g3 with g3 | g3
        · rw [e1] at t1; simp at t1; omega
        · have rl := rd_split (A ++ x :: X) (V.drop (r - (A.length + 1)) ++ B) l (A ++ [x] ++ V ++ B) (r - 1) (by rw [e, e1]; simp) (by rw [e1] at t1; simp at t1 ⊢; omega)
          rw [rl] at g3
          exact ahead_asym g3
      rcases List.mem_cons.1 hz with rfl | hz
      · exact low y hy
      · exact s3 y hy z hz
/-- One element behind a row. -/
theorem sym_two (A U B : List S27) (y : S27) (hU : U ≠ []) (hb : A.length + U.length + 1 + B.length ≤ 1000) (k : Nat) (hk : 5000 < k) :
    ∃ R, impl_Entry_71.l2 k (A ++ U ++ [y] ++ B) ((A.length + U.length : Nat) : Int) (A.length : Int) ((A.length + U.length : Nat) : Int) = some (A ++ R ++ B) ∧ R.Perm (U ++ [y]) ∧ (Sd U → Sd R) := by
  have hl : (A ++ U ++ [y] ++ B).length = A.length + U.length + 1 + B.length := by simp; omega
  have ry : rd_T27 (A ++ U ++ [y] ++ B) ((A.length + U.length : Nat) : Int) = y := rd_split (A ++ U) B y _ _ (by simp) (by simp)
  obtain ⟨r, k', g1, g2, g3, g4, g5, g6⟩ := bs (fun k i j => impl_Entry_71.l2 k (A ++ U ++ [y] ++ B) ((A.length + U.length : Nat) : Int) i j) (fun k r => impl_Entry_71.l3 k (A ++ U ++ [y] ++ B) r ((A.length + U.length : Nat) : Int)) (fun h => ¬ aheadB y (rd_T27 (A ++ U ++ [y] ++ B) (h : Int)) = true) A.length (A.length + U.length) (fun k i j h1 h2 h3 => by
    have q1 : (((i + j) / 2 : Nat) : Int) < ((A ++ U ++ [y] ++ B).length : Int) := ltI (by rw [hl]; omega)
    have q2 : ((A.length + U.length : Nat) : Int) < ((A ++ U ++ [y] ++ B).length : Int) := ltI (by rw [hl]; omega)
    have q3 : wrap64 ((((i + j) / 2 : Nat) : Int) + 1) = (((i + j) / 2 + 1 : Nat) : Int) := wsucc (by omega)
    simp only [impl_Entry_71.l2]
    rw [half_w i j (by omega), if_pos (ltI h2), if_pos (Int.natCast_nonneg _), if_pos q2, if_pos (Int.natCast_nonneg _), if_pos q1, ry, cmp_f, q3]
    simp only [Option.bind_some]
    exact ⟨fun p => if_neg fun h => p ((cmpF_neg _ _).1 h), fun p => if_pos ((cmpF_neg _ _).2 (Classical.not_not.1 p))⟩) (fun k i => by
    simp only [impl_Entry_71.l2]
    rw [if_neg (by omega)]) 1000 k A.length (A.length + U.length) (by omega) (by omega) (by omega) (by omega) (.inl rfl) (.inl rfl) (by omega)
  obtain ⟨t1, t2, t3⟩ := take_drop_len U (r - A.length) (by omega)
  have tt : ∀ Z, U.take (r - A.length) ++ (U.drop (r - A.length) ++ Z) = U ++ Z := fun Z => by rw [← List.append_assoc, t3]
  have e : A ++ U ++ [y] ++ B = (A ++ U.take (r - A.length)) ++ (U.drop (r - A.length)).reverse.reverse ++ y :: B := by rw [List.reverse_reverse]; simp [tt]
  have m := sym_l3 (A ++ U.take (r - A.length)) y (U.drop (r - A.length)).reverse B k' (by simp; omega) (by simp; omega)
  rw [← e, List.length_reverse, t2, List.length_append, t1, show A.length + (r - A.length) + (U.length - (r - A.length)) = A.length + U.length by omega, show A.length + (r - A.length) = r by omega, List.reverse_reverse] at m
  refine ⟨U.take (r - A.length) ++ y :: U.drop (r - A.length), ?_, ?_, fun s => ?_⟩
  · exact g6.trans (m.trans (by simp))
  · exact List.perm_middle.trans (by rw [t3]; exact (List.perm_append_comm (l₁ := [y]) (l₂ := U)))
  · rw [← t3] at s
    obtain ⟨s1, s2, s3⟩ := List.pairwise_append.1 s
    have e' : A ++ U ++ [y] ++ B = A ++ U.take (r - A.length) ++ (U.drop (r - A.length) ++ y :: B) := by simp [tt]
    refine List.pairwise_append.2 ⟨s1, List.pairwise_cons.2 ⟨fun z hz => ?_, s2⟩, fun x hx z hz => ?_⟩
    · refine sd_cross (T1 := [y]) (T2 := U.drop (r - A.length)) (by simp) s2 (fun X l z Y e1 e2 => ?_) y (by simp) z hz
      have hx : l = y := by
        have h := congrArg List.getLast? e1
        simp at h; exact h.symm
      subst hx
      rcases g4 with g4 | g4
      · rw [e2] at t2; simp at t2; omega
      · have rz := rd_split (A ++ U.take (r - A.length)) (Y ++ l :: B) z (A ++ U ++ [l] ++ B) r (by rw [e', e2]; simp) (by simp [t1]; omega)
        rw [rz] at g4
        exact ahead_asym (Classical.not_not.1 g4)
    · have low : ∀ x ∈ U.take (r - A.length), LeE x y := fun x hx => by
        refine sd_cross (T1 := U.take (r - A.length)) (T2 := [y]) s1 (by simp) (fun X l z Y e1 e2 => ?_) x hx y (by simp)
        injection e2 with e2 _
        subst e2
        rcases g3 with g3 | g3
        · rw [e1] at t1; simp at t1; omega
        · have rl := rd_split (A ++ X) (U.drop (r - A.length) ++ y :: B) l (A ++ U ++ [y] ++ B) (r - 1) (by rw [e', e1]; simp) (by rw [e1] at t1; simp at t1 ⊢; omega)
          rw [rl] at g3
          simpa using g3
      rcases List.mem_cons.1 hz with rfl | hz
      · exact low x hx
      · exact s3 x hx z hz

/-! #### sort4 -/
theorem sym_ar {a u v mid N lo hi B : Nat} (hm : mid = (a + (a + u + v)) / 2) (hN : N = mid + (a + u)) (hU : 2 ≤ u) (hV : 2 ≤ v) (hb : a + u + v + B ≤ 1000) (hl : (a + u > mid ∧ lo + (a + u + v) = N ∧ hi = mid) ∨ (a + u ≤ mid ∧ lo = a ∧ hi = a + u)) :
    lo ≤ hi ∧ a ≤ lo ∧ hi ≤ a + u ∧ hi ≤ mid ∧ N ≤ lo + (a + u + v) ∧ a < mid ∧ mid < a + u + v ∧ N ≤ 2000 := by omega
theorem sym_ar2 {a u v mid N lo hi r n : Nat} (hN : N = mid + (a + u)) (h1 : lo ≤ hi) (h2 : a ≤ lo) (h3 : hi ≤ a + u) (h4 : hi ≤ mid) (h5 : N ≤ lo + (a + u + v)) (h6 : a < mid) (h7 : mid < a + u + v) (g1 : lo ≤ r) (g2 : r ≤ hi) (hn : u + v ≤ n + 1) :
    r - a ≤ u ∧ mid - r ≤ v ∧ a + (r - a) = r ∧ (r - a) + (u - (r - a)) = u ∧ a + (r - a) + (mid - r) = mid ∧ a + (r - a) + (mid - r) + (u - (r - a)) = N - r ∧ a + (r - a) + (mid - r) + (u - (r - a)) + (v - (mid - r)) = a + u + v ∧ (r - a) + (mid - r) ≤ n ∧ (u - (r - a)) + (v - (mid - r)) ≤ n ∧ a + (r - a) + (u - (r - a)) = a + u ∧ (N - r) + r = N ∧ (r < a + u ↔ 0 < u - (r - a)) ∧ (a + u < N - r ↔ 0 < mid - r) := by omega
theorem sym_main (n : Nat) (H : SymOk n) (A U V B : List S27) (c : Int) (k : Nat) (hn : U.length + V.length ≤ n + 1) (hU : 2 ≤ U.length) (hV : 2 ≤ V.length) (hb : A.length + U.length + V.length + B.length ≤ 1000) (hk : 5000 * n + 23000 < k) (mid N lo hi : Nat)
    (hm : mid = (A.length + (A.length + U.length + V.length)) / 2) (hN : N = mid + (A.length + U.length)) (hl : (A.length + U.length > mid ∧ lo + (A.length + U.length + V.length) = N ∧ hi = mid) ∨ (A.length + U.length ≤ mid ∧ lo = A.length ∧ hi = A.length + U.length)) :
    ∃ R, impl_Entry_71.j4 k (A ++ U ++ V ++ B) (A.length : Int) ((A.length + U.length : Nat) : Int) ((A.length + U.length + V.length : Nat) : Int) c (mid : Int) (N : Int) (lo : Int) (hi : Int) = some (A ++ R ++ B) ∧ R.Perm (U ++ V) ∧ (Sd U → Sd V → Sd R) := by
  obtain ⟨h1, h2, h3, h4, h5, h6, h7, h8⟩ := sym_ar hm hN hU hV hb hl
  obtain ⟨k, rfl⟩ := fuel (show 0 < k by omega)
  have hlen : (A ++ U ++ V ++ B).length = A.length + U.length + V.length + B.length := by simp; omega
  have w1 : wrap64 ((N : Int) - 1) = ((N - 1 : Nat) : Int) := wpred (by omega) (by omega)
  simp only [impl_Entry_71.j4]
  rw [w1]
  obtain ⟨r, k', g1, g2, g3, g4, g5, g6⟩ := bs (fun k i j => impl_Entry_71.l4 k (A ++ U ++ V ++ B) (A.length : Int) ((A.length + U.length : Nat) : Int) ((A.length + U.length + V.length : Nat) : Int) c (mid : Int) (N : Int) i j ((N - 1 : Nat) : Int))
    (fun k r => if r < ((A.length + U.length : Nat) : Int) then impl_Entry_71.j6 k (A ++ U ++ V ++ B) (A.length : Int) ((A.length + U.length : Nat) : Int) ((A.length + U.length + V.length : Nat) : Int) c (mid : Int) r (wrap64 ((N : Int) - r)) (decide (((A.length + U.length : Nat) : Int) < wrap64 ((N : Int) - r))) else impl_Entry_71.j6 k (A ++ U ++ V ++ B) (A.length : Int) ((A.length + U.length : Nat) : Int) ((A.length + U.length + V.length : Nat) : Int) c (mid : Int) r (wrap64 ((N : Int) - r)) false)
    (fun h => aheadB (rd_T27 (A ++ U ++ V ++ B) ((N - 1 - h : Nat) : Int)) (rd_T27 (A ++ U ++ V ++ B) (h : Int)) = false) lo hi (fun k i j q1 q2 q3 => by
    have e1 : wrap64 (((N - 1 : Nat) : Int) - (((i + j) / 2 : Nat) : Int)) = ((N - 1 - (i + j) / 2 : Nat) : Int) := wsub (by omega) (by omega)
    have e2 : wrap64 ((((i + j) / 2 : Nat) : Int) + 1) = (((i + j) / 2 + 1 : Nat) : Int) := wsucc (by omega)
    have e3 : (((i + j) / 2 : Nat) : Int) < ((A ++ U ++ V ++ B).length : Int) := ltI (by rw [hlen]; omega)
    have e4 : ((N - 1 - (i + j) / 2 : Nat) : Int) < ((A ++ U ++ V ++ B).length : Int) := ltI (by rw [hlen]; omega)
    simp only [impl_Entry_71.l4]
    rw [half_w i j (by omega), e1, if_pos (ltI q2), if_pos (Int.natCast_nonneg _), if_pos e4, if_pos (Int.natCast_nonneg _), if_pos e3, cmp_f, e2]
    simp only [Option.bind_some]
    exact ⟨fun p => if_neg fun h => (by rw [(cmpF_neg _ _).1 h] at p; cases p), fun p => if_pos ((cmpF_neg _ _).2 (by simpa using p))⟩) (fun k i => by
    simp only [impl_Entry_71.l4]
    rw [if_neg (by omega)]) 1000 k lo hi h1 (by omega) (by omega) (by omega) (.inl rfl) (.inl rfl) (by omega)
  obtain ⟨a1, a2, a3, a4, a5, a6, a7, a8, a9, a10, a11, a12, a13⟩ := sym_ar2 hN h1 h2 h3 h4 h5 h6 h7 g1 g2 hn
  have w2 : wrap64 ((N : Int) - (r : Int)) = ((N - r : Nat) : Int) := wsub a11 (by omega)
  obtain ⟨t1, t2, t3⟩ := take_drop_len U (r - A.length) a1
  obtain ⟨u1, u2, u3⟩ := take_drop_len V (mid - r) a2
  have hg : ∃ f : Bool, (f = true ↔ U.drop (r - A.length) ≠ [] ∧ V.take (mid - r) ≠ []) ∧ impl_Entry_71.l4 k (A ++ U ++ V ++ B) (A.length : Int) ((A.length + U.length : Nat) : Int) ((A.length + U.length + V.length : Nat) : Int) c (mid : Int) (N : Int) (lo : Int) (hi : Int) ((N - 1 : Nat) : Int) = impl_Entry_71.j6 k' (A ++ U ++ V ++ B) (A.length : Int) ((A.length + U.length : Nat) : Int) ((A.length + U.length + V.length : Nat) : Int) c (mid : Int) (r : Int) ((N - r : Nat) : Int) f := by
    have n1 : U.drop (r - A.length) ≠ [] ↔ r < A.length + U.length := by rw [a12, ← t2]; exact List.length_pos_iff.symm
    have n2 : V.take (mid - r) ≠ [] ↔ A.length + U.length < N - r := ⟨fun h => a13.2 (by rw [← u1]; exact List.length_pos_iff.2 h), fun h e => by have := a13.1 h; rw [e] at u1; rw [← u1] at this; simp at this⟩
    have g6' := g6
    rw [w2] at g6'
    by_cases c1 : r < A.length + U.length
    · rw [if_pos (ltI c1)] at g6'
      exact ⟨_, by rw [n1, n2, decide_eq_true_eq, Int.ofNat_lt]; exact ⟨fun h => ⟨c1, h⟩, fun h => h.2⟩, g6'⟩
    · rw [if_neg (by omega)] at g6'
      exact ⟨false, by rw [n1]; simp [c1], g6'⟩
  obtain ⟨f, hf, g7⟩ := hg
  obtain ⟨R, e, p, s⟩ := sym_j6 n H A (U.take (r - A.length)) (U.drop (r - A.length)) (V.take (mid - r)) (V.drop (mid - r)) B c k' f hf (by rw [t1, u1]; exact a8) (by rw [t2, u2]; exact a9) (by rw [t1, t2, u1, u2]; omega) (by omega)
  have tt : ∀ Z, U.take (r - A.length) ++ (U.drop (r - A.length) ++ Z) = U ++ Z := fun Z => by rw [← List.append_assoc, t3]
  have uu : ∀ Z, V.take (mid - r) ++ (V.drop (mid - r) ++ Z) = V ++ Z := fun Z => by rw [← List.append_assoc, u3]
  have ex : A ++ U.take (r - A.length) ++ U.drop (r - A.length) ++ V.take (mid - r) ++ V.drop (mid - r) ++ B = A ++ U ++ V ++ B := by simp only [List.append_assoc, tt, uu]
  rw [ex, t1, t2, u1, u2, a10, a7, a5, a3, show mid + (U.length - (r - A.length)) = N - r by rw [← a6, a5]] at e
  refine ⟨R, g7.trans e, p.trans ?_, fun sU sV => ?_⟩
  · have : ((U.take (r - A.length) ++ V.take (mid - r)) ++ (U.drop (r - A.length) ++ V.drop (mid - r))).Perm ((U.take (r - A.length) ++ U.drop (r - A.length)) ++ (V.take (mid - r) ++ V.drop (mid - r))) := by
      rw [List.append_assoc, List.append_assoc]
      refine List.Perm.append_left _ ?_
      rw [← List.append_assoc, ← List.append_assoc]
      exact (List.perm_append_comm).append_right _
    rw [t3, u3] at this
    exact this
  · rw [← t3] at sU
    rw [← u3] at sV
    obtain ⟨x1, x2, x3⟩ := List.pairwise_append.1 sU
    obtain ⟨y1, y2, y3⟩ := List.pairwise_append.1 sV
    have z1 : ∀ x ∈ U.take (r - A.length), ∀ y ∈ V.drop (mid - r), LeE x y := sd_cross x1 y2 fun X l z Y e1 e2 => by
      rw [e1] at t1; rw [e2] at u2
      simp only [List.length_append, List.length_cons, List.length_nil] at t1 u2
      rcases g3 with g3 | g3
      · omega
      · have rl := rd_split (A ++ X) (U.drop (r - A.length) ++ V ++ B) l (A ++ U ++ V ++ B) (r - 1) (by rw [← ex, e1]; simp only [List.append_assoc, uu, List.cons_append, List.nil_append]) (by rw [List.length_append]; omega)
        have rz := rd_split (A ++ U ++ V.take (mid - r)) (Y ++ B) z (A ++ U ++ V ++ B) (N - 1 - (r - 1)) (by rw [show A ++ U ++ V ++ B = A ++ U ++ V.take (mid - r) ++ (V.drop (mid - r) ++ B) by simp only [List.append_assoc, uu], e2]; rfl) (by rw [List.length_append, List.length_append, u1]; omega)
        rw [rl, rz] at g3
        exact g3
    have z2 : ∀ x ∈ V.take (mid - r), ∀ y ∈ U.drop (r - A.length), LeE x y := sd_cross y1 x2 fun X l z Y e1 e2 => by
      rw [e1] at u1; rw [e2] at t2
      simp only [List.length_append, List.length_cons, List.length_nil] at u1 t2
      rcases g4 with g4 | g4
      · omega
      · have rl := rd_split (A ++ U ++ X) (V.drop (mid - r) ++ B) l (A ++ U ++ V ++ B) (N - 1 - r) (by rw [← ex, e1]; simp only [List.append_assoc, tt, List.cons_append, List.nil_append]) (by rw [List.length_append, List.length_append]; omega)
        have rz := rd_split (A ++ U.take (r - A.length)) (Y ++ V ++ B) z (A ++ U ++ V ++ B) r (by rw [← ex, e2]; simp only [List.append_assoc, uu, List.cons_append]) (by rw [List.length_append, t1]; omega)
        rw [rl, rz] at g4
        exact ahead_asym (by simpa using g4)
    refine s x1 y1 x2 y2 fun x hx y hy => ?_
    rcases List.mem_append.1 hx with hx | hx <;> rcases List.mem_append.1 hy with hy | hy
    · exact x3 x hx y hy
    · exact z1 x hx y hy
    · exact z2 x hx y hy
    · exact y3 x hx y hy
theorem sym_ar4 {a u v : Nat} (h : a + u > (a + (a + u + v)) / 2) : ((a + (a + u + v)) / 2 + (a + u) - (a + u + v)) + (a + u + v) = (a + (a + u + v)) / 2 + (a + u) := by omega
theorem sym_ar5 {a u v B : Nat} (h : a + u + v + B ≤ 1000) : (a + (a + u + v)) / 2 + (a + u) ≤ 1000000 ∧ a + (a + u + v) ≤ 1000000 ∧ a + u + v ≤ 1000000 := by omega
theorem intOne {n : Nat} : (n : Int) = 1 ↔ n = 1 := by omega
theorem sym_ok : ∀ n, SymOk n := by
  intro n
  induction n with
  | zero => intro A U V B c k h hU; exact absurd (List.eq_nil_of_length_eq_zero (by omega)) hU
  | succ n ih =>
    intro A U V B c k h hU hV hb hk
    rw [Nat.mul_add] at hk
    obtain ⟨k, rfl⟩ := fuel (show 0 < k by omega)
    have hk1 : 5000 * n + 23000 < k := by omega
    have hk2 : 5000 < k := by omega
    have pU := ne_pos hU
    have pV := ne_pos hV
    obtain ⟨b1, b2, b3⟩ := sym_ar5 hb
    simp only [impl_Entry_71.f]
    rw [wsub (a := A.length + U.length) (i := A.length) (n := U.length) (Nat.add_comm _ _) (by omega), wsub (a := A.length + U.length + V.length) (i := A.length + U.length) (n := V.length) (Nat.add_comm _ _) b3, half_w A.length (A.length + U.length + V.length) b2]
    by_cases c1 : U.length = 1
    · rw [if_pos (intOne.2 c1)]
      obtain ⟨x, rfl⟩ := List.length_eq_one_iff.1 c1
      obtain ⟨R, e, p, s⟩ := sym_one A V B x hV (by simpa using hb) k hk2
      exact ⟨R, e, p, fun _ => s⟩
    · rw [if_neg (fun h => c1 (intOne.1 h))]
      by_cases c2 : V.length = 1
      · rw [if_pos (intOne.2 c2)]
        obtain ⟨y, rfl⟩ := List.length_eq_one_iff.1 c2
        obtain ⟨R, e, p, s⟩ := sym_two A U B y hU (by simpa using hb) k hk2
        exact ⟨R, e, p, fun a _ => s a⟩
      · have d1 : 2 ≤ U.length := by omega
        have d2 : 2 ≤ V.length := by omega
        rw [if_neg (fun h => c2 (intOne.1 h)), wadd (a := (A.length + (A.length + U.length + V.length)) / 2) (i := A.length + U.length) rfl b1]
        by_cases c3 : A.length + U.length > (A.length + (A.length + U.length + V.length)) / 2
        · rw [if_pos (ltI c3), wsub (a := (A.length + (A.length + U.length + V.length)) / 2 + (A.length + U.length)) (i := A.length + U.length + V.length) (sym_ar4 c3) b1]
          exact sym_main n ih A U V B c k h d1 d2 hb hk1 _ _ _ _ rfl rfl (.inl ⟨c3, sym_ar4 c3, rfl⟩)
        · rw [if_neg (fun h => c3 (Int.ofNat_lt.1 h))]
          exact sym_main n ih A U V B c k h d1 d2 hb hk1 _ _ _ _ rfl rfl (.inr ⟨Nat.not_lt.1 c3, rfl, rfl⟩)

/-! #### sort5: the whole -/
def Ch (s : Nat) : List (List S27) → Prop
  | [] => True
  | c :: cs => (c.length = s ∨ (c.length ≤ s ∧ cs = [])) ∧ Sd c ∧ Ch s cs
theorem stb_l0 (n : Nat) (c : Int) (d : Nat) : ∀ (A T : List S27) (k : Nat), T.length ≤ d → A.length + T.length = n → n ≤ 1000 → d + 8000000 < k → ∃ cs, Ch 20 cs ∧ cs.flatten.Perm T ∧ ∃ k', k ≤ k' + d + 1 ∧ impl_Entry_67.l0 k (A ++ T) (n : Int) c 20 (A.length : Int) ((A.length + 20 : Nat) : Int) = impl_Entry_67.l1 k' (A ++ cs.flatten) (n : Int) c 20 := by
  induction d with
  | zero =>
    intro A T k h1 h2 h3 hk
    obtain ⟨k, rfl⟩ := fuel (show 0 < k by omega)
    obtain rfl : T = [] := List.eq_nil_of_length_eq_zero (by omega)
    simp only [List.length_nil, Nat.add_zero] at h2
    refine ⟨[], trivial, .refl _, k, by omega, ?_⟩
    simp only [impl_Entry_67.l0]
    have := ins_f A [] [] (by omega) (by simp) k (by omega) c
    rw [List.length_nil, Nat.add_zero, h2] at this
    rw [if_neg (by omega), show A ++ [] = A ++ [] ++ [] by simp, h2, this]
    simp [isort, insAll]
  | succ d ih =>
    intro A T k h1 h2 h3 hk
    obtain ⟨k, rfl⟩ := fuel (show 0 < k by omega)
    simp only [impl_Entry_67.l0]
    by_cases c1 : 20 ≤ T.length
    · obtain ⟨t1, t2, t3⟩ := take_drop_len T 20 c1
      have e := ins_f A (T.take 20) (T.drop 20) (by omega) (by omega) k (by omega) c
      rw [List.append_assoc, t3, t1] at e
      have il : (isort (T.take 20)).length = 20 := by rw [(isort_perm _).length_eq, t1]
      obtain ⟨cs, g1, g2, k', g3, g4⟩ := ih (A ++ isort (T.take 20)) (T.drop 20) k (by omega) (by rw [List.length_append, il]; omega) h3 (by omega)
      rw [List.length_append, il] at g4
      refine ⟨isort (T.take 20) :: cs, ⟨.inl il, isort_sorted _, g1⟩, ?_, k', by omega, ?_⟩
      · rw [List.flatten_cons]
        exact ((isort_perm _).append g2).trans (by rw [t3])
      · have l : ((A.length + 20 : Nat) : Int) ≤ (n : Int) := Int.ofNat_le.2 (by omega)
        have w : wrap64 (((A.length + 20 : Nat) : Int) + 20) = ((A.length + 20 + 20 : Nat) : Int) := wadd (i := 20) rfl (by omega)
        rw [if_pos l, e]
        simp only [Option.bind_some]
        rw [w, List.flatten_cons, ← List.append_assoc]
        exact g4
    · refine ⟨[isort T], ⟨.inr ⟨by rw [(isort_perm _).length_eq]; omega, rfl⟩, isort_sorted _, trivial⟩, by simpa using isort_perm T, k, by omega, ?_⟩
      have e := ins_f A T [] (by omega) (by omega) k (by omega) c
      rw [h2, List.append_nil] at e
      have l : ¬ ((A.length + 20 : Nat) : Int) ≤ (n : Int) := fun h => by have := Int.ofNat_le.1 h; omega
      rw [if_neg l, e]
      simp
theorem stb_l2 (n s : Nat) (c : Int) (hs : 0 < s) (hs2 : s ≤ 1000) (hn : n ≤ 1000) (d : Nat) : ∀ (cs : List (List S27)) (A : List S27) (k : Nat), cs.flatten.length ≤ d → A.length + cs.flatten.length = n → Ch s cs → d + 8000000 < k → ∃ cs', Ch (2 * s) cs' ∧ cs'.flatten.Perm cs.flatten ∧ ∃ k', k ≤ k' + d + 1 ∧ impl_Entry_67.l2 k (A ++ cs.flatten) (n : Int) c (s : Int) (A.length : Int) ((A.length + 2 * s : Nat) : Int) = impl_Entry_67.l1 k' (A ++ cs'.flatten) (n : Int) c ((2 * s : Nat) : Int) := by
  induction d with
  | zero =>
    intro cs A k h1 h2 hc hk
    obtain ⟨k, rfl⟩ := fuel (show 0 < k by omega)
    have hf : cs.flatten = [] := List.eq_nil_of_length_eq_zero (by omega)
    refine ⟨[], trivial, by rw [hf]; exact .refl _, k, by omega, ?_⟩
    have l : ¬ ((A.length + 2 * s : Nat) : Int) ≤ (n : Int) := fun h => by have := Int.ofNat_le.1 h; omega
    have w1 : Unit → wrap64 ((A.length : Int) + (s : Int)) = ((A.length + s : Nat) : Int) := fun _ => wadd rfl (by omega)
    have w2 : Unit → wrap64 ((s : Int) * 2) = ((2 * s : Nat) : Int) := fun _ => by rw [w64 (by omega) (by omega)]; omega
    have l2 : ¬ ((A.length + s : Nat) : Int) < (n : Int) := fun h => by have := Int.ofNat_lt.1 h; omega
    simp only [impl_Entry_67.l2]
    rw [if_neg l, w1 (), if_neg l2, w2 (), hf]; rfl
  | succ d ih =>
    intro cs A k h1 h2 hc hk
    obtain ⟨k, rfl⟩ := fuel (show 0 < k by omega)
    have w1 : Unit → wrap64 ((A.length : Int) + (s : Int)) = ((A.length + s : Nat) : Int) := fun _ => wadd rfl (by omega)
    have w2 : Unit → wrap64 ((s : Int) * 2) = ((2 * s : Nat) : Int) := fun _ => by rw [w64 (by omega) (by omega)]; omega
    have w3 : Unit → wrap64 (2 * (s : Int)) = ((2 * s : Nat) : Int) := fun _ => by rw [w64 (by omega) (by omega)]; omega
    have small : ∀ {m : Nat}, A.length + m = n → m < 2 * s → ¬ ((A.length + 2 * s : Nat) : Int) ≤ (n : Int) := fun a b h => by have := Int.ofNat_le.1 h; omega
    have no2 : ∀ {m : Nat}, A.length + m = n → m ≤ s → ¬ ((A.length + s : Nat) : Int) < (n : Int) := fun a b h => by have := Int.ofNat_lt.1 h; omega
    have alone : ∀ xs : List S27, cs.flatten = xs → xs.length ≤ s → Sd xs → ∃ cs', Ch (2 * s) cs' ∧ cs'.flatten.Perm cs.flatten ∧ ∃ k', k + 1 ≤ k' + (d + 1) + 1 ∧ impl_Entry_67.l2 (k + 1) (A ++ cs.flatten) (n : Int) c (s : Int) (A.length : Int) ((A.length + 2 * s : Nat) : Int) = impl_Entry_67.l1 k' (A ++ cs'.flatten) (n : Int) c ((2 * s : Nat) : Int) := fun xs e1 e2 e3 => by
      refine ⟨[xs], ⟨.inr ⟨by omega, rfl⟩, e3, trivial⟩, by rw [e1]; simp, k, by omega, ?_⟩
      rw [e1] at h2
      simp only [impl_Entry_67.l2]
      rw [if_neg (small h2 (by omega)), w1 (), if_neg (no2 h2 e2), w2 (), e1]; simp
    cases cs with
    | nil => exact alone [] rfl (by simp) .nil
    | cons c1 cs =>
      obtain ⟨q1, q2, q3⟩ := hc
      cases cs with
      | nil => exact alone c1 (by simp) (by rcases q1 with q1 | q1; exact Nat.le_of_eq q1; exact q1.1) q2
      | cons c2 cs =>
        obtain ⟨r1, r2, r3⟩ := q3
        have l1 : c1.length = s := by
          rcases q1 with q1 | q1
          · exact q1
          · exact absurd q1.2 (by simp)
        have lf : (c1 :: c2 :: cs).flatten.length = s + c2.length + cs.flatten.length := by simp [l1, Nat.add_assoc]
        have n1 : c1 ≠ [] := fun h => by rw [h] at l1; simp at l1; omega
        have ef : A ++ (c1 :: c2 :: cs).flatten = A ++ c1 ++ c2 ++ cs.flatten := by simp
        rw [lf] at h1 h2
        by_cases l2 : c2.length = s
        · have n2 : c2 ≠ [] := fun h => by rw [h] at l2; simp at l2; omega
          obtain ⟨R, e, p, sd⟩ := sym_ok 1000 A c1 c2 cs.flatten c k (by omega) n1 n2 (by omega) (by omega)
          rw [l1, l2, show A.length + s + s = A.length + 2 * s by omega] at e
          have lR : R.length = 2 * s := by rw [p.length_eq, List.length_append, l1, l2]; omega
          obtain ⟨cs', g1, g2, k', g3, g4⟩ := ih cs (A ++ R) k (by omega) (by rw [List.length_append, lR]; omega) r3 (by omega)
          rw [List.length_append, lR] at g4
          refine ⟨R :: cs', ⟨.inl lR, sd q2 r2, g1⟩, ?_, k', by omega, ?_⟩
          · rw [List.flatten_cons, List.flatten_cons, List.flatten_cons, ← List.append_assoc]
            exact p.append g2
          · have l : ((A.length + 2 * s : Nat) : Int) ≤ (n : Int) := Int.ofNat_le.2 (by omega)
            have w4 : Unit → wrap64 (((A.length + 2 * s : Nat) : Int) + ((2 * s : Nat) : Int)) = ((A.length + 2 * s + 2 * s : Nat) : Int) := fun _ => wadd rfl (by omega)
            simp only [impl_Entry_67.l2]
            rw [if_pos l, w1 (), ef, e]
            simp only [Option.bind_some]
            rw [w3 (), w4 (), g4, List.flatten_cons, List.append_assoc]
        · have r4 : c2.length ≤ s ∧ cs = [] := by
            rcases r1 with r1 | r1
            · exact absurd r1 l2
            · exact r1
          obtain ⟨r4, rfl⟩ := r4
          simp only [List.flatten_nil, List.length_nil, Nat.add_zero] at h1 h2
          by_cases n2 : c2 = []
          · subst n2
            exact alone c1 (by simp) (Nat.le_of_eq l1) q2
          · obtain ⟨R, e, p, sd⟩ := sym_ok 1000 A c1 c2 [] c k (by omega) n1 n2 (by simp; omega) (by omega)
            rw [l1, show A.length + s + c2.length = n by omega] at e
            have lR : R.length = s + c2.length := by rw [p.length_eq, List.length_append, l1]
            refine ⟨[R], ⟨.inr ⟨by omega, rfl⟩, sd q2 r2, trivial⟩, by simpa using p, k, by omega, ?_⟩
            have p2 := ne_pos n2
            have l5 : ((A.length + s : Nat) : Int) < (n : Int) := ltI (by omega)
            simp only [impl_Entry_67.l2]
            rw [if_neg (small (m := s + c2.length) (by omega) (by omega)), w1 (), if_pos l5, ef, List.flatten_nil, e]
            simp only [Option.bind_some]
            rw [w2 ()]; simp
theorem ch_sorted (s : Nat) : ∀ cs : List (List S27), Ch s cs → cs.flatten.length ≤ s → Sd cs.flatten := by
  intro cs
  cases cs with
  | nil => intro _ _; exact .nil
  | cons c cs =>
    intro h hl
    obtain ⟨q1, q2, q3⟩ := h
    rw [List.flatten_cons] at hl ⊢
    rw [List.length_append] at hl
    have : cs.flatten = [] := by
      rcases q1 with q1 | q1
      · exact List.eq_nil_of_length_eq_zero (by omega)
      · rw [q1.2]; rfl
    rw [this, List.append_nil]; exact q2
theorem stb_l1 (n : Nat) (c : Int) (hn : n ≤ 1000) (d : Nat) : ∀ (s : Nat) (cs : List (List S27)) (k : Nat), n ≤ s + d → 0 < s → s ≤ 2000 → Ch s cs → cs.flatten.length = n → 2000 * d + 9000000 < k → ∃ ys, impl_Entry_67.l1 k cs.flatten (n : Int) c (s : Int) = some ys ∧ ys.Perm cs.flatten ∧ Sd ys := by
  induction d with
  | zero =>
    intro s cs k h1 h2 h3 hc hl hk
    obtain ⟨k, rfl⟩ := fuel (show 0 < k by omega)
    refine ⟨cs.flatten, ?_, .refl _, ch_sorted s cs hc (by omega)⟩
    simp only [impl_Entry_67.l1]
    rw [if_neg (by omega)]
  | succ d ih =>
    intro s cs k h1 h2 h3 hc hl hk
    obtain ⟨k, rfl⟩ := fuel (show 0 < k by omega)
    simp only [impl_Entry_67.l1]
    by_cases c1 : s < n
    · obtain ⟨cs', g1, g2, k', g3, g4⟩ := stb_l2 n s c h2 (by omega) hn 1000 cs [] k (by omega) (by simpa using hl) hc (by omega)
      have w3 : Unit → wrap64 (2 * (s : Int)) = ((0 + 2 * s : Nat) : Int) := fun _ => by rw [w64 (by omega) (by omega)]; omega
      simp only [List.nil_append, List.length_nil] at g4
      rw [if_pos (ltI c1), w3 ()]
      obtain ⟨ys, y1, y2, y3⟩ := ih (2 * s) cs' k' (by omega) (by omega) (by omega) g1 (by rw [g2.length_eq]; exact hl) (by omega)
      exact ⟨ys, g4.trans y1, y2.trans g2, y3⟩
    · rw [if_neg (by omega)]
      exact ⟨cs.flatten, rfl, .refl _, ch_sorted s cs hc (by omega)⟩
theorem sort_f (xs : List S27) (hn : xs.length ≤ 1000) (c : Int) (k : Nat) (hk : 20000000 < k) : ∃ ys, impl_Entry_53.f k xs c = some ys ∧ ys.Perm xs ∧ Sd ys := by
  unfold impl_Entry_53.f impl_Entry_67.f
  obtain ⟨cs, h1, h2, k', h3, h4⟩ := stb_l0 xs.length c 1000 [] xs k hn (by simp) hn (by omega)
  simp only [List.nil_append, List.length_nil, Nat.zero_add] at h4
  obtain ⟨ys, y1, y2, y3⟩ := stb_l1 xs.length c hn 1000 20 cs k' (by omega) (by omega) (by omega) h1 h2.length_eq (by omega)
  refine ⟨ys, ?_, y2.trans h2, y3⟩
  have : impl_Entry_67.l0 k xs (xs.length : Int) c 20 0 20 = some ys := h4.trans y1
  rw [this]; rfl

/-! #### run2 -/
theorem runL_of (xs : List S27) (hl : xs.length ≤ 40) (d : Nat) : ∀ i, (∀ j, i ≤ j → j < i + d → stepB xs j = true) → runL xs d i = true := by
  induction d with
  | zero => intro i _; simp [runL]; omega
  | succ d ih =>
    intro i h
    simp only [runL, Bool.and_eq_true]
    exact ⟨h i (by omega) (by omega), ih (i + 1) fun j a b => h j (by omega) (by omega)⟩
theorem runB_of2 {xs : List S27} (hl : xs.length ≤ 40) (he : ∀ x ∈ xs, entryB x = true) (hp : xs.Pairwise (fun x y => aheadB x y = true)) : runB xs = true := by
  refine runL_of xs hl xs.length 0 fun j _ hj => ?_
  have hj : j < xs.length := by omega
  simp only [stepB, Bool.and_eq_true, Bool.or_eq_true]
  rw [rdE xs j hj]
  refine ⟨he _ (List.getElem_mem hj), ?_⟩
  by_cases h0 : j = 0
  · exact .inl (by simp [h0])
  · obtain ⟨i, rfl⟩ : ∃ i, j = i + 1 := ⟨j - 1, by omega⟩
    rw [show ((i + 1 : Nat) : Int) - 1 = (i : Int) by omega, rdE xs i (by omega)]
    exact .inr (List.pairwise_iff_getElem.1 hp i (i + 1) (by omega) hj (by omega))
theorem run_sub {xs ys : List S27} (hr : runB xs = true) (h : ys.Sublist xs) : runB ys = true :=
  runB_of2 (Nat.le_trans h.length_le (runB_len hr)) (fun x hx => runB_entry hr x (h.subset hx)) ((run_pw hr).sublist h)

/-! #### joinThy: two runs as one -/
abbrev Str (l : List S27) : Prop := l.Pairwise fun x y => aheadB x y = true
abbrev NoTie (l : List S27) : Prop := l.Pairwise fun x y => aheadB x y = true ∨ aheadB y x = true
theorem noTie_perm {l1 l2 : List S27} (h : l1.Perm l2) (n : NoTie l1) : NoTie l2 := (h.pairwise_iff (fun {x y} h => h.symm)).1 n
theorem str_noTie {l : List S27} (h : Str l) : NoTie l := h.imp fun h => .inl h
theorem sd_str {l : List S27} (h : Sd l) (n : NoTie l) : Str l := (List.pairwise_and_iff.2 ⟨h, n⟩).imp fun {x y} h => by
  rcases h.2 with g | g
  · exact g
  · rw [h.1] at g; cases g
theorem str_eq : ∀ l1 l2 : List S27, Str l1 → Str l2 → (∀ x, x ∈ l1 ↔ x ∈ l2) → l1 = l2 := by
  intro l1
  induction l1 with
  | nil =>
    intro l2 _ _ h
    cases l2 with
    | nil => rfl
    | cons y l2 => exact absurd ((h y).2 (by simp)) (by simp)
  | cons x l1 ih =>
    intro l2 h1 h2 h
    cases l2 with
    | nil => exact absurd ((h x).1 (by simp)) (by simp)
    | cons y l2 =>
      obtain ⟨a1, a2⟩ := List.pairwise_cons.1 h1
      obtain ⟨b1, b2⟩ := List.pairwise_cons.1 h2
      have irr : ∀ {z : S27}, ¬ aheadB z z = true := fun {z} hz => by rw [ahead_irr] at hz; cases hz
      have hxy : x = y := by
        rcases List.mem_cons.1 ((h x).1 (by simp)) with e | e
        · exact e
        · rcases List.mem_cons.1 ((h y).2 (by simp)) with e' | e'
          · exact e'.symm
          · exact absurd (ahead_trans (a1 y e') (b1 x e)) irr
      subst hxy
      refine congrArg _ (ih l2 a2 b2 fun z => ⟨fun hz => ?_, fun hz => ?_⟩)
      · rcases List.mem_cons.1 ((h z).1 (List.mem_cons_of_mem _ hz)) with e | e
        · subst e; exact absurd (a1 z hz) irr
        · exact e
      · rcases List.mem_cons.1 ((h z).2 (List.mem_cons_of_mem _ hz)) with e | e
        · subst e; exact absurd (b1 z hz) irr
        · exact e
theorem merge_perm (a b : List S27) : (List.merge a b aheadB).Perm (a ++ b) := List.merge_perm_append (le := aheadB)
theorem merge_str : ∀ a b : List S27, Str a → Str b → NoTie (a ++ b) → Str (List.merge a b aheadB) := by
  intro a
  induction a with
  | nil => intro b _ hb _; rw [List.nil_merge]; exact hb
  | cons x a iha =>
    intro b
    induction b with
    | nil => intro ha _ _; rw [List.merge_right]; exact ha
    | cons y b ihb =>
      intro ha hb hn
      obtain ⟨a1, a2⟩ := List.pairwise_cons.1 ha
      obtain ⟨b1, b2⟩ := List.pairwise_cons.1 hb
      rw [List.cons_merge_cons]
      have hxy : aheadB x y = true ∨ aheadB y x = true := (List.pairwise_append.1 hn).2.2 x (by simp) y (by simp)
      split
      · rename_i c
        refine List.pairwise_cons.2 ⟨fun z hz => ?_, iha (y :: b) a2 hb ((List.pairwise_cons.1 hn).2)⟩
        rcases List.mem_append.1 ((merge_perm a (y :: b)).mem_iff.1 hz) with hz | hz
        · exact a1 z hz
        · rcases List.mem_cons.1 hz with rfl | hz
          · exact c
          · exact ahead_trans c (b1 z hz)
      · rename_i c
        have c' : aheadB y x = true := by
          rcases hxy with h | h
          · exact absurd h c
          · exact h
        refine List.pairwise_cons.2 ⟨fun z hz => ?_, ihb ha b2 (hn.sublist (List.Sublist.append_left (List.sublist_cons_self y b) (x :: a)))⟩
        rcases List.mem_append.1 ((merge_perm (x :: a) b).mem_iff.1 hz) with hz | hz
        · rcases List.mem_cons.1 hz with rfl | hz
          · exact c'
          · exact ahead_trans c' (a1 z hz)
        · exact b1 z hz
theorem run_str {l : List S27} (h : runB l = true) : Str l := run_pw h
/-- A row in order of two runs' entries is a run just where the joined one is; then it is that one. -/
theorem join_eq {a b ys : List S27} (ha : runB a = true) (hb : runB b = true) (hp : ys.Perm (a ++ b)) (hs : Sd ys) : runB ys = runB (List.merge a b aheadB) ∧ (runB ys = true → ys = List.merge a b aheadB) := by
  have hm := merge_perm a b
  have key : NoTie (a ++ b) → ys = List.merge a b aheadB := fun n =>
    str_eq _ _ (sd_str hs (noTie_perm hp.symm n)) (merge_str a b (run_str ha) (run_str hb) n) fun x => hp.mem_iff.trans hm.mem_iff.symm
  refine ⟨?_, fun h => key (noTie_perm hp (str_noTie (run_str h)))⟩
  cases h1 : runB ys <;> cases h2 : runB (List.merge a b aheadB)
  · rfl
  · rw [key (noTie_perm hm (str_noTie (run_str h2))), h2] at h1; cases h1
  · rw [← key (noTie_perm hp (str_noTie (run_str h1))), h1] at h2; cases h2
  · rfl
def joinF (a b : List S27) : List S27 × Bool := if (runB a && (runB b && runB (List.merge a b aheadB))) = true then (List.merge a b aheadB, true) else ([], false)
theorem joinF_true {a b x : List S27} (h : joinF a b = (x, true)) : runB a = true ∧ runB b = true ∧ runB x = true ∧ x = List.merge a b aheadB := by
  unfold joinF at h
  split at h
  · rename_i c
    simp only [Bool.and_eq_true] at c
    injection h with h1 _
    exact ⟨c.1, c.2.1, h1 ▸ c.2.2, h1.symm⟩
  · injection h with _ h2; cases h2
/-- Runs whose entries are those of a run join to it. -/
theorem joinF_of {a b x : List S27} (ha : runB a = true) (hb : runB b = true) (hx : runB x = true) (hp : x.Perm (a ++ b)) : joinF a b = (x, true) := by
  have e := str_eq x (List.merge a b aheadB) (run_str hx) (merge_str a b (run_str ha) (run_str hb) (noTie_perm hp (str_noTie (run_str hx)))) fun z => hp.mem_iff.trans (merge_perm a b).mem_iff.symm
  unfold joinF
  rw [← e, ha, hb, hx]; rfl
theorem joinF_len (a b : List S27) : (joinF a b).1.length ≤ a.length + b.length := by
  unfold joinF
  split
  · rw [(merge_perm a b).length_eq, List.length_append]; omega
  · simp
theorem joinF_mem {a b : List S27} {z : S27} (h : z ∈ (joinF a b).1) : z ∈ a ∨ z ∈ b := by
  unfold joinF at h
  split at h
  · exact List.mem_append.1 ((merge_perm a b).mem_iff.1 h)
  · simp at h

/-! #### joinFs: what the two functions compute -/
theorem merge_size {a b : List S27} {B : Nat} (ha : ∀ x ∈ a, x.f0.size ≤ 9223372036854775807 ∧ x.f0.size < B) (hb : ∀ x ∈ b, x.f0.size ≤ 9223372036854775807 ∧ x.f0.size < B) : ∀ x ∈ List.merge a b aheadB, x.f0.size ≤ 9223372036854775807 ∧ x.f0.size < B := fun x hx => by
  rcases List.mem_append.1 ((merge_perm a b).mem_iff.1 hx) with hx | hx
  · exact ha x hx
  · exact hb x hx
theorem specRunJoin_f (a b : List S27) (ha : a.length ≤ 1100000) (hb : b.length ≤ 1100000) (B : Nat) (oa : ∀ x ∈ a, x.f0.size ≤ 9223372036854775807 ∧ x.f0.size < B) (ob : ∀ x ∈ b, x.f0.size ≤ 9223372036854775807 ∧ x.f0.size < B) (k : Nat) (hk : 30000000 + B < k) : spec_RunJoin.f k a b = some (joinF a b) := by
  unfold spec_RunJoin.f joinF
  have fin : ∀ (k : Nat) (t : Bool), 29000000 + B < k → spec_RunJoin.j0 k a b t = some (if (!t && runB (List.merge a b aheadB)) = true then (List.merge a b aheadB, true) else ([], false)) := by
    intro k t hk
    obtain ⟨k, rfl⟩ := fuel (show 0 < k by omega)
    simp only [spec_RunJoin.j0]
    cases t
    · have hl := (merge_perm a b).length_eq
      rw [List.length_append] at hl
      rw [if_neg (by simp), specJoin_f a b (by omega) (by omega) k (by omega)]
      simp only [Option.bind_some]
      rw [specRunOk_f _ (by omega) B (merge_size oa ob) k (by omega)]
      simp only [Option.bind_some]
      cases runB (List.merge a b aheadB) <;> simp
    · simp
  rw [specRunOk_f a (by omega) B oa k (by omega)]
  simp only [Option.bind_some]
  cases runB a
  · rw [if_neg (by simp), fin k true (by omega)]; simp
  · rw [if_pos rfl, specRunOk_f b (by omega) B ob k (by omega)]
    simp only [Option.bind_some]
    rw [fin k _ (by omega)]
    cases runB b <;> simp
theorem implRunJoin_f (a b : List S27) (ha : a.length ≤ 1100000) (hb : b.length ≤ 1100000) (B : Nat) (oa : ∀ x ∈ a, x.f0.size ≤ 9223372036854775807 ∧ x.f0.size < B) (ob : ∀ x ∈ b, x.f0.size ≤ 9223372036854775807 ∧ x.f0.size < B) (k : Nat) (hk : 30000000 + B < k) : impl_RunJoin.f k a b = some (joinF a b) := by
  unfold impl_RunJoin.f joinF
  have yes : ∀ (k : Nat), 29000000 + B < k → impl_RunJoin.j0 k a b true = some ([], false) := by
    intro k hk
    obtain ⟨k, rfl⟩ := fuel (show 0 < k by omega)
    simp only [impl_RunJoin.j0, if_true]
  rw [implRunOk_f a (by omega) B oa k (by omega)]
  simp only [Option.bind_some]
  cases h1 : runB a
  · rw [if_neg (by simp), yes k (by omega)]; simp
  · rw [if_pos rfl, implRunOk_f b (by omega) B ob k (by omega)]
    simp only [Option.bind_some]
    cases h2 : runB b
    · rw [Bool.not_false, yes k (by omega)]; simp
    · obtain ⟨k, rfl⟩ := fuel (show 0 < k by omega)
      have l1 := runB_len h1
      have l2 := runB_len h2
      obtain ⟨ys, e, p, s⟩ := sort_f (a ++ b) (by rw [List.length_append]; omega) 0 k (by omega)
      obtain ⟨e1, e2⟩ := join_eq h1 h2 p s
      have hy : ys.length ≤ 1000 := by rw [p.length_eq, List.length_append]; omega
      simp only [Bool.not_true, impl_RunJoin.j0]
      rw [if_neg (by simp), if_pos (by omega), if_pos (by omega), e]
      simp only [Option.bind_some]
      rw [implRunOk_f ys (by omega) B (fun x hx => by
        rcases List.mem_append.1 (p.mem_iff.1 hx) with hx | hx
        · exact oa x hx
        · exact ob x hx) k (by omega)]
      simp only [Option.bind_some]
      rw [← e1]
      cases h3 : runB ys
      · simp
      · rw [← e2 h3]; simp

/-! #### drawJoin -/
theorem drawRunJoin_f (l : List Int) (hl : ∀ x ∈ l, 0 ≤ x ∧ x ≤ 255) (k : Nat) (hk : 10000000 < k) : ∃ a b, spec_DrawRunJoin.f k l = some (a, b) ∧ a.length ≤ 41 ∧ (∀ x ∈ a, x.f0.size ≤ 6) ∧ b.length ≤ 41 ∧ (∀ x ∈ b, x.f0.size ≤ 6) := by
  unfold spec_DrawRunJoin.f
  obtain ⟨z, h, hz⟩ := open_f l hl
  rw [h]; simp only [Option.bind_some]
  obtain ⟨a, c, h, a1, a2, a3, a4⟩ := off_f z hz 0 (by omega) (by omega) k hk
  rw [h]; simp only [Option.bind_some]
  obtain ⟨b, c2, h, b1, b2, b3, b4⟩ := off_f z hz c (by omega) (by omega) k hk
  rw [h]; simp only [Option.bind_some]
  exact ⟨_, _, rfl, a1, a2, b1, b2⟩

theorem byte_wf {x : Int} (h : (Lit.int .u8 x).wf = true) : 0 ≤ x ∧ x ≤ 255 := by
  simp only [Lit.wf, Bool.and_eq_true, decide_eq_true_eq] at h
  exact h

end Go.Proofs.Ytkifijclehgiaaa.PFnRunJoinAt
