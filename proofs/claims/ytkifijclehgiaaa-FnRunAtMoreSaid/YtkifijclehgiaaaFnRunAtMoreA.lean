/-
  The plain law of FnRunAtMore: what the printed functions compute answers true, for every argument that fits; and the lemmas on each function that it reaches. No condition beyond that numbers are of their kind and lengths within a slice's.
-/
import Derived.Test.YtkifijclehgiaaaPFnRunAtMorex2
import Derived.Test.YtkifijclehgiaaaPFnRunAtMorex3
import Derived.Test.YtkifijclehgiaaaPFnRunAtMorex4
import Derived.Test.YtkifijclehgiaaaPFnRunAtMorex5
import Derived.Test.YtkifijclehgiaaaPFnRunAtMorex6
import Derived.Test.YtkifijclehgiaaaPFnRunAtMorex7
import Derived.Test.YtkifijclehgiaaaPFnRunAtMorex8
import Derived.Test.YtkifijclehgiaaaPFnRunAtMorex9
namespace Go.Proofs.Ytkifijclehgiaaa.PFnRunAtMore
open Go.RowKit Go.Proofs.YtkifijclehgiaaaW.PrintWords Go.Proofs.YtkifijclehgiaaaW.PrintLast Go.Proofs.YtkifijclehgiaaaW.PrintMore
set_option linter.unusedVariables false
set_option linter.unusedSimpArgs false

/-! #### base -/
theorem w64 {x : Int} (h0 : -9223372036854775808 ≤ x) (h1 : x ≤ 9223372036854775807) : wrap64 x = x := by unfold wrap64; omega
theorem toList_inj {a b : ByteArray} (h : a.toList = b.toList) : a = b := by
  rw [ByteArray.toList_eq, ByteArray.toList_eq] at h
  exact ByteArray.ext (Array.ext' h)
theorem fuel {k d : Nat} (h : d < k) : ∃ m, k = m + 1 := ⟨k - 1, by omega⟩

theorem rdE (xs : List S27) (n : Nat) (h : n < xs.length) : rd_T27 xs (n : Int) = xs[n] := by simp [rd_T27, List.getD, h]
instance : DecidableEq S27 := fun a b => decidable_of_iff (a.f0 = b.f0 ∧ a.f1 = b.f1 ∧ a.f2 = b.f2 ∧ a.f3 = b.f3) (by cases a; cases b; simp)

/-! #### runOk -/
def inB (a lo hi : Int) : Bool := decide (lo ≤ a) && decide (a ≤ hi)
theorem specIn_f (a b c : Int) : spec_l6In.f a b c = some (inB a b c) := by
  unfold spec_l6In.f inB
  by_cases h : b ≤ a <;> simp [h]
theorem implIn_f (a b c : Int) : impl_in.f a b c = some (inB a b c) := by
  unfold impl_in.f inB
  by_cases h : b ≤ a <;> simp [h]
def keyL (a : ByteArray) : Nat → Nat → Bool
  | 0, _ => decide ((a.size : Int) ≤ 5)
  | d + 1, i => inB (bt a (i : Int)) 97 100 && keyL a d (i + 1)
def keyB (a : ByteArray) : Bool := keyL a a.size 0
theorem specKey_l (a : ByteArray) (hn : a.size ≤ 9223372036854775807) (d : Nat) : ∀ (k i : Nat), i ≤ a.size → a.size - i = d → d < k → spec_KeyOk.l0 k a (i : Int) = some (keyL a d i) := by
  induction d with
  | zero =>
    intro k i h1 hd hk
    obtain ⟨k, rfl⟩ := fuel hk
    simp only [spec_KeyOk.l0]; rw [if_neg (by omega)]; rfl
  | succ d ih =>
    intro k i h1 hd hk
    obtain ⟨k, rfl⟩ := fuel hk
    obtain ⟨b1, b2⟩ := bt_range a (i : Int)
    simp only [spec_KeyOk.l0]; rw [if_pos (by omega), if_pos (by omega), w64 (x := bt a (i : Int)) (by omega) (by omega), specIn_f, w64 (by omega) (by omega)]
    have := ih k (i + 1) (by omega) (by omega) (by omega)
    simp only [Option.bind_some, keyL]
    cases inB (bt a (i : Int)) 97 100
    · simp
    · simpa using this
theorem specKey_f (a : ByteArray) (hn : a.size ≤ 9223372036854775807) (k : Nat) (hk : a.size < k) : spec_KeyOk.f k a = some (keyB a) := specKey_l a hn a.size k 0 (by omega) (by omega) hk
theorem implKey_l (a : ByteArray) (hn : a.size ≤ 9223372036854775807) (d : Nat) : ∀ (k i : Nat), i ≤ a.size → a.size - i = d → d < k → impl_KeyOk.l0 k a (a.size : Int) (i : Int) = some (keyL a d i) := by
  induction d with
  | zero =>
    intro k i h1 hd hk
    obtain ⟨k, rfl⟩ := fuel hk
    simp only [impl_KeyOk.l0]; rw [if_neg (by omega)]; rfl
  | succ d ih =>
    intro k i h1 hd hk
    obtain ⟨k, rfl⟩ := fuel hk
    simp only [impl_KeyOk.l0]; rw [if_pos (by omega), if_pos (by omega), if_pos (by omega), w64 (by omega) (by omega)]
    have := ih k (i + 1) (by omega) (by omega) (by omega)
    simp only [keyL, inB]
    by_cases c1 : bt a (i : Int) < 97
    · rw [if_pos c1]; simp [show ¬ (97 ≤ bt a (i : Int)) by omega]
    · rw [if_neg c1]
      by_cases c2 : bt a (i : Int) > 100
      · rw [if_pos c2]; simp [show ¬ (bt a (i : Int) ≤ 100) by omega]
      · rw [if_neg c2]; simpa [show 97 ≤ bt a (i : Int) by omega, show bt a (i : Int) ≤ 100 by omega] using this
theorem implKey_f (a : ByteArray) (hn : a.size ≤ 9223372036854775807) (k : Nat) (hk : a.size < k) : impl_KeyOk.f k a = some (keyB a) := implKey_l a hn a.size k 0 (by omega) (by omega) hk
def entryB (e : S27) : Bool := keyB e.f0 && (inB e.f1 0 99 && (if e.f2 = true then decide (e.f1 = 0) && inB e.f3 1 999 else inB e.f3 1 999))
theorem specEntry_f (e : S27) (hn : e.f0.size ≤ 9223372036854775807) (k : Nat) (hk : e.f0.size < k) : spec_l11Ok.f k e.f0 e.f1 e.f2 e.f3 = some (entryB e) := by
  unfold spec_l11Ok.f entryB
  rw [specKey_f _ hn k hk]
  simp only [Option.bind_some, specIn_f]
  cases keyB e.f0 <;> cases inB e.f1 0 99 <;> cases e.f2 <;> by_cases h : e.f1 = 0 <;> simp [h]
theorem implEntry_f (e : S27) (hn : e.f0.size ≤ 9223372036854775807) (k : Nat) (hk : e.f0.size < k) : impl_entryOk.f k e.f0 e.f1 e.f2 e.f3 = some (entryB e) := by
  unfold impl_entryOk.f entryB
  rw [implKey_f _ hn k hk]
  simp only [Option.bind_some, implIn_f]
  cases keyB e.f0 <;> cases inB e.f1 0 99 <;> cases e.f2 <;> by_cases h : e.f1 = 0 <;> simp [h]
def aheadB (a b : S27) : Bool := Go.Op.bytesLess a.f0.toList b.f0.toList || (decide (a.f0.toList = b.f0.toList) && decide (a.f3 > b.f3))
theorem specAhead_f (a b : S27) : spec_l11Ahead.f a.f0 a.f1 a.f2 a.f3 b.f0 b.f1 b.f2 b.f3 = some (aheadB a b) := by
  unfold spec_l11Ahead.f aheadB
  cases Go.Op.bytesLess a.f0.toList b.f0.toList <;> by_cases h : a.f0.toList = b.f0.toList <;> simp [h]
theorem implBefore_f (a b : S27) : impl_before.f a.f0 a.f1 a.f2 a.f3 b.f0 b.f1 b.f2 b.f3 = some (aheadB a b) := by
  unfold impl_before.f aheadB
  cases Go.Op.bytesLess a.f0.toList b.f0.toList <;> by_cases h : a.f0.toList = b.f0.toList <;> simp [h]
def stepB (xs : List S27) (i : Nat) : Bool := entryB (rd_T27 xs (i : Int)) && (decide (i = 0) || aheadB (rd_T27 xs ((i : Int) - 1)) (rd_T27 xs (i : Int)))
def runL (xs : List S27) : Nat → Nat → Bool
  | 0, _ => decide ((xs.length : Int) ≤ 40)
  | d + 1, i => stepB xs i && runL xs d (i + 1)
def runB (xs : List S27) : Bool := runL xs xs.length 0
theorem specRunOk_l (xs : List S27) (hn : xs.length ≤ 9223372036854775806) (B : Nat) (ho : ∀ x ∈ xs, x.f0.size ≤ 9223372036854775807 ∧ x.f0.size < B) (d : Nat) : ∀ (k i : Nat), i ≤ xs.length → xs.length - i = d → d + B < k → spec_RunOk.l0 k xs (i : Int) = some (runL xs d i) := by
  induction d with
  | zero =>
    intro k i h1 hd hk
    obtain ⟨k, rfl⟩ := fuel hk
    simp only [spec_RunOk.l0]; rw [if_neg (by omega)]; rfl
  | succ d ih =>
    intro k i h1 hd hk
    obtain ⟨k, rfl⟩ := fuel hk
    have hlt : i < xs.length := by omega
    have ho' := ho xs[i] (List.getElem_mem hlt)
    have := ih k (i + 1) (by omega) (by omega) (by omega)
    simp only [spec_RunOk.l0]; rw [if_pos (by omega), if_pos (by omega), specEntry_f (rd_T27 xs (i : Int)) (by rw [rdE xs i hlt]; exact ho'.1) k (by rw [rdE xs i hlt]; omega), w64 (x := (i : Int) - 1) (by omega) (by omega), specAhead_f, w64 (by omega) (by omega)]
    simp only [Option.bind_some, runL, stepB]
    cases entryB (rd_T27 xs (i : Int))
    · simp
    · by_cases h0 : i = 0
      · subst h0; simpa using this
      · rw [if_pos rfl, if_pos (by omega), if_pos (by omega), if_pos (by omega)]
        cases aheadB (rd_T27 xs ((i : Int) - 1)) (rd_T27 xs (i : Int))
        · simp [h0]
        · simpa [h0] using this
theorem implRunOk_l (xs : List S27) (hn : xs.length ≤ 9223372036854775806) (B : Nat) (ho : ∀ x ∈ xs, x.f0.size ≤ 9223372036854775807 ∧ x.f0.size < B) (d : Nat) : ∀ (k i : Nat), i ≤ xs.length → xs.length - i = d → d + B < k → impl_RunOk.l0 k xs xs (xs.length : Int) (i : Int) = some (runL xs d i) := by
  induction d with
  | zero =>
    intro k i h1 hd hk
    obtain ⟨k, rfl⟩ := fuel hk
    simp only [impl_RunOk.l0]; rw [if_neg (by omega)]; rfl
  | succ d ih =>
    intro k i h1 hd hk
    obtain ⟨k, rfl⟩ := fuel hk
    have hlt : i < xs.length := by omega
    have ho' := ho xs[i] (List.getElem_mem hlt)
    have := ih k (i + 1) (by omega) (by omega) (by omega)
    simp only [impl_RunOk.l0]; rw [if_pos (by omega), if_pos (by omega), if_pos (by omega), implEntry_f (rd_T27 xs (i : Int)) (by rw [rdE xs i hlt]; exact ho'.1) k (by rw [rdE xs i hlt]; omega), w64 (x := (i : Int) - 1) (by omega) (by omega), implBefore_f, w64 (by omega) (by omega)]
    simp only [Option.bind_some, runL, stepB]
    cases entryB (rd_T27 xs (i : Int))
    · simp
    · by_cases h0 : i = 0
      · subst h0; simpa using this
      · rw [if_pos rfl, if_pos (by omega), if_pos (by omega), if_pos (by omega)]
        cases aheadB (rd_T27 xs ((i : Int) - 1)) (rd_T27 xs (i : Int))
        · simp [h0]
        · simpa [h0] using this
theorem specRunOk_f (xs : List S27) (hn : xs.length ≤ 9223372036854775806) (B : Nat) (ho : ∀ x ∈ xs, x.f0.size ≤ 9223372036854775807 ∧ x.f0.size < B) (k : Nat) (hk : xs.length + B < k) : spec_RunOk.f k xs = some (runB xs) := specRunOk_l xs hn B ho xs.length k 0 (by omega) (by omega) hk
theorem implRunOk_f (xs : List S27) (hn : xs.length ≤ 9223372036854775806) (B : Nat) (ho : ∀ x ∈ xs, x.f0.size ≤ 9223372036854775807 ∧ x.f0.size < B) (k : Nat) (hk : xs.length + B < k) : impl_RunOk.f k xs = some (runB xs) := implRunOk_l xs hn B ho xs.length k 0 (by omega) (by omega) hk

/-! #### runAt -/
def hitA (q : ByteArray) (t : Int) (e : S27) : Bool := decide (e.f0.toList = q.toList) && decide (e.f3 ≤ t)
def atT : Option S27 → ByteArray × Int × Bool × Int × Bool
  | some e => (e.f0, e.f1, e.f2, e.f3, true)
  | none => ((⟨#[]⟩ : ByteArray), 0, false, 0, false)
theorem specAt_l (xs : List S27) (q : ByteArray) (t : Int) (hn : xs.length ≤ 9223372036854775806) (d : Nat) : ∀ (k i : Nat), i ≤ xs.length → xs.length - i = d → d < k → spec_l11At.l0 k xs q t (i : Int) = some (atT ((xs.drop i).find? (hitA q t))) := by
  induction d with
  | zero =>
    intro k i h1 hd hk
    obtain ⟨k, rfl⟩ := fuel hk
    simp only [spec_l11At.l0]; rw [if_neg (by omega), List.drop_of_length_le (by omega)]; rfl
  | succ d ih =>
    intro k i h1 hd hk
    obtain ⟨k, rfl⟩ := fuel hk
    have hlt : i < xs.length := by omega
    simp only [spec_l11At.l0]; rw [if_pos (by omega), if_pos (by omega), rdE xs i hlt, w64 (by omega) (by omega)]
    have := ih k (i + 1) (by omega) (by omega) (by omega)
    rw [List.drop_eq_getElem_cons hlt, List.find?_cons]
    unfold hitA
    by_cases c : xs[i].f0.toList = q.toList <;> by_cases c2 : xs[i].f3 ≤ t <;> simp only [c, c2, if_true, if_false, decide_true, decide_false, Bool.and_true, Bool.and_false, Bool.false_and] <;> first | rfl | exact this
theorem implAt_l (xs : List S27) (q : ByteArray) (t : Int) (hn : xs.length ≤ 9223372036854775806) (d : Nat) : ∀ (k i : Nat), i ≤ xs.length → xs.length - i = d → d < k → impl_at.l0 k q t xs (xs.length : Int) (i : Int) = some (atT ((xs.drop i).find? (hitA q t))) := by
  induction d with
  | zero =>
    intro k i h1 hd hk
    obtain ⟨k, rfl⟩ := fuel hk
    simp only [impl_at.l0]; rw [if_neg (by omega), List.drop_of_length_le (by omega)]; rfl
  | succ d ih =>
    intro k i h1 hd hk
    obtain ⟨k, rfl⟩ := fuel hk
    have hlt : i < xs.length := by omega
    simp only [impl_at.l0]; rw [if_pos (by omega), if_pos (by omega), if_pos (by omega), rdE xs i hlt, w64 (by omega) (by omega)]
    have := ih k (i + 1) (by omega) (by omega) (by omega)
    rw [List.drop_eq_getElem_cons hlt, List.find?_cons]
    unfold hitA
    by_cases c : xs[i].f0.toList = q.toList <;> by_cases c2 : xs[i].f3 ≤ t <;> simp only [c, c2, if_true, if_false, decide_true, decide_false, Bool.and_true, Bool.and_false, Bool.false_and] <;> first | rfl | exact this
def runAtF (xs : List S27) (q : ByteArray) (t : Int) : Option S27 := if runB xs = true then xs.find? (hitA q t) else none
theorem specRunAt_f (xs : List S27) (q : ByteArray) (t : Int) (hn : xs.length ≤ 9223372036854775806) (B : Nat) (ho : ∀ x ∈ xs, x.f0.size ≤ 9223372036854775807 ∧ x.f0.size < B) (k : Nat) (hk : xs.length + B < k) : spec_RunAt.f k xs q t = some (atT (runAtF xs q t)) := by
  unfold spec_RunAt.f runAtF spec_l11At.f
  have := specAt_l xs q t hn xs.length k 0 (by omega) (by omega) (by omega)
  rw [specRunOk_f xs hn B ho k hk]
  simp only [Option.bind_some]
  cases runB xs
  · rfl
  · simp only [if_true]
    rw [show (0 : Int) = ((0 : Nat) : Int) from rfl, this]; rfl
theorem implRunAt_f (xs : List S27) (q : ByteArray) (t : Int) (hn : xs.length ≤ 9223372036854775806) (B : Nat) (ho : ∀ x ∈ xs, x.f0.size ≤ 9223372036854775807 ∧ x.f0.size < B) (k : Nat) (hk : xs.length + B < k) : impl_RunAt.f k xs q t = some (atT (runAtF xs q t)) := by
  unfold impl_RunAt.f runAtF impl_at.f
  have := implAt_l xs q t hn xs.length k 0 (by omega) (by omega) (by omega)
  rw [implRunOk_f xs hn B ho k hk]
  simp only [Option.bind_some]
  cases runB xs
  · rfl
  · simp only [if_true]
    rw [show (0 : Int) = ((0 : Nat) : Int) from rfl, this]; rfl

/-! #### pick -/
theorem xor_nonneg (a b : Int) (ha : 0 ≤ a) (ha2 : a < 4611686018427387904) (hb : 0 ≤ b) (hb2 : b < 4611686018427387904) : 0 ≤ Go.bits .xor .i64 a b := by
  obtain ⟨m, rfl⟩ := Int.eq_ofNat_of_zero_le ha
  obtain ⟨n, rfl⟩ := Int.eq_ofNat_of_zero_le hb
  have hm : m < 2 ^ 62 := by have : (2 : Nat) ^ 62 = 4611686018427387904 := by decide
                             omega
  have hn : n < 2 ^ 62 := by have : (2 : Nat) ^ 62 = 4611686018427387904 := by decide
                             omega
  have hx := Nat.xor_lt_two_pow hm hn
  have e62 : (2 : Nat) ^ 62 = 4611686018427387904 := by decide
  have e64 : (2 : Nat) ^ 64 = 18446744073709551616 := by decide
  have hb : ∀ q : Nat, q < 2 ^ 62 → (BitVec.ofInt 64 (q : Int)).toNat = q := fun q hq => by
    rw [BitVec.ofInt_natCast, BitVec.toNat_ofNat]; exact Nat.mod_eq_of_lt (by omega)
  have e : (BitVec.ofInt 64 (m : Int) ^^^ BitVec.ofInt 64 (n : Int)).toNat = m ^^^ n := by rw [BitVec.toNat_xor, hb m hm, hb n hn]
  have : Go.bits .xor .i64 (m : Int) (n : Int) = IntKind.wrap .i64 ((m ^^^ n : Nat) : Int) := by
    show IntKind.wrap .i64 (((BitVec.ofInt 64 (m : Int) ^^^ BitVec.ofInt 64 (n : Int)).toNat : Nat) : Int) = _
    rw [e]
  rw [this]
  show 0 ≤ IntKind.wrap .i64 _
  simp only [IntKind.wrap, IntKind.bits, IntKind.signed]
  simp
  omega
def byteL (z : List Int) : Prop := z.length ≤ 2000 ∧ ∀ x ∈ z, 0 ≤ x ∧ x ≤ 255
theorem rd_byte {z : List Int} (hz : byteL z) (i : Int) : 0 ≤ rd z i ∧ rd z i ≤ 255 := by
  unfold rd
  rw [List.getD_eq_getElem?_getD]
  cases h : z[i.toNat]? with
  | none => simp
  | some x => exact hz.2 x (List.mem_of_getElem? h)
theorem pick_f (z : List Int) (hz : byteL z) (c n : Int) (hc : 0 ≤ c) (hc2 : c ≤ 1000000000) (k : Nat) (hk : 0 < k) : ∃ v, spec_l6Rd_pick.f k z c n = some (v, c + 1) ∧ 0 ≤ v ∧ (1 ≤ n → v < n) := by
  obtain ⟨k, rfl⟩ := fuel hk
  have hl := hz.1
  have hr := rd_byte hz
  have ec : wrap64 (c + 1) = c + 1 := w64 (by omega) (by omega)
  unfold spec_l6Rd_pick.f
  rw [ec]
  by_cases hn : n < 1
  · rw [if_pos hn]; exact ⟨0, by simp [spec_l6Rd_pick.j0], by omega, by omega⟩
  · rw [if_neg hn]
    by_cases h0 : (z.length : Int) = 0
    · have hb : ((z.length : Int) == 0) = true := by simp [h0]
      rw [hb]; exact ⟨0, by simp [spec_l6Rd_pick.j0], by omega, by omega⟩
    · have hb : ((z.length : Int) == 0) = false := by simpa using h0
      have e1 : wrap64 (c + 1 - 1) = c := by rw [w64 (by omega) (by omega)]; omega
      have er : ∀ i, wrap64 (rd z i) = rd z i := fun i => w64 (by have := hr i; omega) (by have := hr i; omega)
      have key : ∀ y : Int, 0 ≤ y → 0 ≤ Int.tmod y n ∧ Int.tmod y n < n := fun y hy => ⟨Int.tmod_nonneg n hy, Int.tmod_lt_of_pos y (by omega)⟩
      rw [hb]; simp only [spec_l6Rd_pick.j0, Bool.false_eq_true, if_false, e1, er]
      by_cases h1 : c < (z.length : Int)
      · rw [if_pos h1, if_pos hc, if_neg (by omega)]
        obtain ⟨a1, a2⟩ := key (rd z c) (hr c).1
        exact ⟨_, rfl, a1, fun _ => a2⟩
      · have m1 : 0 ≤ Int.tmod c (z.length : Int) := Int.tmod_nonneg _ hc
        have m2 : Int.tmod c (z.length : Int) < (z.length : Int) := Int.tmod_lt_of_pos c (by omega)
        have m3 : 0 ≤ Int.tmod (c * 7 + 3) (z.length : Int) := Int.tmod_nonneg _ (by omega)
        have m4 : Int.tmod (c * 7 + 3) (z.length : Int) < (z.length : Int) := Int.tmod_lt_of_pos _ (by omega)
        have e7 : wrap64 (c * 7) = c * 7 := w64 (by omega) (by omega)
        have e73 : wrap64 (c * 7 + 3) = c * 7 + 3 := w64 (by omega) (by omega)
        have d0 : Int.tdiv c (z.length : Int) = c / (z.length : Int) := Int.tdiv_eq_ediv_of_nonneg hc
        have d1 : 0 ≤ c / (z.length : Int) := Int.ediv_nonneg hc (by omega)
        have d2 : c / (z.length : Int) ≤ c := Int.ediv_le_self _ hc
        rw [if_neg h1, if_neg h0, e7, e73, if_pos m1, if_pos m2, if_pos m3, if_pos m4, if_neg (by omega)]
        have hx := hr (Int.tmod c (z.length : Int))
        have hy := hr (Int.tmod (c * 7 + 3) (z.length : Int))
        rw [d0]
        generalize rd z (Int.tmod c (z.length : Int)) = x at *
        generalize rd z (Int.tmod (c * 7 + 3) (z.length : Int)) = y at *
        generalize c / (z.length : Int) = q at *
        rw [w64 (x := x * 131) (by omega) (by omega), w64 (x := y * 1117) (by omega) (by omega), w64 (x := x * 131 + y * 1117) (by omega) (by omega), w64 (x := c * 29) (by omega) (by omega), w64 (x := q) (by omega) (by omega), w64 (x := q * 53) (by omega) (by omega), w64 (x := x * 131 + y * 1117 + c * 29) (by omega) (by omega), w64 (x := x * 131 + y * 1117 + c * 29 + q * 53) (by omega) (by omega)]
        have t0 : Int.tdiv (x * 131 + y * 1117 + c * 29 + q * 53) 64 = (x * 131 + y * 1117 + c * 29 + q * 53) / 64 := Int.tdiv_eq_ediv_of_nonneg (by omega)
        rw [t0, w64 (x := (x * 131 + y * 1117 + c * 29 + q * 53) / 64) (by omega) (by omega)]
        obtain ⟨a1, a2⟩ := key _ (xor_nonneg (x * 131 + y * 1117 + c * 29 + q * 53) ((x * 131 + y * 1117 + c * 29 + q * 53) / 64) (by omega) (by omega) (by omega) (by omega))
        exact ⟨_, rfl, a1, fun _ => a2⟩

/-! #### draw1: of, key, near -/
theorem rdOf_mem {α : Type} (d : α) (xs : List α) (i : Int) (h0 : 0 ≤ i) (h1 : i < (xs.length : Int)) : rdOf d xs i ∈ xs := by
  unfold rdOf
  have h : i.toNat < xs.length := by omega
  rw [List.getD_eq_getElem?_getD, List.getElem?_eq_getElem h]
  exact List.getElem_mem h
theorem of_f (z : List Int) (hz : byteL z) (c : Int) (l : List ByteArray) (hl : 0 < l.length) (hl2 : l.length ≤ 1000) (hc : 0 ≤ c) (hc2 : c ≤ 1000000000) (k : Nat) (hk : 0 < k) : ∃ s, spec_l6Rd_of.f k z c l = some (s, c + 1) ∧ s ∈ l := by
  obtain ⟨v, h, h0, h1⟩ := pick_f z hz c (l.length : Int) hc hc2 k hk
  have h2 := h1 (by omega)
  unfold spec_l6Rd_of.f
  rw [h]; simp only [Option.bind_some]
  rw [if_pos h0, if_pos h2]
  exact ⟨_, rfl, rdOf_mem _ _ _ h0 h2⟩
theorem key_l (z : List Int) (hz : byteL z) (d : Nat) (hd : d ≤ 100) : ∀ (k : Nat) (s : ByteArray) (c : Int), d < k → 0 ≤ c → c + d ≤ 1000000000 → s.size + d ≤ 1000 → ∃ r, spec_l71Key.l0 k s (d : Int) z c = some (r, c + d) ∧ r.size ≤ s.size + d := by
  induction d with
  | zero =>
    intro k s c hk hc hc2 hs
    obtain ⟨k, rfl⟩ := fuel hk
    exact ⟨s, by simp only [spec_l71Key.l0]; rw [if_neg (by omega)]; simp, by omega⟩
  | succ d ih =>
    intro k s c hk hc hc2 hs
    obtain ⟨k, rfl⟩ := fuel hk
    simp only [spec_l71Key.l0]
    rw [if_pos (by omega)]
    obtain ⟨y, h, hm⟩ := of_f z hz c (l := [(⟨#[97]⟩ : ByteArray), (⟨#[98]⟩ : ByteArray), (⟨#[97]⟩ : ByteArray), (⟨#[99]⟩ : ByteArray), (⟨#[100]⟩ : ByteArray)]) (by simp) (by simp) hc (by omega) k (by omega)
    rw [h]; simp only [Option.bind_some]
    have hy : y.size = 1 := by
      simp only [List.mem_cons, List.not_mem_nil, or_false] at hm
      rcases hm with rfl | rfl | rfl | rfl | rfl <;> rfl
    have hsz : (s ++ y).size = s.size + 1 := by rw [ByteArray.size_append, hy]
    rw [if_pos (by omega), w64 (by omega) (by omega)]
    obtain ⟨r, hr, hr2⟩ := ih (by omega) k (s ++ y) (c + 1) (by omega) (by omega) (by omega) (by omega)
    refine ⟨r, ?_, by omega⟩
    rw [show ((d + 1 : Nat) : Int) - 1 = (d : Int) by omega, hr, show c + 1 + (d : Int) = c + ((d + 1 : Nat) : Int) by omega]
theorem key_f (z : List Int) (hz : byteL z) (c : Int) (hc : 0 ≤ c) (hc2 : c ≤ 900000000) (k : Nat) (hk : 10 < k) : ∃ r c', spec_l71Key.f k z c = some (r, c') ∧ r.size ≤ 5 ∧ c ≤ c' ∧ c' ≤ c + 6 := by
  obtain ⟨v, h, h0, h1⟩ := pick_f z hz c 6 hc (by omega) k (by omega)
  have h2 := h1 (by omega)
  unfold spec_l71Key.f
  rw [h]; simp only [Option.bind_some]
  obtain ⟨n, rfl⟩ := Int.eq_ofNat_of_zero_le h0
  obtain ⟨r, hr, hr2⟩ := key_l z hz n (by omega) k (⟨#[]⟩ : ByteArray) (c + 1) (by omega) (by omega) (by omega) (by show 0 + n ≤ 1000; omega)
  have : (⟨#[]⟩ : ByteArray).size = 0 := rfl
  exact ⟨r, _, hr, by omega, by omega, by omega⟩
theorem near_f (z : List Int) (hz : byteL z) (c : Int) (l : List ByteArray) (K : Nat) (hK : 5 ≤ K) (hK2 : K ≤ 1000) (hl : ∀ s ∈ l, s.size ≤ K) (hl2 : l.length ≤ 1000) (hc : 0 ≤ c) (hc2 : c ≤ 800000000) (k : Nat) (hk : 20 < k) : ∃ r c', spec_l71Near.f k z c l = some (r, c') ∧ r.size ≤ K ∧ c ≤ c' ∧ c' ≤ c + 10 := by
  have hj : ∀ (b : Bool) (c' : Int), c ≤ c' → c' ≤ c + 1 → (b = false → 0 < l.length) → ∃ r c'', spec_l71Near.j0 k l b z c' = some (r, c'') ∧ r.size ≤ K ∧ c' ≤ c'' ∧ c'' ≤ c' + 9 := by
    intro b c' g1 g2 g3
    obtain ⟨k, rfl⟩ := fuel (show 0 < k by omega)
    simp only [spec_l71Near.j0]
    cases b
    · have g3 := g3 rfl
      obtain ⟨v, h, h0, h1⟩ := pick_f z hz c' (l.length : Int) (by omega) (by omega) k (by omega)
      have h2 := h1 (by omega)
      simp only [Bool.false_eq_true, if_false]
      rw [h]; simp only [Option.bind_some]
      rw [if_pos h0, if_pos h2]
      have hs := hl _ (rdOf_mem ByteArray.empty l v h0 h2)
      generalize rdOf ByteArray.empty l v = s at *
      obtain ⟨v2, h', h0', h1'⟩ := pick_f z hz (c' + 1) 4 (by omega) (by omega) k (by omega)
      rw [h']; simp only [Option.bind_some]
      by_cases e0 : v2 = 0
      · rw [if_pos e0, w64 (by omega) (by omega)]
        obtain ⟨v3, h'', h0'', h1''⟩ := pick_f z hz (c' + 1 + 1) ((s.size : Int) + 1) (by omega) (by omega) k (by omega)
        have := h1'' (by omega)
        rw [h'']; simp only [Option.bind_some]
        rw [if_pos h0'', if_pos (by omega)]
        exact ⟨_, _, rfl, by rw [ByteArray.size_extract]; omega, by omega, by omega⟩
      · rw [if_neg e0]
        by_cases e1 : v2 = 1
        · rw [if_pos e1]
          by_cases e2 : (s.size : Int) < 5
          · rw [if_pos e2]
            obtain ⟨y, h, hm⟩ := of_f z hz (c' + 1 + 1) (l := [(⟨#[97]⟩ : ByteArray), (⟨#[98]⟩ : ByteArray), (⟨#[100]⟩ : ByteArray)]) (by simp) (by simp) (by omega) (by omega) k (by omega)
            have hy : y.size = 1 := by
              simp only [List.mem_cons, List.not_mem_nil, or_false] at hm
              rcases hm with rfl | rfl | rfl <;> rfl
            rw [h]; simp only [Option.bind_some]
            rw [if_pos (by omega)]
            exact ⟨_, _, rfl, by rw [ByteArray.size_append, hy]; omega, by omega, by omega⟩
          · rw [if_neg e2]; exact ⟨_, _, rfl, hs, by omega, by omega⟩
        · rw [if_neg e1]; exact ⟨_, _, rfl, hs, by omega, by omega⟩
    · obtain ⟨r, c'', h, h1, h2, h3⟩ := key_f z hz c' (by omega) (by omega) k (by omega)
      simp only [if_true]
      rw [h]; simp only [Option.bind_some]
      exact ⟨_, _, rfl, by omega, h2, by omega⟩
  unfold spec_l71Near.f
  by_cases e : (l.length : Int) = 0
  · rw [if_pos e]
    obtain ⟨r, c'', h, h1, h2, h3⟩ := hj true c (by omega) (by omega) (fun h => by cases h)
    exact ⟨r, c'', h, h1, h2, by omega⟩
  · rw [if_neg e]
    obtain ⟨v, h, h0, h1⟩ := pick_f z hz c 4 hc (by omega) k (by omega)
    rw [h]; simp only [Option.bind_some]
    obtain ⟨r, c'', h, h1, h2, h3⟩ := hj (v == 0) (c + 1) (by omega) (by omega) (fun _ => by omega)
    exact ⟨r, c'', h, h1, by omega, by omega⟩

/-! #### draw2: put, keys -/
theorem put_l (K : Nat) (x0 : List ByteArray) (x1 : ByteArray) (h0 : ∀ s ∈ x0, s.size ≤ K) (h1 : x1.size ≤ K) (hn : x0.length ≤ 1000) (d : Nat) : ∀ (k i : Nat) (out : List ByteArray) (b : Bool), i ≤ x0.length → x0.length - i = d → d < k → (∀ s ∈ out, s.size ≤ K) → out.length ≤ i + (if b = true then 1 else 0) →
    ∃ r, spec_l2Put.l0 k x0 x1 out b (i : Int) = some r ∧ r.length ≤ x0.length + 1 ∧ ∀ s ∈ r, s.size ≤ K := by
  have hcons : ∀ (l : List ByteArray) (y : ByteArray), (∀ s ∈ l, s.size ≤ K) → y.size ≤ K → ∀ s ∈ l ++ [y], s.size ≤ K := fun l y hl hy s hs => by
    rcases List.mem_append.1 hs with h | h
    · exact hl s h
    · simp at h; subst h; exact hy
  induction d with
  | zero =>
    intro k i out b hi hd hk ho hl
    obtain ⟨k, rfl⟩ := fuel hk
    simp only [spec_l2Put.l0]; rw [if_neg (by omega)]
    cases b
    · simp at hl
      rw [if_neg (by simp), if_pos (by omega)]
      exact ⟨_, rfl, by simp; omega, hcons _ _ ho h1⟩
    · simp at hl
      rw [if_pos rfl]
      exact ⟨_, rfl, by omega, ho⟩
  | succ d ih =>
    intro k i out b hi hd hk ho hl
    obtain ⟨k, rfl⟩ := fuel hk
    have hy : (rdOf ByteArray.empty x0 (i : Int)).size ≤ K := h0 _ (rdOf_mem ByteArray.empty x0 (i : Int) (by omega) (by omega))
    simp only [spec_l2Put.l0]; rw [if_pos (by omega), if_pos (by omega), w64 (by omega) (by omega)]
    generalize rdOf ByteArray.empty x0 (i : Int) = y at *
    split
    · exact ⟨_, rfl, by omega, h0⟩
    · cases b
      · simp only [Bool.false_eq_true, if_false] at hl ⊢
        split
        · rw [if_pos (by omega)]; simp only [Option.bind_some]
          rw [if_pos (by simp; omega)]
          exact ih k (i + 1) _ true (by omega) (by omega) (by omega) (hcons _ _ (hcons _ _ ho h1) hy) (by simp; omega)
        · rw [if_pos (by omega)]
          exact ih k (i + 1) _ false (by omega) (by omega) (by omega) (hcons _ _ ho hy) (by simp; omega)
      · simp only [if_true] at hl ⊢
        rw [if_pos (by omega)]
        exact ih k (i + 1) _ true (by omega) (by omega) (by omega) (hcons _ _ ho hy) (by simp; omega)
theorem put_f (K : Nat) (x0 : List ByteArray) (x1 : ByteArray) (h0 : ∀ s ∈ x0, s.size ≤ K) (h1 : x1.size ≤ K) (hn : x0.length ≤ 1000) (k : Nat) (hk : 1000 < k) : ∃ r, spec_l2Put.f k x0 x1 = some r ∧ r.length ≤ x0.length + 1 ∧ ∀ s ∈ r, s.size ≤ K :=
  put_l K x0 x1 h0 h1 hn x0.length k 0 [] false (by omega) (by omega) (by omega) (by simp) (by simp)
theorem keys_l (z : List Int) (hz : byteL z) (d : Nat) (hd : d ≤ 100) : ∀ (k : Nat) (l : List ByteArray) (c : Int), d + 2000 < k → 0 ≤ c → c + 10 * d ≤ 800000000 → (∀ s ∈ l, s.size ≤ 5) → l.length + d ≤ 1000 →
    ∃ r c', spec_l71Keys.l0 k l (d : Int) z c = some (r, c') ∧ r.length ≤ l.length + d ∧ (∀ s ∈ r, s.size ≤ 5) ∧ c ≤ c' ∧ c' ≤ c + 10 * d := by
  induction d with
  | zero =>
    intro k l c hk hc hc2 hl hn
    obtain ⟨k, rfl⟩ := fuel (show 0 < k by omega)
    exact ⟨l, c, by simp only [spec_l71Keys.l0]; rw [if_neg (by omega)], by omega, hl, by omega, by omega⟩
  | succ d ih =>
    intro k l c hk hc hc2 hl hn
    obtain ⟨k, rfl⟩ := fuel (show 0 < k by omega)
    simp only [spec_l71Keys.l0]
    rw [if_pos (by omega)]
    obtain ⟨s, c1, h, a1, a2, a3⟩ := near_f z hz c l 5 (by omega) (by omega) hl (by omega) hc (by omega) k (by omega)
    rw [h]; simp only [Option.bind_some]
    obtain ⟨q, h', b1, b2⟩ := put_f 5 l s hl a1 (by omega) k (by omega)
    rw [h']; simp only [Option.bind_some]
    rw [w64 (by omega) (by omega)]
    obtain ⟨r, c', h'', d1, d2, d3, d4⟩ := ih (by omega) k q c1 (by omega) (by omega) (by omega) b2 (by omega)
    refine ⟨r, c', ?_, by omega, d2, by omega, by omega⟩
    rw [show ((d + 1 : Nat) : Int) - 1 = (d : Int) by omega]; exact h''
theorem keys_f (z : List Int) (hz : byteL z) (c n : Int) (hn : 0 ≤ n) (hn2 : n ≤ 50) (hc : 0 ≤ c) (hc2 : c ≤ 700000000) (k : Nat) (hk : 3000 < k) : ∃ r c', spec_l71Keys.f k z c n = some (r, c') ∧ r.length ≤ 50 ∧ (∀ s ∈ r, s.size ≤ 5) ∧ c ≤ c' ∧ c' ≤ c + 510 := by
  unfold spec_l71Keys.f
  rw [w64 (by omega) (by omega)]
  obtain ⟨v, h, h0, h1⟩ := pick_f z hz c (n + 1) hc (by omega) k (by omega)
  have h2 := h1 (by omega)
  rw [h]; simp only [Option.bind_some]
  obtain ⟨m, rfl⟩ := Int.eq_ofNat_of_zero_le h0
  obtain ⟨r, c', h, a1, a2, a3, a4⟩ := keys_l z hz m (by omega) k [] (c + 1) (by omega) (by omega) (by omega) (by simp) (by simp; omega)
  exact ⟨r, c', h, by simp at a1; omega, a2, by omega, by omega⟩

/-! #### join -/
theorem specJoin_l (xa xb : List S27) (ha : xa.length ≤ 2000000) (hb : xb.length ≤ 2000000) (d : Nat) :
    (∀ (k i j : Nat) (out : List S27), i ≤ xa.length → j < xb.length → (xa.length - i) + (xb.length - j) = d → 2 * d + 2 < k → out.length ≤ i + j → spec_l11Join.l1 k xa xb out (i : Int) (j : Int) = some (out ++ List.merge (xa.drop i) (xb.drop j) aheadB)) ∧
    (∀ (k i j : Nat) (out : List S27), i ≤ xa.length → j ≤ xb.length → (xa.length - i) + (xb.length - j) = d → 2 * d + 3 < k → out.length ≤ i + j → spec_l11Join.l0 k xa xb out (i : Int) (j : Int) = some (out ++ List.merge (xa.drop i) (xb.drop j) aheadB)) := by
  induction d with
  | zero =>
    refine ⟨fun k i j out h1 h2 hd hk ho => by omega, fun k i j out h1 h2 hd hk ho => ?_⟩
    obtain ⟨k, rfl⟩ := fuel (show 0 < k by omega)
    simp only [spec_l11Join.l0]; rw [if_neg (by omega), if_pos (by omega), if_pos (by omega)]
    simp only [Option.bind_some]
    rw [if_pos (by simp; omega), List.drop_of_length_le (l := xb) (by omega), List.merge_right]
    simp
  | succ d ih =>
    have one : ∀ (k i j : Nat) (out : List S27), i ≤ xa.length → j < xb.length → (xa.length - i) + (xb.length - j) = d + 1 → 2 * (d + 1) + 2 < k → out.length ≤ i + j → spec_l11Join.l1 k xa xb out (i : Int) (j : Int) = some (out ++ List.merge (xa.drop i) (xb.drop j) aheadB) := by
      intro k i j out h1 h2 hd hk ho
      obtain ⟨k, rfl⟩ := fuel (show 0 < k by omega)
      simp only [spec_l11Join.l1]
      have hB := List.drop_eq_getElem_cons h2
      by_cases c : i < xa.length
      · rw [if_pos (by omega), if_pos (by omega), if_pos (by omega), if_pos (by omega), specAhead_f, rdE xa i c, rdE xb j h2, w64 (x := (i : Int) + 1) (by omega) (by omega), w64 (x := (j : Int) + 1) (by omega) (by omega)]
        simp only [Option.bind_some]
        have hA := List.drop_eq_getElem_cons c
        have e1 := ih.1 k (i + 1) j (out ++ [xa[i]]) (by omega) h2 (by omega) (by omega) (by simp; omega)
        have e2 := ih.2 k i (j + 1) (out ++ [xb[j]]) (by omega) (by omega) (by omega) (by omega) (by simp; omega)
        rw [hA, hB, List.cons_merge_cons]
        rw [hB] at e1
        rw [hA] at e2
        cases aheadB xa[i] xb[j]
        · simp only [Bool.false_eq_true, if_false]
          rw [if_pos (by omega)]
          simpa [List.append_assoc] using e2
        · simp only [if_true]
          rw [if_pos (by omega)]
          simpa [List.append_assoc] using e1
      · rw [if_neg (by omega), if_pos (by omega), if_pos (by omega), if_pos (by omega), rdE xb j h2, w64 (x := (j : Int) + 1) (by omega) (by omega)]
        have e2 := ih.2 k i (j + 1) (out ++ [xb[j]]) (by omega) (by omega) (by omega) (by omega) (by simp; omega)
        rw [List.drop_of_length_le (l := xa) (by omega), List.nil_merge] at *
        rw [hB]
        simpa [List.append_assoc] using e2
    refine ⟨one, fun k i j out h1 h2 hd hk ho => ?_⟩
    obtain ⟨k, rfl⟩ := fuel (show 0 < k by omega)
    simp only [spec_l11Join.l0]
    by_cases c : j < xb.length
    · rw [if_pos (by omega)]; exact one k i j out h1 c hd (by omega) ho
    · rw [if_neg (by omega), if_pos (by omega), if_pos (by omega)]
      simp only [Option.bind_some]
      rw [if_pos (by simp; omega), List.drop_of_length_le (l := xb) (by omega), List.merge_right]
      simp
theorem specJoin_f (xa xb : List S27) (ha : xa.length ≤ 2000000) (hb : xb.length ≤ 2000000) (k : Nat) (hk : 8000010 < k) : spec_l11Join.f k xa xb = some (List.merge xa xb aheadB) := by
  have := (specJoin_l xa xb ha hb _).2 k 0 0 [] (by omega) (by omega) rfl (by omega) (by simp)
  unfold spec_l11Join.f
  simpa using this

/-! #### drawRun: the runs that the laws draw -/
theorem runL_get (xs : List S27) (d : Nat) : ∀ i, runL xs d i = true → (∀ j, i ≤ j → j < i + d → stepB xs j = true) ∧ xs.length ≤ 40 := by
  induction d with
  | zero => intro i h; simp [runL] at h; exact ⟨fun j a b => by omega, by omega⟩
  | succ d ih =>
    intro i h
    simp only [runL, Bool.and_eq_true] at h
    obtain ⟨h1, h2⟩ := h
    obtain ⟨a, b⟩ := ih (i + 1) h2
    refine ⟨fun j c1 c2 => ?_, b⟩
    by_cases e : j = i
    · subst e; exact h1
    · exact a j (by omega) (by omega)
theorem keyL_size (a : ByteArray) (d : Nat) : ∀ i, keyL a d i = true → a.size ≤ 5 := by
  induction d with
  | zero => intro i h; simp [keyL] at h; omega
  | succ d ih => intro i h; simp only [keyL, Bool.and_eq_true] at h; exact ih _ h.2
theorem runB_len {xs : List S27} (h : runB xs = true) : xs.length ≤ 40 := (runL_get xs xs.length 0 h).2
theorem runB_step {xs : List S27} (h : runB xs = true) (j : Nat) (hj : j < xs.length) : stepB xs j = true := (runL_get xs xs.length 0 h).1 j (by omega) (by omega)
theorem runB_entry {xs : List S27} (h : runB xs = true) : ∀ x ∈ xs, entryB x = true := by
  intro x hx
  obtain ⟨j, hj, rfl⟩ := List.mem_iff_getElem.1 hx
  have := runB_step h j hj
  simp only [stepB, Bool.and_eq_true] at this
  rw [rdE xs j hj] at this
  exact this.1
theorem runB_size {xs : List S27} (h : runB xs = true) : ∀ x ∈ xs, x.f0.size ≤ 5 := by
  intro x hx
  have := runB_entry h x hx
  simp only [entryB, Bool.and_eq_true, keyB] at this
  exact keyL_size _ _ _ this.1
theorem run_l (z : List Int) (hz : byteL z) (keys : List ByteArray) (hk1 : ∀ s ∈ keys, s.size ≤ 5) (hk2 : keys.length ≤ 50) (d : Nat) (hd : d ≤ 50) : ∀ (k : Nat) (xs : List S27) (c : Int), 2 * d + 9000000 < k → 0 ≤ c → c + 20 * d ≤ 600000000 → runB xs = true →
    ∃ r c', spec_l71Run.l0 k keys xs (d : Int) z c = some (r, c') ∧ runB r = true ∧ c ≤ c' ∧ c' ≤ c + 20 * d := by
  induction d with
  | zero =>
    intro k xs c hk hc hc2 hx
    obtain ⟨k, rfl⟩ := fuel (show 0 < k by omega)
    exact ⟨xs, c, by simp only [spec_l71Run.l0]; rw [if_neg (by omega)], hx, by omega, by omega⟩
  | succ d ih =>
    intro k xs c hk hc hc2 hx
    obtain ⟨k, rfl⟩ := fuel (show 0 < k by omega)
    have hxl := runB_len hx
    have hxs := runB_size hx
    simp only [spec_l71Run.l0]
    rw [if_pos (by omega)]
    obtain ⟨s, c1, h, a1, a2, a3⟩ := near_f z hz c keys 5 (by omega) (by omega) hk1 (by omega) hc (by omega) k (by omega)
    rw [h]; simp only [Option.bind_some]
    obtain ⟨v1, h, b1, b2⟩ := pick_f z hz c1 100 (by omega) (by omega) k (by omega)
    rw [h]; simp only [Option.bind_some]
    obtain ⟨v2, h, b3, b4⟩ := pick_f z hz (c1 + 1) 60 (by omega) (by omega) k (by omega)
    rw [h]; simp only [Option.bind_some]
    obtain ⟨v3, h, b5, b6⟩ := pick_f z hz (c1 + 1 + 1) 4 (by omega) (by omega) k (by omega)
    rw [h]; simp only [Option.bind_some]
    have fin : ∀ (e : S27), e.f0.size ≤ 5 → ∃ r c', spec_l71Run.j1 k keys xs ((d + 1 : Nat) : Int) z (c1 + 1 + 1 + 1) e.f0 e.f1 e.f2 e.f3 = some (r, c') ∧ runB r = true ∧ c ≤ c' ∧ c' ≤ c + 20 * ((d + 1 : Nat) : Int) := by
      intro e he
      obtain ⟨k, rfl⟩ := fuel (show 0 < k by omega)
      simp only [spec_l71Run.j1]
      have hin : ∀ x ∈ List.merge xs [e] aheadB, x.f0.size ≤ 9223372036854775807 ∧ x.f0.size < 6 := fun x hx => by
        have hm : x ∈ xs ++ [e] := (List.merge_perm_append (xs := xs) (ys := [e]) (le := aheadB)).mem_iff.1 hx
        rcases List.mem_append.1 hm with hm | hm
        · have := hxs x hm; omega
        · simp at hm; subst hm; omega
      have hlen : (List.merge xs [e] aheadB).length = xs.length + 1 := by rw [List.length_merge]; rfl
      rw [show (⟨e.f0, e.f1, e.f2, e.f3⟩ : S27) = e from rfl, specJoin_f xs [e] (by omega) (by simp) k (by omega)]
      simp only [Option.bind_some]
      rw [specRunOk_f _ (by omega) 6 hin k (by omega)]
      simp only [Option.bind_some]
      rw [w64 (by omega) (by omega), show ((d + 1 : Nat) : Int) - 1 = (d : Int) by omega]
      cases hr : runB (List.merge xs [e] aheadB)
      · obtain ⟨r, c', h, g1, g2, g3⟩ := ih (by omega) k xs (c1 + 1 + 1 + 1) (by omega) (by omega) (by omega) hx
        exact ⟨r, c', by simpa using h, g1, by omega, by omega⟩
      · obtain ⟨r, c', h, g1, g2, g3⟩ := ih (by omega) k _ (c1 + 1 + 1 + 1) (by omega) (by omega) (by omega) hr
        exact ⟨r, c', by simpa using h, g1, by omega, by omega⟩
    split
    · exact fin ⟨s, 0, true, wrap64 (1 + v2)⟩ a1
    · exact fin ⟨s, v1, false, wrap64 (1 + v2)⟩ a1
theorem run_f (z : List Int) (hz : byteL z) (c n : Int) (hn : 0 ≤ n) (hn2 : n ≤ 49) (hc : 0 ≤ c) (hc2 : c ≤ 500000000) (k : Nat) (hk : 10000000 < k) : ∃ r c', spec_l71Run.f k z c n = some (r, c') ∧ runB r = true ∧ c ≤ c' ∧ c' ≤ c + 2000 := by
  unfold spec_l71Run.f
  obtain ⟨ks, c1, h, a1, a2, a3, a4⟩ := keys_f z hz c 5 (by omega) (by omega) hc (by omega) k (by omega)
  rw [h]; simp only [Option.bind_some]
  rw [w64 (by omega) (by omega)]
  obtain ⟨v, h, b1, b2⟩ := pick_f z hz c1 (n + 1) (by omega) (by omega) k (by omega)
  have b2 := b2 (by omega)
  rw [h]; simp only [Option.bind_some]
  obtain ⟨m, rfl⟩ := Int.eq_ofNat_of_zero_le b1
  obtain ⟨r, c', h, g1, g2, g3⟩ := run_l z hz ks a2 a1 m (by omega) k [] (c1 + 1) (by omega) (by omega) (by omega) (by rfl)
  exact ⟨r, c', h, g1, by omega, by omega⟩
theorem off_f (z : List Int) (hz : byteL z) (c : Int) (hc : 0 ≤ c) (hc2 : c ≤ 400000000) (k : Nat) (hk : 10000000 < k) : ∃ r c', spec_l71Off.f k z c = some (r, c') ∧ r.length ≤ 41 ∧ (∀ x ∈ r, x.f0.size ≤ 6) ∧ c ≤ c' ∧ c' ≤ c + 2010 := by
  unfold spec_l71Off.f
  obtain ⟨r, c1, h, a1, a2, a3⟩ := run_f z hz c 10 (by omega) (by omega) hc (by omega) k hk
  have hl := runB_len a1
  have hs := runB_size a1
  have happ : ∀ e : S27, e.f0.size ≤ 6 → (r ++ [e]).length ≤ 41 ∧ ∀ x ∈ r ++ [e], x.f0.size ≤ 6 := fun e he => ⟨by simp; omega, fun x hx => by
    rcases List.mem_append.1 hx with hx | hx
    · have := hs x hx; omega
    · simp at hx; subst hx; exact he⟩
  rw [h]; simp only [Option.bind_some]
  obtain ⟨v, h, b1, b2⟩ := pick_f z hz c1 12 (by omega) (by omega) k (by omega)
  rw [h]; simp only [Option.bind_some]
  by_cases e : v > 0
  · rw [if_pos e]; exact ⟨_, _, rfl, by omega, fun x hx => by have := hs x hx; omega, by omega, by omega⟩
  rw [if_neg e]
  obtain ⟨v2, h, b3, b4⟩ := pick_f z hz (c1 + 1) 5 (by omega) (by omega) k (by omega)
  rw [h]; simp only [Option.bind_some]
  by_cases e0 : v2 = 0
  · rw [if_pos e0, if_pos (by omega)]
    exact ⟨_, _, rfl, (happ _ (by decide)).1, (happ _ (by decide)).2, by omega, by omega⟩
  rw [if_neg e0]
  by_cases e1 : v2 = 1
  · rw [if_pos e1, if_pos (by omega)]
    exact ⟨_, _, rfl, (happ _ (by decide)).1, (happ _ (by decide)).2, by omega, by omega⟩
  rw [if_neg e1]
  by_cases e2 : v2 = 2
  · rw [if_pos e2, if_pos (by omega)]
    exact ⟨_, _, rfl, (happ _ (by decide)).1, (happ _ (by decide)).2, by omega, by omega⟩
  rw [if_neg e2]
  by_cases e3 : v2 = 3
  · rw [if_pos e3]
    obtain ⟨v4, h, b5, b6⟩ := pick_f z hz (c1 + 1 + 1) 2 (by omega) (by omega) k (by omega)
    rw [h]; simp only [Option.bind_some]
    rw [if_pos b5, if_pos (by simp; omega), if_pos (by omega)]
    have hq : (⟨#[100, 100, 100, 100, 100]⟩ : ByteArray).size ≤ 6 := by decide
    exact ⟨_, _, rfl, (happ _ hq).1, (happ _ hq).2, by omega, by omega⟩
  · rw [if_neg e3, if_pos (by omega)]
    exact ⟨_, _, rfl, (happ _ (by decide)).1, (happ _ (by decide)).2, by omega, by omega⟩
theorem open_f (l : List Int) (hl : ∀ x ∈ l, 0 ≤ x ∧ x ≤ 255) : ∃ z, spec_l6Open.f l = some (z, 0) ∧ byteL z := by
  unfold spec_l6Open.f
  by_cases h : (l.length : Int) > 2000
  · rw [if_pos h, if_pos (by omega)]
    exact ⟨_, rfl, by simp; omega, fun x hx => hl x (List.mem_of_mem_take hx)⟩
  · rw [if_neg h]; exact ⟨_, rfl, by omega, hl⟩

/-! #### runKeys -/
def keysL (xs : List S27) : Nat → Nat → List ByteArray → List ByteArray
  | 0, _, out => out
  | d + 1, i, out => if i = 0 then keysL xs d (i + 1) (out ++ [(rd_T27 xs (i : Int)).f0]) else if (rd_T27 xs ((i : Int) - 1)).f0.toList = (rd_T27 xs (i : Int)).f0.toList then keysL xs d (i + 1) out else keysL xs d (i + 1) (out ++ [(rd_T27 xs (i : Int)).f0])
theorem keysL_len (xs : List S27) (d : Nat) : ∀ (i : Nat) (out : List ByteArray), (keysL xs d i out).length ≤ out.length + d := by
  induction d with
  | zero => intro i out; simp [keysL]
  | succ d ih =>
    intro i out
    simp only [keysL]
    split
    · have := ih (i + 1) (out ++ [(rd_T27 xs (i : Int)).f0]); simp at this; omega
    · split
      · have := ih (i + 1) out; omega
      · have := ih (i + 1) (out ++ [(rd_T27 xs (i : Int)).f0]); simp at this; omega
theorem specKeys_l (xs : List S27) (hn : xs.length ≤ 1048576) (d : Nat) : ∀ (k i : Nat) (out : List ByteArray), i ≤ xs.length → xs.length - i = d → d < k → out.length ≤ i → spec_l11Keys.l0 k xs out (i : Int) = some (keysL xs d i out) := by
  induction d with
  | zero =>
    intro k i out h1 hd hk ho
    obtain ⟨k, rfl⟩ := fuel hk
    simp only [spec_l11Keys.l0]; rw [if_neg (by omega)]; rfl
  | succ d ih =>
    intro k i out h1 hd hk ho
    obtain ⟨k, rfl⟩ := fuel hk
    have a1 := ih k (i + 1) (out ++ [(rd_T27 xs (i : Int)).f0]) (by omega) (by omega) (by omega) (by simp; omega)
    have a2 := ih k (i + 1) out (by omega) (by omega) (by omega) (by omega)
    rw [Int.natCast_add] at a1 a2
    simp only [spec_l11Keys.l0, keysL]; rw [if_pos (by omega), w64 (x := (i : Int) + 1) (by omega) (by omega), w64 (x := (i : Int) - 1) (by omega) (by omega)]
    by_cases h0 : i = 0
    · rw [if_pos (show (i : Int) = 0 by omega), if_pos (by omega), if_pos (by omega), if_pos h0]; exact a1
    · rw [if_neg (show ¬ (i : Int) = 0 by omega), if_pos (by omega), if_pos (by omega), if_pos (by omega), if_neg h0]
      split
      · exact a2
      · rw [if_pos (by omega)]; exact a1

/-! #### order: a run is in order -/
theorem ahead_iff (a b : S27) : aheadB a b = true ↔ (a.f0.toList < b.f0.toList ∨ (a.f0.toList = b.f0.toList ∧ b.f3 < a.f3)) := by
  unfold aheadB
  rw [Go.Proofs.bytesLess_eq]
  simp
theorem ahead_trans {a b c : S27} (h : aheadB a b = true) (h' : aheadB b c = true) : aheadB a c = true := by
  rw [ahead_iff] at *
  rcases h with h | ⟨h, g⟩ <;> rcases h' with h' | ⟨h', g'⟩
  · exact .inl (List.lt_trans h h')
  · exact .inl (h' ▸ h)
  · exact .inl (h ▸ h')
  · exact .inr ⟨h.trans h', by omega⟩
theorem ahead_time {a b : S27} (h : aheadB a b = true) (e : a.f0.toList = b.f0.toList) : b.f3 < a.f3 := by
  rw [ahead_iff] at h
  rcases h with h | ⟨_, h⟩
  · rw [e] at h; exact absurd h (List.lt_irrefl _)
  · exact h
theorem run_next {xs : List S27} (h : runB xs = true) (i : Nat) (hi : i + 1 < xs.length) : aheadB xs[i] xs[i + 1] = true := by
  have := runB_step h (i + 1) hi
  simp only [stepB, Bool.and_eq_true, Bool.or_eq_true] at this
  rcases this.2 with h | h
  · simp at h
  · rw [show ((i + 1 : Nat) : Int) - 1 = (i : Int) by omega, rdE xs i (by omega), rdE xs (i + 1) hi] at h
    exact h
theorem run_pw {xs : List S27} (h : runB xs = true) : xs.Pairwise (fun a b => aheadB a b = true) := by
  rw [List.pairwise_iff_getElem]
  intro i j hi hj hij
  obtain ⟨d, rfl⟩ : ∃ d, j = i + 1 + d := ⟨j - i - 1, by omega⟩
  induction d with
  | zero => exact run_next h i hj
  | succ d ih => exact ahead_trans (ih (by omega) (by omega)) (run_next h (i + 1 + d) hj)
theorem find_max {xs : List S27} (h : runB xs = true) {q : ByteArray} {t : Int} {e : S27} (he : xs.find? (hitA q t) = some e) : e ∈ xs ∧ e.f0.toList = q.toList ∧ e.f3 ≤ t ∧ ∀ y ∈ xs, y.f0.toList = q.toList → y.f3 ≤ t → y.f3 ≤ e.f3 := by
  obtain ⟨hp, l1, l2, rfl, hn⟩ := List.find?_eq_some_iff_append.1 he
  have hh : e.f0.toList = q.toList ∧ e.f3 ≤ t := by simpa [hitA] using hp
  refine ⟨by simp, hh.1, hh.2, fun y hy hk ht => ?_⟩
  have hpw := run_pw h
  rw [List.pairwise_append] at hpw
  rcases List.mem_append.1 hy with hy | hy
  · have := hn y hy; simp [hitA, hk, ht] at this
  · rcases List.mem_cons.1 hy with rfl | hy
    · omega
    · have := ahead_time ((List.pairwise_cons.1 hpw.2.1).1 y hy) (hh.1.trans hk.symm); omega

/-! #### order2 -/
theorem run_uniq {xs : List S27} (h : runB xs = true) {x y : S27} (hx : x ∈ xs) (hy : y ∈ xs) (hk : x.f0.toList = y.f0.toList) (ht : x.f3 = y.f3) : x = y := by
  have hp := List.pairwise_iff_getElem.1 (run_pw h)
  obtain ⟨i, hi, rfl⟩ := List.mem_iff_getElem.1 hx
  obtain ⟨j, hj, rfl⟩ := List.mem_iff_getElem.1 hy
  by_cases c : i = j
  · subst c; rfl
  · rcases Nat.lt_or_gt_of_ne c with c | c
    · have := ahead_time (hp i j hi hj c) hk; omega
    · have := ahead_time (hp j i hj hi c) hk.symm; omega
theorem run_time {xs : List S27} (h : runB xs = true) {x : S27} (hx : x ∈ xs) : 1 ≤ x.f3 ∧ x.f3 ≤ 999 := by
  have := runB_entry h x hx
  simp only [entryB, Bool.and_eq_true] at this
  have := this.2.2
  split at this
  · simp only [Bool.and_eq_true, inB, decide_eq_true_eq] at this; exact this.2
  · simpa [inB] using this
theorem find_some {xs : List S27} {q : ByteArray} {t : Int} {e : S27} (hx : e ∈ xs) (hk : e.f0.toList = q.toList) (ht : e.f3 ≤ t) : ∃ e', xs.find? (hitA q t) = some e' := by
  cases h : xs.find? (hitA q t) with
  | some e' => exact ⟨e', rfl⟩
  | none => exact absurd (by simp [hitA, hk, ht]) (List.find?_eq_none.1 h e hx)

/-! #### drawRunAt -/
theorem keysL_mem (xs : List S27) (d : Nat) : ∀ (i : Nat) (out : List ByteArray), i + d ≤ xs.length → ∀ s ∈ keysL xs d i out, s ∈ out ∨ ∃ x ∈ xs, s = x.f0 := by
  induction d with
  | zero => intro i out _ s hs; exact .inl hs
  | succ d ih =>
    intro i out hd s hs
    have hx : ∃ x ∈ xs, (rd_T27 xs (i : Int)).f0 = x.f0 := ⟨xs[i]'(by omega), List.getElem_mem _, by rw [rdE xs i (by omega)]⟩
    have two : s ∈ keysL xs d (i + 1) (out ++ [(rd_T27 xs (i : Int)).f0]) → s ∈ out ∨ ∃ x ∈ xs, s = x.f0 := fun h => by
      rcases ih _ _ (by omega) s h with h | h
      · rcases List.mem_append.1 h with h | h
        · exact .inl h
        · simp at h; obtain ⟨x, h1, h2⟩ := hx; exact .inr ⟨x, h1, h.trans h2⟩
      · exact .inr h
    simp only [keysL] at hs
    split at hs
    · exact two hs
    · split at hs
      · exact ih _ _ (by omega) s hs
      · exact two hs
theorem drawRunAt_f (l : List Int) (hl : ∀ x ∈ l, 0 ≤ x ∧ x ≤ 255) (k : Nat) (hk : 10000000 < k) : ∃ r q t, spec_DrawRunAt.f k l = some (r, q, t) ∧ r.length ≤ 41 ∧ (∀ x ∈ r, x.f0.size ≤ 6) ∧ q.size ≤ 6 ∧ 0 ≤ t ∧ t < 70 := by
  unfold spec_DrawRunAt.f
  obtain ⟨z, h, hz⟩ := open_f l hl
  rw [h]; simp only [Option.bind_some]
  obtain ⟨r, c, h, a1, a2, a3, a4⟩ := off_f z hz 0 (by omega) (by omega) k hk
  rw [h]; simp only [Option.bind_some]
  have hks := specKeys_l r (by omega) r.length k 0 [] (by omega) (by omega) (by omega) (by simp)
  have hkl := keysL_len r r.length 0 []
  have hkm := keysL_mem r r.length 0 [] (by omega)
  unfold spec_l11Keys.f
  rw [show (0 : Int) = ((0 : Nat) : Int) from rfl, hks]; simp only [Option.bind_some]
  obtain ⟨q, c', h, b1, b2, b3⟩ := near_f z hz c (keysL r r.length 0 []) 6 (by omega) (by omega) (fun s hs => by
    rcases hkm s hs with h | ⟨x, hx, rfl⟩
    · simp at h
    · exact a2 x hx) (by simp at hkl; omega) (by omega) (by omega) k (by omega)
  rw [h]; simp only [Option.bind_some]
  obtain ⟨v, h, d1, d2⟩ := pick_f z hz c' 70 (by omega) (by omega) k (by omega)
  rw [h]; simp only [Option.bind_some]
  exact ⟨_, _, _, rfl, a1, a2, b1, d1, d2 (by omega)⟩

/-! #### the law -/
theorem law_f (l l1 : List Int) (hl : ∀ x ∈ l, 0 ≤ x ∧ x ≤ 255) : ∃ k, laws_FnRunAtMore.f k l l1 = some true := by
  refine ⟨20000002, ?_⟩
  unfold laws_FnRunAtMore.f
  have tt : ∀ k, laws_FnRunAtMore.j0 (k + 1) l l1 true = some true := fun k => by simp only [laws_FnRunAtMore.j0, if_true]
  split
  · exact tt 20000001
  by_cases hl1 : (l1.length : Int) > 1048576
  · rw [decide_eq_true hl1]; exact tt 20000001
  rw [decide_eq_false hl1]
  show laws_FnRunAtMore.j0 (20000001 + 1) _ _ _ = _
  simp only [laws_FnRunAtMore.j0, Bool.false_eq_true, if_false]
  obtain ⟨xs, q, t, h, a1, a2, a3, a4, a5⟩ := drawRunAt_f l hl 20000001 (by omega)
  have ho : ∀ x ∈ xs, x.f0.size ≤ 9223372036854775807 ∧ x.f0.size < 7 := fun x hx => by have := a2 x hx; omega
  have hI : ∀ u, impl_RunAt.f 20000000 xs q u = some (atT (runAtF xs q u)) := fun u => implRunAt_f xs q u (by omega) 7 ho 20000000 (by omega)
  rw [h]; simp only [Option.bind_some]
  rw [specRunAt_f xs q t (by omega) 7 ho 20000001 (by omega)]; simp only [Option.bind_some]
  rw [implRunAt_f xs q t (by omega) 7 ho 20000001 (by omega)]; simp only [Option.bind_some]
  rw [if_neg (by simp), if_neg (by simp)]
  show laws_FnRunAtMore.j1 (20000000 + 1) _ _ _ _ _ _ _ _ _ _ _ _ _ _ _ = _
  simp only [laws_FnRunAtMore.j1]
  cases hr : runAtF xs q t with
  | none => simp [atT]
  | some e =>
    have hb : runB xs = true := by
      cases hb : runB xs
      · unfold runAtF at hr; rw [if_neg (by simp [hb])] at hr; cases hr
      · rfl
    have hR : ∀ u, runAtF xs q u = xs.find? (hitA q u) := fun u => by unfold runAtF; rw [if_pos hb]
    rw [hR] at hr
    obtain ⟨m1, m2, m3, m4⟩ := find_max hb hr
    have ht := run_time hb m1
    simp only [atT, Bool.not_true, Bool.false_eq_true, if_false, hI, hR]
    rw [w64 (by omega) (by omega)]
    obtain ⟨e1, h1⟩ := find_some (t := t + (l1.length : Int)) m1 m2 (by omega)
    obtain ⟨_, _, _, n4⟩ := find_max hb h1
    obtain ⟨e2, h2⟩ := find_some (t := e.f3) m1 m2 (by omega)
    obtain ⟨o1, o2, o3, o4⟩ := find_max hb h2
    have he : e2 = e := run_uniq hb o1 m1 (o2.trans m2.symm) (by have := o4 e m1 m2 (by omega); omega)
    have h0 : xs.find? (hitA q 0) = none := List.find?_eq_none.2 fun x hx hh => by
      have := run_time hb hx
      simp [hitA] at hh; omega
    have g1 := n4 e m1 m2 (by omega)
    rw [h1, h2, h0, he]
    simp [g1]
theorem byte_wf {x : Int} (h : (Lit.int .u8 x).wf = true) : 0 ≤ x ∧ x ≤ 255 := by
  simp only [Lit.wf, Bool.and_eq_true, decide_eq_true_eq] at h
  exact h
theorem law : laws_FnRunAtMore.Pure := fun l0 l1 _ _ h _ _ _ => law_f l0 l1 fun x hx => byte_wf (h x hx)

end Go.Proofs.Ytkifijclehgiaaa.PFnRunAtMore
