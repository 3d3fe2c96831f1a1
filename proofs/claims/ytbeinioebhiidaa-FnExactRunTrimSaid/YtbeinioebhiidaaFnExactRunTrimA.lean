/-
  The plain law of FnExactRunTrim: what the printed functions compute answers true, for every argument that fits; and the lemmas on each function that it reaches. No condition beyond that numbers are of their kind and lengths within a slice's.
-/
import Derived.Test.YtbeinioebhiidaaPFnExactRunTrimx3
import Derived.Test.YtbeinioebhiidaaPFnExactRunTrimx4
import Derived.Test.YtbeinioebhiidaaPFnExactRunTrimx5
import Derived.Test.YtbeinioebhiidaaPFnExactRunTrimx6
import Derived.Test.YtbeinioebhiidaaPFnExactRunTrimx7
import Derived.Test.YtbeinioebhiidaaPFnExactRunTrimx8
import Derived.Test.YtbeinioebhiidaaPFnExactRunTrimx9
import Derived.Test.YtbeinioebhiidaaSeen
namespace Go.Proofs.Ytbeinioebhiidaa.PFnExactRunTrim
open Go.RowKit Go.Proofs.YtbeinioebhiidaaW.PrintWords Go.Proofs.YtbeinioebhiidaaW.PrintLast Go.Proofs.YtbeinioebhiidaaW.PrintMore
set_option linter.unusedVariables false
set_option linter.unusedSimpArgs false

/-! #### base -/
theorem w64 {x : Int} (h0 : -9223372036854775808 ≤ x) (h1 : x ≤ 9223372036854775807) : wrap64 x = x := by unfold wrap64; omega
theorem toList_inj {a b : ByteArray} (h : a.toList = b.toList) : a = b := by
  rw [ByteArray.toList_eq, ByteArray.toList_eq] at h
  exact ByteArray.ext (Array.ext' h)
theorem fuel {k d : Nat} (h : d < k) : ∃ m, k = m + 1 := ⟨k - 1, by omega⟩

theorem rdE (xs : List S33) (n : Nat) (h : n < xs.length) : rd_T33 xs (n : Int) = xs[n] := by simp [rd_T33, List.getD, h]
instance : DecidableEq S33 := fun a b => decidable_of_iff (a.f0 = b.f0 ∧ a.f1 = b.f1 ∧ a.f2 = b.f2 ∧ a.f3 = b.f3) (by cases a; cases b; simp)

theorem rdLE (xs : List S51) (n : Nat) (h : n < xs.length) : rd_T51 xs (n : Int) = xs[n] := by simp [rd_T51, List.getD, h]
def cvE (x : S51) : S33 := ⟨x.f0, x.f1, x.f2, x.f3⟩
abbrev okLE (x : S51) : Prop := x.f0.size ≤ maxLen ∧ (Lit.int .i64 x.f1).wf = true ∧ True ∧ (Lit.int .i64 x.f3).wf = true
theorem okLEs {l : List S51} (h : l.length ≤ maxLen ∧ ∀ x ∈ l, okLE x) : l.length ≤ 9223372036854775807 ∧ ∀ x ∈ l, x.f0.size ≤ 9223372036854775807 := ⟨h.1, fun x hx => (h.2 x hx).1⟩

theorem szEntryS_l (xs : List S51) (hn : xs.length ≤ 9223372036854775806) (ho : ∀ x ∈ xs, x.f0.size ≤ 9223372036854775807) (d : Nat) : ∀ (k i : Nat) (a : Int), i ≤ xs.length → xs.length - i = d → d < k → 0 ≤ a → a ≤ 9223372036854775807 →
    ∃ v, laws_szEntryS.l0 k xs a (i : Int) = some v ∧ -1 ≤ v ∧ v ≤ a := by
  induction d with
  | zero =>
    intro k i a h1 hd hk h2 h3
    obtain ⟨k, rfl⟩ := fuel hk
    exact ⟨a, by simp only [laws_szEntryS.l0]; rw [if_neg (by omega)], by omega, by omega⟩
  | succ d ih =>
    intro k i a h1 hd hk h2 h3
    obtain ⟨k, rfl⟩ := fuel hk
    have hlt : i < xs.length := by omega
    have hs := ho _ (List.getElem_mem hlt)
    simp only [laws_szEntryS.l0]; rw [if_pos (by omega), if_pos (by omega), rdLE xs i hlt]
    unfold laws_szEntry.f
    rw [w64 (by omega) (by omega)]
    by_cases hc : a - (xs[i].f0.size : Int) < 0
    · rw [if_pos hc]; exact ⟨-1, by simp, by omega, by omega⟩
    · rw [if_neg hc]; simp only [Option.bind_some]
      rw [if_neg hc, w64 (by omega) (by omega)]
      obtain ⟨v, h, h4, h5⟩ := ih k (i + 1) (a - (xs[i].f0.size : Int)) (by omega) (by omega) (by omega) (by omega) (by omega)
      exact ⟨v, by simpa using h, h4, by omega⟩
theorem szEntryS_f (xs : List S51) (hn : xs.length ≤ 9223372036854775807) (ho : ∀ x ∈ xs, x.f0.size ≤ 9223372036854775807) (a : Int) (h2 : 0 ≤ a) (h3 : a ≤ 1048576) (k : Nat) (hk : 1048576 < k) :
    ∃ v, laws_szEntryS.f k xs a = some v ∧ -1 ≤ v ∧ v ≤ a ∧ (0 ≤ v → (xs.length : Int) ≤ a) := by
  unfold laws_szEntryS.f
  rw [w64 (by omega) (by omega)]
  by_cases hc : a - (xs.length : Int) < 0
  · rw [if_pos hc]; exact ⟨-1, rfl, by omega, by omega, by omega⟩
  · rw [if_neg hc]
    obtain ⟨v, h, h4, h5⟩ := szEntryS_l xs (by omega) ho xs.length k 0 (a - (xs.length : Int)) (by omega) (by omega) (by omega) (by omega) (by omega)
    exact ⟨v, h, h4, by omega, by omega⟩

theorem toEntryS_l (xs : List S51) (hn : xs.length ≤ 7036874417766) (d : Nat) : ∀ (k i : Nat) (ys : List S33), i ≤ xs.length → xs.length - i = d → d < k → ys.length = xs.length → ys.take i = (xs.map cvE).take i →
    laws_toEntryS.l0 k xs ys (i : Int) = some (xs.map cvE) := by
  induction d with
  | zero =>
    intro k i ys h1 hd hk hl ht
    obtain ⟨k, rfl⟩ := fuel hk
    simp only [laws_toEntryS.l0]; rw [if_neg (by omega)]
    have hi : i = xs.length := by omega
    rw [hi, List.take_of_length_le (by omega), List.take_of_length_le (by simp)] at ht
    rw [ht]
  | succ d ih =>
    intro k i ys h1 hd hk hl ht
    obtain ⟨k, rfl⟩ := fuel hk
    have hlt : i < xs.length := by omega
    simp only [laws_toEntryS.l0]; rw [if_pos (by omega), if_pos (by omega)]
    simp only [laws_toEntry.f, Option.bind_some]
    rw [if_pos (by omega), w64 (by omega) (by omega), rdLE xs i hlt]
    have := ih k (i + 1) (ys.set i (cvE xs[i])) (by omega) (by omega) (by omega) (by simpa using hl) (by
      rw [List.take_add_one, List.take_add_one, List.take_set_of_le (Nat.le_refl _), ht]
      simp [hlt, hl])
    simpa [cvE] using this
theorem toEntryS_f (xs : List S51) (hn : xs.length ≤ 7036874417766) (k : Nat) (hk : xs.length < k) : laws_toEntryS.f k xs = some (xs.map cvE) := by
  unfold laws_toEntryS.f
  rw [if_pos (by omega), if_pos (by simpa using hn)]
  exact toEntryS_l xs hn xs.length k 0 _ (by omega) (by omega) hk (by simp) (by simp)

theorem eqEntry_f (a b : S33) : laws_eqEntry.f a.f0 a.f1 a.f2 a.f3 b.f0 b.f1 b.f2 b.f3 = some (decide (a = b)) := by
  unfold laws_eqEntry.f
  obtain ⟨a0, a1, a2, a3⟩ := a
  obtain ⟨b0, b1, b2, b3⟩ := b
  simp only [S33.mk.injEq]
  by_cases h0 : a0 = b0
  · subst h0; rw [if_pos rfl]
    by_cases h1 : a1 = b1
    · subst h1; rw [if_pos rfl]
      by_cases h2 : a2 = b2
      · subst h2; simp
        by_cases h3 : a3 = b3 <;> simp [h3]
      · simp [h2]
    · simp [h1]
  · rw [if_neg (fun h => h0 (toList_inj h))]; simp [h0]
theorem eqEntryS_l (xs : List S33) (hn : xs.length ≤ 9223372036854775806) (d : Nat) : ∀ (k i : Nat), i ≤ xs.length → xs.length - i = d → d < k → laws_eqEntryS.l0 k xs xs (i : Int) = some true := by
  induction d with
  | zero =>
    intro k i h1 hd hk
    obtain ⟨k, rfl⟩ := fuel hk
    simp only [laws_eqEntryS.l0]; rw [if_neg (by omega)]
  | succ d ih =>
    intro k i h1 hd hk
    obtain ⟨k, rfl⟩ := fuel hk
    simp only [laws_eqEntryS.l0]; rw [if_pos (by omega), if_pos (by omega), if_pos (by omega), eqEntry_f]
    simp only [decide_true, Option.bind_some, if_true]
    rw [w64 (by omega) (by omega)]
    exact ih k (i + 1) (by omega) (by omega) (by omega)
theorem eqEntryS_f (xs : List S33) (hn : xs.length ≤ 9223372036854775806) (k : Nat) (hk : xs.length < k) : laws_eqEntryS.f k xs xs = some true := by
  unfold laws_eqEntryS.f
  rw [if_pos rfl]
  exact eqEntryS_l xs hn xs.length k 0 (by omega) (by omega) hk

/-! #### runOk -/
def inB (a lo hi : Int) : Bool := decide (lo ≤ a) && decide (a ≤ hi)
theorem specIn_f (a b c : Int) : spec_l6In.f a b c = some (inB a b c) := by
  unfold spec_l6In.f inB
  by_cases h : b ≤ a <;> simp [h]
theorem implIn_f (a b c : Int) : impl_in.f a b c = some (inB a b c) := by
  unfold impl_in.f inB
  by_cases h : b ≤ a <;> simp [h]
def keyL (a : ByteArray) : Nat → Nat → Bool
  | 0, _ => decide ((a.size : Int) ≤ 5)
  | d + 1, i => inB (bt a (i : Int)) 97 100 && keyL a d (i + 1)
def keyB (a : ByteArray) : Bool := keyL a a.size 0
theorem specKey_l (a : ByteArray) (hn : a.size ≤ 9223372036854775807) (d : Nat) : ∀ (k i : Nat), i ≤ a.size → a.size - i = d → d < k → spec_KeyOk.l0 k a (i : Int) = some (keyL a d i) := by
  induction d with
  | zero =>
    intro k i h1 hd hk
    obtain ⟨k, rfl⟩ := fuel hk
    simp only [spec_KeyOk.l0]; rw [if_neg (by omega)]; rfl
  | succ d ih =>
    intro k i h1 hd hk
    obtain ⟨k, rfl⟩ := fuel hk
    obtain ⟨b1, b2⟩ := bt_range a (i : Int)
    simp only [spec_KeyOk.l0]; rw [if_pos (by omega), if_pos (by omega), w64 (x := bt a (i : Int)) (by omega) (by omega), specIn_f, w64 (by omega) (by omega)]
    have := ih k (i + 1) (by omega) (by omega) (by omega)
    simp only [Option.bind_some, keyL]
    cases inB (bt a (i : Int)) 97 100
    · simp
    · simpa using this
theorem specKey_f (a : ByteArray) (hn : a.size ≤ 9223372036854775807) (k : Nat) (hk : a.size < k) : spec_KeyOk.f k a = some (keyB a) := specKey_l a hn a.size k 0 (by omega) (by omega) hk
theorem implKey_l (a : ByteArray) (hn : a.size ≤ 9223372036854775807) (d : Nat) : ∀ (k i : Nat), i ≤ a.size → a.size - i = d → d < k → impl_KeyOk.l0 k a (a.size : Int) (i : Int) = some (keyL a d i) := by
  induction d with
  | zero =>
    intro k i h1 hd hk
    obtain ⟨k, rfl⟩ := fuel hk
    simp only [impl_KeyOk.l0]; rw [if_neg (by omega)]; rfl
  | succ d ih =>
    intro k i h1 hd hk
    obtain ⟨k, rfl⟩ := fuel hk
    simp only [impl_KeyOk.l0]; rw [if_pos (by omega), if_pos (by omega), if_pos (by omega), w64 (by omega) (by omega)]
    have := ih k (i + 1) (by omega) (by omega) (by omega)
    simp only [keyL, inB]
    by_cases c1 : bt a (i : Int) < 97
    · rw [if_pos c1]; simp [show ¬ (97 ≤ bt a (i : Int)) by omega]
    · rw [if_neg c1]
      by_cases c2 : bt a (i : Int) > 100
      · rw [if_pos c2]; simp [show ¬ (bt a (i : Int) ≤ 100) by omega]
      · rw [if_neg c2]; simpa [show 97 ≤ bt a (i : Int) by omega, show bt a (i : Int) ≤ 100 by omega] using this
theorem implKey_f (a : ByteArray) (hn : a.size ≤ 9223372036854775807) (k : Nat) (hk : a.size < k) : impl_KeyOk.f k a = some (keyB a) := implKey_l a hn a.size k 0 (by omega) (by omega) hk
def entryB (e : S33) : Bool := keyB e.f0 && (inB e.f1 0 99 && (if e.f2 = true then decide (e.f1 = 0) && inB e.f3 1 999 else inB e.f3 1 999))
theorem specEntry_f (e : S33) (hn : e.f0.size ≤ 9223372036854775807) (k : Nat) (hk : e.f0.size < k) : spec_l11Ok.f k e.f0 e.f1 e.f2 e.f3 = some (entryB e) := by
  unfold spec_l11Ok.f entryB
  rw [specKey_f _ hn k hk]
  simp only [Option.bind_some, specIn_f]
  cases keyB e.f0 <;> cases inB e.f1 0 99 <;> cases e.f2 <;> by_cases h : e.f1 = 0 <;> simp [h]
theorem implEntry_f (e : S33) (hn : e.f0.size ≤ 9223372036854775807) (k : Nat) (hk : e.f0.size < k) : impl_entryOk.f k e.f0 e.f1 e.f2 e.f3 = some (entryB e) := by
  unfold impl_entryOk.f entryB
  rw [implKey_f _ hn k hk]
  simp only [Option.bind_some, implIn_f]
  cases keyB e.f0 <;> cases inB e.f1 0 99 <;> cases e.f2 <;> by_cases h : e.f1 = 0 <;> simp [h]
def aheadB (a b : S33) : Bool := Go.Op.bytesLess a.f0.toList b.f0.toList || (decide (a.f0.toList = b.f0.toList) && decide (a.f3 > b.f3))
theorem specAhead_f (a b : S33) : spec_l11Ahead.f a.f0 a.f1 a.f2 a.f3 b.f0 b.f1 b.f2 b.f3 = some (aheadB a b) := by
  unfold spec_l11Ahead.f aheadB
  cases Go.Op.bytesLess a.f0.toList b.f0.toList <;> by_cases h : a.f0.toList = b.f0.toList <;> simp [h]
theorem implBefore_f (a b : S33) : impl_before.f a.f0 a.f1 a.f2 a.f3 b.f0 b.f1 b.f2 b.f3 = some (aheadB a b) := by
  unfold impl_before.f aheadB
  cases Go.Op.bytesLess a.f0.toList b.f0.toList <;> by_cases h : a.f0.toList = b.f0.toList <;> simp [h]
def stepB (xs : List S33) (i : Nat) : Bool := entryB (rd_T33 xs (i : Int)) && (decide (i = 0) || aheadB (rd_T33 xs ((i : Int) - 1)) (rd_T33 xs (i : Int)))
def runL (xs : List S33) : Nat → Nat → Bool
  | 0, _ => decide ((xs.length : Int) ≤ 40)
  | d + 1, i => stepB xs i && runL xs d (i + 1)
def runB (xs : List S33) : Bool := runL xs xs.length 0
theorem specRunOk_l (xs : List S33) (hn : xs.length ≤ 9223372036854775806) (B : Nat) (ho : ∀ x ∈ xs, x.f0.size ≤ 9223372036854775807 ∧ x.f0.size < B) (d : Nat) : ∀ (k i : Nat), i ≤ xs.length → xs.length - i = d → d + B < k → spec_RunOk.l0 k xs (i : Int) = some (runL xs d i) := by
  induction d with
  | zero =>
    intro k i h1 hd hk
    obtain ⟨k, rfl⟩ := fuel hk
    simp only [spec_RunOk.l0]; rw [if_neg (by omega)]; rfl
  | succ d ih =>
    intro k i h1 hd hk
    obtain ⟨k, rfl⟩ := fuel hk
    have hlt : i < xs.length := by omega
    have ho' := ho xs[i] (List.getElem_mem hlt)
    have := ih k (i + 1) (by omega) (by omega) (by omega)
    simp only [spec_RunOk.l0]; rw [if_pos (by omega), if_pos (by omega), specEntry_f (rd_T33 xs (i : Int)) (by rw [rdE xs i hlt]; exact ho'.1) k (by rw [rdE xs i hlt]; omega), w64 (x := (i : Int) - 1) (by omega) (by omega), specAhead_f, w64 (by omega) (by omega)]
    simp only [Option.bind_some, runL, stepB]
    cases entryB (rd_T33 xs (i : Int))
    · simp
    · by_cases h0 : i = 0
      · subst h0; simpa using this
      · rw [if_pos rfl, if_pos (by omega), if_pos (by omega), if_pos (by omega)]
        cases aheadB (rd_T33 xs ((i : Int) - 1)) (rd_T33 xs (i : Int))
        · simp [h0]
        · simpa [h0] using this
theorem implRunOk_l (xs : List S33) (hn : xs.length ≤ 9223372036854775806) (B : Nat) (ho : ∀ x ∈ xs, x.f0.size ≤ 9223372036854775807 ∧ x.f0.size < B) (d : Nat) : ∀ (k i : Nat), i ≤ xs.length → xs.length - i = d → d + B < k → impl_RunOk.l0 k xs xs (xs.length : Int) (i : Int) = some (runL xs d i) := by
  induction d with
  | zero =>
    intro k i h1 hd hk
    obtain ⟨k, rfl⟩ := fuel hk
    simp only [impl_RunOk.l0]; rw [if_neg (by omega)]; rfl
  | succ d ih =>
    intro k i h1 hd hk
    obtain ⟨k, rfl⟩ := fuel hk
    have hlt : i < xs.length := by omega
    have ho' := ho xs[i] (List.getElem_mem hlt)
    have := ih k (i + 1) (by omega) (by omega) (by omega)
    simp only [impl_RunOk.l0]; rw [if_pos (by omega), if_pos (by omega), if_pos (by omega), implEntry_f (rd_T33 xs (i : Int)) (by rw [rdE xs i hlt]; exact ho'.1) k (by rw [rdE xs i hlt]; omega), w64 (x := (i : Int) - 1) (by omega) (by omega), implBefore_f, w64 (by omega) (by omega)]
    simp only [Option.bind_some, runL, stepB]
    cases entryB (rd_T33 xs (i : Int))
    · simp
    · by_cases h0 : i = 0
      · subst h0; simpa using this
      · rw [if_pos rfl, if_pos (by omega), if_pos (by omega), if_pos (by omega)]
        cases aheadB (rd_T33 xs ((i : Int) - 1)) (rd_T33 xs (i : Int))
        · simp [h0]
        · simpa [h0] using this
theorem specRunOk_f (xs : List S33) (hn : xs.length ≤ 9223372036854775806) (B : Nat) (ho : ∀ x ∈ xs, x.f0.size ≤ 9223372036854775807 ∧ x.f0.size < B) (k : Nat) (hk : xs.length + B < k) : spec_RunOk.f k xs = some (runB xs) := specRunOk_l xs hn B ho xs.length k 0 (by omega) (by omega) hk
theorem implRunOk_f (xs : List S33) (hn : xs.length ≤ 9223372036854775806) (B : Nat) (ho : ∀ x ∈ xs, x.f0.size ≤ 9223372036854775807 ∧ x.f0.size < B) (k : Nat) (hk : xs.length + B < k) : impl_RunOk.f k xs = some (runB xs) := implRunOk_l xs hn B ho xs.length k 0 (by omega) (by omega) hk

theorem okMap {l : List S51} (h : ∀ x ∈ l, x.f0.size ≤ 9223372036854775807) : ∀ x ∈ l.map cvE, x.f0.size ≤ 9223372036854775807 ∧ x.f0.size < 9223372036854775808 := by
  intro x hx
  obtain ⟨y, hy, rfl⟩ := List.mem_map.1 hx
  have := h y hy
  exact ⟨this, by simp only [cvE]; omega⟩

/-! #### trim -/
def keepA (xs : List S33) (ts : List Int) (i : Nat) : Bool := decide (i = 0) || (((rd_T33 xs ((i : Int) - 1)).f0.toList != (rd_T33 xs (i : Int)).f0.toList) || seenB ts (rd_T33 xs (i : Int)).f3 (rd_T33 xs ((i : Int) - 1)).f3)
def passA (xs : List S33) (ts : List Int) : Nat → Nat → List S33 → List S33
  | 0, _, out => out
  | d + 1, i, out => if keepA xs ts i = true then passA xs ts d (i + 1) (out ++ [rd_T33 xs (i : Int)]) else passA xs ts d (i + 1) out
def lastB (ss : List S33) (i : Nat) : Bool := decide (i + 1 = ss.length) || ((rd_T33 ss ((i : Int) + 1)).f0.toList != (rd_T33 ss (i : Int)).f0.toList)
def passB (b : Bool) (ss : List S33) : Nat → Nat → List S33 → List S33
  | 0, _, out => out
  | d + 1, i, out => if (b && ((rd_T33 ss (i : Int)).f2 && lastB ss i)) = true then passB b ss d (i + 1) out else passB b ss d (i + 1) (out ++ [rd_T33 ss (i : Int)])
theorem passA_len (xs : List S33) (ts : List Int) (d : Nat) : ∀ (i : Nat) (out : List S33), (passA xs ts d i out).length ≤ out.length + d := by
  induction d with
  | zero => intro i out; simp [passA]
  | succ d ih =>
    intro i out
    simp only [passA]
    split
    · have := ih (i + 1) (out ++ [rd_T33 xs (i : Int)]); simp at this; omega
    · have := ih (i + 1) out; omega
theorem passB_len (b : Bool) (ss : List S33) (d : Nat) : ∀ (i : Nat) (out : List S33), (passB b ss d i out).length ≤ out.length + d := by
  induction d with
  | zero => intro i out; simp [passB]
  | succ d ih =>
    intro i out
    simp only [passB]
    split
    · have := ih (i + 1) out; omega
    · have := ih (i + 1) (out ++ [rd_T33 ss (i : Int)]); simp at this; omega
theorem passB_false (ss : List S33) (d : Nat) : ∀ (i : Nat) (out : List S33), i + d = ss.length → passB false ss d i out = out ++ ss.drop i := by
  induction d with
  | zero => intro i out h; rw [List.drop_of_length_le (by omega)]; simp [passB]
  | succ d ih =>
    intro i out h
    simp only [passB, Bool.false_and, Bool.false_eq_true, if_false]
    rw [ih (i + 1) _ (by omega), rdE ss i (by omega), List.drop_eq_getElem_cons (show i < ss.length by omega)]
    simp
theorem seen_l (xs : List S33) (ts : List Int) (i : Nat) (hi : i < xs.length) (h0 : 0 < i) (hn : xs.length ≤ 9223372036854775806) (ht : ts.length ≤ 9223372036854775806) (d : Nat) : ∀ (k j : Nat), j ≤ ts.length → ts.length - j = d → d < k → spec_l11Seen.l0 k xs (i : Int) ts (j : Int) = some ((ts.drop j).any fun t => decide ((rd_T33 xs (i : Int)).f3 ≤ t) && decide (t < (rd_T33 xs ((i : Int) - 1)).f3)) := by
  induction d with
  | zero =>
    intro k j h1 hd hk
    obtain ⟨k, rfl⟩ := fuel hk
    simp only [spec_l11Seen.l0]; rw [if_neg (by omega), List.drop_of_length_le (by omega)]; rfl
  | succ d ih =>
    intro k j h1 hd hk
    obtain ⟨k, rfl⟩ := fuel hk
    have hlt : j < ts.length := by omega
    have hr : rd ts (j : Int) = ts[j] := by simp [rd, List.getD, hlt]
    have := ih k (j + 1) (by omega) (by omega) (by omega)
    rw [Int.natCast_add] at this
    simp only [spec_l11Seen.l0]; rw [if_pos (by omega), if_pos (by omega), if_pos (by omega), if_pos (by omega), hr, w64 (x := (i : Int) - 1) (by omega) (by omega), w64 (x := (j : Int) + 1) (by omega) (by omega), List.drop_eq_getElem_cons hlt, List.any_cons]
    by_cases c1 : (rd_T33 xs (i : Int)).f3 ≤ ts[j]
    · rw [if_pos c1, if_pos (by omega), if_pos (by omega)]
      by_cases c2 : ts[j] < (rd_T33 xs ((i : Int) - 1)).f3
      · rw [if_pos c2]; simp [c1, c2]
      · rw [if_neg c2]; simpa [c1, c2] using this
    · rw [if_neg c1]; simpa [c1] using this
theorem seen_f (xs : List S33) (ts : List Int) (i : Nat) (hi : i < xs.length) (hn : xs.length ≤ 9223372036854775806) (ht : ts.length ≤ 9223372036854775806) (k : Nat) (hk : ts.length + 1 < k) : spec_l11Seen.f k xs (i : Int) ts = some (keepA xs ts i) := by
  obtain ⟨k, rfl⟩ := fuel (show 0 < k by omega)
  unfold spec_l11Seen.f keepA
  by_cases h0 : i = 0
  · rw [if_pos (by omega)]; simp [spec_l11Seen.j0, h0]
  · rw [if_neg (by omega), w64 (x := (i : Int) - 1) (by omega) (by omega), if_pos (by omega), if_pos (by omega), if_pos (by omega), if_pos (by omega)]
    have := seen_l xs ts i hi (by omega) hn ht ts.length k 0 (by omega) (by omega) (by omega)
    simp only [spec_l11Seen.j0]
    split
    · rename_i hc; simp [hc]
    · rename_i hc
      rw [show (0 : Int) = ((0 : Nat) : Int) from rfl, this]
      simp only [Bool.not_eq_true] at hc
      simp [hc, h0, seenB]
theorem specTrim1_l (ss : List S33) (hn : ss.length ≤ 2000000) (d : Nat) : ∀ (k i : Nat) (out : List S33), i ≤ ss.length → ss.length - i = d → d < k → out.length ≤ i → spec_l11Trim.l1 k ss out (i : Int) = some (passB true ss d i out) := by
  induction d with
  | zero =>
    intro k i out h1 hd hk ho
    obtain ⟨k, rfl⟩ := fuel hk
    simp only [spec_l11Trim.l1]; rw [if_neg (by omega)]; rfl
  | succ d ih =>
    intro k i out h1 hd hk ho
    obtain ⟨k, rfl⟩ := fuel hk
    have e1 := ih k (i + 1) (out ++ [rd_T33 ss (i : Int)]) (by omega) (by omega) (by omega) (by simp; omega)
    have e2 := ih k (i + 1) out (by omega) (by omega) (by omega) (by omega)
    rw [Int.natCast_add] at e1 e2
    simp only [spec_l11Trim.l1, passB]; rw [if_pos (by omega), w64 (x := (i : Int) + 1) (by omega) (by omega)]
    by_cases c : i + 1 = ss.length
    · rw [if_pos (by omega), if_pos (by omega)]
      split
      · rename_i g; rw [if_pos (by simp [g, c, lastB])]; exact e2
      · rename_i g; rw [if_pos (by omega), if_neg (by simp [g])]; exact e1
    · rw [if_neg (by omega), if_pos (by omega), if_pos (by omega), if_pos (by omega)]
      split
      · rename_i g
        split
        · rename_i g2; rw [if_pos (by simp [g, g2, lastB])]; exact e2
        · rename_i g2; rw [if_pos (by omega), if_neg (by simp at g2; simp [g, g2, c, lastB])]; exact e1
      · rename_i g; rw [if_pos (by omega), if_neg (by simp [g])]; exact e1
def trimF (xs : List S33) (ts : List Int) (b : Bool) : List S33 := if runB xs = true then passB b (passA xs ts xs.length 0 []) (passA xs ts xs.length 0 []).length 0 [] else []
theorem specTrim_l (xs : List S33) (ts : List Int) (b : Bool) (hn : xs.length ≤ 1048576) (ht : ts.length ≤ 1048576) (d : Nat) : ∀ (k i : Nat) (out : List S33), i ≤ xs.length → xs.length - i = d → d + 5000000 < k → out.length ≤ i → spec_l11Trim.l0 k xs ts b out (i : Int) = some (passB b (passA xs ts d i out) (passA xs ts d i out).length 0 []) := by
  induction d with
  | zero =>
    intro k i out h1 hd hk ho
    obtain ⟨k, rfl⟩ := fuel (show 0 < k by omega)
    simp only [spec_l11Trim.l0, passA]; rw [if_neg (by omega)]
    cases b
    · rw [if_neg (by simp), passB_false _ _ _ _ (by omega)]; simp
    · rw [if_pos rfl, show (0 : Int) = ((0 : Nat) : Int) from rfl]
      exact specTrim1_l out (by omega) out.length k 0 [] (by omega) (by omega) (by omega) (by simp)
  | succ d ih =>
    intro k i out h1 hd hk ho
    obtain ⟨k, rfl⟩ := fuel (show 0 < k by omega)
    have e1 := ih k (i + 1) (out ++ [rd_T33 xs (i : Int)]) (by omega) (by omega) (by omega) (by simp; omega)
    have e2 := ih k (i + 1) out (by omega) (by omega) (by omega) (by omega)
    rw [Int.natCast_add] at e1 e2
    simp only [spec_l11Trim.l0, passA]; rw [if_pos (by omega), seen_f xs ts i (by omega) (by omega) (by omega) k (by omega), w64 (x := (i : Int) + 1) (by omega) (by omega)]
    simp only [Option.bind_some]
    cases keepA xs ts i
    · simpa using e2
    · rw [if_pos rfl, if_pos rfl, if_pos (by omega), if_pos (by omega)]; exact e1

/-! #### trim2: the program's -/
theorem implTrim1_l (b : Bool) (ss : List S33) (hn : ss.length ≤ 2000000) (d : Nat) : ∀ (k i : Nat) (out : List S33), i ≤ ss.length → ss.length - i = d → d < k → out.length ≤ i → impl_RunTrim.l1 k b ss out ss (ss.length : Int) (i : Int) = some (passB b ss d i out) := by
  induction d with
  | zero =>
    intro k i out h1 hd hk ho
    obtain ⟨k, rfl⟩ := fuel hk
    simp only [impl_RunTrim.l1]; rw [if_neg (by omega)]; rfl
  | succ d ih =>
    intro k i out h1 hd hk ho
    obtain ⟨k, rfl⟩ := fuel hk
    have e1 := ih k (i + 1) (out ++ [rd_T33 ss (i : Int)]) (by omega) (by omega) (by omega) (by simp; omega)
    have e2 := ih k (i + 1) out (by omega) (by omega) (by omega) (by omega)
    rw [Int.natCast_add] at e1 e2
    have p : out.length < 3518437208883 := by omega
    simp only [impl_RunTrim.l1, passB]; rw [if_pos (by omega), if_pos (by omega), if_pos (by omega), w64 (x := (i : Int) + 1) (by omega) (by omega)]
    simp only [if_pos p]
    by_cases c : i + 1 = ss.length
    · rw [if_pos (by omega)]
      cases b
      · rw [if_neg (by simp), if_neg (by simp)]; exact e1
      · rw [if_pos rfl]
        split
        · rename_i g; rw [if_pos (by simp [g, c, lastB])]; exact e2
        · rename_i g; rw [if_neg (by simp [g])]; exact e1
    · rw [if_neg (by omega), if_pos (by omega), if_pos (by omega)]
      cases b
      · rw [if_neg (by simp), if_neg (by simp)]; exact e1
      · rw [if_pos rfl]
        split
        · rename_i g2
          split
          · rename_i g; rw [if_pos (by simp [g, g2, lastB])]; exact e2
          · rename_i g; rw [if_neg (by simp [g])]; exact e1
        · rename_i g2; rw [if_neg (by simp at g2; simp [g2, c, lastB])]; exact e1
theorem implTrim_l (xs : List S33) (ts : List Int) (b : Bool) (hn : xs.length ≤ 1048576) (d : Nat) : ∀ (k i : Nat) (out : List S33), i ≤ xs.length → xs.length - i = d → d + 5000000 < k → out.length ≤ i → impl_RunTrim.l0 k xs ts b out xs (xs.length : Int) (i : Int) = some (passB b (passA xs ts d i out) (passA xs ts d i out).length 0 []) := by
  induction d with
  | zero =>
    intro k i out h1 hd hk ho
    obtain ⟨k, rfl⟩ := fuel (show 0 < k by omega)
    simp only [impl_RunTrim.l0, passA]; rw [if_neg (by omega), show (0 : Int) = ((0 : Nat) : Int) from rfl]
    exact implTrim1_l b out (by omega) out.length k 0 [] (by omega) (by omega) (by omega) (by simp)
  | succ d ih =>
    intro k i out h1 hd hk ho
    obtain ⟨k, rfl⟩ := fuel (show 0 < k by omega)
    have e1 := ih k (i + 1) (out ++ [rd_T33 xs (i : Int)]) (by omega) (by omega) (by omega) (by simp; omega)
    have e2 := ih k (i + 1) out (by omega) (by omega) (by omega) (by omega)
    rw [Int.natCast_add] at e1 e2
    have p : out.length < 3518437208883 := by omega
    simp only [impl_RunTrim.l0, passA]; rw [if_pos (by omega), if_pos (by omega), if_pos (by omega), w64 (x := (i : Int) + 1) (by omega) (by omega), w64 (x := (i : Int) - 1) (by omega) (by omega)]
    simp only [if_pos p]
    by_cases h0 : i = 0
    · rw [if_pos (by omega), if_pos (by simp [h0, keepA])]; exact e1
    · rw [if_neg (by omega), if_pos (by omega), if_pos (by omega)]
      split
      · rename_i g
        simp only [impl_seen.f, Option.bind_some]
        split
        · rename_i g2; rw [if_pos (by simp [g2, keepA])]; exact e1
        · rename_i g2; rw [if_neg (by simp at g2; simp [g, g2, h0, keepA])]; exact e2
      · rename_i g; rw [if_pos (by simp [g, keepA])]; exact e1
theorem specRunTrim_f (xs : List S33) (ts : List Int) (b : Bool) (hn : xs.length ≤ 1048576) (ht : ts.length ≤ 1048576) (B : Nat) (ho : ∀ x ∈ xs, x.f0.size ≤ 9223372036854775807 ∧ x.f0.size < B) (k : Nat) (hk : xs.length + B + 10000000 < k) : spec_RunTrim.f k xs ts b = some (trimF xs ts b) := by
  unfold spec_RunTrim.f trimF spec_l11Trim.f
  have h2 := specTrim_l xs ts b hn ht xs.length k 0 [] (by omega) (by omega) (by omega) (by simp)
  rw [specRunOk_f xs (by omega) B ho k (by omega)]
  simp only [Option.bind_some]
  cases runB xs
  · rfl
  · simp only [if_true]
    rw [show (0 : Int) = ((0 : Nat) : Int) from rfl, h2]; rfl
theorem implRunTrim_f (xs : List S33) (ts : List Int) (b : Bool) (hn : xs.length ≤ 1048576) (B : Nat) (ho : ∀ x ∈ xs, x.f0.size ≤ 9223372036854775807 ∧ x.f0.size < B) (k : Nat) (hk : xs.length + B + 10000000 < k) : impl_RunTrim.f k xs ts b = some (trimF xs ts b) := by
  unfold impl_RunTrim.f trimF
  have h2 := implTrim_l xs ts b hn xs.length k 0 [] (by omega) (by omega) (by omega) (by simp)
  rw [implRunOk_f xs (by omega) B ho k (by omega)]
  simp only [Option.bind_some]
  cases runB xs
  · rfl
  · simp only [if_true]
    rw [show (0 : Int) = ((0 : Nat) : Int) from rfl, h2]
theorem trimF_len (xs : List S33) (ts : List Int) (b : Bool) : (trimF xs ts b).length ≤ xs.length := by
  unfold trimF
  have h1 := passA_len xs ts xs.length 0 []
  have h2 := passB_len b (passA xs ts xs.length 0 []) (passA xs ts xs.length 0 []).length 0 []
  split
  · simp at h1 h2; omega
  · simp

/-! #### toIntS, eqIntS, markIntS -/
theorem rdI (xs : List Int) (n : Nat) (h : n < xs.length) : rd xs (n : Int) = xs[n] := by simp [rd, List.getD, h]
theorem toIntS_l (xs : List Int) (hn : xs.length ≤ 7036874417766) (d : Nat) : ∀ (k i : Nat) (ys : List Int), i ≤ xs.length → xs.length - i = d → d < k → ys.length = xs.length → ys.take i = xs.take i → laws_toIntS.l0 k xs ys (i : Int) = some xs := by
  induction d with
  | zero =>
    intro k i ys h1 hd hk hl ht
    obtain ⟨k, rfl⟩ := fuel hk
    simp only [laws_toIntS.l0]; rw [if_neg (by omega)]
    have hi : i = xs.length := by omega
    rw [hi, List.take_of_length_le (by omega), List.take_of_length_le (by omega)] at ht
    rw [ht]
  | succ d ih =>
    intro k i ys h1 hd hk hl ht
    obtain ⟨k, rfl⟩ := fuel hk
    have hlt : i < xs.length := by omega
    simp only [laws_toIntS.l0]; rw [if_pos (by omega), if_pos (by omega), if_pos (by omega), w64 (by omega) (by omega), rdI xs i hlt]
    have := ih k (i + 1) (ys.set i xs[i]) (by omega) (by omega) (by omega) (by simpa using hl) (by
      rw [List.take_add_one, List.take_add_one, List.take_set_of_le (Nat.le_refl _), ht]
      simp [hlt, hl])
    simpa using this
theorem toIntS_f (xs : List Int) (hn : xs.length ≤ 7036874417766) (k : Nat) (hk : xs.length < k) : laws_toIntS.f k xs = some xs := by
  unfold laws_toIntS.f
  rw [if_pos (by omega), if_pos (by simp; omega)]
  exact toIntS_l xs hn xs.length k 0 _ (by omega) (by omega) hk (by simp) (by simp)
theorem eqIntS_l (xs : List Int) (hn : xs.length ≤ 9223372036854775806) (d : Nat) : ∀ (k i : Nat), i ≤ xs.length → xs.length - i = d → d < k → laws_eqIntS.l0 k xs xs (i : Int) = some true := by
  induction d with
  | zero =>
    intro k i h1 hd hk
    obtain ⟨k, rfl⟩ := fuel hk
    simp only [laws_eqIntS.l0]; rw [if_neg (by omega)]
  | succ d ih =>
    intro k i h1 hd hk
    obtain ⟨k, rfl⟩ := fuel hk
    simp only [laws_eqIntS.l0]; rw [if_pos (by omega), if_pos (by omega), if_pos (by omega), if_pos trivial, w64 (by omega) (by omega)]
    exact ih k (i + 1) (by omega) (by omega) (by omega)
theorem eqIntS_f (xs : List Int) (hn : xs.length ≤ 9223372036854775806) (k : Nat) (hk : xs.length < k) : laws_eqIntS.f k xs xs = some true := by
  unfold laws_eqIntS.f
  rw [if_pos rfl]
  exact eqIntS_l xs hn xs.length k 0 (by omega) (by omega) hk
theorem markIntS_l (d : Nat) : ∀ (k i : Nat) (xs : List Int) (a : Int), xs.length ≤ 100000000 → i ≤ xs.length → xs.length - i = d → d < k → 0 ≤ a → a + d ≤ 10000000000 → ∃ ys, laws_markIntS.l0 k xs a (i : Int) = some (a + d, ys) := by
  induction d with
  | zero =>
    intro k i xs a hn h1 hd hk h2 h3
    obtain ⟨k, rfl⟩ := fuel hk
    exact ⟨xs, by simp only [laws_markIntS.l0]; rw [if_neg (by omega)]; simp⟩
  | succ d ih =>
    intro k i xs a hn h1 hd hk h2 h3
    obtain ⟨k, rfl⟩ := fuel hk
    simp only [laws_markIntS.l0]
    rw [if_pos (by omega), if_pos (by omega), w64 (x := a + 1) (by omega) (by omega), w64 (x := (i : Int) + 1) (by omega) (by omega)]
    obtain ⟨ys, h⟩ := ih k (i + 1) (xs.set (i : Int).toNat a) (a + 1) (by simpa using hn) (by simp only [List.length_set]; omega) (by simp only [List.length_set]; omega) (by omega) (by omega) (by omega)
    refine ⟨ys, ?_⟩
    rw [Int.natCast_add] at h
    rw [show a + ((d + 1 : Nat) : Int) = a + 1 + (d : Int) by omega]
    exact h
theorem markIntS_f (xs : List Int) (a : Int) (hn : xs.length ≤ 2000000) (k : Nat) (hk : 2000000 < k) (h2 : 0 ≤ a) (h3 : a ≤ 1000000000) : ∃ ys, laws_markIntS.f k xs a = some (a + xs.length, ys) :=
  markIntS_l xs.length k 0 xs a (by omega) (by omega) (by omega) (by omega) h2 (by omega)

/-! #### mark -/
def markG : Nat → Int → ByteArray → ByteArray
  | 0, _, s => (⟨#[109]⟩ : ByteArray) ++ s
  | f + 1, x, s => if x > 0 then markG f (Int.tdiv x 10) (strOfNums [(wrap64 (48 + (Int.tmod x 10))) % 256] ++ s) else (⟨#[109]⟩ : ByteArray) ++ s
def markT (x : Int) : ByteArray := if x ≤ 0 then (⟨#[109, 48]⟩ : ByteArray) else markG x.toNat x ⟨#[]⟩
theorem markText_l (f : Nat) : ∀ (k : Nat) (x : Int) (s : ByteArray), 0 ≤ x → x ≤ (f : Int) → f < k → f < 1000000000000 → s.size + f ≤ 1000000000000 → laws_markText.l0 k x s = some (markG f x s) := by
  induction f with
  | zero =>
    intro k x s h0 h1 hk h2 h3
    obtain ⟨k, rfl⟩ := fuel hk
    simp only [laws_markText.l0]; rw [if_neg (by omega), if_pos (by omega)]; rfl
  | succ f ih =>
    intro k x s h0 h1 hk h2 h3
    obtain ⟨k, rfl⟩ := fuel hk
    simp only [laws_markText.l0, markG]
    by_cases c : x > 0
    · have hs : ∀ n : Int, (strOfNums [n] ++ s).size = 1 + s.size := fun n => by rw [ByteArray.size_append]; rfl
      have hs1 : ∀ n : Int, (strOfNums [n]).size = 1 := fun n => rfl
      rw [if_pos c, if_pos c]; simp only [Option.bind_some]
      rw [if_pos (by rw [hs1]; omega)]
      have e : Int.tdiv x 10 = x / 10 := Int.tdiv_eq_ediv_of_nonneg h0
      rw [w64 (x := Int.tdiv x 10) (by omega) (by omega)]
      exact ih k _ _ (by omega) (by omega) (by omega) (by omega) (by rw [hs]; omega)
    · rw [if_neg c, if_neg c, if_pos (by omega)]
theorem markText_f (x : Int) (h1 : x ≤ 100000000000) (k : Nat) (hk : 100000000000 < k) : laws_markText.f k x = some (markT x) := by
  unfold laws_markText.f markT
  by_cases c : x ≤ 0
  · rw [if_pos c, if_pos c]
  · rw [if_neg c, if_neg c]
    exact markText_l x.toNat k x _ (by omega) (by omega) (by omega) (by omega) (by show 0 + x.toNat ≤ _; omega)

/-! #### heldEntryS -/
def markE (a : Int) : S33 := ⟨markT a, a + 1, (Int.tmod (a + 1 + 1) 3) == 0, a + 1 + 1 + 1⟩
def ms (n : Nat) : List S33 := (List.range n).map fun (j : Nat) => markE (1 + 4 * (j : Int))
theorem ms_len (n : Nat) : (ms n).length = n := by simp [ms]
theorem ms_get (n i : Nat) (h : i < n) : (ms n)[i]'(by rw [ms_len]; exact h) = markE (1 + 4 * (i : Int)) := by simp [ms]
theorem rd_set (xs : List S33) (i : Nat) (h : i < xs.length) (v : S33) : rd_T33 (xs.set i v) (i : Int) = v := by
  rw [rdE _ i (by simpa using h)]; simp
theorem markEntryS2_l (n : Nat) (hn : n ≤ 100000000) (d : Nat) : ∀ (k i : Nat) (xs : List S33), xs.length = n → i ≤ n → n - i = d → d + 100000000000 < k → xs.take i = (ms n).take i → laws_markEntryS.l0 k xs (1 + 4 * (i : Int)) (i : Int) = some (1 + 4 * (n : Int), ms n) := by
  induction d with
  | zero =>
    intro k i xs hl h1 hd hk ht
    obtain ⟨k, rfl⟩ := fuel hk
    simp only [laws_markEntryS.l0]; rw [if_neg (by omega)]
    have hi : i = n := by omega
    rw [hi, List.take_of_length_le (by omega), List.take_of_length_le (by rw [ms_len]; omega)] at ht
    rw [ht, hi]
  | succ d ih =>
    intro k i xs hl h1 hd hk ht
    obtain ⟨k, rfl⟩ := fuel hk
    have hm := ms_len n
    have gen : ∀ z : List S33, z = xs.set i (markE (1 + 4 * (i : Int))) → laws_markEntryS.l0 k z (1 + 4 * (i : Int) + 1 + 1 + 1 + 1) ((i : Int) + 1) = some (1 + 4 * (n : Int), ms n) := fun z hz => by
      subst hz
      have := ih k (i + 1) (xs.set i (markE (1 + 4 * (i : Int)))) (by simpa using hl) (by omega) (by omega) (by omega) (by
        rw [List.take_add_one, List.take_add_one, List.take_set_of_le (Nat.le_refl _), ht]
        rw [List.getElem?_set_self (by omega), List.getElem?_eq_getElem (by omega), ms_get n i (by omega)])
      rw [show 1 + 4 * (i : Int) + 1 + 1 + 1 + 1 = 1 + 4 * ((i + 1 : Nat) : Int) by omega, show (i : Int) + 1 = ((i + 1 : Nat) : Int) by omega]
      exact this
    simp only [laws_markEntryS.l0]
    rw [if_pos (by omega), markText_f _ (by omega) k (by omega)]
    simp only [Option.bind_some]
    rw [if_pos (by omega), w64 (x := 1 + 4 * (i : Int) + 1) (by omega) (by omega), w64 (x := 1 + 4 * (i : Int) + 1 + 1) (by omega) (by omega), w64 (x := 1 + 4 * (i : Int) + 1 + 1 + 1) (by omega) (by omega), w64 (x := 1 + 4 * (i : Int) + 1 + 1 + 1 + 1) (by omega) (by omega), w64 (x := (i : Int) + 1) (by omega) (by omega)]
    refine gen _ ?_
    have e : ((i : Int)).toNat = i := rfl
    simp only [e, List.set_set, rd_set xs i (by omega)]
    rfl
theorem markEntryS2_f (xs : List S33) (hn : xs.length ≤ 2000000) (k : Nat) (hk : 200000000000 < k) : laws_markEntryS.f k xs 1 = some (1 + 4 * (xs.length : Int), ms xs.length) :=
  markEntryS2_l xs.length (by omega) xs.length k 0 xs rfl (by omega) (by omega) (by omega) (by simp)
theorem heldEntryS_l (n : Nat) (hn : n ≤ 100000000) (d : Nat) : ∀ (k i : Nat), i ≤ n → n - i = d → d + 100000000000 < k → laws_heldEntryS.l0 k (ms n) (1 + 4 * (i : Int)) (i : Int) = some (1 + 4 * (n : Int)) := by
  have hm := ms_len n
  induction d with
  | zero =>
    intro k i h1 hd hk
    obtain ⟨k, rfl⟩ := fuel hk
    simp only [laws_heldEntryS.l0]; rw [if_neg (by omega)]
    rw [show i = n by omega]
  | succ d ih =>
    intro k i h1 hd hk
    obtain ⟨k, rfl⟩ := fuel hk
    have hr : rd_T33 (ms n) (i : Int) = markE (1 + 4 * (i : Int)) := by rw [rdE _ i (by omega), ms_get n i (by omega)]
    simp only [laws_heldEntryS.l0]; rw [if_pos (by omega), if_pos (by omega), markText_f _ (by omega) k (by omega)]
    simp only [Option.bind_some]
    rw [hr, w64 (x := 1 + 4 * (i : Int) + 1) (by omega) (by omega), w64 (x := 1 + 4 * (i : Int) + 1 + 1) (by omega) (by omega), w64 (x := 1 + 4 * (i : Int) + 1 + 1 + 1) (by omega) (by omega), w64 (x := 1 + 4 * (i : Int) + 1 + 1 + 1 + 1) (by omega) (by omega), w64 (x := (i : Int) + 1) (by omega) (by omega)]
    simp only [markE, if_true, bne_self_eq_false, Bool.false_eq_true, if_false]
    have := ih k (i + 1) (by omega) (by omega) (by omega)
    rw [show 1 + 4 * (i : Int) + 1 + 1 + 1 + 1 = 1 + 4 * ((i + 1 : Nat) : Int) by omega, show (i : Int) + 1 = ((i + 1 : Nat) : Int) by omega]
    exact this
theorem heldEntryS_f (n : Nat) (hn : n ≤ 2000000) (k : Nat) (hk : 200000000000 < k) : laws_heldEntryS.f k (ms n) 1 = some (1 + 4 * (n : Int)) :=
  heldEntryS_l n (by omega) n k 0 (by omega) (by omega) (by omega)

theorem law (l0 : List S51) (l1 : List Int) (a2 : Bool) (h : l0.length ≤ maxLen ∧ ∀ x ∈ l0, okLE x) (_ : l1.length ≤ maxLen ∧ ∀ y ∈ l1, (Lit.int .i64 y).wf = true) : ∃ k, laws_FnExactRunTrim.f k l0 l1 a2 = some true := by
  obtain ⟨h0, ho⟩ := okLEs h
  refine ⟨10000000000000000000, ?_⟩
  unfold laws_FnExactRunTrim.f
  split
  · rfl
  obtain ⟨v, hv, h1, h2, h3⟩ := szEntryS_f l0 h0 ho 1048576 (by omega) (by omega) 10000000000000000000 (by omega)
  rw [hv]; simp only [Option.bind_some]
  by_cases c2 : v < 0
  · rw [if_pos c2]
  · rw [if_neg c2]
    have hl := h3 (by omega)
    have hm : (l0.map cvE).length = l0.length := List.length_map _
    have hkl := trimF_len (l0.map cvE) l1 a2
    have hT : ∀ k : Nat, 10000000 < k → laws_toEntryS.f k l0 = some (l0.map cvE) := fun k hk => toEntryS_f l0 (by omega) k (by omega)
    have hI : ∀ k : Nat, 10000000 < k → laws_toIntS.f k l1 = some l1 := fun k hk => toIntS_f l1 (by omega) k (by omega)
    rw [hT 10000000000000000000 (by omega)]; simp only [Option.bind_some]
    rw [hI 10000000000000000000 (by omega)]; simp only [Option.bind_some]
    rw [specRunTrim_f _ _ _ (by omega) (by omega) _ (okMap ho) 10000000000000000000 (by omega)]; simp only [Option.bind_some]
    rw [implRunTrim_f _ _ _ (by omega) _ (okMap ho) 10000000000000000000 (by omega)]; simp only [Option.bind_some]
    rw [eqEntryS_f _ (by omega) 10000000000000000000 (by omega)]; simp only [Option.bind_some, if_true]
    rw [eqEntryS_f _ (by omega) 10000000000000000000 (by omega)]; simp only [Option.bind_some, if_true]
    rw [eqIntS_f _ (by omega) 10000000000000000000 (by omega)]; simp only [Option.bind_some, if_true]
    rw [markEntryS2_f _ (by omega) 10000000000000000000 (by omega)]; simp only [Option.bind_some]
    obtain ⟨ys, hy⟩ := markIntS_f l1 (1 + 4 * ((l0.map cvE).length : Int)) (by omega) 10000000000000000000 (by omega) (by omega) (by omega)
    rw [hy]; simp only [Option.bind_some, Bool.not_true]
    rw [if_neg (by omega)]
    show laws_FnExactRunTrim.j0 (9999999999999999999 + 1) _ _ _ _ _ _ = _
    simp only [laws_FnExactRunTrim.j0, Bool.false_eq_true, if_false]
    rw [markEntryS2_f _ (by omega) 9999999999999999999 (by omega)]; simp only [Option.bind_some]
    rw [heldEntryS_f _ (by omega) 9999999999999999999 (by omega)]; simp only [Option.bind_some, if_true]
    rw [if_neg (by omega), hT 9999999999999999999 (by omega)]; simp only [Option.bind_some]
    rw [hI 9999999999999999999 (by omega)]; simp only [Option.bind_some]
    rw [implRunTrim_f _ _ _ (by omega) _ (okMap ho) 9999999999999999999 (by omega)]; simp only [Option.bind_some]
    rw [eqEntryS_f _ (by omega) 9999999999999999999 (by omega)]; simp
    omega

end Go.Proofs.Ytbeinioebhiidaa.PFnExactRunTrim
