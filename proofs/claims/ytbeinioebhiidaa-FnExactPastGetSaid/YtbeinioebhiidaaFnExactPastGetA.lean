/-
  The plain law of FnExactPastGet: what the printed functions compute answers true, for every argument that fits; and the lemmas on each function that it reaches. No condition beyond that numbers are of their kind and lengths within a slice's.
-/
import Derived.Test.YtbeinioebhiidaaPFnExactPastGetx3
namespace Go.Proofs.Ytbeinioebhiidaa.PFnExactPastGet
open Go.RowKit Go.Proofs.YtbeinioebhiidaaW.PrintWords Go.Proofs.YtbeinioebhiidaaW.PrintLast Go.Proofs.YtbeinioebhiidaaW.PrintMore
set_option linter.unusedVariables false
set_option linter.unusedSimpArgs false

/-! #### base -/
theorem w64 {x : Int} (h0 : -9223372036854775808 ≤ x) (h1 : x ≤ 9223372036854775807) : wrap64 x = x := by unfold wrap64; omega
theorem toList_inj {a b : ByteArray} (h : a.toList = b.toList) : a = b := by
  rw [ByteArray.toList_eq, ByteArray.toList_eq] at h
  exact ByteArray.ext (Array.ext' h)
theorem fuel {k d : Nat} (h : d < k) : ∃ m, k = m + 1 := ⟨k - 1, by omega⟩

theorem rdE (xs : List S33) (n : Nat) (h : n < xs.length) : rd_T33 xs (n : Int) = xs[n] := by simp [rd_T33, List.getD, h]
instance : DecidableEq S33 := fun a b => decidable_of_iff (a.f0 = b.f0 ∧ a.f1 = b.f1 ∧ a.f2 = b.f2 ∧ a.f3 = b.f3) (by cases a; cases b; simp)

theorem rdLE (xs : List S51) (n : Nat) (h : n < xs.length) : rd_T51 xs (n : Int) = xs[n] := by simp [rd_T51, List.getD, h]
def cvE (x : S51) : S33 := ⟨x.f0, x.f1, x.f2, x.f3⟩
abbrev okLE (x : S51) : Prop := x.f0.size ≤ maxLen ∧ (Lit.int .i64 x.f1).wf = true ∧ True ∧ (Lit.int .i64 x.f3).wf = true
theorem okLEs {l : List S51} (h : l.length ≤ maxLen ∧ ∀ x ∈ l, okLE x) : l.length ≤ 9223372036854775807 ∧ ∀ x ∈ l, x.f0.size ≤ 9223372036854775807 := ⟨h.1, fun x hx => (h.2 x hx).1⟩

theorem toEntryS_l (xs : List S51) (hn : xs.length ≤ 7036874417766) (d : Nat) : ∀ (k i : Nat) (ys : List S33), i ≤ xs.length → xs.length - i = d → d < k → ys.length = xs.length → ys.take i = (xs.map cvE).take i →
    laws_toEntryS.l0 k xs ys (i : Int) = some (xs.map cvE) := by
  induction d with
  | zero =>
    intro k i ys h1 hd hk hl ht
    obtain ⟨k, rfl⟩ := fuel hk
    simp only [laws_toEntryS.l0]; rw [if_neg (by omega)]
    have hi : i = xs.length := by omega
    rw [hi, List.take_of_length_le (by omega), List.take_of_length_le (by simp)] at ht
    rw [ht]
  | succ d ih =>
    intro k i ys h1 hd hk hl ht
    obtain ⟨k, rfl⟩ := fuel hk
    have hlt : i < xs.length := by omega
    simp only [laws_toEntryS.l0]; rw [if_pos (by omega), if_pos (by omega)]
    simp only [laws_toEntry.f, Option.bind_some]
    rw [if_pos (by omega), w64 (by omega) (by omega), rdLE xs i hlt]
    have := ih k (i + 1) (ys.set i (cvE xs[i])) (by omega) (by omega) (by omega) (by simpa using hl) (by
      rw [List.take_add_one, List.take_add_one, List.take_set_of_le (Nat.le_refl _), ht]
      simp [hlt, hl])
    simpa [cvE] using this
theorem toEntryS_f (xs : List S51) (hn : xs.length ≤ 7036874417766) (k : Nat) (hk : xs.length < k) : laws_toEntryS.f k xs = some (xs.map cvE) := by
  unfold laws_toEntryS.f
  rw [if_pos (by omega), if_pos (by simpa using hn)]
  exact toEntryS_l xs hn xs.length k 0 _ (by omega) (by omega) hk (by simp) (by simp)

theorem szEntryS_l (xs : List S51) (hn : xs.length ≤ 9223372036854775806) (ho : ∀ x ∈ xs, x.f0.size ≤ 9223372036854775807) (d : Nat) : ∀ (k i : Nat) (a : Int), i ≤ xs.length → xs.length - i = d → d < k → 0 ≤ a → a ≤ 9223372036854775807 →
    ∃ v, laws_szEntryS.l0 k xs a (i : Int) = some v ∧ -1 ≤ v ∧ v ≤ a := by
  induction d with
  | zero =>
    intro k i a h1 hd hk h2 h3
    obtain ⟨k, rfl⟩ := fuel hk
    exact ⟨a, by simp only [laws_szEntryS.l0]; rw [if_neg (by omega)], by omega, by omega⟩
  | succ d ih =>
    intro k i a h1 hd hk h2 h3
    obtain ⟨k, rfl⟩ := fuel hk
    have hlt : i < xs.length := by omega
    have hs := ho _ (List.getElem_mem hlt)
    simp only [laws_szEntryS.l0]; rw [if_pos (by omega), if_pos (by omega), rdLE xs i hlt]
    unfold laws_szEntry.f
    rw [w64 (by omega) (by omega)]
    by_cases hc : a - (xs[i].f0.size : Int) < 0
    · rw [if_pos hc]; exact ⟨-1, by simp, by omega, by omega⟩
    · rw [if_neg hc]; simp only [Option.bind_some]
      rw [if_neg hc, w64 (by omega) (by omega)]
      obtain ⟨v, h, h4, h5⟩ := ih k (i + 1) (a - (xs[i].f0.size : Int)) (by omega) (by omega) (by omega) (by omega) (by omega)
      exact ⟨v, by simpa using h, h4, by omega⟩
theorem szEntryS_f (xs : List S51) (hn : xs.length ≤ 9223372036854775807) (ho : ∀ x ∈ xs, x.f0.size ≤ 9223372036854775807) (a : Int) (h2 : 0 ≤ a) (h3 : a ≤ 1048576) (k : Nat) (hk : 1048576 < k) :
    ∃ v, laws_szEntryS.f k xs a = some v ∧ -1 ≤ v ∧ v ≤ a ∧ (0 ≤ v → (xs.length : Int) ≤ a) := by
  unfold laws_szEntryS.f
  rw [w64 (by omega) (by omega)]
  by_cases hc : a - (xs.length : Int) < 0
  · rw [if_pos hc]; exact ⟨-1, rfl, by omega, by omega, by omega⟩
  · rw [if_neg hc]
    obtain ⟨v, h, h4, h5⟩ := szEntryS_l xs (by omega) ho xs.length k 0 (a - (xs.length : Int)) (by omega) (by omega) (by omega) (by omega) (by omega)
    exact ⟨v, h, h4, by omega, by omega⟩

theorem eqEntry_f (a b : S33) : laws_eqEntry.f a.f0 a.f1 a.f2 a.f3 b.f0 b.f1 b.f2 b.f3 = some (decide (a = b)) := by
  unfold laws_eqEntry.f
  obtain ⟨a0, a1, a2, a3⟩ := a
  obtain ⟨b0, b1, b2, b3⟩ := b
  simp only [S33.mk.injEq]
  by_cases h0 : a0 = b0
  · subst h0; rw [if_pos rfl]
    by_cases h1 : a1 = b1
    · subst h1; rw [if_pos rfl]
      by_cases h2 : a2 = b2
      · subst h2; simp
        by_cases h3 : a3 = b3 <;> simp [h3]
      · simp [h2]
    · simp [h1]
  · rw [if_neg (fun h => h0 (toList_inj h))]; simp [h0]
theorem eqEntryS_l (xs : List S33) (hn : xs.length ≤ 9223372036854775806) (d : Nat) : ∀ (k i : Nat), i ≤ xs.length → xs.length - i = d → d < k → laws_eqEntryS.l0 k xs xs (i : Int) = some true := by
  induction d with
  | zero =>
    intro k i h1 hd hk
    obtain ⟨k, rfl⟩ := fuel hk
    simp only [laws_eqEntryS.l0]; rw [if_neg (by omega)]
  | succ d ih =>
    intro k i h1 hd hk
    obtain ⟨k, rfl⟩ := fuel hk
    simp only [laws_eqEntryS.l0]; rw [if_pos (by omega), if_pos (by omega), if_pos (by omega), eqEntry_f]
    simp only [decide_true, Option.bind_some, if_true]
    rw [w64 (by omega) (by omega)]
    exact ih k (i + 1) (by omega) (by omega) (by omega)
theorem eqEntryS_f (xs : List S33) (hn : xs.length ≤ 9223372036854775806) (k : Nat) (hk : xs.length < k) : laws_eqEntryS.f k xs xs = some true := by
  unfold laws_eqEntryS.f
  rw [if_pos rfl]
  exact eqEntryS_l xs hn xs.length k 0 (by omega) (by omega) hk

def hit (k : ByteArray) (t : Int) (e : S33) : Bool := decide (e.f0.toList = k.toList) && decide (e.f3 ≤ t)
def lastF (xs : List S33) (k : ByteArray) (t : Int) : Option S33 := xs.reverse.find? (hit k t)
theorem lastF_snoc (xs : List S33) (n : Nat) (h : n < xs.length) (k : ByteArray) (t : Int) : lastF (xs.take (n + 1)) k t = if hit k t xs[n] then some xs[n] else lastF (xs.take n) k t := by
  unfold lastF
  rw [List.take_succ_eq_append_getElem h, List.reverse_append]
  simp only [List.reverse_singleton, List.singleton_append, List.find?_cons]
  cases hit k t xs[n] <;> rfl
def lastI : Option S33 → ByteArray × Int × Bool × Int × Bool
  | some e => (e.f0, e.f1, e.f2, e.f3, !e.f2)
  | none => ((⟨#[]⟩ : ByteArray), 0, false, 0, false)
def lastS : Option S33 → ByteArray × Int × Bool × Int × Bool
  | some e => (e.f0, e.f1, e.f2, e.f3, true)
  | none => ((⟨#[]⟩ : ByteArray), 0, false, 0, false)
theorem latest_l (xs : List S33) (q : ByteArray) (t : Int) (hn : xs.length ≤ 9223372036854775806) : ∀ (n k : Nat), n ≤ xs.length → n < k → impl_latest.l0 k xs q t ((n : Int) - 1) = some (lastI (lastF (xs.take n) q t)) := by
  intro n
  induction n with
  | zero =>
    intro k _ hk
    obtain ⟨k, rfl⟩ := fuel hk
    simp only [impl_latest.l0]; rw [if_neg (by omega)]; rfl
  | succ n ih =>
    intro k h1 hk
    obtain ⟨k, rfl⟩ := fuel hk
    have e : ((n + 1 : Nat) : Int) - 1 = (n : Int) := by omega
    rw [e, lastF_snoc xs n (by omega)]
    simp only [impl_latest.l0]; rw [if_pos (by omega), if_pos (by omega), if_pos (by omega), rdE xs n (by omega), w64 (by omega) (by omega), ih k (by omega) (by omega)]
    unfold hit
    by_cases c : xs[n].f0.toList = q.toList <;> by_cases c2 : xs[n].f3 ≤ t <;> simp [c, c2, lastI]
theorem last_l (xs : List S33) (q : ByteArray) (t : Int) (hn : xs.length ≤ 9223372036854775806) : ∀ (n k : Nat), n ≤ xs.length → n < k → spec_l13Last.l0 k xs q t ((n : Int) - 1) = some (lastS (lastF (xs.take n) q t)) := by
  intro n
  induction n with
  | zero =>
    intro k _ hk
    obtain ⟨k, rfl⟩ := fuel hk
    simp only [spec_l13Last.l0]; rw [if_neg (by omega)]; rfl
  | succ n ih =>
    intro k h1 hk
    obtain ⟨k, rfl⟩ := fuel hk
    have e : ((n + 1 : Nat) : Int) - 1 = (n : Int) := by omega
    rw [e, lastF_snoc xs n (by omega)]
    simp only [spec_l13Last.l0]; rw [if_pos (by omega), if_pos (by omega), if_pos (by omega), rdE xs n (by omega), w64 (by omega) (by omega), ih k (by omega) (by omega)]
    unfold hit
    by_cases c : xs[n].f0.toList = q.toList <;> by_cases c2 : xs[n].f3 ≤ t <;> simp [c, c2, lastS]
theorem latest_f (xs : List S33) (q : ByteArray) (t : Int) (hn : xs.length ≤ 9223372036854775806) (k : Nat) (hk : xs.length < k) : impl_latest.f k xs q t = some (lastI (lastF xs q t)) := by
  unfold impl_latest.f
  rw [w64 (by omega) (by omega), latest_l xs q t hn xs.length k (by omega) hk, List.take_length]
theorem last_f (xs : List S33) (q : ByteArray) (t : Int) (hn : xs.length ≤ 9223372036854775806) (k : Nat) (hk : xs.length < k) : spec_l13Last.f k xs q t = some (lastS (lastF xs q t)) := by
  unfold spec_l13Last.f
  rw [w64 (by omega) (by omega), last_l xs q t hn xs.length k (by omega) hk, List.take_length]
def getF (xs : List S33) (q : ByteArray) (t : Int) : Int × Bool := match lastF xs q t with
  | some e => if e.f2 then (0, false) else (e.f1, true)
  | none => (0, false)
theorem implPastGet_f (xs : List S33) (q : ByteArray) (t : Int) (hn : xs.length ≤ 9223372036854775806) (k : Nat) (hk : xs.length < k) : impl_PastGet.f k xs q t = some (getF xs q t) := by
  unfold impl_PastGet.f getF
  rw [latest_f xs q t hn k hk]
  cases lastF xs q t with
  | none => simp [lastI]
  | some e => cases h : e.f2 <;> simp [lastI, h]
theorem specPastGet_f (xs : List S33) (q : ByteArray) (t : Int) (hn : xs.length ≤ 9223372036854775806) (k : Nat) (hk : xs.length < k) : spec_PastGet.f k xs q t = some (getF xs q t) := by
  unfold spec_PastGet.f getF
  rw [last_f xs q t hn k hk]
  cases lastF xs q t with
  | none => simp [lastS]
  | some e => cases h : e.f2 <;> simp [lastS, h]

theorem law (l0 : List S51) (a1 : ByteArray) (a2 : Int) (h : l0.length ≤ maxLen ∧ ∀ x ∈ l0, okLE x) (_ : a1.size ≤ maxLen) (_ : (Lit.int .i64 a2).wf = true) : ∃ k, laws_FnExactPastGet.f k l0 a1 a2 = some true := by
  obtain ⟨h0, ho⟩ := okLEs h
  refine ⟨2000000, ?_⟩
  unfold laws_FnExactPastGet.f
  by_cases c : (a1.size : Int) > 1048576
  · rw [if_pos c]
  · rw [if_neg c]
    obtain ⟨v, hv, h1, h2, h3⟩ := szEntryS_f l0 h0 ho 1048576 (by omega) (by omega) 2000000 (by omega)
    rw [hv]; simp only [Option.bind_some]
    by_cases c2 : v < 0
    · rw [if_pos c2]
    · rw [if_neg c2]
      have hl := h3 (by omega)
      have hm : (l0.map cvE).length = l0.length := List.length_map _
      rw [toEntryS_f l0 (by omega) 2000000 (by omega)]; simp only [Option.bind_some]
      rw [specPastGet_f _ _ _ (by omega) 2000000 (by omega)]; simp only [Option.bind_some]
      rw [implPastGet_f _ _ _ (by omega) 2000000 (by omega)]; simp only [Option.bind_some]
      simp only [if_true]
      show laws_FnExactPastGet.j0 (1999999 + 1) _ _ _ = _
      simp only [laws_FnExactPastGet.j0, bne_self_eq_false, Bool.false_eq_true, if_false]
      rw [toEntryS_f l0 (by omega) 1999999 (by omega)]; simp only [Option.bind_some]
      rw [eqEntryS_f _ (by omega) 1999999 (by omega)]; simp

end Go.Proofs.Ytbeinioebhiidaa.PFnExactPastGet
