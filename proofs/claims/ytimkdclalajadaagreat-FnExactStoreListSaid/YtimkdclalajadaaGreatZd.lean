/-
  Contract: whether a sieve may have a key. No condition.
  Contracts: the forks of a sieve, what is kept of its keys, the reference's. No condition.
  Contracts: whether a sieve may have a key, the reference's. No condition.
  Contract: which of a sieve's keys are whole, the reference's. No condition.
  Contracts: what is kept of a sieve's keys, the program's. No condition.
  Contracts: the store's check, both. No condition.
  The two checks of a store are one, in plain Lean. No condition.
  Contracts: what is found in a store, and how many sieves may have a key, the program's. No condition.
  Contracts: what a store has of a key, how many sieves may have it, the program's. No condition.
  Contracts: what a store has of a key, how many sieves may have it, the reference's. No condition.
  Contracts: whether a sieve may have a key of a range, the program's and the reference's. No condition.
  Contracts: whether a sieve may have a key of a range, the reference's; how many sieves may, both. No condition.
-/
import Derived.Test.YtimkdclalajadaaGreatZc
namespace Go.Proofs.YtimkdclalajadaaGreat.Ab
open Nat renaming reduceEqDiff → jE, reduceAdd → jA, reduceMul → jM, reduceSub → jS, reduceLT → jL, reduceLeDiff → jD, reduceBEq → jB
set_option linter.deprecated false
set_option linter.unusedVariables false
set_option linter.unusedSimpArgs false
open Go Go.Proofs
set_option maxRecDepth 10000
set_option maxHeartbeats 8000000
def hitB (k : ByteArray) (d : Nat) (b : Br) : Bool := decide (bLet b = lab k d)
/-- The branch to which a key leads. -/
def walkT (k : ByteArray) : Nat → List ByteArray × Nat → Option Br
  | 0, _ => none
  | n + 1, f => match (brs f).find? (hitB k f.2) with
    | none => none
    | some b => if bMul b = true then walkT k n (bKid b) else some b
def tailT (k : ByteArray) (d : Nat) : ByteArray := k.extract (min (d + 1) k.size) k.size
def fits (keep : Nat) (k : ByteArray) (b : Br) : Bool := if whole keep b = true then decide (tailT k b.2 = bCut keep b) else begB (tailT k b.2) (bCut keep b)
def hasM (keep : Nat) (ks : List ByteArray) (k : ByteArray) : Bool := match walkT k 6 (ks, 0) with
  | none => false
  | some b => fits keep k b
structure HasI (keep : Nat) (ks : List ByteArray) (k : ByteArray) (R : Option Br) where
  j : Nat
  f : List ByteArray × Nat
  n : Nat
  hj : (allF keep ks)[j]? = some f
  hd : f.2 ≤ k.size
  hn : f.2 + n = 6
  hw : walkT k n f = R
def resH' (keep : Nat) (k : ByteArray) : Option Br → Bool
  | none => false
  | some b => fits keep k b
theorem hasM_res (keep : Nat) (ks : List ByteArray) (k : ByteArray) : hasM keep ks k = resH' keep k (walkT k 6 (ks, 0)) := by unfold hasM resH'; cases walkT k 6 (ks, 0) <;> rfl
theorem allF_fork {keep : Nat} {ks : List ByteArray} (hf : Fork (ks, 0)) : ∀ f ∈ allF keep ks, Fork f := fks_fork _ _ (by simpa using hf)
theorem allF_0 {keep : Nat} {ks : List ByteArray} (hf : Fork (ks, 0)) : (allF keep ks)[0]? = some (ks, 0) := by rw [(sieve_br hf).2.2.2.2]; rfl
theorem findB_hit {α : Type} {p : α → Bool} : ∀ {l : List α} {a : Nat} {x : α}, (∀ t, t < a → ∀ y, l[t]? = some y → p y = false) → l[a]? = some x → p x = true → l.find? p = some x
  | [], a, x, _, h, _ => by simp at h
  | y :: l, 0, x, _, h, hp => by
    simp only [List.getElem?_cons_zero, Option.some.injEq] at h
    subst h
    rw [List.find?_cons_of_pos hp]
  | y :: l, a + 1, x, hno, h, hp => by
    rw [List.find?_cons_of_neg (by rw [hno 0 (by omega) y rfl]; simp)]
    exact findB_hit (a := a) (fun t ht z hz => hno (t + 1) (by omega) z (by simpa using hz)) (by simpa using h) hp
theorem findB_none {α : Type} {p : α → Bool} {l : List α} (hno : ∀ t, t < l.length → ∀ y, l[t]? = some y → p y = false) : l.find? p = none := by
  rw [List.find?_eq_none]
  intro x hx
  obtain ⟨t, ht⟩ := List.mem_iff_getElem?.1 hx
  rw [hno t (List.getElem?_eq_some_iff.1 ht).1 x ht]; simp
theorem bMul_45 {f : List ByteArray × Nat} (hf : Fork f) {b : Br} (hb : b ∈ brs f) (hm : bMul b = true) : bLet b ≠ 45 := by
  obtain ⟨h1, h2, x, r, e, _⟩ := brs_mem hb
  have hx : x ∈ b.1 := by rw [e]; simp
  obtain ⟨hin, hl⟩ := brs_lab hb x hx
  have hk := (bKid_fork hf hb hm).ok x hx
  have e2 : (bKid b).2 = f.2 + 1 := by unfold bKid; rw [h1]
  intro h
  have := (lab_end (hf.ok x hin).1 (hf.ok x hin).2).1 (by rw [hl, h])
  omega
structure BrJ (k : ByteArray) (f : List ByteArray × Nat) where
  a : Nat
  h1 : a ≤ (brs f).length
  h2 : ∀ t, t < a → ∀ x, (brs f)[t]? = some x → hitB k f.2 x = false
theorem has_ac {keep : Nat} {ks : List ByteArray} {s : Sve} (h : SvIs keep ks s) (k : ByteArray) (hk : smK k) : AC Tryz.prog 116 [sveP s, sT k] noHp 0 ⟨.t (bT (hasM keep ks k)), noHp, 0⟩ := by
  rw [hasM_res]
  obtain ⟨R, hR⟩ : ∃ R, R = walkT k 6 (ks, 0) := ⟨_, rfl⟩
  rw [← hR]
  have hbb := h.hb
  refine AC_of Tryz.func116 rfl Tryz.ntmps116 Tryz.results116 (by kernel_rfl) rfl ?_
  simp only [List.zipIdx, List.map, Nat.zero_add, Nat.reduceAdd]
  repeat (first | apply Aw_seq | apply Aw_block | apply Aw_skip | apply Aw_exit | refine Aw_condt rfl ?_ | refine Aw_condf rfl ?_ | ((first | refine qr ?_ | refine qd (by kernel_rfl) (by kernel_rfl) ?_); simp only [go_sem, jE, reduceIte, jA, jM, jS, jL, jD, jB]) | refine dk (by kernel_rfl) ?_)
  refine Aw.rw (rwL (l' := [(6, .t (iT (0 : Nat))), (5, .t (iT (0 : Nat))), (2, .t (.c (.ph 0 0 0))), (1, .t (sT k))]) (os := [some (svObj s)]) (M := [0]) (n' := 1) (by repeat (first | exact trivial | refine ⟨rfl, rfl, ?_⟩)) (by rfl) (by simp only [go_sem, jE, reduceIte, jA, jM, jS, jL, jD, jB]; first | done | rfl) (by decide) (by unfold idM; decide)) ?_
  refine Aw_loop_rw (ι := HasI keep ks k R) (fun q => S [(6, .t (iT (q.f.2 : Nat))), (5, .t (iT (q.j : Nat))), (2, .t (.c (.ph 0 0 0))), (1, .t (sT k))] (hpL [some (svObj s)]) 1) (fun q => q.n) ⟨0, (ks, 0), 6, allF_0 h.hf, Nat.zero_le _, rfl, hR.symm⟩ ?_
  clear hR
  rintro ⟨j, f, n, hj, hd, hn, hw⟩
  dsimp only
  have k1 := branches_ac h hj
  have hff := allF_fork h.hf f (List.mem_of_getElem? hj)
  have hlen : offB keep ks j + (brs f).length ≤ (allB keep ks).length := by rw [← off_next hj]; exact off_le _ _ _
  have hbr := fun t ht => br_at hj (t := t) ht
  repeat (first | apply Aw_seq | apply Aw_block | apply Aw_skip | apply Aw_exit | refine Aw_condt rfl ?_ | refine Aw_condf rfl ?_ | ((first | refine qr ?_ | refine qd (by kernel_rfl) (by kernel_rfl) ?_); simp only [go_sem, jE, reduceIte, jA, jM, jS, jL, jD, jB]) | refine dk (by kernel_rfl) ?_ | (refine qp (k1) (by simp only [go_sem, jE, reduceIte, jA, jM, jS, jL, jD, jB]; first | done | rfl) rfl (by simp only [go_sem, Nat.reduceLT]) rfl rfl ?_; simp only [go_sem, jE, reduceIte, jA, jM, jS, jL, jD, jB]))
  have hbm : ∀ x ∈ brs f, x ∈ brs f := fun _ hx => hx
  generalize offB keep ks j = o at *
  refine Aw.rw (rwL (l' := [(9, .t (iT (o : Nat))), (8, .t (iT ((o + (brs f).length : Nat) : Int))), (6, .t (iT (f.2 : Nat))), (5, .t (iT (j : Nat))), (2, .t (.c (.ph 0 0 0))), (1, .t (sT k))]) (os := [some (svObj s)]) (M := [0]) (n' := 1) (by repeat (first | exact trivial | refine ⟨rfl, rfl, ?_⟩)) (by rfl) (by simp only [go_sem, jE, reduceIte, jA, jM, jS, jL, jD, jB]; first | done | rfl) (by decide) (by unfold idM; decide)) ?_
  refine Aw_loop_rw (ι := BrJ k f) (fun q => S [(9, .t (iT ((o + q.a : Nat) : Int))), (8, .t (iT ((o + (brs f).length : Nat) : Int))), (6, .t (iT (f.2 : Nat))), (5, .t (iT (j : Nat))), (2, .t (.c (.ph 0 0 0))), (1, .t (sT k))] (hpL [some (svObj s)]) 1) (fun q => (brs f).length - q.a) ⟨0, Nat.zero_le _, fun t ht => absurd ht (by omega)⟩ ?_
  rintro ⟨a, h1, h2⟩
  dsimp only
  have hdep := hff.dep
  obtain ⟨m, rfl⟩ : ∃ m, n = m + 1 := ⟨n - 1, by omega⟩
  by_cases hlt : a < (brs f).length
  · obtain ⟨x, hx⟩ : ∃ x, (brs f)[a]? = some x := ⟨_, List.getElem?_eq_getElem hlt⟩
    have hxm := List.mem_of_getElem? hx
    have hax := hbr a hlt
    rw [hx] at hax
    obtain ⟨x2, x3, y0, r0, x4, _⟩ := brs_mem hxm
    obtain ⟨hi, e⟩ := byteL_at h.hl (i := o + a) (b := bLet x) (by rw [List.getElem?_map, hax]; rfl)
    have h3 : ∀ hp, ixB hp s.letters (o + a) = _ := fun hp => ixB_ok hi
    have g1 : decide (((o + a : Nat) : Int) < ((o + (brs f).length : Nat) : Int)) = true := decide_eq_true (by omega)
    have k2 := label_ac k f.2 hd
    cases c : hitB k f.2 x
    · have g2 : decide (((s.letters[o + a]).toNat : Int) = ((lab k f.2).toNat : Int)) = false := decide_eq_false fun h45 => by
        unfold hitB at c
        exact (of_decide_eq_false c) (by rw [← e]; exact UInt8.toNat_inj.1 (Int.ofNat.inj h45))
      have w : IntKind.i64.wrap (((o + a : Nat) : Int) + 1) = ((o + (a + 1) : Nat) : Int) := wn (by omega) (by omega)
      have nx : ∀ t, t < a + 1 → ∀ y, (brs f)[t]? = some y → hitB k f.2 y = false := fun t ht y hy => by
        rcases Nat.lt_succ_iff_lt_or_eq.1 ht with h | rfl
        · exact h2 t h y hy
        · rw [hx] at hy; rw [← Option.some.inj hy]; exact c
      repeat (first | apply Aw_seq | apply Aw_block | apply Aw_skip | apply Aw_exit | refine Aw_condt rfl ?_ | refine Aw_condf rfl ?_ | ((first | refine qr ?_ | refine qd (by kernel_rfl) (by kernel_rfl) ?_); simp only [go_sem, jE, reduceIte, jA, jM, jS, jL, jD, jB, g1, h3, g2, w]) | refine dk (by kernel_rfl) ?_ | (refine qp (k2) (by simp only [go_sem, jE, reduceIte, jA, jM, jS, jL, jD, jB, g1, h3, g2, w]; first | done | rfl) rfl (by simp only [go_sem, Nat.reduceLT]) rfl rfl ?_; simp only [go_sem, jE, reduceIte, jA, jM, jS, jL, jD, jB, g1, h3, g2, w]))
      refine ⟨⟨a + 1, by omega, nx⟩, [0], ?_, rwL (by repeat (first | exact trivial | refine ⟨rfl, rfl, ?_⟩)) (by rfl) (by simp only [go_sem, jE, reduceIte, jA, jM, jS, jL, jD, jB]; first | done | rfl) (by decide) (by unfold idM; decide)⟩
      show (brs f).length - (a + 1) < (brs f).length - a; omega
    · have hfind := findB_hit h2 hx c
      have hlab : bLet x = lab k f.2 := of_decide_eq_true c
      have g2 : decide (((s.letters[o + a]).toNat : Int) = ((lab k f.2).toNat : Int)) = true := by rw [e, hlab]; exact decide_eq_true rfl
      have g3 : decide (((o + a : Nat) : Int) = ((o + (brs f).length : Nat) : Int)) = false := decide_eq_false (by omega)
      obtain ⟨hi2, e2⟩ := byteL_at h.hm (i := o + a) (b := bMore x) (by rw [List.getElem?_map, hax]; rfl)
      have h4 : ∀ hp, ixB hp s.more (o + a) = _ := fun hp => ixB_ok hi2
      simp only [walkT, hfind] at hw
      cases c2 : bMul x
      · have g4 : decide (((s.more[o + a]).toNat : Int) = 49) = false := by rw [e2]; unfold bMore; rw [c2]; rfl
        rw [c2] at hw
        simp only [Bool.false_eq_true, if_false] at hw
        subst hw
        have k3 := complete_ac h hax c2
        have k4 := rest_ac h hax c2
        have w : IntKind.i64.wrap ((f.2 : Int) + 1) = ((f.2 + 1 : Nat) : Int) := wn (by omega) (by omega)
        cases c3 : whole keep x
        · rw [c3] at k3
          have k5 := keyBegins_ac (tailT k f.2) (bCut keep x)
          have hres : resH' keep k (some x) = begB (tailT k f.2) (bCut keep x) := by unfold resH' fits; simp only [c3, x2]; rfl
          rw [hres]
          unfold tailT at k5 ⊢
          repeat (first | apply Aw_seq | apply Aw_block | apply Aw_skip | apply Aw_exit | refine Aw_condt rfl ?_ | refine Aw_condf rfl ?_ | ((first | refine qr ?_ | refine qd (by kernel_rfl) (by kernel_rfl) ?_); simp only [go_sem, jE, reduceIte, jA, jM, jS, jL, jD, jB, g1, h3, g2, g3, h4, g4, w, min_if, min_le]) | refine dk (by kernel_rfl) ?_ | (refine qp (k2) (by simp only [go_sem, jE, reduceIte, jA, jM, jS, jL, jD, jB, g1, h3, g2, g3, h4, g4, w, min_if, min_le]; first | done | rfl) rfl (by simp only [go_sem, Nat.reduceLT]) rfl rfl ?_; simp only [go_sem, jE, reduceIte, jA, jM, jS, jL, jD, jB, g1, h3, g2, g3, h4, g4, w, min_if, min_le]) | (refine qp (k3) (by simp only [go_sem, jE, reduceIte, jA, jM, jS, jL, jD, jB, g1, h3, g2, g3, h4, g4, w, min_if, min_le]; first | done | rfl) rfl (by simp only [go_sem, Nat.reduceLT]) rfl rfl ?_; simp only [go_sem, jE, reduceIte, jA, jM, jS, jL, jD, jB, g1, h3, g2, g3, h4, g4, w, min_if, min_le]) | (refine qp (k4) (by simp only [go_sem, jE, reduceIte, jA, jM, jS, jL, jD, jB, g1, h3, g2, g3, h4, g4, w, min_if, min_le]; first | done | rfl) rfl (by simp only [go_sem, Nat.reduceLT]) rfl rfl ?_; simp only [go_sem, jE, reduceIte, jA, jM, jS, jL, jD, jB, g1, h3, g2, g3, h4, g4, w, min_if, min_le]) | (refine qp (k5) (by simp only [go_sem, jE, reduceIte, jA, jM, jS, jL, jD, jB, g1, h3, g2, g3, h4, g4, w, min_if, min_le]; first | done | rfl) rfl (by simp only [go_sem, Nat.reduceLT]) rfl rfl ?_; simp only [go_sem, jE, reduceIte, jA, jM, jS, jL, jD, jB, g1, h3, g2, g3, h4, g4, w, min_if, min_le]))
          exact Aw_ret (ret0 (.inl rfl) (by simp only [go_sem, jE, reduceIte, jA, jM, jS, jL, jD, jB]; rfl) (by rfl) rfl)
        · rw [c3] at k3
          have hres : resH' keep k (some x) = decide (tailT k f.2 = bCut keep x) := by unfold resH' fits; simp only [c3, x2]; rfl
          rw [hres]
          unfold tailT
          repeat (first | apply Aw_seq | apply Aw_block | apply Aw_skip | apply Aw_exit | refine Aw_condt rfl ?_ | refine Aw_condf rfl ?_ | ((first | refine qr ?_ | refine qd (by kernel_rfl) (by kernel_rfl) ?_); simp only [go_sem, jE, reduceIte, jA, jM, jS, jL, jD, jB, g1, h3, g2, g3, h4, g4, w, min_if, min_le]) | refine dk (by kernel_rfl) ?_ | (refine qp (k2) (by simp only [go_sem, jE, reduceIte, jA, jM, jS, jL, jD, jB, g1, h3, g2, g3, h4, g4, w, min_if, min_le]; first | done | rfl) rfl (by simp only [go_sem, Nat.reduceLT]) rfl rfl ?_; simp only [go_sem, jE, reduceIte, jA, jM, jS, jL, jD, jB, g1, h3, g2, g3, h4, g4, w, min_if, min_le]) | (refine qp (k3) (by simp only [go_sem, jE, reduceIte, jA, jM, jS, jL, jD, jB, g1, h3, g2, g3, h4, g4, w, min_if, min_le]; first | done | rfl) rfl (by simp only [go_sem, Nat.reduceLT]) rfl rfl ?_; simp only [go_sem, jE, reduceIte, jA, jM, jS, jL, jD, jB, g1, h3, g2, g3, h4, g4, w, min_if, min_le]) | (refine qp (k4) (by simp only [go_sem, jE, reduceIte, jA, jM, jS, jL, jD, jB, g1, h3, g2, g3, h4, g4, w, min_if, min_le]; first | done | rfl) rfl (by simp only [go_sem, Nat.reduceLT]) rfl rfl ?_; simp only [go_sem, jE, reduceIte, jA, jM, jS, jL, jD, jB, g1, h3, g2, g3, h4, g4, w, min_if, min_le]))
          exact Aw_ret (ret0 (.inl rfl) (by simp only [go_sem, jE, reduceIte, jA, jM, jS, jL, jD, jB]; rfl) (by rfl) rfl)
      · have g4 : decide (((s.more[o + a]).toNat : Int) = 49) = true := by rw [e2]; unfold bMore; rw [c2]; rfl
        rw [c2] at hw
        simp only [if_true] at hw
        have k3 := node_ac h (b := o + a) (by omega)
        have hk := kid_at h.hf hax c2
        have hsz : k.size ≠ f.2 := fun hh => bMul_45 hff hxm c2 (by rw [hlab]; unfold lab; rw [if_pos hh])
        have w : IntKind.i64.wrap ((f.2 : Int) + 1) = ((f.2 + 1 : Nat) : Int) := wn (by omega) (by omega)
        have e3 : (bKid x).2 = f.2 + 1 := by unfold bKid; rw [x2]
        repeat (first | apply Aw_seq | apply Aw_block | apply Aw_skip | apply Aw_exit | refine Aw_condt rfl ?_ | refine Aw_condf rfl ?_ | ((first | refine qr ?_ | refine qd (by kernel_rfl) (by kernel_rfl) ?_); simp only [go_sem, jE, reduceIte, jA, jM, jS, jL, jD, jB, g1, h3, g2, g3, h4, g4, w]) | refine dk (by kernel_rfl) ?_ | (refine qp (k2) (by simp only [go_sem, jE, reduceIte, jA, jM, jS, jL, jD, jB, g1, h3, g2, g3, h4, g4, w]; first | done | rfl) rfl (by simp only [go_sem, Nat.reduceLT]) rfl rfl ?_; simp only [go_sem, jE, reduceIte, jA, jM, jS, jL, jD, jB, g1, h3, g2, g3, h4, g4, w]) | (refine qp (k3) (by simp only [go_sem, jE, reduceIte, jA, jM, jS, jL, jD, jB, g1, h3, g2, g3, h4, g4, w]; first | done | rfl) rfl (by simp only [go_sem, Nat.reduceLT]) rfl rfl ?_; simp only [go_sem, jE, reduceIte, jA, jM, jS, jL, jD, jB, g1, h3, g2, g3, h4, g4, w]))
        refine ⟨⟨((allB keep ks).take (o + a + 1)).countP bMul, bKid x, m, hk, by omega, by omega, hw⟩, [0], ?_, ?_⟩
        rotate_left
        dsimp only
        rw [e3]
        exact rwL (by repeat (first | exact trivial | refine ⟨rfl, rfl, ?_⟩)) (by rfl) (by simp only [go_sem, jE, reduceIte, jA, jM, jS, jL, jD, jB]; first | done | rfl) (by decide) (by unfold idM; decide)
        show m < m + 1; omega
  · have ea : a = (brs f).length := by omega
    subst ea
    have hfind : (brs f).find? (hitB k f.2) = none := findB_none h2
    simp only [walkT, hfind] at hw
    subst hw
    have g1 : decide (((o + (brs f).length : Nat) : Int) < ((o + (brs f).length : Nat) : Int)) = false := decide_eq_false (by omega)
    have g3 : decide (((o + (brs f).length : Nat) : Int) = ((o + (brs f).length : Nat) : Int)) = true := decide_eq_true rfl
    repeat (first | apply Aw_seq | apply Aw_block | apply Aw_skip | apply Aw_exit | refine Aw_condt rfl ?_ | refine Aw_condf rfl ?_ | ((first | refine qr ?_ | refine qd (by kernel_rfl) (by kernel_rfl) ?_); simp only [go_sem, jE, reduceIte, jA, jM, jS, jL, jD, jB, g1, g3]) | refine dk (by kernel_rfl) ?_)
    exact Aw_ret (ret0 (.inl rfl) (by simp only [go_sem, jE, reduceIte, jA, jM, jS, jL, jD, jB]; rfl) (by rfl) rfl)
theorem one_off {keep : Nat} {ks : List ByteArray} (hf : Fork (ks, 0)) (n : Nat) : oneN (firstL keep ks) n = offB keep ks n := by
  unfold oneN
  by_cases hk : ks = []
  · subst hk
    have e := off_le keep [] n
    rw [allB_nil] at e
    simp only [List.length_nil, Nat.le_zero_eq] at e
    rw [firstL_nil, e]; rfl
  · rw [first_one hf hk]
    by_cases c : n < (allF keep ks).length
    · rw [if_pos c]; rfl
    · rw [if_neg c, firstL_len]; exact (off_all (by omega)).symm
theorem first_ac {keep : Nat} {ks : List ByteArray} {s : Sve} (h : SvIs keep ks s) {n : Nat} (hn : n ≤ 1000) : AC Tryz.prog 100 [sT s.first, iT n] noHp 0 ⟨.t (iT (offB keep ks n : Nat)), noHp, 0⟩ := by
  obtain ⟨z1, z2, z3⟩ := h.sizes
  have hb := h.hb
  have k := sone_ac s.first n (by omega) hn
  rw [h.h1, one_off h.hf] at k
  exact k
theorem more_ac {keep : Nat} {ks : List ByteArray} {s : Sve} (h : SvIs keep ks s) {b : Nat} (hb : b ≤ (allB keep ks).length) : AC Tryz.prog 141 [sT s.more, iT b] noHp 0 ⟨.t (iT (((allB keep ks).take b).countP bMul : Nat)), noHp, 0⟩ := by
  obtain ⟨z1, z2, z3⟩ := h.sizes
  have hbb := h.hb
  have k := ones_ac s.more b (by omega) (by omega)
  rw [h.hm, show cntO ((allB keep ks).map bMore) b = _ from count_ones _ _] at k
  exact k
theorem kids_ac {keep : Nat} {ks : List ByteArray} {s : Sve} (h : SvIs keep ks s) {b : Nat} (hb : b < (allB keep ks).length) : AC Tryz.prog 138 [sveP s, iT b] noHp 0 ⟨.tup [iT (offB keep ks (((allB keep ks).take (b + 1)).countP bMul) : Nat), iT (offB keep ks (((allB keep ks).take (b + 1)).countP bMul + 1) : Nat)], noHp, 0⟩ := by
  have hbb := h.hb
  have k1 := more_ac h (b := b + 1) (by omega)
  have hle := List.countP_le_length (p := bMul) (l := (allB keep ks).take (b + 1))
  rw [List.length_take] at hle
  generalize ((allB keep ks).take (b + 1)).countP bMul = m at *
  have k2 := first_ac h (n := m) (by omega)
  have k3 := first_ac h (n := m + 1) (by omega)
  have w1 : IntKind.i64.wrap ((b : Int) + 1) = ((b + 1 : Nat) : Int) := wn (by omega) (by omega)
  have w2 : IntKind.i64.wrap ((m : Int) + 1) = ((m + 1 : Nat) : Int) := wn (by omega) (by omega)
  refine AC_of Tryz.func138 rfl Tryz.ntmps138 Tryz.results138 (by kernel_rfl) rfl ?_
  simp only [List.zipIdx, List.map, Nat.zero_add, Nat.reduceAdd]
  repeat (first | apply Aw_seq | apply Aw_block | apply Aw_skip | apply Aw_exit | refine Aw_condt rfl ?_ | refine Aw_condf rfl ?_ | ((first | refine qr ?_ | refine qd (by kernel_rfl) (by kernel_rfl) ?_); simp only [go_sem, jE, reduceIte, jA, jM, jS, jL, jD, jB, w1, w2]) | refine dk (by kernel_rfl) ?_ | (refine qp (k1) (by simp only [go_sem, jE, reduceIte, jA, jM, jS, jL, jD, jB, w1, w2]; first | done | rfl) rfl (by simp only [go_sem, Nat.reduceLT]) rfl rfl ?_; simp only [go_sem, jE, reduceIte, jA, jM, jS, jL, jD, jB, w1, w2]) | (refine qp (k2) (by simp only [go_sem, jE, reduceIte, jA, jM, jS, jL, jD, jB, w1, w2]; first | done | rfl) rfl (by simp only [go_sem, Nat.reduceLT]) rfl rfl ?_; simp only [go_sem, jE, reduceIte, jA, jM, jS, jL, jD, jB, w1, w2]) | (refine qp (k3) (by simp only [go_sem, jE, reduceIte, jA, jM, jS, jL, jD, jB, w1, w2]; first | done | rfl) rfl (by simp only [go_sem, Nat.reduceLT]) rfl rfl ?_; simp only [go_sem, jE, reduceIte, jA, jM, jS, jL, jD, jB, w1, w2]))
  exact Aw_ret (ret0 (.inl rfl) (by simp only [go_sem, jE, reduceIte, jA, jM, jS, jL, jD, jB]; rfl) (by rfl) rfl)
/-- What is kept of the keys of the first branches. -/
def accB (keep n : Nat) (way : ByteArray) (f : List ByteArray × Nat) (a : Nat) : List ByteArray := (((brs f).take a).map (hdsB keep n way)).flatten
theorem accB_succ {keep n : Nat} {way : ByteArray} {f : List ByteArray × Nat} {a : Nat} {x : Br} (h : (brs f)[a]? = some x) : accB keep n way f (a + 1) = accB keep n way f a ++ hdsB keep n way x := by
  unfold accB
  rw [List.take_add_one, h, List.map_append, List.flatten_append]; simp
theorem accB_all (keep n : Nat) (way : ByteArray) (f : List ByteArray × Nat) : accB keep n way f (brs f).length = (partsM keep (n + 1) way f).map Prod.fst := by
  unfold accB; rw [List.take_length, parts_hds]
theorem accB_len {keep n : Nat} {way : ByteArray} {f : List ByteArray × Nat} (hf : Fork f) (hn : 6 ≤ f.2 + (n + 1)) (a : Nat) : (accB keep n way f a).length ≤ f.1.length := by
  have e := parts_len (keep := keep) (n + 1) (way := way) hf hn
  rw [← List.length_map (f := Prod.fst), parts_hds, ← List.take_append_drop a (brs f), List.map_append, List.flatten_append, List.length_append] at e
  unfold accB
  omega
def accL (L : List ByteArray) (keep n : Nat) (way : ByteArray) (f : List ByteArray × Nat) (a : Nat) : List ByteArray := L ++ accB keep n way f a
theorem accL_0 (L : List ByteArray) (keep n : Nat) (way : ByteArray) (f : List ByteArray × Nat) : accL L keep n way f 0 = L := List.append_nil L
theorem accL_succ {L : List ByteArray} {keep n : Nat} {way : ByteArray} {f : List ByteArray × Nat} {a : Nat} {x : Br} (h : (brs f)[a]? = some x) : accL L keep n way f (a + 1) = accL L keep n way f a ++ hdsB keep n way x := by
  unfold accL; rw [accB_succ h, List.append_assoc]
structure AddI (f : List ByteArray × Nat) where
  a : Nat
  h : a ≤ (brs f).length
theorem l3Add_ac {keep : Nat} {ks : List ByteArray} {s : Sve} (h : SvIs keep ks s) : ∀ (n : Nat) (way : ByteArray) (f : List ByteArray × Nat) (j : Nat) (L : List ByteArray), (allF keep ks)[j]? = some f → Fork f → WayOk way f → f.2 + n = 6 → L.length + f.1.length ≤ 1000 →
    AC Tryz.prog 136 [sveP s, iT (offB keep ks j : Nat), iT (offB keep ks (j + 1) : Nat), sT way, .c (.h 0)] (hpL [some (kRow L)]) 1 ⟨.t (.c (.h 1)), hpL [none, some (kRow (L ++ (partsM keep n way f).map Prod.fst))], 2⟩
  | 0, way, f, j, L, hj, hf, hw, hn, hl => by have := hf.dep; omega
  | n + 1, way, f, j, L, hj, hf, hw, hn, hl => by
    have ih := l3Add_ac h n
    have hdep := hf.dep
    have hbb := h.hb
    have hway : way.size = f.2 := by rw [size_l, hw.len]
    obtain ⟨z1, z2, z3⟩ := h.sizes
    have hlen : offB keep ks j + (brs f).length ≤ (allB keep ks).length := by rw [← off_next hj]; exact off_le _ _ _
    have hbr := fun t ht => br_at hj (t := t) ht
    have hkid := fun t x hx hm => off_kid h.hf hj (t := t) (x := x) hx hm
    have hacc := accB_len (keep := keep) (n := n) (way := way) hf (by omega)
    rw [off_next hj, ← accB_all]
    have e9 : L ++ accB keep n way f (brs f).length = accL L keep n way f (brs f).length := rfl
    rw [e9]
    generalize offB keep ks j = o at *
    have d5 : decide ((way.size : Int) ≤ 5) = true := decide_eq_true (by omega)
    refine AC_of Tryz.func136 rfl Tryz.ntmps136 Tryz.results136 (by kernel_rfl) rfl ?_
    simp only [List.zipIdx, List.map, Nat.zero_add, Nat.reduceAdd]
    repeat (first | apply Aw_seq | apply Aw_block | apply Aw_skip | apply Aw_exit | refine Aw_condt rfl ?_ | refine Aw_condf rfl ?_ | ((first | refine qr ?_ | refine qd (by kernel_rfl) (by kernel_rfl) ?_); simp only [go_sem, jE, reduceIte, jA, jM, jS, jL, jD, jB]) | refine dk (by kernel_rfl) ?_)
    refine Aw.rw (rwL (l' := [(11, .t (iT ((o + 0 : Nat) : Int))), (5, .t (.c (.ph 1 0 0))), (4, .t (.c (.h 2))), (3, .t (sT way)), (2, .t (iT ((o + (brs f).length : Nat) : Int)))]) (os := [none, some (svObj s), some (kRow (accL L keep n way f 0))]) (M := [0, 1, 0]) (n' := 3) (by repeat (first | exact trivial | refine ⟨rfl, rfl, ?_⟩)) (by rfl) (by simp only [go_sem, jE, reduceIte, jA, jM, jS, jL, jD, jB, accL_0]; first | done | rfl) (by decide) (by unfold idM; decide)) ?_
    refine Aw_loop_rw (ι := AddI f) (fun q => S [(11, .t (iT ((o + q.a : Nat) : Int))), (5, .t (.c (.ph 1 0 0))), (4, .t (.c (.h 2))), (3, .t (sT way)), (2, .t (iT ((o + (brs f).length : Nat) : Int)))] (hpL [none, some (svObj s), some (kRow (accL L keep n way f q.a))]) 3) (fun q => (brs f).length - q.a) ⟨0, Nat.zero_le _⟩ ?_
    rintro ⟨a, ha⟩
    dsimp only
    by_cases hlt : a < (brs f).length
    · obtain ⟨x, hx⟩ : ∃ x, (brs f)[a]? = some x := ⟨_, List.getElem?_eq_getElem hlt⟩
      have hxm := List.mem_of_getElem? hx
      have hax := hbr a hlt
      rw [hx] at hax
      obtain ⟨x2, x3, y0, r0, x4, _⟩ := brs_mem hxm
      obtain ⟨hi, e⟩ := byteL_at h.hl (i := o + a) (b := bLet x) (by rw [List.getElem?_map, hax]; rfl)
      obtain ⟨hi2, e2⟩ := byteL_at h.hm (i := o + a) (b := bMore x) (by rw [List.getElem?_map, hax]; rfl)
      have h3 : ∀ hp, ixB hp s.letters (o + a) = _ := fun hp => ixB_ok hi
      have h4 : ∀ hp, ixB hp s.more (o + a) = _ := fun hp => ixB_ok hi2
      have hext := ext_at e
      have g1 : decide (((o + a : Nat) : Int) < ((o + (brs f).length : Nat) : Int)) = true := decide_eq_true (by omega)
      have g2 : decide (((o + a : Nat) : Int) < (s.letters.size : Int)) = true := decide_eq_true (by omega)
      have w : IntKind.i64.wrap (((o + a : Nat) : Int) + 1) = ((o + a + 1 : Nat) : Int) := wn (by omega) (by omega)
      have s1 : (((o + a : Nat) : Int) ≤ ((o + a + 1 : Nat) : Int)) = True := eq_true (by omega)
      have s2 : (((o + a + 1 : Nat) : Int) ≤ (s.letters.size : Int)) = True := eq_true (by omega)
      have hsucc := accL_succ (L := L) (keep := keep) (n := n) (way := way) hx
      have hsc := accB_succ (keep := keep) (n := n) (way := way) hx
      have hll : (accL L keep n way f a).length = L.length + (accB keep n way f a).length := by unfold accL; rw [List.length_append]
      have hl1 := hacc (a + 1)
      have hl0 := hacc a
      have q1 : (way.size + 1 ≤ 9223372036854775807) = True := eq_true (by omega)
      have hsz : (stepW way x).size ≤ 6 := by
        unfold stepW; split
        · omega
        · rw [size_l, app_l, List.length_append, bs_l, ← size_l]; simp; omega
      repeat (first | apply Aw_seq | apply Aw_block | apply Aw_skip | apply Aw_exit | refine Aw_condt rfl ?_ | refine Aw_condf rfl ?_ | ((first | refine qr ?_ | refine qd (by kernel_rfl) (by kernel_rfl) ?_); simp only [go_sem, jE, reduceIte, jA, jM, jS, jL, jD, jB, g1, g2, d5, h3]) | refine dk (by kernel_rfl) ?_)
      obtain ⟨W, hW⟩ : ∃ W, W = stepW way x := ⟨_, rfl⟩
      refine cut_seq (J := fun (_ : Unit) => S [(12, .t (sT W)), (11, .t (iT ((o + a : Nat) : Int))), (5, .t (.c (.ph 1 0 0))), (4, .t (.c (.h 2))), (3, .t (sT way)), (2, .t (iT ((o + (brs f).length : Nat) : Int)))] (hpL [none, some (svObj s), some (kRow (accL L keep n way f a))]) 3) ?_ ?_
      · by_cases c : bLet x = 45
        · have g4 : decide (((s.letters[o + a]).toNat : Int) = 45) = true := by rw [e, c]; rfl
          have hst : stepW way x = way := by unfold stepW; rw [if_pos c]
          rw [g4]
          rw [hst] at hW
          subst hW
          repeat (first | apply Aw_seq | apply Aw_block | apply Aw_skip | apply Aw_exit | refine Aw_condt rfl ?_ | refine Aw_condf rfl ?_ | ((first | refine qr ?_ | refine qd (by kernel_rfl) (by kernel_rfl) ?_); simp only [go_sem, jE, reduceIte, jA, jM, jS, jL, jD, jB, g4]) | refine dk (by kernel_rfl) ?_)
          refine ⟨rfl, ?_⟩
          exact ⟨(), [0, 1, 2], rwL (by repeat (first | exact trivial | refine ⟨rfl, rfl, ?_⟩)) (by rfl) (by simp only [go_sem, jE, reduceIte, jA, jM, jS, jL, jD, jB]; first | done | rfl) (by decide) (by unfold idM; decide)⟩
        · have g4 : decide (((s.letters[o + a]).toNat : Int) = 45) = false := decide_eq_false (fun h45 => c (by rw [← e]; exact UInt8.toNat_inj.1 (Int.ofNat.inj h45)))
          have hst : stepW way x = way ++ bs [bLet x] := by unfold stepW; rw [if_neg c]
          rw [hst] at hW
          subst hW
          rw [g4]
          repeat (first | apply Aw_seq | apply Aw_block | apply Aw_skip | apply Aw_exit | refine Aw_condt rfl ?_ | refine Aw_condf rfl ?_ | ((first | refine qr ?_ | refine qd (by kernel_rfl) (by kernel_rfl) ?_); simp only [go_sem, jE, reduceIte, jA, jM, jS, jL, jD, jB, g4, h3, w, s1, s2, hext, q1]) | refine dk (by kernel_rfl) ?_)
          exact ⟨(), [0, 1, 2], rwL (by repeat (first | exact trivial | refine ⟨rfl, rfl, ?_⟩)) (by rfl) (by simp only [go_sem, jE, reduceIte, jA, jM, jS, jL, jD, jB]; first | done | rfl) (by decide) (by unfold idM; decide)⟩
      intro _
      subst hW
      cases c2 : bMul x
      · have g4 : decide (((s.more[o + a]).toNat : Int) = 49) = false := by rw [e2]; unfold bMore; rw [c2]; rfl
        have k1 := more_ac h (b := o + a) (by omega)
        have hno := not_ones (allB keep ks) (o + a) (by omega)
        have hr := rest_at hax c2
        rw [← h.hr] at hr
        generalize ((allB keep ks).take (o + a)).countP bMul = m1 at *
        generalize ((allB keep ks).take (o + a)).countP (fun b => !bMul b) = m2 at *
        have w3 : IntKind.i64.wrap (((o + a : Nat) : Int) - (m1 : Int)) = (m2 : Int) := wn (by omega) (by omega)
        have hrl := (List.getElem?_eq_some_iff.1 hr).1
        have g5 : decide ((m2 : Int) < (s.rests.length : Int)) = true := decide_eq_true (by omega)
        have hh : hdsB keep n way x = [stepW way x ++ bCut keep x] := by unfold hdsB; rw [c2]; rfl
        rw [hh] at hsucc
        have hcs : (bCut keep x).size ≤ 5 := by
          unfold bCut; rw [size_l, cut_l, List.length_take]; have := h.kp; omega
        have q2 : ((stepW way x).size + (bCut keep x).size ≤ 9223372036854775807) = True := eq_true (by omega)
        have q3 : (((accL L keep n way f a).length + 1) * 16 ≤ 140737488355328) = True := eq_true (by omega)
        repeat (first | apply Aw_seq | apply Aw_block | apply Aw_skip | apply Aw_exit | refine Aw_condt rfl ?_ | refine Aw_condf rfl ?_ | ((first | refine qr ?_ | refine qd (by kernel_rfl) (by kernel_rfl) ?_); simp only [go_sem, jE, reduceIte, jA, jM, jS, jL, jD, jB, g4, h4, w3, g5, hr, hrl, q2, q3, w]) | refine dk (by kernel_rfl) ?_ | (refine qp (k1) (by simp only [go_sem, jE, reduceIte, jA, jM, jS, jL, jD, jB, g4, h4, w3, g5, hr, hrl, q2, q3, w]; first | done | rfl) rfl (by simp only [go_sem, Nat.reduceLT]) rfl rfl ?_; simp only [go_sem, jE, reduceIte, jA, jM, jS, jL, jD, jB, g4, h4, w3, g5, hr, hrl, q2, q3, w]))
        refine ⟨⟨a + 1, by omega⟩, [0, 1, 28], ?_, rwL (by repeat (first | exact trivial | refine ⟨rfl, rfl, ?_⟩)) (by rfl) (by simp only [go_sem, jE, reduceIte, jA, jM, jS, jL, jD, jB, hsucc, List.map_append, List.map_cons, List.map_nil]; first | done | rfl) (by decide) (by unfold idM; decide)⟩
        show (brs f).length - (a + 1) < (brs f).length - a; omega
      · have g4 : decide (((s.more[o + a]).toNat : Int) = 49) = true := by rw [e2]; unfold bMore; rw [c2]; rfl
        have k1 := kids_ac h (b := o + a) (by omega)
        have hk := kid_at h.hf hax c2
        have ha1 := hkid a x hx c2
        have hle : (accB keep n way f a).length + (bKid x).1.length ≤ f.1.length := by
          rw [hsc, List.length_append, hdsB_len hf (by omega) hxm] at hl1
          exact hl1
        have k2 := ih (stepW way x) (bKid x) _ (accL L keep n way f a) hk (bKid_fork hf hxm c2) (way_kid hf hw hxm c2) (by show x.2 + 1 + n = 6; omega) (by omega)
        have hh : hdsB keep n way x = (partsM keep n (stepW way x) (bKid x)).map Prod.fst := by unfold hdsB; rw [c2]; rfl
        rw [← hh, ← hsucc] at k2
        generalize ((allB keep ks).take (o + a + 1)).countP bMul = m at *
        have g5 : decide (((offB keep ks m : Nat) : Int) ≤ ((o + a : Nat) : Int)) = false := decide_eq_false (by omega)
        repeat (first | apply Aw_seq | apply Aw_block | apply Aw_skip | apply Aw_exit | refine Aw_condt rfl ?_ | refine Aw_condf rfl ?_ | ((first | refine qr ?_ | refine qd (by kernel_rfl) (by kernel_rfl) ?_); simp only [go_sem, jE, reduceIte, jA, jM, jS, jL, jD, jB, g4, h4, g5, w]) | refine dk (by kernel_rfl) ?_ | (refine qp (k1) (by simp only [go_sem, jE, reduceIte, jA, jM, jS, jL, jD, jB, g4, h4, g5, w]; first | done | rfl) rfl (by simp only [go_sem, Nat.reduceLT]) rfl rfl ?_; simp only [go_sem, jE, reduceIte, jA, jM, jS, jL, jD, jB, g4, h4, g5, w]) | (refine qx (call_L (N' := [2]) (L := []) (k2) rfl (.cons (.nm rfl) (.cons (.nm rfl) (.cons (.nm rfl) (.cons (.nm rfl) (.cons (.nm rfl) (.nil)))))) (by decide) (by decide) (by decide) (by simp only [go_sem, jE, reduceIte, jA, jM, jS, jL, jD, jB, g4, h4, g5, w]; first | done | rfl) (.inl rfl) rfl (by decide)) (by simp only [go_sem, jE, reduceIte, jA, jM, jS, jL, jD, jB, g4, h4, g5, w]; first | done | rfl) rfl (by simp only [go_sem, Nat.reduceLT]) ?_; simp only [go_sem, jE, reduceIte, jA, jM, jS, jL, jD, jB, g4, h4, g5, w]))
        refine ⟨⟨a + 1, by omega⟩, [0, 1, 23], ?_, rwL (by repeat (first | exact trivial | refine ⟨rfl, rfl, ?_⟩)) (by rfl) (by simp only [go_sem, jE, reduceIte, jA, jM, jS, jL, jD, jB]; first | done | rfl) (by decide) (by unfold idM; decide)⟩
        show (brs f).length - (a + 1) < (brs f).length - a; omega
    · have ea : a = (brs f).length := by omega
      subst ea
      have g1 : decide (((o + (brs f).length : Nat) : Int) < ((o + (brs f).length : Nat) : Int)) = false := decide_eq_false (by omega)
      repeat (first | apply Aw_seq | apply Aw_block | apply Aw_skip | apply Aw_exit | refine Aw_condt rfl ?_ | refine Aw_condf rfl ?_ | ((first | refine qr ?_ | refine qd (by kernel_rfl) (by kernel_rfl) ?_); simp only [go_sem, jE, reduceIte, jA, jM, jS, jL, jD, jB, g1]) | refine dk (by kernel_rfl) ?_)
      exact Aw_ret (retL (M := [0, 2]) (.inl rfl) (by simp only [go_sem, jE, reduceIte, jA, jM, jS, jL, jD, jB]; first | done | rfl) rfl rfl (by rfl) (by simp only [go_sem, jE, reduceIte, jA, jM, jS, jL, jD, jB]; first | done | rfl | (and_intros <;> rfl)) (by decide) (by unfold idM; decide))
/-- What is kept of all keys. -/
theorem l3Heads_own {keep : Nat} {ks : List ByteArray} {s : Sve} (h : SvIs keep ks s) (hk : ks.length ≤ 1000) : AC Tryz.prog 97 [sveP s] noHp 0 ⟨.t (.c (.h 0)), hpL [some (kRow (headsM keep ks))], 1⟩ := by
  have k1 := first_ac h (n := 1) (by omega)
  have k2 := l3Add_ac h 6 zs (ks, 0) 0 [] (allF_0 h.hf) h.hf (way_0 ks) rfl (by simpa using hk)
  have e0 : offB keep ks 0 = 0 := rfl
  rw [e0, List.nil_append, Nat.zero_add] at k2
  unfold headsM
  generalize offB keep ks 1 = m at *
  refine AC_of Tryz.func97 rfl Tryz.ntmps97 Tryz.results97 (by kernel_rfl) rfl ?_
  simp only [List.zipIdx, List.map, Nat.zero_add, Nat.reduceAdd]
  repeat (first | apply Aw_seq | apply Aw_block | apply Aw_skip | apply Aw_exit | refine Aw_condt rfl ?_ | refine Aw_condf rfl ?_ | ((first | refine qr ?_ | refine qd (by kernel_rfl) (by kernel_rfl) ?_); simp only [go_sem, jE, reduceIte, jA, jM, jS, jL, jD, jB]) | refine dk (by kernel_rfl) ?_ | (refine qp (k1) (by simp only [go_sem, jE, reduceIte, jA, jM, jS, jL, jD, jB]; first | done | rfl) rfl (by simp only [go_sem, Nat.reduceLT]) rfl rfl ?_; simp only [go_sem, jE, reduceIte, jA, jM, jS, jL, jD, jB]) | (refine qx (call_L (N' := [5]) (L := []) (k2) rfl (.cons (.nm rfl) (.cons (.nm rfl) (.cons (.nm rfl) (.cons (.nm rfl) (.cons (.nm rfl) (.nil)))))) (by decide) (by decide) (by decide) (by simp only [go_sem, jE, reduceIte, jA, jM, jS, jL, jD, jB]; first | done | rfl) (.inl rfl) rfl (by decide)) (by simp only [go_sem, jE, reduceIte, jA, jM, jS, jL, jD, jB]; first | done | rfl) rfl (by simp only [go_sem, Nat.reduceLT]) ?_; simp only [go_sem, jE, reduceIte, jA, jM, jS, jL, jD, jB]))
  exact Aw_ret (retL (M := [6]) (.inl rfl) (by simp only [go_sem, jE, reduceIte, jA, jM, jS, jL, jD, jB]; first | done | rfl) rfl rfl (by rfl) (by simp only [go_sem, jE, reduceIte, jA, jM, jS, jL, jD, jB]; first | done | rfl | (and_intros <;> rfl)) (by decide) (by unfold idM; decide))
theorem l3Heads_ac {keep : Nat} {ks : List ByteArray} {s : Sve} (h : SvIs keep ks s) (hk : ks.length ≤ 1000) : AC Tryz.prog 97 [sveP s] noHp 0 ⟨.t (strsT (headsM keep ks)), noHp, 0⟩ :=
  AC.settle0 [0] (l3Heads_own h hk) (SetC.row0 rfl rfl) rfl
theorem l3Form_ac {keep : Nat} {ks : List ByteArray} {s : Sve} (h : SvIs keep ks s) : AC Tryz.prog 135 [sveP s] noHp 0 ⟨.t (bT true), noHp, 0⟩ := by
  obtain ⟨z1, z2, z3⟩ := h.sizes
  have hbb := h.hb
  have k1 := sbitsOk_ac s.more (by omega) fun b hb => by
    rw [h.hm] at hb
    obtain ⟨x, _, rfl⟩ := List.mem_map.1 hb
    unfold bMore; split <;> simp
  have k2 := sbitsOk_ac s.first (by omega) fun b hb => by
    rw [h.h1] at hb
    obtain ⟨f, _, hb⟩ := List.mem_flatMap.1 hb
    cases e : brs f with
    | nil => rw [e] at hb; simp [bFirst] at hb
    | cons y r => rw [e] at hb; simp [bFirst] at hb; rcases hb with hb | hb <;> simp_all
  have k3 := more_ac h (b := (allB keep ks).length) (Nat.le_refl _)
  have hc := count_bMore (allB keep ks)
  have hr : s.rests.length = ((allB keep ks).filter fun b => !bMul b).length := by rw [h.hr, List.length_map]
  rw [List.take_length, ← z1] at k3
  have k4 : AC Tryz.prog 52 [iT s.keep, iT 0, iT 5] noHp 0 ⟨.t (bT (inB 0 s.keep 5)), noHp, 0⟩ := l6In_ac _ _ _
  have hin : inB 0 s.keep 5 = true := by have := h.kp; rw [h.hk]; unfold inB; simp; omega
  rw [hin] at k4
  rw [← hr] at hc
  generalize (allB keep ks).countP bMul = m at *
  have w : IntKind.i64.wrap ((s.letters.size : Int) - (m : Int)) = (s.rests.length : Int) := wn (by omega) (by omega)
  have g1 : decide ((s.more.size : Int) = (s.letters.size : Int)) = true := decide_eq_true (by omega)
  have g2 : decide ((s.first.size : Int) = (s.letters.size : Int)) = true := decide_eq_true (by omega)
  have g3 : decide ((s.rests.length : Int) = (s.rests.length : Int)) = true := decide_eq_true rfl
  refine AC_of Tryz.func135 rfl Tryz.ntmps135 Tryz.results135 (by kernel_rfl) rfl ?_
  simp only [List.zipIdx, List.map, Nat.zero_add, Nat.reduceAdd]
  repeat (first | apply Aw_seq | apply Aw_block | apply Aw_skip | apply Aw_exit | refine Aw_condt rfl ?_ | refine Aw_condf rfl ?_ | ((first | refine qr ?_ | refine qd (by kernel_rfl) (by kernel_rfl) ?_); simp only [go_sem, jE, reduceIte, jA, jM, jS, jL, jD, jB, w, g1, g2, g3]) | refine dk (by kernel_rfl) ?_ | (refine qp (k1) (by simp only [go_sem, jE, reduceIte, jA, jM, jS, jL, jD, jB, w, g1, g2, g3]; first | done | rfl) rfl (by simp only [go_sem, Nat.reduceLT]) rfl rfl ?_; simp only [go_sem, jE, reduceIte, jA, jM, jS, jL, jD, jB, w, g1, g2, g3]) | (refine qp (k2) (by simp only [go_sem, jE, reduceIte, jA, jM, jS, jL, jD, jB, w, g1, g2, g3]; first | done | rfl) rfl (by simp only [go_sem, Nat.reduceLT]) rfl rfl ?_; simp only [go_sem, jE, reduceIte, jA, jM, jS, jL, jD, jB, w, g1, g2, g3]) | (refine qp (k3) (by simp only [go_sem, jE, reduceIte, jA, jM, jS, jL, jD, jB, w, g1, g2, g3]; first | done | rfl) rfl (by simp only [go_sem, Nat.reduceLT]) rfl rfl ?_; simp only [go_sem, jE, reduceIte, jA, jM, jS, jL, jD, jB, w, g1, g2, g3]) | (refine qp (k4) (by simp only [go_sem, jE, reduceIte, jA, jM, jS, jL, jD, jB, w, g1, g2, g3]; first | done | rfl) rfl (by simp only [go_sem, Nat.reduceLT]) rfl rfl ?_; simp only [go_sem, jE, reduceIte, jA, jM, jS, jL, jD, jB, w, g1, g2, g3]))
  exact Aw_ret (ret0 (.inl rfl) (by simp only [go_sem, jE, reduceIte, jA, jM, jS, jL, jD, jB]; rfl) (by rfl) rfl)
theorem ssieveOk_ac {keep : Nat} {ks : List ByteArray} {s : Sve} (h : SvIs keep ks s) (hs : sieveM ks (keep : Int) = some s) : AC Tryz.prog 96 [sveP s] noHp 0 ⟨.t (bT true), noHp, 0⟩ := by
  have hk : keysOkM ks = true := by unfold sieveM at hs; split at hs <;> simp_all
  obtain ⟨hl, _, _⟩ := ksOk_iff hk
  have k1 := l3Form_ac h
  have k2 := l3Heads_ac h (by omega)
  have k3 := ssieveS_ac (headsM keep ks) keep (ksOk_iff (heads_ok (keep := keep) hk)).2.2
  rw [show sieveM (headsM keep ks) keep = _ from heads_sieve (keep := (keep : Int)) hk, hs] at k3
  have k3 : AC Tryz.prog 90 [strsT (headsM keep ks), iT keep] noHp 0 ⟨.tup [sveP s, bT true], noHp, 0⟩ := k3
  have k4 := l3Sames_ac s.rests s.rests (by have := h.hr; rw [h.hr, List.length_map]; have := List.length_filter_le (fun b => !bMul b) (allB keep ks); have := h.hb; omega)
  have hk' := h.hk
  rw [← h.hk] at k3
  refine AC_of Tryz.func96 rfl Tryz.ntmps96 Tryz.results96 (by kernel_rfl) rfl ?_
  simp only [List.zipIdx, List.map, Nat.zero_add, Nat.reduceAdd]
  rw [decide_eq_true rfl] at k4
  repeat (first | apply Aw_seq | apply Aw_block | apply Aw_skip | apply Aw_exit | refine Aw_condt rfl ?_ | refine Aw_condf rfl ?_ | ((first | refine qr ?_ | refine qd (by kernel_rfl) (by kernel_rfl) ?_); simp only [go_sem, jE, reduceIte, jA, jM, jS, jL, jD, jB, bref]) | refine dk (by kernel_rfl) ?_ | (refine qp (k1) (by simp only [go_sem, jE, reduceIte, jA, jM, jS, jL, jD, jB, bref]; first | done | rfl) rfl (by simp only [go_sem, Nat.reduceLT]) rfl rfl ?_; simp only [go_sem, jE, reduceIte, jA, jM, jS, jL, jD, jB, bref]) | (refine qp (k2) (by simp only [go_sem, jE, reduceIte, jA, jM, jS, jL, jD, jB, bref]; first | done | rfl) rfl (by simp only [go_sem, Nat.reduceLT]) rfl rfl ?_; simp only [go_sem, jE, reduceIte, jA, jM, jS, jL, jD, jB, bref]) | (refine qp (k3) (by simp only [go_sem, jE, reduceIte, jA, jM, jS, jL, jD, jB, bref]; first | done | rfl) rfl (by simp only [go_sem, Nat.reduceLT]) rfl rfl ?_; simp only [go_sem, jE, reduceIte, jA, jM, jS, jL, jD, jB, bref]) | (refine qp (k4) (by simp only [go_sem, jE, reduceIte, jA, jM, jS, jL, jD, jB, bref]; first | done | rfl) rfl (by simp only [go_sem, Nat.reduceLT]) rfl rfl ?_; simp only [go_sem, jE, reduceIte, jA, jM, jS, jL, jD, jB, bref]))
  exact Aw_ret (ret0 (.inl rfl) (by simp only [go_sem, jE, reduceIte, jA, jM, jS, jL, jD, jB]; rfl) (by rfl) rfl)
theorem skeyBegins_ac (s h : ByteArray) : AC Tryz.prog 137 [sT s, sT h] noHp 0 ⟨.t (bT (begB s h)), noHp, 0⟩ := by
  refine AC_of Tryz.func137 rfl Tryz.ntmps137 Tryz.results137 (by kernel_rfl) rfl ?_
  simp only [List.zipIdx, List.map, Nat.zero_add, Nat.reduceAdd]
  by_cases c : h.size ≤ s.size
  · have g1 : decide ((h.size : Int) ≤ (s.size : Int)) = true := decide_eq_true (by omega)
    have g2 : ((h.size : Int) ≤ (s.size : Int)) = True := eq_true (by omega)
    have g3 : ((0 : Int) ≤ (h.size : Int)) = True := eq_true (by omega)
    have g4 : Int.toNat ((h.size : Nat) : Int) = h.size := rfl
    have g5 : Int.toNat 0 = 0 := rfl
    unfold begB
    rw [decide_eq_true c, Bool.true_and]
    repeat (first | apply Aw_seq | apply Aw_block | apply Aw_skip | apply Aw_exit | refine Aw_condt rfl ?_ | refine Aw_condf rfl ?_ | ((first | refine qr ?_ | refine qd (by kernel_rfl) (by kernel_rfl) ?_); simp only [go_sem, jE, reduceIte, jA, jM, jS, jL, jD, jB, g1, g2, g3, g4, g5]) | refine dk (by kernel_rfl) ?_)
    exact Aw_ret (ret0 (.inl rfl) (by simp only [go_sem, jE, reduceIte, jA, jM, jS, jL, jD, jB]; rfl) (by rfl) rfl)
  · have g1 : decide ((h.size : Int) ≤ (s.size : Int)) = false := decide_eq_false (by omega)
    unfold begB
    rw [decide_eq_false c, Bool.false_and]
    repeat (first | apply Aw_seq | apply Aw_block | apply Aw_skip | apply Aw_exit | refine Aw_condt rfl ?_ | refine Aw_condf rfl ?_ | ((first | refine qr ?_ | refine qd (by kernel_rfl) (by kernel_rfl) ?_); simp only [go_sem, jE, reduceIte, jA, jM, jS, jL, jD, jB, g1]) | refine dk (by kernel_rfl) ?_)
    exact Aw_ret (ret0 (.inl rfl) (by simp only [go_sem, jE, reduceIte, jA, jM, jS, jL, jD, jB]; rfl) (by rfl) rfl)
theorem l3Whole_ac {keep : Nat} {ks : List ByteArray} {s : Sve} (h : SvIs keep ks s) {b : Nat} {x : Br} (hb : (allB keep ks)[b]? = some x) (hm : bMul x = false) : AC Tryz.prog 139 [sveP s, iT b] noHp 0 ⟨.t (bT (whole keep x)), noHp, 0⟩ := by
  obtain ⟨hi, e⟩ := byteL_at h.hl (i := b) (b := bLet x) (by rw [List.getElem?_map, hb]; rfl)
  have hbl := (List.getElem?_eq_some_iff.1 hb).1
  have hbb := h.hb
  have h3 : ∀ hp, ixB hp s.letters b = _ := fun hp => ixB_ok hi
  have k1 := more_ac h (b := b) (by omega)
  have hno := not_ones (allB keep ks) b (by omega)
  have hr := rest_at hb hm
  rw [← h.hr] at hr
  generalize ((allB keep ks).take b).countP bMul = m1 at *
  generalize ((allB keep ks).take b).countP (fun b => !bMul b) = m2 at *
  have w3 : IntKind.i64.wrap ((b : Int) - (m1 : Int)) = (m2 : Int) := wn (by omega) (by omega)
  have hrl := (List.getElem?_eq_some_iff.1 hr).1
  have g5 : decide (((bCut keep x).size : Int) < s.keep) = decide ((bCut keep x).size < keep) := by rw [h.hk]; exact decide_eq_decide.2 (by omega)
  unfold whole
  by_cases c : bLet x = 45
  · have g4 : decide (((s.letters[b]).toNat : Int) = 45) = true := by rw [e, c]; rfl
    rw [decide_eq_true c, Bool.true_or]
    refine AC_of Tryz.func139 rfl Tryz.ntmps139 Tryz.results139 (by kernel_rfl) rfl ?_
    simp only [List.zipIdx, List.map, Nat.zero_add, Nat.reduceAdd]
    repeat (first | apply Aw_seq | apply Aw_block | apply Aw_skip | apply Aw_exit | refine Aw_condt rfl ?_ | refine Aw_condf rfl ?_ | ((first | refine qr ?_ | refine qd (by kernel_rfl) (by kernel_rfl) ?_); simp only [go_sem, jE, reduceIte, jA, jM, jS, jL, jD, jB, g4, h3, w3]) | refine dk (by kernel_rfl) ?_ | (refine qp (k1) (by simp only [go_sem, jE, reduceIte, jA, jM, jS, jL, jD, jB, g4, h3, w3]; first | done | rfl) rfl (by simp only [go_sem, Nat.reduceLT]) rfl rfl ?_; simp only [go_sem, jE, reduceIte, jA, jM, jS, jL, jD, jB, g4, h3, w3]))
    exact Aw_ret (ret0 (.inl rfl) (by simp only [go_sem, jE, reduceIte, jA, jM, jS, jL, jD, jB]; rfl) (by rfl) rfl)
  · have g4 : decide (((s.letters[b]).toNat : Int) = 45) = false := decide_eq_false (fun h45 => c (by rw [← e]; exact UInt8.toNat_inj.1 (Int.ofNat.inj h45)))
    rw [decide_eq_false c, Bool.false_or]
    refine AC_of Tryz.func139 rfl Tryz.ntmps139 Tryz.results139 (by kernel_rfl) rfl ?_
    simp only [List.zipIdx, List.map, Nat.zero_add, Nat.reduceAdd]
    repeat (first | apply Aw_seq | apply Aw_block | apply Aw_skip | apply Aw_exit | refine Aw_condt rfl ?_ | refine Aw_condf rfl ?_ | ((first | refine qr ?_ | refine qd (by kernel_rfl) (by kernel_rfl) ?_); simp only [go_sem, jE, reduceIte, jA, jM, jS, jL, jD, jB, g4, h3, w3, hr, hrl, g5]) | refine dk (by kernel_rfl) ?_ | (refine qp (k1) (by simp only [go_sem, jE, reduceIte, jA, jM, jS, jL, jD, jB, g4, h3, w3, hr, hrl, g5]; first | done | rfl) rfl (by simp only [go_sem, Nat.reduceLT]) rfl rfl ?_; simp only [go_sem, jE, reduceIte, jA, jM, jS, jL, jD, jB, g4, h3, w3, hr, hrl, g5]))
    exact Aw_ret (ret0 (.inl rfl) (by simp only [go_sem, jE, reduceIte, jA, jM, jS, jL, jD, jB]; rfl) (by rfl) rfl)
theorem walk_num {keep : Nat} {ks : List ByteArray} (hf0 : Fork (ks, 0)) (k : ByteArray) : ∀ (n j : Nat) (f : List ByteArray × Nat), (allF keep ks)[j]? = some f → (walkN keep ks k n j f = none ∧ walkT k n f = none) ∨ ∃ (at_ : Nat) (x : Br), walkN keep ks k n j f = some (at_, x.2) ∧ (allB keep ks)[at_]? = some x ∧ bMul x = false ∧ walkT k n f = some x
  | 0, j, f, hj => .inl ⟨rfl, rfl⟩
  | n + 1, j, f, hj => by
    cases hx : (brs f).findIdx? (fun b => decide (bLet b = lab k f.2)) with
    | none =>
      left
      have e : (brs f).find? (hitB k f.2) = none := by
        rw [List.find?_eq_none]
        intro x hm
        have := List.findIdx?_eq_none_iff.1 hx x hm
        simp only [hitB]; rw [this]; simp
      simp only [walkN, hx, walkT, e, and_self]
    | some a =>
      obtain ⟨ha, hp, hq⟩ := List.findIdx?_eq_some_iff_getElem.1 hx
      have hg : (brs f)[a]? = some (brs f)[a] := List.getElem?_eq_getElem ha
      have e : (brs f).find? (hitB k f.2) = some (brs f)[a] := findB_hit (a := a) (fun t ht y hy => by
        have hl : t < (brs f).length := by omega
        rw [List.getElem?_eq_getElem hl] at hy
        have := hq t ht
        rw [Option.some.inj hy] at this
        simpa [hitB] using this) hg hp
      have hax := br_at hj ha
      rw [hg] at hax
      obtain ⟨x2, _⟩ := brs_mem (List.getElem_mem ha)
      cases c : bMul (brs f)[a]
      · right
        refine ⟨offB keep ks j + a, (brs f)[a], ?_, hax, c, ?_⟩
        · simp only [walkN, hx, hg, c, x2]; rfl
        · simp only [walkT, e, c]; rfl
      · have hk := kid_at hf0 hax c
        have ih := walk_num hf0 k n _ _ hk
        simp only [walkN, hx, hg, c, walkT, e, if_true]
        exact ih
def atZ (o : Nat) : Option Nat → Int
  | none => -1
  | some t => ((o + t : Nat) : Int)
structure WkI (keep : Nat) (ks : List ByteArray) (k : ByteArray) (R : Option (Nat × Nat)) where
  j : Nat
  f : List ByteArray × Nat
  n : Nat
  hj : (allF keep ks)[j]? = some f
  hd : f.2 ≤ k.size
  hn : f.2 + n = 6
  hw : walkN keep ks k n j f = R
structure WkJ (k : ByteArray) (f : List ByteArray × Nat) where
  a : Nat
  h1 : a ≤ (brs f).length
  c : Option Nat
  hc : c = ((brs f).take a).findIdx? (fun b => decide (bLet b = lab k f.2))
def wkR (k : ByteArray) : Option (Nat × Nat) → List TV
  | none => [iT 0, iT 0, bT false]
  | some (a, d) => [iT a, iT (min (d + 1) k.size : Nat), bT true]
theorem l3Walk_ac {keep : Nat} {ks : List ByteArray} {s : Sve} (h : SvIs keep ks s) (k : ByteArray) (hk : keyOk k = true) : AC Tryz.prog 140 [sveP s, sT k] noHp 0 ⟨.tup (wkR k (walkN keep ks k 6 0 (ks, 0))), noHp, 0⟩ := by
  obtain ⟨R, hR⟩ : ∃ R, R = walkN keep ks k 6 0 (ks, 0) := ⟨_, rfl⟩
  rw [← hR]
  have hbb := h.hb
  have k5 := keyOk_size hk
  obtain ⟨z1, z2, z3⟩ := h.sizes
  have k0 := first_ac h (n := 1) (by omega)
  refine AC_of Tryz.func140 rfl Tryz.ntmps140 Tryz.results140 (by kernel_rfl) rfl ?_
  simp only [List.zipIdx, List.map, Nat.zero_add, Nat.reduceAdd]
  repeat (first | apply Aw_seq | apply Aw_block | apply Aw_skip | apply Aw_exit | refine Aw_condt rfl ?_ | refine Aw_condf rfl ?_ | ((first | refine qr ?_ | refine qd (by kernel_rfl) (by kernel_rfl) ?_); simp only [go_sem, jE, reduceIte, jA, jM, jS, jL, jD, jB]) | refine dk (by kernel_rfl) ?_ | (refine qp (k0) (by simp only [go_sem, jE, reduceIte, jA, jM, jS, jL, jD, jB]; first | done | rfl) rfl (by simp only [go_sem, Nat.reduceLT]) rfl rfl ?_; simp only [go_sem, jE, reduceIte, jA, jM, jS, jL, jD, jB]))
  refine Aw.rw (rwL (l' := [(9, .t (iT (0 : Nat))), (8, .t (iT (offB keep ks (0 + 1) : Nat))), (7, .t (iT (offB keep ks 0 : Nat))), (2, .t (.c (.ph 0 0 0))), (1, .t (sT k))]) (os := [some (svObj s)]) (M := [0]) (n' := 1) (by repeat (first | exact trivial | refine ⟨rfl, rfl, ?_⟩)) (by rfl) (by simp only [go_sem, jE, reduceIte, jA, jM, jS, jL, jD, jB]; first | done | rfl) (by decide) (by unfold idM; decide)) ?_
  refine Aw_loop_rw (ι := WkI keep ks k R) (fun q => S [(9, .t (iT (q.f.2 : Nat))), (8, .t (iT (offB keep ks (q.j + 1) : Nat))), (7, .t (iT (offB keep ks q.j : Nat))), (2, .t (.c (.ph 0 0 0))), (1, .t (sT k))] (hpL [some (svObj s)]) 1) (fun q => q.n) ⟨0, (ks, 0), 6, allF_0 h.hf, Nat.zero_le _, rfl, hR.symm⟩ ?_
  clear hR
  rintro ⟨j, f, n, hj, hd, hn, hw⟩
  dsimp only
  have hff := allF_fork h.hf f (List.mem_of_getElem? hj)
  have hlen : offB keep ks j + (brs f).length ≤ (allB keep ks).length := by rw [← off_next hj]; exact off_le _ _ _
  have hbr := fun t ht => br_at hj (t := t) ht
  rw [off_next hj]
  have hdep := hff.dep
  obtain ⟨m, rfl⟩ : ∃ m, n = m + 1 := ⟨n - 1, by omega⟩
  simp only [walkN] at hw
  generalize offB keep ks j = o at *
  repeat (first | apply Aw_seq | apply Aw_block | apply Aw_skip | apply Aw_exit | refine Aw_condt rfl ?_ | refine Aw_condf rfl ?_ | ((first | refine qr ?_ | refine qd (by kernel_rfl) (by kernel_rfl) ?_); simp only [go_sem, jE, reduceIte, jA, jM, jS, jL, jD, jB]) | refine dk (by kernel_rfl) ?_)
  refine Aw.rw (rwL (l' := [(11, .t (iT ((o + 0 : Nat) : Int))), (10, .t (iT (atZ o none))), (9, .t (iT (f.2 : Nat))), (8, .t (iT ((o + (brs f).length : Nat) : Int))), (2, .t (.c (.ph 0 0 0))), (1, .t (sT k))]) (os := [some (svObj s)]) (M := [0]) (n' := 1) (by repeat (first | exact trivial | refine ⟨rfl, rfl, ?_⟩)) (by rfl) (by simp only [go_sem, jE, reduceIte, jA, jM, jS, jL, jD, jB]; first | done | rfl) (by decide) (by unfold idM; decide)) ?_
  refine Aw_loop_rw (ι := WkJ k f) (fun q => S [(11, .t (iT ((o + q.a : Nat) : Int))), (10, .t (iT (atZ o q.c))), (9, .t (iT (f.2 : Nat))), (8, .t (iT ((o + (brs f).length : Nat) : Int))), (2, .t (.c (.ph 0 0 0))), (1, .t (sT k))] (hpL [some (svObj s)]) 1) (fun q => (brs f).length - q.a) ⟨0, Nat.zero_le _, none, rfl⟩ ?_
  rintro ⟨a, h1, c, hc⟩
  dsimp only
  by_cases hlt : a < (brs f).length
  · obtain ⟨x, hx⟩ : ∃ x, (brs f)[a]? = some x := ⟨_, List.getElem?_eq_getElem hlt⟩
    have hxm := List.mem_of_getElem? hx
    have hax := hbr a hlt
    rw [hx] at hax
    obtain ⟨hi, e⟩ := byteL_at h.hl (i := o + a) (b := bLet x) (by rw [List.getElem?_map, hax]; rfl)
    have hext := ext_at e
    have g1 : decide (((o + a : Nat) : Int) < ((o + (brs f).length : Nat) : Int)) = true := decide_eq_true (by omega)
    have g2 : decide (((o + a : Nat) : Int) < (s.letters.size : Int)) = true := decide_eq_true (by omega)
    have w : IntKind.i64.wrap (((o + a : Nat) : Int) + 1) = ((o + a + 1 : Nat) : Int) := wn (by omega) (by omega)
    have s1 : (((o + a : Nat) : Int) ≤ ((o + a + 1 : Nat) : Int)) = True := eq_true (by omega)
    have s2 : (((o + a + 1 : Nat) : Int) ≤ (s.letters.size : Int)) = True := eq_true (by omega)
    have k2 := l3Letter_ac k f.2 hd k5
    have ht : (brs f).take (a + 1) = (brs f).take a ++ [x] := by rw [List.take_add_one, hx]; rfl
    have hq : bs [bLet x] = labS k f.2 ↔ bLet x = lab k f.2 := by
      constructor
      · intro hh
        have := congrArg (fun z : ByteArray => z.data.toList) hh
        simpa [bs_l, labS] using this
      · intro hh; rw [hh]; rfl
    have hnew : ((brs f).take (a + 1)).findIdx? (fun b => decide (bLet b = lab k f.2)) = if bLet x = lab k f.2 then some a else c := by
      rw [ht, List.findIdx?_append, ← hc]
      have hal : ((brs f).take a).length = a := by rw [List.length_take]; omega
      by_cases cx : bLet x = lab k f.2
      · rw [if_pos cx]
        cases hcc : c with
        | none => simp [cx, hal]
        | some t =>
          rw [hcc] at hc
          obtain ⟨ht1, ht2, _⟩ := List.findIdx?_eq_some_iff_getElem.1 hc.symm
          rw [List.length_take] at ht1
          have hp := List.pairwise_iff_getElem.1 (brs_lt hff) t a (by omega) hlt (by omega)
          have ex : (brs f)[a] = x := by rw [List.getElem?_eq_getElem hlt] at hx; exact Option.some.inj hx
          rw [List.getElem_take] at ht2
          rw [ex, of_decide_eq_true ht2, cx] at hp
          omega
      · rw [if_neg cx]
        cases hcc : c <;> simp [cx]
    by_cases cx : bLet x = lab k f.2
    · have g3 : decide (bs [bLet x] = bs [lab k f.2]) = true := decide_eq_true (hq.2 cx)
      rw [if_pos cx] at hnew
      repeat (first | apply Aw_seq | apply Aw_block | apply Aw_skip | apply Aw_exit | refine Aw_condt rfl ?_ | refine Aw_condf rfl ?_ | ((first | refine qr ?_ | refine qd (by kernel_rfl) (by kernel_rfl) ?_); simp only [go_sem, jE, reduceIte, jA, jM, jS, jL, jD, jB, g1, g2, w, s1, s2, hext, g3]) | refine dk (by kernel_rfl) ?_ | (refine qp (k2) (by simp only [go_sem, jE, reduceIte, jA, jM, jS, jL, jD, jB, g1, g2, w, s1, s2, hext, g3]; first | done | rfl) rfl (by simp only [go_sem, Nat.reduceLT]) rfl rfl ?_; simp only [go_sem, jE, reduceIte, jA, jM, jS, jL, jD, jB, g1, g2, w, s1, s2, hext, g3]))
      refine ⟨⟨a + 1, hlt, some a, hnew.symm⟩, [0], ?_, rwL (by repeat (first | exact trivial | refine ⟨rfl, rfl, ?_⟩)) (by rfl) (by simp only [go_sem, jE, reduceIte, jA, jM, jS, jL, jD, jB]; first | done | rfl) (by decide) (by unfold idM; decide)⟩
      show (brs f).length - (a + 1) < (brs f).length - a; omega
    · have g3 : decide (bs [bLet x] = bs [lab k f.2]) = false := decide_eq_false fun hh => cx (hq.1 hh)
      rw [if_neg cx] at hnew
      repeat (first | apply Aw_seq | apply Aw_block | apply Aw_skip | apply Aw_exit | refine Aw_condt rfl ?_ | refine Aw_condf rfl ?_ | ((first | refine qr ?_ | refine qd (by kernel_rfl) (by kernel_rfl) ?_); simp only [go_sem, jE, reduceIte, jA, jM, jS, jL, jD, jB, g1, g2, w, s1, s2, hext, g3]) | refine dk (by kernel_rfl) ?_ | (refine qp (k2) (by simp only [go_sem, jE, reduceIte, jA, jM, jS, jL, jD, jB, g1, g2, w, s1, s2, hext, g3]; first | done | rfl) rfl (by simp only [go_sem, Nat.reduceLT]) rfl rfl ?_; simp only [go_sem, jE, reduceIte, jA, jM, jS, jL, jD, jB, g1, g2, w, s1, s2, hext, g3]))
      refine ⟨⟨a + 1, hlt, c, hnew.symm⟩, [0], ?_, rwL (by repeat (first | exact trivial | refine ⟨rfl, rfl, ?_⟩)) (by rfl) (by simp only [go_sem, jE, reduceIte, jA, jM, jS, jL, jD, jB]; first | done | rfl) (by decide) (by unfold idM; decide)⟩
      show (brs f).length - (a + 1) < (brs f).length - a; omega
  · have ea : a = (brs f).length := by omega
    subst ea
    rw [List.take_length] at hc
    rw [← hc] at hw
    have g1 : decide (((o + (brs f).length : Nat) : Int) < ((o + (brs f).length : Nat) : Int)) = false := decide_eq_false (by omega)
    cases hcc : c with
    | none =>
      rw [hcc] at hw
      simp only at hw
      subst hw
      have e1 : atZ o none = -1 := rfl
      have g2 : decide ((-1 : Int) < 0) = true := rfl
      rw [e1]
      repeat (first | apply Aw_seq | apply Aw_block | apply Aw_skip | apply Aw_exit | refine Aw_condt rfl ?_ | refine Aw_condf rfl ?_ | ((first | refine qr ?_ | refine qd (by kernel_rfl) (by kernel_rfl) ?_); simp only [go_sem, jE, reduceIte, jA, jM, jS, jL, jD, jB, g1, g2]) | refine dk (by kernel_rfl) ?_)
      exact Aw_ret (ret0 (.inl rfl) (by simp only [go_sem, jE, reduceIte, jA, jM, jS, jL, jD, jB]; rfl) (by rfl) rfl)
    | some t =>
      rw [hcc] at hw hc
      obtain ⟨ht1, ht2, _⟩ := List.findIdx?_eq_some_iff_getElem.1 hc.symm
      have hlab := of_decide_eq_true ht2
      obtain ⟨x, hx⟩ : ∃ x, (brs f)[t]? = some x := ⟨_, List.getElem?_eq_getElem ht1⟩
      have ex : (brs f)[t] = x := by rw [List.getElem?_eq_getElem ht1] at hx; exact Option.some.inj hx
      rw [ex] at hlab
      have hxm := List.mem_of_getElem? hx
      obtain ⟨x2, x3, y0, r0, x4, _⟩ := brs_mem hxm
      have hax := hbr t ht1
      rw [hx] at hax
      simp only [hx] at hw
      obtain ⟨hi2, e2⟩ := byteL_at h.hm (i := o + t) (b := bMore x) (by rw [List.getElem?_map, hax]; rfl)
      have h4 : ∀ hp, ixB hp s.more (o + t) = _ := fun hp => ixB_ok hi2
      have e1 : atZ o (some t) = ((o + t : Nat) : Int) := rfl
      have g2 : decide (((o + t : Nat) : Int) < 0) = false := decide_eq_false (by omega)
      have w : IntKind.i64.wrap ((f.2 : Int) + 1) = ((f.2 + 1 : Nat) : Int) := wn (by omega) (by omega)
      rw [e1]
      cases c2 : bMul x
      · have g4 : decide (((s.more[o + t]).toNat : Int) = 48) = true := by rw [e2]; unfold bMore; rw [c2]; rfl
        rw [c2] at hw
        simp only [Bool.false_eq_true, if_false] at hw
        subst hw
        repeat (first | apply Aw_seq | apply Aw_block | apply Aw_skip | apply Aw_exit | refine Aw_condt rfl ?_ | refine Aw_condf rfl ?_ | ((first | refine qr ?_ | refine qd (by kernel_rfl) (by kernel_rfl) ?_); simp only [go_sem, jE, reduceIte, jA, jM, jS, jL, jD, jB, g1, g2, h4, g4, w, min_if, min_le]) | refine dk (by kernel_rfl) ?_)
        exact Aw_ret (ret0 (.inl rfl) (by simp only [go_sem, jE, reduceIte, jA, jM, jS, jL, jD, jB]; rfl) (by rfl) rfl)
      · have g4 : decide (((s.more[o + t]).toNat : Int) = 48) = false := by rw [e2]; unfold bMore; rw [c2]; rfl
        rw [c2] at hw
        simp only [if_true] at hw
        have k3 := kids_ac h (b := o + t) (by omega)
        have hk2 := kid_at h.hf hax c2
        have hsz : k.size ≠ f.2 := fun hh => bMul_45 hff hxm c2 (by rw [hlab]; unfold lab; rw [if_pos hh])
        have e3 : (bKid x).2 = f.2 + 1 := by unfold bKid; rw [x2]
        generalize ((allB keep ks).take (o + t + 1)).countP bMul = m3 at *
        repeat (first | apply Aw_seq | apply Aw_block | apply Aw_skip | apply Aw_exit | refine Aw_condt rfl ?_ | refine Aw_condf rfl ?_ | ((first | refine qr ?_ | refine qd (by kernel_rfl) (by kernel_rfl) ?_); simp only [go_sem, jE, reduceIte, jA, jM, jS, jL, jD, jB, g1, g2, h4, g4, w]) | refine dk (by kernel_rfl) ?_ | (refine qp (k3) (by simp only [go_sem, jE, reduceIte, jA, jM, jS, jL, jD, jB, g1, g2, h4, g4, w]; first | done | rfl) rfl (by simp only [go_sem, Nat.reduceLT]) rfl rfl ?_; simp only [go_sem, jE, reduceIte, jA, jM, jS, jL, jD, jB, g1, g2, h4, g4, w]))
        refine ⟨⟨m3, bKid x, m, hk2, by omega, by omega, hw⟩, [0], ?_, ?_⟩
        rotate_left
        dsimp only
        rw [e3]
        exact rwL (by repeat (first | exact trivial | refine ⟨rfl, rfl, ?_⟩)) (by rfl) (by simp only [go_sem, jE, reduceIte, jA, jM, jS, jL, jD, jB]; first | done | rfl) (by decide) (by unfold idM; decide)
        show m < m + 1; omega
theorem sieveHas_ac {keep : Nat} {ks : List ByteArray} {s : Sve} (h : SvIs keep ks s) (hs : sieveM ks (keep : Int) = some s) (k : ByteArray) (hk : keyOk k = true) : AC Tryz.prog 102 [sveP s, sT k] noHp 0 ⟨.t (bT (hasM keep ks k)), noHp, 0⟩ := by
  have k1 := ssieveOk_ac h hs
  have k2 := skeyOk_ac k (by have := keyOk_size hk; unfold smK; omega)
  rw [hk] at k2
  obtain ⟨z1, z2, z3⟩ := h.sizes
  have hbb := h.hb
  rw [hasM_res]
  have k3 := l3Walk_ac h k hk
  rcases walk_num h.hf k 6 0 (ks, 0) (allF_0 h.hf) with ⟨e1, e2⟩ | ⟨at_, x, e1, hax, c2, e2⟩
  · rw [e1] at k3
    rw [e2]
    have k3 : AC Tryz.prog 140 [sveP s, sT k] noHp 0 ⟨.tup [iT 0, iT 0, bT false], noHp, 0⟩ := k3
    refine AC_of Tryz.func102 rfl Tryz.ntmps102 Tryz.results102 (by kernel_rfl) rfl ?_
    simp only [List.zipIdx, List.map, Nat.zero_add, Nat.reduceAdd]
    by_cases c : s.letters.size = 0
    · have g0 : decide ((s.letters.size : Int) = 0) = true := decide_eq_true (by omega)
      repeat (first | apply Aw_seq | apply Aw_block | apply Aw_skip | apply Aw_exit | refine Aw_condt rfl ?_ | refine Aw_condf rfl ?_ | ((first | refine qr ?_ | refine qd (by kernel_rfl) (by kernel_rfl) ?_); simp only [go_sem, jE, reduceIte, jA, jM, jS, jL, jD, jB, g0]) | refine dk (by kernel_rfl) ?_ | (refine qp (k1) (by simp only [go_sem, jE, reduceIte, jA, jM, jS, jL, jD, jB, g0]; first | done | rfl) rfl (by simp only [go_sem, Nat.reduceLT]) rfl rfl ?_; simp only [go_sem, jE, reduceIte, jA, jM, jS, jL, jD, jB, g0]) | (refine qp (k2) (by simp only [go_sem, jE, reduceIte, jA, jM, jS, jL, jD, jB, g0]; first | done | rfl) rfl (by simp only [go_sem, Nat.reduceLT]) rfl rfl ?_; simp only [go_sem, jE, reduceIte, jA, jM, jS, jL, jD, jB, g0]))
      exact Aw_ret (ret0 (.inl rfl) (by simp only [go_sem, jE, reduceIte, jA, jM, jS, jL, jD, jB]; rfl) (by rfl) rfl)
    · have g0 : decide ((s.letters.size : Int) = 0) = false := decide_eq_false (by omega)
      repeat (first | apply Aw_seq | apply Aw_block | apply Aw_skip | apply Aw_exit | refine Aw_condt rfl ?_ | refine Aw_condf rfl ?_ | ((first | refine qr ?_ | refine qd (by kernel_rfl) (by kernel_rfl) ?_); simp only [go_sem, jE, reduceIte, jA, jM, jS, jL, jD, jB, g0]) | refine dk (by kernel_rfl) ?_ | (refine qp (k1) (by simp only [go_sem, jE, reduceIte, jA, jM, jS, jL, jD, jB, g0]; first | done | rfl) rfl (by simp only [go_sem, Nat.reduceLT]) rfl rfl ?_; simp only [go_sem, jE, reduceIte, jA, jM, jS, jL, jD, jB, g0]) | (refine qp (k2) (by simp only [go_sem, jE, reduceIte, jA, jM, jS, jL, jD, jB, g0]; first | done | rfl) rfl (by simp only [go_sem, Nat.reduceLT]) rfl rfl ?_; simp only [go_sem, jE, reduceIte, jA, jM, jS, jL, jD, jB, g0]) | (refine qp (k3) (by simp only [go_sem, jE, reduceIte, jA, jM, jS, jL, jD, jB, g0]; first | done | rfl) rfl (by simp only [go_sem, Nat.reduceLT]) rfl rfl ?_; simp only [go_sem, jE, reduceIte, jA, jM, jS, jL, jD, jB, g0]))
      exact Aw_ret (ret0 (.inl rfl) (by simp only [go_sem, jE, reduceIte, jA, jM, jS, jL, jD, jB]; rfl) (by rfl) rfl)
  · rw [e1] at k3
    rw [e2]
    have hbl := (List.getElem?_eq_some_iff.1 hax).1
    have k3 : AC Tryz.prog 140 [sveP s, sT k] noHp 0 ⟨.tup [iT at_, iT (min (x.2 + 1) k.size : Nat), bT true], noHp, 0⟩ := k3
    have g0 : decide ((s.letters.size : Int) = 0) = false := decide_eq_false (by omega)
    have k4 := more_ac h (b := at_) (by omega)
    have hno := not_ones (allB keep ks) at_ (by omega)
    have hr := rest_at hax c2
    rw [← h.hr] at hr
    generalize ((allB keep ks).take at_).countP bMul = m1 at *
    generalize ((allB keep ks).take at_).countP (fun b => !bMul b) = m2 at *
    have w3 : IntKind.i64.wrap ((at_ : Int) - (m1 : Int)) = (m2 : Int) := wn (by omega) (by omega)
    have hrl := (List.getElem?_eq_some_iff.1 hr).1
    have k5 := l3Whole_ac h hax c2
    have ml : (((min (x.2 + 1) k.size : Nat) : Int) ≤ (k.size : Int)) = True := eq_true (by omega)
    show AC Tryz.prog _ _ _ _ ⟨.t (bT (fits keep k x)), noHp, 0⟩
    unfold fits
    cases c3 : whole keep x
    · rw [c3] at k5
      have k6 := skeyBegins_ac (tailT k x.2) (bCut keep x)
      unfold tailT at k6 ⊢
      refine AC_of Tryz.func102 rfl Tryz.ntmps102 Tryz.results102 (by kernel_rfl) rfl ?_
      simp only [List.zipIdx, List.map, Nat.zero_add, Nat.reduceAdd]
      repeat (first | apply Aw_seq | apply Aw_block | apply Aw_skip | apply Aw_exit | refine Aw_condt rfl ?_ | refine Aw_condf rfl ?_ | ((first | refine qr ?_ | refine qd (by kernel_rfl) (by kernel_rfl) ?_); simp only [go_sem, jE, reduceIte, jA, jM, jS, jL, jD, jB, g0, w3, hr, hrl, ml]) | refine dk (by kernel_rfl) ?_ | (refine qp (k1) (by simp only [go_sem, jE, reduceIte, jA, jM, jS, jL, jD, jB, g0, w3, hr, hrl, ml]; first | done | rfl) rfl (by simp only [go_sem, Nat.reduceLT]) rfl rfl ?_; simp only [go_sem, jE, reduceIte, jA, jM, jS, jL, jD, jB, g0, w3, hr, hrl, ml]) | (refine qp (k2) (by simp only [go_sem, jE, reduceIte, jA, jM, jS, jL, jD, jB, g0, w3, hr, hrl, ml]; first | done | rfl) rfl (by simp only [go_sem, Nat.reduceLT]) rfl rfl ?_; simp only [go_sem, jE, reduceIte, jA, jM, jS, jL, jD, jB, g0, w3, hr, hrl, ml]) | (refine qp (k3) (by simp only [go_sem, jE, reduceIte, jA, jM, jS, jL, jD, jB, g0, w3, hr, hrl, ml]; first | done | rfl) rfl (by simp only [go_sem, Nat.reduceLT]) rfl rfl ?_; simp only [go_sem, jE, reduceIte, jA, jM, jS, jL, jD, jB, g0, w3, hr, hrl, ml]) | (refine qp (k4) (by simp only [go_sem, jE, reduceIte, jA, jM, jS, jL, jD, jB, g0, w3, hr, hrl, ml]; first | done | rfl) rfl (by simp only [go_sem, Nat.reduceLT]) rfl rfl ?_; simp only [go_sem, jE, reduceIte, jA, jM, jS, jL, jD, jB, g0, w3, hr, hrl, ml]) | (refine qp (k5) (by simp only [go_sem, jE, reduceIte, jA, jM, jS, jL, jD, jB, g0, w3, hr, hrl, ml]; first | done | rfl) rfl (by simp only [go_sem, Nat.reduceLT]) rfl rfl ?_; simp only [go_sem, jE, reduceIte, jA, jM, jS, jL, jD, jB, g0, w3, hr, hrl, ml]) | (refine qp (k6) (by simp only [go_sem, jE, reduceIte, jA, jM, jS, jL, jD, jB, g0, w3, hr, hrl, ml]; first | done | rfl) rfl (by simp only [go_sem, Nat.reduceLT]) rfl rfl ?_; simp only [go_sem, jE, reduceIte, jA, jM, jS, jL, jD, jB, g0, w3, hr, hrl, ml]))
      exact Aw_ret (ret0 (.inl rfl) (by simp only [go_sem, jE, reduceIte, jA, jM, jS, jL, jD, jB]; rfl) (by rfl) rfl)
    · rw [c3] at k5
      unfold tailT
      refine AC_of Tryz.func102 rfl Tryz.ntmps102 Tryz.results102 (by kernel_rfl) rfl ?_
      simp only [List.zipIdx, List.map, Nat.zero_add, Nat.reduceAdd]
      repeat (first | apply Aw_seq | apply Aw_block | apply Aw_skip | apply Aw_exit | refine Aw_condt rfl ?_ | refine Aw_condf rfl ?_ | ((first | refine qr ?_ | refine qd (by kernel_rfl) (by kernel_rfl) ?_); simp only [go_sem, jE, reduceIte, jA, jM, jS, jL, jD, jB, g0, w3, hr, hrl, ml]) | refine dk (by kernel_rfl) ?_ | (refine qp (k1) (by simp only [go_sem, jE, reduceIte, jA, jM, jS, jL, jD, jB, g0, w3, hr, hrl, ml]; first | done | rfl) rfl (by simp only [go_sem, Nat.reduceLT]) rfl rfl ?_; simp only [go_sem, jE, reduceIte, jA, jM, jS, jL, jD, jB, g0, w3, hr, hrl, ml]) | (refine qp (k2) (by simp only [go_sem, jE, reduceIte, jA, jM, jS, jL, jD, jB, g0, w3, hr, hrl, ml]; first | done | rfl) rfl (by simp only [go_sem, Nat.reduceLT]) rfl rfl ?_; simp only [go_sem, jE, reduceIte, jA, jM, jS, jL, jD, jB, g0, w3, hr, hrl, ml]) | (refine qp (k3) (by simp only [go_sem, jE, reduceIte, jA, jM, jS, jL, jD, jB, g0, w3, hr, hrl, ml]; first | done | rfl) rfl (by simp only [go_sem, Nat.reduceLT]) rfl rfl ?_; simp only [go_sem, jE, reduceIte, jA, jM, jS, jL, jD, jB, g0, w3, hr, hrl, ml]) | (refine qp (k4) (by simp only [go_sem, jE, reduceIte, jA, jM, jS, jL, jD, jB, g0, w3, hr, hrl, ml]; first | done | rfl) rfl (by simp only [go_sem, Nat.reduceLT]) rfl rfl ?_; simp only [go_sem, jE, reduceIte, jA, jM, jS, jL, jD, jB, g0, w3, hr, hrl, ml]) | (refine qp (k5) (by simp only [go_sem, jE, reduceIte, jA, jM, jS, jL, jD, jB, g0, w3, hr, hrl, ml]; first | done | rfl) rfl (by simp only [go_sem, Nat.reduceLT]) rfl rfl ?_; simp only [go_sem, jE, reduceIte, jA, jM, jS, jL, jD, jB, g0, w3, hr, hrl, ml]))
      exact Aw_ret (ret0 (.inl rfl) (by simp only [go_sem, jE, reduceIte, jA, jM, jS, jL, jD, jB]; rfl) (by rfl) rfl)
abbrev Pt := ByteArray × Bool
/-- What is kept behind a branch. -/
def hdsP (keep n : Nat) (way : ByteArray) (b : Br) : List Pt := if bMul b = true then partsM keep n (stepW way b) (bKid b) else [(stepW way b ++ bCut keep b, whole keep b)]
def accP (L : List Pt) (keep n : Nat) (way : ByteArray) (f : List ByteArray × Nat) (a : Nat) : List Pt := L ++ ((brs f).take a).flatMap (hdsP keep n way)
theorem accP_0 (L : List Pt) (keep n : Nat) (way : ByteArray) (f : List ByteArray × Nat) : accP L keep n way f 0 = L := List.append_nil L
theorem accP_succ {L : List Pt} {keep n : Nat} {way : ByteArray} {f : List ByteArray × Nat} {a : Nat} {x : Br} (h : (brs f)[a]? = some x) : accP L keep n way f (a + 1) = accP L keep n way f a ++ hdsP keep n way x := by
  unfold accP
  rw [List.take_add_one, h, List.flatMap_append, List.append_assoc]; simp
theorem accP_all (L : List Pt) (keep n : Nat) (way : ByteArray) (f : List ByteArray × Nat) : accP L keep n way f (brs f).length = L ++ partsM keep (n + 1) way f := by
  unfold accP; rw [List.take_length]; rfl
theorem accP_len {keep n : Nat} {way : ByteArray} {f : List ByteArray × Nat} (L : List Pt) (hf : Fork f) (hn : 6 ≤ f.2 + (n + 1)) (a : Nat) : (accP L keep n way f a).length ≤ L.length + f.1.length := by
  have e := parts_len (keep := keep) (n + 1) (way := way) hf hn
  have h2 : partsM keep (n + 1) way f = (brs f).flatMap (hdsP keep n way) := rfl
  rw [h2, ← List.take_append_drop a (brs f), List.flatMap_append, List.length_append] at e
  unfold accP
  rw [List.length_append]
  omega
theorem hdsP_len {keep n : Nat} {way : ByteArray} {f : List ByteArray × Nat} (hf : Fork f) (hn : 6 ≤ f.2 + (n + 1)) {b : Br} (hb : b ∈ brs f) : (hdsP keep n way b).length = b.1.length := by
  have h := hdsB_len (keep := keep) (way := way) hf hn hb
  unfold hdsB at h
  rw [List.length_map] at h
  exact h
def boolD (b : Bool) : List D := [.s (.bool b)]
@[go_sem] theorem r_boolD (b : Bool) : boolD b = [.s (.bool b)] := rfl
def wRow (l : List Bool) : Obj := dRow 4 1 (l.map boolD)
@[go_sem] theorem r_wRow (l : List Bool) : wRow l = dRow 4 1 (l.map boolD) := rfl
abbrev boolsT (l : List Bool) : TV := .c (.d (.rs 1 (l.map boolD)))
def accW (L : List Pt) (keep n : Nat) (way : ByteArray) (f : List ByteArray × Nat) (a : Nat) : List Bool := (accP L keep n way f a).map Prod.snd
theorem accW_0 (L : List Pt) (keep n : Nat) (way : ByteArray) (f : List ByteArray × Nat) : accW L keep n way f 0 = L.map Prod.snd := by unfold accW; rw [accP_0]
theorem accW_succ {L : List Pt} {keep n : Nat} {way : ByteArray} {f : List ByteArray × Nat} {a : Nat} {x : Br} (h : (brs f)[a]? = some x) : accW L keep n way f (a + 1) = accW L keep n way f a ++ (hdsP keep n way x).map Prod.snd := by
  unfold accW; rw [accP_succ h, List.map_append]
structure WhI (f : List ByteArray × Nat) where
  a : Nat
  h : a ≤ (brs f).length
theorem l3Wholes_ac {keep : Nat} {ks : List ByteArray} {s : Sve} (h : SvIs keep ks s) : ∀ (n : Nat) (way : ByteArray) (f : List ByteArray × Nat) (j : Nat) (L : List Pt), (allF keep ks)[j]? = some f → Fork f → WayOk way f → f.2 + n = 6 → L.length + f.1.length ≤ 1000 →
    AC Tryz.prog 99 [sveP s, iT (offB keep ks j : Nat), iT (offB keep ks (j + 1) : Nat), .c (.h 0)] (hpL [some (wRow (L.map Prod.snd))]) 1 ⟨.t (.c (.h 1)), hpL [none, some (wRow ((L ++ partsM keep n way f).map Prod.snd))], 2⟩
  | 0, way, f, j, L, hj, hf, hw, hn, hl => by have := hf.dep; omega
  | n + 1, way, f, j, L, hj, hf, hw, hn, hl => by
    have ih := l3Wholes_ac h n
    have hdep := hf.dep
    have hbb := h.hb
    obtain ⟨z1, z2, z3⟩ := h.sizes
    have hlen : offB keep ks j + (brs f).length ≤ (allB keep ks).length := by rw [← off_next hj]; exact off_le _ _ _
    have hbr := fun t ht => br_at hj (t := t) ht
    have hacc := accP_len (keep := keep) (n := n) (way := way) L hf (by omega)
    rw [off_next hj, ← accP_all]
    have e9 : (accP L keep n way f (brs f).length).map Prod.snd = accW L keep n way f (brs f).length := rfl
    rw [e9]
    generalize offB keep ks j = o at *
    refine AC_of Tryz.func99 rfl Tryz.ntmps99 Tryz.results99 (by kernel_rfl) rfl ?_
    simp only [List.zipIdx, List.map, Nat.zero_add, Nat.reduceAdd]
    repeat (first | apply Aw_seq | apply Aw_block | apply Aw_skip | apply Aw_exit | refine Aw_condt rfl ?_ | refine Aw_condf rfl ?_ | ((first | refine qr ?_ | refine qd (by kernel_rfl) (by kernel_rfl) ?_); simp only [go_sem, jE, reduceIte, jA, jM, jS, jL, jD, jB]) | refine dk (by kernel_rfl) ?_)
    refine Aw.rw (rwL (l' := [(9, .t (iT ((o + 0 : Nat) : Int))), (4, .t (.c (.ph 1 0 0))), (3, .t (.c (.h 2))), (2, .t (iT ((o + (brs f).length : Nat) : Int)))]) (os := [none, some (svObj s), some (wRow (accW L keep n way f 0))]) (M := [0, 1, 0]) (n' := 3) (by repeat (first | exact trivial | refine ⟨rfl, rfl, ?_⟩)) (by rfl) (by simp only [go_sem, jE, reduceIte, jA, jM, jS, jL, jD, jB, accW_0]; first | done | rfl) (by decide) (by unfold idM; decide)) ?_
    refine Aw_loop_rw (ι := WhI f) (fun q => S [(9, .t (iT ((o + q.a : Nat) : Int))), (4, .t (.c (.ph 1 0 0))), (3, .t (.c (.h 2))), (2, .t (iT ((o + (brs f).length : Nat) : Int)))] (hpL [none, some (svObj s), some (wRow (accW L keep n way f q.a))]) 3) (fun q => (brs f).length - q.a) ⟨0, Nat.zero_le _⟩ ?_
    rintro ⟨a, ha⟩
    dsimp only
    by_cases hlt : a < (brs f).length
    · obtain ⟨x, hx⟩ : ∃ x, (brs f)[a]? = some x := ⟨_, List.getElem?_eq_getElem hlt⟩
      have hxm := List.mem_of_getElem? hx
      have hax := hbr a hlt
      rw [hx] at hax
      obtain ⟨x2, x3, y0, r0, x4, _⟩ := brs_mem hxm
      obtain ⟨hi2, e2⟩ := byteL_at h.hm (i := o + a) (b := bMore x) (by rw [List.getElem?_map, hax]; rfl)
      have h4 : ∀ hp, ixB hp s.more (o + a) = _ := fun hp => ixB_ok hi2
      have g1 : decide (((o + a : Nat) : Int) < ((o + (brs f).length : Nat) : Int)) = true := decide_eq_true (by omega)
      have g2 : decide (((o + a : Nat) : Int) < (s.letters.size : Int)) = true := decide_eq_true (by omega)
      have w : IntKind.i64.wrap (((o + a : Nat) : Int) + 1) = ((o + a + 1 : Nat) : Int) := wn (by omega) (by omega)
      have hsucc := accW_succ (L := L) (keep := keep) (n := n) (way := way) hx
      have hsc := accP_succ (L := L) (keep := keep) (n := n) (way := way) hx
      have hl1 := hacc (a + 1)
      have hl0 := hacc a
      have hwl : (accW L keep n way f a).length = (accP L keep n way f a).length := by unfold accW; rw [List.length_map]
      cases c2 : bMul x
      · have g4 : decide (((s.more[o + a]).toNat : Int) = 49) = false := by rw [e2]; unfold bMore; rw [c2]; rfl
        have k1 := l3Whole_ac h hax c2
        have hh : hdsP keep n way x = [(stepW way x ++ bCut keep x, whole keep x)] := by unfold hdsP; rw [c2]; rfl
        rw [hh] at hsucc
        have hsucc : accW L keep n way f (a + 1) = accW L keep n way f a ++ [whole keep x] := hsucc
        have q3 : (((accW L keep n way f a).length + 1) * 1 ≤ 140737488355328) = True := eq_true (by omega)
        have q4 : (((accW L keep n way f a).length + 1) ≤ 140737488355328) = True := eq_true (by omega)
        repeat (first | apply Aw_seq | apply Aw_block | apply Aw_skip | apply Aw_exit | refine Aw_condt rfl ?_ | refine Aw_condf rfl ?_ | ((first | refine qr ?_ | refine qd (by kernel_rfl) (by kernel_rfl) ?_); simp only [go_sem, jE, reduceIte, jA, jM, jS, jL, jD, jB, g1, g2, g4, h4, q3, q4, w]) | refine dk (by kernel_rfl) ?_ | (refine qp (k1) (by simp only [go_sem, jE, reduceIte, jA, jM, jS, jL, jD, jB, g1, g2, g4, h4, q3, q4, w]; first | done | rfl) rfl (by simp only [go_sem, Nat.reduceLT]) rfl rfl ?_; simp only [go_sem, jE, reduceIte, jA, jM, jS, jL, jD, jB, g1, g2, g4, h4, q3, q4, w]))
        refine ⟨⟨a + 1, by omega⟩, [0, 1, 22], ?_, rwL (by repeat (first | exact trivial | refine ⟨rfl, rfl, ?_⟩)) (by rfl) (by simp only [go_sem, jE, reduceIte, jA, jM, jS, jL, jD, jB, hsucc, List.map_append, List.map_cons, List.map_nil]; first | done | rfl) (by decide) (by unfold idM; decide)⟩
        show (brs f).length - (a + 1) < (brs f).length - a; omega
      · have g4 : decide (((s.more[o + a]).toNat : Int) = 49) = true := by rw [e2]; unfold bMore; rw [c2]; rfl
        have k1 := kids_ac h (b := o + a) (by omega)
        have hk := kid_at h.hf hax c2
        have hle : (accP L keep n way f a).length + (bKid x).1.length ≤ L.length + f.1.length := by
          rw [hsc, List.length_append, hdsP_len hf (by omega) hxm] at hl1
          exact hl1
        have k2 := ih (stepW way x) (bKid x) _ (accP L keep n way f a) hk (bKid_fork hf hxm c2) (way_kid hf hw hxm c2) (by show x.2 + 1 + n = 6; omega) (by omega)
        have hh : hdsP keep n way x = partsM keep n (stepW way x) (bKid x) := by unfold hdsP; rw [c2]; rfl
        rw [← hh, ← hsc] at k2
        have k2 : AC Tryz.prog 99 _ (hpL [some (wRow (accW L keep n way f a))]) 1 ⟨.t (.c (.h 1)), hpL [none, some (wRow (accW L keep n way f (a + 1)))], 2⟩ := k2
        generalize ((allB keep ks).take (o + a + 1)).countP bMul = m at *
        repeat (first | apply Aw_seq | apply Aw_block | apply Aw_skip | apply Aw_exit | refine Aw_condt rfl ?_ | refine Aw_condf rfl ?_ | ((first | refine qr ?_ | refine qd (by kernel_rfl) (by kernel_rfl) ?_); simp only [go_sem, jE, reduceIte, jA, jM, jS, jL, jD, jB, g1, g2, g4, h4, w]) | refine dk (by kernel_rfl) ?_ | (refine qp (k1) (by simp only [go_sem, jE, reduceIte, jA, jM, jS, jL, jD, jB, g1, g2, g4, h4, w]; first | done | rfl) rfl (by simp only [go_sem, Nat.reduceLT]) rfl rfl ?_; simp only [go_sem, jE, reduceIte, jA, jM, jS, jL, jD, jB, g1, g2, g4, h4, w]) | (refine qx (call_L (N' := [2]) (L := []) (k2) rfl (.cons (.nm rfl) (.cons (.nm rfl) (.cons (.nm rfl) (.cons (.nm rfl) (.nil))))) (by decide) (by decide) (by decide) (by simp only [go_sem, jE, reduceIte, jA, jM, jS, jL, jD, jB, g1, g2, g4, h4, w]; first | done | rfl) (.inl rfl) rfl (by decide)) (by simp only [go_sem, jE, reduceIte, jA, jM, jS, jL, jD, jB, g1, g2, g4, h4, w]; first | done | rfl) rfl (by simp only [go_sem, Nat.reduceLT]) ?_; simp only [go_sem, jE, reduceIte, jA, jM, jS, jL, jD, jB, g1, g2, g4, h4, w]))
        refine ⟨⟨a + 1, by omega⟩, [0, 1, 29], ?_, rwL (by repeat (first | exact trivial | refine ⟨rfl, rfl, ?_⟩)) (by rfl) (by simp only [go_sem, jE, reduceIte, jA, jM, jS, jL, jD, jB]; first | done | rfl) (by decide) (by unfold idM; decide)⟩
        show (brs f).length - (a + 1) < (brs f).length - a; omega
    · have ea : a = (brs f).length := by omega
      subst ea
      have g1 : decide (((o + (brs f).length : Nat) : Int) < ((o + (brs f).length : Nat) : Int)) = false := decide_eq_false (by omega)
      repeat (first | apply Aw_seq | apply Aw_block | apply Aw_skip | apply Aw_exit | refine Aw_condt rfl ?_ | refine Aw_condf rfl ?_ | ((first | refine qr ?_ | refine qd (by kernel_rfl) (by kernel_rfl) ?_); simp only [go_sem, jE, reduceIte, jA, jM, jS, jL, jD, jB, g1]) | refine dk (by kernel_rfl) ?_)
      exact Aw_ret (retL (M := [0, 2]) (.inl rfl) (by simp only [go_sem, jE, reduceIte, jA, jM, jS, jL, jD, jB]; first | done | rfl) rfl rfl (by rfl) (by simp only [go_sem, jE, reduceIte, jA, jM, jS, jL, jD, jB]; first | done | rfl | (and_intros <;> rfl)) (by decide) (by unfold idM; decide))
def ptD (p : Pt) : List D := [.s (.string p.1), .s (.bool p.2)]
@[go_sem] theorem r_ptD (p : Pt) : ptD p = [.s (.string p.1), .s (.bool p.2)] := rfl
def ptRow (l : List Pt) : Obj := dRow 151 2 (l.map ptD)
@[go_sem] theorem r_ptRow (l : List Pt) : ptRow l = dRow 151 2 (l.map ptD) := rfl
abbrev nlT : TV := .c (.d (.s (.slice none 0 0)))
abbrev ptsT (l : List Pt) : TV := .c (.d (.rs 2 (l.map ptD)))
theorem parts_ac {keep : Nat} {ks : List ByteArray} {s : Sve} (h : SvIs keep ks s) : ∀ (n : Nat) (way : ByteArray) (f : List ByteArray × Nat) (j : Nat) (L : List Pt), (allF keep ks)[j]? = some f → Fork f → WayOk way f → f.2 + n = 6 → L.length + f.1.length ≤ 1000 →
    AC Tryz.prog 166 [sveP s, iT j, sT way, .c (.h 0)] (hpL [some (ptRow L)]) 1 ⟨.tup [.c (.h 1), bT true], hpL [none, some (ptRow (L ++ partsM keep n way f))], 2⟩
  | 0, way, f, j, L, hj, hf, hw, hn, hl => by have := hf.dep; omega
  | n + 1, way, f, j, L, hj, hf, hw, hn, hl => by
    have ih := parts_ac h n
    have hdep := hf.dep
    have hbb := h.hb
    have hway : way.size = f.2 := by rw [size_l, hw.len]
    obtain ⟨z1, z2, z3⟩ := h.sizes
    have hlen : offB keep ks j + (brs f).length ≤ (allB keep ks).length := by rw [← off_next hj]; exact off_le _ _ _
    have hbr := fun t ht => br_at hj (t := t) ht
    have hkid := fun t x hx hm => off_kid h.hf hj (t := t) (x := x) hx hm
    have hacc := accP_len (keep := keep) (n := n) (way := way) L hf (by omega)
    have k0 := branches_ac h hj
    rw [← accP_all]
    generalize offB keep ks j = o at *
    have d5 : decide ((5 : Int) < (way.size : Int)) = false := decide_eq_false (by omega)
    refine AC_of Tryz.func166 rfl Tryz.ntmps166 Tryz.results166 (by kernel_rfl) rfl ?_
    simp only [List.zipIdx, List.map, Nat.zero_add, Nat.reduceAdd]
    repeat (first | apply Aw_seq | apply Aw_block | apply Aw_skip | apply Aw_exit | refine Aw_condt rfl ?_ | refine Aw_condf rfl ?_ | ((first | refine qr ?_ | refine qd (by kernel_rfl) (by kernel_rfl) ?_); simp only [go_sem, jE, reduceIte, jA, jM, jS, jL, jD, jB, d5]) | refine dk (by kernel_rfl) ?_ | (refine qp (k0) (by simp only [go_sem, jE, reduceIte, jA, jM, jS, jL, jD, jB, d5]; first | done | rfl) rfl (by simp only [go_sem, Nat.reduceLT]) rfl rfl ?_; simp only [go_sem, jE, reduceIte, jA, jM, jS, jL, jD, jB, d5]))
    refine Aw.rw (rwL (l' := [(12, .t (iT ((o + 0 : Nat) : Int))), (11, .t (iT ((o + (brs f).length : Nat) : Int))), (4, .t (.c (.ph 1 0 0))), (3, .t (.c (.h 2))), (2, .t (sT way))]) (os := [none, some (svObj s), some (ptRow (accP L keep n way f 0))]) (M := [0, 1, 0]) (n' := 3) (by repeat (first | exact trivial | refine ⟨rfl, rfl, ?_⟩)) (by rfl) (by simp only [go_sem, jE, reduceIte, jA, jM, jS, jL, jD, jB, accP_0]; first | done | rfl) (by decide) (by unfold idM; decide)) ?_
    refine Aw_loop_rw (ι := WhI f) (fun q => S [(12, .t (iT ((o + q.a : Nat) : Int))), (11, .t (iT ((o + (brs f).length : Nat) : Int))), (4, .t (.c (.ph 1 0 0))), (3, .t (.c (.h 2))), (2, .t (sT way))] (hpL [none, some (svObj s), some (ptRow (accP L keep n way f q.a))]) 3) (fun q => (brs f).length - q.a) ⟨0, Nat.zero_le _⟩ ?_
    rintro ⟨a, ha⟩
    dsimp only
    by_cases hlt : a < (brs f).length
    · obtain ⟨x, hx⟩ : ∃ x, (brs f)[a]? = some x := ⟨_, List.getElem?_eq_getElem hlt⟩
      have hxm := List.mem_of_getElem? hx
      have hax := hbr a hlt
      rw [hx] at hax
      obtain ⟨x2, x3, y0, r0, x4, _⟩ := brs_mem hxm
      obtain ⟨hi, e⟩ := byteL_at h.hl (i := o + a) (b := bLet x) (by rw [List.getElem?_map, hax]; rfl)
      obtain ⟨hi2, e2⟩ := byteL_at h.hm (i := o + a) (b := bMore x) (by rw [List.getElem?_map, hax]; rfl)
      have h3 : ∀ hp, ixB hp s.letters (o + a) = _ := fun hp => ixB_ok hi
      have h4 : ∀ hp, ixB hp s.more (o + a) = _ := fun hp => ixB_ok hi2
      have hext := ext_at e
      have g1 : decide (((o + a : Nat) : Int) < ((o + (brs f).length : Nat) : Int)) = true := decide_eq_true (by omega)
      have w : IntKind.i64.wrap (((o + a : Nat) : Int) + 1) = ((o + a + 1 : Nat) : Int) := wn (by omega) (by omega)
      have s1 : (((o + a : Nat) : Int) ≤ ((o + a + 1 : Nat) : Int)) = True := eq_true (by omega)
      have s2 : (((o + a + 1 : Nat) : Int) ≤ (s.letters.size : Int)) = True := eq_true (by omega)
      have hsucc := accP_succ (L := L) (keep := keep) (n := n) (way := way) hx
      have hl1 := hacc (a + 1)
      have hl0 := hacc a
      have q1 : (way.size + 1 ≤ 9223372036854775807) = True := eq_true (by omega)
      have hsz : (stepW way x).size ≤ 6 := by
        unfold stepW; split
        · omega
        · rw [size_l, app_l, List.length_append, bs_l, ← size_l]; simp; omega
      repeat (first | apply Aw_seq | apply Aw_block | apply Aw_skip | apply Aw_exit | refine Aw_condt rfl ?_ | refine Aw_condf rfl ?_ | ((first | refine qr ?_ | refine qd (by kernel_rfl) (by kernel_rfl) ?_); simp only [go_sem, jE, reduceIte, jA, jM, jS, jL, jD, jB, g1, h3]) | refine dk (by kernel_rfl) ?_)
      obtain ⟨W, hW⟩ : ∃ W, W = stepW way x := ⟨_, rfl⟩
      refine cut_seq (J := fun (_ : Unit) => S [(13, .t (sT W)), (12, .t (iT ((o + a : Nat) : Int))), (11, .t (iT ((o + (brs f).length : Nat) : Int))), (4, .t (.c (.ph 1 0 0))), (3, .t (.c (.h 2))), (2, .t (sT way))] (hpL [none, some (svObj s), some (ptRow (accP L keep n way f a))]) 3) ?_ ?_
      · by_cases c : bLet x = 45
        · have g4 : decide (((s.letters[o + a]).toNat : Int) = 45) = true := by rw [e, c]; rfl
          have hst : stepW way x = way := by unfold stepW; rw [if_pos c]
          rw [g4]
          rw [hst] at hW
          subst hW
          repeat (first | apply Aw_seq | apply Aw_block | apply Aw_skip | apply Aw_exit | refine Aw_condt rfl ?_ | refine Aw_condf rfl ?_ | ((first | refine qr ?_ | refine qd (by kernel_rfl) (by kernel_rfl) ?_); simp only [go_sem, jE, reduceIte, jA, jM, jS, jL, jD, jB, g4]) | refine dk (by kernel_rfl) ?_)
          refine ⟨rfl, ?_⟩
          exact ⟨(), [0, 1, 2], rwL (by repeat (first | exact trivial | refine ⟨rfl, rfl, ?_⟩)) (by rfl) (by simp only [go_sem, jE, reduceIte, jA, jM, jS, jL, jD, jB]; first | done | rfl) (by decide) (by unfold idM; decide)⟩
        · have g4 : decide (((s.letters[o + a]).toNat : Int) = 45) = false := decide_eq_false (fun h45 => c (by rw [← e]; exact UInt8.toNat_inj.1 (Int.ofNat.inj h45)))
          have hst : stepW way x = way ++ bs [bLet x] := by unfold stepW; rw [if_neg c]
          rw [hst] at hW
          subst hW
          rw [g4]
          repeat (first | apply Aw_seq | apply Aw_block | apply Aw_skip | apply Aw_exit | refine Aw_condt rfl ?_ | refine Aw_condf rfl ?_ | ((first | refine qr ?_ | refine qd (by kernel_rfl) (by kernel_rfl) ?_); simp only [go_sem, jE, reduceIte, jA, jM, jS, jL, jD, jB, g4, h3, w, s1, s2, hext, q1]) | refine dk (by kernel_rfl) ?_)
          exact ⟨(), [0, 1, 2], rwL (by repeat (first | exact trivial | refine ⟨rfl, rfl, ?_⟩)) (by rfl) (by simp only [go_sem, jE, reduceIte, jA, jM, jS, jL, jD, jB]; first | done | rfl) (by decide) (by unfold idM; decide)⟩
      intro _
      subst hW
      cases c2 : bMul x
      · have g4 : decide (((s.more[o + a]).toNat : Int) = 48) = true := by rw [e2]; unfold bMore; rw [c2]; rfl
        have k1 := rest_ac h hax c2
        have k2 := complete_ac h hax c2
        have hh : hdsP keep n way x = [(stepW way x ++ bCut keep x, whole keep x)] := by unfold hdsP; rw [c2]; rfl
        rw [hh] at hsucc
        have hcs : (bCut keep x).size ≤ 5 := by
          unfold bCut; rw [size_l, cut_l, List.length_take]; have := h.kp; omega
        have q2 : ((stepW way x).size + (bCut keep x).size ≤ 9223372036854775807) = True := eq_true (by omega)
        have q3 : (((accP L keep n way f a).length + 1) * 24 ≤ 140737488355328) = True := eq_true (by omega)
        repeat (first | apply Aw_seq | apply Aw_block | apply Aw_skip | apply Aw_exit | refine Aw_condt rfl ?_ | refine Aw_condf rfl ?_ | ((first | refine qr ?_ | refine qd (by kernel_rfl) (by kernel_rfl) ?_); simp only [go_sem, jE, reduceIte, jA, jM, jS, jL, jD, jB, g4, h4, q2, q3, w]) | refine dk (by kernel_rfl) ?_ | (refine qp (k1) (by simp only [go_sem, jE, reduceIte, jA, jM, jS, jL, jD, jB, g4, h4, q2, q3, w]; first | done | rfl) rfl (by simp only [go_sem, Nat.reduceLT]) rfl rfl ?_; simp only [go_sem, jE, reduceIte, jA, jM, jS, jL, jD, jB, g4, h4, q2, q3, w]) | (refine qp (k2) (by simp only [go_sem, jE, reduceIte, jA, jM, jS, jL, jD, jB, g4, h4, q2, q3, w]; first | done | rfl) rfl (by simp only [go_sem, Nat.reduceLT]) rfl rfl ?_; simp only [go_sem, jE, reduceIte, jA, jM, jS, jL, jD, jB, g4, h4, q2, q3, w]))
        refine ⟨⟨a + 1, by omega⟩, [0, 1, 17], ?_, rwL (by repeat (first | exact trivial | refine ⟨rfl, rfl, ?_⟩)) (by rfl) (by simp only [go_sem, jE, reduceIte, jA, jM, jS, jL, jD, jB, hsucc, List.map_append, List.map_cons, List.map_nil]; first | done | rfl) (by decide) (by unfold idM; decide)⟩
        show (brs f).length - (a + 1) < (brs f).length - a; omega
      · have g4 : decide (((s.more[o + a]).toNat : Int) = 48) = false := by rw [e2]; unfold bMore; rw [c2]; rfl
        have k1 := node_ac h (b := o + a) (by omega)
        have hk := kid_at h.hf hax c2
        have ha1 := hkid a x hx c2
        have hle : (accP L keep n way f a).length + (bKid x).1.length ≤ L.length + f.1.length := by
          rw [hsucc, List.length_append, hdsP_len hf (by omega) hxm] at hl1
          exact hl1
        have k2 := branches_ac h hk
        have k3 := ih (stepW way x) (bKid x) _ (accP L keep n way f a) hk (bKid_fork hf hxm c2) (way_kid hf hw hxm c2) (by show x.2 + 1 + n = 6; omega) (by omega)
        have hh : hdsP keep n way x = partsM keep n (stepW way x) (bKid x) := by unfold hdsP; rw [c2]; rfl
        rw [← hh, ← hsucc] at k3
        have h45 := bMul_45 hf hxm c2
        have g6 : decide (((s.letters[o + a]).toNat : Int) = 45) = false := decide_eq_false (fun hq => h45 (by rw [← e]; exact UInt8.toNat_inj.1 (Int.ofNat.inj hq)))
        generalize ((allB keep ks).take (o + a + 1)).countP bMul = m at *
        generalize offB keep ks m = o2 at *
        have g5 : decide (((o2 : Nat) : Int) ≤ ((o + a : Nat) : Int)) = false := decide_eq_false (by omega)
        repeat (first | apply Aw_seq | apply Aw_block | apply Aw_skip | apply Aw_exit | refine Aw_condt rfl ?_ | refine Aw_condf rfl ?_ | ((first | refine qr ?_ | refine qd (by kernel_rfl) (by kernel_rfl) ?_); simp only [go_sem, jE, reduceIte, jA, jM, jS, jL, jD, jB, g4, h4, h3, g5, g6, w]) | refine dk (by kernel_rfl) ?_ | (refine qp (k1) (by simp only [go_sem, jE, reduceIte, jA, jM, jS, jL, jD, jB, g4, h4, h3, g5, g6, w]; first | done | rfl) rfl (by simp only [go_sem, Nat.reduceLT]) rfl rfl ?_; simp only [go_sem, jE, reduceIte, jA, jM, jS, jL, jD, jB, g4, h4, h3, g5, g6, w]) | (refine qp (k2) (by simp only [go_sem, jE, reduceIte, jA, jM, jS, jL, jD, jB, g4, h4, h3, g5, g6, w]; first | done | rfl) rfl (by simp only [go_sem, Nat.reduceLT]) rfl rfl ?_; simp only [go_sem, jE, reduceIte, jA, jM, jS, jL, jD, jB, g4, h4, h3, g5, g6, w]) | (refine qx (call_L (N' := [2]) (L := []) (k3) rfl (.cons (.nm rfl) (.cons (.nm rfl) (.cons (.nm rfl) (.cons (.nm rfl) (.nil))))) (by decide) (by decide) (by decide) (by simp only [go_sem, jE, reduceIte, jA, jM, jS, jL, jD, jB, g4, h4, h3, g5, g6, w]; first | done | rfl) (.inl rfl) rfl (by decide)) (by simp only [go_sem, jE, reduceIte, jA, jM, jS, jL, jD, jB, g4, h4, h3, g5, g6, w]; first | done | rfl) rfl (by simp only [go_sem, Nat.reduceLT]) ?_; simp only [go_sem, jE, reduceIte, jA, jM, jS, jL, jD, jB, g4, h4, h3, g5, g6, w]))
        refine ⟨⟨a + 1, by omega⟩, [0, 1, 31], ?_, rwL (by repeat (first | exact trivial | refine ⟨rfl, rfl, ?_⟩)) (by rfl) (by simp only [go_sem, jE, reduceIte, jA, jM, jS, jL, jD, jB]; first | done | rfl) (by decide) (by unfold idM; decide)⟩
        show (brs f).length - (a + 1) < (brs f).length - a; omega
    · have ea : a = (brs f).length := by omega
      subst ea
      have g1 : decide (((o + (brs f).length : Nat) : Int) < ((o + (brs f).length : Nat) : Int)) = false := decide_eq_false (by omega)
      repeat (first | apply Aw_seq | apply Aw_block | apply Aw_skip | apply Aw_exit | refine Aw_condt rfl ?_ | refine Aw_condf rfl ?_ | ((first | refine qr ?_ | refine qd (by kernel_rfl) (by kernel_rfl) ?_); simp only [go_sem, jE, reduceIte, jA, jM, jS, jL, jD, jB, g1]) | refine dk (by kernel_rfl) ?_)
      exact Aw_ret (retL (M := [0, 2]) (.inl rfl) (by simp only [go_sem, jE, reduceIte, jA, jM, jS, jL, jD, jB]; first | done | rfl) rfl rfl (by rfl) (by simp only [go_sem, jE, reduceIte, jA, jM, jS, jL, jD, jB]; first | done | rfl | (and_intros <;> rfl)) (by decide) (by unfold idM; decide))
theorem partsTop_ac {keep : Nat} {ks : List ByteArray} {s : Sve} (h : SvIs keep ks s) (n : Nat) (way : ByteArray) (f : List ByteArray × Nat) (j : Nat) (hj : (allF keep ks)[j]? = some f) (hf : Fork f) (hw : WayOk way f) (hn : f.2 + (n + 1) = 6) (hl : f.1.length ≤ 1000) :
    AC Tryz.prog 166 [sveP s, iT j, sT way, nlT] noHp 0 ⟨.tup [.c (.h 0), bT true], hpL [some (ptRow (partsM keep (n + 1) way f))], 1⟩ := by
    have ih := parts_ac h n
    obtain ⟨L, hL⟩ : ∃ L : List Pt, L = [] := ⟨_, rfl⟩
    have hl : L.length + f.1.length ≤ 1000 := by rw [hL]; simpa using hl
    have e8 : partsM keep (n + 1) way f = L ++ partsM keep (n + 1) way f := by rw [hL]; rfl
    rw [e8]
    have hdep := hf.dep
    have hbb := h.hb
    have hway : way.size = f.2 := by rw [size_l, hw.len]
    obtain ⟨z1, z2, z3⟩ := h.sizes
    have hlen : offB keep ks j + (brs f).length ≤ (allB keep ks).length := by rw [← off_next hj]; exact off_le _ _ _
    have hbr := fun t ht => br_at hj (t := t) ht
    have hkid := fun t x hx hm => off_kid h.hf hj (t := t) (x := x) hx hm
    have hacc := accP_len (keep := keep) (n := n) (way := way) L hf (by omega)
    have k0 := branches_ac h hj
    rw [← accP_all]
    generalize offB keep ks j = o at *
    have d5 : decide ((5 : Int) < (way.size : Int)) = false := decide_eq_false (by omega)
    refine AC_of Tryz.func166 rfl Tryz.ntmps166 Tryz.results166 (by kernel_rfl) rfl ?_
    simp only [List.zipIdx, List.map, Nat.zero_add, Nat.reduceAdd]
    repeat (first | apply Aw_seq | apply Aw_block | apply Aw_skip | apply Aw_exit | refine Aw_condt rfl ?_ | refine Aw_condf rfl ?_ | ((first | refine qr ?_ | refine qd (by kernel_rfl) (by kernel_rfl) ?_); simp only [go_sem, jE, reduceIte, jA, jM, jS, jL, jD, jB, d5]) | refine dk (by kernel_rfl) ?_ | (refine qp (k0) (by simp only [go_sem, jE, reduceIte, jA, jM, jS, jL, jD, jB, d5]; first | done | rfl) rfl (by simp only [go_sem, Nat.reduceLT]) rfl rfl ?_; simp only [go_sem, jE, reduceIte, jA, jM, jS, jL, jD, jB, d5]))
    refine Aw.own (t := 3) (e := 151) (j := 2) rfl (by decide) (by simp only [Nat.reduceAdd]; rfl) ?_
    refine Aw.rw (rwL (l' := [(12, .t (iT ((o + 0 : Nat) : Int))), (11, .t (iT ((o + (brs f).length : Nat) : Int))), (4, .t (.c (.ph 0 0 0))), (3, .t (.c (.h 1))), (2, .t (sT way))]) (os := [some (svObj s), some (ptRow (accP L keep n way f 0))]) (M := [0, 15]) (n' := 2) (by repeat (first | exact trivial | refine ⟨rfl, rfl, ?_⟩)) (by rfl) (by simp only [go_sem, jE, reduceIte, jA, jM, jS, jL, jD, jB, accP_0, hL, List.map_nil]; first | done | rfl) (by decide) (by unfold idM; decide)) ?_
    refine Aw_loop_rw (ι := WhI f) (fun q => S [(12, .t (iT ((o + q.a : Nat) : Int))), (11, .t (iT ((o + (brs f).length : Nat) : Int))), (4, .t (.c (.ph 0 0 0))), (3, .t (.c (.h 1))), (2, .t (sT way))] (hpL [some (svObj s), some (ptRow (accP L keep n way f q.a))]) 2) (fun q => (brs f).length - q.a) ⟨0, Nat.zero_le _⟩ ?_
    rintro ⟨a, ha⟩
    dsimp only
    by_cases hlt : a < (brs f).length
    · obtain ⟨x, hx⟩ : ∃ x, (brs f)[a]? = some x := ⟨_, List.getElem?_eq_getElem hlt⟩
      have hxm := List.mem_of_getElem? hx
      have hax := hbr a hlt
      rw [hx] at hax
      obtain ⟨x2, x3, y0, r0, x4, _⟩ := brs_mem hxm
      obtain ⟨hi, e⟩ := byteL_at h.hl (i := o + a) (b := bLet x) (by rw [List.getElem?_map, hax]; rfl)
      obtain ⟨hi2, e2⟩ := byteL_at h.hm (i := o + a) (b := bMore x) (by rw [List.getElem?_map, hax]; rfl)
      have h3 : ∀ hp, ixB hp s.letters (o + a) = _ := fun hp => ixB_ok hi
      have h4 : ∀ hp, ixB hp s.more (o + a) = _ := fun hp => ixB_ok hi2
      have hext := ext_at e
      have g1 : decide (((o + a : Nat) : Int) < ((o + (brs f).length : Nat) : Int)) = true := decide_eq_true (by omega)
      have w : IntKind.i64.wrap (((o + a : Nat) : Int) + 1) = ((o + a + 1 : Nat) : Int) := wn (by omega) (by omega)
      have s1 : (((o + a : Nat) : Int) ≤ ((o + a + 1 : Nat) : Int)) = True := eq_true (by omega)
      have s2 : (((o + a + 1 : Nat) : Int) ≤ (s.letters.size : Int)) = True := eq_true (by omega)
      have hsucc := accP_succ (L := L) (keep := keep) (n := n) (way := way) hx
      have hl1 := hacc (a + 1)
      have hl0 := hacc a
      have q1 : (way.size + 1 ≤ 9223372036854775807) = True := eq_true (by omega)
      have hsz : (stepW way x).size ≤ 6 := by
        unfold stepW; split
        · omega
        · rw [size_l, app_l, List.length_append, bs_l, ← size_l]; simp; omega
      repeat (first | apply Aw_seq | apply Aw_block | apply Aw_skip | apply Aw_exit | refine Aw_condt rfl ?_ | refine Aw_condf rfl ?_ | ((first | refine qr ?_ | refine qd (by kernel_rfl) (by kernel_rfl) ?_); simp only [go_sem, jE, reduceIte, jA, jM, jS, jL, jD, jB, g1, h3]) | refine dk (by kernel_rfl) ?_)
      obtain ⟨W, hW⟩ : ∃ W, W = stepW way x := ⟨_, rfl⟩
      refine cut_seq (J := fun (_ : Unit) => S [(13, .t (sT W)), (12, .t (iT ((o + a : Nat) : Int))), (11, .t (iT ((o + (brs f).length : Nat) : Int))), (4, .t (.c (.ph 0 0 0))), (3, .t (.c (.h 1))), (2, .t (sT way))] (hpL [some (svObj s), some (ptRow (accP L keep n way f a))]) 2) ?_ ?_
      · by_cases c : bLet x = 45
        · have g4 : decide (((s.letters[o + a]).toNat : Int) = 45) = true := by rw [e, c]; rfl
          have hst : stepW way x = way := by unfold stepW; rw [if_pos c]
          rw [g4]
          rw [hst] at hW
          subst hW
          repeat (first | apply Aw_seq | apply Aw_block | apply Aw_skip | apply Aw_exit | refine Aw_condt rfl ?_ | refine Aw_condf rfl ?_ | ((first | refine qr ?_ | refine qd (by kernel_rfl) (by kernel_rfl) ?_); simp only [go_sem, jE, reduceIte, jA, jM, jS, jL, jD, jB, g4]) | refine dk (by kernel_rfl) ?_)
          refine ⟨rfl, ?_⟩
          exact ⟨(), [0, 1], rwL (by repeat (first | exact trivial | refine ⟨rfl, rfl, ?_⟩)) (by rfl) (by simp only [go_sem, jE, reduceIte, jA, jM, jS, jL, jD, jB]; first | done | rfl) (by decide) (by unfold idM; decide)⟩
        · have g4 : decide (((s.letters[o + a]).toNat : Int) = 45) = false := decide_eq_false (fun h45 => c (by rw [← e]; exact UInt8.toNat_inj.1 (Int.ofNat.inj h45)))
          have hst : stepW way x = way ++ bs [bLet x] := by unfold stepW; rw [if_neg c]
          rw [hst] at hW
          subst hW
          rw [g4]
          repeat (first | apply Aw_seq | apply Aw_block | apply Aw_skip | apply Aw_exit | refine Aw_condt rfl ?_ | refine Aw_condf rfl ?_ | ((first | refine qr ?_ | refine qd (by kernel_rfl) (by kernel_rfl) ?_); simp only [go_sem, jE, reduceIte, jA, jM, jS, jL, jD, jB, g4, h3, w, s1, s2, hext, q1]) | refine dk (by kernel_rfl) ?_)
          exact ⟨(), [0, 1], rwL (by repeat (first | exact trivial | refine ⟨rfl, rfl, ?_⟩)) (by rfl) (by simp only [go_sem, jE, reduceIte, jA, jM, jS, jL, jD, jB]; first | done | rfl) (by decide) (by unfold idM; decide)⟩
      intro _
      subst hW
      cases c2 : bMul x
      · have g4 : decide (((s.more[o + a]).toNat : Int) = 48) = true := by rw [e2]; unfold bMore; rw [c2]; rfl
        have k1 := rest_ac h hax c2
        have k2 := complete_ac h hax c2
        have hh : hdsP keep n way x = [(stepW way x ++ bCut keep x, whole keep x)] := by unfold hdsP; rw [c2]; rfl
        rw [hh] at hsucc
        have hcs : (bCut keep x).size ≤ 5 := by
          unfold bCut; rw [size_l, cut_l, List.length_take]; have := h.kp; omega
        have q2 : ((stepW way x).size + (bCut keep x).size ≤ 9223372036854775807) = True := eq_true (by omega)
        have q3 : (((accP L keep n way f a).length + 1) * 24 ≤ 140737488355328) = True := eq_true (by omega)
        repeat (first | apply Aw_seq | apply Aw_block | apply Aw_skip | apply Aw_exit | refine Aw_condt rfl ?_ | refine Aw_condf rfl ?_ | ((first | refine qr ?_ | refine qd (by kernel_rfl) (by kernel_rfl) ?_); simp only [go_sem, jE, reduceIte, jA, jM, jS, jL, jD, jB, g4, h4, q2, q3, w]) | refine dk (by kernel_rfl) ?_ | (refine qp (k1) (by simp only [go_sem, jE, reduceIte, jA, jM, jS, jL, jD, jB, g4, h4, q2, q3, w]; first | done | rfl) rfl (by simp only [go_sem, Nat.reduceLT]) rfl rfl ?_; simp only [go_sem, jE, reduceIte, jA, jM, jS, jL, jD, jB, g4, h4, q2, q3, w]) | (refine qp (k2) (by simp only [go_sem, jE, reduceIte, jA, jM, jS, jL, jD, jB, g4, h4, q2, q3, w]; first | done | rfl) rfl (by simp only [go_sem, Nat.reduceLT]) rfl rfl ?_; simp only [go_sem, jE, reduceIte, jA, jM, jS, jL, jD, jB, g4, h4, q2, q3, w]))
        refine ⟨⟨a + 1, by omega⟩, [0, 16], ?_, rwL (by repeat (first | exact trivial | refine ⟨rfl, rfl, ?_⟩)) (by rfl) (by simp only [go_sem, jE, reduceIte, jA, jM, jS, jL, jD, jB, hsucc, List.map_append, List.map_cons, List.map_nil]; first | done | rfl) (by decide) (by unfold idM; decide)⟩
        show (brs f).length - (a + 1) < (brs f).length - a; omega
      · have g4 : decide (((s.more[o + a]).toNat : Int) = 48) = false := by rw [e2]; unfold bMore; rw [c2]; rfl
        have k1 := node_ac h (b := o + a) (by omega)
        have hk := kid_at h.hf hax c2
        have ha1 := hkid a x hx c2
        have hle : (accP L keep n way f a).length + (bKid x).1.length ≤ L.length + f.1.length := by
          rw [hsucc, List.length_append, hdsP_len hf (by omega) hxm] at hl1
          exact hl1
        have k2 := branches_ac h hk
        have k3 := ih (stepW way x) (bKid x) _ (accP L keep n way f a) hk (bKid_fork hf hxm c2) (way_kid hf hw hxm c2) (by show x.2 + 1 + n = 6; omega) (by omega)
        have hh : hdsP keep n way x = partsM keep n (stepW way x) (bKid x) := by unfold hdsP; rw [c2]; rfl
        rw [← hh, ← hsucc] at k3
        have h45 := bMul_45 hf hxm c2
        have g6 : decide (((s.letters[o + a]).toNat : Int) = 45) = false := decide_eq_false (fun hq => h45 (by rw [← e]; exact UInt8.toNat_inj.1 (Int.ofNat.inj hq)))
        generalize ((allB keep ks).take (o + a + 1)).countP bMul = m at *
        generalize offB keep ks m = o2 at *
        have g5 : decide (((o2 : Nat) : Int) ≤ ((o + a : Nat) : Int)) = false := decide_eq_false (by omega)
        repeat (first | apply Aw_seq | apply Aw_block | apply Aw_skip | apply Aw_exit | refine Aw_condt rfl ?_ | refine Aw_condf rfl ?_ | ((first | refine qr ?_ | refine qd (by kernel_rfl) (by kernel_rfl) ?_); simp only [go_sem, jE, reduceIte, jA, jM, jS, jL, jD, jB, g4, h4, h3, g5, g6, w]) | refine dk (by kernel_rfl) ?_ | (refine qp (k1) (by simp only [go_sem, jE, reduceIte, jA, jM, jS, jL, jD, jB, g4, h4, h3, g5, g6, w]; first | done | rfl) rfl (by simp only [go_sem, Nat.reduceLT]) rfl rfl ?_; simp only [go_sem, jE, reduceIte, jA, jM, jS, jL, jD, jB, g4, h4, h3, g5, g6, w]) | (refine qp (k2) (by simp only [go_sem, jE, reduceIte, jA, jM, jS, jL, jD, jB, g4, h4, h3, g5, g6, w]; first | done | rfl) rfl (by simp only [go_sem, Nat.reduceLT]) rfl rfl ?_; simp only [go_sem, jE, reduceIte, jA, jM, jS, jL, jD, jB, g4, h4, h3, g5, g6, w]) | (refine qx (call_L (N' := [1]) (L := []) (k3) rfl (.cons (.nm rfl) (.cons (.nm rfl) (.cons (.nm rfl) (.cons (.nm rfl) (.nil))))) (by decide) (by decide) (by decide) (by simp only [go_sem, jE, reduceIte, jA, jM, jS, jL, jD, jB, g4, h4, h3, g5, g6, w]; first | done | rfl) (.inl rfl) rfl (by decide)) (by simp only [go_sem, jE, reduceIte, jA, jM, jS, jL, jD, jB, g4, h4, h3, g5, g6, w]; first | done | rfl) rfl (by simp only [go_sem, Nat.reduceLT]) ?_; simp only [go_sem, jE, reduceIte, jA, jM, jS, jL, jD, jB, g4, h4, h3, g5, g6, w]))
        refine ⟨⟨a + 1, by omega⟩, [0, 30], ?_, rwL (by repeat (first | exact trivial | refine ⟨rfl, rfl, ?_⟩)) (by rfl) (by simp only [go_sem, jE, reduceIte, jA, jM, jS, jL, jD, jB]; first | done | rfl) (by decide) (by unfold idM; decide)⟩
        show (brs f).length - (a + 1) < (brs f).length - a; omega
    · have ea : a = (brs f).length := by omega
      subst ea
      have g1 : decide (((o + (brs f).length : Nat) : Int) < ((o + (brs f).length : Nat) : Int)) = false := decide_eq_false (by omega)
      repeat (first | apply Aw_seq | apply Aw_block | apply Aw_skip | apply Aw_exit | refine Aw_condt rfl ?_ | refine Aw_condf rfl ?_ | ((first | refine qr ?_ | refine qd (by kernel_rfl) (by kernel_rfl) ?_); simp only [go_sem, jE, reduceIte, jA, jM, jS, jL, jD, jB, g1]) | refine dk (by kernel_rfl) ?_)
      exact Aw_ret (retL (M := [1]) (.inl rfl) (by simp only [go_sem, jE, reduceIte, jA, jM, jS, jL, jD, jB]; first | done | rfl) rfl rfl (by rfl) (by simp only [go_sem, jE, reduceIte, jA, jM, jS, jL, jD, jB]; first | done | rfl | (and_intros <;> rfl)) (by decide) (by unfold idM; decide))
theorem runKeysS_ac (r : List Ent) (hs : SmR r) : AC Tryz.prog 105 [runT r] noHp 0 ⟨.t (strsT (if runOk r = true then keysM r else [])), noHp, 0⟩ := AC.settle0 [0] (runKeys_ac r hs) (SetC.row0 rfl rfl) rfl
def upTo (s : Sto) (i : Nat) : List Ent := s.top ++ (s.levels.take i).flatten
def iAt (s : Sto) (i : Nat) : Bool := match s.levels[i]?, s.sieves[i]? with
  | some r, some x => lvM s.keep i r x && newerM (upTo s i) r && !decide (0 ≤ lateI s (upTo s i))
  | _, _ => true
def storeI (s : Sto) : Bool := headM s && allI 3 (iAt s)
abbrev stSl (s : Sto) (i : Nat) (up : List Ent) : List (Nat × AV) := [(49, .t (iT (i : Nat))), (48, .t (iT s.levels.length)), (47, .t (.c (.d (.rs 1 (s.levels.map lvD))))), (3, .t (runT up)), (1, .t (.c (.ph 0 0 0)))]
structure StI (s : Sto) where
  i : Nat
  up : List Ent
  hi : i ≤ 3
  hu : up = upTo s i
  hl : up.length ≤ 4 + 24 * i
  hp : ∀ j, j < i → iAt s j = true
theorem storeOk_ac (s : Sto) (hs : SmSt s) : AC Tryz.prog 65 [stT s] noHp 0 ⟨.t (bT (storeI s)), noHp, 0⟩ := by
  refine AC_of Tryz.func65 rfl Tryz.ntmps65 Tryz.results65 (by kernel_rfl) rfl ?_
  simp only [List.zipIdx, List.map, Nat.zero_add, Nat.reduceAdd]
  cases c1 : decide ((s.levels.length : Int) = 3)
  · repeat (first | apply Aw_seq | apply Aw_block | apply Aw_skip | apply Aw_exit | refine Aw_condt rfl ?_ | refine Aw_condf rfl ?_ | ((first | refine qr ?_ | refine qd (by kernel_rfl) (by kernel_rfl) ?_); simp only [go_sem, jE, reduceIte, jA, jM, jS, jL, jD, jB, c1]) | refine dk (by kernel_rfl) ?_)
    exact Aw_ret (ret0 (.inl rfl) (by simp only [go_sem, jE, reduceIte, jA, jM, jS, jL, jD, jB]; rfl) (by unfold storeI headM; rw [decide_eq_false (by have := of_decide_eq_false c1; omega : ¬ s.levels.length = 3)]; rfl) rfl)
  cases c2 : decide ((s.sieves.length : Int) = 3)
  · repeat (first | apply Aw_seq | apply Aw_block | apply Aw_skip | apply Aw_exit | refine Aw_condt rfl ?_ | refine Aw_condf rfl ?_ | ((first | refine qr ?_ | refine qd (by kernel_rfl) (by kernel_rfl) ?_); simp only [go_sem, jE, reduceIte, jA, jM, jS, jL, jD, jB, c1, c2]) | refine dk (by kernel_rfl) ?_)
    exact Aw_ret (ret0 (.inl rfl) (by simp only [go_sem, jE, reduceIte, jA, jM, jS, jL, jD, jB]; rfl) (by unfold storeI headM; rw [decide_eq_false (by have := of_decide_eq_false c2; omega : ¬ s.sieves.length = 3)]; simp) rfl)
  cases c3 : runOk s.top
  · repeat (first | apply Aw_seq | apply Aw_block | apply Aw_skip | apply Aw_exit | refine Aw_condt rfl ?_ | refine Aw_condf rfl ?_ | ((first | refine qr ?_ | refine qd (by kernel_rfl) (by kernel_rfl) ?_); simp only [go_sem, jE, reduceIte, jA, jM, jS, jL, jD, jB, c1, c2, c3]) | refine dk (by kernel_rfl) ?_ | (refine qp (runOk_ac _ hs.top) (by simp only [go_sem, jE, reduceIte, jA, jM, jS, jL, jD, jB, c1, c2, c3]; first | done | rfl) rfl (by simp only [go_sem, Nat.reduceLT]) rfl rfl ?_; simp only [go_sem, jE, reduceIte, jA, jM, jS, jL, jD, jB, c1, c2, c3]))
    exact Aw_ret (ret0 (.inl rfl) (by simp only [go_sem, jE, reduceIte, jA, jM, jS, jL, jD, jB]; rfl) (by unfold storeI headM; simp [c3]) rfl)
  cases c4 : decide ((4 : Int) < (s.top.length : Int))
  case true =>
    repeat (first | apply Aw_seq | apply Aw_block | apply Aw_skip | apply Aw_exit | refine Aw_condt rfl ?_ | refine Aw_condf rfl ?_ | ((first | refine qr ?_ | refine qd (by kernel_rfl) (by kernel_rfl) ?_); simp only [go_sem, jE, reduceIte, jA, jM, jS, jL, jD, jB, c1, c2, c3, c4]) | refine dk (by kernel_rfl) ?_ | (refine qp (runOk_ac _ hs.top) (by simp only [go_sem, jE, reduceIte, jA, jM, jS, jL, jD, jB, c1, c2, c3, c4]; first | done | rfl) rfl (by simp only [go_sem, Nat.reduceLT]) rfl rfl ?_; simp only [go_sem, jE, reduceIte, jA, jM, jS, jL, jD, jB, c1, c2, c3, c4]))
    exact Aw_ret (ret0 (.inl rfl) (by simp only [go_sem, jE, reduceIte, jA, jM, jS, jL, jD, jB]; rfl) (by unfold storeI headM; rw [decide_eq_false (by have := of_decide_eq_true c4; omega : ¬ s.top.length ≤ 4)]; simp) rfl)
  cases c5 : inB 0 s.time 999
  · repeat (first | apply Aw_seq | apply Aw_block | apply Aw_skip | apply Aw_exit | refine Aw_condt rfl ?_ | refine Aw_condf rfl ?_ | ((first | refine qr ?_ | refine qd (by kernel_rfl) (by kernel_rfl) ?_); simp only [go_sem, jE, reduceIte, jA, jM, jS, jL, jD, jB, c1, c2, c3, c4, c5]) | refine dk (by kernel_rfl) ?_ | (refine qp (runOk_ac _ hs.top) (by simp only [go_sem, jE, reduceIte, jA, jM, jS, jL, jD, jB, c1, c2, c3, c4, c5]; first | done | rfl) rfl (by simp only [go_sem, Nat.reduceLT]) rfl rfl ?_; simp only [go_sem, jE, reduceIte, jA, jM, jS, jL, jD, jB, c1, c2, c3, c4, c5]) | (refine qp (in_ac _ _ _) (by simp only [go_sem, jE, reduceIte, jA, jM, jS, jL, jD, jB, c1, c2, c3, c4, c5]; first | done | rfl) rfl (by simp only [go_sem, Nat.reduceLT]) rfl rfl ?_; simp only [go_sem, jE, reduceIte, jA, jM, jS, jL, jD, jB, c1, c2, c3, c4, c5]))
    exact Aw_ret (ret0 (.inl rfl) (by simp only [go_sem, jE, reduceIte, jA, jM, jS, jL, jD, jB]; rfl) (by unfold storeI headM; simp [c5]) rfl)
  cases c6 : timesM s.times s.time
  · repeat (first | apply Aw_seq | apply Aw_block | apply Aw_skip | apply Aw_exit | refine Aw_condt rfl ?_ | refine Aw_condf rfl ?_ | ((first | refine qr ?_ | refine qd (by kernel_rfl) (by kernel_rfl) ?_); simp only [go_sem, jE, reduceIte, jA, jM, jS, jL, jD, jB, c1, c2, c3, c4, c5, c6]) | refine dk (by kernel_rfl) ?_ | (refine qp (runOk_ac _ hs.top) (by simp only [go_sem, jE, reduceIte, jA, jM, jS, jL, jD, jB, c1, c2, c3, c4, c5, c6]; first | done | rfl) rfl (by simp only [go_sem, Nat.reduceLT]) rfl rfl ?_; simp only [go_sem, jE, reduceIte, jA, jM, jS, jL, jD, jB, c1, c2, c3, c4, c5, c6]) | (refine qp (in_ac _ _ _) (by simp only [go_sem, jE, reduceIte, jA, jM, jS, jL, jD, jB, c1, c2, c3, c4, c5, c6]; first | done | rfl) rfl (by simp only [go_sem, Nat.reduceLT]) rfl rfl ?_; simp only [go_sem, jE, reduceIte, jA, jM, jS, jL, jD, jB, c1, c2, c3, c4, c5, c6]) | (refine qp (timesOk_ac _ _ hs.tl) (by simp only [go_sem, jE, reduceIte, jA, jM, jS, jL, jD, jB, c1, c2, c3, c4, c5, c6]; first | done | rfl) rfl (by simp only [go_sem, Nat.reduceLT]) rfl rfl ?_; simp only [go_sem, jE, reduceIte, jA, jM, jS, jL, jD, jB, c1, c2, c3, c4, c5, c6]))
    exact Aw_ret (ret0 (.inl rfl) (by simp only [go_sem, jE, reduceIte, jA, jM, jS, jL, jD, jB]; rfl) (by unfold storeI headM; simp [c6]) rfl)
  have hh : headM s = true := by
    have d1 := of_decide_eq_true c1; have d2 := of_decide_eq_true c2; have d4 := of_decide_eq_false c4
    unfold headM
    rw [decide_eq_true (by omega : s.levels.length = 3), decide_eq_true (by omega : s.sieves.length = 3), decide_eq_true (by omega : s.top.length ≤ 4), c3, c5, c6]; rfl
  repeat (first | apply Aw_seq | apply Aw_block | apply Aw_skip | apply Aw_exit | refine Aw_condt rfl ?_ | refine Aw_condf rfl ?_ | ((first | refine qr ?_ | refine qd (by kernel_rfl) (by kernel_rfl) ?_); simp only [go_sem, jE, reduceIte, jA, jM, jS, jL, jD, jB, c1, c2, c3, c4, c5, c6]) | refine dk (by kernel_rfl) ?_ | (refine qp (runOk_ac _ hs.top) (by simp only [go_sem, jE, reduceIte, jA, jM, jS, jL, jD, jB, c1, c2, c3, c4, c5, c6]; first | done | rfl) rfl (by simp only [go_sem, Nat.reduceLT]) rfl rfl ?_; simp only [go_sem, jE, reduceIte, jA, jM, jS, jL, jD, jB, c1, c2, c3, c4, c5, c6]) | (refine qp (in_ac _ _ _) (by simp only [go_sem, jE, reduceIte, jA, jM, jS, jL, jD, jB, c1, c2, c3, c4, c5, c6]; first | done | rfl) rfl (by simp only [go_sem, Nat.reduceLT]) rfl rfl ?_; simp only [go_sem, jE, reduceIte, jA, jM, jS, jL, jD, jB, c1, c2, c3, c4, c5, c6]) | (refine qp (timesOk_ac _ _ hs.tl) (by simp only [go_sem, jE, reduceIte, jA, jM, jS, jL, jD, jB, c1, c2, c3, c4, c5, c6]; first | done | rfl) rfl (by simp only [go_sem, Nat.reduceLT]) rfl rfl ?_; simp only [go_sem, jE, reduceIte, jA, jM, jS, jL, jD, jB, c1, c2, c3, c4, c5, c6]))
  have d1 : s.levels.length = 3 := by have := of_decide_eq_true c1; omega
  have d2 : s.sieves.length = 3 := by have := of_decide_eq_true c2; omega
  have d4 : s.top.length ≤ 4 := by have := of_decide_eq_false c4; omega
  refine Aw.rw (rwL (l' := stSl s 0 s.top) (os := [some (stO s)]) (M := [0]) (n' := 1) (by repeat (first | exact trivial | refine ⟨rfl, rfl, ?_⟩)) (by rfl) (by simp only [go_sem, jE, reduceIte, jA, jM, jS, jL, jD, jB]; first | done | rfl) (by decide) (by unfold idM; decide)) ?_
  refine Aw_loop_rw (ι := StI s) (fun p => S (stSl s p.i p.up) (hpL [some (stO s)]) 1) (fun p => 3 - p.i) ⟨0, s.top, by omega, by simp [upTo], by omega, fun j hj => absurd hj (by omega)⟩ ?_
  rintro ⟨i, up, hi, hu, hl, hp⟩
  dsimp only
  by_cases hlt : i < 3
  · have h1 : (i : Int) < (s.levels.length : Int) := by omega
    have h2 := wrap_succ (m := 3) hlt (by omega)
    obtain ⟨r, hr⟩ : ∃ r, s.levels[i]? = some r := ⟨_, List.getElem?_eq_getElem (by omega)⟩
    obtain ⟨x, hx⟩ : ∃ x, s.sieves[i]? = some x := ⟨_, List.getElem?_eq_getElem (by omega)⟩
    have hsr := hs.lev r (List.mem_of_getElem? hr)
    have hsx := hs.rl x (List.mem_of_getElem? hx)
    have hat : iAt s i = (lvM s.keep i r x && newerM up r && !decide (0 ≤ lateI s up)) := by unfold iAt; rw [hr, hx, ← hu]
    have bad : iAt s i = false → storeI s = false := fun h => by unfold storeI; rw [allI_f (i := i) hlt h, Bool.and_false]
    have k1 := runKeysS_ac r hsr
    have k3 := runOk_ac r hsr
    have k4 := room_ac i (by omega)
    cases a1 : runOk r
    · rw [a1] at k1 k3
      rw [if_neg (by decide)] at k1
      have k2 := sieveS_ac [] s.keep ⟨by simp, by simp⟩
      rw [bad (by rw [hat]; unfold lvM; rw [a1]; rfl)]
      repeat (first | apply Aw_seq | apply Aw_block | apply Aw_skip | apply Aw_exit | refine Aw_condt rfl ?_ | refine Aw_condf rfl ?_ | ((first | refine qr ?_ | refine qd (by kernel_rfl) (by kernel_rfl) ?_); simp only [go_sem, jE, reduceIte, jA, jM, jS, jL, jD, jB, h1, hr]) | refine dk (by kernel_rfl) ?_ | (refine qp (k1) (by simp only [go_sem, jE, reduceIte, jA, jM, jS, jL, jD, jB, h1, hr]; first | done | rfl) rfl (by simp only [go_sem, Nat.reduceLT]) rfl rfl ?_; simp only [go_sem, jE, reduceIte, jA, jM, jS, jL, jD, jB, h1, hr]) | (refine qp (k2) (by simp only [go_sem, jE, reduceIte, jA, jM, jS, jL, jD, jB, h1, hr]; first | done | rfl) rfl (by simp only [go_sem, Nat.reduceLT]) rfl rfl ?_; simp only [go_sem, jE, reduceIte, jA, jM, jS, jL, jD, jB, h1, hr]) | (refine qp (k3) (by simp only [go_sem, jE, reduceIte, jA, jM, jS, jL, jD, jB, h1, hr]; first | done | rfl) rfl (by simp only [go_sem, Nat.reduceLT]) rfl rfl ?_; simp only [go_sem, jE, reduceIte, jA, jM, jS, jL, jD, jB, h1, hr]))
      exact Aw_ret (ret0 (.inl rfl) (by simp only [go_sem, jE, reduceIte, jA, jM, jS, jL, jD, jB]; rfl) (by rfl) rfl)
    rw [a1] at k1 k3
    rw [if_pos rfl] at k1
    have k2 := sieveS_ac (keysM r) s.keep (smS_keys hsr)
    cases a2 : decide (((8 * (i + 1) : Nat) : Int) < (r.length : Int))
    case true =>
      rw [bad (by rw [hat]; unfold lvM; rw [decide_eq_false (by have := of_decide_eq_true a2; omega : ¬ r.length ≤ 8 * (i + 1))]; simp)]
      repeat (first | apply Aw_seq | apply Aw_block | apply Aw_skip | apply Aw_exit | refine Aw_condt rfl ?_ | refine Aw_condf rfl ?_ | ((first | refine qr ?_ | refine qd (by kernel_rfl) (by kernel_rfl) ?_); simp only [go_sem, jE, reduceIte, jA, jM, jS, jL, jD, jB, h1, hr, a2]) | refine dk (by kernel_rfl) ?_ | (refine qp (k1) (by simp only [go_sem, jE, reduceIte, jA, jM, jS, jL, jD, jB, h1, hr, a2]; first | done | rfl) rfl (by simp only [go_sem, Nat.reduceLT]) rfl rfl ?_; simp only [go_sem, jE, reduceIte, jA, jM, jS, jL, jD, jB, h1, hr, a2]) | (refine qp (k2) (by simp only [go_sem, jE, reduceIte, jA, jM, jS, jL, jD, jB, h1, hr, a2]; first | done | rfl) rfl (by simp only [go_sem, Nat.reduceLT]) rfl rfl ?_; simp only [go_sem, jE, reduceIte, jA, jM, jS, jL, jD, jB, h1, hr, a2]) | (refine qp (k3) (by simp only [go_sem, jE, reduceIte, jA, jM, jS, jL, jD, jB, h1, hr, a2]; first | done | rfl) rfl (by simp only [go_sem, Nat.reduceLT]) rfl rfl ?_; simp only [go_sem, jE, reduceIte, jA, jM, jS, jL, jD, jB, h1, hr, a2]) | (refine qp (k4) (by simp only [go_sem, jE, reduceIte, jA, jM, jS, jL, jD, jB, h1, hr, a2]; first | done | rfl) rfl (by simp only [go_sem, Nat.reduceLT]) rfl rfl ?_; simp only [go_sem, jE, reduceIte, jA, jM, jS, jL, jD, jB, h1, hr, a2]))
      exact Aw_ret (ret0 (.inl rfl) (by simp only [go_sem, jE, reduceIte, jA, jM, jS, jL, jD, jB]; rfl) (by rfl) rfl)
    have hrl : r.length ≤ 8 * (i + 1) := by have := of_decide_eq_false a2; omega
    cases a3 : (sieveM (keysM r) s.keep).isSome
    · rw [a3] at k2
      rw [bad (by rw [hat]; unfold lvM; rw [a3]; simp)]
      repeat (first | apply Aw_seq | apply Aw_block | apply Aw_skip | apply Aw_exit | refine Aw_condt rfl ?_ | refine Aw_condf rfl ?_ | ((first | refine qr ?_ | refine qd (by kernel_rfl) (by kernel_rfl) ?_); simp only [go_sem, jE, reduceIte, jA, jM, jS, jL, jD, jB, h1, hr, a2]) | refine dk (by kernel_rfl) ?_ | (refine qp (k1) (by simp only [go_sem, jE, reduceIte, jA, jM, jS, jL, jD, jB, h1, hr, a2]; first | done | rfl) rfl (by simp only [go_sem, Nat.reduceLT]) rfl rfl ?_; simp only [go_sem, jE, reduceIte, jA, jM, jS, jL, jD, jB, h1, hr, a2]) | (refine qp (k2) (by simp only [go_sem, jE, reduceIte, jA, jM, jS, jL, jD, jB, h1, hr, a2]; first | done | rfl) rfl (by simp only [go_sem, Nat.reduceLT]) rfl rfl ?_; simp only [go_sem, jE, reduceIte, jA, jM, jS, jL, jD, jB, h1, hr, a2]) | (refine qp (k3) (by simp only [go_sem, jE, reduceIte, jA, jM, jS, jL, jD, jB, h1, hr, a2]; first | done | rfl) rfl (by simp only [go_sem, Nat.reduceLT]) rfl rfl ?_; simp only [go_sem, jE, reduceIte, jA, jM, jS, jL, jD, jB, h1, hr, a2]) | (refine qp (k4) (by simp only [go_sem, jE, reduceIte, jA, jM, jS, jL, jD, jB, h1, hr, a2]; first | done | rfl) rfl (by simp only [go_sem, Nat.reduceLT]) rfl rfl ?_; simp only [go_sem, jE, reduceIte, jA, jM, jS, jL, jD, jB, h1, hr, a2]))
      exact Aw_ret (ret0 (.inl rfl) (by simp only [go_sem, jE, reduceIte, jA, jM, jS, jL, jD, jB]; rfl) (by rfl) rfl)
    rw [a3] at k2
    obtain ⟨y, hy⟩ : ∃ y, y = (sieveM (keysM r) s.keep).getD zSve := ⟨_, rfl⟩
    rw [← hy] at k2
    have k5 := same_ac y x (by
      rw [hy]
      cases hm : sieveM (keysM r) s.keep with
      | none => simp [zSve]
      | some z => exact sieveM_len hm)
    cases a4 : sveEq y x
    · rw [a4] at k5
      rw [bad (by rw [hat]; unfold lvM; rw [← hy, a4]; simp)]
      repeat (first | apply Aw_seq | apply Aw_block | apply Aw_skip | apply Aw_exit | refine Aw_condt rfl ?_ | refine Aw_condf rfl ?_ | ((first | refine qr ?_ | refine qd (by kernel_rfl) (by kernel_rfl) ?_); simp only [go_sem, jE, reduceIte, jA, jM, jS, jL, jD, jB, h1, hr, hx, a2]) | refine dk (by kernel_rfl) ?_ | (refine qp (k1) (by simp only [go_sem, jE, reduceIte, jA, jM, jS, jL, jD, jB, h1, hr, hx, a2]; first | done | rfl) rfl (by simp only [go_sem, Nat.reduceLT]) rfl rfl ?_; simp only [go_sem, jE, reduceIte, jA, jM, jS, jL, jD, jB, h1, hr, hx, a2]) | (refine qp (k2) (by simp only [go_sem, jE, reduceIte, jA, jM, jS, jL, jD, jB, h1, hr, hx, a2]; first | done | rfl) rfl (by simp only [go_sem, Nat.reduceLT]) rfl rfl ?_; simp only [go_sem, jE, reduceIte, jA, jM, jS, jL, jD, jB, h1, hr, hx, a2]) | (refine qp (k3) (by simp only [go_sem, jE, reduceIte, jA, jM, jS, jL, jD, jB, h1, hr, hx, a2]; first | done | rfl) rfl (by simp only [go_sem, Nat.reduceLT]) rfl rfl ?_; simp only [go_sem, jE, reduceIte, jA, jM, jS, jL, jD, jB, h1, hr, hx, a2]) | (refine qp (k4) (by simp only [go_sem, jE, reduceIte, jA, jM, jS, jL, jD, jB, h1, hr, hx, a2]; first | done | rfl) rfl (by simp only [go_sem, Nat.reduceLT]) rfl rfl ?_; simp only [go_sem, jE, reduceIte, jA, jM, jS, jL, jD, jB, h1, hr, hx, a2]) | (refine qp (k5) (by simp only [go_sem, jE, reduceIte, jA, jM, jS, jL, jD, jB, h1, hr, hx, a2]; first | done | rfl) rfl (by simp only [go_sem, Nat.reduceLT]) rfl rfl ?_; simp only [go_sem, jE, reduceIte, jA, jM, jS, jL, jD, jB, h1, hr, hx, a2]))
      exact Aw_ret (ret0 (.inl rfl) (by simp only [go_sem, jE, reduceIte, jA, jM, jS, jL, jD, jB]; rfl) (by rfl) rfl)
    rw [a4] at k5
    have hlv : lvM s.keep i r x = true := by unfold lvM; rw [← hy, a1, a3, a4, decide_eq_true hrl]; rfl
    have k6 := newer_ac up r (by omega) hsr.len
    cases a5 : newerM up r
    · rw [a5] at k6
      rw [bad (by rw [hat, a5]; simp)]
      repeat (first | apply Aw_seq | apply Aw_block | apply Aw_skip | apply Aw_exit | refine Aw_condt rfl ?_ | refine Aw_condf rfl ?_ | ((first | refine qr ?_ | refine qd (by kernel_rfl) (by kernel_rfl) ?_); simp only [go_sem, jE, reduceIte, jA, jM, jS, jL, jD, jB, h1, hr, hx, a2]) | refine dk (by kernel_rfl) ?_ | (refine qp (k1) (by simp only [go_sem, jE, reduceIte, jA, jM, jS, jL, jD, jB, h1, hr, hx, a2]; first | done | rfl) rfl (by simp only [go_sem, Nat.reduceLT]) rfl rfl ?_; simp only [go_sem, jE, reduceIte, jA, jM, jS, jL, jD, jB, h1, hr, hx, a2]) | (refine qp (k2) (by simp only [go_sem, jE, reduceIte, jA, jM, jS, jL, jD, jB, h1, hr, hx, a2]; first | done | rfl) rfl (by simp only [go_sem, Nat.reduceLT]) rfl rfl ?_; simp only [go_sem, jE, reduceIte, jA, jM, jS, jL, jD, jB, h1, hr, hx, a2]) | (refine qp (k3) (by simp only [go_sem, jE, reduceIte, jA, jM, jS, jL, jD, jB, h1, hr, hx, a2]; first | done | rfl) rfl (by simp only [go_sem, Nat.reduceLT]) rfl rfl ?_; simp only [go_sem, jE, reduceIte, jA, jM, jS, jL, jD, jB, h1, hr, hx, a2]) | (refine qp (k4) (by simp only [go_sem, jE, reduceIte, jA, jM, jS, jL, jD, jB, h1, hr, hx, a2]; first | done | rfl) rfl (by simp only [go_sem, Nat.reduceLT]) rfl rfl ?_; simp only [go_sem, jE, reduceIte, jA, jM, jS, jL, jD, jB, h1, hr, hx, a2]) | (refine qp (k5) (by simp only [go_sem, jE, reduceIte, jA, jM, jS, jL, jD, jB, h1, hr, hx, a2]; first | done | rfl) rfl (by simp only [go_sem, Nat.reduceLT]) rfl rfl ?_; simp only [go_sem, jE, reduceIte, jA, jM, jS, jL, jD, jB, h1, hr, hx, a2]) | (refine qp (k6) (by simp only [go_sem, jE, reduceIte, jA, jM, jS, jL, jD, jB, h1, hr, hx, a2]; first | done | rfl) rfl (by simp only [go_sem, Nat.reduceLT]) rfl rfl ?_; simp only [go_sem, jE, reduceIte, jA, jM, jS, jL, jD, jB, h1, hr, hx, a2]))
      exact Aw_ret (ret0 (.inl rfl) (by simp only [go_sem, jE, reduceIte, jA, jM, jS, jL, jD, jB]; rfl) (by rfl) rfl)
    rw [a5] at k6
    have k7 := hasLate_ac s up (by omega)
    cases a6 : decide (0 ≤ lateI s up)
    case true =>
      rw [a6] at k7
      rw [bad (by rw [hat, a6]; simp)]
      repeat (first | apply Aw_seq | apply Aw_block | apply Aw_skip | apply Aw_exit | refine Aw_condt rfl ?_ | refine Aw_condf rfl ?_ | ((first | refine qr ?_ | refine qd (by kernel_rfl) (by kernel_rfl) ?_); simp only [go_sem, jE, reduceIte, jA, jM, jS, jL, jD, jB, h1, hr, hx, a2]) | refine dk (by kernel_rfl) ?_ | (refine qp (k1) (by simp only [go_sem, jE, reduceIte, jA, jM, jS, jL, jD, jB, h1, hr, hx, a2]; first | done | rfl) rfl (by simp only [go_sem, Nat.reduceLT]) rfl rfl ?_; simp only [go_sem, jE, reduceIte, jA, jM, jS, jL, jD, jB, h1, hr, hx, a2]) | (refine qp (k2) (by simp only [go_sem, jE, reduceIte, jA, jM, jS, jL, jD, jB, h1, hr, hx, a2]; first | done | rfl) rfl (by simp only [go_sem, Nat.reduceLT]) rfl rfl ?_; simp only [go_sem, jE, reduceIte, jA, jM, jS, jL, jD, jB, h1, hr, hx, a2]) | (refine qp (k3) (by simp only [go_sem, jE, reduceIte, jA, jM, jS, jL, jD, jB, h1, hr, hx, a2]; first | done | rfl) rfl (by simp only [go_sem, Nat.reduceLT]) rfl rfl ?_; simp only [go_sem, jE, reduceIte, jA, jM, jS, jL, jD, jB, h1, hr, hx, a2]) | (refine qp (k4) (by simp only [go_sem, jE, reduceIte, jA, jM, jS, jL, jD, jB, h1, hr, hx, a2]; first | done | rfl) rfl (by simp only [go_sem, Nat.reduceLT]) rfl rfl ?_; simp only [go_sem, jE, reduceIte, jA, jM, jS, jL, jD, jB, h1, hr, hx, a2]) | (refine qp (k5) (by simp only [go_sem, jE, reduceIte, jA, jM, jS, jL, jD, jB, h1, hr, hx, a2]; first | done | rfl) rfl (by simp only [go_sem, Nat.reduceLT]) rfl rfl ?_; simp only [go_sem, jE, reduceIte, jA, jM, jS, jL, jD, jB, h1, hr, hx, a2]) | (refine qp (k6) (by simp only [go_sem, jE, reduceIte, jA, jM, jS, jL, jD, jB, h1, hr, hx, a2]; first | done | rfl) rfl (by simp only [go_sem, Nat.reduceLT]) rfl rfl ?_; simp only [go_sem, jE, reduceIte, jA, jM, jS, jL, jD, jB, h1, hr, hx, a2]) | (refine qx (call_L (N' := [0]) (L := []) (k7) rfl (.cons (.nm rfl) (.cons (.nm rfl) (.nil))) (by decide) (by decide) (by decide) (by simp only [go_sem, jE, reduceIte, jA, jM, jS, jL, jD, jB, h1, hr, hx, a2]; first | done | rfl) (.inl rfl) rfl (by decide)) (by simp only [go_sem, jE, reduceIte, jA, jM, jS, jL, jD, jB, h1, hr, hx, a2]; first | done | rfl) rfl (by simp only [go_sem, Nat.reduceLT]) ?_; simp only [go_sem, jE, reduceIte, jA, jM, jS, jL, jD, jB, h1, hr, hx, a2]))
      exact Aw_ret (ret0 (.inl rfl) (by simp only [go_sem, jE, reduceIte, jA, jM, jS, jL, jD, jB]; rfl) (by rfl) rfl)
    rw [a6] at k7
    have hok : iAt s i = true := by rw [hat, hlv, a5, a6]; rfl
    have k8 := concatS_ac up r (by omega) (by omega)
    repeat (first | apply Aw_seq | apply Aw_block | apply Aw_skip | apply Aw_exit | refine Aw_condt rfl ?_ | refine Aw_condf rfl ?_ | ((first | refine qr ?_ | refine qd (by kernel_rfl) (by kernel_rfl) ?_); simp only [go_sem, jE, reduceIte, jA, jM, jS, jL, jD, jB, h1, hr, hx, a2, h2]) | refine dk (by kernel_rfl) ?_ | (refine qp (k1) (by simp only [go_sem, jE, reduceIte, jA, jM, jS, jL, jD, jB, h1, hr, hx, a2, h2]; first | done | rfl) rfl (by simp only [go_sem, Nat.reduceLT]) rfl rfl ?_; simp only [go_sem, jE, reduceIte, jA, jM, jS, jL, jD, jB, h1, hr, hx, a2, h2]) | (refine qp (k2) (by simp only [go_sem, jE, reduceIte, jA, jM, jS, jL, jD, jB, h1, hr, hx, a2, h2]; first | done | rfl) rfl (by simp only [go_sem, Nat.reduceLT]) rfl rfl ?_; simp only [go_sem, jE, reduceIte, jA, jM, jS, jL, jD, jB, h1, hr, hx, a2, h2]) | (refine qp (k3) (by simp only [go_sem, jE, reduceIte, jA, jM, jS, jL, jD, jB, h1, hr, hx, a2, h2]; first | done | rfl) rfl (by simp only [go_sem, Nat.reduceLT]) rfl rfl ?_; simp only [go_sem, jE, reduceIte, jA, jM, jS, jL, jD, jB, h1, hr, hx, a2, h2]) | (refine qp (k4) (by simp only [go_sem, jE, reduceIte, jA, jM, jS, jL, jD, jB, h1, hr, hx, a2, h2]; first | done | rfl) rfl (by simp only [go_sem, Nat.reduceLT]) rfl rfl ?_; simp only [go_sem, jE, reduceIte, jA, jM, jS, jL, jD, jB, h1, hr, hx, a2, h2]) | (refine qp (k5) (by simp only [go_sem, jE, reduceIte, jA, jM, jS, jL, jD, jB, h1, hr, hx, a2, h2]; first | done | rfl) rfl (by simp only [go_sem, Nat.reduceLT]) rfl rfl ?_; simp only [go_sem, jE, reduceIte, jA, jM, jS, jL, jD, jB, h1, hr, hx, a2, h2]) | (refine qp (k6) (by simp only [go_sem, jE, reduceIte, jA, jM, jS, jL, jD, jB, h1, hr, hx, a2, h2]; first | done | rfl) rfl (by simp only [go_sem, Nat.reduceLT]) rfl rfl ?_; simp only [go_sem, jE, reduceIte, jA, jM, jS, jL, jD, jB, h1, hr, hx, a2, h2]) | (refine qx (call_L (N' := [0]) (L := []) (k7) rfl (.cons (.nm rfl) (.cons (.nm rfl) (.nil))) (by decide) (by decide) (by decide) (by simp only [go_sem, jE, reduceIte, jA, jM, jS, jL, jD, jB, h1, hr, hx, a2, h2]; first | done | rfl) (.inl rfl) rfl (by decide)) (by simp only [go_sem, jE, reduceIte, jA, jM, jS, jL, jD, jB, h1, hr, hx, a2, h2]; first | done | rfl) rfl (by simp only [go_sem, Nat.reduceLT]) ?_; simp only [go_sem, jE, reduceIte, jA, jM, jS, jL, jD, jB, h1, hr, hx, a2, h2]) | (refine qx (call_L (N' := [46]) (L := []) (k8) rfl (.cons (.nm rfl) (.nil)) (by decide) (by decide) (by decide) (by simp only [go_sem, jE, reduceIte, jA, jM, jS, jL, jD, jB, h1, hr, hx, a2, h2]; first | done | rfl) (.inl rfl) rfl (by decide)) (by simp only [go_sem, jE, reduceIte, jA, jM, jS, jL, jD, jB, h1, hr, hx, a2, h2]; first | done | rfl) rfl (by simp only [go_sem, Nat.reduceLT]) ?_; simp only [go_sem, jE, reduceIte, jA, jM, jS, jL, jD, jB, h1, hr, hx, a2, h2]))
    simp only [← List.map_append]
    refine ⟨⟨i + 1, up ++ r, by omega, by rw [hu]; unfold upTo; rw [List.take_succ, hr, List.flatten_append, List.append_assoc]; simp, by rw [List.length_append]; omega, fun j hj => by rcases Nat.lt_succ_iff_lt_or_eq.1 hj with h | rfl; exact hp j h; exact hok⟩, [0], ?_, rwL (by repeat (first | exact trivial | refine ⟨rfl, rfl, ?_⟩)) (by rfl) (by simp only [go_sem, jE, reduceIte, jA, jM, jS, jL, jD, jB]; first | done | rfl) (by decide) (by unfold idM; decide)⟩
    show 3 - (i + 1) < 3 - i; omega
  · obtain rfl : i = 3 := by omega
    have h1 : ¬ ((3 : Nat) : Int) < (s.levels.length : Int) := by omega
    have hall : storeI s = true := by unfold storeI; rw [hh, allI_t hp]; rfl
    rw [hall]
    repeat (first | apply Aw_seq | apply Aw_block | apply Aw_skip | apply Aw_exit | refine Aw_condt rfl ?_ | refine Aw_condf rfl ?_ | ((first | refine qr ?_ | refine qd (by kernel_rfl) (by kernel_rfl) ?_); simp only [go_sem, jE, reduceIte, jA, jM, jS, jL, jD, jB, h1]) | refine dk (by kernel_rfl) ?_)
    exact Aw_ret (ret0 (.inl rfl) (by simp only [go_sem, jE, reduceIte, jA, jM, jS, jL, jD, jB]; rfl) (by rfl) rfl)
open Go
theorem before_trans {a b c : Ent} (h : before a b = true) (k : before b c = true) : before a c = true := by
  unfold before at *
  simp only [Bool.or_eq_true, Bool.and_eq_true, decide_eq_true_eq] at *
  rcases h with h | ⟨h1, h2⟩ <;> rcases k with k | ⟨k1, k2⟩
  · exact .inl (klt_trans h k)
  · exact .inl (k1 ▸ h)
  · exact .inl (h1 ▸ k)
  · exact .inr ⟨h1.trans k1, by omega⟩
theorem run_pw {r : List Ent} (h : runOk r = true) : r.Pairwise (fun a b => before a b = true) ∧ (∀ e ∈ r, entOk e = true) ∧ r.length ≤ 40 := by
  unfold runOk at h
  rw [Bool.and_eq_true] at h
  have h1 := allI_iff.1 h.1
  have hk : ∀ e ∈ r, entOk e = true := fun e he => by
    obtain ⟨i, hi⟩ := List.mem_iff_getElem?.1 he
    have := h1 i (List.getElem?_eq_some_iff.1 hi).1
    unfold okAt at this; rw [hi] at this; simp only [Bool.and_eq_true] at this; exact this.1
  have hadj : ∀ j p k, r[j]? = some p → r[j + 1]? = some k → before p k = true := fun j p k hp hk => by
    have := h1 (j + 1) (List.getElem?_eq_some_iff.1 hk).1
    unfold okAt at this; rw [hk] at this; simp only [hp, Bool.and_eq_true] at this; exact this.2
  refine ⟨?_, hk, by simpa using h.2⟩
  rw [List.pairwise_iff_getElem]
  intro i j hi hj hij
  have key : ∀ d i (h1 : i < r.length) (h2 : i + d + 1 < r.length), before r[i] r[i + d + 1] = true := by
    intro d
    induction d with
    | zero => intro i h1 h2; exact hadj i _ _ (List.getElem?_eq_getElem h1) (List.getElem?_eq_getElem h2)
    | succ d ih =>
      intro i h1 h2
      exact before_trans (ih i h1 (by omega)) (hadj (i + d + 1) _ _ (List.getElem?_eq_getElem (by omega)) (List.getElem?_eq_getElem h2))
  have := key (j - i - 1) i hi (by omega)
  simpa [show i + (j - i - 1) + 1 = j by omega] using this
theorem entOk_time {e : Ent} (h : entOk e = true) : 1 ≤ e.time ∧ e.time ≤ 999 := by
  unfold entOk inB at h
  simp only [Bool.and_eq_true, decide_eq_true_eq] at h
  exact h.2
/-- What is found at the last time is the newest of its key. -/
theorem at_newest : ∀ {b : List Ent}, b.Pairwise (fun a b => before a b = true) → (∀ e ∈ b, e.time ≤ 999) → ∀ x : Ent, (match atM b x.key 999 with
    | some q => !decide (x.time ≤ q.time)
    | none => true) = b.all fun y => !older x y
  | [], _, _, x => rfl
  | y :: b, hp, ht, x => by
    rw [List.pairwise_cons] at hp
    have hy := ht y (by simp)
    unfold atM
    by_cases e : y.key = x.key
    · rw [List.find?_cons_of_pos (by simp [hit, e, hy])]
      simp only [List.all_cons]
      have h1 : older x y = decide (x.time ≤ y.time) := by unfold older; simp [e]
      rw [h1]
      cases hd : decide (x.time ≤ y.time) with
      | true => rfl
      | false =>
        have hgt := of_decide_eq_false hd
        have : (b.all fun z => !older x z) = true := by
          rw [List.all_eq_true]
          intro z hz
          have hb := hp.1 z hz
          unfold older
          unfold before at hb
          simp only [Bool.or_eq_true, Bool.and_eq_true, decide_eq_true_eq] at hb
          rcases hb with hb | ⟨_, hb⟩
          · have : x.key ≠ z.key := fun e2 => by rw [e, e2, klt_irrefl] at hb; cases hb
            simp [this]
          · have : ¬ x.time ≤ z.time := by omega
            simp [this]
        rw [this]; rfl
    · rw [List.find?_cons_of_neg (by simp [hit, e])]
      have ih := at_newest hp.2 (fun e he => ht e (by simp [he])) x
      unfold atM at ih
      rw [ih, List.all_cons]
      have h1 : older x y = false := by unfold older; rw [decide_eq_false (fun h : x.key = y.key => e h.symm)]; rfl
      rw [h1]; rfl
theorem nwAt_eq {b : List Ent} {now : Int} (hp : b.Pairwise (fun a b => before a b = true)) (ht : ∀ e ∈ b, e.time ≤ 999) (x : Ent) : nwAt b now x = (!decide (now < x.time) && b.all fun y => !older x y) := by
  have h := at_newest hp ht x
  unfold nwAt
  cases hA : atM b x.key 999 with
  | none => rw [hA] at h; simp only [] at h ⊢; rw [← h]
  | some q => rw [hA] at h; simp only [] at h ⊢; rw [← h]
theorem newest_iff {a b : List Ent} {now : Int} (hb : runOk b = true) : newestM a b now = true ↔ (∀ x ∈ a, x.time ≤ now) ∧ newerM a b = true := by
  obtain ⟨h1, h2, _⟩ := run_pw hb
  unfold newestM newerM
  rw [List.all_eq_true, List.all_eq_true]
  constructor
  · intro h
    refine ⟨fun x hx => ?_, fun x hx => ?_⟩
    · have := h x hx; rw [nwAt_eq h1 (fun e he => (entOk_time (h2 e he)).2) x] at this; simp only [Bool.and_eq_true, Bool.not_eq_true', decide_eq_false_iff_not] at this; omega
    · have := h x hx
      rw [nwAt_eq h1 (fun e he => (entOk_time (h2 e he)).2) x, Bool.and_eq_true] at this
      exact this.2
  · rintro ⟨h, k⟩ x hx
    rw [nwAt_eq h1 (fun e he => (entOk_time (h2 e he)).2) x, k x hx, Bool.and_true, Bool.not_eq_true', decide_eq_false_iff_not]
    have := h x hx; omega
theorem newer_app {a b c : List Ent} : newerM (a ++ b) c = (newerM a c && newerM b c) := by unfold newerM; rw [List.all_append]
theorem late_iff {s : Sto} {r : List Ent} : decide (0 ≤ lateI s r) = false ↔ ∀ x ∈ r, x.time ≤ s.time := by
  rw [decide_eq_false_iff_not]
  unfold lateI
  cases h : r.findIdx? (fun e => decide (s.time < e.time)) with
  | none =>
    rw [List.findIdx?_eq_none_iff] at h
    simp only []
    exact ⟨fun _ x hx => by have := h x hx; simp at this; omega, fun _ => by omega⟩
  | some i =>
    simp only []
    rw [List.findIdx?_eq_some_iff_getElem] at h
    obtain ⟨hi, h1, _⟩ := h
    constructor
    · intro h; omega
    · intro h2
      have := h2 _ (List.getElem_mem hi)
      simp at h1; omega
theorem lv_run {keep : Int} {i : Nat} {r : List Ent} {x : Sve} (h : lvM keep i r x = true) : runOk r = true ∧ inB 0 keep 5 = true := by
  unfold lvM at h
  simp only [Bool.and_eq_true] at h
  refine ⟨h.1.1.1, ?_⟩
  have := h.1.2
  unfold sieveM at this
  split at this
  · rename_i hc; exact hc.2
  · cases this
theorem allI3 (p : Nat → Bool) : allI 3 p = (p 0 && (p 1 && p 2)) := by
  unfold allI
  show (List.range 3).all p = _
  rw [show List.range 3 = [0, 1, 2] from rfl]
  simp
theorem store_eq (s : Sto) : storeI s = storeS s := by
  by_cases hl : s.levels.length = 3
  case neg => unfold storeI storeS headM headS; rw [decide_eq_false hl]; rfl
  by_cases hx : s.sieves.length = 3
  case neg => unfold storeI storeS headM headS; rw [decide_eq_false hx]; simp
  obtain ⟨a, b, c, ea⟩ := len3 hl
  obtain ⟨x, y, z, ex⟩ := len3 hx
  have u0 : upTo s 0 = s.top := by simp [upTo]
  have u1 : upTo s 1 = s.top ++ a := by simp [upTo, ea]
  have u2 : upTo s 2 = s.top ++ (a ++ b) := by simp [upTo, ea]
  have i0 : iAt s 0 = (lvM s.keep 0 a x && newerM s.top a && !decide (0 ≤ lateI s s.top)) := by unfold iAt; rw [u0, ea, ex]; rfl
  have i1 : iAt s 1 = (lvM s.keep 1 b y && newerM (s.top ++ a) b && !decide (0 ≤ lateI s (s.top ++ a))) := by unfold iAt; rw [u1, ea, ex]; rfl
  have i2 : iAt s 2 = (lvM s.keep 2 c z && newerM (s.top ++ (a ++ b)) c && !decide (0 ≤ lateI s (s.top ++ (a ++ b)))) := by unfold iAt; rw [u2, ea, ex]; rfl
  have p01 : sPair s 0 1 = newestM a b s.time := by unfold sPair; rw [ea]; rfl
  have p02 : sPair s 0 2 = newestM a c s.time := by unfold sPair; rw [ea]; rfl
  have p12 : sPair s 1 2 = newestM b c s.time := by unfold sPair; rw [ea]; rfl
  have s0 : sAt s 0 = (lvM s.keep 0 a x && newestM s.top a s.time && (newestM a b s.time && newestM a c s.time)) := by
    unfold sAt; rw [allI3, p01, p02, ea, ex]; rfl
  have s1 : sAt s 1 = (lvM s.keep 1 b y && newestM s.top b s.time && newestM b c s.time) := by
    unfold sAt; rw [allI3, p12, ea, ex]; rfl
  have s2 : sAt s 2 = (lvM s.keep 2 c z && newestM s.top c s.time) := by
    unfold sAt; rw [allI3, ea, ex]; simp
  rw [Bool.eq_iff_iff]
  unfold storeI storeS headM headS
  rw [allI3, allI3, i0, i1, i2, s0, s1, s2]
  simp only [Bool.and_eq_true, Bool.not_eq_true', late_iff, newer_app, List.mem_append]
  constructor
  · rintro ⟨⟨⟨⟨⟨⟨h1, h2⟩, h3⟩, h4⟩, h5⟩, h6⟩, ⟨⟨l0, n0⟩, t0⟩, ⟨⟨l1, n1, n1'⟩, t1⟩, ⟨⟨l2, n2, n2', n2''⟩, t2⟩⟩
    obtain ⟨ra, hk⟩ := lv_run l0
    have rb := (lv_run l1).1
    have rc := (lv_run l2).1
    exact ⟨⟨⟨⟨⟨⟨⟨h1, h2⟩, hk⟩, h5⟩, h6⟩, h3⟩, h4⟩, ⟨⟨l0, (newest_iff ra).2 ⟨t0, n0⟩⟩, (newest_iff rb).2 ⟨fun e he => t1 e (.inr he), n1'⟩, (newest_iff rc).2 ⟨fun e he => t1 e (.inr he), n2'⟩⟩, ⟨⟨l1, (newest_iff rb).2 ⟨t0, n1⟩⟩, (newest_iff rc).2 ⟨fun e he => t2 e (.inr (.inr he)), n2''⟩⟩, l2, (newest_iff rc).2 ⟨t0, n2⟩⟩
  · rintro ⟨⟨⟨⟨⟨⟨⟨h1, h2⟩, hk⟩, h5⟩, h6⟩, h3⟩, h4⟩, ⟨⟨l0, n0⟩, n01, n02⟩, ⟨⟨l1, n1⟩, n12⟩, l2, n2⟩
    have ra := (lv_run l0).1
    have rb := (lv_run l1).1
    have rc := (lv_run l2).1
    rw [newest_iff ra] at n0
    rw [newest_iff rb] at n01 n1
    rw [newest_iff rc] at n02 n12 n2
    refine ⟨⟨⟨⟨⟨⟨h1, h2⟩, h3⟩, h4⟩, h5⟩, h6⟩, ⟨⟨l0, n0.2⟩, n0.1⟩, ⟨⟨l1, n1.2, n01.2⟩, fun e he => he.elim (n0.1 e) (n01.1 e)⟩, ⟨⟨l2, n2.2, n02.2, n12.2⟩, fun e he => ?_⟩⟩
    rcases he with he | he | he
    · exact n0.1 e he
    · exact n01.1 e he
    · exact n12.1 e he
/-- A store that is one, by its levels and sieves. -/
structure VSt (s : Sto) : Prop where
  ll : s.levels.length = 3
  sl : s.sieves.length = 3
  sv : ∀ (i : Nat) (r : List Ent) (x : Sve), s.levels[i]? = some r → s.sieves[i]? = some x → SvIs s.keep.toNat (keysM r) x ∧ sieveM (keysM r) s.keep = some x ∧ runOk r = true
  kp : 0 ≤ s.keep ∧ s.keep ≤ 5
  tl : s.times.length ≤ 3
theorem vst_of {s : Sto} (h : storeS s = true) : VSt s := by
  unfold storeS headS at h
  simp only [Bool.and_eq_true] at h
  obtain ⟨⟨⟨⟨⟨⟨⟨h1, h2⟩, h3⟩, h4⟩, h5⟩, h6⟩, h7⟩, h8⟩ := h
  have hl := of_decide_eq_true h1
  have hsl := of_decide_eq_true h2
  unfold inB at h3
  simp only [Bool.and_eq_true, decide_eq_true_eq] at h3
  refine ⟨hl, hsl, fun i r x hr hx => ?_, h3, by unfold timesM at h5; rw [Bool.and_eq_true] at h5; exact of_decide_eq_true h5.2⟩
  have := allI_iff.1 h8 i (by have := (List.getElem?_eq_some_iff.1 hr).1; omega)
  unfold sAt at this
  rw [hr, hx] at this
  simp only [Bool.and_eq_true] at this
  have hlv := this.1.1
  unfold lvM at hlv
  simp only [Bool.and_eq_true] at hlv
  obtain ⟨⟨⟨hv1, _⟩, hv3⟩, hv4⟩ := hlv
  cases hs : sieveM (keysM r) s.keep with
  | none => rw [hs] at hv3; cases hv3
  | some y =>
    rw [hs] at hv4
    have : y = x := sveEq_iff.1 hv4
    subst this
    exact ⟨svIs_of hs, rfl, hv1⟩
def findL (keep : Nat) (k : ByteArray) (t : Int) : List (List Ent) → Option Ent
  | [] => none
  | r :: rs => match (if hasM keep (keysM r) k = true then atM r k t else none) with
    | some e => some e
    | none => findL keep k t rs
def findM (s : Sto) (k : ByteArray) (t : Int) : Option Ent := match atM s.top k t with
  | some e => some e
  | none => findL s.keep.toNat k t s.levels
structure FnI (s : Sto) (k : ByteArray) (t : Int) (R : Option Ent) where
  i : Nat
  hi : i ≤ 3
  hf : findL s.keep.toNat k t (s.levels.drop i) = R
theorem find_ac (s : Sto) (hs : SmSt s) (hv : VSt s) (k : ByteArray) (hk : smK k) (t : Int) : AC Tryz.prog 71 [stT s, sT k, iT t] noHp 0 ⟨.tup [entT ((findM s k t).getD zEnt), bT (findM s k t).isSome], noHp, 0⟩ := by
  have k0 := at_ac s.top k t hs.top
  refine AC_of Tryz.func71 rfl Tryz.ntmps71 Tryz.results71 (by kernel_rfl) rfl ?_
  simp only [List.zipIdx, List.map, Nat.zero_add, Nat.reduceAdd]
  cases c0 : atM s.top k t with
  | some e =>
    have hM : findM s k t = some e := by unfold findM; rw [c0]
    rw [hM]
    rw [c0] at k0
    repeat (first | apply Aw_seq | apply Aw_block | apply Aw_skip | apply Aw_exit | refine Aw_condt rfl ?_ | refine Aw_condf rfl ?_ | ((first | refine qr ?_ | refine qd (by kernel_rfl) (by kernel_rfl) ?_); simp only [go_sem, jE, reduceIte, jA, jM, jS, jL, jD, jB]) | refine dk (by kernel_rfl) ?_ | (refine qp (k0) (by simp only [go_sem, jE, reduceIte, jA, jM, jS, jL, jD, jB]; first | done | rfl) rfl (by simp only [go_sem, Nat.reduceLT]) rfl rfl ?_; simp only [go_sem, jE, reduceIte, jA, jM, jS, jL, jD, jB]))
    exact Aw_ret (ret0 (.inl rfl) (by simp only [go_sem, jE, reduceIte, jA, jM, jS, jL, jD, jB]; rfl) (by rfl) rfl)
  | none =>
    have hM : findM s k t = findL s.keep.toNat k t s.levels := by unfold findM; rw [c0]
    rw [hM]
    rw [c0] at k0
    obtain ⟨R, hR⟩ : ∃ R, R = findL s.keep.toNat k t s.levels := ⟨_, rfl⟩
    rw [← hR]
    have z0 : ((none : Option Ent).getD zEnt) = zEnt := rfl
    repeat (first | apply Aw_seq | apply Aw_block | apply Aw_skip | apply Aw_exit | refine Aw_condt rfl ?_ | refine Aw_condf rfl ?_ | ((first | refine qr ?_ | refine qd (by kernel_rfl) (by kernel_rfl) ?_); simp only [go_sem, jE, reduceIte, jA, jM, jS, jL, jD, jB]) | refine dk (by kernel_rfl) ?_ | (refine qp (k0) (by simp only [go_sem, jE, reduceIte, jA, jM, jS, jL, jD, jB]; first | done | rfl) rfl (by simp only [go_sem, Nat.reduceLT]) rfl rfl ?_; simp only [go_sem, jE, reduceIte, jA, jM, jS, jL, jD, jB]))
    refine Aw.rw (rwL (l' := [(27, .t (iT (0 : Nat))), (26, .t (iT s.levels.length)), (25, .t (.c (.d (.rs 1 (s.levels.map lvD))))), (6, .t (.c (.ph 1 0 0))), (3, .t (.c (.ph 0 0 0))), (1, .t (sT k)), (2, .t (iT t))]) (os := [some (stO s), some (enO zEnt)]) (M := [0, 1]) (n' := 2) (by repeat (first | exact trivial | refine ⟨rfl, rfl, ?_⟩)) (by rfl) (by simp only [go_sem, jE, reduceIte, jA, jM, jS, jL, jD, jB, zEnt]; first | done | rfl) (by decide) (by unfold idM; decide)) ?_
    rw [hv.ll]
    refine Aw_loop_rw (ι := FnI s k t R) (fun q => S [(27, .t (iT (q.i : Nat))), (26, .t (iT (3 : Nat))), (25, .t (.c (.d (.rs 1 (s.levels.map lvD))))), (6, .t (.c (.ph 1 0 0))), (3, .t (.c (.ph 0 0 0))), (1, .t (sT k)), (2, .t (iT t))] (hpL [some (stO s), some (enO zEnt)]) 2) (fun q => 3 - q.i) ⟨0, by omega, hR.symm⟩ ?_
    clear hR hM
    rintro ⟨i, hi, hf⟩
    dsimp only
    by_cases hlt : i < 3
    · have g1 : decide ((i : Int) < ((3 : Nat) : Int)) = true := decide_eq_true (by omega)
      have w := wrap_succ hlt (by omega)
      obtain ⟨r, hr⟩ : ∃ r, s.levels[i]? = some r := ⟨_, List.getElem?_eq_getElem (by rw [hv.ll]; omega)⟩
      obtain ⟨x, hx⟩ : ∃ x, s.sieves[i]? = some x := ⟨_, List.getElem?_eq_getElem (by rw [hv.sl]; omega)⟩
      have hxl := (List.getElem?_eq_some_iff.1 hx).1
      have k1 := has_ac (hv.sv i r x hr hx).1 k hk
      have k2 := at_ac r k t (hs.lev r (List.mem_of_getElem? hr))
      rw [List.drop_eq_getElem_cons (by rw [hv.ll]; omega), show s.levels[i]'(by rw [hv.ll]; omega) = r from (List.getElem?_eq_some_iff.1 hr).2] at hf
      simp only [findL] at hf
      cases c1 : hasM s.keep.toNat (keysM r) k
      · rw [c1] at k1 hf
        simp only [Bool.false_eq_true, if_false] at hf
        repeat (first | apply Aw_seq | apply Aw_block | apply Aw_skip | apply Aw_exit | refine Aw_condt rfl ?_ | refine Aw_condf rfl ?_ | ((first | refine qr ?_ | refine qd (by kernel_rfl) (by kernel_rfl) ?_); simp only [go_sem, jE, reduceIte, jA, jM, jS, jL, jD, jB, g1, w, hr, hx, hxl]) | refine dk (by kernel_rfl) ?_ | (refine qp (k1) (by simp only [go_sem, jE, reduceIte, jA, jM, jS, jL, jD, jB, g1, w, hr, hx, hxl]; first | done | rfl) rfl (by simp only [go_sem, Nat.reduceLT]) rfl rfl ?_; simp only [go_sem, jE, reduceIte, jA, jM, jS, jL, jD, jB, g1, w, hr, hx, hxl]))
        refine ⟨⟨i + 1, by omega, hf⟩, [0, 1], ?_, rwL (by repeat (first | exact trivial | refine ⟨rfl, rfl, ?_⟩)) (by rfl) (by simp only [go_sem, jE, reduceIte, jA, jM, jS, jL, jD, jB, zEnt]; first | done | rfl) (by decide) (by unfold idM; decide)⟩
        show 3 - (i + 1) < 3 - i; omega
      · rw [c1] at k1 hf
        simp only [if_true] at hf
        cases c2 : atM r k t with
        | some e =>
          rw [c2] at k2 hf
          simp only at hf
          subst hf
          repeat (first | apply Aw_seq | apply Aw_block | apply Aw_skip | apply Aw_exit | refine Aw_condt rfl ?_ | refine Aw_condf rfl ?_ | ((first | refine qr ?_ | refine qd (by kernel_rfl) (by kernel_rfl) ?_); simp only [go_sem, jE, reduceIte, jA, jM, jS, jL, jD, jB, g1, w, hr, hx, hxl]) | refine dk (by kernel_rfl) ?_ | (refine qp (k1) (by simp only [go_sem, jE, reduceIte, jA, jM, jS, jL, jD, jB, g1, w, hr, hx, hxl]; first | done | rfl) rfl (by simp only [go_sem, Nat.reduceLT]) rfl rfl ?_; simp only [go_sem, jE, reduceIte, jA, jM, jS, jL, jD, jB, g1, w, hr, hx, hxl]) | (refine qp (k2) (by simp only [go_sem, jE, reduceIte, jA, jM, jS, jL, jD, jB, g1, w, hr, hx, hxl]; first | done | rfl) rfl (by simp only [go_sem, Nat.reduceLT]) rfl rfl ?_; simp only [go_sem, jE, reduceIte, jA, jM, jS, jL, jD, jB, g1, w, hr, hx, hxl]))
          exact Aw_ret (ret0 (.inl rfl) (by simp only [go_sem, jE, reduceIte, jA, jM, jS, jL, jD, jB]; rfl) (by rfl) rfl)
        | none =>
          rw [c2] at k2 hf
          simp only at hf
          repeat (first | apply Aw_seq | apply Aw_block | apply Aw_skip | apply Aw_exit | refine Aw_condt rfl ?_ | refine Aw_condf rfl ?_ | ((first | refine qr ?_ | refine qd (by kernel_rfl) (by kernel_rfl) ?_); simp only [go_sem, jE, reduceIte, jA, jM, jS, jL, jD, jB, g1, w, hr, hx, hxl]) | refine dk (by kernel_rfl) ?_ | (refine qp (k1) (by simp only [go_sem, jE, reduceIte, jA, jM, jS, jL, jD, jB, g1, w, hr, hx, hxl]; first | done | rfl) rfl (by simp only [go_sem, Nat.reduceLT]) rfl rfl ?_; simp only [go_sem, jE, reduceIte, jA, jM, jS, jL, jD, jB, g1, w, hr, hx, hxl]) | (refine qp (k2) (by simp only [go_sem, jE, reduceIte, jA, jM, jS, jL, jD, jB, g1, w, hr, hx, hxl]; first | done | rfl) rfl (by simp only [go_sem, Nat.reduceLT]) rfl rfl ?_; simp only [go_sem, jE, reduceIte, jA, jM, jS, jL, jD, jB, g1, w, hr, hx, hxl]))
          refine ⟨⟨i + 1, by omega, hf⟩, [0, 1], ?_, rwL (by repeat (first | exact trivial | refine ⟨rfl, rfl, ?_⟩)) (by rfl) (by simp only [go_sem, jE, reduceIte, jA, jM, jS, jL, jD, jB, zEnt]; first | done | rfl) (by decide) (by unfold idM; decide)⟩
          show 3 - (i + 1) < 3 - i; omega
    · have g1 : decide ((i : Int) < ((3 : Nat) : Int)) = false := decide_eq_false (by omega)
      rw [List.drop_of_length_le (by rw [hv.ll]; omega)] at hf
      simp only [findL] at hf
      subst hf
      repeat (first | apply Aw_seq | apply Aw_block | apply Aw_skip | apply Aw_exit | refine Aw_condt rfl ?_ | refine Aw_condf rfl ?_ | ((first | refine qr ?_ | refine qd (by kernel_rfl) (by kernel_rfl) ?_); simp only [go_sem, jE, reduceIte, jA, jM, jS, jL, jD, jB, g1]) | refine dk (by kernel_rfl) ?_)
      exact Aw_ret (ret0 (.inl rfl) (by simp only [go_sem, jE, reduceIte, jA, jM, jS, jL, jD, jB]; rfl) (by rfl) rfl)
def idxI (ts : List Int) (t : Int) : Int := match ts.findIdx? (fun x => decide (t = x)) with
  | some i => (i : Int)
  | none => -1
theorem index_ac (ts : List Int) (t : Int) (hl : ts.length ≤ 1000) : AC Tryz.prog 145 [intsT ts, iT t] noHp 0 ⟨.t (iT (idxI ts t)), noHp, 0⟩ := by
  refine AC_of Tryz.func145 rfl Tryz.ntmps145 Tryz.results145 (by kernel_rfl) rfl ?_
  simp only [List.zipIdx, List.map, Nat.zero_add, Nat.reduceAdd]
  repeat (first | apply Aw_seq | apply Aw_block | apply Aw_skip | apply Aw_exit | refine Aw_condt rfl ?_ | refine Aw_condf rfl ?_ | ((first | refine qr ?_ | refine qd (by kernel_rfl) (by kernel_rfl) ?_); simp only [go_sem, jE, reduceIte, jA, jM, jS, jL, jD, jB]) | refine dk (by kernel_rfl) ?_)
  refine Aw.rw (rwL (l' := [(8, .t (iT (0 : Nat))), (7, .t (iT ts.length)), (0, .t (intsT ts)), (1, .t (iT t))]) (os := []) (M := []) (n' := 0) (by repeat (first | exact trivial | refine ⟨rfl, rfl, ?_⟩)) (by rfl) (by simp only [go_sem, jE, reduceIte, jA, jM, jS, jL, jD, jB]; first | done | rfl) (by decide) (by unfold idM; decide)) ?_
  refine Aw_loop_rw (ι := { j : Nat // j ≤ ts.length ∧ ∀ q, q < j → ∀ y, ts[q]? = some y → decide (t = y) = false }) (fun q => S [(8, .t (iT (q.1 : Nat))), (7, .t (iT ts.length)), (0, .t (intsT ts)), (1, .t (iT t))] (hpL []) 0) (fun q => ts.length - q.1) ⟨0, Nat.zero_le _, fun j hj => absurd hj (by omega)⟩ ?_
  rintro ⟨j, hj, hq⟩
  dsimp only
  by_cases hjl : j < ts.length
  · have g1 : decide ((j : Int) < (ts.length : Int)) = true := decide_eq_true (by omega)
    have g2 := wrap_succ hjl (by omega)
    obtain ⟨y, hy⟩ : ∃ e, ts[j]? = some e := ⟨_, List.getElem?_eq_getElem hjl⟩
    cases c1 : decide (t = y)
    · have nx : ∀ q, q < j + 1 → ∀ z, ts[q]? = some z → decide (t = z) = false := fun q hqj z hz => by
        rcases Nat.lt_succ_iff_lt_or_eq.1 hqj with h | rfl
        · exact hq q h z hz
        · rw [hy] at hz; rw [← Option.some.inj hz]; exact c1
      repeat (first | apply Aw_seq | apply Aw_block | apply Aw_skip | apply Aw_exit | refine Aw_condt rfl ?_ | refine Aw_condf rfl ?_ | ((first | refine qr ?_ | refine qd (by kernel_rfl) (by kernel_rfl) ?_); simp only [go_sem, jE, reduceIte, jA, jM, jS, jL, jD, jB, g1, hy, g2, c1]) | refine dk (by kernel_rfl) ?_)
      refine ⟨⟨j + 1, by omega, nx⟩, [], ?_, rwL (by repeat (first | exact trivial | refine ⟨rfl, rfl, ?_⟩)) (by rfl) (by simp only [go_sem, jE, reduceIte, jA, jM, jS, jL, jD, jB]; first | done | rfl) (by decide) (by unfold idM; decide)⟩
      show ts.length - (j + 1) < ts.length - j; omega
    · have e : idxI ts t = (j : Nat) := by
        have : ts.findIdx? (fun x => decide (t = x)) = some j := by
          rw [List.findIdx?_eq_some_iff_getElem]
          refine ⟨hjl, ?_, fun q hqj => ?_⟩
          · rw [List.getElem?_eq_getElem hjl] at hy; rw [Option.some.inj hy]; exact c1
          · have := hq q hqj _ (List.getElem?_eq_getElem (by omega)); simp only [this]; decide
        unfold idxI; rw [this]
      rw [e]
      repeat (first | apply Aw_seq | apply Aw_block | apply Aw_skip | apply Aw_exit | refine Aw_condt rfl ?_ | refine Aw_condf rfl ?_ | ((first | refine qr ?_ | refine qd (by kernel_rfl) (by kernel_rfl) ?_); simp only [go_sem, jE, reduceIte, jA, jM, jS, jL, jD, jB, g1, hy, g2, c1]) | refine dk (by kernel_rfl) ?_)
      exact Aw_ret (ret0 (.inl rfl) (by simp only [go_sem, jE, reduceIte, jA, jM, jS, jL, jD, jB]; rfl) (by rfl) rfl)
  · have g1 : decide ((j : Int) < (ts.length : Int)) = false := decide_eq_false (by omega)
    have e : idxI ts t = -1 := by
      have : ts.findIdx? (fun x => decide (t = x)) = none := by
        rw [List.findIdx?_eq_none_iff]
        intro x hx
        obtain ⟨i, hi⟩ := List.mem_iff_getElem?.1 hx
        exact hq i (by have := (List.getElem?_eq_some_iff.1 hi).1; omega) x hi
      unfold idxI; rw [this]
    rw [e]
    repeat (first | apply Aw_seq | apply Aw_block | apply Aw_skip | apply Aw_exit | refine Aw_condt rfl ?_ | refine Aw_condf rfl ?_ | ((first | refine qr ?_ | refine qd (by kernel_rfl) (by kernel_rfl) ?_); simp only [go_sem, jE, reduceIte, jA, jM, jS, jL, jD, jB, g1]) | refine dk (by kernel_rfl) ?_)
    exact Aw_ret (ret0 (.inl rfl) (by simp only [go_sem, jE, reduceIte, jA, jM, jS, jL, jD, jB]; rfl) (by rfl) rfl)
theorem contains_ac (ts : List Int) (t : Int) (hl : ts.length ≤ 1000) : AC Tryz.prog 111 [intsT ts, iT t] noHp 0 ⟨.t (bT (ts.any fun x => decide (t = x))), noHp, 0⟩ := by
  have k := index_ac ts t hl
  have e : decide ((0 : Int) ≤ idxI ts t) = ts.any fun x => decide (t = x) := by
    unfold idxI
    cases h : ts.findIdx? (fun x => decide (t = x)) with
    | none =>
      rw [List.findIdx?_eq_none_iff] at h
      rw [show ts.any (fun x => decide (t = x)) = false from List.any_eq_false.2 fun x hx => by rw [h x hx]; simp]; rfl
    | some i =>
      rw [List.findIdx?_eq_some_iff_getElem] at h
      obtain ⟨h1, h2, _⟩ := h
      rw [show ts.any (fun x => decide (t = x)) = true from List.any_eq_true.2 ⟨_, List.getElem_mem h1, h2⟩]
      exact decide_eq_true (Int.natCast_nonneg i)
  rw [← e]
  refine AC_of Tryz.func111 rfl Tryz.ntmps111 Tryz.results111 (by kernel_rfl) rfl ?_
  simp only [List.zipIdx, List.map, Nat.zero_add, Nat.reduceAdd]
  repeat (first | apply Aw_seq | apply Aw_block | apply Aw_skip | apply Aw_exit | refine Aw_condt rfl ?_ | refine Aw_condf rfl ?_ | ((first | refine qr ?_ | refine qd (by kernel_rfl) (by kernel_rfl) ?_); simp only [go_sem, jE, reduceIte, jA, jM, jS, jL, jD, jB]) | refine dk (by kernel_rfl) ?_ | (refine qp (k) (by simp only [go_sem, jE, reduceIte, jA, jM, jS, jL, jD, jB]; first | done | rfl) rfl (by simp only [go_sem, Nat.reduceLT]) rfl rfl ?_; simp only [go_sem, jE, reduceIte, jA, jM, jS, jL, jD, jB]))
  exact Aw_ret (ret0 (.inl rfl) (by simp only [go_sem, jE, reduceIte, jA, jM, jS, jL, jD, jB]; rfl) (by rfl) rfl)
def knownM (s : Sto) (t : Int) : Bool := decide (t = s.time) || s.times.any fun x => decide (t = x)
theorem known_ac (s : Sto) (t : Int) (hl : s.times.length ≤ 1000) : AC Tryz.prog 67 [stT s, iT t] noHp 0 ⟨.t (bT (knownM s t)), noHp, 0⟩ := by
  have k := contains_ac s.times t hl
  unfold knownM
  refine AC_of Tryz.func67 rfl Tryz.ntmps67 Tryz.results67 (by kernel_rfl) rfl ?_
  simp only [List.zipIdx, List.map, Nat.zero_add, Nat.reduceAdd]
  cases c : decide (t = s.time)
  · rw [Bool.false_or]
    repeat (first | apply Aw_seq | apply Aw_block | apply Aw_skip | apply Aw_exit | refine Aw_condt rfl ?_ | refine Aw_condf rfl ?_ | ((first | refine qr ?_ | refine qd (by kernel_rfl) (by kernel_rfl) ?_); simp only [go_sem, jE, reduceIte, jA, jM, jS, jL, jD, jB, c]) | refine dk (by kernel_rfl) ?_ | (refine qp (k) (by simp only [go_sem, jE, reduceIte, jA, jM, jS, jL, jD, jB, c]; first | done | rfl) rfl (by simp only [go_sem, Nat.reduceLT]) rfl rfl ?_; simp only [go_sem, jE, reduceIte, jA, jM, jS, jL, jD, jB, c]))
    exact Aw_ret (ret0 (.inl rfl) (by simp only [go_sem, jE, reduceIte, jA, jM, jS, jL, jD, jB]; rfl) (by rfl) rfl)
  · repeat (first | apply Aw_seq | apply Aw_block | apply Aw_skip | apply Aw_exit | refine Aw_condt rfl ?_ | refine Aw_condf rfl ?_ | ((first | refine qr ?_ | refine qd (by kernel_rfl) (by kernel_rfl) ?_); simp only [go_sem, jE, reduceIte, jA, jM, jS, jL, jD, jB, c]) | refine dk (by kernel_rfl) ?_)
    exact Aw_ret (ret0 (.inl rfl) (by simp only [go_sem, jE, reduceIte, jA, jM, jS, jL, jD, jB]; rfl) (by rfl) rfl)
def ksO (k : ByteArray) : Obj := ⟨9, 1, false, [[.d (.s (.string k))]]⟩
@[go_sem] theorem r_ksO (k : ByteArray) : ksO k = ⟨9, 1, false, [[.d (.s (.string k))]]⟩ := rfl
theorem storeOkI_ac (s : Sto) (hs : SmSt s) : AC Tryz.prog 65 [stT s] noHp 0 ⟨.t (bT (storeS s)), noHp, 0⟩ := by
  have k := storeOk_ac s hs
  rw [store_eq] at k
  exact k
theorem any_take_succ {ts : List Int} {t : Int} {i : Nat} {y : Int} (h : ts[i]? = some y) : (ts.take (i + 1)).any (fun x => decide (t = x)) = ((ts.take i).any (fun x => decide (t = x)) || decide (y = t)) := by
  rw [List.take_add_one, h, List.any_append]
  simp [eq_comm]
def knT (s : Sto) (t : Int) (i : Nat) : Bool := decide (t = s.time) || (s.times.take i).any fun x => decide (t = x)
theorem knT_succ {s : Sto} {t : Int} {i : Nat} {y : Int} (h : s.times[i]? = some y) : knT s t (i + 1) = (knT s t i || decide (y = t)) := by
  unfold knT; rw [any_take_succ h, Bool.or_assoc]
theorem sknown_ac (s : Sto) (t : Int) (hl : s.times.length ≤ 1000) : AC Tryz.prog 60 [stT s, iT t] noHp 0 ⟨.t (bT (knownM s t)), noHp, 0⟩ := by
  have e0 : decide (t = s.time) = knT s t 0 := by unfold knT; simp
  have e1 : knownM s t = knT s t s.times.length := by unfold knT knownM; rw [List.take_length]
  rw [e1]
  refine AC_of Tryz.func60 rfl Tryz.ntmps60 Tryz.results60 (by kernel_rfl) rfl ?_
  simp only [List.zipIdx, List.map, Nat.zero_add, Nat.reduceAdd]
  repeat (first | apply Aw_seq | apply Aw_block | apply Aw_skip | apply Aw_exit | refine Aw_condt rfl ?_ | refine Aw_condf rfl ?_ | ((first | refine qr ?_ | refine qd (by kernel_rfl) (by kernel_rfl) ?_); simp only [go_sem, jE, reduceIte, jA, jM, jS, jL, jD, jB, e0]) | refine dk (by kernel_rfl) ?_)
  refine Aw.rw (rwL (l' := [(6, .t (iT (0 : Nat))), (5, .t (bT (knT s t 0))), (2, .t (.c (.ph 0 0 0))), (1, .t (iT t))]) (os := [some (stO s)]) (M := [0]) (n' := 1) (by repeat (first | exact trivial | refine ⟨rfl, rfl, ?_⟩)) (by rfl) (by simp only [go_sem, jE, reduceIte, jA, jM, jS, jL, jD, jB]; first | done | rfl) (by decide) (by unfold idM; decide)) ?_
  refine Aw_loop_rw (ι := { i : Nat // i ≤ s.times.length }) (fun q => S [(6, .t (iT (q.1 : Nat))), (5, .t (bT (knT s t q.1))), (2, .t (.c (.ph 0 0 0))), (1, .t (iT t))] (hpL [some (stO s)]) 1) (fun q => s.times.length - q.1) ⟨0, Nat.zero_le _⟩ ?_
  rintro ⟨i, hi⟩
  dsimp only
  by_cases hlt : i < s.times.length
  · have g1 : decide ((i : Int) < (s.times.length : Int)) = true := decide_eq_true (by omega)
    have w := wrap_succ hlt (by omega)
    obtain ⟨y, hy⟩ : ∃ e, s.times[i]? = some e := ⟨_, List.getElem?_eq_getElem hlt⟩
    have hs := knT_succ (t := t) hy
    cases c : knT s t i
    · rw [c, Bool.false_or] at hs
      repeat (first | apply Aw_seq | apply Aw_block | apply Aw_skip | apply Aw_exit | refine Aw_condt rfl ?_ | refine Aw_condf rfl ?_ | ((first | refine qr ?_ | refine qd (by kernel_rfl) (by kernel_rfl) ?_); simp only [go_sem, jE, reduceIte, jA, jM, jS, jL, jD, jB, g1, w, hy]) | refine dk (by kernel_rfl) ?_)
      refine ⟨⟨i + 1, hlt⟩, [0], ?_, ?_⟩
      rotate_left
      dsimp only
      rw [hs]
      exact rwL (by repeat (first | exact trivial | refine ⟨rfl, rfl, ?_⟩)) (by rfl) (by simp only [go_sem, jE, reduceIte, jA, jM, jS, jL, jD, jB]; first | done | rfl) (by decide) (by unfold idM; decide)
      show s.times.length - (i + 1) < s.times.length - i; omega
    · rw [c, Bool.true_or] at hs
      repeat (first | apply Aw_seq | apply Aw_block | apply Aw_skip | apply Aw_exit | refine Aw_condt rfl ?_ | refine Aw_condf rfl ?_ | ((first | refine qr ?_ | refine qd (by kernel_rfl) (by kernel_rfl) ?_); simp only [go_sem, jE, reduceIte, jA, jM, jS, jL, jD, jB, g1, w, hy]) | refine dk (by kernel_rfl) ?_)
      refine ⟨⟨i + 1, hlt⟩, [0], ?_, ?_⟩
      rotate_left
      dsimp only
      rw [hs]
      exact rwL (by repeat (first | exact trivial | refine ⟨rfl, rfl, ?_⟩)) (by rfl) (by simp only [go_sem, jE, reduceIte, jA, jM, jS, jL, jD, jB]; first | done | rfl) (by decide) (by unfold idM; decide)
      show s.times.length - (i + 1) < s.times.length - i; omega
  · have g1 : decide ((i : Int) < (s.times.length : Int)) = false := decide_eq_false (by omega)
    obtain rfl : i = s.times.length := by omega
    repeat (first | apply Aw_seq | apply Aw_block | apply Aw_skip | apply Aw_exit | refine Aw_condt rfl ?_ | refine Aw_condf rfl ?_ | ((first | refine qr ?_ | refine qd (by kernel_rfl) (by kernel_rfl) ?_); simp only [go_sem, jE, reduceIte, jA, jM, jS, jL, jD, jB, g1]) | refine dk (by kernel_rfl) ?_)
    exact Aw_ret (ret0 (.inl rfl) (by simp only [go_sem, jE, reduceIte, jA, jM, jS, jL, jD, jB]; rfl) (by rfl) rfl)
theorem VSt.has {s : Sto} (hv : VSt s) {i : Nat} {r : List Ent} {x : Sve} (hr : s.levels[i]? = some r) (hx : s.sieves[i]? = some x) {k : ByteArray} (hk : keyOk k = true) : AC Tryz.prog 102 [sveP x, sT k] noHp 0 ⟨.t (bT (hasM s.keep.toNat (keysM r) k)), noHp, 0⟩ := by
  obtain ⟨h1, h2, _⟩ := hv.sv i r x hr hx
  refine sieveHas_ac h1 ?_ k hk
  rw [show ((s.keep.toNat : Nat) : Int) = s.keep by have := hv.kp; omega]
  exact h2
theorem sget_ac (s : Sto) (hs : SmSt s) (hv : VSt s) (k : ByteArray) (hk : keyOk k = true) (t : Int) : AC Tryz.prog 64 [stT s, sT k, iT t] noHp 0 ⟨.tup [entT ((findM s k t).getD zEnt), bT (findM s k t).isSome], noHp, 0⟩ := by
  have k0 := sat_ac s.top k t hs.top
  refine AC_of Tryz.func64 rfl Tryz.ntmps64 Tryz.results64 (by kernel_rfl) rfl ?_
  simp only [List.zipIdx, List.map, Nat.zero_add, Nat.reduceAdd]
  cases c0 : atM s.top k t with
  | some e =>
    have hM : findM s k t = some e := by unfold findM; rw [c0]
    rw [hM]
    rw [c0] at k0
    repeat (first | apply Aw_seq | apply Aw_block | apply Aw_skip | apply Aw_exit | refine Aw_condt rfl ?_ | refine Aw_condf rfl ?_ | ((first | refine qr ?_ | refine qd (by kernel_rfl) (by kernel_rfl) ?_); simp only [go_sem, jE, reduceIte, jA, jM, jS, jL, jD, jB]) | refine dk (by kernel_rfl) ?_ | (refine qp (k0) (by simp only [go_sem, jE, reduceIte, jA, jM, jS, jL, jD, jB]; first | done | rfl) rfl (by simp only [go_sem, Nat.reduceLT]) rfl rfl ?_; simp only [go_sem, jE, reduceIte, jA, jM, jS, jL, jD, jB]))
    exact Aw_ret (ret0 (.inl rfl) (by simp only [go_sem, jE, reduceIte, jA, jM, jS, jL, jD, jB]; rfl) (by rfl) rfl)
  | none =>
    have hM : findM s k t = findL s.keep.toNat k t s.levels := by unfold findM; rw [c0]
    rw [hM]
    rw [c0] at k0
    obtain ⟨R, hR⟩ : ∃ R, R = findL s.keep.toNat k t s.levels := ⟨_, rfl⟩
    rw [← hR]
    have z0 : ((none : Option Ent).getD zEnt) = zEnt := rfl
    repeat (first | apply Aw_seq | apply Aw_block | apply Aw_skip | apply Aw_exit | refine Aw_condt rfl ?_ | refine Aw_condf rfl ?_ | ((first | refine qr ?_ | refine qd (by kernel_rfl) (by kernel_rfl) ?_); simp only [go_sem, jE, reduceIte, jA, jM, jS, jL, jD, jB]) | refine dk (by kernel_rfl) ?_ | (refine qp (k0) (by simp only [go_sem, jE, reduceIte, jA, jM, jS, jL, jD, jB]; first | done | rfl) rfl (by simp only [go_sem, Nat.reduceLT]) rfl rfl ?_; simp only [go_sem, jE, reduceIte, jA, jM, jS, jL, jD, jB]))
    refine Aw.rw (rwL (l' := [(10, .t (iT (0 : Nat))), (8, .t (.c (.ph 2 0 0))), (6, .t (.c (.ph 1 0 0))), (3, .t (.c (.ph 0 0 0))), (1, .t (sT k)), (2, .t (iT t))]) (os := [some (stO s), some (enO zEnt), some (enO zEnt)]) (M := [0, 1, 10]) (n' := 3) (by repeat (first | exact trivial | refine ⟨rfl, rfl, ?_⟩)) (by rfl) (by simp only [go_sem, jE, reduceIte, jA, jM, jS, jL, jD, jB, zEnt]; first | done | rfl) (by decide) (by unfold idM; decide)) ?_
    refine Aw_loop_rw (ι := FnI s k t R) (fun q => S [(10, .t (iT (q.i : Nat))), (8, .t (.c (.ph 2 0 0))), (6, .t (.c (.ph 1 0 0))), (3, .t (.c (.ph 0 0 0))), (1, .t (sT k)), (2, .t (iT t))] (hpL [some (stO s), some (enO zEnt), some (enO zEnt)]) 3) (fun q => 3 - q.i) ⟨0, by omega, hR.symm⟩ ?_
    clear hR hM
    rintro ⟨i, hi, hf⟩
    dsimp only
    have hll := hv.ll
    by_cases hlt : i < 3
    · have g1 : decide ((i : Int) < (s.levels.length : Int)) = true := decide_eq_true (by omega)
      have w := wrap_succ hlt (by omega)
      obtain ⟨r, hr⟩ : ∃ r, s.levels[i]? = some r := ⟨_, List.getElem?_eq_getElem (by rw [hv.ll]; omega)⟩
      obtain ⟨x, hx⟩ : ∃ x, s.sieves[i]? = some x := ⟨_, List.getElem?_eq_getElem (by rw [hv.sl]; omega)⟩
      have hxl := (List.getElem?_eq_some_iff.1 hx).1
      have k1 := hv.has hr hx hk
      have k2 := sat_ac r k t (hs.lev r (List.mem_of_getElem? hr))
      rw [List.drop_eq_getElem_cons (by rw [hv.ll]; omega), show s.levels[i]'(by rw [hv.ll]; omega) = r from (List.getElem?_eq_some_iff.1 hr).2] at hf
      simp only [findL] at hf
      cases c1 : hasM s.keep.toNat (keysM r) k
      · rw [c1] at k1 hf
        simp only [Bool.false_eq_true, if_false] at hf
        repeat (first | apply Aw_seq | apply Aw_block | apply Aw_skip | apply Aw_exit | refine Aw_condt rfl ?_ | refine Aw_condf rfl ?_ | ((first | refine qr ?_ | refine qd (by kernel_rfl) (by kernel_rfl) ?_); simp only [go_sem, jE, reduceIte, jA, jM, jS, jL, jD, jB, g1, w, hr, hx, hxl]) | refine dk (by kernel_rfl) ?_ | (refine qp (k1) (by simp only [go_sem, jE, reduceIte, jA, jM, jS, jL, jD, jB, g1, w, hr, hx, hxl]; first | done | rfl) rfl (by simp only [go_sem, Nat.reduceLT]) rfl rfl ?_; simp only [go_sem, jE, reduceIte, jA, jM, jS, jL, jD, jB, g1, w, hr, hx, hxl]))
        refine ⟨⟨i + 1, by omega, hf⟩, [0, 1, 2], ?_, rwL (by repeat (first | exact trivial | refine ⟨rfl, rfl, ?_⟩)) (by rfl) (by simp only [go_sem, jE, reduceIte, jA, jM, jS, jL, jD, jB, zEnt]; first | done | rfl) (by decide) (by unfold idM; decide)⟩
        show 3 - (i + 1) < 3 - i; omega
      · rw [c1] at k1 hf
        simp only [if_true] at hf
        cases c2 : atM r k t with
        | some e =>
          rw [c2] at k2 hf
          simp only at hf
          subst hf
          repeat (first | apply Aw_seq | apply Aw_block | apply Aw_skip | apply Aw_exit | refine Aw_condt rfl ?_ | refine Aw_condf rfl ?_ | ((first | refine qr ?_ | refine qd (by kernel_rfl) (by kernel_rfl) ?_); simp only [go_sem, jE, reduceIte, jA, jM, jS, jL, jD, jB, g1, w, hr, hx, hxl]) | refine dk (by kernel_rfl) ?_ | (refine qp (k1) (by simp only [go_sem, jE, reduceIte, jA, jM, jS, jL, jD, jB, g1, w, hr, hx, hxl]; first | done | rfl) rfl (by simp only [go_sem, Nat.reduceLT]) rfl rfl ?_; simp only [go_sem, jE, reduceIte, jA, jM, jS, jL, jD, jB, g1, w, hr, hx, hxl]) | (refine qp (k2) (by simp only [go_sem, jE, reduceIte, jA, jM, jS, jL, jD, jB, g1, w, hr, hx, hxl]; first | done | rfl) rfl (by simp only [go_sem, Nat.reduceLT]) rfl rfl ?_; simp only [go_sem, jE, reduceIte, jA, jM, jS, jL, jD, jB, g1, w, hr, hx, hxl]))
          exact Aw_ret (ret0 (.inl rfl) (by simp only [go_sem, jE, reduceIte, jA, jM, jS, jL, jD, jB]; rfl) (by rfl) rfl)
        | none =>
          rw [c2] at k2 hf
          simp only at hf
          repeat (first | apply Aw_seq | apply Aw_block | apply Aw_skip | apply Aw_exit | refine Aw_condt rfl ?_ | refine Aw_condf rfl ?_ | ((first | refine qr ?_ | refine qd (by kernel_rfl) (by kernel_rfl) ?_); simp only [go_sem, jE, reduceIte, jA, jM, jS, jL, jD, jB, g1, w, hr, hx, hxl]) | refine dk (by kernel_rfl) ?_ | (refine qp (k1) (by simp only [go_sem, jE, reduceIte, jA, jM, jS, jL, jD, jB, g1, w, hr, hx, hxl]; first | done | rfl) rfl (by simp only [go_sem, Nat.reduceLT]) rfl rfl ?_; simp only [go_sem, jE, reduceIte, jA, jM, jS, jL, jD, jB, g1, w, hr, hx, hxl]) | (refine qp (k2) (by simp only [go_sem, jE, reduceIte, jA, jM, jS, jL, jD, jB, g1, w, hr, hx, hxl]; first | done | rfl) rfl (by simp only [go_sem, Nat.reduceLT]) rfl rfl ?_; simp only [go_sem, jE, reduceIte, jA, jM, jS, jL, jD, jB, g1, w, hr, hx, hxl]))
          refine ⟨⟨i + 1, by omega, hf⟩, [0, 1, 2], ?_, rwL (by repeat (first | exact trivial | refine ⟨rfl, rfl, ?_⟩)) (by rfl) (by simp only [go_sem, jE, reduceIte, jA, jM, jS, jL, jD, jB, zEnt]; first | done | rfl) (by decide) (by unfold idM; decide)⟩
          show 3 - (i + 1) < 3 - i; omega
    · have g1 : decide ((i : Int) < (s.levels.length : Int)) = false := decide_eq_false (by omega)
      rw [List.drop_of_length_le (by rw [hv.ll]; omega)] at hf
      simp only [findL] at hf
      subst hf
      repeat (first | apply Aw_seq | apply Aw_block | apply Aw_skip | apply Aw_exit | refine Aw_condt rfl ?_ | refine Aw_condf rfl ?_ | ((first | refine qr ?_ | refine qd (by kernel_rfl) (by kernel_rfl) ?_); simp only [go_sem, jE, reduceIte, jA, jM, jS, jL, jD, jB, g1]) | refine dk (by kernel_rfl) ?_)
      exact Aw_ret (ret0 (.inl rfl) (by simp only [go_sem, jE, reduceIte, jA, jM, jS, jL, jD, jB]; rfl) (by rfl) rfl)
theorem storeS_runs {s : Sto} (h : storeS s = true) : runOk s.top = true ∧ ∀ r ∈ s.levels, runOk r = true := by
  have hv := vst_of h
  refine ⟨?_, fun r hr => ?_⟩
  · unfold storeS headS at h
    simp only [Bool.and_eq_true] at h
    exact h.1.1.2
  · obtain ⟨i, hi⟩ := List.mem_iff_getElem?.1 hr
    have hil := (List.getElem?_eq_some_iff.1 hi).1
    have hll := hv.ll
    have hsl := hv.sl
    exact (hv.sv i r _ hi (List.getElem?_eq_getElem (show i < s.sieves.length by omega))).2.2
theorem ibitsOk_ac (s : ByteArray) (hl : s.size ≤ 400) (hb : ∀ b ∈ s.data.toList, b = 49 ∨ b = 48) : AC Tryz.prog 164 [sT s] noHp 0 ⟨.t (bT true), noHp, 0⟩ := by
  refine AC_of Tryz.func164 rfl Tryz.ntmps164 Tryz.results164 (by kernel_rfl) rfl ?_
  simp only [List.zipIdx, List.map, Nat.zero_add, Nat.reduceAdd]
  repeat (first | apply Aw_seq | apply Aw_block | apply Aw_skip | apply Aw_exit | refine Aw_condt rfl ?_ | refine Aw_condf rfl ?_ | ((first | refine qr ?_ | refine qd (by kernel_rfl) (by kernel_rfl) ?_); simp only [go_sem, jE, reduceIte, jA, jM, jS, jL, jD, jB]) | refine dk (by kernel_rfl) ?_)
  refine Aw.rw (rwL (l' := [(6, .t (iT (0 : Nat))), (5, .t (iT s.size)), (0, .t (sT s))]) (os := []) (M := []) (n' := 0) (by repeat (first | exact trivial | refine ⟨rfl, rfl, ?_⟩)) (by rfl) (by simp only [go_sem, jE, reduceIte, jA, jM, jS, jL, jD, jB]; first | done | rfl) (by decide) (by unfold idM; decide)) ?_
  refine Aw_loop_rw (ι := { i : Nat // i ≤ s.size }) (fun q => S [(6, .t (iT (q.1 : Nat))), (5, .t (iT s.size)), (0, .t (sT s))] (hpL []) 0) (fun q => s.size - q.1) ⟨0, Nat.zero_le _⟩ ?_
  rintro ⟨i, hi⟩
  dsimp only
  by_cases hlt : i < s.size
  · have g1 : decide ((i : Int) < (s.size : Int)) = true := decide_eq_true (by omega)
    have w1 := wrap_succ hlt (by omega)
    have h3 : ∀ hp, ixB hp s i = _ := fun hp => ixB_ok hlt
    have hm : s[i] ∈ s.data.toList := by show s.data[i] ∈ _; exact Array.mem_toList_iff.2 (Array.getElem_mem _)
    rcases hb _ hm with c | c
    · have g2 : decide (((s[i].toNat : Nat) : Int) = 48) = false := by rw [c]; rfl
      have g3 : decide (((s[i].toNat : Nat) : Int) = 49) = true := by rw [c]; rfl
      repeat (first | apply Aw_seq | apply Aw_block | apply Aw_skip | apply Aw_exit | refine Aw_condt rfl ?_ | refine Aw_condf rfl ?_ | ((first | refine qr ?_ | refine qd (by kernel_rfl) (by kernel_rfl) ?_); simp only [go_sem, jE, reduceIte, jA, jM, jS, jL, jD, jB, g1, h3, g2, g3, w1]) | refine dk (by kernel_rfl) ?_)
      refine ⟨⟨i + 1, hlt⟩, [], ?_, rwL (by repeat (first | exact trivial | refine ⟨rfl, rfl, ?_⟩)) (by rfl) (by simp only [go_sem, jE, reduceIte, jA, jM, jS, jL, jD, jB]; first | done | rfl) (by decide) (by unfold idM; decide)⟩
      show s.size - (i + 1) < s.size - i; omega
    · have g2 : decide (((s[i].toNat : Nat) : Int) = 48) = true := by rw [c]; rfl
      repeat (first | apply Aw_seq | apply Aw_block | apply Aw_skip | apply Aw_exit | refine Aw_condt rfl ?_ | refine Aw_condf rfl ?_ | ((first | refine qr ?_ | refine qd (by kernel_rfl) (by kernel_rfl) ?_); simp only [go_sem, jE, reduceIte, jA, jM, jS, jL, jD, jB, g1, h3, g2, w1]) | refine dk (by kernel_rfl) ?_)
      refine ⟨⟨i + 1, hlt⟩, [], ?_, rwL (by repeat (first | exact trivial | refine ⟨rfl, rfl, ?_⟩)) (by rfl) (by simp only [go_sem, jE, reduceIte, jA, jM, jS, jL, jD, jB]; first | done | rfl) (by decide) (by unfold idM; decide)⟩
      show s.size - (i + 1) < s.size - i; omega
  · have g1 : decide ((i : Int) < (s.size : Int)) = false := decide_eq_false (by omega)
    have g4 : decide ((s.size : Int) ≤ 400) = true := decide_eq_true (by omega)
    repeat (first | apply Aw_seq | apply Aw_block | apply Aw_skip | apply Aw_exit | refine Aw_condt rfl ?_ | refine Aw_condf rfl ?_ | ((first | refine qr ?_ | refine qd (by kernel_rfl) (by kernel_rfl) ?_); simp only [go_sem, jE, reduceIte, jA, jM, jS, jL, jD, jB, g1, g4]) | refine dk (by kernel_rfl) ?_)
    exact Aw_ret (ret0 (.inl rfl) (by simp only [go_sem, jE, reduceIte, jA, jM, jS, jL, jD, jB]; rfl) (by rfl) rfl)
def txT (l : List Pt) (i : Nat) : List ByteArray := (l.take i).map Prod.fst
theorem txT_0 (l : List Pt) : txT l 0 = [] := rfl
theorem txT_succ {l : List Pt} {i : Nat} {p : Pt} (h : l[i]? = some p) : txT l (i + 1) = txT l i ++ [p.1] := by unfold txT; rw [List.take_add_one, h, List.map_append]; rfl
theorem texts_ac (l : List Pt) (hl : l.length ≤ 1000) : AC Tryz.prog 167 [ptsT l] noHp 0 ⟨.t (.c (.h 0)), hpL [some (kRow (l.map Prod.fst))], 1⟩ := by
  have e : l.map Prod.fst = txT l l.length := by unfold txT; rw [List.take_length]
  rw [e]
  refine AC_of Tryz.func167 rfl Tryz.ntmps167 Tryz.results167 (by kernel_rfl) rfl ?_
  simp only [List.zipIdx, List.map, Nat.zero_add, Nat.reduceAdd]
  repeat (first | apply Aw_seq | apply Aw_block | apply Aw_skip | apply Aw_exit | refine Aw_condt rfl ?_ | refine Aw_condf rfl ?_ | ((first | refine qr ?_ | refine qd (by kernel_rfl) (by kernel_rfl) ?_); simp only [go_sem, jE, reduceIte, jA, jM, jS, jL, jD, jB]) | refine dk (by kernel_rfl) ?_)
  refine Aw.own (t := 3) (e := 9) (j := 1) rfl (by decide) (by simp only [Nat.reduceAdd]; rfl) ?_
  refine Aw.rw (rwL (l' := [(8, .t (iT (0 : Nat))), (7, .t (iT l.length)), (6, .t (ptsT l)), (3, .t (.c (.h 0)))]) (os := [some (kRow (txT l 0))]) (M := [5]) (n' := 1) (by repeat (first | exact trivial | refine ⟨rfl, rfl, ?_⟩)) (by rfl) (by simp only [go_sem, jE, reduceIte, jA, jM, jS, jL, jD, jB, txT_0, List.map_nil]; first | done | rfl) (by decide) (by unfold idM; decide)) ?_
  refine Aw_loop_rw (ι := { i : Nat // i ≤ l.length }) (fun q => S [(8, .t (iT (q.1 : Nat))), (7, .t (iT l.length)), (6, .t (ptsT l)), (3, .t (.c (.h 0)))] (hpL [some (kRow (txT l q.1))]) 1) (fun q => l.length - q.1) ⟨0, Nat.zero_le _⟩ ?_
  rintro ⟨i, hi⟩
  dsimp only
  by_cases hlt : i < l.length
  · have g1 : decide ((i : Int) < (l.length : Int)) = true := decide_eq_true (by omega)
    have w := wrap_succ hlt (by omega)
    obtain ⟨p, hp⟩ : ∃ e, l[i]? = some e := ⟨_, List.getElem?_eq_getElem hlt⟩
    have hsu := txT_succ hp
    have hb : ((txT l i).length + 1) * 16 ≤ 140737488355328 := by
      have : (txT l i).length ≤ i := by unfold txT; rw [List.length_map, List.length_take]; omega
      omega
    repeat (first | apply Aw_seq | apply Aw_block | apply Aw_skip | apply Aw_exit | refine Aw_condt rfl ?_ | refine Aw_condf rfl ?_ | ((first | refine qr ?_ | refine qd (by kernel_rfl) (by kernel_rfl) ?_); simp only [go_sem, jE, reduceIte, jA, jM, jS, jL, jD, jB, g1, w, hp, hb]) | refine dk (by kernel_rfl) ?_)
    refine ⟨⟨i + 1, hlt⟩, [10], ?_, rwL (by repeat (first | exact trivial | refine ⟨rfl, rfl, ?_⟩)) (by rfl) (by simp only [go_sem, jE, reduceIte, jA, jM, jS, jL, jD, jB, hsu, List.map_append, List.map_cons, List.map_nil]; first | done | rfl) (by decide) (by unfold idM; decide)⟩
    show l.length - (i + 1) < l.length - i; omega
  · have g1 : decide ((i : Int) < (l.length : Int)) = false := decide_eq_false (by omega)
    obtain rfl : i = l.length := by omega
    repeat (first | apply Aw_seq | apply Aw_block | apply Aw_skip | apply Aw_exit | refine Aw_condt rfl ?_ | refine Aw_condf rfl ?_ | ((first | refine qr ?_ | refine qd (by kernel_rfl) (by kernel_rfl) ?_); simp only [go_sem, jE, reduceIte, jA, jM, jS, jL, jD, jB, g1]) | refine dk (by kernel_rfl) ?_)
    exact Aw_ret (retL (M := [0]) (.inl rfl) (by simp only [go_sem, jE, reduceIte, jA, jM, jS, jL, jD, jB]; first | done | rfl) rfl rfl (by rfl) (by simp only [go_sem, jE, reduceIte, jA, jM, jS, jL, jD, jB]; first | done | rfl | (and_intros <;> rfl)) (by decide) (by unfold idM; decide))
theorem textsS_ac (l : List Pt) (hl : l.length ≤ 1000) : AC Tryz.prog 167 [ptsT l] noHp 0 ⟨.t (strsT (l.map Prod.fst)), noHp, 0⟩ := AC.settle0 [0] (texts_ac l hl) (SetC.row0 rfl rfl) rfl
def prtM (keep : Nat) (ks : List ByteArray) : List Pt := partsM keep 6 zs (ks, 0)
theorem prt_len {keep : Nat} {ks : List ByteArray} (hf : Fork (ks, 0)) : (prtM keep ks).length = ks.length := parts_len 6 hf (by omega)
theorem heads_ac {keep : Nat} {ks : List ByteArray} {s : Sve} (h : SvIs keep ks s) (hs : sieveM ks (keep : Int) = some s) : AC Tryz.prog 146 [sveP s] noHp 0 ⟨.tup [ptsT (prtM keep ks), bT true], noHp, 0⟩ := by
  have hk : keysOkM ks = true := by unfold sieveM at hs; split at hs <;> simp_all
  obtain ⟨hl, _, _⟩ := ksOk_iff hk
  obtain ⟨z1, z2, z3⟩ := h.sizes
  have hbb := h.hb
  have k1 := ibitsOk_ac s.more (by omega) fun b hb => by
    rw [h.hm] at hb
    obtain ⟨x, _, rfl⟩ := List.mem_map.1 hb
    unfold bMore; split <;> simp
  have k2 := ibitsOk_ac s.first (by omega) fun b hb => by
    rw [h.h1] at hb
    obtain ⟨f, _, hb⟩ := List.mem_flatMap.1 hb
    cases e : brs f with
    | nil => rw [e] at hb; simp [bFirst] at hb
    | cons y r => rw [e] at hb; simp [bFirst] at hb; rcases hb with hb | hb <;> simp_all
  have k3 := count_ac s.more 48
  rw [h.hm, (count_more _).2, List.countP_eq_length_filter] at k3
  have hr : s.rests.length = ((allB keep ks).filter fun b => !bMul b).length := by rw [h.hr, List.length_map]
  rw [← hr] at k3
  have k4 := isKeep_ac s.keep
  have hin : inB 0 s.keep 5 = true := by have := h.kp; rw [h.hk]; unfold inB; simp; omega
  rw [hin] at k4
  have k5 : AC Tryz.prog 166 [sveP s, iT (0 : Nat), sT zs, nlT] noHp 0 ⟨.tup [ptsT (prtM keep ks), bT true], noHp, 0⟩ := AC.settle0 [0] (partsTop_ac h 5 zs (ks, 0) 0 (allF_0 h.hf) h.hf (way_0 ks) rfl (by show ks.length ≤ 1000; omega)) (.cons (SetC.row0 rfl rfl) (.cons (.inl rfl) .nil)) rfl
  have k6 := textsS_ac (prtM keep ks) (by rw [prt_len h.hf]; omega)
  have k7 := sieveS_ac (headsM keep ks) s.keep (ksOk_iff (heads_ok (keep := keep) hk)).2.2
  rw [h.hk, show sieveM (headsM keep ks) keep = _ from heads_sieve (keep := (keep : Int)) hk, hs, ← h.hk] at k7
  have k7 : AC Tryz.prog 94 [strsT ((prtM keep ks).map Prod.fst), iT s.keep] noHp 0 ⟨.tup [sveP s, bT true], noHp, 0⟩ := k7
  have k8 := same_ac s s (by have := List.length_filter_le (fun b => !bMul b) (allB keep ks); omega)
  rw [show sveEq s s = true from sveEq_iff.2 rfl] at k8
  generalize prtM keep ks = l at k5 k6 k7 ⊢
  refine AC_of Tryz.func146 rfl Tryz.ntmps146 Tryz.results146 (by kernel_rfl) rfl ?_
  simp only [List.zipIdx, List.map, Nat.zero_add, Nat.reduceAdd]
  have e1 : decide ((s.more.size : Int) = (s.letters.size : Int)) = true := decide_eq_true (by omega)
  have e2 : decide ((s.first.size : Int) = (s.letters.size : Int)) = true := decide_eq_true (by omega)
  repeat (first | apply Aw_seq | apply Aw_block | apply Aw_skip | apply Aw_exit | refine Aw_condt rfl ?_ | refine Aw_condf rfl ?_ | ((first | refine qr ?_ | refine qd (by kernel_rfl) (by kernel_rfl) ?_); simp only [go_sem, jE, reduceIte, jA, jM, jS, jL, jD, jB, iref, e1, e2]) | refine dk (by kernel_rfl) ?_ | (refine qp (k1) (by simp only [go_sem, jE, reduceIte, jA, jM, jS, jL, jD, jB, iref, e1, e2]; first | done | rfl) rfl (by simp only [go_sem, Nat.reduceLT]) rfl rfl ?_; simp only [go_sem, jE, reduceIte, jA, jM, jS, jL, jD, jB, iref, e1, e2]) | (refine qp (k2) (by simp only [go_sem, jE, reduceIte, jA, jM, jS, jL, jD, jB, iref, e1, e2]; first | done | rfl) rfl (by simp only [go_sem, Nat.reduceLT]) rfl rfl ?_; simp only [go_sem, jE, reduceIte, jA, jM, jS, jL, jD, jB, iref, e1, e2]) | (refine qp (k3) (by simp only [go_sem, jE, reduceIte, jA, jM, jS, jL, jD, jB, iref, e1, e2]; first | done | rfl) rfl (by simp only [go_sem, Nat.reduceLT]) rfl rfl ?_; simp only [go_sem, jE, reduceIte, jA, jM, jS, jL, jD, jB, iref, e1, e2]) | (refine qp (k4) (by simp only [go_sem, jE, reduceIte, jA, jM, jS, jL, jD, jB, iref, e1, e2]; first | done | rfl) rfl (by simp only [go_sem, Nat.reduceLT]) rfl rfl ?_; simp only [go_sem, jE, reduceIte, jA, jM, jS, jL, jD, jB, iref, e1, e2]) | (refine qp (k5) (by simp only [go_sem, jE, reduceIte, jA, jM, jS, jL, jD, jB, iref, e1, e2]; first | done | rfl) rfl (by simp only [go_sem, Nat.reduceLT]) rfl rfl ?_; simp only [go_sem, jE, reduceIte, jA, jM, jS, jL, jD, jB, iref, e1, e2]) | (refine qp (k6) (by simp only [go_sem, jE, reduceIte, jA, jM, jS, jL, jD, jB, iref, e1, e2]; first | done | rfl) rfl (by simp only [go_sem, Nat.reduceLT]) rfl rfl ?_; simp only [go_sem, jE, reduceIte, jA, jM, jS, jL, jD, jB, iref, e1, e2]) | (refine qp (k7) (by simp only [go_sem, jE, reduceIte, jA, jM, jS, jL, jD, jB, iref, e1, e2]; first | done | rfl) rfl (by simp only [go_sem, Nat.reduceLT]) rfl rfl ?_; simp only [go_sem, jE, reduceIte, jA, jM, jS, jL, jD, jB, iref, e1, e2]) | (refine qp (k8) (by simp only [go_sem, jE, reduceIte, jA, jM, jS, jL, jD, jB, iref, e1, e2]; first | done | rfl) rfl (by simp only [go_sem, Nat.reduceLT]) rfl rfl ?_; simp only [go_sem, jE, reduceIte, jA, jM, jS, jL, jD, jB, iref, e1, e2]))
  exact Aw_ret (ret0 (.inl rfl) (by simp only [go_sem, jE, reduceIte, jA, jM, jS, jL, jD, jB]; rfl) (by rfl) rfl)
def behB (f : ByteArray) (p : Pt) : Bool := !klt p.1 f || (!p.2 && begB f p.1)
def seekR : Option Pt → List TV
  | none => [sT zs, bT false]
  | some p => [sT p.1, bT true]
theorem seek_ac {keep : Nat} {ks : List ByteArray} {s : Sve} (h : SvIs keep ks s) (hs : sieveM ks (keep : Int) = some s) (f : ByteArray) (hf : keyOk f = true) : AC Tryz.prog 112 [sveP s, sT f] noHp 0 ⟨.tup (seekR ((prtM keep ks).find? (behB f))), noHp, 0⟩ := by
  have hk : keysOkM ks = true := by unfold sieveM at hs; split at hs <;> simp_all
  obtain ⟨hl, _, _⟩ := ksOk_iff hk
  have k1 := heads_ac h hs
  have k2 := keyOk_ac f (by have := keyOk_size hf; unfold smK; omega)
  rw [hf] at k2
  have hpl : (prtM keep ks).length ≤ 1000 := by rw [prt_len h.hf]; omega
  generalize prtM keep ks = l at k1 hpl ⊢
  refine AC_of Tryz.func112 rfl Tryz.ntmps112 Tryz.results112 (by kernel_rfl) rfl ?_
  simp only [List.zipIdx, List.map, Nat.zero_add, Nat.reduceAdd]
  repeat (first | apply Aw_seq | apply Aw_block | apply Aw_skip | apply Aw_exit | refine Aw_condt rfl ?_ | refine Aw_condf rfl ?_ | ((first | refine qr ?_ | refine qd (by kernel_rfl) (by kernel_rfl) ?_); simp only [go_sem, jE, reduceIte, jA, jM, jS, jL, jD, jB]) | refine dk (by kernel_rfl) ?_ | (refine qp (k1) (by simp only [go_sem, jE, reduceIte, jA, jM, jS, jL, jD, jB]; first | done | rfl) rfl (by simp only [go_sem, Nat.reduceLT]) rfl rfl ?_; simp only [go_sem, jE, reduceIte, jA, jM, jS, jL, jD, jB]) | (refine qp (k2) (by simp only [go_sem, jE, reduceIte, jA, jM, jS, jL, jD, jB]; first | done | rfl) rfl (by simp only [go_sem, Nat.reduceLT]) rfl rfl ?_; simp only [go_sem, jE, reduceIte, jA, jM, jS, jL, jD, jB]))
  refine Aw.rw (rwL (l' := [(24, .t (iT (0 : Nat))), (23, .t (iT l.length)), (22, .t (ptsT l)), (1, .t (sT f))]) (os := []) (M := []) (n' := 0) (by repeat (first | exact trivial | refine ⟨rfl, rfl, ?_⟩)) (by rfl) (by simp only [go_sem, jE, reduceIte, jA, jM, jS, jL, jD, jB]; first | done | rfl) (by decide) (by unfold idM; decide)) ?_
  refine Aw_loop_rw (ι := { j : Nat // j ≤ l.length ∧ ∀ q, q < j → ∀ y, l[q]? = some y → behB f y = false }) (fun q => S [(24, .t (iT (q.1 : Nat))), (23, .t (iT l.length)), (22, .t (ptsT l)), (1, .t (sT f))] (hpL []) 0) (fun q => l.length - q.1) ⟨0, Nat.zero_le _, fun j hj => absurd hj (by omega)⟩ ?_
  rintro ⟨j, hj, hq⟩
  dsimp only
  by_cases hjl : j < l.length
  · have g1 : decide ((j : Int) < (l.length : Int)) = true := decide_eq_true (by omega)
    have g2 := wrap_succ hjl (by omega)
    obtain ⟨p, hp⟩ : ∃ e, l[j]? = some e := ⟨_, List.getElem?_eq_getElem hjl⟩
    have k3 := keyBegins_ac f p.1
    have nx : behB f p = false → ∀ q, q < j + 1 → ∀ z, l[q]? = some z → behB f z = false := fun hb q hqj z hz => by
      rcases Nat.lt_succ_iff_lt_or_eq.1 hqj with h | rfl
      · exact hq q h z hz
      · rw [hp] at hz; rw [← Option.some.inj hz]; exact hb
    have hit : behB f p = true → l.find? (behB f) = some p := fun hb => findB_hit hq hp hb
    cases c1 : klt p.1 f
    · rw [hit (by unfold behB; rw [c1]; rfl)]
      repeat (first | apply Aw_seq | apply Aw_block | apply Aw_skip | apply Aw_exit | refine Aw_condt rfl ?_ | refine Aw_condf rfl ?_ | ((first | refine qr ?_ | refine qd (by kernel_rfl) (by kernel_rfl) ?_); simp only [go_sem, jE, reduceIte, jA, jM, jS, jL, jD, jB, g1, hp, kle_not, c1]) | refine dk (by kernel_rfl) ?_)
      exact Aw_ret (ret0 (.inl rfl) (by simp only [go_sem, jE, reduceIte, jA, jM, jS, jL, jD, jB]; rfl) (by rfl) rfl)
    · cases c2 : p.2
      · cases c3 : begB f p.1
        · have nx := nx (by unfold behB; rw [c1, c2, c3]; rfl)
          rw [c3] at k3
          repeat (first | apply Aw_seq | apply Aw_block | apply Aw_skip | apply Aw_exit | refine Aw_condt rfl ?_ | refine Aw_condf rfl ?_ | ((first | refine qr ?_ | refine qd (by kernel_rfl) (by kernel_rfl) ?_); simp only [go_sem, jE, reduceIte, jA, jM, jS, jL, jD, jB, g1, g2, hp, kle_not, c1, c2]) | refine dk (by kernel_rfl) ?_ | (refine qp (k3) (by simp only [go_sem, jE, reduceIte, jA, jM, jS, jL, jD, jB, g1, g2, hp, kle_not, c1, c2]; first | done | rfl) rfl (by simp only [go_sem, Nat.reduceLT]) rfl rfl ?_; simp only [go_sem, jE, reduceIte, jA, jM, jS, jL, jD, jB, g1, g2, hp, kle_not, c1, c2]))
          refine ⟨⟨j + 1, hjl, nx⟩, [], ?_, rwL (by repeat (first | exact trivial | refine ⟨rfl, rfl, ?_⟩)) (by rfl) (by simp only [go_sem, jE, reduceIte, jA, jM, jS, jL, jD, jB]; first | done | rfl) (by decide) (by unfold idM; decide)⟩
          show l.length - (j + 1) < l.length - j; omega
        · rw [c3] at k3
          rw [hit (by unfold behB; rw [c1, c2, c3]; rfl)]
          repeat (first | apply Aw_seq | apply Aw_block | apply Aw_skip | apply Aw_exit | refine Aw_condt rfl ?_ | refine Aw_condf rfl ?_ | ((first | refine qr ?_ | refine qd (by kernel_rfl) (by kernel_rfl) ?_); simp only [go_sem, jE, reduceIte, jA, jM, jS, jL, jD, jB, g1, hp, kle_not, c1, c2]) | refine dk (by kernel_rfl) ?_ | (refine qp (k3) (by simp only [go_sem, jE, reduceIte, jA, jM, jS, jL, jD, jB, g1, hp, kle_not, c1, c2]; first | done | rfl) rfl (by simp only [go_sem, Nat.reduceLT]) rfl rfl ?_; simp only [go_sem, jE, reduceIte, jA, jM, jS, jL, jD, jB, g1, hp, kle_not, c1, c2]))
          exact Aw_ret (ret0 (.inl rfl) (by simp only [go_sem, jE, reduceIte, jA, jM, jS, jL, jD, jB]; rfl) (by rfl) rfl)
      · have nx := nx (by unfold behB; rw [c1, c2]; rfl)
        repeat (first | apply Aw_seq | apply Aw_block | apply Aw_skip | apply Aw_exit | refine Aw_condt rfl ?_ | refine Aw_condf rfl ?_ | ((first | refine qr ?_ | refine qd (by kernel_rfl) (by kernel_rfl) ?_); simp only [go_sem, jE, reduceIte, jA, jM, jS, jL, jD, jB, g1, g2, hp, kle_not, c1, c2]) | refine dk (by kernel_rfl) ?_)
        refine ⟨⟨j + 1, hjl, nx⟩, [], ?_, rwL (by repeat (first | exact trivial | refine ⟨rfl, rfl, ?_⟩)) (by rfl) (by simp only [go_sem, jE, reduceIte, jA, jM, jS, jL, jD, jB]; first | done | rfl) (by decide) (by unfold idM; decide)⟩
        show l.length - (j + 1) < l.length - j; omega
  · have g1 : decide ((j : Int) < (l.length : Int)) = false := decide_eq_false (by omega)
    have e : l.find? (behB f) = none := findB_none fun t ht y hy => hq t (by omega) y hy
    rw [e]
    repeat (first | apply Aw_seq | apply Aw_block | apply Aw_skip | apply Aw_exit | refine Aw_condt rfl ?_ | refine Aw_condf rfl ?_ | ((first | refine qr ?_ | refine qd (by kernel_rfl) (by kernel_rfl) ?_); simp only [go_sem, jE, reduceIte, jA, jM, jS, jL, jD, jB, g1]) | refine dk (by kernel_rfl) ?_)
    exact Aw_ret (ret0 (.inl rfl) (by simp only [go_sem, jE, reduceIte, jA, jM, jS, jL, jD, jB]; rfl) (by rfl) rfl)
def meetsM (keep : Nat) (ks : List ByteArray) (f t : ByteArray) : Bool := !klt t f && match (prtM keep ks).find? (behB f) with
  | none => false
  | some p => !klt t p.1
theorem meets_ac {keep : Nat} {ks : List ByteArray} {s : Sve} (h : SvIs keep ks s) (hs : sieveM ks (keep : Int) = some s) (f t : ByteArray) (hf : keyOk f = true) (ht : keyOk t = true) : AC Tryz.prog 69 [sveP s, sT f, sT t] noHp 0 ⟨.t (bT (meetsM keep ks f t)), noHp, 0⟩ := by
  have k1 := keyOk_ac f (by have := keyOk_size hf; unfold smK; omega)
  have k2 := keyOk_ac t (by have := keyOk_size ht; unfold smK; omega)
  rw [hf] at k1
  rw [ht] at k2
  have k3 := seek_ac h hs f hf
  unfold meetsM
  refine AC_of Tryz.func69 rfl Tryz.ntmps69 Tryz.results69 (by kernel_rfl) rfl ?_
  simp only [List.zipIdx, List.map, Nat.zero_add, Nat.reduceAdd]
  cases c1 : klt t f
  · cases c2 : (prtM keep ks).find? (behB f) with
    | none =>
      rw [c2] at k3
      have k3 : AC Tryz.prog 112 [sveP s, sT f] noHp 0 ⟨.tup [sT zs, bT false], noHp, 0⟩ := k3
      repeat (first | apply Aw_seq | apply Aw_block | apply Aw_skip | apply Aw_exit | refine Aw_condt rfl ?_ | refine Aw_condf rfl ?_ | ((first | refine qr ?_ | refine qd (by kernel_rfl) (by kernel_rfl) ?_); simp only [go_sem, jE, reduceIte, jA, jM, jS, jL, jD, jB, kle_not, c1]) | refine dk (by kernel_rfl) ?_ | (refine qp (k1) (by simp only [go_sem, jE, reduceIte, jA, jM, jS, jL, jD, jB, kle_not, c1]; first | done | rfl) rfl (by simp only [go_sem, Nat.reduceLT]) rfl rfl ?_; simp only [go_sem, jE, reduceIte, jA, jM, jS, jL, jD, jB, kle_not, c1]) | (refine qp (k2) (by simp only [go_sem, jE, reduceIte, jA, jM, jS, jL, jD, jB, kle_not, c1]; first | done | rfl) rfl (by simp only [go_sem, Nat.reduceLT]) rfl rfl ?_; simp only [go_sem, jE, reduceIte, jA, jM, jS, jL, jD, jB, kle_not, c1]) | (refine qp (k3) (by simp only [go_sem, jE, reduceIte, jA, jM, jS, jL, jD, jB, kle_not, c1]; first | done | rfl) rfl (by simp only [go_sem, Nat.reduceLT]) rfl rfl ?_; simp only [go_sem, jE, reduceIte, jA, jM, jS, jL, jD, jB, kle_not, c1]))
      exact Aw_ret (ret0 (.inl rfl) (by simp only [go_sem, jE, reduceIte, jA, jM, jS, jL, jD, jB]; rfl) (by rfl) rfl)
    | some p =>
      rw [c2] at k3
      have k3 : AC Tryz.prog 112 [sveP s, sT f] noHp 0 ⟨.tup [sT p.1, bT true], noHp, 0⟩ := k3
      repeat (first | apply Aw_seq | apply Aw_block | apply Aw_skip | apply Aw_exit | refine Aw_condt rfl ?_ | refine Aw_condf rfl ?_ | ((first | refine qr ?_ | refine qd (by kernel_rfl) (by kernel_rfl) ?_); simp only [go_sem, jE, reduceIte, jA, jM, jS, jL, jD, jB, kle_not, c1]) | refine dk (by kernel_rfl) ?_ | (refine qp (k1) (by simp only [go_sem, jE, reduceIte, jA, jM, jS, jL, jD, jB, kle_not, c1]; first | done | rfl) rfl (by simp only [go_sem, Nat.reduceLT]) rfl rfl ?_; simp only [go_sem, jE, reduceIte, jA, jM, jS, jL, jD, jB, kle_not, c1]) | (refine qp (k2) (by simp only [go_sem, jE, reduceIte, jA, jM, jS, jL, jD, jB, kle_not, c1]; first | done | rfl) rfl (by simp only [go_sem, Nat.reduceLT]) rfl rfl ?_; simp only [go_sem, jE, reduceIte, jA, jM, jS, jL, jD, jB, kle_not, c1]) | (refine qp (k3) (by simp only [go_sem, jE, reduceIte, jA, jM, jS, jL, jD, jB, kle_not, c1]; first | done | rfl) rfl (by simp only [go_sem, Nat.reduceLT]) rfl rfl ?_; simp only [go_sem, jE, reduceIte, jA, jM, jS, jL, jD, jB, kle_not, c1]))
      exact Aw_ret (ret0 (.inl rfl) (by simp only [go_sem, jE, reduceIte, jA, jM, jS, jL, jD, jB]; rfl) (by rfl) rfl)
  · repeat (first | apply Aw_seq | apply Aw_block | apply Aw_skip | apply Aw_exit | refine Aw_condt rfl ?_ | refine Aw_condf rfl ?_ | ((first | refine qr ?_ | refine qd (by kernel_rfl) (by kernel_rfl) ?_); simp only [go_sem, jE, reduceIte, jA, jM, jS, jL, jD, jB, kle_not, c1]) | refine dk (by kernel_rfl) ?_ | (refine qp (k1) (by simp only [go_sem, jE, reduceIte, jA, jM, jS, jL, jD, jB, kle_not, c1]; first | done | rfl) rfl (by simp only [go_sem, Nat.reduceLT]) rfl rfl ?_; simp only [go_sem, jE, reduceIte, jA, jM, jS, jL, jD, jB, kle_not, c1]) | (refine qp (k2) (by simp only [go_sem, jE, reduceIte, jA, jM, jS, jL, jD, jB, kle_not, c1]; first | done | rfl) rfl (by simp only [go_sem, Nat.reduceLT]) rfl rfl ?_; simp only [go_sem, jE, reduceIte, jA, jM, jS, jL, jD, jB, kle_not, c1]))
    exact Aw_ret (ret0 (.inl rfl) (by simp only [go_sem, jE, reduceIte, jA, jM, jS, jL, jD, jB]; rfl) (by rfl) rfl)
def behI (l : List Pt) (f : ByteArray) : Nat := (l.findIdx? (behB f)).getD l.length
theorem behI_hit {l : List Pt} {f : ByteArray} {j : Nat} {p : Pt} (hq : ∀ q, q < j → ∀ y, l[q]? = some y → behB f y = false) (hp : l[j]? = some p) (h : behB f p = true) : behI l f = j := by
  have hl := (List.getElem?_eq_some_iff.1 hp).1
  have : l.findIdx? (behB f) = some j := by
    rw [List.findIdx?_eq_some_iff_getElem]
    refine ⟨hl, ?_, fun q hqj => ?_⟩
    · rw [List.getElem?_eq_getElem hl] at hp; rw [Option.some.inj hp]; exact h
    · have := hq q hqj _ (List.getElem?_eq_getElem (by omega)); simp [this]
  unfold behI; rw [this]; rfl
theorem behI_none {l : List Pt} {f : ByteArray} (hq : ∀ q, q < l.length → ∀ y, l[q]? = some y → behB f y = false) : behI l f = l.length := by
  have : l.findIdx? (behB f) = none := by
    rw [List.findIdx?_eq_none_iff]
    intro x hx
    obtain ⟨i, hi⟩ := List.mem_iff_getElem?.1 hx
    exact hq i (List.getElem?_eq_some_iff.1 hi).1 x hi
  unfold behI; rw [this]; rfl
theorem behI_find (l : List Pt) (f : ByteArray) : (behI l f = l.length ∧ l.find? (behB f) = none) ∨ ∃ p, l[behI l f]? = some p ∧ l.find? (behB f) = some p := by
  cases h : l.findIdx? (behB f) with
  | none =>
    left
    rw [List.findIdx?_eq_none_iff] at h
    refine ⟨by unfold behI; rw [List.findIdx?_eq_none_iff.2 h]; rfl, ?_⟩
    rw [List.find?_eq_none]
    intro x hx; rw [h x hx]; simp
  | some i =>
    right
    have hb : behI l f = i := by unfold behI; rw [h]; rfl
    rw [List.findIdx?_eq_some_iff_getElem] at h
    obtain ⟨h1, h2, h3⟩ := h
    rw [hb]
    refine ⟨l[i], List.getElem?_eq_getElem h1, findB_hit (a := i) (fun t ht y hy => ?_) (List.getElem?_eq_getElem h1) h2⟩
    have ht2 : t < l.length := by omega
    rw [List.getElem?_eq_getElem ht2] at hy
    have := h3 t ht
    rw [Option.some.inj hy] at this
    simpa using this
theorem l3Behind_ac (l : List Pt) (f : ByteArray) (hl : l.length ≤ 1000) : AC Tryz.prog 98 [strsT (l.map Prod.fst), boolsT (l.map Prod.snd), sT f] noHp 0 ⟨.t (iT (behI l f : Nat)), noHp, 0⟩ := by
  obtain ⟨H, hH⟩ : ∃ H, H = l.map Prod.fst := ⟨_, rfl⟩
  obtain ⟨W, hW⟩ : ∃ W, W = l.map Prod.snd := ⟨_, rfl⟩
  rw [← hH, ← hW]
  have hHl : H.length = l.length := by rw [hH, List.length_map]
  have hWl : W.length = l.length := by rw [hW, List.length_map]
  refine AC_of Tryz.func98 rfl Tryz.ntmps98 Tryz.results98 (by kernel_rfl) rfl ?_
  simp only [List.zipIdx, List.map, Nat.zero_add, Nat.reduceAdd]
  repeat (first | apply Aw_seq | apply Aw_block | apply Aw_skip | apply Aw_exit | refine Aw_condt rfl ?_ | refine Aw_condf rfl ?_ | ((first | refine qr ?_ | refine qd (by kernel_rfl) (by kernel_rfl) ?_); simp only [go_sem, jE, reduceIte, jA, jM, jS, jL, jD, jB]) | refine dk (by kernel_rfl) ?_)
  refine Aw.rw (rwL (l' := [(7, .t (iT (0 : Nat))), (2, .t (sT f)), (1, .t (boolsT W)), (0, .t (strsT H))]) (os := []) (M := []) (n' := 0) (by repeat (first | exact trivial | refine ⟨rfl, rfl, ?_⟩)) (by rfl) (by simp only [go_sem, jE, reduceIte, jA, jM, jS, jL, jD, jB]; first | done | rfl) (by decide) (by unfold idM; decide)) ?_
  refine Aw_loop_rw (ι := { j : Nat // j ≤ l.length ∧ ∀ q, q < j → ∀ y, l[q]? = some y → behB f y = false }) (fun q => S [(7, .t (iT (q.1 : Nat))), (2, .t (sT f)), (1, .t (boolsT W)), (0, .t (strsT H))] (hpL []) 0) (fun q => l.length - q.1) ⟨0, Nat.zero_le _, fun j hj => absurd hj (by omega)⟩ ?_
  rintro ⟨j, hj, hq⟩
  dsimp only
  by_cases hjl : j < l.length
  · have g1 : decide ((j : Int) < (H.length : Int)) = true := decide_eq_true (by omega)
    have g2 := wrap_succ hjl (by omega)
    obtain ⟨p, hp⟩ : ∃ e, l[j]? = some e := ⟨_, List.getElem?_eq_getElem hjl⟩
    have hp1 : H[j]? = some p.1 := by rw [hH, List.getElem?_map, hp]; rfl
    have hp2 : W[j]? = some p.2 := by rw [hW, List.getElem?_map, hp]; rfl
    have k3 := skeyBegins_ac f p.1
    have nx : behB f p = false → ∀ q, q < j + 1 → ∀ z, l[q]? = some z → behB f z = false := fun hb q hqj z hz => by
      rcases Nat.lt_succ_iff_lt_or_eq.1 hqj with h | rfl
      · exact hq q h z hz
      · rw [hp] at hz; rw [← Option.some.inj hz]; exact hb
    cases c1 : klt p.1 f
    · rw [behI_hit hq hp (by unfold behB; rw [c1]; rfl)]
      repeat (first | apply Aw_seq | apply Aw_block | apply Aw_skip | apply Aw_exit | refine Aw_condt rfl ?_ | refine Aw_condf rfl ?_ | ((first | refine qr ?_ | refine qd (by kernel_rfl) (by kernel_rfl) ?_); simp only [go_sem, jE, reduceIte, jA, jM, jS, jL, jD, jB, g1, hp1, hp2, kle_not, c1]) | refine dk (by kernel_rfl) ?_)
      exact Aw_ret (ret0 (.inl rfl) (by simp only [go_sem, jE, reduceIte, jA, jM, jS, jL, jD, jB]; rfl) (by rfl) rfl)
    · cases c2 : p.2
      · cases c3 : begB f p.1
        · have nx := nx (by unfold behB; rw [c1, c2, c3]; rfl)
          rw [c3] at k3
          repeat (first | apply Aw_seq | apply Aw_block | apply Aw_skip | apply Aw_exit | refine Aw_condt rfl ?_ | refine Aw_condf rfl ?_ | ((first | refine qr ?_ | refine qd (by kernel_rfl) (by kernel_rfl) ?_); simp only [go_sem, jE, reduceIte, jA, jM, jS, jL, jD, jB, g1, g2, hp1, hp2, kle_not, c1, c2]) | refine dk (by kernel_rfl) ?_ | (refine qp (k3) (by simp only [go_sem, jE, reduceIte, jA, jM, jS, jL, jD, jB, g1, g2, hp1, hp2, kle_not, c1, c2]; first | done | rfl) rfl (by simp only [go_sem, Nat.reduceLT]) rfl rfl ?_; simp only [go_sem, jE, reduceIte, jA, jM, jS, jL, jD, jB, g1, g2, hp1, hp2, kle_not, c1, c2]))
          refine ⟨⟨j + 1, hjl, nx⟩, [], ?_, rwL (by repeat (first | exact trivial | refine ⟨rfl, rfl, ?_⟩)) (by rfl) (by simp only [go_sem, jE, reduceIte, jA, jM, jS, jL, jD, jB]; first | done | rfl) (by decide) (by unfold idM; decide)⟩
          show l.length - (j + 1) < l.length - j; omega
        · rw [c3] at k3
          rw [behI_hit hq hp (by unfold behB; rw [c1, c2, c3]; rfl)]
          repeat (first | apply Aw_seq | apply Aw_block | apply Aw_skip | apply Aw_exit | refine Aw_condt rfl ?_ | refine Aw_condf rfl ?_ | ((first | refine qr ?_ | refine qd (by kernel_rfl) (by kernel_rfl) ?_); simp only [go_sem, jE, reduceIte, jA, jM, jS, jL, jD, jB, g1, hp1, hp2, kle_not, c1, c2]) | refine dk (by kernel_rfl) ?_ | (refine qp (k3) (by simp only [go_sem, jE, reduceIte, jA, jM, jS, jL, jD, jB, g1, hp1, hp2, kle_not, c1, c2]; first | done | rfl) rfl (by simp only [go_sem, Nat.reduceLT]) rfl rfl ?_; simp only [go_sem, jE, reduceIte, jA, jM, jS, jL, jD, jB, g1, hp1, hp2, kle_not, c1, c2]))
          exact Aw_ret (ret0 (.inl rfl) (by simp only [go_sem, jE, reduceIte, jA, jM, jS, jL, jD, jB]; rfl) (by rfl) rfl)
      · have nx := nx (by unfold behB; rw [c1, c2]; rfl)
        repeat (first | apply Aw_seq | apply Aw_block | apply Aw_skip | apply Aw_exit | refine Aw_condt rfl ?_ | refine Aw_condf rfl ?_ | ((first | refine qr ?_ | refine qd (by kernel_rfl) (by kernel_rfl) ?_); simp only [go_sem, jE, reduceIte, jA, jM, jS, jL, jD, jB, g1, g2, hp1, hp2, kle_not, c1, c2]) | refine dk (by kernel_rfl) ?_)
        refine ⟨⟨j + 1, hjl, nx⟩, [], ?_, rwL (by repeat (first | exact trivial | refine ⟨rfl, rfl, ?_⟩)) (by rfl) (by simp only [go_sem, jE, reduceIte, jA, jM, jS, jL, jD, jB]; first | done | rfl) (by decide) (by unfold idM; decide)⟩
        show l.length - (j + 1) < l.length - j; omega
  · have g1 : decide ((j : Int) < (H.length : Int)) = false := decide_eq_false (by omega)
    have e : behI l f = l.length := behI_none fun t ht y hy => hq t (by omega) y hy
    rw [e, ← hHl]
    repeat (first | apply Aw_seq | apply Aw_block | apply Aw_skip | apply Aw_exit | refine Aw_condt rfl ?_ | refine Aw_condf rfl ?_ | ((first | refine qr ?_ | refine qd (by kernel_rfl) (by kernel_rfl) ?_); simp only [go_sem, jE, reduceIte, jA, jM, jS, jL, jD, jB, g1]) | refine dk (by kernel_rfl) ?_)
    exact Aw_ret (ret0 (.inl rfl) (by simp only [go_sem, jE, reduceIte, jA, jM, jS, jL, jD, jB]; rfl) (by rfl) rfl)
theorem smeets_ac {keep : Nat} {ks : List ByteArray} {s : Sve} (h : SvIs keep ks s) (hs : sieveM ks (keep : Int) = some s) (f t : ByteArray) (hf : keyOk f = true) (ht : keyOk t = true) : AC Tryz.prog 62 [sveP s, sT f, sT t] noHp 0 ⟨.t (bT (meetsM keep ks f t)), noHp, 0⟩ := by
  have hk : keysOkM ks = true := by unfold sieveM at hs; split at hs <;> simp_all
  obtain ⟨hl, _, _⟩ := ksOk_iff hk
  have k0 := ssieveOk_ac h hs
  have k1 := skeyOk_ac f (by have := keyOk_size hf; unfold smK; omega)
  have k2 := skeyOk_ac t (by have := keyOk_size ht; unfold smK; omega)
  rw [hf] at k1
  rw [ht] at k2
  have k3 := l3Heads_ac h (by omega)
  have k4 := first_ac h (n := 1) (by omega)
  have k5 := l3Wholes_ac h 6 zs (ks, 0) 0 [] (allF_0 h.hf) h.hf (way_0 ks) rfl (by simpa using (by omega : ks.length ≤ 1000))
  have e0 : offB keep ks 0 = 0 := rfl
  rw [e0, List.nil_append, Nat.zero_add] at k5
  have hpl : (prtM keep ks).length ≤ 1000 := by rw [prt_len h.hf]; omega
  have k6 := AC.toL (l3Behind_ac (prtM keep ks) f hpl)
  have hbf := behI_find (prtM keep ks) f
  have k3 : AC Tryz.prog 97 [sveP s] noHp 0 ⟨.t (strsT ((prtM keep ks).map Prod.fst)), noHp, 0⟩ := k3
  have k5 : AC Tryz.prog 99 [sveP s, iT (0 : Nat), iT (offB keep ks 1 : Nat), .c (.h 0)] (hpL [some (wRow [])]) 1 ⟨.t (.c (.h 1)), hpL [none, some (wRow ((prtM keep ks).map Prod.snd))], 2⟩ := k5
  unfold meetsM
  generalize prtM keep ks = l at k3 k5 k6 hbf hpl ⊢
  generalize offB keep ks 1 = m at *
  obtain ⟨H, hH⟩ : ∃ H, H = l.map Prod.fst := ⟨_, rfl⟩
  have hHl : H.length = l.length := by rw [hH, List.length_map]
  rw [← hH] at k3 k6
  cases c1 : klt t f
  case true =>
    refine AC_of Tryz.func62 rfl Tryz.ntmps62 Tryz.results62 (by kernel_rfl) rfl ?_
    simp only [List.zipIdx, List.map, Nat.zero_add, Nat.reduceAdd]
    repeat (first | apply Aw_seq | apply Aw_block | apply Aw_skip | apply Aw_exit | refine Aw_condt rfl ?_ | refine Aw_condf rfl ?_ | ((first | refine qr ?_ | refine qd (by kernel_rfl) (by kernel_rfl) ?_); simp only [go_sem, jE, reduceIte, jA, jM, jS, jL, jD, jB, kle_not, c1]) | refine dk (by kernel_rfl) ?_ | (refine qp (k0) (by simp only [go_sem, jE, reduceIte, jA, jM, jS, jL, jD, jB, kle_not, c1]; first | done | rfl) rfl (by simp only [go_sem, Nat.reduceLT]) rfl rfl ?_; simp only [go_sem, jE, reduceIte, jA, jM, jS, jL, jD, jB, kle_not, c1]) | (refine qp (k1) (by simp only [go_sem, jE, reduceIte, jA, jM, jS, jL, jD, jB, kle_not, c1]; first | done | rfl) rfl (by simp only [go_sem, Nat.reduceLT]) rfl rfl ?_; simp only [go_sem, jE, reduceIte, jA, jM, jS, jL, jD, jB, kle_not, c1]) | (refine qp (k2) (by simp only [go_sem, jE, reduceIte, jA, jM, jS, jL, jD, jB, kle_not, c1]; first | done | rfl) rfl (by simp only [go_sem, Nat.reduceLT]) rfl rfl ?_; simp only [go_sem, jE, reduceIte, jA, jM, jS, jL, jD, jB, kle_not, c1]))
    exact Aw_ret (ret0 (.inl rfl) (by simp only [go_sem, jE, reduceIte, jA, jM, jS, jL, jD, jB]; rfl) (by rfl) rfl)
  rcases hbf with ⟨e1, e2⟩ | ⟨p, e1, e2⟩
  · rw [e2]
    rw [e1] at k6
    have g1 : decide ((l.length : Int) < (H.length : Int)) = false := decide_eq_false (by omega)
    refine AC_of Tryz.func62 rfl Tryz.ntmps62 Tryz.results62 (by kernel_rfl) rfl ?_
    simp only [List.zipIdx, List.map, Nat.zero_add, Nat.reduceAdd]
    repeat (first | apply Aw_seq | apply Aw_block | apply Aw_skip | apply Aw_exit | refine Aw_condt rfl ?_ | refine Aw_condf rfl ?_ | ((first | refine qr ?_ | refine qd (by kernel_rfl) (by kernel_rfl) ?_); simp only [go_sem, jE, reduceIte, jA, jM, jS, jL, jD, jB, kle_not, c1, g1]) | refine dk (by kernel_rfl) ?_ | (refine qp (k0) (by simp only [go_sem, jE, reduceIte, jA, jM, jS, jL, jD, jB, kle_not, c1, g1]; first | done | rfl) rfl (by simp only [go_sem, Nat.reduceLT]) rfl rfl ?_; simp only [go_sem, jE, reduceIte, jA, jM, jS, jL, jD, jB, kle_not, c1, g1]) | (refine qp (k1) (by simp only [go_sem, jE, reduceIte, jA, jM, jS, jL, jD, jB, kle_not, c1, g1]; first | done | rfl) rfl (by simp only [go_sem, Nat.reduceLT]) rfl rfl ?_; simp only [go_sem, jE, reduceIte, jA, jM, jS, jL, jD, jB, kle_not, c1, g1]) | (refine qp (k2) (by simp only [go_sem, jE, reduceIte, jA, jM, jS, jL, jD, jB, kle_not, c1, g1]; first | done | rfl) rfl (by simp only [go_sem, Nat.reduceLT]) rfl rfl ?_; simp only [go_sem, jE, reduceIte, jA, jM, jS, jL, jD, jB, kle_not, c1, g1]) | (refine qp (k3) (by simp only [go_sem, jE, reduceIte, jA, jM, jS, jL, jD, jB, kle_not, c1, g1]; first | done | rfl) rfl (by simp only [go_sem, Nat.reduceLT]) rfl rfl ?_; simp only [go_sem, jE, reduceIte, jA, jM, jS, jL, jD, jB, kle_not, c1, g1]) | (refine qp (k4) (by simp only [go_sem, jE, reduceIte, jA, jM, jS, jL, jD, jB, kle_not, c1, g1]; first | done | rfl) rfl (by simp only [go_sem, Nat.reduceLT]) rfl rfl ?_; simp only [go_sem, jE, reduceIte, jA, jM, jS, jL, jD, jB, kle_not, c1, g1]) | (refine qx (call_L (N' := [23]) (L := []) (k5) rfl (.cons (.nm rfl) (.cons (.nm rfl) (.cons (.nm rfl) (.cons (.nm rfl) (.nil))))) (by decide) (by decide) (by decide) (by simp only [go_sem, jE, reduceIte, jA, jM, jS, jL, jD, jB, kle_not, c1, g1]; first | done | rfl) (.inl rfl) rfl (by decide)) (by simp only [go_sem, jE, reduceIte, jA, jM, jS, jL, jD, jB, kle_not, c1, g1]; first | done | rfl) rfl (by simp only [go_sem, Nat.reduceLT]) ?_; simp only [go_sem, jE, reduceIte, jA, jM, jS, jL, jD, jB, kle_not, c1, g1]) | (refine qx (call_N (L := [24]) (k6) rfl (.cons (.nm rfl) (.cons (arg_lend (m := 24) rfl (by simp)) (.cons (.nm rfl) (.nil)))) (.inr ⟨rfl, by simp⟩) rfl) (by simp only [go_sem, jE, reduceIte, jA, jM, jS, jL, jD, jB, kle_not, c1, g1]; first | done | rfl) rfl (by simp only [go_sem, Nat.reduceLT]) ?_; simp only [go_sem, jE, reduceIte, jA, jM, jS, jL, jD, jB, kle_not, c1, g1]))
    exact Aw_ret (ret0 (.inl rfl) (by simp only [go_sem, jE, reduceIte, jA, jM, jS, jL, jD, jB]; rfl) (by rfl) rfl)
  · rw [e2]
    have hn := (List.getElem?_eq_some_iff.1 e1).1
    have e3 : H[behI l f]? = some p.1 := by rw [hH, List.getElem?_map, e1]; rfl
    generalize behI l f = n at k6 hn e3
    have g1 : decide ((n : Int) < (H.length : Int)) = true := decide_eq_true (by omega)
    refine AC_of Tryz.func62 rfl Tryz.ntmps62 Tryz.results62 (by kernel_rfl) rfl ?_
    simp only [List.zipIdx, List.map, Nat.zero_add, Nat.reduceAdd]
    repeat (first | apply Aw_seq | apply Aw_block | apply Aw_skip | apply Aw_exit | refine Aw_condt rfl ?_ | refine Aw_condf rfl ?_ | ((first | refine qr ?_ | refine qd (by kernel_rfl) (by kernel_rfl) ?_); simp only [go_sem, jE, reduceIte, jA, jM, jS, jL, jD, jB, c1, g1, e3, kle_not]) | refine dk (by kernel_rfl) ?_ | (refine qp (k0) (by simp only [go_sem, jE, reduceIte, jA, jM, jS, jL, jD, jB, c1, g1, e3, kle_not]; first | done | rfl) rfl (by simp only [go_sem, Nat.reduceLT]) rfl rfl ?_; simp only [go_sem, jE, reduceIte, jA, jM, jS, jL, jD, jB, c1, g1, e3, kle_not]) | (refine qp (k1) (by simp only [go_sem, jE, reduceIte, jA, jM, jS, jL, jD, jB, c1, g1, e3, kle_not]; first | done | rfl) rfl (by simp only [go_sem, Nat.reduceLT]) rfl rfl ?_; simp only [go_sem, jE, reduceIte, jA, jM, jS, jL, jD, jB, c1, g1, e3, kle_not]) | (refine qp (k2) (by simp only [go_sem, jE, reduceIte, jA, jM, jS, jL, jD, jB, c1, g1, e3, kle_not]; first | done | rfl) rfl (by simp only [go_sem, Nat.reduceLT]) rfl rfl ?_; simp only [go_sem, jE, reduceIte, jA, jM, jS, jL, jD, jB, c1, g1, e3, kle_not]) | (refine qp (k3) (by simp only [go_sem, jE, reduceIte, jA, jM, jS, jL, jD, jB, c1, g1, e3, kle_not]; first | done | rfl) rfl (by simp only [go_sem, Nat.reduceLT]) rfl rfl ?_; simp only [go_sem, jE, reduceIte, jA, jM, jS, jL, jD, jB, c1, g1, e3, kle_not]) | (refine qp (k4) (by simp only [go_sem, jE, reduceIte, jA, jM, jS, jL, jD, jB, c1, g1, e3, kle_not]; first | done | rfl) rfl (by simp only [go_sem, Nat.reduceLT]) rfl rfl ?_; simp only [go_sem, jE, reduceIte, jA, jM, jS, jL, jD, jB, c1, g1, e3, kle_not]) | (refine qx (call_L (N' := [23]) (L := []) (k5) rfl (.cons (.nm rfl) (.cons (.nm rfl) (.cons (.nm rfl) (.cons (.nm rfl) (.nil))))) (by decide) (by decide) (by decide) (by simp only [go_sem, jE, reduceIte, jA, jM, jS, jL, jD, jB, c1, g1, e3, kle_not]; first | done | rfl) (.inl rfl) rfl (by decide)) (by simp only [go_sem, jE, reduceIte, jA, jM, jS, jL, jD, jB, c1, g1, e3, kle_not]; first | done | rfl) rfl (by simp only [go_sem, Nat.reduceLT]) ?_; simp only [go_sem, jE, reduceIte, jA, jM, jS, jL, jD, jB, c1, g1, e3, kle_not]) | (refine qx (call_N (L := [24]) (k6) rfl (.cons (.nm rfl) (.cons (arg_lend (m := 24) rfl (by simp)) (.cons (.nm rfl) (.nil)))) (.inr ⟨rfl, by simp⟩) rfl) (by simp only [go_sem, jE, reduceIte, jA, jM, jS, jL, jD, jB, c1, g1, e3, kle_not]; first | done | rfl) rfl (by simp only [go_sem, Nat.reduceLT]) ?_; simp only [go_sem, jE, reduceIte, jA, jM, jS, jL, jD, jB, c1, g1, e3, kle_not]))
    exact Aw_ret (ret0 (.inl rfl) (by simp only [go_sem, jE, reduceIte, jA, jM, jS, jL, jD, jB]; rfl) (by rfl) rfl)
end Go.Proofs.YtimkdclalajadaaGreat.Ab
