/-
  Plain law: the forks of a sieve in the order of their numbers, and where they stand. No condition.
  Plain law: a sieve by its branches. No condition.
  Plain law: a sieve's texts by its forks and branches. No condition.
  Plain law: what is kept of a sieve's keys has the same sieve. No condition.
  Contracts: the reference's sieve, its parts. No condition.
  Contracts: the reference's sieve. No condition.
  Contracts: the reference's sieve of keys; both sieves, settled. No condition.
  Contracts: times, sizes of levels, texts and sieves that are the same. No condition.
  Contracts: sizes of levels, sieves that are the same, runs that are newer than others. No condition.
  Calls of function values. Definitions and lemmas. No condition.
  slices.Grow at nil: a row of our own. No condition.
  Contracts: slices.Concat at two runs, slices.ContainsFunc with a store's function. No condition.
  Contracts: the function that looks for entries behind a store's time; the store's check, the program's. No condition.
  Contracts: the store's check, both. No condition.
  Contracts: the store's check, the reference's. No condition.
  Contracts: the store's check, the reference's; both checks are one. No condition.
  A slice that is nil is a row without elements: contracts told of the one serve for the other. Definitions and lemmas. No condition.
  Contracts: a new store. No condition.
  Rules for rows that are lent. No condition.
  Plain law: a small number is its own remainder. No condition.
  Contracts: bits, how many ones stand ahead, where a one stands, the reference's. No condition.
  Plain law: forks lead to later ones; the way of a key by numbers. No condition.
  The shelf's counting of a byte, at this seat. No condition.
  Contracts: ones of a text of bits, beginnings of keys. No condition.
  Contracts: a sieve's branches, what they lead to, what is kept of them. No condition.
-/
import Derived.Test.YtimkdclalajadaaGreatZb
import Derived.LoopN
import Derived.WalkKit
import Derived.OwnWalk
import Derived.Lib.AppendZeros
import Derived.Shelf.Strings.Count
import Derived.Ground.NamesProg
namespace Go.Proofs.YtimkdclalajadaaGreat.Ab
open Nat renaming reduceEqDiff → jE, reduceAdd → jA, reduceMul → jM, reduceSub → jS, reduceLT → jL, reduceLeDiff → jD, reduceBEq → jB
set_option linter.deprecated false
set_option linter.unusedVariables false
set_option linter.unusedSimpArgs false
open Go Go.Proofs
/-- The forks, one behind the other. -/
def fks (keep : Nat) : Nat → List (List ByteArray × Nat) → List (List ByteArray × Nat)
  | 0, _ => []
  | _ + 1, [] => []
  | n + 1, f :: q => f :: fks keep n (q ++ (node keep f).kids)
theorem fks_bfs (keep : Nat) : ∀ (n : Nat) (q : List (List ByteArray × Nat)), (bfs keep n q).letters = (fks keep n q).flatMap (fun f => (node keep f).letters) ∧ (bfs keep n q).more = (fks keep n q).flatMap (fun f => (node keep f).more) ∧ (bfs keep n q).first = (fks keep n q).flatMap (fun f => (node keep f).first) ∧ (bfs keep n q).rests = (fks keep n q).flatMap (fun f => (node keep f).rests)
  | 0, q => by simp [bfs, fks, zPut]
  | n + 1, [] => by simp [bfs, fks, zPut]
  | n + 1, f :: q => by
    obtain ⟨h1, h2, h3, h4⟩ := fks_bfs keep n (q ++ (node keep f).kids)
    simp only [bfs, fks, Put.add, List.flatMap_cons, h1, h2, h3, h4, and_self]
theorem fks_kids (keep : Nat) : ∀ (n : Nat) (q : List (List ByteArray × Nat)), wts q ≤ n → (∀ f ∈ q, Fork f) → fks keep n q = q ++ (fks keep n q).flatMap (fun f => (node keep f).kids)
  | 0, [], _, _ => rfl
  | 0, f :: q, h, _ => by have := wt_pos f; rw [wts_cons] at h; omega
  | n + 1, [], _, _ => rfl
  | n + 1, f :: q, h, hf => by
    have hff := hf f (by simp)
    have hk := kids_wt (keep := keep) hff.dep
    rw [wts_cons] at h
    have ih := fks_kids keep n (q ++ (node keep f).kids) (by rw [wts_app]; omega) fun g hg => by
      rcases List.mem_append.1 hg with hg | hg
      · exact hf g (List.mem_cons_of_mem _ hg)
      · exact node_fork hff g hg
    simp only [fks, List.flatMap_cons, List.cons_append, List.cons.injEq, true_and]
    conv => lhs; rw [ih]
    rw [List.append_assoc]
theorem fks_fork {keep : Nat} : ∀ (n : Nat) (q : List (List ByteArray × Nat)), (∀ f ∈ q, Fork f) → ∀ f ∈ fks keep n q, Fork f
  | 0, q, _ => by simp [fks]
  | n + 1, [], _ => by simp [fks]
  | n + 1, f :: q, h => by
    intro g hg
    rcases List.mem_cons.1 (show g ∈ f :: fks keep n (q ++ (node keep f).kids) from hg) with rfl | hg
    · exact h _ (by simp)
    · refine fks_fork n _ (fun z hz => ?_) g hg
      rcases List.mem_append.1 hz with hz | hz
      · exact h z (List.mem_cons_of_mem _ hz)
      · exact node_fork (h f (by simp)) z hz
/-- The i-th part of parts laid one behind the other begins behind those ahead of it. -/
def offL {α β : Type} (g : α → List β) (F : List α) (i : Nat) : Nat := ((F.take i).flatMap g).length
theorem offL_0 {α β : Type} (g : α → List β) (F : List α) : offL g F 0 = 0 := rfl
theorem offL_succ {α β : Type} (g : α → List β) {F : List α} {i : Nat} {f : α} (h : F[i]? = some f) : offL g F (i + 1) = offL g F i + (g f).length := by
  unfold offL
  rw [List.take_add_one, h, List.flatMap_append]; simp
theorem flat_get {α β : Type} (g : α → List β) : ∀ (F : List α) (i : Nat) (f : α) (t : Nat), F[i]? = some f → t < (g f).length → (F.flatMap g)[offL g F i + t]? = (g f)[t]?
  | [], i, f, t, h, _ => by simp at h
  | a :: F, 0, f, t, h, ht => by
    simp only [List.getElem?_cons_zero, Option.some.injEq] at h
    subst h
    rw [offL_0, Nat.zero_add, List.flatMap_cons, List.getElem?_append_left ht]
  | a :: F, i + 1, f, t, h, ht => by
    simp only [List.getElem?_cons_succ] at h
    have ih := flat_get g F i f t h ht
    have e : offL g (a :: F) (i + 1) = (g a).length + offL g F i := by unfold offL; simp
    rw [List.flatMap_cons, e, List.getElem?_append_right (by omega), ← ih]
    congr 1; omega
/-- The place of the n-th one. -/
def posOne : List UInt8 → Nat → Option Nat
  | [], _ => none
  | b :: l, n => if b = 49 then (match n with
      | 0 => some 0
      | m + 1 => (posOne l m).map (· + 1)) else (posOne l n).map (· + 1)
theorem posOne_zeros : ∀ (l r : List UInt8) (n : Nat), (∀ b ∈ l, b ≠ 49) → posOne (l ++ r) n = (posOne r n).map (· + l.length)
  | [], r, n, _ => by simp
  | b :: l, r, n, h => by
    have hb := h b (by simp)
    have ih := posOne_zeros l r n fun x hx => h x (List.mem_cons_of_mem _ hx)
    simp only [List.cons_append, posOne]
    rw [if_neg hb, ih, Option.map_map]
    cases posOne r n with
    | none => rfl
    | some v => simp; omega
/-- Blocks that begin with a one and have no other. -/
theorem posOne_blocks {α : Type} (g : α → List UInt8) : ∀ (F : List α) (i : Nat), (∀ f ∈ F, ∃ l, g f = 49 :: l ∧ ∀ b ∈ l, b ≠ 49) → posOne (F.flatMap g) i = if i < F.length then some (offL g F i) else none
  | [], i, _ => by simp [posOne]
  | a :: F, i, h => by
    obtain ⟨l, e, hl⟩ := h a (by simp)
    have ih := fun j => posOne_blocks g F j fun f hf => h f (List.mem_cons_of_mem _ hf)
    rw [List.flatMap_cons, e, List.cons_append]
    cases i with
    | zero => simp [posOne, offL_0]
    | succ j =>
      simp only [posOne, if_true]
      rw [posOne_zeros l _ j hl, ih]
      have eo : offL g (a :: F) (j + 1) = (g a).length + offL g F j := by unfold offL; simp
      by_cases c : j < F.length
      · rw [if_pos c, if_pos (by simp; omega), eo, e]
        simp; omega
      · rw [if_neg c, if_neg (by simp; omega)]; rfl
/-- A branch: the keys behind it, and its depth. -/
abbrev Br := List ByteArray × Nat
def brs (f : List ByteArray × Nat) : List Br := (spl f.2 f.1).map fun g => (g, f.2)
def bLet (b : Br) : UInt8 := lab (b.1.headD zs) b.2
def bMul (b : Br) : Bool := decide (1 < b.1.length)
def bMore (b : Br) : UInt8 := if bMul b = true then 49 else 48
def bCut (keep : Nat) (b : Br) : ByteArray := cutT (b.1.headD zs) b.2 keep
def bKid (b : Br) : List ByteArray × Nat := (b.1, b.2 + 1)
def bFirst : List Br → List UInt8
  | [] => []
  | _ :: r => 49 :: r.map fun _ => 48
theorem runs_all (keep d : Nat) : ∀ (m : UInt8) (gs : List (List ByteArray)), (∀ g ∈ gs, g ≠ []) →
    (runs keep d m gs).letters = (gs.map fun g => (g, d)).map bLet ∧ (runs keep d m gs).more = (gs.map fun g => (g, d)).map bMore ∧ (runs keep d m gs).first = (match gs with | [] => [] | _ :: r => m :: r.map fun _ => 48) ∧
    (runs keep d m gs).rests = ((gs.map fun g => (g, d)).filter fun b => !bMul b).map (bCut keep) ∧ (runs keep d m gs).kids = ((gs.map fun g => (g, d)).filter bMul).map bKid
  | m, [], _ => by simp [runs, zPut]
  | m, g :: gs, h => by
    obtain ⟨h1, h2, h3, h4, h5⟩ := runs_all keep d 48 gs fun x hx => h x (List.mem_cons_of_mem _ hx)
    have h3' : (runs keep d 48 gs).first = gs.map fun _ => 48 := by rw [h3]; cases gs <;> rfl
    match g, h g (by simp) with
    | [], hg => exact absurd rfl hg
    | [k], _ => simp [runs, run1, Put.add, h1, h2, h3', h4, h5, bLet, bMore, bMul, bCut]
    | k :: k2 :: r, _ => simp [runs, run1, Put.add, h1, h2, h3', h4, h5, bLet, bMore, bMul, bCut, bKid]
theorem node_all (keep : Nat) (f : List ByteArray × Nat) : (node keep f).letters = (brs f).map bLet ∧ (node keep f).more = (brs f).map bMore ∧ (node keep f).first = bFirst (brs f) ∧ (node keep f).rests = ((brs f).filter fun b => !bMul b).map (bCut keep) ∧ (node keep f).kids = ((brs f).filter bMul).map bKid := by
  obtain ⟨h1, h2, h3, h4, h5⟩ := runs_all keep f.2 49 (spl f.2 f.1) fun g hg => by
    obtain ⟨k, r, e, _⟩ := spl_ne f.2 f.1.length f.1 (Nat.le_refl _) g hg
    rw [e]; simp
  refine ⟨h1, h2, ?_, h4, h5⟩
  show (runs keep f.2 49 (spl f.2 f.1)).first = _
  rw [h3]; unfold bFirst brs
  cases spl f.2 f.1 with
  | nil => rfl
  | cons g gs => simp
/-- All branches of a key list. -/
def allF (keep : Nat) (ks : List ByteArray) : List (List ByteArray × Nat) := fks keep (wts [(ks, 0)]) [(ks, 0)]
def allB (keep : Nat) (ks : List ByteArray) : List Br := (allF keep ks).flatMap brs
theorem flatMap_map' {α β γ : Type} (g : α → List β) (h : β → γ) : ∀ F : List α, F.flatMap (fun f => (g f).map h) = (F.flatMap g).map h
  | [] => rfl
  | a :: F => by simp only [List.flatMap_cons, List.map_append, flatMap_map' g h F]
theorem flatMap_filter' {α β γ : Type} (g : α → List β) (p : β → Bool) (h : β → γ) : ∀ F : List α, F.flatMap (fun f => ((g f).filter p).map h) = ((F.flatMap g).filter p).map h
  | [] => rfl
  | a :: F => by simp only [List.flatMap_cons, List.filter_append, List.map_append, flatMap_filter' g p h F]
theorem sieve_br {keep : Nat} {ks : List ByteArray} (hf : Fork (ks, 0)) : (bfsF keep [(ks, 0)]).letters = (allB keep ks).map bLet ∧ (bfsF keep [(ks, 0)]).more = (allB keep ks).map bMore ∧ (bfsF keep [(ks, 0)]).first = (allF keep ks).flatMap (fun f => bFirst (brs f)) ∧ (bfsF keep [(ks, 0)]).rests = ((allB keep ks).filter fun b => !bMul b).map (bCut keep) ∧
    allF keep ks = (ks, 0) :: ((allB keep ks).filter bMul).map bKid := by
  obtain ⟨h1, h2, h3, h4⟩ := fks_bfs keep (wts [(ks, 0)]) [(ks, 0)]
  have h5 := fks_kids keep (wts [(ks, 0)]) [(ks, 0)] (Nat.le_refl _) (by simpa using hf)
  have e1 : ∀ f, (node keep f).letters = (brs f).map bLet := fun f => (node_all keep f).1
  have e2 : ∀ f, (node keep f).more = (brs f).map bMore := fun f => (node_all keep f).2.1
  have e3 : ∀ f, (node keep f).first = bFirst (brs f) := fun f => (node_all keep f).2.2.1
  have e4 : ∀ f, (node keep f).rests = ((brs f).filter fun b => !bMul b).map (bCut keep) := fun f => (node_all keep f).2.2.2.1
  have e5 : ∀ f, (node keep f).kids = ((brs f).filter bMul).map bKid := fun f => (node_all keep f).2.2.2.2
  simp only [e1, e2, e3, e4, e5] at h1 h2 h3 h4 h5
  unfold bfsF allB
  refine ⟨by rw [h1, flatMap_map']; rfl, by rw [h2, flatMap_map']; rfl, h3, by rw [h4, flatMap_filter']; rfl, ?_⟩
  unfold allF
  conv => lhs; rw [h5]
  rw [flatMap_filter']; rfl
/-- What passes a test, by how many pass ahead of it. -/
theorem filter_at {α : Type} (p : α → Bool) : ∀ (l : List α) (t : Nat) (x : α), l[t]? = some x → p x = true → (l.filter p)[(l.take t).countP p]? = some x
  | [], t, x, h, _ => by simp at h
  | a :: l, 0, x, h, hp => by
    simp only [List.getElem?_cons_zero, Option.some.injEq] at h
    subst h
    simp [hp]
  | a :: l, t + 1, x, h, hp => by
    simp only [List.getElem?_cons_succ] at h
    have ih := filter_at p l t x h hp
    rw [List.take_succ_cons]
    cases c : p a
    · rw [List.filter_cons_of_neg (by simp [c]), List.countP_cons_of_neg (by simp [c])]; exact ih
    · rw [List.filter_cons_of_pos c, List.countP_cons_of_pos c, List.getElem?_cons_succ]; exact ih
/-- The node to which a branch leads. -/
theorem kid_at {keep : Nat} {ks : List ByteArray} (hf : Fork (ks, 0)) {b : Nat} {x : Br} (hb : (allB keep ks)[b]? = some x) (hm : bMul x = true) : (allF keep ks)[((allB keep ks).take (b + 1)).countP bMul]? = some (bKid x) := by
  obtain ⟨_, _, _, _, h5⟩ := sieve_br (keep := keep) hf
  have h := filter_at bMul _ b x hb hm
  rw [h5, List.take_add_one, hb]
  rw [show (some x).toList = [x] from rfl, List.countP_append, List.countP_cons_of_pos hm, List.countP_nil, Nat.zero_add, List.getElem?_cons_succ, List.getElem?_map, h]; rfl
/-- What is kept of a branch that does not go on. -/
theorem rest_at {keep : Nat} {ks : List ByteArray} {b : Nat} {x : Br} (hb : (allB keep ks)[b]? = some x) (hm : bMul x = false) : (((allB keep ks).filter fun b => !bMul b).map (bCut keep))[((allB keep ks).take b).countP fun b => !bMul b]? = some (bCut keep x) := by
  have h := filter_at (fun b => !bMul b) _ b x hb (by simp [hm])
  rw [List.getElem?_map, h]; rfl
/-- The bytes that are a one. -/
theorem count_more (l : List Br) : (l.map bMore).count 49 = l.countP bMul ∧ (l.map bMore).count 48 = l.countP fun b => !bMul b := by
  induction l with
  | nil => exact ⟨rfl, rfl⟩
  | cons b l ih =>
    rw [List.map_cons, List.count_cons, List.count_cons, ih.1, ih.2, List.countP_cons, List.countP_cons]
    unfold bMore
    cases bMul b <;> simp
theorem offL_congr {α β γ : Type} (g : α → List β) (h : α → List γ) (F : List α) (i : Nat) (e : ∀ f, (g f).length = (h f).length) : offL g F i = offL h F i := by
  unfold offL
  rw [List.length_flatMap, List.length_flatMap]
  congr 1
  exact List.map_congr_left fun f _ => e f
theorem bFirst_len (l : List Br) : (bFirst l).length = l.length := by cases l <;> simp [bFirst]
theorem brs_ne {f : List ByteArray × Nat} (h : f.1 ≠ []) : brs f ≠ [] := by
  unfold brs
  cases e : f.1 with
  | nil => exact absurd e h
  | cons k r => rw [spl_cons]; simp
theorem allF_ne {keep : Nat} {ks : List ByteArray} (hf : Fork (ks, 0)) (hk : ks ≠ []) : ∀ f ∈ allF keep ks, brs f ≠ [] := by
  intro f hm
  rw [(sieve_br hf).2.2.2.2] at hm
  rcases List.mem_cons.1 hm with rfl | hm
  · exact brs_ne hk
  · obtain ⟨b, hb, rfl⟩ := List.mem_map.1 hm
    have h2 := (List.mem_filter.1 hb).2
    refine brs_ne fun e => ?_
    have e' : b.1 = [] := e
    unfold bMul at h2
    rw [e'] at h2
    simp at h2
abbrev offB (keep : Nat) (ks : List ByteArray) (j : Nat) : Nat := offL brs (allF keep ks) j
def firstL (keep : Nat) (ks : List ByteArray) : List UInt8 := (allF keep ks).flatMap fun f => bFirst (brs f)
theorem off_first (keep : Nat) (ks : List ByteArray) (j : Nat) : offL (fun f => bFirst (brs f)) (allF keep ks) j = offB keep ks j := offL_congr _ _ _ _ fun f => bFirst_len _
theorem firstL_len (keep : Nat) (ks : List ByteArray) : (firstL keep ks).length = (allB keep ks).length := by
  unfold firstL allB
  rw [List.length_flatMap, List.length_flatMap]
  congr 1
  exact List.map_congr_left fun f _ => bFirst_len _
theorem first_at {keep : Nat} {ks : List ByteArray} {j : Nat} {f : List ByteArray × Nat} (hj : (allF keep ks)[j]? = some f) {t : Nat} (ht : t < (brs f).length) : (firstL keep ks)[offB keep ks j + t]? = some (if t = 0 then 49 else 48) := by
  have h := flat_get (fun f => bFirst (brs f)) (allF keep ks) j f t hj (by rw [bFirst_len]; exact ht)
  rw [off_first] at h
  unfold firstL
  rw [h]
  show (bFirst (brs f))[t]? = _
  cases e : brs f with
  | nil => rw [e] at ht; simp at ht
  | cons a r =>
    rw [e] at ht
    cases t with
    | zero => rfl
    | succ t =>
      simp only [List.length_cons] at ht
      simp only [bFirst, List.getElem?_cons_succ, Nat.add_eq_zero_iff, Nat.one_ne_zero, and_false, if_false]
      rw [List.getElem?_map, List.getElem?_eq_getElem (by omega)]; rfl
theorem br_at {keep : Nat} {ks : List ByteArray} {j : Nat} {f : List ByteArray × Nat} (hj : (allF keep ks)[j]? = some f) {t : Nat} (ht : t < (brs f).length) : (allB keep ks)[offB keep ks j + t]? = (brs f)[t]? :=
  flat_get brs (allF keep ks) j f t hj ht
theorem off_next {keep : Nat} {ks : List ByteArray} {j : Nat} {f : List ByteArray × Nat} (hj : (allF keep ks)[j]? = some f) : offB keep ks (j + 1) = offB keep ks j + (brs f).length := offL_succ brs hj
theorem off_le (keep : Nat) (ks : List ByteArray) (j : Nat) : offB keep ks j ≤ (allB keep ks).length := by
  unfold offB offL allB
  conv => rhs; rw [← List.take_append_drop j (allF keep ks)]
  rw [List.flatMap_append, List.length_append]
  omega
theorem off_all {keep : Nat} {ks : List ByteArray} {j : Nat} (h : (allF keep ks).length ≤ j) : offB keep ks j = (allB keep ks).length := by
  unfold offB offL allB
  rw [List.take_of_length_le h]
/-- Behind a fork's branches the next fork's begin, or all end. -/
theorem first_next {keep : Nat} {ks : List ByteArray} (hf : Fork (ks, 0)) (hk : ks ≠ []) {j : Nat} {f : List ByteArray × Nat} (hj : (allF keep ks)[j]? = some f) : offB keep ks j + (brs f).length = (firstL keep ks).length ∨ (firstL keep ks)[offB keep ks j + (brs f).length]? = some 49 := by
  rw [← off_next hj]
  rcases Nat.lt_or_ge (j + 1) (allF keep ks).length with h | h
  · right
    have hg := List.getElem?_eq_getElem h
    have hn := allF_ne hf hk _ (List.getElem_mem h)
    have h0 : 0 < (brs (allF keep ks)[j + 1]).length := List.length_pos_iff.2 hn
    have := first_at hg h0
    rwa [Nat.add_zero, if_pos rfl] at this
  · left
    rw [off_all h, firstL_len]
theorem first_one {keep : Nat} {ks : List ByteArray} (hf : Fork (ks, 0)) (hk : ks ≠ []) (j : Nat) : posOne (firstL keep ks) j = if j < (allF keep ks).length then some (offB keep ks j) else none := by
  unfold firstL
  rw [posOne_blocks, off_first]
  intro f hm
  have hn := allF_ne hf hk f hm
  cases e : brs f with
  | nil => exact absurd e hn
  | cons a r => exact ⟨_, rfl, fun b hb => by
      obtain ⟨_, _, rfl⟩ := List.mem_map.1 hb
      decide⟩
theorem allF_nil (keep : Nat) : allF keep [] = [([], 0)] := by
  have hf : Fork (([] : List ByteArray), 0) := ⟨by simp, List.Pairwise.nil, by simp, by simp⟩
  have h := (sieve_br (keep := keep) hf).2.2.2.2
  have e : (allF keep ([] : List ByteArray)).length = (allF keep ([] : List ByteArray)).length := rfl
  unfold allF wts wt
  simp [fks, node, spl_nil, runs, zPut]
theorem brs_nil (d : Nat) : brs ([], d) = [] := by unfold brs; rw [spl_nil]; rfl
theorem allB_nil (keep : Nat) : allB keep [] = [] := by unfold allB; rw [allF_nil]; simp [brs_nil]
theorem firstL_nil (keep : Nat) : firstL keep [] = [] := by unfold firstL; rw [allF_nil]; simp [brs_nil, bFirst]
theorem bfs_letters {keep : Nat} : ∀ (n : Nat) (q : List (List ByteArray × Nat)), (∀ f ∈ q, Fork f) → (bfs keep n q).letters.length ≤ wts q
  | 0, q, _ => by simp [bfs, zPut]
  | n + 1, [], _ => by simp [bfs, zPut]
  | n + 1, f :: q, h => by
    have hff := h f (by simp)
    have ih := bfs_letters (keep := keep) n (q ++ (node keep f).kids) fun g hg => by
      rcases List.mem_append.1 hg with hg | hg
      · exact h g (List.mem_cons_of_mem _ hg)
      · exact node_fork hff g hg
    have hb := runs_b keep f.2 hff.dep 49 (spl f.2 f.1)
    rw [spl_flat f.2 _ f.1 (Nat.le_refl _)] at hb
    have e : (node keep f).letters.length + wts (node keep f).kids ≤ f.1.length * (8 - f.2) := hb
    rw [wts_app] at ih
    rw [wts_cons]
    simp only [bfs, Put.add, List.length_append]
    unfold wt
    omega
structure SvIs (keep : Nat) (ks : List ByteArray) (s : Sve) : Prop where
  hf : Fork (ks, 0)
  hl : s.letters.data.toList = (allB keep ks).map bLet
  hm : s.more.data.toList = (allB keep ks).map bMore
  h1 : s.first.data.toList = firstL keep ks
  hr : s.rests = ((allB keep ks).filter fun b => !bMul b).map (bCut keep)
  hk : s.keep = (keep : Int)
  hb : (allB keep ks).length ≤ 400
  kp : keep ≤ 5
theorem svIs_of {ks : List ByteArray} {keep : Int} {s : Sve} (h : sieveM ks keep = some s) : SvIs keep.toNat ks s := by
  unfold sieveM at h
  by_cases c : keysOkM ks = true ∧ inB 0 keep 5 = true
  · rw [if_pos c, Option.some.injEq] at h
    subst h
    obtain ⟨hl, hf, _⟩ := ksOk_iff c.1
    obtain ⟨h1, h2, h3, h4, _⟩ := sieve_br (keep := keep.toNat) hf
    have h0 : 0 ≤ keep ∧ keep ≤ 5 := by have := c.2; unfold inB at this; simp at this; exact this
    have hb := bfs_letters (keep := keep.toNat) (wts [(ks, 0)]) [(ks, 0)] (by simpa using hf)
    refine ⟨hf, h1, h2, h3, h4, by show keep = _; omega, ?_, by omega⟩
    have e : (bfsF keep.toNat [(ks, 0)]).letters.length = (allB keep.toNat ks).length := by rw [h1, List.length_map]
    rw [← e]
    refine Nat.le_trans hb ?_
    rw [wts_one]; unfold wt; show 1 + ks.length * 8 ≤ 400; omega
  · rw [if_neg c] at h; cases h
theorem SvIs.sizes {keep : Nat} {ks : List ByteArray} {s : Sve} (h : SvIs keep ks s) : s.letters.size = (allB keep ks).length ∧ s.more.size = (allB keep ks).length ∧ s.first.size = (allB keep ks).length := by
  refine ⟨?_, ?_, ?_⟩
  · have e : s.letters.size = s.letters.data.toList.length := Array.length_toList.symm
    rw [e, h.hl, List.length_map]
  · have e : s.more.size = s.more.data.toList.length := Array.length_toList.symm
    rw [e, h.hm, List.length_map]
  · have e : s.first.size = s.first.data.toList.length := Array.length_toList.symm
    rw [e, h.h1, firstL_len]
theorem allF_len {keep : Nat} {ks : List ByteArray} (hf : Fork (ks, 0)) : (allF keep ks).length ≤ (allB keep ks).length + 1 := by
  rw [(sieve_br hf).2.2.2.2, List.length_cons, List.length_map]
  have := List.length_filter_le bMul (allB keep ks)
  omega
/-- A byte of a text whose bytes are known. -/
theorem byteL_at {s : ByteArray} {l : List UInt8} (h : s.data.toList = l) {i : Nat} {b : UInt8} (hb : l[i]? = some b) : ∃ hi : i < s.size, s[i] = b := by
  subst h
  have hi : i < s.data.toList.length := (List.getElem?_eq_some_iff.1 hb).1
  have e : s.data.toList.length = s.size := Array.length_toList
  refine ⟨by omega, ?_⟩
  rw [List.getElem?_eq_getElem hi, Option.some.injEq] at hb
  rw [← hb]; rfl
theorem extract_list (s : ByteArray) (n : Nat) : (s.extract 0 n).data.toList = s.data.toList.take n := by
  rw [ByteArray.data_extract, Array.toList_extract]; simp
def whole (keep : Nat) (b : Br) : Bool := decide (bLet b = 45) || decide ((bCut keep b).size < keep)
def stepW (way : ByteArray) (b : Br) : ByteArray := if bLet b = 45 then way else way ++ bs [bLet b]
/-- What is kept of the keys of a fork, in order, and whether it is all. -/
def partsM (keep : Nat) : Nat → ByteArray → List ByteArray × Nat → List (ByteArray × Bool)
  | 0, _, _ => []
  | n + 1, way, f => (brs f).flatMap fun b => if bMul b = true then partsM keep n (stepW way b) (bKid b) else [(stepW way b ++ bCut keep b, whole keep b)]
structure WayOk (way : ByteArray) (f : List ByteArray × Nat) : Prop where
  len : way.data.toList.length = f.2
  pre : ∀ k ∈ f.1, k.data.toList.take f.2 = way.data.toList
theorem size_l (s : ByteArray) : s.size = s.data.toList.length := Array.length_toList.symm
theorem app_l (a b : ByteArray) : (a ++ b).data.toList = a.data.toList ++ b.data.toList := by rw [ByteArray.data_append]; simp
theorem bs_l (l : List UInt8) : (bs l).data.toList = l := rfl
theorem ext_l {a b : ByteArray} (h : a.data.toList = b.data.toList) : a = b := by
  cases a; cases b; simp only [ByteArray.mk.injEq]; exact Array.toList_inj.1 h
theorem brs_mem {f : List ByteArray × Nat} {b : Br} (h : b ∈ brs f) : b.2 = f.2 ∧ b.1.Sublist f.1 ∧ ∃ k r, b.1 = k :: r ∧ ∀ x ∈ r, lab x f.2 = lab k f.2 := by
  unfold brs at h
  obtain ⟨g, hg, rfl⟩ := List.mem_map.1 h
  exact ⟨rfl, spl_sub f.2 _ f.1 (Nat.le_refl _) g hg, spl_ne f.2 _ f.1 (Nat.le_refl _) g hg⟩
theorem brs_lab {f : List ByteArray × Nat} {b : Br} (h : b ∈ brs f) : ∀ k ∈ b.1, k ∈ f.1 ∧ lab k f.2 = bLet b := by
  obtain ⟨h1, h2, x, r, e, hr⟩ := brs_mem h
  intro k hk
  refine ⟨h2.subset hk, ?_⟩
  unfold bLet
  rw [h1, e]
  rw [e] at hk
  rcases List.mem_cons.1 hk with rfl | hk
  · rfl
  · exact hr k hk
theorem bKid_fork {f : List ByteArray × Nat} (hf : Fork f) {b : Br} (h : b ∈ brs f) (hm : bMul b = true) : Fork (bKid b) := by
  refine node_fork (keep := 0) hf _ ?_
  rw [(node_all 0 f).2.2.2.2]
  exact List.mem_map.2 ⟨b, List.mem_filter.2 ⟨h, hm⟩, rfl⟩
theorem lab_l {k : ByteArray} {d : Nat} (h : d ≤ k.size) : lab k d = (match k.data.toList[d]? with | some c => c | none => 45) := by
  unfold lab
  rw [size_l] at *
  by_cases e : k.data.toList.length = d
  · rw [if_pos e, List.getElem?_eq_none (by omega)]
  · rw [if_neg e, Array.getD_eq_getD_getElem?, ← Array.getElem?_toList, List.getElem?_eq_getElem (by omega)]; rfl
/-- One letter further. -/
theorem way_next {f : List ByteArray × Nat} (hf : Fork f) {way : ByteArray} (hw : WayOk way f) {b : Br} (h : b ∈ brs f) {k : ByteArray} (hk : k ∈ b.1) : (stepW way b).data.toList = k.data.toList.take (f.2 + 1) := by
  obtain ⟨hin, hl⟩ := brs_lab h k hk
  obtain ⟨ok, hd⟩ := hf.ok k hin
  have hp := hw.pre k hin
  unfold stepW
  by_cases c : bLet b = 45
  · rw [if_pos c]
    have e : k.size = f.2 := (lab_end ok hd).1 (by rw [hl, c])
    rw [size_l] at e
    rw [← hp, List.take_of_length_le (by omega), List.take_of_length_le (by omega)]
  · rw [if_neg c, app_l, bs_l]
    have e : k.size ≠ f.2 := fun e => c (by rw [← hl]; exact (lab_end ok hd).2 e)
    rw [lab_l hd] at hl
    rw [size_l] at e hd
    rw [List.getElem?_eq_getElem (by omega)] at hl
    rw [List.take_add_one, hp, List.getElem?_eq_getElem (by omega)]
    simp only at hl
    rw [hl]; rfl
theorem way_kid {f : List ByteArray × Nat} (hf : Fork f) {way : ByteArray} (hw : WayOk way f) {b : Br} (h : b ∈ brs f) (hm : bMul b = true) : WayOk (stepW way b) (bKid b) := by
  obtain ⟨h1, h2, x, r, e, hr⟩ := brs_mem h
  have hk := bKid_fork hf h hm
  have hp : ∀ k ∈ b.1, k.data.toList.take (f.2 + 1) = (stepW way b).data.toList := fun k hk => (way_next hf hw h hk).symm
  have e2 : (bKid b).2 = f.2 + 1 := by unfold bKid; rw [h1]
  refine ⟨?_, fun k hkm => by rw [e2]; exact hp k hkm⟩
  have hx : x ∈ (bKid b).1 := by show x ∈ b.1; rw [e]; simp
  have := (hk.ok x hx).2
  rw [e2, size_l] at this
  rw [← hp x hx, e2, List.length_take]
  omega
theorem cut_l (k : ByteArray) (d keep : Nat) : (cutT k d keep).data.toList = (k.data.toList.drop (d + 1)).take keep := by
  have e : (k.extract (min (d + 1) k.size) k.size).data.toList = k.data.toList.drop (d + 1) := by
    rw [ByteArray.data_extract, Array.toList_extract, size_l, List.extract_eq_take_drop]
    rcases Nat.lt_or_ge (d + 1) k.data.toList.length with h | h
    · rw [Nat.min_eq_left (by omega), List.take_of_length_le (by simp)]
    · rw [Nat.min_eq_right h, List.drop_of_length_le (Nat.le_refl _), List.drop_of_length_le h]; simp
  unfold cutT
  simp only
  rw [extract_list, e, size_l, e]
  rcases Nat.le_total keep (k.data.toList.drop (d + 1)).length with h | h
  · rw [Nat.min_eq_left h]
  · rw [Nat.min_eq_right h, List.take_of_length_le (Nat.le_refl _), List.take_of_length_le h]
theorem one_text {keep : Nat} {f : List ByteArray × Nat} (hf : Fork f) {way : ByteArray} (hw : WayOk way f) {b : Br} (h : b ∈ brs f) {k : ByteArray} (e : b.1 = [k]) : (stepW way b ++ bCut keep b).data.toList = k.data.toList.take (f.2 + 1 + keep) := by
  obtain ⟨h1, _⟩ := brs_mem h
  have hn := way_next hf hw h (k := k) (by rw [e]; simp)
  unfold bCut
  rw [app_l, hn, h1, e, List.headD_cons, cut_l]
  exact (List.take_add (i := f.2 + 1) (j := keep)).symm
theorem bMul_one {b : Br} {f : List ByteArray × Nat} (h : b ∈ brs f) (hm : bMul b = false) : ∃ k, b.1 = [k] := by
  obtain ⟨_, _, x, r, e, _⟩ := brs_mem h
  unfold bMul at hm
  rw [e] at hm
  cases r with
  | nil => exact ⟨x, e⟩
  | cons y r => simp at hm
theorem parts_mem {keep : Nat} : ∀ (n : Nat) {way : ByteArray} {f : List ByteArray × Nat}, Fork f → WayOk way f → ∀ x ∈ partsM keep n way f, ∃ k ∈ f.1, ∃ m, f.2 + 1 ≤ m ∧ x.1.data.toList = k.data.toList.take m
  | 0, _, _, _, _, x, hx => by simp [partsM] at hx
  | n + 1, way, f, hf, hw, x, hx => by
    simp only [partsM] at hx
    obtain ⟨b, hb, hx⟩ := List.mem_flatMap.1 hx
    obtain ⟨h1, h2, _⟩ := brs_mem hb
    cases c : bMul b
    · rw [c] at hx
      obtain ⟨k, e⟩ := bMul_one hb c
      simp only [Bool.false_eq_true, if_false, List.mem_singleton] at hx
      subst hx
      exact ⟨k, h2.subset (by rw [e]; simp), f.2 + 1 + keep, by omega, one_text hf hw hb e⟩
    · rw [c] at hx
      simp only [if_true] at hx
      obtain ⟨k, hk, m, hm, e⟩ := parts_mem n (bKid_fork hf hb c) (way_kid hf hw hb c) x hx
      have e2 : (bKid b).2 = f.2 + 1 := by unfold bKid; rw [h1]
      exact ⟨k, h2.subset hk, m, by omega, e⟩
theorem brs_sum (f : List ByteArray × Nat) : ((brs f).map fun b => b.1.length).sum = f.1.length := by
  have := spl_flat f.2 _ f.1 (Nat.le_refl _)
  conv => rhs; rw [← this]
  rw [List.length_flatten]
  unfold brs
  rw [List.map_map]; rfl
theorem parts_len {keep : Nat} : ∀ (n : Nat) {way : ByteArray} {f : List ByteArray × Nat}, Fork f → 6 ≤ f.2 + n → (partsM keep n way f).length = f.1.length
  | 0, way, f, hf, h => by have := hf.dep; omega
  | n + 1, way, f, hf, h => by
    simp only [partsM]
    rw [List.length_flatMap, ← brs_sum f]
    congr 1
    refine List.map_congr_left fun b hb => ?_
    obtain ⟨h1, _⟩ := brs_mem hb
    have e2 : (bKid b).2 = f.2 + 1 := by unfold bKid; rw [h1]
    cases c : bMul b
    · obtain ⟨k, e⟩ := bMul_one hb c
      simp [e]
    · simp only [if_true]
      rw [parts_len n (bKid_fork hf hb c) (by omega)]; rfl
theorem lab_take {k x : ByteArray} {d m : Nat} (hd : d ≤ k.size) (hm : d + 1 ≤ m) (e : x.data.toList = k.data.toList.take m) : lab x d = lab k d := by
  have hx : d ≤ x.size := by rw [size_l] at *; rw [e, List.length_take]; omega
  rw [lab_l hx, lab_l hd, e, List.getElem?_take, if_pos (by omega)]
/-- The letters of a fork's branches ascend. -/
theorem spl_lt {d : Nat} : ∀ (n : Nat) (ks : List ByteArray), ks.length ≤ n → Fork (ks, d) → (spl d ks).Pairwise fun a b => (lab (a.headD zs) d).toNat < (lab (b.headD zs) d).toNat
  | _, [], _, _ => by rw [spl_nil]; exact List.Pairwise.nil
  | 0, k :: r, h, _ => by simp at h
  | n + 1, k :: r, h, hf => by
    rw [spl_cons]
    obtain ⟨t, ht⟩ : ∃ t, t = r.dropWhile fun x => lab x d == lab k d := ⟨_, rfl⟩
    have hsub : t.Sublist r := by rw [ht]; exact List.dropWhile_sublist _
    have hft : Fork (t, d) := ⟨hf.dep, hf.ord.sublist (hsub.trans (List.sublist_cons_self k r)), fun x hx => hf.ok x (List.mem_cons_of_mem _ (hsub.subset hx)), fun a ha b hb => hf.alike a (List.mem_cons_of_mem _ (hsub.subset ha)) b (List.mem_cons_of_mem _ (hsub.subset hb))⟩
    have hlen : t.length ≤ n := by have := hsub.length_le; simp at h; omega
    rw [← ht]
    refine List.pairwise_cons.2 ⟨fun g hg => ?_, spl_lt n t hlen hft⟩
    obtain ⟨x, r2, e, _⟩ := spl_ne d _ t (Nat.le_refl _) g hg
    have hxt : x ∈ t := (spl_sub d _ t (Nat.le_refl _) g hg).subset (by rw [e]; simp)
    rw [e]
    show (lab k d).toNat < (lab x d).toNat
    have hxr := hsub.subset hxt
    have hkx : klt k x = true := (List.pairwise_cons.1 hf.ord).1 x hxr
    have hle := lab_le hf (a := k) (b := x) (by simp) (List.mem_cons_of_mem _ hxr) hkx
    refine Nat.lt_of_le_of_ne hle fun heq => ?_
    cases hz : t with
    | nil => rw [hz] at hxt; simp at hxt
    | cons z s =>
      have hzn : (lab z d == lab k d) = false := by
        have := List.head?_dropWhile_not (fun x => lab x d == lab k d) r
        rw [← ht, hz] at this
        simpa using this
      have hzr : z ∈ r := hsub.subset (by rw [hz]; simp)
      have h1 := lab_le hf (a := k) (b := z) (by simp) (List.mem_cons_of_mem _ hzr) ((List.pairwise_cons.1 hf.ord).1 z hzr)
      have h2 : (lab z d).toNat ≤ (lab x d).toNat := by
        rw [hz] at hxt
        rcases List.mem_cons.1 hxt with rfl | hxs
        · exact Nat.le_refl _
        · have ho := hft.ord
          rw [hz] at ho
          exact lab_le hft (a := z) (b := x) (by rw [hz]; simp) (by rw [hz]; exact List.mem_cons_of_mem _ hxs) ((List.pairwise_cons.1 ho).1 x hxs)
      dsimp only at hle h1
      have : lab z d = lab k d := UInt8.toNat_inj.1 (by omega)
      rw [this] at hzn
      simp at hzn
theorem brs_lt {f : List ByteArray × Nat} (hf : Fork f) : (brs f).Pairwise fun a b => (bLet a).toNat < (bLet b).toNat := by
  unfold brs
  rw [List.pairwise_map]
  exact spl_lt _ f.1 (Nat.le_refl _) hf
theorem spl_blocks {d : Nat} : ∀ (B : List (List ByteArray)), (∀ g ∈ B, ∃ k r, g = k :: r ∧ ∀ x ∈ r, lab x d = lab k d) → (B.Pairwise fun a b => lab (a.headD zs) d ≠ lab (b.headD zs) d) → spl d B.flatten = B
  | [], _, _ => by simp [spl_nil]
  | g :: B, h, hp => by
    obtain ⟨k, r, e, hr⟩ := h g (by simp)
    have ih := spl_blocks B (fun g hg => h g (List.mem_cons_of_mem _ hg)) (List.pairwise_cons.1 hp).2
    have h1 := (List.pairwise_cons.1 hp).1
    subst e
    rw [List.flatten_cons, List.cons_append, spl_cons]
    have hpos : ∀ x ∈ r, (lab x d == lab k d) = true := fun x hx => by rw [hr x hx]; simp
    have hrest : ∀ z s, B.flatten = z :: s → (lab z d == lab k d) = false := by
      intro z s hz
      cases B with
      | nil => simp at hz
      | cons g2 B2 =>
        obtain ⟨k2, r2, e2, _⟩ := h g2 (by simp)
        rw [e2, List.flatten_cons, List.cons_append] at hz
        obtain rfl := (List.cons.inj hz).1
        have := h1 g2 (by simp)
        rw [e2] at this
        simp only [List.headD_cons] at this
        simpa using fun e => this e.symm
    have e1 : (r ++ B.flatten).takeWhile (fun x => lab x d == lab k d) = r := by
      rw [List.takeWhile_append_of_pos hpos]
      cases hz : B.flatten with
      | nil => simp
      | cons z s => rw [List.takeWhile_cons_of_neg (by rw [hrest z s hz]; simp)]; simp
    have e2 : (r ++ B.flatten).dropWhile (fun x => lab x d == lab k d) = B.flatten := by
      rw [List.dropWhile_append_of_pos hpos]
      cases hz : B.flatten with
      | nil => simp
      | cons z s => rw [List.dropWhile_cons_of_neg (by rw [hrest z s hz]; simp)]
    rw [e1, e2, ih]
/-- The heads of a branch. -/
def hdsB (keep n : Nat) (way : ByteArray) (b : Br) : List ByteArray := (if bMul b = true then partsM keep n (stepW way b) (bKid b) else [(stepW way b ++ bCut keep b, whole keep b)]).map Prod.fst
theorem parts_hds (keep n : Nat) (way : ByteArray) (f : List ByteArray × Nat) : (partsM keep (n + 1) way f).map Prod.fst = ((brs f).map (hdsB keep n way)).flatten := by
  simp only [partsM]
  rw [List.map_flatMap, List.flatMap_def]
  rfl
theorem hdsB_mem {keep n : Nat} {way : ByteArray} {f : List ByteArray × Nat} (hf : Fork f) (hw : WayOk way f) {b : Br} (hb : b ∈ brs f) : ∀ x ∈ hdsB keep n way b, lab x f.2 = bLet b ∧ ∃ k ∈ b.1, ∃ m, f.2 + 1 ≤ m ∧ x.data.toList = k.data.toList.take m := by
  have key : ∀ x ∈ hdsB keep n way b, ∃ k ∈ b.1, ∃ m, f.2 + 1 ≤ m ∧ x.data.toList = k.data.toList.take m := by
    intro x hx
    unfold hdsB at hx
    obtain ⟨p, hp, rfl⟩ := List.mem_map.1 hx
    obtain ⟨h1, h2, _⟩ := brs_mem hb
    cases c : bMul b
    · rw [c] at hp
      obtain ⟨k, e⟩ := bMul_one hb c
      simp only [Bool.false_eq_true, if_false, List.mem_singleton] at hp
      subst hp
      exact ⟨k, by rw [e]; simp, f.2 + 1 + keep, by omega, one_text hf hw hb e⟩
    · rw [c] at hp
      simp only [if_true] at hp
      obtain ⟨k, hk, m, hm, e⟩ := parts_mem n (bKid_fork hf hb c) (way_kid hf hw hb c) p hp
      have e2 : (bKid b).2 = f.2 + 1 := by unfold bKid; rw [h1]
      exact ⟨k, hk, m, by omega, e⟩
  intro x hx
  obtain ⟨k, hk, m, hm, e⟩ := key x hx
  obtain ⟨hin, hl⟩ := brs_lab hb k hk
  exact ⟨by rw [lab_take (hf.ok k hin).2 hm e, hl], k, hk, m, hm, e⟩
theorem hdsB_len {keep n : Nat} {way : ByteArray} {f : List ByteArray × Nat} (hf : Fork f) (hn : 6 ≤ f.2 + (n + 1)) {b : Br} (hb : b ∈ brs f) : (hdsB keep n way b).length = b.1.length := by
  obtain ⟨h1, _⟩ := brs_mem hb
  have e2 : (bKid b).2 = f.2 + 1 := by unfold bKid; rw [h1]
  unfold hdsB
  rw [List.length_map]
  cases c : bMul b
  · obtain ⟨k, e⟩ := bMul_one hb c
    simp [e]
  · simp only [if_true]
    rw [parts_len n (bKid_fork hf hb c) (by omega)]; rfl
theorem brs_parts {keep n : Nat} {way : ByteArray} {f : List ByteArray × Nat} (hf : Fork f) (hw : WayOk way f) (hn : 6 ≤ f.2 + (n + 1)) : brs ((partsM keep (n + 1) way f).map Prod.fst, f.2) = (brs f).map fun b => (hdsB keep n way b, f.2) := by
  have hne : ∀ b ∈ brs f, ∃ k r, hdsB keep n way b = k :: r ∧ ∀ x ∈ r, lab x f.2 = lab k f.2 := by
    intro b hb
    have hl := hdsB_len (keep := keep) (n := n) (way := way) hf hn hb
    obtain ⟨_, _, x, r, e, _⟩ := brs_mem hb
    rw [e] at hl
    have hm := hdsB_mem (keep := keep) (n := n) hf hw hb
    cases hh : hdsB keep n way b with
    | nil => rw [hh] at hl; simp at hl
    | cons k s =>
      rw [hh] at hm
      exact ⟨k, s, rfl, fun y hy => by rw [(hm y (List.mem_cons_of_mem _ hy)).1, (hm k (by simp)).1]⟩
  unfold brs
  rw [parts_hds]
  simp only
  rw [spl_blocks]
  · rw [List.map_map]
    show _ = List.map (fun b => (hdsB keep n way b, f.2)) (brs f)
    exact List.map_congr_left fun b _ => rfl
  · intro g hg
    obtain ⟨b, hb, rfl⟩ := List.mem_map.1 hg
    exact hne b hb
  · rw [List.pairwise_map]
    refine (brs_lt hf).imp_of_mem fun {a b} ha hb h => ?_
    obtain ⟨k, r, e, _⟩ := hne a ha
    obtain ⟨k2, r2, e2, _⟩ := hne b hb
    have m1 := (hdsB_mem (keep := keep) (n := n) hf hw ha k (by rw [e]; simp)).1
    have m2 := (hdsB_mem (keep := keep) (n := n) hf hw hb k2 (by rw [e2]; simp)).1
    rw [e, e2, List.headD_cons, List.headD_cons, m1, m2]
    intro hh
    rw [hh] at h
    omega
theorem br_same {keep n : Nat} {way : ByteArray} {f : List ByteArray × Nat} (hf : Fork f) (hw : WayOk way f) (hn : 6 ≤ f.2 + (n + 1)) {b : Br} (hb : b ∈ brs f) : bLet (hdsB keep n way b, f.2) = bLet b ∧ bMul (hdsB keep n way b, f.2) = bMul b ∧ (bMul b = false → bCut keep (hdsB keep n way b, f.2) = bCut keep b) := by
  have hl := hdsB_len (keep := keep) (n := n) (way := way) hf hn hb
  obtain ⟨h1, _, x, r, e, _⟩ := brs_mem hb
  refine ⟨?_, by unfold bMul; rw [hl], fun hm => ?_⟩
  · have hm := hdsB_mem (keep := keep) (n := n) hf hw hb
    cases hh : hdsB keep n way b with
    | nil => rw [hh, e] at hl; simp at hl
    | cons k s => rw [hh] at hm; unfold bLet; rw [List.headD_cons]; rw [(hm k (by simp)).1]; rfl
  · obtain ⟨k, e⟩ := bMul_one hb hm
    have e3 : hdsB keep n way b = [stepW way b ++ bCut keep b] := by unfold hdsB; rw [hm]; rfl
    have ht := one_text (keep := keep) hf hw hb e
    refine ext_l ?_
    unfold bCut at *
    rw [e3, List.headD_cons, cut_l, ht, h1, e, List.headD_cons, cut_l]
    rw [List.drop_take, Nat.add_sub_cancel_left, List.take_take, Nat.min_self]
def Par (keep : Nat) (f g : List ByteArray × Nat) : Prop := ∃ n way, WayOk way f ∧ 6 ≤ f.2 + (n + 1) ∧ g = ((partsM keep (n + 1) way f).map Prod.fst, f.2)
theorem filter_map_same {α β γ : Type} (p : α → Bool) (q : β → Bool) (φ : α → β) (u : α → γ) (v : β → γ) : ∀ l : List α, (∀ a ∈ l, q (φ a) = p a ∧ (p a = true → v (φ a) = u a)) → ((l.map φ).filter q).map v = (l.filter p).map u
  | [], _ => rfl
  | a :: l, h => by
    obtain ⟨h1, h2⟩ := h a (by simp)
    have ih := filter_map_same p q φ u v l fun x hx => h x (List.mem_cons_of_mem _ hx)
    rw [List.map_cons]
    cases c : p a
    · rw [List.filter_cons_of_neg (by rw [h1, c]; simp), List.filter_cons_of_neg (by rw [c]; simp), ih]
    · rw [List.filter_cons_of_pos (by rw [h1, c]), List.filter_cons_of_pos c, List.map_cons, List.map_cons, ih, h2 c]
theorem node_par {keep : Nat} {f g : List ByteArray × Nat} (hf : Fork f) (h : Par keep f g) : (node keep g).letters = (node keep f).letters ∧ (node keep g).more = (node keep f).more ∧ (node keep g).first = (node keep f).first ∧ (node keep g).rests = (node keep f).rests ∧
    ∃ l : List ((List ByteArray × Nat) × (List ByteArray × Nat)), (node keep f).kids = l.map Prod.fst ∧ (node keep g).kids = l.map Prod.snd ∧ ∀ p ∈ l, Fork p.1 ∧ Par keep p.1 p.2 := by
  obtain ⟨n, way, hw, hn, rfl⟩ := h
  obtain ⟨a1, a2, a3, a4, a5⟩ := node_all keep f
  obtain ⟨b1, b2, b3, b4, b5⟩ := node_all keep ((partsM keep (n + 1) way f).map Prod.fst, f.2)
  rw [brs_parts hf hw hn] at b1 b2 b3 b4 b5
  have hs := fun b hb => br_same (keep := keep) hf hw hn (b := b) hb
  refine ⟨?_, ?_, ?_, ?_, ?_⟩
  · rw [a1, b1, List.map_map]
    exact List.map_congr_left fun b hb => (hs b hb).1
  · rw [a2, b2, List.map_map]
    exact List.map_congr_left fun b hb => by show bMore _ = _; unfold bMore; rw [(hs b hb).2.1]
  · rw [a3, b3]
    cases brs f with
    | nil => rfl
    | cons b r => simp [bFirst]
  · rw [a4, b4]
    refine filter_map_same _ _ _ _ _ _ fun b hb => ⟨by rw [(hs b hb).2.1], fun h => (hs b hb).2.2 (by simpa using h)⟩
  · refine ⟨((brs f).filter bMul).map fun b => (bKid b, (hdsB keep n way b, f.2 + 1)), ?_, ?_, ?_⟩
    · rw [a5, List.map_map]; rfl
    · rw [b5, List.map_map]
      exact filter_map_same bMul bMul _ _ _ _ fun b hb => ⟨(hs b hb).2.1, fun _ => rfl⟩
    · intro p hp
      obtain ⟨b, hb, rfl⟩ := List.mem_map.1 hp
      obtain ⟨hb, hm⟩ := List.mem_filter.1 hb
      obtain ⟨h1, _⟩ := brs_mem hb
      have e2 : (bKid b).2 = f.2 + 1 := by unfold bKid; rw [h1]
      have hkf := bKid_fork hf hb hm
      have hd := hkf.dep
      refine ⟨hkf, ?_⟩
      cases n with
      | zero => rw [e2] at hd; omega
      | succ m =>
        refine ⟨m, stepW way b, way_kid hf hw hb hm, by show 6 ≤ (bKid b).2 + (m + 1); omega, ?_⟩
        rw [e2]
        show (hdsB keep (m + 1) way b, f.2 + 1) = _
        unfold hdsB
        rw [hm]; rfl
theorem bfs_par {keep : Nat} : ∀ (n : Nat) (l : List ((List ByteArray × Nat) × (List ByteArray × Nat))), (∀ p ∈ l, Fork p.1 ∧ Par keep p.1 p.2) → bfs keep n (l.map Prod.snd) = bfs keep n (l.map Prod.fst)
  | 0, l, _ => rfl
  | n + 1, [], _ => rfl
  | n + 1, p :: l, h => by
    obtain ⟨hf, hp⟩ := h p (by simp)
    obtain ⟨h1, h2, h3, h4, m, k1, k2, k3⟩ := node_par hf hp
    have ih := bfs_par n (l ++ m) fun q hq => by
      rcases List.mem_append.1 hq with hq | hq
      · exact h q (List.mem_cons_of_mem _ hq)
      · exact k3 q hq
    rw [List.map_append, List.map_append] at ih
    simp only [List.map_cons, bfs, Put.add, h1, h2, h3, h4, k1, k2, ih]
/-- What is kept of all keys. -/
def headsM (keep : Nat) (ks : List ByteArray) : List ByteArray := (partsM keep 6 zs (ks, 0)).map Prod.fst
theorem way_0 (ks : List ByteArray) : WayOk zs (ks, 0) := ⟨rfl, fun k _ => by simp; rfl⟩
theorem heads_len {keep : Nat} {ks : List ByteArray} (hf : Fork (ks, 0)) : (headsM keep ks).length = ks.length := by
  unfold headsM
  rw [List.length_map, parts_len 6 hf (by omega)]
theorem heads_bfs {keep : Nat} {ks : List ByteArray} (hf : Fork (ks, 0)) : bfsF keep [(headsM keep ks, 0)] = bfsF keep [(ks, 0)] := by
  have h := bfs_par (keep := keep) (wts [(ks, 0)]) [((ks, 0), (headsM keep ks, 0))] (by
    intro p hp
    obtain rfl := List.mem_singleton.1 hp
    exact ⟨hf, 5, zs, way_0 ks, by simp, rfl⟩)
  have e : wts [(headsM keep ks, 0)] = wts [(ks, 0)] := by rw [wts_one, wts_one]; unfold wt; simp only; rw [heads_len hf]
  unfold bfsF
  rw [e]
  exact h
theorem drop_lt {α : Type} [LT α] [DecidableLT α] : ∀ {d : Nat} {a b : List α}, a.take d = b.take d → a.drop d < b.drop d → a < b
  | 0, a, b, _, h => h
  | d + 1, [], [], _, h => by simp at h
  | d + 1, [], b :: s, h, _ => by simp at h
  | d + 1, a :: r, [], h, _ => by simp at h
  | d + 1, a :: r, b :: s, h, k => by
    simp only [List.take_succ_cons, List.cons.injEq] at h
    obtain ⟨rfl, h⟩ := h
    rw [List.cons_lt_cons_iff]
    exact .inr ⟨rfl, drop_lt h (by simpa using k)⟩
theorem lab_klt {x y : ByteArray} {d : Nat} (h : x.data.toList.take d = y.data.toList.take d) (hx : d ≤ x.size) (hy : d ≤ y.size) (hl : (lab x d).toNat < (lab y d).toNat) (h45 : lab x d ≠ 45 → x.size ≠ d) (hy45 : y.size = d → (lab y d).toNat = 45) (hx45 : 45 ≤ (lab x d).toNat) : klt x y = true := by
  rw [klt_iff, Go.ByteArray.toList_eq, Go.ByteArray.toList_eq]
  refine drop_lt h ?_
  have ny : y.size ≠ d := fun e => by have := hy45 e; omega
  rw [lab_l hx, lab_l hy] at hl
  rw [size_l] at hx hy ny
  rw [List.getElem?_eq_getElem (by omega : d < y.data.toList.length)] at hl
  rw [List.drop_eq_getElem_cons (by omega : d < y.data.toList.length)]
  rcases Nat.lt_or_ge d x.data.toList.length with c | c
  · rw [List.getElem?_eq_getElem c] at hl
    rw [List.drop_eq_getElem_cons c, List.cons_lt_cons_iff]
    exact .inl (UInt8.lt_iff_toNat_lt.2 hl)
  · rw [List.drop_of_length_le c]
    exact List.nil_lt_cons _ _
theorem lab_ge {k : ByteArray} {d : Nat} (h : keyOk k = true) (hd : d ≤ k.size) : 45 ≤ (lab k d).toNat := by
  by_cases e : k.size = d
  · rw [(lab_end h hd).2 e]; decide
  · unfold lab
    rw [if_neg e]
    have := keyOk_let h (i := d) (by omega)
    omega
theorem parts_lt {keep : Nat} : ∀ (n : Nat) {way : ByteArray} {f : List ByteArray × Nat}, Fork f → WayOk way f → (partsM keep n way f).Pairwise fun a b => klt a.1 b.1 = true
  | 0, _, _, _, _ => by simp [partsM]
  | n + 1, way, f, hf, hw => by
    simp only [partsM]
    rw [List.pairwise_flatMap]
    refine ⟨fun b hb => ?_, (brs_lt hf).imp_of_mem fun {a b} ha hb h => ?_⟩
    · cases c : bMul b
      · simp
      · simp only [if_true]
        exact parts_lt n (bKid_fork hf hb c) (way_kid hf hw hb c)
    · intro x hx y hy
      have mx := hdsB_mem (keep := keep) (n := n) hf hw ha x.1 (by unfold hdsB; exact List.mem_map.2 ⟨x, hx, rfl⟩)
      have my := hdsB_mem (keep := keep) (n := n) hf hw hb y.1 (by unfold hdsB; exact List.mem_map.2 ⟨y, hy, rfl⟩)
      obtain ⟨lx, k, hk, m, hm, ex⟩ := mx
      obtain ⟨ly, k2, hk2, m2, hm2, ey⟩ := my
      have ik := (brs_lab ha k hk).1
      have ik2 := (brs_lab hb k2 hk2).1
      obtain ⟨ok, dk⟩ := hf.ok k ik
      obtain ⟨ok2, dk2⟩ := hf.ok k2 ik2
      have l1 := lab_take dk hm ex
      have l2 := lab_take dk2 hm2 ey
      rw [size_l] at dk dk2
      have sx : x.1.size = min m k.data.toList.length := by rw [size_l, ex, List.length_take]
      have sy : y.1.size = min m2 k2.data.toList.length := by rw [size_l, ey, List.length_take]
      refine lab_klt (d := f.2) ?_ (by omega) (by omega) (by rw [lx, ly]; exact h) ?_ ?_ ?_
      · rw [ex, ey, List.take_take, List.take_take, Nat.min_eq_left (by omega), Nat.min_eq_left (by omega)]
        exact hf.alike k ik k2 ik2
      · intro hne hs
        refine hne ?_
        rw [l1]
        refine (lab_end ok (by rw [size_l]; omega)).2 ?_
        rw [size_l]; omega
      · intro hs
        rw [l2, (lab_end ok2 (by rw [size_l]; omega)).2 (by rw [size_l]; omega)]; rfl
      · rw [l1]; exact lab_ge ok (by rw [size_l]; omega)
theorem keyOk_take {k x : ByteArray} {m : Nat} (h : keyOk k = true) (e : x.data.toList = k.data.toList.take m) : keyOk x = true := by
  unfold keyOk at *
  rw [Bool.and_eq_true] at *
  obtain ⟨h1, h2⟩ := h
  refine ⟨?_, ?_⟩
  · rw [e]
    exact List.all_eq_true.2 fun c hc => List.all_eq_true.1 h1 c (List.mem_of_mem_take hc)
  · have : k.size ≤ 5 := of_decide_eq_true h2
    refine decide_eq_true ?_
    rw [size_l] at *
    rw [e, List.length_take]; omega
theorem heads_ok {keep : Nat} {ks : List ByteArray} (h : keysOkM ks = true) : keysOkM (headsM keep ks) = true := by
  obtain ⟨hl, hf, _⟩ := ksOk_iff h
  have hp := parts_lt (keep := keep) 6 hf (way_0 ks)
  have hm := parts_mem (keep := keep) 6 hf (way_0 ks)
  unfold keysOkM
  rw [heads_len hf, decide_eq_true hl, Bool.and_true, allI_iff]
  intro i hi
  have hpw : (headsM keep ks).Pairwise fun a b => klt a b = true := by unfold headsM; rw [List.pairwise_map]; exact hp
  have hl2 : i < (headsM keep ks).length := by rw [heads_len hf]; exact hi
  have hok : keyOk (headsM keep ks)[i] = true := by
    have hmem : (headsM keep ks)[i] ∈ headsM keep ks := List.getElem_mem hl2
    obtain ⟨x, hx, e⟩ := List.mem_map.1 hmem
    obtain ⟨k, hk, m, _, e2⟩ := hm x hx
    rw [← e]
    exact keyOk_take (hf.ok k hk).1 e2
  unfold ksAt
  rw [List.getElem?_eq_getElem hl2]
  simp only [Bool.and_eq_true]
  refine ⟨hok, ?_⟩
  cases i with
  | zero => rfl
  | succ j =>
    simp only
    rw [List.getElem?_eq_getElem (by omega)]
    exact List.pairwise_iff_getElem.1 hpw j (j + 1) (by omega) hl2 (by omega)
theorem heads_sieve {keep : Int} {ks : List ByteArray} (h : keysOkM ks = true) : sieveM (headsM keep.toNat ks) keep = sieveM ks keep := by
  obtain ⟨hl, hf, _⟩ := ksOk_iff h
  unfold sieveM
  rw [h, heads_ok h, heads_bfs hf]
set_option maxRecDepth 10000
theorem ext1 {k : ByteArray} {d : Nat} (h : d < k.size) : k.extract d (d + 1) = bs [lab k d] := by
  have h' : d < k.data.size := h
  have e : lab k d = k.data[d] := by
    unfold lab; rw [if_neg (by omega), Array.getD_eq_getD_getElem?, Array.getElem?_eq_getElem h']; rfl
  rw [e]
  unfold bs
  apply ByteArray.ext
  rw [ByteArray.data_extract]
  apply Array.ext'
  simp only [Array.toList_extract, List.extract_eq_drop_take]
  rw [List.drop_eq_getElem_cons (by simpa using h')]
  simp
theorem l3Letter_ac (k : ByteArray) (d : Nat) (h : d ≤ k.size) (h5 : k.size ≤ 5) : AC Tryz.prog 157 [sT k, iT d] noHp 0 ⟨.t (sT (labS k d)), noHp, 0⟩ := by
  refine AC_of Tryz.func157 rfl Tryz.ntmps157 Tryz.results157 (by kernel_rfl) rfl ?_
  simp only [List.zipIdx, List.map, Nat.zero_add, Nat.reduceAdd]
  by_cases e : k.size = d
  · have c : decide ((k.size : Int) ≤ (d : Int)) = true := decide_eq_true (by omega)
    repeat (first | apply Aw_seq | apply Aw_block | apply Aw_skip | apply Aw_exit | refine Aw_condt rfl ?_ | refine Aw_condf rfl ?_ | ((first | refine qr ?_ | refine qd (by kernel_rfl) (by kernel_rfl) ?_); simp only [go_sem, jE, reduceIte, jA, jM, jS, jL, jD, jB, c]) | refine dk (by kernel_rfl) ?_)
    exact Aw_ret (ret0 (.inl rfl) (by simp only [go_sem, jE, reduceIte, jA, jM, jS, jL, jD, jB]; rfl) (by unfold lab; rw [if_pos e]) rfl)
  · have c : decide ((k.size : Int) ≤ (d : Int)) = false := decide_eq_false (by omega)
    have hw := wrap_succ (i := d) (m := k.size) (by omega) (by omega)
    have c1 : ((d : Int) ≤ ((d + 1 : Nat) : Int)) = True := eq_true (by omega)
    have c2 : (((d + 1 : Nat) : Int) ≤ (k.size : Int)) = True := eq_true (by omega)
    have c3 := ext1 (k := k) (d := d) (by omega)
    repeat (first | apply Aw_seq | apply Aw_block | apply Aw_skip | apply Aw_exit | refine Aw_condt rfl ?_ | refine Aw_condf rfl ?_ | ((first | refine qr ?_ | refine qd (by kernel_rfl) (by kernel_rfl) ?_); simp only [go_sem, jE, reduceIte, jA, jM, jS, jL, jD, jB, c, hw, c1, c2, c3]) | refine dk (by kernel_rfl) ?_)
    exact Aw_ret (ret0 (.inl rfl) (by simp only [go_sem, jE, reduceIte, jA, jM, jS, jL, jD, jB]; rfl) (by rfl) rfl)
theorem cutT_nil {k : ByteArray} {d : Nat} (h : k.size ≤ d + 1) (keep : Nat) : cutT k d keep = zs := by
  unfold cutT
  apply ByteArray.ext
  rw [ByteArray.data_extract, ByteArray.data_extract]
  apply Array.ext'
  simp only [Array.toList_extract, List.extract_eq_drop_take]
  rw [Nat.min_eq_right h]
  simp; rfl
theorem cutT_def (k : ByteArray) (d keep : Nat) (h : d + 1 ≤ k.size) : cutT k d keep = (k.extract (d + 1) k.size).extract 0 (min (k.extract (d + 1) k.size).size keep) := by
  unfold cutT; rw [Nat.min_eq_left h, Nat.min_comm]
theorem l3Rest_ac (k : ByteArray) (d keep : Nat) (h5 : k.size ≤ 5) : AC Tryz.prog 158 [sT k, iT ((d + 1 : Nat) : Int), iT keep] noHp 0 ⟨.t (sT (cutT k d keep)), noHp, 0⟩ := by
  refine AC_of Tryz.func158 rfl Tryz.ntmps158 Tryz.results158 (by kernel_rfl) rfl ?_
  simp only [List.zipIdx, List.map, Nat.zero_add, Nat.reduceAdd]
  by_cases e : k.size ≤ d + 1
  · have c : decide ((k.size : Int) ≤ ((d + 1 : Nat) : Int)) = true := decide_eq_true (by omega)
    rw [cutT_nil e]
    repeat (first | apply Aw_seq | apply Aw_block | apply Aw_skip | apply Aw_exit | refine Aw_condt rfl ?_ | refine Aw_condf rfl ?_ | ((first | refine qr ?_ | refine qd (by kernel_rfl) (by kernel_rfl) ?_); simp only [go_sem, jE, reduceIte, jA, jM, jS, jL, jD, jB, c]) | refine dk (by kernel_rfl) ?_)
    exact Aw_ret (ret0 (.inl rfl) (by simp only [go_sem, jE, reduceIte, jA, jM, jS, jL, jD, jB]; rfl) (by rfl) rfl)
  · have c : decide ((k.size : Int) ≤ ((d + 1 : Nat) : Int)) = false := decide_eq_false (by omega)
    have c1 : (((d + 1 : Nat) : Int) ≤ (k.size : Int)) = True := eq_true (by omega)
    rw [cutT_def k d keep (by omega)]
    have c2 : ((((min (k.extract (d + 1) k.size).size keep) : Nat) : Int) ≤ ((k.extract (d + 1) k.size).size : Int)) = True := eq_true (by omega)
    repeat (first | apply Aw_seq | apply Aw_block | apply Aw_skip | apply Aw_exit | refine Aw_condt rfl ?_ | refine Aw_condf rfl ?_ | ((first | refine qr ?_ | refine qd (by kernel_rfl) (by kernel_rfl) ?_); simp only [go_sem, jE, reduceIte, jA, jM, jS, jL, jD, jB, c, c1, min_if, c2]) | refine dk (by kernel_rfl) ?_)
    exact Aw_ret (ret0 (.inl rfl) (by simp only [go_sem, jE, reduceIte, jA, jM, jS, jL, jD, jB]; rfl) (by rfl) rfl)
/-- A fork, as it lies in a variable. -/
def fkO (ks : List ByteArray) (d : Nat) : Obj := ⟨131, 2, false, [[.d (.rs 1 (ks.map strD)), .d (.s (.int .i64 (d : Int)))]]⟩
@[go_sem] theorem r_fkO (ks : List ByteArray) (d : Nat) : fkO ks d = ⟨131, 2, false, [[.d (.rs 1 (ks.map strD)), .d (.s (.int .i64 (d : Int)))]]⟩ := rfl
abbrev fkT (ks : List ByteArray) (d : Nat) : TV := .agg [.d (.rs 1 (ks.map strD)), .d (.s (.int .i64 (d : Int)))]
theorem l3Group_ac (x : ByteArray) (r : List ByteArray) (d : Nat) (hl : (x :: r).length ≤ 3000) (hk : ∀ k ∈ x :: r, d ≤ k.size ∧ k.size ≤ 5) : AC Tryz.prog 156 [fkT (x :: r) d] noHp 0 ⟨.t (strsT (colI (x :: r).length (grpAt (x :: r) d x))), noHp, 0⟩ := by
  refine AC.settle0 (x := .t (.c (.h 0))) (hp1 := hpL [some (kRow (colI (x :: r).length (grpAt (x :: r) d x)))]) (n := 1) [0] ?_ (SetC.row0 rfl rfl) rfl
  have hx0 : (x :: r)[0]? = some x := rfl
  have hx := hk x (by simp)
  generalize x :: r = ks at *
  refine AC_of Tryz.func156 rfl Tryz.ntmps156 Tryz.results156 (by kernel_rfl) rfl ?_
  simp only [List.zipIdx, List.map, Nat.zero_add, Nat.reduceAdd]
  repeat (first | apply Aw_seq | apply Aw_block | apply Aw_skip | apply Aw_exit | refine Aw_condt rfl ?_ | refine Aw_condf rfl ?_ | ((first | refine qr ?_ | refine qd (by kernel_rfl) (by kernel_rfl) ?_); simp only [go_sem, jE, reduceIte, jA, jM, jS, jL, jD, jB]) | refine dk (by kernel_rfl) ?_)
  refine Aw.rw (rwL (l' := [(4, .t (iT (0 : Nat))), (3, .t (.c (.h 1))), (1, .t (.c (.ph 0 0 0)))]) (os := [some (fkO ks d), some (kRow (colI 0 (grpAt ks d x)))]) (M := [0, 2]) (n' := 2) (by repeat (first | exact trivial | refine ⟨rfl, rfl, ?_⟩)) (by rfl) (by simp only [go_sem, jE, reduceIte, jA, jM, jS, jL, jD, jB]; first | done | rfl) (by decide) (by unfold idM; decide)) ?_
  refine Aw_loop_rw (ι := { i : Nat // i ≤ ks.length }) (fun i => S [(4, .t (iT (i.1 : Nat))), (3, .t (.c (.h 1))), (1, .t (.c (.ph 0 0 0)))] (hpL [some (fkO ks d), some (kRow (colI i.1 (grpAt ks d x)))]) 2) (fun i => ks.length - i.1) ⟨0, Nat.zero_le _⟩ ?_
  rintro ⟨i, hi⟩
  dsimp only
  by_cases hlt : i < ks.length
  · have h1 : decide ((i : Int) < (ks.length : Int)) = true := decide_eq_true (by omega)
    have h2 := wrap_succ hlt (by omega)
    obtain ⟨y, hy⟩ : ∃ y, ks[i]? = some y := ⟨_, List.getElem?_eq_getElem hlt⟩
    have hyk := hk y (List.mem_of_getElem? hy)
    have hb : ((colI i (grpAt ks d x)).length + 1) * 16 ≤ 140737488355328 := by have := colI_len (n := i) (grp_len ks d x); omega
    cases c1 : decide (lab y d = lab x d)
    · repeat (first | apply Aw_seq | apply Aw_block | apply Aw_skip | apply Aw_exit | refine Aw_condt rfl ?_ | refine Aw_condf rfl ?_ | ((first | refine qr ?_ | refine qd (by kernel_rfl) (by kernel_rfl) ?_); simp only [go_sem, jE, reduceIte, jA, jM, jS, jL, jD, jB, h1, h2, hy, hx0, c1]) | refine dk (by kernel_rfl) ?_ | (refine qp (l3Letter_ac y d hyk.1 hyk.2) (by simp only [go_sem, jE, reduceIte, jA, jM, jS, jL, jD, jB, h1, h2, hy, hx0, c1]; first | done | rfl) rfl (by simp only [go_sem, Nat.reduceLT]) rfl rfl ?_; simp only [go_sem, jE, reduceIte, jA, jM, jS, jL, jD, jB, h1, h2, hy, hx0, c1]) | (refine qp (l3Letter_ac x d hx.1 hx.2) (by simp only [go_sem, jE, reduceIte, jA, jM, jS, jL, jD, jB, h1, h2, hy, hx0, c1]; first | done | rfl) rfl (by simp only [go_sem, Nat.reduceLT]) rfl rfl ?_; simp only [go_sem, jE, reduceIte, jA, jM, jS, jL, jD, jB, h1, h2, hy, hx0, c1]))
      have hc : colI (i + 1) (grpAt ks d x) = colI i (grpAt ks d x) := by rw [colI_succ]; unfold grpAt; rw [hy]; simp only []; rw [if_neg (by simpa using c1)]; simp
      refine ⟨⟨i + 1, hlt⟩, [0, 1], ?_, rwL (by repeat (first | exact trivial | refine ⟨rfl, rfl, ?_⟩)) (by rfl) (by simp only [go_sem, jE, reduceIte, jA, jM, jS, jL, jD, jB, hc]; first | done | rfl) (by decide) (by unfold idM; decide)⟩
      show ks.length - (i + 1) < ks.length - i; omega
    · repeat (first | apply Aw_seq | apply Aw_block | apply Aw_skip | apply Aw_exit | refine Aw_condt rfl ?_ | refine Aw_condf rfl ?_ | ((first | refine qr ?_ | refine qd (by kernel_rfl) (by kernel_rfl) ?_); simp only [go_sem, jE, reduceIte, jA, jM, jS, jL, jD, jB, h1, h2, hy, hx0, c1, hb]) | refine dk (by kernel_rfl) ?_ | (refine qp (l3Letter_ac y d hyk.1 hyk.2) (by simp only [go_sem, jE, reduceIte, jA, jM, jS, jL, jD, jB, h1, h2, hy, hx0, c1, hb]; first | done | rfl) rfl (by simp only [go_sem, Nat.reduceLT]) rfl rfl ?_; simp only [go_sem, jE, reduceIte, jA, jM, jS, jL, jD, jB, h1, h2, hy, hx0, c1, hb]) | (refine qp (l3Letter_ac x d hx.1 hx.2) (by simp only [go_sem, jE, reduceIte, jA, jM, jS, jL, jD, jB, h1, h2, hy, hx0, c1, hb]; first | done | rfl) rfl (by simp only [go_sem, Nat.reduceLT]) rfl rfl ?_; simp only [go_sem, jE, reduceIte, jA, jM, jS, jL, jD, jB, h1, h2, hy, hx0, c1, hb]))
      have hc : colI (i + 1) (grpAt ks d x) = colI i (grpAt ks d x) ++ [y] := by rw [colI_succ]; unfold grpAt; rw [hy]; simp only []; rw [if_pos (by simpa using c1)]
      refine ⟨⟨i + 1, hlt⟩, [0, 28], ?_, rwL (by repeat (first | exact trivial | refine ⟨rfl, rfl, ?_⟩)) (by rfl) (by simp only [go_sem, jE, reduceIte, jA, jM, jS, jL, jD, jB, hc]; first | done | rfl) (by decide) (by unfold idM; decide)⟩
      show ks.length - (i + 1) < ks.length - i; omega
  · have h1 : decide ((i : Int) < (ks.length : Int)) = false := decide_eq_false (by omega)
    obtain rfl : i = ks.length := by omega
    repeat (first | apply Aw_seq | apply Aw_block | apply Aw_skip | apply Aw_exit | refine Aw_condt rfl ?_ | refine Aw_condf rfl ?_ | ((first | refine qr ?_ | refine qd (by kernel_rfl) (by kernel_rfl) ?_); simp only [go_sem, jE, reduceIte, jA, jM, jS, jL, jD, jB, h1]) | refine dk (by kernel_rfl) ?_)
    exact Aw_ret (retL (M := [1]) (.inl rfl) (by simp only [go_sem, jE, reduceIte, jA, jM, jS, jL, jD, jB]; first | done | rfl) rfl rfl (by rfl) (by simp only [go_sem, jE, reduceIte, jA, jM, jS, jL, jD, jB]; first | done | rfl | (and_intros <;> rfl)) (by decide) (by unfold idM; decide))
theorem grp_ex {x : ByteArray} {r : List ByteArray} {d : Nat} (hf : Fork (x :: r, d)) (hl : (x :: r).length ≤ 3000) : ∃ g, AC Tryz.prog 156 [fkT (x :: r) d] noHp 0 ⟨.t (strsT g), noHp, 0⟩ ∧ g[0]? = some x ∧ 1 ≤ g.length ∧ g.length ≤ (x :: r).length ∧ spl d (x :: r) = g :: spl d ((x :: r).drop g.length) := by
  refine ⟨grpF d (x :: r), ?_, rfl, by simp [grpF], ?_, spl_grp⟩
  · have h := l3Group_ac x r d hl (fun k hk => ⟨(hf.ok k hk).2, keyOk_size (hf.ok k hk).1⟩)
    rw [grp_fork hf rfl] at h
    exact h
  · unfold grpF
    simp only [List.length_cons]
    have := (List.takeWhile_sublist (fun y => lab y d == lab x d) (l := r)).length_le
    omega
structure PutI (keep d : Nat) (G : Put) where
  B : Put
  rest : List ByteArray
  m : UInt8
  eq : B.add (runs keep d m (spl d rest)) = G
  fork : Fork (rest, d)
  l1 : B.letters.length + rest.length ≤ 2000
  b4 : B.more.length = B.letters.length
  b5 : B.first.length = B.letters.length
  l2 : B.rests.length + rest.length ≤ 2000
  l3 : B.kids.length + rest.length ≤ 3000
@[go_sem] theorem bs_size (l : List UInt8) : (bs l).size = l.length := by simp [bs, ByteArray.size]
def puH (B : Put) (rest : List ByteArray) (d keep : Nat) : List (Option Obj) := [none, some (svO (bs B.letters) (bs B.more) (bs B.first) (.h 5) keep), some (fkO rest d), some (svO zs zs zs (.d (.s (.slice none 0 0))) 0), some (dRow 131 2 (B.kids.map grpD)), some (kRow B.rests)]
@[go_sem] theorem r_puH (B : Put) (rest : List ByteArray) (d keep : Nat) : puH B rest d keep = [none, some (svO (bs B.letters) (bs B.more) (bs B.first) (.h 5) keep), some (fkO rest d), some (svO zs zs zs (.d (.s (.slice none 0 0))) 0), some (dRow 131 2 (B.kids.map grpD)), some (kRow B.rests)] := rfl
abbrev puSl (m : UInt8) : List (Nat × AV) := [(7, .t (sT (bs [m]))), (6, .t (.c (.h 4))), (4, .t (.c (.ph 3 0 0))), (3, .t (.c (.ph 2 0 0))), (2, .t (.c (.ph 1 0 0)))]
abbrev pvT (A : Put) (keep : Nat) (r : CV) : TV := .agg [.d (.s (.string (bs A.letters))), .d (.s (.string (bs A.more))), .d (.s (.string (bs A.first))), r, .d (.s (.int .i64 (keep : Int)))]
theorem l3Put_ac (A : Put) (f : List ByteArray × Nat) (keep : Nat) (hf : Fork f) (hA : A.kids = []) (hl : f.1.length ≤ 1000) (hr : A.rests.length ≤ 1000) (ha : A.letters.length ≤ 1000) (ha4 : A.more.length = A.letters.length) (ha5 : A.first.length = A.letters.length) :
    AC Tryz.prog 129 [pvT A keep (.h 0), fkT f.1 f.2] (hpL [some (kRow A.rests)]) 1 ⟨.tup [pvT (A.add (node keep f)) keep (.h 1), .c (.h 2)], hpL [none, some (kRow (A.add (node keep f)).rests), some (dRow 131 2 ((A.add (node keep f)).kids.map grpD))], 3⟩ := by
  refine AC_of Tryz.func129 rfl Tryz.ntmps129 Tryz.results129 (by kernel_rfl) rfl ?_
  simp only [List.zipIdx, List.map, Nat.zero_add, Nat.reduceAdd]
  repeat (first | apply Aw_seq | apply Aw_block | apply Aw_skip | apply Aw_exit | refine Aw_condt rfl ?_ | refine Aw_condf rfl ?_ | ((first | refine qr ?_ | refine qd (by kernel_rfl) (by kernel_rfl) ?_); simp only [go_sem, jE, reduceIte, jA, jM, jS, jL, jD, jB]) | refine dk (by kernel_rfl) ?_)
  refine Aw.rw (rwL (l' := puSl 49) (os := puH A f.1 f.2 keep) (M := [0, 1, 2, 3, 5, 0]) (n' := 6) (by repeat (first | exact trivial | refine ⟨rfl, rfl, ?_⟩)) (by rfl) (by simp only [go_sem, jE, reduceIte, jA, jM, jS, jL, jD, jB, hA]; first | done | rfl) (by decide) (by unfold idM; decide)) ?_
  refine Aw_loop_rw (ι := PutI keep f.2 (A.add (node keep f))) (fun i => S (puSl i.m) (hpL (puH i.B i.rest f.2 keep)) 6) (fun i => i.rest.length) ⟨A, f.1, 49, rfl, hf, by omega, ha4, ha5, by omega, by rw [hA]; simp; omega⟩ ?_
  rintro ⟨B, rest, m, eq, fork, l1, b4, b5, l2, l3⟩
  dsimp only
  rcases hr : rest with _ | ⟨x, r⟩
  · subst hr
    have e : B = A.add (node keep f) := by rw [spl_nil] at eq; simpa [runs, Put.addz] using eq
    subst e
    repeat (first | apply Aw_seq | apply Aw_block | apply Aw_skip | apply Aw_exit | refine Aw_condt rfl ?_ | refine Aw_condf rfl ?_ | ((first | refine qr ?_ | refine qd (by kernel_rfl) (by kernel_rfl) ?_); simp only [go_sem, jE, reduceIte, jA, jM, jS, jL, jD, jB]) | refine dk (by kernel_rfl) ?_)
    exact Aw_ret (retL (M := [0, 5, 4]) (.inl rfl) (by simp only [go_sem, jE, reduceIte, jA, jM, jS, jL, jD, jB]; first | done | rfl) rfl rfl (by rfl) (by simp only [go_sem, jE, reduceIte, jA, jM, jS, jL, jD, jB]; first | done | rfl | (and_intros <;> rfl)) (by decide) (by unfold idM; decide))
  · rw [← hr]
    have hlen : 1 ≤ rest.length := by rw [hr]; simp
    obtain ⟨g, gac, g0, g1, g2, g3⟩ := grp_ex (by rw [← hr]; exact fork) (by rw [← hr]; omega)
    rw [← hr] at gac g2 g3
    have hpos : decide ((0 : Int) < (rest.length : Int)) = true := decide_eq_true (by omega)
    have hx := fork.ok x (by rw [hr]; simp)
    have hx5 := keyOk_size hx.1
    clear hr
    have q1 : (B.letters.length + 1 ≤ 9223372036854775807) = True := eq_true (by omega)
    have q2 : (B.first.length + 1 ≤ 9223372036854775807) = True := eq_true (by omega)
    have q3 : (B.more.length + 1 ≤ 9223372036854775807) = True := eq_true (by omega)
    repeat (first | apply Aw_seq | apply Aw_block | apply Aw_skip | apply Aw_exit | refine Aw_condt rfl ?_ | refine Aw_condf rfl ?_ | ((first | refine qr ?_ | refine qd (by kernel_rfl) (by kernel_rfl) ?_); simp only [go_sem, jE, reduceIte, jA, jM, jS, jL, jD, jB, hpos, g0, q1, q2]) | refine dk (by kernel_rfl) ?_ | (refine qp (gac) (by simp only [go_sem, jE, reduceIte, jA, jM, jS, jL, jD, jB, hpos, g0, q1, q2]; first | done | rfl) rfl (by simp only [go_sem, Nat.reduceLT]) rfl rfl ?_; simp only [go_sem, jE, reduceIte, jA, jM, jS, jL, jD, jB, hpos, g0, q1, q2]) | (refine qp (l3Letter_ac x f.2 hx.2 hx5) (by simp only [go_sem, jE, reduceIte, jA, jM, jS, jL, jD, jB, hpos, g0, q1, q2]; first | done | rfl) rfl (by simp only [go_sem, Nat.reduceLT]) rfl rfl ?_; simp only [go_sem, jE, reduceIte, jA, jM, jS, jL, jD, jB, hpos, g0, q1, q2]))
    have hg1 : g = x :: g.drop 1 := by
      match g, g0 with
      | y :: q, h => simp at h; subst h; rfl
    have hkm : (List.map strD rest).drop g.length = List.map strD (rest.drop g.length) := List.map_drop.symm
    have hnl : ((g.length : Int) ≤ (rest.length : Int)) = True := eq_true (by omega)
    have htd : List.drop g.length (List.take rest.length (List.map strD rest)) = List.map strD (rest.drop g.length) := by
      rw [List.take_of_length_le (by simp), ← List.map_drop]
    have wd : IntKind.i64.wrap ((f.2 : Int) + 1) = ((f.2 + 1 : Nat) : Int) := wrap_succ (m := 10) (by have := hf.dep; omega) (by omega)
    refine cut_seq (J := fun (_ : Unit) => S ((8, .t (strsT g)) :: puSl 48) (hpL (puH (B.add (run1 keep f.2 m g)) rest f.2 keep)) 6) ?_ ?_
    · by_cases hn : 1 < g.length
      · have c1 : decide ((1 : Int) < (g.length : Int)) = true := decide_eq_true (by omega)
        have hq : (B.kids.length + 1) * 32 ≤ 140737488355328 := by omega
        rw [c1]
        repeat (first | apply Aw_seq | apply Aw_block | apply Aw_skip | apply Aw_exit | refine Aw_condt rfl ?_ | refine Aw_condf rfl ?_ | ((first | refine qr ?_ | refine qd (by kernel_rfl) (by kernel_rfl) ?_); simp only [go_sem, jE, reduceIte, jA, jM, jS, jL, jD, jB, c1, q3, hq, wd]) | refine dk (by kernel_rfl) ?_)
        have hrun : run1 keep f.2 m g = ⟨[lab x f.2], [49], [m], [], [(g, f.2 + 1)]⟩ := by
          match g, hg1, hn with
          | y :: z :: q, hg1, _ => obtain ⟨rfl, _⟩ := List.cons.inj hg1; rfl
        exact ⟨(), [0, 1, 2, 3, 46, 5], rwL (by repeat (first | exact trivial | refine ⟨rfl, rfl, ?_⟩)) (by rfl) (by simp only [go_sem, jE, reduceIte, jA, jM, jS, jL, jD, jB, hrun, Put.add]; first | done | rfl) (by decide) (by unfold idM; decide)⟩
      · have c1 : decide ((1 : Int) < (g.length : Int)) = false := decide_eq_false (by omega)
        have hq : (B.rests.length + 1) * 16 ≤ 140737488355328 := by omega
        rw [c1]
        repeat (first | apply Aw_seq | apply Aw_block | apply Aw_skip | apply Aw_exit | refine Aw_condt rfl ?_ | refine Aw_condf rfl ?_ | ((first | refine qr ?_ | refine qd (by kernel_rfl) (by kernel_rfl) ?_); simp only [go_sem, jE, reduceIte, jA, jM, jS, jL, jD, jB, c1, g0, q3, hq, wd]) | refine dk (by kernel_rfl) ?_ | (refine qp (l3Rest_ac x f.2 keep hx5) (by simp only [go_sem, jE, reduceIte, jA, jM, jS, jL, jD, jB, c1, g0, q3, hq, wd]; first | done | rfl) rfl (by simp only [go_sem, Nat.reduceLT]) rfl rfl ?_; simp only [go_sem, jE, reduceIte, jA, jM, jS, jL, jD, jB, c1, g0, q3, hq, wd]))
        have hrun : run1 keep f.2 m g = ⟨[lab x f.2], [48], [m], [cutT x f.2 keep], []⟩ := by
          have hg2 : g = [x] := by rw [hg1, List.drop_eq_nil_of_le (by omega)]
          rw [hg2]; rfl
        exact ⟨(), [0, 1, 2, 3, 4, 50], rwL (by repeat (first | exact trivial | refine ⟨rfl, rfl, ?_⟩)) (by rfl) (by simp only [go_sem, jE, reduceIte, jA, jM, jS, jL, jD, jB, hrun, Put.add]; first | done | rfl) (by decide) (by unfold idM; decide)⟩
    · intro _
      repeat (first | apply Aw_seq | apply Aw_block | apply Aw_skip | apply Aw_exit | refine Aw_condt rfl ?_ | refine Aw_condf rfl ?_ | ((first | refine qr ?_ | refine qd (by kernel_rfl) (by kernel_rfl) ?_); simp only [go_sem, jE, reduceIte, jA, jM, jS, jL, jD, jB, hnl, htd]) | refine dk (by kernel_rfl) ?_)
      refine ⟨⟨B.add (run1 keep f.2 m g), rest.drop g.length, 48, by rw [← eq, g3]; simp only [runs, Put.add_assoc], fork.drop g.length, by rw [List.length_drop]; have := (run1_len keep f.2 m g).1; simp only [Put.add, List.length_append]; omega, by have := (run1_len keep f.2 m g).2.2.2.1; simp only [Put.add, List.length_append]; omega, by have := (run1_len keep f.2 m g).2.2.2.2; simp only [Put.add, List.length_append]; omega, by rw [List.length_drop]; have := (run1_len keep f.2 m g).2.1; simp only [Put.add, List.length_append]; omega, by rw [List.length_drop]; have := (run1_len keep f.2 m g).2.2.1; simp only [Put.add, List.length_append]; omega⟩, [0, 1, 2, 3, 4, 5], ?_, rwL (by repeat (first | exact trivial | refine ⟨rfl, rfl, ?_⟩)) (by rfl) (by simp only [go_sem, jE, reduceIte, jA, jM, jS, jL, jD, jB]; first | done | rfl) (by decide) (by unfold idM; decide)⟩
      show (rest.drop g.length).length < rest.length
      rw [List.length_drop]; omega
@[go_sem] theorem d_fm (e k : Nat) (a : List (List D)) : (⟨e, k, true, List.map (fun x => List.map CV.d x) a⟩ : Obj) = dRow e k a := rfl
@[go_sem] theorem d_ff (e k : Nat) (a b : List (List D)) : (⟨e, k, true, List.map (fun x => List.map CV.d x) a ++ List.map (fun x => List.map CV.d x) b⟩ : Obj) = dRow e k (a ++ b) := by simp [dRow]
@[go_sem] theorem all_grpD (q : List (List ByteArray × Nat)) : (List.map (fun x => List.map CV.d x) (List.map grpD q)).all (fun cs => cs.length == 2) = true := by simp [grpD]
@[go_sem] theorem all_strD (q : List ByteArray) : (List.map (fun x => List.map CV.d x) (List.map strD q)).all (fun cs => cs.length == 1) = true := by simp [strD]
theorem bs_nil : bs [] = zs := rfl
def ssH (A : Put) (k keep : Nat) : List (Option Obj) := [some (svO zs zs zs (.d (.s (.slice none 0 0))) 0), some (svO (bs A.letters) (bs A.more) (bs A.first) (.h 2) keep), some (kRow A.rests), some (dRow 131 2 ((A.kids.drop k).map grpD))]
@[go_sem] theorem r_ssH (A : Put) (k keep : Nat) : ssH A k keep = [some (svO zs zs zs (.d (.s (.slice none 0 0))) 0), some (svO (bs A.letters) (bs A.more) (bs A.first) (.h 2) keep), some (kRow A.rests), some (dRow 131 2 ((A.kids.drop k).map grpD))] := rfl
abbrev ssSl : List (Nat × AV) := [(7, .t (.c (.h 3))), (6, .t (.c (.ph 1 0 0))), (4, .t (.c (.ph 0 0 0)))]
structure SsI (keep : Nat) (T : Put) where
  A : Put
  k : Nat
  h : Rest keep T A k
theorem ssieve_ac (keys : List ByteArray) (keep : Int) (hs : SmS keys) : AC Tryz.prog 90 [strsT keys, iT keep] noHp 0 ⟨.tup [sveT ((sieveM keys keep).getD zSve) (.h 0), bT (sieveM keys keep).isSome], hpL [some (kRow ((sieveM keys keep).getD zSve).rests)], 1⟩ := by
  refine AC_of Tryz.func90 rfl Tryz.ntmps90 Tryz.results90 (by kernel_rfl) rfl ?_
  simp only [List.zipIdx, List.map, Nat.zero_add, Nat.reduceAdd]
  cases c1 : keysOkM keys
  · repeat (first | apply Aw_seq | apply Aw_block | apply Aw_skip | apply Aw_exit | refine Aw_condt rfl ?_ | refine Aw_condf rfl ?_ | ((first | refine qr ?_ | refine qd (by kernel_rfl) (by kernel_rfl) ?_); simp only [go_sem, jE, reduceIte, jA, jM, jS, jL, jD, jB, c1]) | refine dk (by kernel_rfl) ?_ | (refine qp (skeysOk_ac _ hs) (by simp only [go_sem, jE, reduceIte, jA, jM, jS, jL, jD, jB, c1]; first | done | rfl) rfl (by simp only [go_sem, Nat.reduceLT]) rfl rfl ?_; simp only [go_sem, jE, reduceIte, jA, jM, jS, jL, jD, jB, c1]))
    have e : sieveM keys keep = none := by unfold sieveM; simp [c1]
    rw [e]
    refine Aw.ownC (m := 0) (i := 3) (e := 9) (j := 1) rfl rfl (by decide) (by simp only [Nat.reduceAdd]; rfl) rfl ?_
    exact Aw_ret (retL (M := [9]) (.inl rfl) (by simp only [go_sem, jE, reduceIte, jA, jM, jS, jL, jD, jB]; first | done | rfl) rfl rfl (by rfl) (by simp only [go_sem, jE, reduceIte, jA, jM, jS, jL, jD, jB, zSve, Option.getD_none]; first | done | rfl | (and_intros <;> rfl)) (by decide) (by unfold idM; decide))
  · cases c2 : inB 0 keep 5
    · repeat (first | apply Aw_seq | apply Aw_block | apply Aw_skip | apply Aw_exit | refine Aw_condt rfl ?_ | refine Aw_condf rfl ?_ | ((first | refine qr ?_ | refine qd (by kernel_rfl) (by kernel_rfl) ?_); simp only [go_sem, jE, reduceIte, jA, jM, jS, jL, jD, jB, c1, c2]) | refine dk (by kernel_rfl) ?_ | (refine qp (skeysOk_ac _ hs) (by simp only [go_sem, jE, reduceIte, jA, jM, jS, jL, jD, jB, c1, c2]; first | done | rfl) rfl (by simp only [go_sem, Nat.reduceLT]) rfl rfl ?_; simp only [go_sem, jE, reduceIte, jA, jM, jS, jL, jD, jB, c1, c2]) | (refine qp (l6In_ac _ _ _) (by simp only [go_sem, jE, reduceIte, jA, jM, jS, jL, jD, jB, c1, c2]; first | done | rfl) rfl (by simp only [go_sem, Nat.reduceLT]) rfl rfl ?_; simp only [go_sem, jE, reduceIte, jA, jM, jS, jL, jD, jB, c1, c2]))
      have e : sieveM keys keep = none := by unfold sieveM; simp [c2]
      rw [e]
      refine Aw.ownC (m := 0) (i := 3) (e := 9) (j := 1) rfl rfl (by decide) (by simp only [Nat.reduceAdd]; rfl) rfl ?_
      exact Aw_ret (retL (M := [11]) (.inl rfl) (by simp only [go_sem, jE, reduceIte, jA, jM, jS, jL, jD, jB]; first | done | rfl) rfl rfl (by rfl) (by simp only [go_sem, jE, reduceIte, jA, jM, jS, jL, jD, jB, zSve, Option.getD_none]; first | done | rfl | (and_intros <;> rfl)) (by decide) (by unfold idM; decide))
    · obtain ⟨kp, rfl⟩ : ∃ n : Nat, keep = n := ⟨keep.toNat, by unfold inB at c2; simp at c2; omega⟩
      obtain ⟨hl, hf, _⟩ := ksOk_iff c1
      have hk5 : kp ≤ 5 := by unfold inB at c2; simp at c2; omega
      have e : sieveM keys kp = some ⟨⟨(bfsF kp [(keys, 0)]).letters.toArray⟩, ⟨(bfsF kp [(keys, 0)]).more.toArray⟩, ⟨(bfsF kp [(keys, 0)]).first.toArray⟩, (bfsF kp [(keys, 0)]).rests, kp⟩ := by unfold sieveM; rw [if_pos ⟨c1, c2⟩]; rfl
      rw [e]
      repeat (first | apply Aw_seq | apply Aw_block | apply Aw_skip | apply Aw_exit | refine Aw_condt rfl ?_ | refine Aw_condf rfl ?_ | ((first | refine qr ?_ | refine qd (by kernel_rfl) (by kernel_rfl) ?_); simp only [go_sem, jE, reduceIte, jA, jM, jS, jL, jD, jB, c1, c2]) | refine dk (by kernel_rfl) ?_ | (refine qp (skeysOk_ac _ hs) (by simp only [go_sem, jE, reduceIte, jA, jM, jS, jL, jD, jB, c1, c2]; first | done | rfl) rfl (by simp only [go_sem, Nat.reduceLT]) rfl rfl ?_; simp only [go_sem, jE, reduceIte, jA, jM, jS, jL, jD, jB, c1, c2]) | (refine qp (l6In_ac _ _ _) (by simp only [go_sem, jE, reduceIte, jA, jM, jS, jL, jD, jB, c1, c2]; first | done | rfl) rfl (by simp only [go_sem, Nat.reduceLT]) rfl rfl ?_; simp only [go_sem, jE, reduceIte, jA, jM, jS, jL, jD, jB, c1, c2]))
      refine Aw.rw (rwL (l' := ssSl) (os := ssH ⟨[], [], [], [], [(keys, 0)]⟩ 0 kp) (M := [0, 11, 8, 15]) (n' := 4) (by repeat (first | exact trivial | refine ⟨rfl, rfl, ?_⟩)) (by rfl) (by simp only [go_sem, jE, reduceIte, jA, jM, jS, jL, jD, jB, bs_nil]; first | done | rfl) (by decide) (by unfold idM; decide)) ?_
      refine Aw_loop_rw (ι := SsI kp (bfsF kp [(keys, 0)])) (fun i => S ssSl (hpL (ssH i.A i.k kp)) 4) (fun i => wts (i.A.kids.drop i.k)) ⟨_, 0, rest0 hf hl⟩ ?_
      rintro ⟨A, k, h⟩
      dsimp only
      have hb1 := h.b1; have hb2 := h.b2; have hb3 := h.b3; have hb4 := h.b4; have hb5 := h.b5
      by_cases hlt : k < A.kids.length
      · obtain ⟨f, hx⟩ : ∃ f, A.kids[k]? = some f := ⟨_, List.getElem?_eq_getElem hlt⟩
        have hd : A.kids.drop k = f :: A.kids.drop (k + 1) := by
          rw [List.drop_eq_getElem_cons hlt]; congr 1; rw [List.getElem?_eq_getElem hlt] at hx; exact Option.some.inj hx
        have hff := h.fork f (by rw [hd]; simp)
        have hwf : f.1.length ≤ 1000 := by
          rw [hd, wts_cons] at hb1
          have := hff.dep
          unfold wt at hb1
          have : f.1.length ≤ f.1.length * (8 - f.2) := Nat.le_mul_of_pos_right _ (by omega)
          omega
        refine Aw.setL (l' := [(7, .t (.c (.d (.rs 2 ((A.kids.drop k).map grpD))))), (6, .t (.c (.ph 1 0 0))), (4, .t (.c (.ph 0 0 0)))]) (os' := [some (svO zs zs zs (.d (.s (.slice none 0 0))) 0), some (svO (bs A.letters) (bs A.more) (bs A.first) (.h 2) kp), some (kRow A.rests), none]) (n' := 4) [3] (by repeat (first | exact trivial | refine ⟨SetA.same rfl, ?_⟩ | refine ⟨SetA.row rfl rfl (by decide), ?_⟩)) (by repeat (first | exact trivial | refine ⟨rfl, rfl, ?_⟩ | show SubL _ _ _ _)) (by decide) ?_
        have hpos : decide ((0 : Int) < (((A.kids.drop (k + 1)).length + 1 : Nat) : Int)) = true := decide_eq_true (by omega)
        have hput := l3Put_ac { A with kids := [] } f kp hff rfl hwf (by show A.rests.length ≤ 1000; omega) (by show A.letters.length ≤ 1000; omega) hb4 hb5
        have c01 : ((0 : Int) ≤ 1) = True := eq_true (by omega)
        have c1l : ((1 : Int) ≤ (((A.kids.drop (k + 1)).length + 1 : Nat) : Int)) = True := eq_true (by omega)
        have tn : Int.toNat 1 = 1 := rfl
        have tk : List.take (A.kids.drop (k + 1)).length (List.map grpD (A.kids.drop (k + 1))) = List.map grpD (A.kids.drop (k + 1)) := by rw [List.take_of_length_le (by simp)]
        have hdr2 : (A.kids ++ (node kp f).kids).drop (k + 1) = A.kids.drop (k + 1) ++ (node kp f).kids := by
          rw [List.drop_append_of_le_length (by omega)]
        have hnx := h.next hx
        have hdr : (A.add (node kp f)).kids.drop (k + 1) = A.kids.drop (k + 1) ++ (node kp f).kids := by
          simp only [Put.add]; rw [List.drop_append_of_le_length (by omega)]
        have hb6 := hnx.b3
        rw [hdr, wts_app] at hb6
        have w1 := wts_len (A.kids.drop (k + 1)); have w2 := wts_len (node kp f).kids
        have q1 : (A.kids.drop (k + 1)).length * 32 ≤ 140737488355328 := by omega
        have q2 : ((A.kids.drop (k + 1)).length + (node kp f).kids.length) * 32 ≤ 140737488355328 := by omega
        have hkd : (({ A with kids := [] } : Put).add (node kp f)).kids = (node kp f).kids := rfl
        repeat (first | apply Aw_seq | apply Aw_block | apply Aw_skip | apply Aw_exit | refine Aw_condt rfl ?_ | refine Aw_condf rfl ?_ | ((first | refine qr ?_ | refine qd (by kernel_rfl) (by kernel_rfl) ?_); simp only [go_sem, jE, reduceIte, jA, jM, jS, jL, jD, jB, hpos, hd, c01, c1l, tn, tk, q1, q2, hkd]) | refine dk (by kernel_rfl) ?_ | (refine qx (call_L (N' := [2]) (L := []) (hput) rfl (.cons (.nm rfl) (.cons (.nm rfl) (.nil))) (by decide) (by decide) (by decide) (by simp only [go_sem, jE, reduceIte, jA, jM, jS, jL, jD, jB, hpos, hd, c01, c1l, tn, tk, q1, q2, hkd]; first | done | rfl) (.inl rfl) rfl (by decide)) (by simp only [go_sem, jE, reduceIte, jA, jM, jS, jL, jD, jB, hpos, hd, c01, c1l, tn, tk, q1, q2, hkd]; first | done | rfl) rfl (by simp only [go_sem, Nat.reduceLT]) ?_; simp only [go_sem, jE, reduceIte, jA, jM, jS, jL, jD, jB, hpos, hd, c01, c1l, tn, tk, q1, q2, hkd]))
        refine ⟨⟨A.add (node kp f), k + 1, hnx⟩, [0, 1, 13, 25], ?_, rwL (by repeat (first | exact trivial | refine ⟨rfl, rfl, ?_⟩)) (by rfl) (by simp only [go_sem, jE, reduceIte, jA, jM, jS, jL, jD, jB, hdr2, Put.add]; first | done | rfl) (by decide) (by unfold idM; decide)⟩
        have hdc := h.dec hx
        rw [hd] at hdc
        exact hdc
      · have hk0 : A.kids.drop k = [] := by rw [List.drop_eq_nil_iff]; omega
        have e1 := h.letters; have e2 := h.more; have e3 := h.first; have e4 := h.rests
        rw [hk0, bfsF_nil] at e1 e2 e3 e4
        simp only [zPut, List.append_nil] at e1 e2 e3 e4
        have hpos : decide ((0 : Int) < ((0 : Nat) : Int)) = false := rfl
        repeat (first | apply Aw_seq | apply Aw_block | apply Aw_skip | apply Aw_exit | refine Aw_condt rfl ?_ | refine Aw_condf rfl ?_ | ((first | refine qr ?_ | refine qd (by kernel_rfl) (by kernel_rfl) ?_); simp only [go_sem, jE, reduceIte, jA, jM, jS, jL, jD, jB, hk0, hpos]) | refine dk (by kernel_rfl) ?_)
        rw [← e1, ← e2, ← e3, ← e4]
        exact Aw_ret (retL (M := [2]) (.inl rfl) (by simp only [go_sem, jE, reduceIte, jA, jM, jS, jL, jD, jB]; first | done | rfl) rfl rfl (by rfl) (by simp only [go_sem, jE, reduceIte, jA, jM, jS, jL, jD, jB, Option.getD_some]; first | done | rfl | (and_intros <;> rfl)) (by decide) (by unfold idM; decide))
theorem sieveS_ac (keys : List ByteArray) (keep : Int) (hs : SmS keys) : AC Tryz.prog 94 [strsT keys, iT keep] noHp 0 ⟨.tup [sveT ((sieveM keys keep).getD zSve) (.d (.rs 1 (((sieveM keys keep).getD zSve).rests.map strD))), bT (sieveM keys keep).isSome], noHp, 0⟩ :=
  AC.settle0 [0] (sieve_ac keys keep hs) (.cons (.cons (.inl rfl) (.cons (.inl rfl) (.cons (.inl rfl) (.cons (SetC.row0 rfl rfl) (.cons (.inl rfl) .nil))))) (.cons (.inl rfl) .nil)) rfl
theorem ssieveS_ac (keys : List ByteArray) (keep : Int) (hs : SmS keys) : AC Tryz.prog 90 [strsT keys, iT keep] noHp 0 ⟨.tup [sveT ((sieveM keys keep).getD zSve) (.d (.rs 1 (((sieveM keys keep).getD zSve).rests.map strD))), bT (sieveM keys keep).isSome], noHp, 0⟩ :=
  AC.settle0 [0] (ssieve_ac keys keep hs) (.cons (.cons (.inl rfl) (.cons (.inl rfl) (.cons (.inl rfl) (.cons (SetC.row0 rfl rfl) (.cons (.inl rfl) .nil))))) (.cons (.inl rfl) .nil)) rfl
def tmAt (ts : List Int) (now : Int) (i : Nat) : Bool := match ts[i]? with
  | some t => inB 0 t now && (match i with
    | 0 => true
    | j + 1 => match ts[j]? with
      | some p => !decide (t ≤ p)
      | none => true)
  | none => true
def timesM (ts : List Int) (now : Int) : Bool := allI ts.length (tmAt ts now) && decide (ts.length ≤ 3)
theorem tm_bad {ts : List Int} {now : Int} {i : Nat} (hi : i < ts.length) (h : tmAt ts now i = false) : timesM ts now = false := by unfold timesM; rw [allI_f hi h]; rfl
theorem tm_end {ts : List Int} {now : Int} (h : ∀ j, j < ts.length → tmAt ts now j = true) : timesM ts now = decide ((ts.length : Int) ≤ 3) := by
  unfold timesM; rw [allI_t h, Bool.true_and]; exact decide_eq_decide.2 (by omega)
theorem timesOk_ac (ts : List Int) (now : Int) (hl : ts.length ≤ 1099511627776) : AC Tryz.prog 104 [intsT ts, iT now] noHp 0 ⟨.t (bT (timesM ts now)), noHp, 0⟩ := by
  refine AC_of Tryz.func104 rfl Tryz.ntmps104 Tryz.results104 (by kernel_rfl) rfl ?_
  simp only [List.zipIdx, List.map, Nat.zero_add, Nat.reduceAdd]
  repeat (first | apply Aw_seq | apply Aw_block | apply Aw_skip | apply Aw_exit | refine Aw_condt rfl ?_ | refine Aw_condf rfl ?_ | ((first | refine qr ?_ | refine qd (by kernel_rfl) (by kernel_rfl) ?_); simp only [go_sem, jE, reduceIte, jA, jM, jS, jL, jD, jB]) | refine dk (by kernel_rfl) ?_)
  refine Aw.rw (rw0 (l' := [(9, .t (iT (0 : Nat))), (8, .t (iT ts.length)), (7, .t (intsT ts)), (1, .t (iT now)), (0, .t (intsT ts))]) (n' := 0) (by repeat (first | exact trivial | refine ⟨rfl, rfl, ?_⟩))) ?_
  refine Aw_loop0 (ι := { i : Nat // i ≤ ts.length ∧ (∀ j, j < i → tmAt ts now j = true) }) (fun q => [(9, .t (iT (q.1 : Nat))), (8, .t (iT ts.length)), (7, .t (intsT ts)), (1, .t (iT now)), (0, .t (intsT ts))]) (fun q => ts.length - q.1) ⟨0, Nat.zero_le _, fun j hj => absurd hj (by omega)⟩ ?_
  rintro ⟨i, hi, hp⟩
  dsimp only
  by_cases hlt : i < ts.length
  · have h1 : (i : Int) < (ts.length : Int) := by omega
    have h2 := wrap_succ hlt hl
    obtain ⟨t, hx⟩ : ∃ e, ts[i]? = some e := ⟨_, List.getElem?_eq_getElem hlt⟩
    cases c1 : inB 0 t now
    · repeat (first | apply Aw_seq | apply Aw_block | apply Aw_skip | apply Aw_exit | refine Aw_condt rfl ?_ | refine Aw_condf rfl ?_ | ((first | refine qr ?_ | refine qd (by kernel_rfl) (by kernel_rfl) ?_); simp only [go_sem, jE, reduceIte, jA, jM, jS, jL, jD, jB, h1, hx, c1]) | refine dk (by kernel_rfl) ?_ | (refine qp (in_ac _ _ _) (by simp only [go_sem, jE, reduceIte, jA, jM, jS, jL, jD, jB, h1, hx, c1]; first | done | rfl) rfl (by simp only [go_sem, Nat.reduceLT]) rfl rfl ?_; simp only [go_sem, jE, reduceIte, jA, jM, jS, jL, jD, jB, h1, hx, c1]))
      exact Aw_ret (ret0 (.inl rfl) (by simp only [go_sem, jE, reduceIte, jA, jM, jS, jL, jD, jB]; rfl) (by rw [tm_bad hlt (by simp [tmAt, hx, c1])]) rfl)
    · rcases i with _ | j
      · have h5 : decide ((0 : Int) < ((0 : Nat) : Int)) = false := rfl
        repeat (first | apply Aw_seq | apply Aw_block | apply Aw_skip | apply Aw_exit | refine Aw_condt rfl ?_ | refine Aw_condf rfl ?_ | ((first | refine qr ?_ | refine qd (by kernel_rfl) (by kernel_rfl) ?_); simp only [go_sem, jE, reduceIte, jA, jM, jS, jL, jD, jB, h1, hx, c1, h2, h5]) | refine dk (by kernel_rfl) ?_ | (refine qp (in_ac _ _ _) (by simp only [go_sem, jE, reduceIte, jA, jM, jS, jL, jD, jB, h1, hx, c1, h2, h5]; first | done | rfl) rfl (by simp only [go_sem, Nat.reduceLT]) rfl rfl ?_; simp only [go_sem, jE, reduceIte, jA, jM, jS, jL, jD, jB, h1, hx, c1, h2, h5]))
        exact ⟨⟨0 + 1, by omega, upto_succ hp (by simp [tmAt, hx, c1])⟩, (by simp only []; omega), rw0 (by repeat (first | exact trivial | refine ⟨rfl, rfl, ?_⟩))⟩
      · have h5 : decide ((0 : Int) < ((j + 1 : Nat) : Int)) = true := decide_eq_true (by omega)
        have h6 := wrap_pred (i := j) (by omega) hl
        obtain ⟨p, hy⟩ : ∃ e, ts[j]? = some e := ⟨_, List.getElem?_eq_getElem (by omega)⟩
        cases c2 : decide (t ≤ p)
        · repeat (first | apply Aw_seq | apply Aw_block | apply Aw_skip | apply Aw_exit | refine Aw_condt rfl ?_ | refine Aw_condf rfl ?_ | ((first | refine qr ?_ | refine qd (by kernel_rfl) (by kernel_rfl) ?_); simp only [go_sem, jE, reduceIte, jA, jM, jS, jL, jD, jB, h1, hx, c1, h2, h5, h6, hy, c2]) | refine dk (by kernel_rfl) ?_ | (refine qp (in_ac _ _ _) (by simp only [go_sem, jE, reduceIte, jA, jM, jS, jL, jD, jB, h1, hx, c1, h2, h5, h6, hy, c2]; first | done | rfl) rfl (by simp only [go_sem, Nat.reduceLT]) rfl rfl ?_; simp only [go_sem, jE, reduceIte, jA, jM, jS, jL, jD, jB, h1, hx, c1, h2, h5, h6, hy, c2]))
          exact ⟨⟨j + 1 + 1, by omega, upto_succ hp (by simp [tmAt, hx, hy, c1]; simpa using c2)⟩, (by simp only []; omega), rw0 (by repeat (first | exact trivial | refine ⟨rfl, rfl, ?_⟩))⟩
        · repeat (first | apply Aw_seq | apply Aw_block | apply Aw_skip | apply Aw_exit | refine Aw_condt rfl ?_ | refine Aw_condf rfl ?_ | ((first | refine qr ?_ | refine qd (by kernel_rfl) (by kernel_rfl) ?_); simp only [go_sem, jE, reduceIte, jA, jM, jS, jL, jD, jB, h1, hx, c1, h2, h5, h6, hy, c2]) | refine dk (by kernel_rfl) ?_ | (refine qp (in_ac _ _ _) (by simp only [go_sem, jE, reduceIte, jA, jM, jS, jL, jD, jB, h1, hx, c1, h2, h5, h6, hy, c2]; first | done | rfl) rfl (by simp only [go_sem, Nat.reduceLT]) rfl rfl ?_; simp only [go_sem, jE, reduceIte, jA, jM, jS, jL, jD, jB, h1, hx, c1, h2, h5, h6, hy, c2]))
          exact Aw_ret (ret0 (.inl rfl) (by simp only [go_sem, jE, reduceIte, jA, jM, jS, jL, jD, jB]; rfl) (by rw [tm_bad hlt (by simp [tmAt, hx, hy, c1]; simpa using c2)]) rfl)
  · have h1 : ¬ (i : Int) < (ts.length : Int) := by omega
    have he : i = ts.length := by omega
    subst he
    repeat (first | apply Aw_seq | apply Aw_block | apply Aw_skip | apply Aw_exit | refine Aw_condt rfl ?_ | refine Aw_condf rfl ?_ | ((first | refine qr ?_ | refine qd (by kernel_rfl) (by kernel_rfl) ?_); simp only [go_sem, jE, reduceIte, jA, jM, jS, jL, jD, jB, h1]) | refine dk (by kernel_rfl) ?_)
    exact Aw_ret (ret0 (.inl rfl) (by simp only [go_sem, jE, reduceIte, jA, jM, jS, jL, jD, jB]; rfl) (by rw [tm_end hp]) rfl)
theorem l12Times_ac (ts : List Int) (now : Int) (hl : ts.length ≤ 1099511627776) : AC Tryz.prog 86 [intsT ts, iT now] noHp 0 ⟨.t (bT (timesM ts now)), noHp, 0⟩ := by
  refine AC_of Tryz.func86 rfl Tryz.ntmps86 Tryz.results86 (by kernel_rfl) rfl ?_
  simp only [List.zipIdx, List.map, Nat.zero_add, Nat.reduceAdd]
  repeat (first | apply Aw_seq | apply Aw_block | apply Aw_skip | apply Aw_exit | refine Aw_condt rfl ?_ | refine Aw_condf rfl ?_ | ((first | refine qr ?_ | refine qd (by kernel_rfl) (by kernel_rfl) ?_); simp only [go_sem, jE, reduceIte, jA, jM, jS, jL, jD, jB]) | refine dk (by kernel_rfl) ?_)
  refine Aw.rw (rw0 (l' := [(5, .t (iT (0 : Nat))), (1, .t (iT now)), (0, .t (intsT ts))]) (n' := 0) (by repeat (first | exact trivial | refine ⟨rfl, rfl, ?_⟩))) ?_
  refine Aw_loop0 (ι := { i : Nat // i ≤ ts.length ∧ (∀ j, j < i → tmAt ts now j = true) }) (fun q => [(5, .t (iT (q.1 : Nat))), (1, .t (iT now)), (0, .t (intsT ts))]) (fun q => ts.length - q.1) ⟨0, Nat.zero_le _, fun j hj => absurd hj (by omega)⟩ ?_
  rintro ⟨i, hi, hp⟩
  dsimp only
  by_cases hlt : i < ts.length
  · have h1 : (i : Int) < (ts.length : Int) := by omega
    have h2 := wrap_succ hlt hl
    obtain ⟨t, hx⟩ : ∃ e, ts[i]? = some e := ⟨_, List.getElem?_eq_getElem hlt⟩
    cases c1 : inB 0 t now
    · repeat (first | apply Aw_seq | apply Aw_block | apply Aw_skip | apply Aw_exit | refine Aw_condt rfl ?_ | refine Aw_condf rfl ?_ | ((first | refine qr ?_ | refine qd (by kernel_rfl) (by kernel_rfl) ?_); simp only [go_sem, jE, reduceIte, jA, jM, jS, jL, jD, jB, h1, hx, c1]) | refine dk (by kernel_rfl) ?_ | (refine qp (l6In_ac _ _ _) (by simp only [go_sem, jE, reduceIte, jA, jM, jS, jL, jD, jB, h1, hx, c1]; first | done | rfl) rfl (by simp only [go_sem, Nat.reduceLT]) rfl rfl ?_; simp only [go_sem, jE, reduceIte, jA, jM, jS, jL, jD, jB, h1, hx, c1]))
      exact Aw_ret (ret0 (.inl rfl) (by simp only [go_sem, jE, reduceIte, jA, jM, jS, jL, jD, jB]; rfl) (by rw [tm_bad hlt (by simp [tmAt, hx, c1])]) rfl)
    · rcases i with _ | j
      · have h5 : decide ((0 : Int) < ((0 : Nat) : Int)) = false := rfl
        repeat (first | apply Aw_seq | apply Aw_block | apply Aw_skip | apply Aw_exit | refine Aw_condt rfl ?_ | refine Aw_condf rfl ?_ | ((first | refine qr ?_ | refine qd (by kernel_rfl) (by kernel_rfl) ?_); simp only [go_sem, jE, reduceIte, jA, jM, jS, jL, jD, jB, h1, hx, c1, h2, h5]) | refine dk (by kernel_rfl) ?_ | (refine qp (l6In_ac _ _ _) (by simp only [go_sem, jE, reduceIte, jA, jM, jS, jL, jD, jB, h1, hx, c1, h2, h5]; first | done | rfl) rfl (by simp only [go_sem, Nat.reduceLT]) rfl rfl ?_; simp only [go_sem, jE, reduceIte, jA, jM, jS, jL, jD, jB, h1, hx, c1, h2, h5]))
        exact ⟨⟨0 + 1, by omega, upto_succ hp (by simp [tmAt, hx, c1])⟩, (by simp only []; omega), rw0 (by repeat (first | exact trivial | refine ⟨rfl, rfl, ?_⟩))⟩
      · have h5 : decide ((0 : Int) < ((j + 1 : Nat) : Int)) = true := decide_eq_true (by omega)
        have h6 := wrap_pred (i := j) (by omega) hl
        obtain ⟨p, hy⟩ : ∃ e, ts[j]? = some e := ⟨_, List.getElem?_eq_getElem (by omega)⟩
        cases c2 : decide (t ≤ p)
        · repeat (first | apply Aw_seq | apply Aw_block | apply Aw_skip | apply Aw_exit | refine Aw_condt rfl ?_ | refine Aw_condf rfl ?_ | ((first | refine qr ?_ | refine qd (by kernel_rfl) (by kernel_rfl) ?_); simp only [go_sem, jE, reduceIte, jA, jM, jS, jL, jD, jB, h1, hx, c1, h2, h5, h6, hy, c2]) | refine dk (by kernel_rfl) ?_ | (refine qp (l6In_ac _ _ _) (by simp only [go_sem, jE, reduceIte, jA, jM, jS, jL, jD, jB, h1, hx, c1, h2, h5, h6, hy, c2]; first | done | rfl) rfl (by simp only [go_sem, Nat.reduceLT]) rfl rfl ?_; simp only [go_sem, jE, reduceIte, jA, jM, jS, jL, jD, jB, h1, hx, c1, h2, h5, h6, hy, c2]))
          exact ⟨⟨j + 1 + 1, by omega, upto_succ hp (by simp [tmAt, hx, hy, c1]; simpa using c2)⟩, (by simp only []; omega), rw0 (by repeat (first | exact trivial | refine ⟨rfl, rfl, ?_⟩))⟩
        · repeat (first | apply Aw_seq | apply Aw_block | apply Aw_skip | apply Aw_exit | refine Aw_condt rfl ?_ | refine Aw_condf rfl ?_ | ((first | refine qr ?_ | refine qd (by kernel_rfl) (by kernel_rfl) ?_); simp only [go_sem, jE, reduceIte, jA, jM, jS, jL, jD, jB, h1, hx, c1, h2, h5, h6, hy, c2]) | refine dk (by kernel_rfl) ?_ | (refine qp (l6In_ac _ _ _) (by simp only [go_sem, jE, reduceIte, jA, jM, jS, jL, jD, jB, h1, hx, c1, h2, h5, h6, hy, c2]; first | done | rfl) rfl (by simp only [go_sem, Nat.reduceLT]) rfl rfl ?_; simp only [go_sem, jE, reduceIte, jA, jM, jS, jL, jD, jB, h1, hx, c1, h2, h5, h6, hy, c2]))
          exact Aw_ret (ret0 (.inl rfl) (by simp only [go_sem, jE, reduceIte, jA, jM, jS, jL, jD, jB]; rfl) (by rw [tm_bad hlt (by simp [tmAt, hx, hy, c1]; simpa using c2)]) rfl)
  · have h1 : ¬ (i : Int) < (ts.length : Int) := by omega
    have he : i = ts.length := by omega
    subst he
    repeat (first | apply Aw_seq | apply Aw_block | apply Aw_skip | apply Aw_exit | refine Aw_condt rfl ?_ | refine Aw_condf rfl ?_ | ((first | refine qr ?_ | refine qd (by kernel_rfl) (by kernel_rfl) ?_); simp only [go_sem, jE, reduceIte, jA, jM, jS, jL, jD, jB, h1]) | refine dk (by kernel_rfl) ?_)
    exact Aw_ret (ret0 (.inl rfl) (by simp only [go_sem, jE, reduceIte, jA, jM, jS, jL, jD, jB]; rfl) (by rw [tm_end hp]) rfl)
theorem ls_eq {α : Type} {a b : List α} (hl : a.length = b.length) (h : ∀ j, j < a.length → a[j]? = b[j]?) : a = b := by
  apply List.ext_getElem? 
  intro i
  rcases Nat.lt_or_ge i a.length with hi | hi
  · exact h i hi
  · rw [List.getElem?_eq_none hi, List.getElem?_eq_none (by omega)]
theorem equal_ac (a b : List ByteArray) (ha : a.length ≤ 1099511627776) : AC Tryz.prog 142 [strsT a, strsT b] noHp 0 ⟨.t (bT (decide (a = b))), noHp, 0⟩ := by
  refine AC_of Tryz.func142 rfl Tryz.ntmps142 Tryz.results142 (by kernel_rfl) rfl ?_
  simp only [List.zipIdx, List.map, Nat.zero_add, Nat.reduceAdd]
  cases c0 : decide ((a.length : Int) = (b.length : Int))
  · repeat (first | apply Aw_seq | apply Aw_block | apply Aw_skip | apply Aw_exit | refine Aw_condt rfl ?_ | refine Aw_condf rfl ?_ | ((first | refine qr ?_ | refine qd (by kernel_rfl) (by kernel_rfl) ?_); simp only [go_sem, jE, reduceIte, jA, jM, jS, jL, jD, jB, c0]) | refine dk (by kernel_rfl) ?_)
    exact Aw_ret (ret0 (.inl rfl) (by simp only [go_sem, jE, reduceIte, jA, jM, jS, jL, jD, jB]; rfl) (by rw [decide_eq_false (fun e => by rw [e] at c0; simp at c0)]) rfl)
  · have hl : a.length = b.length := by have := of_decide_eq_true c0; omega
    repeat (first | apply Aw_seq | apply Aw_block | apply Aw_skip | apply Aw_exit | refine Aw_condt rfl ?_ | refine Aw_condf rfl ?_ | ((first | refine qr ?_ | refine qd (by kernel_rfl) (by kernel_rfl) ?_); simp only [go_sem, jE, reduceIte, jA, jM, jS, jL, jD, jB, c0]) | refine dk (by kernel_rfl) ?_)
    refine Aw.rw (rw0 (l' := [(13, .t (iT (0 : Nat))), (12, .t (iT a.length)), (1, .t (strsT b)), (0, .t (strsT a))]) (n' := 0) (by repeat (first | exact trivial | refine ⟨rfl, rfl, ?_⟩))) ?_
    refine Aw_loop0 (ι := { i : Nat // i ≤ a.length ∧ (∀ j, j < i → a[j]? = b[j]?) }) (fun q => [(13, .t (iT (q.1 : Nat))), (12, .t (iT a.length)), (1, .t (strsT b)), (0, .t (strsT a))]) (fun q => a.length - q.1) ⟨0, Nat.zero_le _, fun j hj => absurd hj (by omega)⟩ ?_
    rintro ⟨i, hi, hp⟩
    dsimp only
    by_cases hlt : i < a.length
    · have h1 : (i : Int) < (a.length : Int) := by omega
      have h2 := wrap_succ hlt ha
      obtain ⟨x, hx⟩ : ∃ e, a[i]? = some e := ⟨_, List.getElem?_eq_getElem hlt⟩
      obtain ⟨y, hy⟩ : ∃ e, b[i]? = some e := ⟨_, List.getElem?_eq_getElem (by omega)⟩
      cases c1 : decide (x = y)
      · repeat (first | apply Aw_seq | apply Aw_block | apply Aw_skip | apply Aw_exit | refine Aw_condt rfl ?_ | refine Aw_condf rfl ?_ | ((first | refine qr ?_ | refine qd (by kernel_rfl) (by kernel_rfl) ?_); simp only [go_sem, jE, reduceIte, jA, jM, jS, jL, jD, jB, h1, hx, hy, h2, c1]) | refine dk (by kernel_rfl) ?_)
        exact Aw_ret (ret0 (.inl rfl) (by simp only [go_sem, jE, reduceIte, jA, jM, jS, jL, jD, jB]; rfl) (by rw [decide_eq_false (fun e => by rw [e, hy] at hx; rw [Option.some.inj hx] at c1; simp at c1)]) rfl)
      · repeat (first | apply Aw_seq | apply Aw_block | apply Aw_skip | apply Aw_exit | refine Aw_condt rfl ?_ | refine Aw_condf rfl ?_ | ((first | refine qr ?_ | refine qd (by kernel_rfl) (by kernel_rfl) ?_); simp only [go_sem, jE, reduceIte, jA, jM, jS, jL, jD, jB, h1, hx, hy, h2, c1]) | refine dk (by kernel_rfl) ?_)
        exact ⟨⟨i + 1, by omega, fun j hj => by rcases Nat.lt_succ_iff_lt_or_eq.1 hj with h | rfl; exact hp j h; rw [hx, hy, of_decide_eq_true c1]⟩, (by simp only []; omega), rw0 (by repeat (first | exact trivial | refine ⟨rfl, rfl, ?_⟩))⟩
    · have h1 : ¬ (i : Int) < (a.length : Int) := by omega
      have he : i = a.length := by omega
      subst he
      repeat (first | apply Aw_seq | apply Aw_block | apply Aw_skip | apply Aw_exit | refine Aw_condt rfl ?_ | refine Aw_condf rfl ?_ | ((first | refine qr ?_ | refine qd (by kernel_rfl) (by kernel_rfl) ?_); simp only [go_sem, jE, reduceIte, jA, jM, jS, jL, jD, jB, h1]) | refine dk (by kernel_rfl) ?_)
      exact Aw_ret (ret0 (.inl rfl) (by simp only [go_sem, jE, reduceIte, jA, jM, jS, jL, jD, jB]; rfl) (by rw [decide_eq_true (ls_eq hl hp)]) rfl)
theorem l3Sames_ac (a b : List ByteArray) (ha : a.length ≤ 1099511627776) : AC Tryz.prog 127 [strsT a, strsT b] noHp 0 ⟨.t (bT (decide (a = b))), noHp, 0⟩ := by
  refine AC_of Tryz.func127 rfl Tryz.ntmps127 Tryz.results127 (by kernel_rfl) rfl ?_
  simp only [List.zipIdx, List.map, Nat.zero_add, Nat.reduceAdd]
  cases c0 : decide ((a.length : Int) = (b.length : Int))
  · repeat (first | apply Aw_seq | apply Aw_block | apply Aw_skip | apply Aw_exit | refine Aw_condt rfl ?_ | refine Aw_condf rfl ?_ | ((first | refine qr ?_ | refine qd (by kernel_rfl) (by kernel_rfl) ?_); simp only [go_sem, jE, reduceIte, jA, jM, jS, jL, jD, jB, c0]) | refine dk (by kernel_rfl) ?_)
    exact Aw_ret (ret0 (.inl rfl) (by simp only [go_sem, jE, reduceIte, jA, jM, jS, jL, jD, jB]; rfl) (by rw [decide_eq_false (fun e => by rw [e] at c0; simp at c0)]) rfl)
  · have hl : a.length = b.length := by have := of_decide_eq_true c0; omega
    repeat (first | apply Aw_seq | apply Aw_block | apply Aw_skip | apply Aw_exit | refine Aw_condt rfl ?_ | refine Aw_condf rfl ?_ | ((first | refine qr ?_ | refine qd (by kernel_rfl) (by kernel_rfl) ?_); simp only [go_sem, jE, reduceIte, jA, jM, jS, jL, jD, jB, c0]) | refine dk (by kernel_rfl) ?_)
    refine Aw.rw (rw0 (l' := [(5, .t (iT (0 : Nat))), (1, .t (strsT b)), (0, .t (strsT a))]) (n' := 0) (by repeat (first | exact trivial | refine ⟨rfl, rfl, ?_⟩))) ?_
    refine Aw_loop0 (ι := { i : Nat // i ≤ a.length ∧ (∀ j, j < i → a[j]? = b[j]?) }) (fun q => [(5, .t (iT (q.1 : Nat))), (1, .t (strsT b)), (0, .t (strsT a))]) (fun q => a.length - q.1) ⟨0, Nat.zero_le _, fun j hj => absurd hj (by omega)⟩ ?_
    rintro ⟨i, hi, hp⟩
    dsimp only
    by_cases hlt : i < a.length
    · have h1 : (i : Int) < (a.length : Int) := by omega
      have h2 := wrap_succ hlt ha
      obtain ⟨x, hx⟩ : ∃ e, a[i]? = some e := ⟨_, List.getElem?_eq_getElem hlt⟩
      obtain ⟨y, hy⟩ : ∃ e, b[i]? = some e := ⟨_, List.getElem?_eq_getElem (by omega)⟩
      cases c1 : decide (x = y)
      · repeat (first | apply Aw_seq | apply Aw_block | apply Aw_skip | apply Aw_exit | refine Aw_condt rfl ?_ | refine Aw_condf rfl ?_ | ((first | refine qr ?_ | refine qd (by kernel_rfl) (by kernel_rfl) ?_); simp only [go_sem, jE, reduceIte, jA, jM, jS, jL, jD, jB, h1, hx, hy, h2, c1]) | refine dk (by kernel_rfl) ?_)
        exact Aw_ret (ret0 (.inl rfl) (by simp only [go_sem, jE, reduceIte, jA, jM, jS, jL, jD, jB]; rfl) (by rw [decide_eq_false (fun e => by rw [e, hy] at hx; rw [Option.some.inj hx] at c1; simp at c1)]) rfl)
      · repeat (first | apply Aw_seq | apply Aw_block | apply Aw_skip | apply Aw_exit | refine Aw_condt rfl ?_ | refine Aw_condf rfl ?_ | ((first | refine qr ?_ | refine qd (by kernel_rfl) (by kernel_rfl) ?_); simp only [go_sem, jE, reduceIte, jA, jM, jS, jL, jD, jB, h1, hx, hy, h2, c1]) | refine dk (by kernel_rfl) ?_)
        exact ⟨⟨i + 1, by omega, fun j hj => by rcases Nat.lt_succ_iff_lt_or_eq.1 hj with h | rfl; exact hp j h; rw [hx, hy, of_decide_eq_true c1]⟩, (by simp only []; omega), rw0 (by repeat (first | exact trivial | refine ⟨rfl, rfl, ?_⟩))⟩
    · have h1 : ¬ (i : Int) < (a.length : Int) := by omega
      have he : i = a.length := by omega
      subst he
      repeat (first | apply Aw_seq | apply Aw_block | apply Aw_skip | apply Aw_exit | refine Aw_condt rfl ?_ | refine Aw_condf rfl ?_ | ((first | refine qr ?_ | refine qd (by kernel_rfl) (by kernel_rfl) ?_); simp only [go_sem, jE, reduceIte, jA, jM, jS, jL, jD, jB, h1]) | refine dk (by kernel_rfl) ?_)
      exact Aw_ret (ret0 (.inl rfl) (by simp only [go_sem, jE, reduceIte, jA, jM, jS, jL, jD, jB]; rfl) (by rw [decide_eq_true (ls_eq hl hp)]) rfl)
theorem wrap_room {l : Nat} (h : l ≤ 1000) : IntKind.i64.wrap (8 * ((l + 1 : Nat) : Int)) = ((8 * (l + 1) : Nat) : Int) := by
  rw [show 8 * ((l + 1 : Nat) : Int) = ((8 * (l + 1) : Nat) : Int) by omega]; exact wrap_nat (by omega)
theorem room_ac (l : Nat) (h : l ≤ 1000) : AC Tryz.prog 95 [iT l] noHp 0 ⟨.t (iT ((8 * (l + 1) : Nat) : Int)), noHp, 0⟩ := by
  have h1 := wrap_succ (i := l) (m := 2000) (by omega) (by omega)
  have h2 := wrap_room h
  refine AC_of Tryz.func95 rfl Tryz.ntmps95 Tryz.results95 (by kernel_rfl) rfl ?_
  simp only [List.zipIdx, List.map, Nat.zero_add, Nat.reduceAdd]
  repeat (first | apply Aw_seq | apply Aw_block | apply Aw_skip | apply Aw_exit | refine Aw_condt rfl ?_ | refine Aw_condf rfl ?_ | ((first | refine qr ?_ | refine qd (by kernel_rfl) (by kernel_rfl) ?_); simp only [go_sem, jE, reduceIte, jA, jM, jS, jL, jD, jB, h1, h2]) | refine dk (by kernel_rfl) ?_)
  exact Aw_ret (ret0 (.inl rfl) (by simp only [go_sem, jE, reduceIte, jA, jM, jS, jL, jD, jB]; rfl) (by rfl) rfl)
theorem l12Size_ac (l : Nat) (h : l ≤ 1000) : AC Tryz.prog 91 [iT l] noHp 0 ⟨.t (iT ((8 * (l + 1) : Nat) : Int)), noHp, 0⟩ := by
  have h1 := wrap_succ (i := l) (m := 2000) (by omega) (by omega)
  have h2 := wrap_room h
  refine AC_of Tryz.func91 rfl Tryz.ntmps91 Tryz.results91 (by kernel_rfl) rfl ?_
  simp only [List.zipIdx, List.map, Nat.zero_add, Nat.reduceAdd]
  repeat (first | apply Aw_seq | apply Aw_block | apply Aw_skip | apply Aw_exit | refine Aw_condt rfl ?_ | refine Aw_condf rfl ?_ | ((first | refine qr ?_ | refine qd (by kernel_rfl) (by kernel_rfl) ?_); simp only [go_sem, jE, reduceIte, jA, jM, jS, jL, jD, jB, h1, h2]) | refine dk (by kernel_rfl) ?_)
  exact Aw_ret (ret0 (.inl rfl) (by simp only [go_sem, jE, reduceIte, jA, jM, jS, jL, jD, jB]; rfl) (by rfl) rfl)
abbrev sveP (s : Sve) : TV := sveT s (.d (.rs 1 (s.rests.map strD)))
def sveEq (a b : Sve) : Bool := decide (a.letters = b.letters) && decide (a.more = b.more) && decide (a.first = b.first) && decide (a.keep = b.keep) && decide (a.rests = b.rests)
theorem sveEq_iff {a b : Sve} : sveEq a b = true ↔ a = b := by
  unfold sveEq
  cases a; cases b
  simp only [Bool.and_eq_true, decide_eq_true_eq, Sve.mk.injEq]
  constructor
  · rintro ⟨⟨⟨⟨h1, h2⟩, h3⟩, h4⟩, h5⟩; exact ⟨h1, h2, h3, h5, h4⟩
  · rintro ⟨h1, h2, h3, h5, h4⟩; exact ⟨⟨⟨⟨h1, h2⟩, h3⟩, h4⟩, h5⟩
theorem same_ac (a b : Sve) (hl : a.rests.length ≤ 1099511627776) : AC Tryz.prog 106 [sveP a, sveP b] noHp 0 ⟨.t (bT (sveEq a b)), noHp, 0⟩ := by
  refine AC_of Tryz.func106 rfl Tryz.ntmps106 Tryz.results106 (by kernel_rfl) rfl ?_
  simp only [List.zipIdx, List.map, Nat.zero_add, Nat.reduceAdd]
  cases c1 : decide (a.letters = b.letters)
  · repeat (first | apply Aw_seq | apply Aw_block | apply Aw_skip | apply Aw_exit | refine Aw_condt rfl ?_ | refine Aw_condf rfl ?_ | ((first | refine qr ?_ | refine qd (by kernel_rfl) (by kernel_rfl) ?_); simp only [go_sem, jE, reduceIte, jA, jM, jS, jL, jD, jB, c1]) | refine dk (by kernel_rfl) ?_)
    exact Aw_ret (ret0 (.inl rfl) (by simp only [go_sem, jE, reduceIte, jA, jM, jS, jL, jD, jB]; rfl) (by unfold sveEq; simp [c1]) rfl)
  cases c2 : decide (a.more = b.more)
  · repeat (first | apply Aw_seq | apply Aw_block | apply Aw_skip | apply Aw_exit | refine Aw_condt rfl ?_ | refine Aw_condf rfl ?_ | ((first | refine qr ?_ | refine qd (by kernel_rfl) (by kernel_rfl) ?_); simp only [go_sem, jE, reduceIte, jA, jM, jS, jL, jD, jB, c1, c2]) | refine dk (by kernel_rfl) ?_)
    exact Aw_ret (ret0 (.inl rfl) (by simp only [go_sem, jE, reduceIte, jA, jM, jS, jL, jD, jB]; rfl) (by unfold sveEq; simp [c1, c2]) rfl)
  cases c3 : decide (a.first = b.first)
  · repeat (first | apply Aw_seq | apply Aw_block | apply Aw_skip | apply Aw_exit | refine Aw_condt rfl ?_ | refine Aw_condf rfl ?_ | ((first | refine qr ?_ | refine qd (by kernel_rfl) (by kernel_rfl) ?_); simp only [go_sem, jE, reduceIte, jA, jM, jS, jL, jD, jB, c1, c2, c3]) | refine dk (by kernel_rfl) ?_)
    exact Aw_ret (ret0 (.inl rfl) (by simp only [go_sem, jE, reduceIte, jA, jM, jS, jL, jD, jB]; rfl) (by unfold sveEq; simp [c1, c2, c3]) rfl)
  cases c4 : decide (a.keep = b.keep)
  · repeat (first | apply Aw_seq | apply Aw_block | apply Aw_skip | apply Aw_exit | refine Aw_condt rfl ?_ | refine Aw_condf rfl ?_ | ((first | refine qr ?_ | refine qd (by kernel_rfl) (by kernel_rfl) ?_); simp only [go_sem, jE, reduceIte, jA, jM, jS, jL, jD, jB, c1, c2, c3, c4]) | refine dk (by kernel_rfl) ?_)
    exact Aw_ret (ret0 (.inl rfl) (by simp only [go_sem, jE, reduceIte, jA, jM, jS, jL, jD, jB]; rfl) (by unfold sveEq; simp [c1, c2, c3, c4]) rfl)
  repeat (first | apply Aw_seq | apply Aw_block | apply Aw_skip | apply Aw_exit | refine Aw_condt rfl ?_ | refine Aw_condf rfl ?_ | ((first | refine qr ?_ | refine qd (by kernel_rfl) (by kernel_rfl) ?_); simp only [go_sem, jE, reduceIte, jA, jM, jS, jL, jD, jB, c1, c2, c3, c4]) | refine dk (by kernel_rfl) ?_ | (refine qp (equal_ac a.rests b.rests hl) (by simp only [go_sem, jE, reduceIte, jA, jM, jS, jL, jD, jB, c1, c2, c3, c4]; first | done | rfl) rfl (by simp only [go_sem, Nat.reduceLT]) rfl rfl ?_; simp only [go_sem, jE, reduceIte, jA, jM, jS, jL, jD, jB, c1, c2, c3, c4]))
  exact Aw_ret (ret0 (.inl rfl) (by simp only [go_sem, jE, reduceIte, jA, jM, jS, jL, jD, jB]; rfl) (by unfold sveEq; simp [c1, c2, c3, c4]) rfl)
/-- An entry, as it lies in a variable. -/
def enO (e : Ent) : Obj := ⟨56, 4, false, [(entD e).map .d]⟩
@[go_sem] theorem r_enO (e : Ent) : enO e = ⟨56, 4, false, [[.d (.s (.string e.key)), .d (.s (.int .i64 e.val)), .d (.s (.bool e.gone)), .d (.s (.int .i64 e.time))]]⟩ := rfl
def older (x y : Ent) : Bool := decide (x.key = y.key) && decide (x.time ≤ y.time)
def newerM (a b : List Ent) : Bool := a.all fun x => b.all fun y => !older x y
theorem newer_bad {a b : List Ent} {x y : Ent} {i j : Nat} (hx : a[i]? = some x) (hy : b[j]? = some y) (h : older x y = true) : newerM a b = false := by
  unfold newerM
  rw [List.all_eq_false]
  refine ⟨x, List.mem_of_getElem? hx, ?_⟩
  rw [Bool.not_eq_true, List.all_eq_false]
  exact ⟨y, List.mem_of_getElem? hy, by simp [h]⟩
def noOld (x : Ent) (b : List Ent) (n : Nat) : Prop := ∀ j, j < n → ∀ y, b[j]? = some y → older x y = false
theorem newer_end {a b : List Ent} (h : ∀ i, i < a.length → ∀ x, a[i]? = some x → noOld x b b.length) : newerM a b = true := by
  unfold newerM
  rw [List.all_eq_true]
  intro x hx
  obtain ⟨i, hi⟩ := List.mem_iff_getElem?.1 hx
  rw [List.all_eq_true]
  intro y hy
  obtain ⟨j, hj⟩ := List.mem_iff_getElem?.1 hy
  rw [h i (List.getElem?_eq_some_iff.1 hi).1 x hi j (List.getElem?_eq_some_iff.1 hj).1 y hj]; rfl
theorem newer_ac (a b : List Ent) (ha : a.length ≤ 1099511627776) (hb : b.length ≤ 1099511627776) : AC Tryz.prog 107 [runT a, runT b] noHp 0 ⟨.t (bT (newerM a b)), noHp, 0⟩ := by
  refine AC_of Tryz.func107 rfl Tryz.ntmps107 Tryz.results107 (by kernel_rfl) rfl ?_
  simp only [List.zipIdx, List.map, Nat.zero_add, Nat.reduceAdd]
  repeat (first | apply Aw_seq | apply Aw_block | apply Aw_skip | apply Aw_exit | refine Aw_condt rfl ?_ | refine Aw_condf rfl ?_ | ((first | refine qr ?_ | refine qd (by kernel_rfl) (by kernel_rfl) ?_); simp only [go_sem, jE, reduceIte, jA, jM, jS, jL, jD, jB]) | refine dk (by kernel_rfl) ?_)
  refine Aw.rw (rw0 (l' := [(11, .t (iT (0 : Nat))), (10, .t (iT a.length)), (9, .t (runT a)), (1, .t (runT b)), (0, .t (runT a))]) (n' := 0) (by repeat (first | exact trivial | refine ⟨rfl, rfl, ?_⟩))) ?_
  refine Aw_loop0 (ι := { i : Nat // i ≤ a.length ∧ (∀ j, j < i → ∀ x, a[j]? = some x → noOld x b b.length) }) (fun q => [(11, .t (iT (q.1 : Nat))), (10, .t (iT a.length)), (9, .t (runT a)), (1, .t (runT b)), (0, .t (runT a))]) (fun q => a.length - q.1) ⟨0, Nat.zero_le _, fun j hj => absurd hj (by omega)⟩ ?_
  rintro ⟨i, hi, hp⟩
  dsimp only
  by_cases hlt : i < a.length
  · have h1 : (i : Int) < (a.length : Int) := by omega
    have h2 := wrap_succ hlt ha
    obtain ⟨x, hx⟩ : ∃ e, a[i]? = some e := ⟨_, List.getElem?_eq_getElem hlt⟩
    repeat (first | apply Aw_seq | apply Aw_block | apply Aw_skip | apply Aw_exit | refine Aw_condt rfl ?_ | refine Aw_condf rfl ?_ | ((first | refine qr ?_ | refine qd (by kernel_rfl) (by kernel_rfl) ?_); simp only [go_sem, jE, reduceIte, jA, jM, jS, jL, jD, jB, h1, hx]) | refine dk (by kernel_rfl) ?_)
    refine Aw.rw (rwL (l' := [(17, .t (iT (0 : Nat))), (16, .t (iT b.length)), (15, .t (runT b)), (6, .t (.c (.ph 0 0 0))), (11, .t (iT (i : Nat))), (10, .t (iT a.length)), (9, .t (runT a)), (1, .t (runT b)), (0, .t (runT a))]) (os := [some (enO x)]) (M := [3]) (n' := 1) (by repeat (first | exact trivial | refine ⟨rfl, rfl, ?_⟩)) (by rfl) (by simp only [go_sem, jE, reduceIte, jA, jM, jS, jL, jD, jB]; first | done | rfl) (by decide) (by unfold idM; decide)) ?_
    refine Aw_loop_rw (ι := { j : Nat // j ≤ b.length ∧ noOld x b j }) (fun j => S [(17, .t (iT (j.1 : Nat))), (16, .t (iT b.length)), (15, .t (runT b)), (6, .t (.c (.ph 0 0 0))), (11, .t (iT (i : Nat))), (10, .t (iT a.length)), (9, .t (runT a)), (1, .t (runT b)), (0, .t (runT a))] (hpL [some (enO x)]) 1) (fun j => b.length - j.1) ⟨0, Nat.zero_le _, fun j hj => absurd hj (by omega)⟩ ?_
    rintro ⟨j, hj, hq⟩
    dsimp only
    by_cases hjl : j < b.length
    · have g1 : (j : Int) < (b.length : Int) := by omega
      have g2 := wrap_succ hjl hb
      obtain ⟨y, hy⟩ : ∃ e, b[j]? = some e := ⟨_, List.getElem?_eq_getElem hjl⟩
      cases c1 : decide (x.key = y.key)
      · have ho : older x y = false := by unfold older; simp [c1]
        repeat (first | apply Aw_seq | apply Aw_block | apply Aw_skip | apply Aw_exit | refine Aw_condt rfl ?_ | refine Aw_condf rfl ?_ | ((first | refine qr ?_ | refine qd (by kernel_rfl) (by kernel_rfl) ?_); simp only [go_sem, jE, reduceIte, jA, jM, jS, jL, jD, jB, g1, hy, g2, c1]) | refine dk (by kernel_rfl) ?_)
        refine ⟨⟨j + 1, by omega, fun q hqj z hz => by rcases Nat.lt_succ_iff_lt_or_eq.1 hqj with h | rfl; exact hq q h z hz; rw [hy] at hz; rw [← Option.some.inj hz]; exact ho⟩, [0], ?_, rwL (by repeat (first | exact trivial | refine ⟨rfl, rfl, ?_⟩)) (by rfl) (by simp only [go_sem, jE, reduceIte, jA, jM, jS, jL, jD, jB]; first | done | rfl) (by decide) (by unfold idM; decide)⟩
        show b.length - (j + 1) < b.length - j; omega
      · cases c2 : decide (x.time ≤ y.time)
        · have ho : older x y = false := by unfold older; simp [c1, c2]
          repeat (first | apply Aw_seq | apply Aw_block | apply Aw_skip | apply Aw_exit | refine Aw_condt rfl ?_ | refine Aw_condf rfl ?_ | ((first | refine qr ?_ | refine qd (by kernel_rfl) (by kernel_rfl) ?_); simp only [go_sem, jE, reduceIte, jA, jM, jS, jL, jD, jB, g1, hy, g2, c1, c2]) | refine dk (by kernel_rfl) ?_)
          refine ⟨⟨j + 1, by omega, fun q hqj z hz => by rcases Nat.lt_succ_iff_lt_or_eq.1 hqj with h | rfl; exact hq q h z hz; rw [hy] at hz; rw [← Option.some.inj hz]; exact ho⟩, [0], ?_, rwL (by repeat (first | exact trivial | refine ⟨rfl, rfl, ?_⟩)) (by rfl) (by simp only [go_sem, jE, reduceIte, jA, jM, jS, jL, jD, jB]; first | done | rfl) (by decide) (by unfold idM; decide)⟩
          show b.length - (j + 1) < b.length - j; omega
        · have ho : older x y = true := by unfold older; simp [c1, c2]
          repeat (first | apply Aw_seq | apply Aw_block | apply Aw_skip | apply Aw_exit | refine Aw_condt rfl ?_ | refine Aw_condf rfl ?_ | ((first | refine qr ?_ | refine qd (by kernel_rfl) (by kernel_rfl) ?_); simp only [go_sem, jE, reduceIte, jA, jM, jS, jL, jD, jB, g1, hy, g2, c1, c2]) | refine dk (by kernel_rfl) ?_)
          exact Aw_ret (ret0 (.inl rfl) (by simp only [go_sem, jE, reduceIte, jA, jM, jS, jL, jD, jB]; rfl) (by rw [newer_bad hx hy ho]) rfl)
    · have g1 : ¬ (j : Int) < (b.length : Int) := by omega
      obtain rfl : j = b.length := by omega
      repeat (first | apply Aw_seq | apply Aw_block | apply Aw_skip | apply Aw_exit | refine Aw_condt rfl ?_ | refine Aw_condf rfl ?_ | ((first | refine qr ?_ | refine qd (by kernel_rfl) (by kernel_rfl) ?_); simp only [go_sem, jE, reduceIte, jA, jM, jS, jL, jD, jB, g1, h2]) | refine dk (by kernel_rfl) ?_)
      exact ⟨⟨i + 1, by omega, fun q hqj z hz => by rcases Nat.lt_succ_iff_lt_or_eq.1 hqj with h | rfl; exact hp q h z hz; rw [hx] at hz; rw [← Option.some.inj hz]; exact hq⟩, (by simp only []; omega), rw0 (by repeat (first | exact trivial | refine ⟨rfl, rfl, ?_⟩))⟩
  · have h1 : ¬ (i : Int) < (a.length : Int) := by omega
    have he : i = a.length := by omega
    subst he
    repeat (first | apply Aw_seq | apply Aw_block | apply Aw_skip | apply Aw_exit | refine Aw_condt rfl ?_ | refine Aw_condf rfl ?_ | ((first | refine qr ?_ | refine qd (by kernel_rfl) (by kernel_rfl) ?_); simp only [go_sem, jE, reduceIte, jA, jM, jS, jL, jD, jB, h1]) | refine dk (by kernel_rfl) ?_)
    exact Aw_ret (ret0 (.inl rfl) (by simp only [go_sem, jE, reduceIte, jA, jM, jS, jL, jD, jB]; rfl) (by rw [newer_end hp]) rfl)
def nwAt (b : List Ent) (now : Int) (e : Ent) : Bool := !decide (now < e.time) && (match atM b e.key 999 with
  | some q => !decide (e.time ≤ q.time)
  | none => true)
def newestM (a b : List Ent) (now : Int) : Bool := a.all (nwAt b now)
theorem newest_bad {a b : List Ent} {now : Int} {x : Ent} {i : Nat} (hx : a[i]? = some x) (h : nwAt b now x = false) : newestM a b now = false := by
  unfold newestM
  rw [List.all_eq_false]
  exact ⟨x, List.mem_of_getElem? hx, by simp [h]⟩
theorem newest_end {a b : List Ent} {now : Int} (h : ∀ i, i < a.length → ∀ x, a[i]? = some x → nwAt b now x = true) : newestM a b now = true := by
  unfold newestM
  rw [List.all_eq_true]
  intro x hx
  obtain ⟨i, hi⟩ := List.mem_iff_getElem?.1 hx
  exact h i (List.getElem?_eq_some_iff.1 hi).1 x hi
theorem l12Newest_ac (a b : List Ent) (now : Int) (ha : a.length ≤ 1099511627776) (hb : SmR b) : AC Tryz.prog 89 [runT a, runT b, iT now] noHp 0 ⟨.t (bT (newestM a b now)), noHp, 0⟩ := by
  refine AC_of Tryz.func89 rfl Tryz.ntmps89 Tryz.results89 (by kernel_rfl) rfl ?_
  simp only [List.zipIdx, List.map, Nat.zero_add, Nat.reduceAdd]
  repeat (first | apply Aw_seq | apply Aw_block | apply Aw_skip | apply Aw_exit | refine Aw_condt rfl ?_ | refine Aw_condf rfl ?_ | ((first | refine qr ?_ | refine qd (by kernel_rfl) (by kernel_rfl) ?_); simp only [go_sem, jE, reduceIte, jA, jM, jS, jL, jD, jB]) | refine dk (by kernel_rfl) ?_)
  refine Aw.rw (rw0 (l' := [(7, .t (iT (0 : Nat))), (2, .t (iT now)), (1, .t (runT b)), (0, .t (runT a))]) (n' := 0) (by repeat (first | exact trivial | refine ⟨rfl, rfl, ?_⟩))) ?_
  refine Aw_loop0 (ι := { i : Nat // i ≤ a.length ∧ (∀ j, j < i → ∀ x, a[j]? = some x → nwAt b now x = true) }) (fun q => [(7, .t (iT (q.1 : Nat))), (2, .t (iT now)), (1, .t (runT b)), (0, .t (runT a))]) (fun q => a.length - q.1) ⟨0, Nat.zero_le _, fun j hj => absurd hj (by omega)⟩ ?_
  rintro ⟨i, hi, hp⟩
  dsimp only
  by_cases hlt : i < a.length
  · have h1 : (i : Int) < (a.length : Int) := by omega
    have h2 := wrap_succ hlt ha
    obtain ⟨x, hx⟩ : ∃ e, a[i]? = some e := ⟨_, List.getElem?_eq_getElem hlt⟩
    have nx : nwAt b now x = true → ∀ j, j < i + 1 → ∀ z, a[j]? = some z → nwAt b now z = true := fun ho q hqj z hz => by
      rcases Nat.lt_succ_iff_lt_or_eq.1 hqj with h | rfl
      · exact hp q h z hz
      · rw [hx] at hz; rw [← Option.some.inj hz]; exact ho
    cases hc : decide (now < x.time)
    case true =>
      repeat (first | apply Aw_seq | apply Aw_block | apply Aw_skip | apply Aw_exit | refine Aw_condt rfl ?_ | refine Aw_condf rfl ?_ | ((first | refine qr ?_ | refine qd (by kernel_rfl) (by kernel_rfl) ?_); simp only [go_sem, jE, reduceIte, jA, jM, jS, jL, jD, jB, h1, hx, hc]) | refine dk (by kernel_rfl) ?_)
      exact Aw_ret (ret0 (.inl rfl) (by simp only [go_sem, jE, reduceIte, jA, jM, jS, jL, jD, jB]; rfl) (by rw [newest_bad hx (by unfold nwAt; simp only [hc]; rfl)]) rfl)
    case false =>
      have c1 := hc
      have hat := sat_ac b x.key 999 hb
      cases c2 : atM b x.key 999 with
      | none =>
        rw [c2] at hat
        repeat (first | apply Aw_seq | apply Aw_block | apply Aw_skip | apply Aw_exit | refine Aw_condt rfl ?_ | refine Aw_condf rfl ?_ | ((first | refine qr ?_ | refine qd (by kernel_rfl) (by kernel_rfl) ?_); simp only [go_sem, jE, reduceIte, jA, jM, jS, jL, jD, jB, h1, hx, c1, h2, Option.isSome_none, Option.getD_none]) | refine dk (by kernel_rfl) ?_ | (refine qp (hat) (by simp only [go_sem, jE, reduceIte, jA, jM, jS, jL, jD, jB, h1, hx, c1, h2, Option.isSome_none, Option.getD_none]; first | done | rfl) rfl (by simp only [go_sem, Nat.reduceLT]) rfl rfl ?_; simp only [go_sem, jE, reduceIte, jA, jM, jS, jL, jD, jB, h1, hx, c1, h2, Option.isSome_none, Option.getD_none]))
        exact ⟨⟨i + 1, by omega, nx (by unfold nwAt; simp only [c1, c2]; rfl)⟩, (by simp only []; omega), rw0 (by repeat (first | exact trivial | refine ⟨rfl, rfl, ?_⟩))⟩
      | some y =>
        rw [c2] at hat
        cases c3 : decide (x.time ≤ y.time)
        · repeat (first | apply Aw_seq | apply Aw_block | apply Aw_skip | apply Aw_exit | refine Aw_condt rfl ?_ | refine Aw_condf rfl ?_ | ((first | refine qr ?_ | refine qd (by kernel_rfl) (by kernel_rfl) ?_); simp only [go_sem, jE, reduceIte, jA, jM, jS, jL, jD, jB, h1, hx, c1, h2, c3, Option.isSome_some, Option.getD_some]) | refine dk (by kernel_rfl) ?_ | (refine qp (hat) (by simp only [go_sem, jE, reduceIte, jA, jM, jS, jL, jD, jB, h1, hx, c1, h2, c3, Option.isSome_some, Option.getD_some]; first | done | rfl) rfl (by simp only [go_sem, Nat.reduceLT]) rfl rfl ?_; simp only [go_sem, jE, reduceIte, jA, jM, jS, jL, jD, jB, h1, hx, c1, h2, c3, Option.isSome_some, Option.getD_some]))
          exact ⟨⟨i + 1, by omega, nx (by unfold nwAt; simp only [c1, c2, c3]; rfl)⟩, (by simp only []; omega), rw0 (by repeat (first | exact trivial | refine ⟨rfl, rfl, ?_⟩))⟩
        · repeat (first | apply Aw_seq | apply Aw_block | apply Aw_skip | apply Aw_exit | refine Aw_condt rfl ?_ | refine Aw_condf rfl ?_ | ((first | refine qr ?_ | refine qd (by kernel_rfl) (by kernel_rfl) ?_); simp only [go_sem, jE, reduceIte, jA, jM, jS, jL, jD, jB, h1, hx, c1, h2, c3, Option.isSome_some, Option.getD_some]) | refine dk (by kernel_rfl) ?_ | (refine qp (hat) (by simp only [go_sem, jE, reduceIte, jA, jM, jS, jL, jD, jB, h1, hx, c1, h2, c3, Option.isSome_some, Option.getD_some]; first | done | rfl) rfl (by simp only [go_sem, Nat.reduceLT]) rfl rfl ?_; simp only [go_sem, jE, reduceIte, jA, jM, jS, jL, jD, jB, h1, hx, c1, h2, c3, Option.isSome_some, Option.getD_some]))
          exact Aw_ret (ret0 (.inl rfl) (by simp only [go_sem, jE, reduceIte, jA, jM, jS, jL, jD, jB]; rfl) (by rw [newest_bad hx (by unfold nwAt; simp only [c1, c2, c3]; rfl)]) rfl)
  · have h1 : ¬ (i : Int) < (a.length : Int) := by omega
    have he : i = a.length := by omega
    subst he
    repeat (first | apply Aw_seq | apply Aw_block | apply Aw_skip | apply Aw_exit | refine Aw_condt rfl ?_ | refine Aw_condf rfl ?_ | ((first | refine qr ?_ | refine qd (by kernel_rfl) (by kernel_rfl) ?_); simp only [go_sem, jE, reduceIte, jA, jM, jS, jL, jD, jB, h1]) | refine dk (by kernel_rfl) ?_)
    exact Aw_ret (ret0 (.inl rfl) (by simp only [go_sem, jE, reduceIte, jA, jM, jS, jL, jD, jB]; rfl) (by rw [newest_end hp]) rfl)
open Go
structure CallOkV (P : Program) (f : FuncId) (cap : List PV) (hp : Hp) (va : List AV) (n : Nat) (v : AV) (h1 : Hp) (n1 : Nat) (rd wr : List Nat) : Prop where
  out : ∃ (ta tb : List TV) (hb : Hp) (N' L : List Nat) (o : Out), va = ta.map AV.t ∧ All2 (Arg hp N' L) (ta ++ capT cap) tb ∧ Hands hp hb N' L ∧ (L = [] ∨ (o.r.flat = true ∧ ∀ j q, o.hp j = some q → q.flat = true)) ∧ AC P f tb hb N'.length o ∧
    v = o.r.ren (pout N' n) ∧ h1 = hpOut hp N' n (o.n - N'.length) o.hp ∧ n1 = n + (o.n - N'.length) ∧ rd = N' ++ L ∧ wr = N'
section
variable {dr : Bool} {P : Program} {N k : Nat} {ops : Array Oper} {Q : Exit → St → Prop} {r : List Oper} {l : List (Nat × AV)} {hp h1 : Hp} {n : Nat} {acc : List FP}
theorem ex_callv {d : Option Tmp} {f : FuncId} {cap : List PV} {x : Operand} {args : List Operand} {ts : Array TypeId} {ty : TypeId} {pos : String} {after : Array Edge} {gd : Option (Nat × Bool)} {n1 : Nat} {rd wr : List Nat} {v : AV} {va : List AV}
    (hx : evO (look l) x = .t (.c (.fn f cap))) (h : CallOkV P f cap hp va n v h1 n1 rd wr) (hva : args.map (evO (look l)) = va) (hw : wantA ops (look l) ⟨d, .call { callee := .value x, args := args.toArray, argTypes := ts }, ty, pos, after, gd⟩ = some true) (hd : dstE N d)
    (q : Ev dr P N ops Q r (putE l d v) h1 n1 (fpC dr ⟨n, n1 - n, rd, wr⟩ acc)) :
    Ex dr P N ops Q (⟨d, .call { callee := .value x, args := args.toArray, argTypes := ts }, ty, pos, after, gd⟩ :: r) (S l hp n) acc := by
  obtain ⟨ta, tb, hb, N', L, o, e, hB, hh, hf, hc, rfl, rfl, rfl, rfl, rfl⟩ := h.out
  have q' := ev_ex _ _ _ _ _ q
  rw [Nat.add_sub_cancel_left] at q'
  cases dr with
  | true => exact dx_callv hw (dst_ok hd) rfl hx (by simpa [hva] using e) hB hh hf hc (by rw [put_lookE]; exact q')
  | false => exact fun a => dx_callv hw (dst_ok hd) rfl hx (by simpa [hva] using e) hB hh hf hc (by rw [put_lookE]; exact q' _)
theorem all2_app {α β : Type} {R : α → β → Prop} {b d : List β} : ∀ {a c : List α}, All2 R a b → All2 R c d → All2 R (a ++ c) (b ++ d) := by
  intro a c h1 h2
  induction h1 with
  | nil => exact h2
  | cons h _ ih => exact .cons h ih
theorem arg_nm {N' L : List Nat} {x y : TV} (h : x = y.ren (pin N')) (hb : y.bd N'.length = true) : Arg hp N' L x y := by subst h; exact .nm hb
/-- A call of a function value that hands objects on; j: how many arguments stand in the call. -/
theorem call_V {f : FuncId} {cap : List PV} {va : List AV} {ta tb : List TV} {N' L : List Nat} {hs os : List (Option Obj)} {x : AV} {m : Nat} (j : Nat) (hc : AC P f tb (hpL hs) N'.length ⟨x, hpL os, m⟩) (hv : va = ta.map AV.t) (hB1 : All2 (Arg hp N' L) ta (tb.take j)) (hB2 : All2 (Arg hp N' L) (capT cap) (tb.drop j))
    (hd : N'.Nodup) (hlt : ∀ q ∈ N', q < n) (hap : ∀ q ∈ L, q ∉ N') (hh : HandL hp N' N' hs) (hf : L = [] ∨ (x.flat = true ∧ ∀ o ∈ os, ∀ q, o = some q → q.flat = true)) (hl : os.length = m) (hm : N'.length ≤ m) :
    CallOkV P f cap hp va n (x.ren (pout N' n)) (updL hp (N' ++ List.range' n (m - N'.length)) (os.map (·.map (Obj.ren (pout N' n))))) (n + (m - N'.length)) (N' ++ L) N' := by
  have hB : All2 (Arg hp N' L) (ta ++ capT cap) tb := by have := all2_app hB1 hB2; rwa [List.take_append_drop] at this
  obtain ⟨h1, h2⟩ := handL_get hh
  refine ⟨ta, tb, hpL hs, N', L, ⟨x, hpL os, m⟩, hv, hB, ⟨hd, hap, fun j o hj => ?_, fun j hj => ?_⟩, hf.imp id fun h => ⟨h.1, fun j q hq => ?_⟩, hc, rfl, ?_, rfl, rfl, rfl⟩
  · rcases Nat.lt_or_ge j N'.length with h | h
    · exact h
    · rw [hpL_none (by omega)] at hj; cases hj
  · obtain ⟨o, q1, q2, q3⟩ := h2 j hj
    exact ⟨o, by simp [hpL, q1], q2, q3⟩
  · simp only [hpL] at hq
    cases ho : os[j]? with
    | none => rw [ho] at hq; simp at hq
    | some o => rw [ho] at hq; simp at hq; exact h.2 o (List.mem_of_getElem? ho) q hq
  · exact (hpOut_L hd hlt (by omega)).symm
/-- A loop, told round by round. -/
def AwR (P : Program) (N k : Nat) (x : Code) (Q : Exit → St → Prop) : Nat → St → Prop
  | 0, _ => False
  | n + 1, s => Aw P N k x (thenQ (AwR P N k x Q n) Q) s
theorem AwR_succ {x : Code} {Q : Exit → St → Prop} {m : Nat} {s : St} (h : Aw P N k x (thenQ (AwR P N k x Q m) Q) s) : AwR P N k x Q (m + 1) s := h
theorem Aw_rounds {x : Code} {Q : Exit → St → Prop} {s : St} (m : Nat) (h : AwR P N k x Q m s) : Aw P N k (.loop x) Q s := fun c a r => by
  refine wp_loop_rounds m ?_
  have key : ∀ m s1 c1 a1, AwR P N k x Q m s1 → Rp N c1 a1 s1 → Tk k c s.hp c1 s1.hp → Code.rounds P x (AQ N k c s.hp Q) m a1 c1.w := by
    intro m
    induction m with
    | zero => intro s1 c1 a1 h _ _; exact h.elim
    | succ m ih =>
      intro s1 c1 a1 h r1 t1
      rw [rounds_succ]
      refine wp_mono (h c1 a1 r1) fun e a2 w2 hq => ?_
      obtain ⟨s2, c2, q, rfl, t2, r2⟩ := hq
      cases e with
      | normal => exact ih s2 c2 a2 q r2 (t1.trans t2)
      | _ => exact ⟨s2, c2, q, rfl, t1.trans t2, r2⟩
  exact key m s c a h r (Tk.refl _ _ _)
end
/-- What a function gives that makes one empty row. -/
theorem AC_row {P : Program} {f : FuncId} {args : List TV} {e k : Nat} (hf : ∃ fn, P.funcs[f]? = some fn ∧ fn.body.isNone = false ∧ (fn.name == "runtime.NumGoroutine") = false) (hk : 0 < k)
    (h : ∀ (c : Cx) (vs : List Value), Good c noHp → All2 (RepT c) args vs → Calls P f vs.toArray c.w fun en w' => ∃ v, en = .returned v ∧ ((v = .slice none 0 0 ∧ w' = c.w) ∨ ∃ cap xs d, v = .slice (some ⟨c.w.heap.size, 0, none⟩) 0 cap ∧ w' = { c.w with drawn := d }.alloc (.cells (List.toArray xs) e) ∧ cap ≤ maxLen ∧ xs.length = cap * k)) :
    AC P f args noHp 0 ⟨.t (.c (.h 0)), hpL [some (dRow e k [])], 1⟩ := by
  refine ⟨hf, fun c vs g hU hA => (h c vs g hA).mono fun en w' => ?_⟩
  have hn : ¬ c.U 0 := fun h => absurd (hU 0 h) (Nat.not_lt_zero _)
  have hhp : hpL [some (dRow e k [])] = upd noHp 0 (some ⟨e, k, true, []⟩) := (hp1_L _).symm
  rintro ⟨v, rfl, ⟨rfl, rfl⟩ | ⟨cap, xs, d, rfl, rfl, hc, hx⟩⟩
  · have hrep : ORep (c.name 0 0 (.slice none 0 0) k) 0 ⟨e, k, true, []⟩ := by
      refine ⟨by simp [Cx.name], hk, [], ⟨by simp, by simp, fun i j cs x hi => by simp at hi⟩, .inl ⟨rfl, ?_, fun b hb => ?_⟩⟩
      · simp only [Cx.name, upd_same, List.length_nil]
        exact ⟨by simp, .inl ⟨rfl, rfl⟩⟩
      · simp [Cx.name, Value.ownBlock] at hb
    have hb : ∀ y, blk (c.name 0 0 (.slice none 0 0) k) 0 ⟨e, k, true, []⟩ ≠ some y := fun y => by simp [blk, Cx.name, Value.ownBlock]
    have g2 := g.add hn hrep (fun y hy => absurd hy (hb y))
    have t2 := (Tr.refl c noHp).add g (fun m o h => g.dom m o h) hn (b := 0) (k := k) (v := .slice none 0 0) (o := ⟨e, k, true, []⟩) (fun _ h => h) (fun y hy => absurd hy (hb y))
    refine ⟨_, c.name 0 0 (.slice none 0 0) k, rfl, rfl, by rw [hhp]; exact t2, by rw [hhp]; exact g2, ⟨.inr rfl, by simp [Cx.name], rfl⟩, fun m hm => ?_⟩
    rcases hm with hm | rfl
    · have := hU m hm; omega
    · exact Nat.lt_succ_self 0
  · obtain ⟨g1, t1⟩ := g.world (w' := { c.w with drawn := d }) rfl rfl rfl (Nat.le_refl _) (fun b hb => rfl)
    have hown : World.ownsRow ({ c.w with drawn := d }.alloc (.cells xs.toArray e)) 0 e k (.slice (some ⟨c.w.heap.size, 0, none⟩) 0 cap) 0 [] :=
      ⟨by simp, .inr ⟨c.w.heap.size, cap, xs.toArray, rfl, Nat.zero_le _, Array.getElem?_push_size, Nat.zero_le _, hc, by simpa using hx, by simp⟩⟩
    obtain ⟨g2, t2⟩ := Good.alloc (c := c.at { c.w with drawn := d }) g1 (n := 0) (k := k) hn e xs (.slice (some ⟨c.w.heap.size, 0, none⟩) 0 cap) ⟨e, k, true, []⟩
      ⟨by simp [Cx.name], hk, [], ⟨by simp, by simp, fun i j cs x hi => by simp at hi⟩, .inl ⟨rfl, by simpa [Cx.name, Cx.at] using hown, fun b hb => by simp [Cx.name, Value.ownBlock, Cx.at] at hb ⊢; exact hb.symm⟩⟩ (fun x hx => by
        rw [blk_name] at hx; simpa [Value.ownBlock, Cx.at] using hx.symm)
    refine ⟨_, ((c.at { c.w with drawn := d }).at ({ c.w with drawn := d }.alloc (.cells xs.toArray e))).name 0 c.w.heap.size (.slice (some ⟨c.w.heap.size, 0, none⟩) 0 cap) k, rfl, rfl, by rw [hhp]; exact t1.trans t2, by rw [hhp]; exact g2, ⟨.inr rfl, by simp [Cx.name], rfl⟩, fun m hm => ?_⟩
    rcases hm with hm | rfl
    · have := hU m hm; omega
    · exact Nat.lt_succ_self 0
theorem grow_ac (n : Nat) (hn : n ≤ 1000) : AC Tryz.prog 144 [.c (.d (.s (.slice none 0 0))), iT n] noHp 0 ⟨.t (.c (.h 0)), hpL [some (dRow 56 4 [])], 1⟩ := by
  refine AC_row (by exact ⟨_, Tryz.func144, rfl, rfl⟩) (by decide) fun c vs g hA => ?_
  obtain ⟨v0, v1, rfl, rfl, rfl⟩ : ∃ v0 v1, vs = [v0, v1] ∧ v0 = .slice none 0 0 ∧ v1 = .int .i64 n := by
    cases hA with
    | cons h1 h2 => cases h2 with
      | cons h3 h4 => cases h4; exact ⟨_, _, rfl, repD_s h1, repD_s h3⟩
  generalize c.w = w
  obtain ⟨E⟩ := tf ti56
  have i1 := E.info; have i2 := E.zero; have i3 := E.sz; have i4 := E.bys
  have i5 : E.zv.cells.size = 4 := by have := congrArg List.length E.z; simpa using this
  simp only [] at i3 i4
  have c1 : decide ((n : Int) < 0) = false := by simp
  by_cases h0 : n = 0
  · subst h0
    go_enter Tryz.func144, Tryz.ntmps144
    go_wp2
    go_ret
    exact ⟨_, rfl, .inl ⟨rfl, rfl⟩⟩
  · have c2 : decide (0 < (n : Int)) = true := by simp; omega
    have c3 : IntKind.i64.wrap ((n : Int)) = n := wrap_nat (by omega)
    have hr := Lib.run_append_nil_zeros (P := Tryz.prog) w 29 3 29 56 _ _ .i64 .i64 Tryz.underlying29 Tryz.underlying3 i1 i2 n (by omega) (by omega) (by omega) (by rw [i4]; omega)
    have hcap := grownCap_le_maxLen w n 0 56 (by unfold maxLen; omega)
    have hge := grownCap_ge w n 0 56
    generalize grownCap w n 0 56 = cap at hr hcap hge
    obtain ⟨xs, hxs, hxl⟩ : ∃ xs : List Value, Builtin.zeroCells E.zv.cells n ++ Builtin.zeroCells E.zv.cells (cap - n) = xs.toArray ∧ xs.length = cap * 4 := by
      refine ⟨(Builtin.zeroCells E.zv.cells n ++ Builtin.zeroCells E.zv.cells (cap - n)).toList, by simp, ?_⟩
      simp [size_zeroCells, i5]
      rw [← Nat.add_mul]; congr 1; omega
    rw [hxs] at hr
    clear i2 i5 hxs
    go_enter Tryz.func144, Tryz.ntmps144
    go_wp2_with (first | (at_builtin; refine Lib.wpList_append_run _ rfl (.tmp 20) (.tmp 21) _ _ rfl _ _ rfl rfl _ _ hr ?_))
    go_ret
    exact ⟨_, rfl, .inr ⟨cap, xs, w.drawn + 1, rfl, rfl, hcap, hxl⟩⟩
def lvD (r : List Ent) : List D := [.rs 4 (r.map entD)]
@[go_sem] theorem r_lvD (r : List Ent) : lvD r = [.rs 4 (r.map entD)] := rfl
def eRow (r : List Ent) : Obj := dRow 56 4 (r.map entD)
@[go_sem] theorem r_eRow (r : List Ent) : eRow r = dRow 56 4 (r.map entD) := rfl
@[go_sem] theorem all_entD (q : List Ent) : (List.map (fun x => List.map CV.d x) (List.map entD q)).all (fun cs => cs.length == 4) = true := by simp [entD]
theorem concat_ac (a b : List Ent) (ha : a.length ≤ 400) (hb : b.length ≤ 400) : AC Tryz.prog 110 [.c (.h 0)] (hpL [some (dRow 29 1 [lvD a, lvD b])]) 1 ⟨.t (.c (.h 1)), hpL [none, some (eRow (a ++ b))], 2⟩ := by
  refine AC_of Tryz.func110 rfl Tryz.ntmps110 Tryz.results110 (by kernel_rfl) rfl ?_
  simp only [List.zipIdx, List.map, Nat.zero_add, Nat.reduceAdd]
  repeat (first | apply Aw_seq | apply Aw_block | apply Aw_skip | apply Aw_exit | refine Aw_condt rfl ?_ | refine Aw_condf rfl ?_ | ((first | refine qr ?_ | refine qd (by kernel_rfl) (by kernel_rfl) ?_); simp only [go_sem, jE, reduceIte, jA, jM, jS, jL, jD, jB]) | refine dk (by kernel_rfl) ?_)
  refine Aw_rounds 3 ?_
  refine AwR_succ ?_
  have e0 : decide ((0 : Int) < 2) = true := rfl
  have e1 : decide ((1 : Int) < 2) = true := rfl
  have e2 : decide ((2 : Int) < 2) = false := rfl
  have w1 : IntKind.i64.wrap (0 + 1) = 1 := rfl
  have w2 : IntKind.i64.wrap (1 + 1) = 2 := rfl
  have l1 : IntKind.i64.wrap (0 + (a.length : Int)) = (a.length : Int) := by rw [Int.zero_add]; exact wrap_nat (by omega)
  have l2 : IntKind.i64.wrap ((a.length : Int) + (b.length : Int)) = ((a.length + b.length : Nat) : Int) := wrap_add (by omega)
  have g1 : decide ((a.length : Int) < 0) = false := decide_eq_false (by omega)
  have g2 : decide (((a.length + b.length : Nat) : Int) < 0) = false := decide_eq_false (by omega)
  repeat (first | apply Aw_seq | apply Aw_block | apply Aw_skip | apply Aw_exit | refine Aw_condt rfl ?_ | refine Aw_condf rfl ?_ | ((first | refine qr ?_ | refine qd (by kernel_rfl) (by kernel_rfl) ?_); simp only [go_sem, jE, reduceIte, jA, jM, jS, jL, jD, jB, e0, e1, e2, w1, w2, l1, l2, g1, g2]) | refine dk (by kernel_rfl) ?_ | (refine qx (call_N (L := []) (grow_ac (a.length + b.length) (by omega)) rfl (.cons (.nm rfl) (.cons (.nm rfl) (.nil))) (.inl rfl) rfl) (by simp only [go_sem, jE, reduceIte, jA, jM, jS, jL, jD, jB, e0, e1, e2, w1, w2, l1, l2, g1, g2]; first | done | rfl) rfl (by simp only [go_sem, Nat.reduceLT]) ?_; simp only [go_sem, jE, reduceIte, jA, jM, jS, jL, jD, jB, e0, e1, e2, w1, w2, l1, l2, g1, g2]))
  refine Aw_rounds 3 ?_
  refine AwR_succ ?_
  have q1 : a.length * 40 ≤ 140737488355328 := by omega
  have q2 : (a.length + b.length) * 40 ≤ 140737488355328 := by omega
  repeat (first | apply Aw_seq | apply Aw_block | apply Aw_skip | apply Aw_exit | refine Aw_condt rfl ?_ | refine Aw_condf rfl ?_ | ((first | refine qr ?_ | refine qd (by kernel_rfl) (by kernel_rfl) ?_); simp only [go_sem, jE, reduceIte, jA, jM, jS, jL, jD, jB, e0, e1, e2, w1, w2, q1, q2]) | refine dk (by kernel_rfl) ?_)
  exact Aw_ret (retL (M := [0, 55]) (.inl rfl) (by simp only [go_sem, jE, reduceIte, jA, jM, jS, jL, jD, jB]; first | done | rfl) rfl rfl (by rfl) (by simp only [go_sem, jE, reduceIte, jA, jM, jS, jL, jD, jB]; first | done | rfl | (and_intros <;> rfl)) (by decide) (by unfold idM; decide))
theorem hpL_no (os : List (Option Obj)) (h : os.all (·.isNone) = true) : hpL os = noHp := by
  funext m
  unfold hpL
  cases hm : os[m]? with
  | none => rfl
  | some o =>
    have := List.all_eq_true.1 h o (List.mem_of_getElem? hm)
    cases o with
    | none => rfl
    | some o => cases this
/-- All rows of a result, settled; one name was handed on. -/
theorem AC.settle1 {P : Program} {f : FuncId} {args : List TV} {hp hp1 : Hp} {x y : AV} {n : Nat} (L : List Nat) (h : AC P f args hp 1 ⟨x, hp1, n⟩) (hr : SetA hp1 L x y) (hy : y.bd 1 = true) : AC P f args hp 1 ⟨y, hpL [none], 1⟩ := by
  rw [hpL_no [none] rfl]
  have hk : ∀ m, m < 1 → pin [0] m = m := fun m hm => by
    cases m with
    | zero => rfl
    | succ m => omega
  have hx : y = y.ren (pin [0]) := (AV.ren_id (n := 1) hk hy).symm
  refine AC.sel (M := [0]) (AC.settle h hr (hp2 := noHp) (fun m o' hm => by simp [noHp] at hm) (Nat.le_refl n)) hx hy hpSel_none (Nat.le_refl _) fun m hm => ?_
  exact ⟨hm, hk m hm⟩
theorem concatS_ac (a b : List Ent) (ha : a.length ≤ 400) (hb : b.length ≤ 400) : AC Tryz.prog 110 [.c (.h 0)] (hpL [some (dRow 29 1 [lvD a, lvD b])]) 1 ⟨.t (runT (a ++ b)), hpL [none], 1⟩ :=
  AC.settle1 [1] (concat_ac a b ha hb) (SetC.row0 rfl rfl) rfl
/-- A store. -/
structure Sto where
  top : List Ent
  levels : List (List Ent)
  sieves : List Sve
  keep : Int
  time : Int
  times : List Int
def sveD (s : Sve) : List D := [.s (.string s.letters), .s (.string s.more), .s (.string s.first), .rs 1 (s.rests.map strD), .s (.int .i64 s.keep)]
@[go_sem] theorem r_sveD (s : Sve) : sveD s = [.s (.string s.letters), .s (.string s.more), .s (.string s.first), .rs 1 (s.rests.map strD), .s (.int .i64 s.keep)] := rfl
abbrev stT (s : Sto) : TV := .agg [.d (.rs 4 (s.top.map entD)), .d (.rs 1 (s.levels.map lvD)), .d (.rs 5 (s.sieves.map sveD)), .d (.s (.int .i64 s.keep)), .d (.s (.int .i64 s.time)), .d (.rs 1 (s.times.map intD))]
def stO (s : Sto) : Obj := ⟨33, 6, false, [[.d (.rs 4 (s.top.map entD)), .d (.rs 1 (s.levels.map lvD)), .d (.rs 5 (s.sieves.map sveD)), .d (.s (.int .i64 s.keep)), .d (.s (.int .i64 s.time)), .d (.rs 1 (s.times.map intD))]]⟩
@[go_sem] theorem r_stO (s : Sto) : stO s = ⟨33, 6, false, [[.d (.rs 4 (s.top.map entD)), .d (.rs 1 (s.levels.map lvD)), .d (.rs 5 (s.sieves.map sveD)), .d (.s (.int .i64 s.keep)), .d (.s (.int .i64 s.time)), .d (.rs 1 (s.times.map intD))]]⟩ := rfl
theorem late_ac (s : Sto) (e : Ent) : AC Tryz.prog 109 [entT e, .c (.ph 0 0 0)] (hpL [some (stO s)]) 1 ⟨.t (bT (decide (s.time < e.time))), hpL [some (stO s)], 1⟩ := by
  refine AC_of Tryz.func109 rfl Tryz.ntmps109 Tryz.results109 (by kernel_rfl) rfl ?_
  simp only [List.zipIdx, List.map, Nat.zero_add, Nat.reduceAdd]
  repeat (first | apply Aw_seq | apply Aw_block | apply Aw_skip | apply Aw_exit | refine Aw_condt rfl ?_ | refine Aw_condf rfl ?_ | ((first | refine qr ?_ | refine qd (by kernel_rfl) (by kernel_rfl) ?_); simp only [go_sem, jE, reduceIte, jA, jM, jS, jL, jD, jB]) | refine dk (by kernel_rfl) ?_)
  exact Aw_ret (retL (M := [0]) (.inl rfl) (by simp only [go_sem, jE, reduceIte, jA, jM, jS, jL, jD, jB]; first | done | rfl) rfl rfl (by rfl) (by simp only [go_sem, jE, reduceIte, jA, jM, jS, jL, jD, jB]; first | done | rfl | (and_intros <;> rfl)) (by decide) (by unfold idM; decide))
def lateI (s : Sto) (r : List Ent) : Int := match r.findIdx? (fun e => decide (s.time < e.time)) with
  | some i => (i : Int)
  | none => -1
theorem late_hit {s : Sto} {r : List Ent} {i : Nat} {e : Ent} (hi : r[i]? = some e) (h : ∀ j, j < i → ∀ y, r[j]? = some y → decide (s.time < y.time) = false) (he : decide (s.time < e.time) = true) : lateI s r = i := by
  have hl := (List.getElem?_eq_some_iff.1 hi).1
  have : r.findIdx? (fun e => decide (s.time < e.time)) = some i := by
    rw [List.findIdx?_eq_some_iff_getElem]
    refine ⟨hl, ?_, fun j hj => ?_⟩
    · rw [List.getElem?_eq_getElem hl] at hi; rw [Option.some.inj hi]; exact he
    · have := h j hj _ (List.getElem?_eq_getElem (by omega)); simp only [this]; decide
  unfold lateI; rw [this]
theorem late_no {s : Sto} {r : List Ent} (h : ∀ j, j < r.length → ∀ y, r[j]? = some y → decide (s.time < y.time) = false) : lateI s r = -1 := by
  have : r.findIdx? (fun e => decide (s.time < e.time)) = none := by
    rw [List.findIdx?_eq_none_iff]
    intro x hx
    obtain ⟨i, hi⟩ := List.mem_iff_getElem?.1 hx
    exact h i (List.getElem?_eq_some_iff.1 hi).1 x hi
  unfold lateI; rw [this]
theorem indexLate_ac (s : Sto) (r : List Ent) (hl : r.length ≤ 1099511627776) : AC Tryz.prog 143 [runT r, .c (.fn 109 [.ph 0 0 0])] (hpL [some (stO s)]) 1 ⟨.t (iT (lateI s r)), hpL [some (stO s)], 1⟩ := by
  refine AC_of Tryz.func143 rfl Tryz.ntmps143 Tryz.results143 (by kernel_rfl) rfl ?_
  simp only [List.zipIdx, List.map, Nat.zero_add, Nat.reduceAdd]
  repeat (first | apply Aw_seq | apply Aw_block | apply Aw_skip | apply Aw_exit | refine Aw_condt rfl ?_ | refine Aw_condf rfl ?_ | ((first | refine qr ?_ | refine qd (by kernel_rfl) (by kernel_rfl) ?_); simp only [go_sem, jE, reduceIte, jA, jM, jS, jL, jD, jB]) | refine dk (by kernel_rfl) ?_)
  refine Aw.rw (rwL (l' := [(8, .t (iT (0 : Nat))), (7, .t (iT r.length)), (1, .t (.c (.fn 109 [.ph 0 0 0]))), (0, .t (runT r))]) (os := [some (stO s)]) (M := [0]) (n' := 1) (by repeat (first | exact trivial | refine ⟨rfl, rfl, ?_⟩)) (by rfl) (by simp only [go_sem, jE, reduceIte, jA, jM, jS, jL, jD, jB]; first | done | rfl) (by decide) (by unfold idM; decide)) ?_
  refine Aw_loop_rw (ι := { j : Nat // j ≤ r.length ∧ ∀ q, q < j → ∀ y, r[q]? = some y → decide (s.time < y.time) = false }) (fun j => S [(8, .t (iT (j.1 : Nat))), (7, .t (iT r.length)), (1, .t (.c (.fn 109 [.ph 0 0 0]))), (0, .t (runT r))] (hpL [some (stO s)]) 1) (fun j => r.length - j.1) ⟨0, Nat.zero_le _, fun j hj => absurd hj (by omega)⟩ ?_
  rintro ⟨j, hj, hq⟩
  dsimp only
  by_cases hjl : j < r.length
  · have g1 : (j : Int) < (r.length : Int) := by omega
    have g2 := wrap_succ hjl hl
    obtain ⟨y, hy⟩ : ∃ e, r[j]? = some e := ⟨_, List.getElem?_eq_getElem hjl⟩
    have hv := late_ac s y
    cases c1 : decide (s.time < y.time)
    · rw [c1] at hv
      repeat (first | apply Aw_seq | apply Aw_block | apply Aw_skip | apply Aw_exit | refine Aw_condt rfl ?_ | refine Aw_condf rfl ?_ | ((first | refine qr ?_ | refine qd (by kernel_rfl) (by kernel_rfl) ?_); simp only [go_sem, jE, reduceIte, jA, jM, jS, jL, jD, jB, g1, hy, g2]) | refine dk (by kernel_rfl) ?_ | (refine ex_callv (by simp only [go_sem, jE, reduceIte, jA, jM, jS, jL, jD, jB, g1, hy, g2]; first | done | rfl) (call_V (N' := [0]) (L := []) 1 (hv) rfl (.cons (.nm rfl) (.nil)) (by first | exact .cons (arg_nm rfl rfl) (.nil) | (simp only [capT, List.map]; exact .cons (arg_nm rfl rfl) (.nil))) (by decide) (by decide) (by decide) (by simp only [go_sem, jE, reduceIte, jA, jM, jS, jL, jD, jB, g1, hy, g2]; first | done | rfl) (.inl rfl) rfl (by decide)) (by simp only [go_sem, jE, reduceIte, jA, jM, jS, jL, jD, jB, g1, hy, g2]; first | done | rfl) rfl (by simp only [go_sem, Nat.reduceLT]) ?_; simp only [go_sem, jE, reduceIte, jA, jM, jS, jL, jD, jB, g1, hy, g2]))
      refine ⟨⟨j + 1, by omega, fun q hqj z hz => by rcases Nat.lt_succ_iff_lt_or_eq.1 hqj with h | rfl; exact hq q h z hz; rw [hy] at hz; rw [← Option.some.inj hz]; exact c1⟩, [0], ?_, rwL (by repeat (first | exact trivial | refine ⟨rfl, rfl, ?_⟩)) (by rfl) (by simp only [go_sem, jE, reduceIte, jA, jM, jS, jL, jD, jB]; first | done | rfl) (by decide) (by unfold idM; decide)⟩
      show r.length - (j + 1) < r.length - j; omega
    · rw [c1] at hv
      rw [late_hit hy hq c1]
      repeat (first | apply Aw_seq | apply Aw_block | apply Aw_skip | apply Aw_exit | refine Aw_condt rfl ?_ | refine Aw_condf rfl ?_ | ((first | refine qr ?_ | refine qd (by kernel_rfl) (by kernel_rfl) ?_); simp only [go_sem, jE, reduceIte, jA, jM, jS, jL, jD, jB, g1, hy, g2]) | refine dk (by kernel_rfl) ?_ | (refine ex_callv (by simp only [go_sem, jE, reduceIte, jA, jM, jS, jL, jD, jB, g1, hy, g2]; first | done | rfl) (call_V (N' := [0]) (L := []) 1 (hv) rfl (.cons (.nm rfl) (.nil)) (by first | exact .cons (arg_nm rfl rfl) (.nil) | (simp only [capT, List.map]; exact .cons (arg_nm rfl rfl) (.nil))) (by decide) (by decide) (by decide) (by simp only [go_sem, jE, reduceIte, jA, jM, jS, jL, jD, jB, g1, hy, g2]; first | done | rfl) (.inl rfl) rfl (by decide)) (by simp only [go_sem, jE, reduceIte, jA, jM, jS, jL, jD, jB, g1, hy, g2]; first | done | rfl) rfl (by simp only [go_sem, Nat.reduceLT]) ?_; simp only [go_sem, jE, reduceIte, jA, jM, jS, jL, jD, jB, g1, hy, g2]))
      exact Aw_ret (retL (M := [0]) (.inl rfl) (by simp only [go_sem, jE, reduceIte, jA, jM, jS, jL, jD, jB]; first | done | rfl) rfl rfl (by rfl) (by simp only [go_sem, jE, reduceIte, jA, jM, jS, jL, jD, jB]; first | done | rfl | (and_intros <;> rfl)) (by decide) (by unfold idM; decide))
  · have g1 : ¬ (j : Int) < (r.length : Int) := by omega
    obtain rfl : j = r.length := by omega
    rw [late_no hq]
    repeat (first | apply Aw_seq | apply Aw_block | apply Aw_skip | apply Aw_exit | refine Aw_condt rfl ?_ | refine Aw_condf rfl ?_ | ((first | refine qr ?_ | refine qd (by kernel_rfl) (by kernel_rfl) ?_); simp only [go_sem, jE, reduceIte, jA, jM, jS, jL, jD, jB, g1]) | refine dk (by kernel_rfl) ?_)
    exact Aw_ret (retL (M := [0]) (.inl rfl) (by simp only [go_sem, jE, reduceIte, jA, jM, jS, jL, jD, jB]; first | done | rfl) rfl rfl (by rfl) (by simp only [go_sem, jE, reduceIte, jA, jM, jS, jL, jD, jB]; first | done | rfl | (and_intros <;> rfl)) (by decide) (by unfold idM; decide))
theorem hasLate_ac (s : Sto) (r : List Ent) (hl : r.length ≤ 1099511627776) : AC Tryz.prog 108 [runT r, .c (.fn 109 [.ph 0 0 0])] (hpL [some (stO s)]) 1 ⟨.t (bT (decide (0 ≤ lateI s r))), hpL [some (stO s)], 1⟩ := by
  refine AC_of Tryz.func108 rfl Tryz.ntmps108 Tryz.results108 (by kernel_rfl) rfl ?_
  simp only [List.zipIdx, List.map, Nat.zero_add, Nat.reduceAdd]
  repeat (first | apply Aw_seq | apply Aw_block | apply Aw_skip | apply Aw_exit | refine Aw_condt rfl ?_ | refine Aw_condf rfl ?_ | ((first | refine qr ?_ | refine qd (by kernel_rfl) (by kernel_rfl) ?_); simp only [go_sem, jE, reduceIte, jA, jM, jS, jL, jD, jB]) | refine dk (by kernel_rfl) ?_ | (refine qx (call_L (N' := [0]) (L := []) (indexLate_ac s r hl) rfl (.cons (.nm rfl) (.cons (.nm rfl) (.nil))) (by decide) (by decide) (by decide) (by simp only [go_sem, jE, reduceIte, jA, jM, jS, jL, jD, jB]; first | done | rfl) (.inl rfl) rfl (by decide)) (by simp only [go_sem, jE, reduceIte, jA, jM, jS, jL, jD, jB]; first | done | rfl) rfl (by simp only [go_sem, Nat.reduceLT]) ?_; simp only [go_sem, jE, reduceIte, jA, jM, jS, jL, jD, jB]))
  exact Aw_ret (retL (M := [0]) (.inl rfl) (by simp only [go_sem, jE, reduceIte, jA, jM, jS, jL, jD, jB]; first | done | rfl) rfl rfl (by rfl) (by simp only [go_sem, jE, reduceIte, jA, jM, jS, jL, jD, jB]; first | done | rfl | (and_intros <;> rfl)) (by decide) (by unfold idM; decide))
set_option maxHeartbeats 8000000
@[go_sem] theorem d_l11 (e k : Nat) (a0 b0 : D) : (⟨e, k, true, [[.d a0], [.d b0]]⟩ : Obj) = dRow e k [[a0], [b0]] := rfl
structure SmSt (s : Sto) : Prop where
  top : SmR s.top
  lev : ∀ r ∈ s.levels, SmR r
  ll : s.levels.length ≤ 1099511627776
  sl : s.sieves.length ≤ 1099511627776
  rl : ∀ x ∈ s.sieves, x.rests.length ≤ 1099511627776
  tl : s.times.length ≤ 1099511627776
/-- A level, and its sieve. -/
def lvM (keep : Int) (i : Nat) (r : List Ent) (x : Sve) : Bool := runOk r && decide (r.length ≤ 8 * (i + 1)) && (sieveM (keysM r) keep).isSome && sveEq ((sieveM (keysM r) keep).getD zSve) x
theorem skeysOfS_ac (r : List Ent) (hs : SmR r) : AC Tryz.prog 61 [runT r] noHp 0 ⟨.t (strsT (keysM r)), noHp, 0⟩ := AC.settle0 [0] (skeysOf_ac r hs) (SetC.row0 rfl rfl) rfl
def headM (s : Sto) : Bool := decide (s.levels.length = 3) && decide (s.sieves.length = 3) && runOk s.top && decide (s.top.length ≤ 4) && inB 0 s.time 999 && timesM s.times s.time
theorem keysM_sub {r : List Ent} : ∀ k ∈ keysM r, ∃ e ∈ r, e.key = k := by
  intro k hk
  unfold keysM colI at hk
  obtain ⟨i, hi, hk⟩ := List.mem_flatMap.1 hk
  unfold keyAt at hk
  cases hr : r[i]? with
  | none => rw [hr] at hk; simp at hk
  | some e =>
    rw [hr] at hk
    refine ⟨e, List.mem_of_getElem? hr, ?_⟩
    simp only [] at hk
    split at hk
    · exact (List.mem_singleton.1 hk).symm
    · split at hk
      · split at hk
        · simp at hk
        · exact (List.mem_singleton.1 hk).symm
      · exact (List.mem_singleton.1 hk).symm
theorem smS_keys {r : List Ent} (hs : SmR r) : SmS (keysM r) := by
  refine ⟨?_, fun k hk => ?_⟩
  · have := colI_len (n := r.length) (keyAt_len r)
    have h2 := hs.len
    unfold keysM; omega
  · obtain ⟨e, he, rfl⟩ := keysM_sub k hk
    exact hs.key e he
theorem bfs_len {keep : Nat} : ∀ (n : Nat) (q : List (List ByteArray × Nat)), (∀ f ∈ q, Fork f) → (bfs keep n q).rests.length ≤ wts q
  | 0, q, _ => by simp [bfs, zPut]
  | n + 1, [], _ => by simp [bfs, zPut]
  | n + 1, f :: q, h => by
    have hff := h f (by simp)
    have ih := bfs_len (keep := keep) n (q ++ (node keep f).kids) fun g hg => by
      rcases List.mem_append.1 hg with hg | hg
      · exact h g (List.mem_cons_of_mem _ hg)
      · exact node_fork hff g hg
    have rb := runs_b keep f.2 hff.dep 49 (spl f.2 f.1)
    rw [spl_flat f.2 _ f.1 (Nat.le_refl _)] at rb
    have rl := (runs_len keep f.2 49 (spl f.2 f.1)).1
    have e1 : (node keep f).rests.length + wts (node keep f).kids < wt f := by unfold node wt; omega
    simp only [bfs, Put.add, List.length_append]
    rw [wts_app] at ih
    rw [wts_cons]
    omega
theorem sieveM_len {ks : List ByteArray} {keep : Int} {z : Sve} (h : sieveM ks keep = some z) : z.rests.length ≤ 1099511627776 := by
  unfold sieveM at h
  split at h
  · rename_i hc
    obtain ⟨hl, hf, _⟩ := ksOk_iff hc.1
    have h0 := rest0 (keep := keep.toNat) hf hl
    have e := Option.some.inj h
    rw [← e]
    show (bfsF keep.toNat [(ks, 0)]).rests.length ≤ _
    have hb := bfs_len (keep := keep.toNat) (wts [(ks, 0)]) [(ks, 0)] fun f hf' => by rw [List.mem_singleton.1 hf']; exact hf
    have e2 : wts [(ks, 0)] ≤ 200 := by rw [wts_one]; unfold wt; simp only []; omega
    unfold bfsF
    omega
  · cases h
theorem l12Level_ac (s : Sto) (i : Nat) (r : List Ent) (x : Sve) (hi : i ≤ 1000) (hr : s.levels[i]? = some r) (hx : s.sieves[i]? = some x) (hsr : SmR r) : AC Tryz.prog 88 [stT s, iT i] noHp 0 ⟨.t (bT (lvM s.keep i r x)), noHp, 0⟩ := by
  refine AC_of Tryz.func88 rfl Tryz.ntmps88 Tryz.results88 (by kernel_rfl) rfl ?_
  simp only [List.zipIdx, List.map, Nat.zero_add, Nat.reduceAdd]
  have k1 := skeysOfS_ac r hsr
  have k3 := srunOk_ac r hsr
  have k4 := l12Size_ac i hi
  cases a1 : runOk r
  · rw [a1] at k3
    have e : lvM s.keep i r x = false := by unfold lvM; rw [a1]; rfl
    rw [e]
    repeat (first | apply Aw_seq | apply Aw_block | apply Aw_skip | apply Aw_exit | refine Aw_condt rfl ?_ | refine Aw_condf rfl ?_ | ((first | refine qr ?_ | refine qd (by kernel_rfl) (by kernel_rfl) ?_); simp only [go_sem, jE, reduceIte, jA, jM, jS, jL, jD, jB, hr]) | refine dk (by kernel_rfl) ?_ | (refine qp (k3) (by simp only [go_sem, jE, reduceIte, jA, jM, jS, jL, jD, jB, hr]; first | done | rfl) rfl (by simp only [go_sem, Nat.reduceLT]) rfl rfl ?_; simp only [go_sem, jE, reduceIte, jA, jM, jS, jL, jD, jB, hr]))
    exact Aw_ret (ret0 (.inl rfl) (by simp only [go_sem, jE, reduceIte, jA, jM, jS, jL, jD, jB]; rfl) (by rfl) rfl)
  rw [a1] at k3
  cases a2 : decide (((8 * (i + 1) : Nat) : Int) < (r.length : Int))
  case true =>
    have e : lvM s.keep i r x = false := by unfold lvM; rw [decide_eq_false (by have := of_decide_eq_true a2; omega : ¬ r.length ≤ 8 * (i + 1))]; simp
    rw [e]
    repeat (first | apply Aw_seq | apply Aw_block | apply Aw_skip | apply Aw_exit | refine Aw_condt rfl ?_ | refine Aw_condf rfl ?_ | ((first | refine qr ?_ | refine qd (by kernel_rfl) (by kernel_rfl) ?_); simp only [go_sem, jE, reduceIte, jA, jM, jS, jL, jD, jB, hr, a2]) | refine dk (by kernel_rfl) ?_ | (refine qp (k3) (by simp only [go_sem, jE, reduceIte, jA, jM, jS, jL, jD, jB, hr, a2]; first | done | rfl) rfl (by simp only [go_sem, Nat.reduceLT]) rfl rfl ?_; simp only [go_sem, jE, reduceIte, jA, jM, jS, jL, jD, jB, hr, a2]) | (refine qp (k4) (by simp only [go_sem, jE, reduceIte, jA, jM, jS, jL, jD, jB, hr, a2]; first | done | rfl) rfl (by simp only [go_sem, Nat.reduceLT]) rfl rfl ?_; simp only [go_sem, jE, reduceIte, jA, jM, jS, jL, jD, jB, hr, a2]))
    exact Aw_ret (ret0 (.inl rfl) (by simp only [go_sem, jE, reduceIte, jA, jM, jS, jL, jD, jB]; rfl) (by rfl) rfl)
  have hrl : r.length ≤ 8 * (i + 1) := by have := of_decide_eq_false a2; omega
  have k2 := ssieveS_ac (keysM r) s.keep (smS_keys hsr)
  obtain ⟨y, hy⟩ : ∃ y, y = (sieveM (keysM r) s.keep).getD zSve := ⟨_, rfl⟩
  rw [← hy] at k2
  have hyl : y.rests.length ≤ 1099511627776 := by
    rw [hy]
    cases hm : sieveM (keysM r) s.keep with
    | none => simp [zSve]
    | some z => exact sieveM_len hm
  have k5 := l3Sames_ac y.rests x.rests hyl
  have e : lvM s.keep i r x = ((sieveM (keysM r) s.keep).isSome && sveEq y x) := by unfold lvM; rw [← hy, a1, decide_eq_true hrl]; rfl
  rw [e]
  cases a3 : (sieveM (keysM r) s.keep).isSome
  · rw [a3] at k2
    repeat (first | apply Aw_seq | apply Aw_block | apply Aw_skip | apply Aw_exit | refine Aw_condt rfl ?_ | refine Aw_condf rfl ?_ | ((first | refine qr ?_ | refine qd (by kernel_rfl) (by kernel_rfl) ?_); simp only [go_sem, jE, reduceIte, jA, jM, jS, jL, jD, jB, hr, hx, a2]) | refine dk (by kernel_rfl) ?_ | (refine qp (k1) (by simp only [go_sem, jE, reduceIte, jA, jM, jS, jL, jD, jB, hr, hx, a2]; first | done | rfl) rfl (by simp only [go_sem, Nat.reduceLT]) rfl rfl ?_; simp only [go_sem, jE, reduceIte, jA, jM, jS, jL, jD, jB, hr, hx, a2]) | (refine qp (k2) (by simp only [go_sem, jE, reduceIte, jA, jM, jS, jL, jD, jB, hr, hx, a2]; first | done | rfl) rfl (by simp only [go_sem, Nat.reduceLT]) rfl rfl ?_; simp only [go_sem, jE, reduceIte, jA, jM, jS, jL, jD, jB, hr, hx, a2]) | (refine qp (k3) (by simp only [go_sem, jE, reduceIte, jA, jM, jS, jL, jD, jB, hr, hx, a2]; first | done | rfl) rfl (by simp only [go_sem, Nat.reduceLT]) rfl rfl ?_; simp only [go_sem, jE, reduceIte, jA, jM, jS, jL, jD, jB, hr, hx, a2]) | (refine qp (k4) (by simp only [go_sem, jE, reduceIte, jA, jM, jS, jL, jD, jB, hr, hx, a2]; first | done | rfl) rfl (by simp only [go_sem, Nat.reduceLT]) rfl rfl ?_; simp only [go_sem, jE, reduceIte, jA, jM, jS, jL, jD, jB, hr, hx, a2]))
    exact Aw_ret (ret0 (.inl rfl) (by simp only [go_sem, jE, reduceIte, jA, jM, jS, jL, jD, jB]; rfl) (by rfl) rfl)
  rw [a3] at k2
  cases c1 : decide (y.letters = x.letters)
  · repeat (first | apply Aw_seq | apply Aw_block | apply Aw_skip | apply Aw_exit | refine Aw_condt rfl ?_ | refine Aw_condf rfl ?_ | ((first | refine qr ?_ | refine qd (by kernel_rfl) (by kernel_rfl) ?_); simp only [go_sem, jE, reduceIte, jA, jM, jS, jL, jD, jB, hr, hx, a2, c1]) | refine dk (by kernel_rfl) ?_ | (refine qp (k1) (by simp only [go_sem, jE, reduceIte, jA, jM, jS, jL, jD, jB, hr, hx, a2, c1]; first | done | rfl) rfl (by simp only [go_sem, Nat.reduceLT]) rfl rfl ?_; simp only [go_sem, jE, reduceIte, jA, jM, jS, jL, jD, jB, hr, hx, a2, c1]) | (refine qp (k2) (by simp only [go_sem, jE, reduceIte, jA, jM, jS, jL, jD, jB, hr, hx, a2, c1]; first | done | rfl) rfl (by simp only [go_sem, Nat.reduceLT]) rfl rfl ?_; simp only [go_sem, jE, reduceIte, jA, jM, jS, jL, jD, jB, hr, hx, a2, c1]) | (refine qp (k3) (by simp only [go_sem, jE, reduceIte, jA, jM, jS, jL, jD, jB, hr, hx, a2, c1]; first | done | rfl) rfl (by simp only [go_sem, Nat.reduceLT]) rfl rfl ?_; simp only [go_sem, jE, reduceIte, jA, jM, jS, jL, jD, jB, hr, hx, a2, c1]) | (refine qp (k4) (by simp only [go_sem, jE, reduceIte, jA, jM, jS, jL, jD, jB, hr, hx, a2, c1]; first | done | rfl) rfl (by simp only [go_sem, Nat.reduceLT]) rfl rfl ?_; simp only [go_sem, jE, reduceIte, jA, jM, jS, jL, jD, jB, hr, hx, a2, c1]))
    exact Aw_ret (ret0 (.inl rfl) (by simp only [go_sem, jE, reduceIte, jA, jM, jS, jL, jD, jB]; rfl) (by unfold sveEq; simp [c1]) rfl)
  cases c2 : decide (y.more = x.more)
  · repeat (first | apply Aw_seq | apply Aw_block | apply Aw_skip | apply Aw_exit | refine Aw_condt rfl ?_ | refine Aw_condf rfl ?_ | ((first | refine qr ?_ | refine qd (by kernel_rfl) (by kernel_rfl) ?_); simp only [go_sem, jE, reduceIte, jA, jM, jS, jL, jD, jB, hr, hx, a2, c1, c2]) | refine dk (by kernel_rfl) ?_ | (refine qp (k1) (by simp only [go_sem, jE, reduceIte, jA, jM, jS, jL, jD, jB, hr, hx, a2, c1, c2]; first | done | rfl) rfl (by simp only [go_sem, Nat.reduceLT]) rfl rfl ?_; simp only [go_sem, jE, reduceIte, jA, jM, jS, jL, jD, jB, hr, hx, a2, c1, c2]) | (refine qp (k2) (by simp only [go_sem, jE, reduceIte, jA, jM, jS, jL, jD, jB, hr, hx, a2, c1, c2]; first | done | rfl) rfl (by simp only [go_sem, Nat.reduceLT]) rfl rfl ?_; simp only [go_sem, jE, reduceIte, jA, jM, jS, jL, jD, jB, hr, hx, a2, c1, c2]) | (refine qp (k3) (by simp only [go_sem, jE, reduceIte, jA, jM, jS, jL, jD, jB, hr, hx, a2, c1, c2]; first | done | rfl) rfl (by simp only [go_sem, Nat.reduceLT]) rfl rfl ?_; simp only [go_sem, jE, reduceIte, jA, jM, jS, jL, jD, jB, hr, hx, a2, c1, c2]) | (refine qp (k4) (by simp only [go_sem, jE, reduceIte, jA, jM, jS, jL, jD, jB, hr, hx, a2, c1, c2]; first | done | rfl) rfl (by simp only [go_sem, Nat.reduceLT]) rfl rfl ?_; simp only [go_sem, jE, reduceIte, jA, jM, jS, jL, jD, jB, hr, hx, a2, c1, c2]))
    exact Aw_ret (ret0 (.inl rfl) (by simp only [go_sem, jE, reduceIte, jA, jM, jS, jL, jD, jB]; rfl) (by unfold sveEq; simp [c1, c2]) rfl)
  cases c3 : decide (y.first = x.first)
  · repeat (first | apply Aw_seq | apply Aw_block | apply Aw_skip | apply Aw_exit | refine Aw_condt rfl ?_ | refine Aw_condf rfl ?_ | ((first | refine qr ?_ | refine qd (by kernel_rfl) (by kernel_rfl) ?_); simp only [go_sem, jE, reduceIte, jA, jM, jS, jL, jD, jB, hr, hx, a2, c1, c2, c3]) | refine dk (by kernel_rfl) ?_ | (refine qp (k1) (by simp only [go_sem, jE, reduceIte, jA, jM, jS, jL, jD, jB, hr, hx, a2, c1, c2, c3]; first | done | rfl) rfl (by simp only [go_sem, Nat.reduceLT]) rfl rfl ?_; simp only [go_sem, jE, reduceIte, jA, jM, jS, jL, jD, jB, hr, hx, a2, c1, c2, c3]) | (refine qp (k2) (by simp only [go_sem, jE, reduceIte, jA, jM, jS, jL, jD, jB, hr, hx, a2, c1, c2, c3]; first | done | rfl) rfl (by simp only [go_sem, Nat.reduceLT]) rfl rfl ?_; simp only [go_sem, jE, reduceIte, jA, jM, jS, jL, jD, jB, hr, hx, a2, c1, c2, c3]) | (refine qp (k3) (by simp only [go_sem, jE, reduceIte, jA, jM, jS, jL, jD, jB, hr, hx, a2, c1, c2, c3]; first | done | rfl) rfl (by simp only [go_sem, Nat.reduceLT]) rfl rfl ?_; simp only [go_sem, jE, reduceIte, jA, jM, jS, jL, jD, jB, hr, hx, a2, c1, c2, c3]) | (refine qp (k4) (by simp only [go_sem, jE, reduceIte, jA, jM, jS, jL, jD, jB, hr, hx, a2, c1, c2, c3]; first | done | rfl) rfl (by simp only [go_sem, Nat.reduceLT]) rfl rfl ?_; simp only [go_sem, jE, reduceIte, jA, jM, jS, jL, jD, jB, hr, hx, a2, c1, c2, c3]))
    exact Aw_ret (ret0 (.inl rfl) (by simp only [go_sem, jE, reduceIte, jA, jM, jS, jL, jD, jB]; rfl) (by unfold sveEq; simp [c1, c2, c3]) rfl)
  cases c4 : decide (y.keep = x.keep)
  · repeat (first | apply Aw_seq | apply Aw_block | apply Aw_skip | apply Aw_exit | refine Aw_condt rfl ?_ | refine Aw_condf rfl ?_ | ((first | refine qr ?_ | refine qd (by kernel_rfl) (by kernel_rfl) ?_); simp only [go_sem, jE, reduceIte, jA, jM, jS, jL, jD, jB, hr, hx, a2, c1, c2, c3, c4]) | refine dk (by kernel_rfl) ?_ | (refine qp (k1) (by simp only [go_sem, jE, reduceIte, jA, jM, jS, jL, jD, jB, hr, hx, a2, c1, c2, c3, c4]; first | done | rfl) rfl (by simp only [go_sem, Nat.reduceLT]) rfl rfl ?_; simp only [go_sem, jE, reduceIte, jA, jM, jS, jL, jD, jB, hr, hx, a2, c1, c2, c3, c4]) | (refine qp (k2) (by simp only [go_sem, jE, reduceIte, jA, jM, jS, jL, jD, jB, hr, hx, a2, c1, c2, c3, c4]; first | done | rfl) rfl (by simp only [go_sem, Nat.reduceLT]) rfl rfl ?_; simp only [go_sem, jE, reduceIte, jA, jM, jS, jL, jD, jB, hr, hx, a2, c1, c2, c3, c4]) | (refine qp (k3) (by simp only [go_sem, jE, reduceIte, jA, jM, jS, jL, jD, jB, hr, hx, a2, c1, c2, c3, c4]; first | done | rfl) rfl (by simp only [go_sem, Nat.reduceLT]) rfl rfl ?_; simp only [go_sem, jE, reduceIte, jA, jM, jS, jL, jD, jB, hr, hx, a2, c1, c2, c3, c4]) | (refine qp (k4) (by simp only [go_sem, jE, reduceIte, jA, jM, jS, jL, jD, jB, hr, hx, a2, c1, c2, c3, c4]; first | done | rfl) rfl (by simp only [go_sem, Nat.reduceLT]) rfl rfl ?_; simp only [go_sem, jE, reduceIte, jA, jM, jS, jL, jD, jB, hr, hx, a2, c1, c2, c3, c4]))
    exact Aw_ret (ret0 (.inl rfl) (by simp only [go_sem, jE, reduceIte, jA, jM, jS, jL, jD, jB]; rfl) (by unfold sveEq; simp [c1, c2, c3, c4]) rfl)
  repeat (first | apply Aw_seq | apply Aw_block | apply Aw_skip | apply Aw_exit | refine Aw_condt rfl ?_ | refine Aw_condf rfl ?_ | ((first | refine qr ?_ | refine qd (by kernel_rfl) (by kernel_rfl) ?_); simp only [go_sem, jE, reduceIte, jA, jM, jS, jL, jD, jB, hr, hx, a2, c1, c2, c3, c4]) | refine dk (by kernel_rfl) ?_ | (refine qp (k1) (by simp only [go_sem, jE, reduceIte, jA, jM, jS, jL, jD, jB, hr, hx, a2, c1, c2, c3, c4]; first | done | rfl) rfl (by simp only [go_sem, Nat.reduceLT]) rfl rfl ?_; simp only [go_sem, jE, reduceIte, jA, jM, jS, jL, jD, jB, hr, hx, a2, c1, c2, c3, c4]) | (refine qp (k2) (by simp only [go_sem, jE, reduceIte, jA, jM, jS, jL, jD, jB, hr, hx, a2, c1, c2, c3, c4]; first | done | rfl) rfl (by simp only [go_sem, Nat.reduceLT]) rfl rfl ?_; simp only [go_sem, jE, reduceIte, jA, jM, jS, jL, jD, jB, hr, hx, a2, c1, c2, c3, c4]) | (refine qp (k3) (by simp only [go_sem, jE, reduceIte, jA, jM, jS, jL, jD, jB, hr, hx, a2, c1, c2, c3, c4]; first | done | rfl) rfl (by simp only [go_sem, Nat.reduceLT]) rfl rfl ?_; simp only [go_sem, jE, reduceIte, jA, jM, jS, jL, jD, jB, hr, hx, a2, c1, c2, c3, c4]) | (refine qp (k4) (by simp only [go_sem, jE, reduceIte, jA, jM, jS, jL, jD, jB, hr, hx, a2, c1, c2, c3, c4]; first | done | rfl) rfl (by simp only [go_sem, Nat.reduceLT]) rfl rfl ?_; simp only [go_sem, jE, reduceIte, jA, jM, jS, jL, jD, jB, hr, hx, a2, c1, c2, c3, c4]) | (refine qp (k5) (by simp only [go_sem, jE, reduceIte, jA, jM, jS, jL, jD, jB, hr, hx, a2, c1, c2, c3, c4]; first | done | rfl) rfl (by simp only [go_sem, Nat.reduceLT]) rfl rfl ?_; simp only [go_sem, jE, reduceIte, jA, jM, jS, jL, jD, jB, hr, hx, a2, c1, c2, c3, c4]))
  exact Aw_ret (ret0 (.inl rfl) (by simp only [go_sem, jE, reduceIte, jA, jM, jS, jL, jD, jB]; rfl) (by unfold sveEq; simp [c1, c2, c3, c4]) rfl)
def sPair (s : Sto) (i k : Nat) : Bool := match s.levels[i]?, s.levels[k]? with
  | some r, some b => newestM r b s.time
  | _, _ => true
def sAt (s : Sto) (i : Nat) : Bool := (match s.levels[i]?, s.sieves[i]? with
  | some r, some x => lvM s.keep i r x && newestM s.top r s.time
  | _, _ => true) && allI 3 (fun k => decide (k ≤ i) || sPair s i k)
def headS (s : Sto) : Bool := decide (s.levels.length = 3) && decide (s.sieves.length = 3) && inB 0 s.keep 5 && inB 0 s.time 999 && timesM s.times s.time && runOk s.top && decide (s.top.length ≤ 4)
def storeS (s : Sto) : Bool := headS s && allI 3 (sAt s)
theorem sstoreOk_ac (s : Sto) (hs : SmSt s) : AC Tryz.prog 48 [stT s] noHp 0 ⟨.t (bT (storeS s)), noHp, 0⟩ := by
  refine AC_of Tryz.func48 rfl Tryz.ntmps48 Tryz.results48 (by kernel_rfl) rfl ?_
  simp only [List.zipIdx, List.map, Nat.zero_add, Nat.reduceAdd]
  cases c1 : decide ((s.levels.length : Int) = 3)
  · repeat (first | apply Aw_seq | apply Aw_block | apply Aw_skip | apply Aw_exit | refine Aw_condt rfl ?_ | refine Aw_condf rfl ?_ | ((first | refine qr ?_ | refine qd (by kernel_rfl) (by kernel_rfl) ?_); simp only [go_sem, jE, reduceIte, jA, jM, jS, jL, jD, jB, c1]) | refine dk (by kernel_rfl) ?_)
    exact Aw_ret (ret0 (.inl rfl) (by simp only [go_sem, jE, reduceIte, jA, jM, jS, jL, jD, jB]; rfl) (by unfold storeS headS; rw [decide_eq_false (by have := of_decide_eq_false c1; omega : ¬ s.levels.length = 3)]; rfl) rfl)
  cases c2 : decide ((s.sieves.length : Int) = 3)
  · repeat (first | apply Aw_seq | apply Aw_block | apply Aw_skip | apply Aw_exit | refine Aw_condt rfl ?_ | refine Aw_condf rfl ?_ | ((first | refine qr ?_ | refine qd (by kernel_rfl) (by kernel_rfl) ?_); simp only [go_sem, jE, reduceIte, jA, jM, jS, jL, jD, jB, c1, c2]) | refine dk (by kernel_rfl) ?_)
    exact Aw_ret (ret0 (.inl rfl) (by simp only [go_sem, jE, reduceIte, jA, jM, jS, jL, jD, jB]; rfl) (by unfold storeS headS; rw [decide_eq_false (by have := of_decide_eq_false c2; omega : ¬ s.sieves.length = 3)]; simp) rfl)
  cases c0 : inB 0 s.keep 5
  · repeat (first | apply Aw_seq | apply Aw_block | apply Aw_skip | apply Aw_exit | refine Aw_condt rfl ?_ | refine Aw_condf rfl ?_ | ((first | refine qr ?_ | refine qd (by kernel_rfl) (by kernel_rfl) ?_); simp only [go_sem, jE, reduceIte, jA, jM, jS, jL, jD, jB, c1, c2, c0]) | refine dk (by kernel_rfl) ?_ | (refine qp (l6In_ac _ _ _) (by simp only [go_sem, jE, reduceIte, jA, jM, jS, jL, jD, jB, c1, c2, c0]; first | done | rfl) rfl (by simp only [go_sem, Nat.reduceLT]) rfl rfl ?_; simp only [go_sem, jE, reduceIte, jA, jM, jS, jL, jD, jB, c1, c2, c0]))
    exact Aw_ret (ret0 (.inl rfl) (by simp only [go_sem, jE, reduceIte, jA, jM, jS, jL, jD, jB]; rfl) (by unfold storeS headS; simp [c0]) rfl)
  cases c5 : inB 0 s.time 999
  · repeat (first | apply Aw_seq | apply Aw_block | apply Aw_skip | apply Aw_exit | refine Aw_condt rfl ?_ | refine Aw_condf rfl ?_ | ((first | refine qr ?_ | refine qd (by kernel_rfl) (by kernel_rfl) ?_); simp only [go_sem, jE, reduceIte, jA, jM, jS, jL, jD, jB, c1, c2, c0, c5]) | refine dk (by kernel_rfl) ?_ | (refine qp (l6In_ac _ _ _) (by simp only [go_sem, jE, reduceIte, jA, jM, jS, jL, jD, jB, c1, c2, c0, c5]; first | done | rfl) rfl (by simp only [go_sem, Nat.reduceLT]) rfl rfl ?_; simp only [go_sem, jE, reduceIte, jA, jM, jS, jL, jD, jB, c1, c2, c0, c5]))
    exact Aw_ret (ret0 (.inl rfl) (by simp only [go_sem, jE, reduceIte, jA, jM, jS, jL, jD, jB]; rfl) (by unfold storeS headS; simp [c5]) rfl)
  cases c6 : timesM s.times s.time
  · repeat (first | apply Aw_seq | apply Aw_block | apply Aw_skip | apply Aw_exit | refine Aw_condt rfl ?_ | refine Aw_condf rfl ?_ | ((first | refine qr ?_ | refine qd (by kernel_rfl) (by kernel_rfl) ?_); simp only [go_sem, jE, reduceIte, jA, jM, jS, jL, jD, jB, c1, c2, c0, c5, c6]) | refine dk (by kernel_rfl) ?_ | (refine qp (l6In_ac _ _ _) (by simp only [go_sem, jE, reduceIte, jA, jM, jS, jL, jD, jB, c1, c2, c0, c5, c6]; first | done | rfl) rfl (by simp only [go_sem, Nat.reduceLT]) rfl rfl ?_; simp only [go_sem, jE, reduceIte, jA, jM, jS, jL, jD, jB, c1, c2, c0, c5, c6]) | (refine qp (l12Times_ac _ _ hs.tl) (by simp only [go_sem, jE, reduceIte, jA, jM, jS, jL, jD, jB, c1, c2, c0, c5, c6]; first | done | rfl) rfl (by simp only [go_sem, Nat.reduceLT]) rfl rfl ?_; simp only [go_sem, jE, reduceIte, jA, jM, jS, jL, jD, jB, c1, c2, c0, c5, c6]))
    exact Aw_ret (ret0 (.inl rfl) (by simp only [go_sem, jE, reduceIte, jA, jM, jS, jL, jD, jB]; rfl) (by unfold storeS headS; simp [c6]) rfl)
  cases c3 : runOk s.top
  · repeat (first | apply Aw_seq | apply Aw_block | apply Aw_skip | apply Aw_exit | refine Aw_condt rfl ?_ | refine Aw_condf rfl ?_ | ((first | refine qr ?_ | refine qd (by kernel_rfl) (by kernel_rfl) ?_); simp only [go_sem, jE, reduceIte, jA, jM, jS, jL, jD, jB, c1, c2, c0, c5, c6, c3]) | refine dk (by kernel_rfl) ?_ | (refine qp (l6In_ac _ _ _) (by simp only [go_sem, jE, reduceIte, jA, jM, jS, jL, jD, jB, c1, c2, c0, c5, c6, c3]; first | done | rfl) rfl (by simp only [go_sem, Nat.reduceLT]) rfl rfl ?_; simp only [go_sem, jE, reduceIte, jA, jM, jS, jL, jD, jB, c1, c2, c0, c5, c6, c3]) | (refine qp (l12Times_ac _ _ hs.tl) (by simp only [go_sem, jE, reduceIte, jA, jM, jS, jL, jD, jB, c1, c2, c0, c5, c6, c3]; first | done | rfl) rfl (by simp only [go_sem, Nat.reduceLT]) rfl rfl ?_; simp only [go_sem, jE, reduceIte, jA, jM, jS, jL, jD, jB, c1, c2, c0, c5, c6, c3]) | (refine qp (srunOk_ac _ hs.top) (by simp only [go_sem, jE, reduceIte, jA, jM, jS, jL, jD, jB, c1, c2, c0, c5, c6, c3]; first | done | rfl) rfl (by simp only [go_sem, Nat.reduceLT]) rfl rfl ?_; simp only [go_sem, jE, reduceIte, jA, jM, jS, jL, jD, jB, c1, c2, c0, c5, c6, c3]))
    exact Aw_ret (ret0 (.inl rfl) (by simp only [go_sem, jE, reduceIte, jA, jM, jS, jL, jD, jB]; rfl) (by unfold storeS headS; simp [c3]) rfl)
  cases c4 : decide ((4 : Int) < (s.top.length : Int))
  case true =>
    repeat (first | apply Aw_seq | apply Aw_block | apply Aw_skip | apply Aw_exit | refine Aw_condt rfl ?_ | refine Aw_condf rfl ?_ | ((first | refine qr ?_ | refine qd (by kernel_rfl) (by kernel_rfl) ?_); simp only [go_sem, jE, reduceIte, jA, jM, jS, jL, jD, jB, c1, c2, c0, c5, c6, c3, c4]) | refine dk (by kernel_rfl) ?_ | (refine qp (l6In_ac _ _ _) (by simp only [go_sem, jE, reduceIte, jA, jM, jS, jL, jD, jB, c1, c2, c0, c5, c6, c3, c4]; first | done | rfl) rfl (by simp only [go_sem, Nat.reduceLT]) rfl rfl ?_; simp only [go_sem, jE, reduceIte, jA, jM, jS, jL, jD, jB, c1, c2, c0, c5, c6, c3, c4]) | (refine qp (l12Times_ac _ _ hs.tl) (by simp only [go_sem, jE, reduceIte, jA, jM, jS, jL, jD, jB, c1, c2, c0, c5, c6, c3, c4]; first | done | rfl) rfl (by simp only [go_sem, Nat.reduceLT]) rfl rfl ?_; simp only [go_sem, jE, reduceIte, jA, jM, jS, jL, jD, jB, c1, c2, c0, c5, c6, c3, c4]) | (refine qp (srunOk_ac _ hs.top) (by simp only [go_sem, jE, reduceIte, jA, jM, jS, jL, jD, jB, c1, c2, c0, c5, c6, c3, c4]; first | done | rfl) rfl (by simp only [go_sem, Nat.reduceLT]) rfl rfl ?_; simp only [go_sem, jE, reduceIte, jA, jM, jS, jL, jD, jB, c1, c2, c0, c5, c6, c3, c4]))
    exact Aw_ret (ret0 (.inl rfl) (by simp only [go_sem, jE, reduceIte, jA, jM, jS, jL, jD, jB]; rfl) (by unfold storeS headS; rw [decide_eq_false (by have := of_decide_eq_true c4; omega : ¬ s.top.length ≤ 4)]; simp) rfl)
  repeat (first | apply Aw_seq | apply Aw_block | apply Aw_skip | apply Aw_exit | refine Aw_condt rfl ?_ | refine Aw_condf rfl ?_ | ((first | refine qr ?_ | refine qd (by kernel_rfl) (by kernel_rfl) ?_); simp only [go_sem, jE, reduceIte, jA, jM, jS, jL, jD, jB, c1, c2, c0, c5, c6, c3, c4]) | refine dk (by kernel_rfl) ?_ | (refine qp (l6In_ac _ _ _) (by simp only [go_sem, jE, reduceIte, jA, jM, jS, jL, jD, jB, c1, c2, c0, c5, c6, c3, c4]; first | done | rfl) rfl (by simp only [go_sem, Nat.reduceLT]) rfl rfl ?_; simp only [go_sem, jE, reduceIte, jA, jM, jS, jL, jD, jB, c1, c2, c0, c5, c6, c3, c4]) | (refine qp (l12Times_ac _ _ hs.tl) (by simp only [go_sem, jE, reduceIte, jA, jM, jS, jL, jD, jB, c1, c2, c0, c5, c6, c3, c4]; first | done | rfl) rfl (by simp only [go_sem, Nat.reduceLT]) rfl rfl ?_; simp only [go_sem, jE, reduceIte, jA, jM, jS, jL, jD, jB, c1, c2, c0, c5, c6, c3, c4]) | (refine qp (srunOk_ac _ hs.top) (by simp only [go_sem, jE, reduceIte, jA, jM, jS, jL, jD, jB, c1, c2, c0, c5, c6, c3, c4]; first | done | rfl) rfl (by simp only [go_sem, Nat.reduceLT]) rfl rfl ?_; simp only [go_sem, jE, reduceIte, jA, jM, jS, jL, jD, jB, c1, c2, c0, c5, c6, c3, c4]))
  have d1 : s.levels.length = 3 := by have := of_decide_eq_true c1; omega
  have d2 : s.sieves.length = 3 := by have := of_decide_eq_true c2; omega
  have d4 : s.top.length ≤ 4 := by have := of_decide_eq_false c4; omega
  have hh : headS s = true := by
    unfold headS
    rw [decide_eq_true d1, decide_eq_true d2, decide_eq_true d4, c0, c3, c5, c6]; rfl
  refine Aw.rw (rwL (l' := [(3, .t (iT (0 : Nat))), (1, .t (.c (.ph 0 0 0)))]) (os := [some (stO s)]) (M := [0]) (n' := 1) (by repeat (first | exact trivial | refine ⟨rfl, rfl, ?_⟩)) (by rfl) (by simp only [go_sem, jE, reduceIte, jA, jM, jS, jL, jD, jB]; first | done | rfl) (by decide) (by unfold idM; decide)) ?_
  refine Aw_loop_rw (ι := { i : Nat // i ≤ 3 ∧ ∀ j, j < i → sAt s j = true }) (fun i => S [(3, .t (iT (i.1 : Nat))), (1, .t (.c (.ph 0 0 0)))] (hpL [some (stO s)]) 1) (fun i => 3 - i.1) ⟨0, by omega, fun j hj => absurd hj (by omega)⟩ ?_
  rintro ⟨i, hi, hp⟩
  dsimp only
  by_cases hlt : i < 3
  · have h1 : decide ((i : Int) < 3) = true := decide_eq_true (by omega)
    have h2 := wrap_succ (m := 3) hlt (by omega)
    obtain ⟨r, hr⟩ : ∃ r, s.levels[i]? = some r := ⟨_, List.getElem?_eq_getElem (by omega)⟩
    obtain ⟨x, hx⟩ : ∃ x, s.sieves[i]? = some x := ⟨_, List.getElem?_eq_getElem (by omega)⟩
    have hsr := hs.lev r (List.mem_of_getElem? hr)
    have k1 := l12Level_ac s i r x (by omega) hr hx hsr
    have k2 := l12Newest_ac s.top r s.time hs.top.len hsr
    have bad : sAt s i = false → storeS s = false := fun h => by unfold storeS; rw [allI_f (i := i) hlt h, Bool.and_false]
    have hat : sAt s i = (lvM s.keep i r x && newestM s.top r s.time && allI 3 (fun k => decide (k ≤ i) || sPair s i k)) := by unfold sAt; rw [hr, hx]
    cases a1 : lvM s.keep i r x
    · rw [a1] at k1
      rw [bad (by rw [hat, a1]; rfl)]
      repeat (first | apply Aw_seq | apply Aw_block | apply Aw_skip | apply Aw_exit | refine Aw_condt rfl ?_ | refine Aw_condf rfl ?_ | ((first | refine qr ?_ | refine qd (by kernel_rfl) (by kernel_rfl) ?_); simp only [go_sem, jE, reduceIte, jA, jM, jS, jL, jD, jB, h1, hr]) | refine dk (by kernel_rfl) ?_ | (refine qp (k1) (by simp only [go_sem, jE, reduceIte, jA, jM, jS, jL, jD, jB, h1, hr]; first | done | rfl) rfl (by simp only [go_sem, Nat.reduceLT]) rfl rfl ?_; simp only [go_sem, jE, reduceIte, jA, jM, jS, jL, jD, jB, h1, hr]))
      exact Aw_ret (ret0 (.inl rfl) (by simp only [go_sem, jE, reduceIte, jA, jM, jS, jL, jD, jB]; rfl) (by rfl) rfl)
    rw [a1] at k1
    cases a2 : newestM s.top r s.time
    · rw [a2] at k2
      rw [bad (by rw [hat, a2]; simp)]
      repeat (first | apply Aw_seq | apply Aw_block | apply Aw_skip | apply Aw_exit | refine Aw_condt rfl ?_ | refine Aw_condf rfl ?_ | ((first | refine qr ?_ | refine qd (by kernel_rfl) (by kernel_rfl) ?_); simp only [go_sem, jE, reduceIte, jA, jM, jS, jL, jD, jB, h1, hr]) | refine dk (by kernel_rfl) ?_ | (refine qp (k1) (by simp only [go_sem, jE, reduceIte, jA, jM, jS, jL, jD, jB, h1, hr]; first | done | rfl) rfl (by simp only [go_sem, Nat.reduceLT]) rfl rfl ?_; simp only [go_sem, jE, reduceIte, jA, jM, jS, jL, jD, jB, h1, hr]) | (refine qp (k2) (by simp only [go_sem, jE, reduceIte, jA, jM, jS, jL, jD, jB, h1, hr]; first | done | rfl) rfl (by simp only [go_sem, Nat.reduceLT]) rfl rfl ?_; simp only [go_sem, jE, reduceIte, jA, jM, jS, jL, jD, jB, h1, hr]))
      exact Aw_ret (ret0 (.inl rfl) (by simp only [go_sem, jE, reduceIte, jA, jM, jS, jL, jD, jB]; rfl) (by rfl) rfl)
    rw [a2] at k2
    repeat (first | apply Aw_seq | apply Aw_block | apply Aw_skip | apply Aw_exit | refine Aw_condt rfl ?_ | refine Aw_condf rfl ?_ | ((first | refine qr ?_ | refine qd (by kernel_rfl) (by kernel_rfl) ?_); simp only [go_sem, jE, reduceIte, jA, jM, jS, jL, jD, jB, h1, hr, h2]) | refine dk (by kernel_rfl) ?_ | (refine qp (k1) (by simp only [go_sem, jE, reduceIte, jA, jM, jS, jL, jD, jB, h1, hr, h2]; first | done | rfl) rfl (by simp only [go_sem, Nat.reduceLT]) rfl rfl ?_; simp only [go_sem, jE, reduceIte, jA, jM, jS, jL, jD, jB, h1, hr, h2]) | (refine qp (k2) (by simp only [go_sem, jE, reduceIte, jA, jM, jS, jL, jD, jB, h1, hr, h2]; first | done | rfl) rfl (by simp only [go_sem, Nat.reduceLT]) rfl rfl ?_; simp only [go_sem, jE, reduceIte, jA, jM, jS, jL, jD, jB, h1, hr, h2]))
    refine Aw.rw (rwL (l' := [(4, .t (iT ((i + 1 : Nat) : Int))), (3, .t (iT (i : Nat))), (1, .t (.c (.ph 0 0 0)))]) (os := [some (stO s)]) (M := [0]) (n' := 1) (by repeat (first | exact trivial | refine ⟨rfl, rfl, ?_⟩)) (by rfl) (by simp only [go_sem, jE, reduceIte, jA, jM, jS, jL, jD, jB]; first | done | rfl) (by decide) (by unfold idM; decide)) ?_
    refine Aw_loop_rw (ι := { k : Nat // k ≤ 3 ∧ i < k ∧ ∀ q, i < q → q < k → sPair s i q = true }) (fun k => S [(4, .t (iT (k.1 : Nat))), (3, .t (iT (i : Nat))), (1, .t (.c (.ph 0 0 0)))] (hpL [some (stO s)]) 1) (fun k => 3 - k.1) ⟨i + 1, by omega, by omega, fun q h1 h2 => absurd h1 (by omega)⟩ ?_
    rintro ⟨k, hk, hik, hq⟩
    dsimp only
    by_cases hkl : k < 3
    · have g1 : decide ((k : Int) < 3) = true := decide_eq_true (by omega)
      have g2 := wrap_succ (m := 3) hkl (by omega)
      obtain ⟨b, hb⟩ : ∃ b, s.levels[k]? = some b := ⟨_, List.getElem?_eq_getElem (by omega)⟩
      have k3 := l12Newest_ac r b s.time hsr.len (hs.lev b (List.mem_of_getElem? hb))
      have hpr : sPair s i k = newestM r b s.time := by unfold sPair; rw [hr, hb]
      cases a3 : newestM r b s.time
      · rw [a3] at k3
        rw [bad (by rw [hat, allI_f (i := k) hkl (by rw [hpr, a3, decide_eq_false (by omega)]; rfl), Bool.and_false])]
        repeat (first | apply Aw_seq | apply Aw_block | apply Aw_skip | apply Aw_exit | refine Aw_condt rfl ?_ | refine Aw_condf rfl ?_ | ((first | refine qr ?_ | refine qd (by kernel_rfl) (by kernel_rfl) ?_); simp only [go_sem, jE, reduceIte, jA, jM, jS, jL, jD, jB, g1, hr, hb]) | refine dk (by kernel_rfl) ?_ | (refine qp (k3) (by simp only [go_sem, jE, reduceIte, jA, jM, jS, jL, jD, jB, g1, hr, hb]; first | done | rfl) rfl (by simp only [go_sem, Nat.reduceLT]) rfl rfl ?_; simp only [go_sem, jE, reduceIte, jA, jM, jS, jL, jD, jB, g1, hr, hb]))
        exact Aw_ret (ret0 (.inl rfl) (by simp only [go_sem, jE, reduceIte, jA, jM, jS, jL, jD, jB]; rfl) (by rfl) rfl)
      · rw [a3] at k3
        repeat (first | apply Aw_seq | apply Aw_block | apply Aw_skip | apply Aw_exit | refine Aw_condt rfl ?_ | refine Aw_condf rfl ?_ | ((first | refine qr ?_ | refine qd (by kernel_rfl) (by kernel_rfl) ?_); simp only [go_sem, jE, reduceIte, jA, jM, jS, jL, jD, jB, g1, hr, hb, g2]) | refine dk (by kernel_rfl) ?_ | (refine qp (k3) (by simp only [go_sem, jE, reduceIte, jA, jM, jS, jL, jD, jB, g1, hr, hb, g2]; first | done | rfl) rfl (by simp only [go_sem, Nat.reduceLT]) rfl rfl ?_; simp only [go_sem, jE, reduceIte, jA, jM, jS, jL, jD, jB, g1, hr, hb, g2]))
        refine ⟨⟨k + 1, by omega, by omega, fun q q1 q2 => by rcases Nat.lt_succ_iff_lt_or_eq.1 q2 with h | rfl; exact hq q q1 h; rw [hpr, a3]⟩, [0], ?_, rwL (by repeat (first | exact trivial | refine ⟨rfl, rfl, ?_⟩)) (by rfl) (by simp only [go_sem, jE, reduceIte, jA, jM, jS, jL, jD, jB]; first | done | rfl) (by decide) (by unfold idM; decide)⟩
        show 3 - (k + 1) < 3 - k; omega
    · obtain rfl : k = 3 := by omega
      have g1 : decide (((3 : Nat) : Int) < 3) = false := rfl
      have hok : sAt s i = true := by
        rw [hat, a1, a2, allI_t (fun q hq3 => by
          by_cases h : q ≤ i
          · rw [decide_eq_true h]; rfl
          · rw [hq q (by omega) hq3, Bool.or_true])]; rfl
      repeat (first | apply Aw_seq | apply Aw_block | apply Aw_skip | apply Aw_exit | refine Aw_condt rfl ?_ | refine Aw_condf rfl ?_ | ((first | refine qr ?_ | refine qd (by kernel_rfl) (by kernel_rfl) ?_); simp only [go_sem, jE, reduceIte, jA, jM, jS, jL, jD, jB, g1, h2]) | refine dk (by kernel_rfl) ?_)
      refine ⟨⟨i + 1, by omega, fun j hj => by rcases Nat.lt_succ_iff_lt_or_eq.1 hj with h | rfl; exact hp j h; exact hok⟩, [0], ?_, rwL (by repeat (first | exact trivial | refine ⟨rfl, rfl, ?_⟩)) (by rfl) (by simp only [go_sem, jE, reduceIte, jA, jM, jS, jL, jD, jB]; first | done | rfl) (by decide) (by unfold idM; decide)⟩
      show 3 - (i + 1) < 3 - i; omega
  · obtain rfl : i = 3 := by omega
    have h1 : decide (((3 : Nat) : Int) < 3) = false := rfl
    have hall : storeS s = true := by unfold storeS; rw [hh, allI_t hp]; rfl
    rw [hall]
    repeat (first | apply Aw_seq | apply Aw_block | apply Aw_skip | apply Aw_exit | refine Aw_condt rfl ?_ | refine Aw_condf rfl ?_ | ((first | refine qr ?_ | refine qd (by kernel_rfl) (by kernel_rfl) ?_); simp only [go_sem, jE, reduceIte, jA, jM, jS, jL, jD, jB, h1]) | refine dk (by kernel_rfl) ?_)
    exact Aw_ret (ret0 (.inl rfl) (by simp only [go_sem, jE, reduceIte, jA, jM, jS, jL, jD, jB]; rfl) (by rfl) rfl)
theorem len3 {α : Type} {l : List α} (h : l.length = 3) : ∃ a b c, l = [a, b, c] := by
  match l, h with
  | [a, b, c], _ => exact ⟨a, b, c, rfl⟩
inductive NilD : D → D → Prop
  | refl (x : D) : NilD x x
  | nil (k : Nat) : NilD (.s (.slice none 0 0)) (.rs k [])
  | rs {k : Nat} {els els' : List (List D)} (hl : els.length = els'.length) (hk : ∀ (i : Nat) cs cs', els[i]? = some cs → els'[i]? = some cs' → cs.length = cs'.length) (h : ∀ (i j : Nat) cs cs' x y, els[i]? = some cs → els'[i]? = some cs' → cs[j]? = some x → cs'[j]? = some y → NilD x y) : NilD (.rs k els) (.rs k els')
theorem NilD.rep {w : World} {S : Nat → Prop} {x y : D} (h : NilD x y) : ∀ {v : Value}, RepD w S x v → RepD w S y v := by
  induction h with
  | refl x => exact fun h => h
  | nil k =>
    intro v h
    cases h
    exact .rs (A := none) (cap := 0) (fun _ _ => .bool false) (Nat.le_refl _) (Nat.zero_le _) (by simp) (fun i j hi => absurd hi (by simp)) (fun i j cs x hi => by simp at hi)
  | @rs k els els' hl hk h ih =>
    intro v hv
    cases hv with
    | rs vals l1 l2 l3 l4 l5 =>
      rw [hl] at l1 ⊢
      refine .rs vals l1 l2 (fun cs' hcs => ?_) (fun i j hi hj => l4 i j (by omega) hj) (fun i j cs' y hi hj => ?_)
      · obtain ⟨i, hi⟩ := List.mem_iff_getElem?.1 hcs
        have hil := (List.getElem?_eq_some_iff.1 hi).1
        have h1 : els[i]? = some els[i] := List.getElem?_eq_getElem (by omega)
        rw [← hk i _ _ h1 hi]; exact l3 _ (List.mem_of_getElem? h1)
      · have hil := (List.getElem?_eq_some_iff.1 hi).1
        have h1 : els[i]? = some els[i] := List.getElem?_eq_getElem (by omega)
        have hjl := (List.getElem?_eq_some_iff.1 hj).1
        have h2 := hk i _ _ h1 hi
        have h3 : els[i][j]? = some (els[i][j]'(by omega)) := List.getElem?_eq_getElem (by omega)
        exact ih i j _ _ _ _ h1 hi h3 hj (l5 i j _ _ h1 h3)
def NilC (x y : CV) : Prop := x = y ∨ ∃ a b, x = .d a ∧ y = .d b ∧ NilD a b
def NilT : TV → TV → Prop
  | .c x, .c y => NilC x y
  | .agg xs, .agg ys => All2 NilC xs ys
  | _, _ => False
def NilA : AV → AV → Prop
  | .t x, .t y => NilT x y
  | .tup xs, .tup ys => All2 NilT xs ys
  | _, _ => False
theorem NilC.rep {c : Cx} {x y : CV} (h : NilC x y) {v : Value} (hr : RepC c x v) : RepC c y v := by
  rcases h with rfl | ⟨a, b, rfl, rfl, h⟩
  · exact hr
  · exact h.rep hr
theorem NilT.rep {c : Cx} {x y : TV} (h : NilT x y) {v : Value} (hr : RepT c x v) : RepT c y v := by
  cases x with
  | c x => cases y with
    | c y => exact NilC.rep h hr
    | agg _ => exact h.elim
  | agg xs => cases y with
    | c _ => exact h.elim
    | agg ys =>
      obtain ⟨vs, e, hv⟩ := hr
      exact ⟨vs, e, all2_rep (R := NilC) (T' := RepC c) (fun _ _ _ h1 h2 => NilC.rep h1 h2) h hv⟩
theorem NilA.rep {c : Cx} {x y : AV} (h : NilA x y) {v : Value} (hr : RepA c x v) : RepA c y v := by
  cases x with
  | dead => cases y <;> exact h.elim
  | t x => cases y with
    | t y => exact NilT.rep h hr
    | _ => exact h.elim
  | tup xs => cases y with
    | tup ys =>
      obtain ⟨vs, e, hv⟩ := hr
      exact ⟨vs, e, all2_rep (R := NilT) (T' := RepT c) (fun _ _ _ h1 h2 => NilT.rep h1 h2) h hv⟩
    | _ => exact h.elim
theorem AC.nilR {P : Program} {f : FuncId} {args : List TV} {hp hp' : Hp} {k n : Nat} {x y : AV} (h : AC P f args hp k ⟨x, hp', n⟩) (hx : NilA x y) : AC P f args hp k ⟨y, hp', n⟩ :=
  ⟨h.1, fun c vs g hU hA => Calls.mono (h.2 c vs g hU hA) fun e w' ⟨v, c', h1, h2, h3, h4, h5, h6⟩ => ⟨v, c', h1, h2, h3, h4, hx.rep h5, h6⟩⟩
theorem AC.nilL {P : Program} {f : FuncId} {args args' : List TV} {hp : Hp} {k : Nat} {out : Out} (h : AC P f args' hp k out) (hx : All2 NilT args args') : AC P f args hp k out :=
  ⟨h.1, fun c vs g hU hA => h.2 c vs g hU (all2_rep (R := NilT) (T' := RepT c) (fun _ _ _ h1 h2 => NilT.rep h1 h2) hx hA)⟩
theorem NilT.refl (x : TV) : NilT x x := by
  cases x with
  | c x => exact .inl rfl
  | agg xs => exact All2.of_get rfl fun i a b ha hb => by rw [ha] at hb; exact .inl (Option.some.inj hb)
theorem NilC.nil (k : Nat) : NilC (.d (.s (.slice none 0 0))) (.d (.rs k [])) := .inr ⟨_, _, rfl, rfl, .nil k⟩
theorem iref (a : Int) : decide (a = a) = true := decide_eq_true rfl
theorem sref (a : ByteArray) : decide (a = a) = true := decide_eq_true rfl
theorem bref (a : Bool) : (a == a) = true := by cases a <;> rfl
def zSto : Sto := ⟨[], [], [], 0, 0, []⟩
theorem t3 : Int.toNat 3 = 3 := rfl
theorem AC.setL {P : Program} {f : FuncId} {args : List TV} {hp : Hp} {k : Nat} {x y : AV} {os os' : List (Option Obj)} {n : Nat} (L : List Nat) (h : AC P f args hp k ⟨x, hpL os, n⟩) (hr : SetA (hpL os) L x y) (hs : SubL L 0 os os') : AC P f args hp k ⟨y, hpL os', n⟩ :=
  AC.settle h hr (fun m o' hm => by
    obtain ⟨h1, h2⟩ := subL_get hs m o' hm
    exact ⟨by simpa using h1, o', h2, .inl rfl⟩) (Nat.le_refl n)
def svRow (l : List Sve) : Obj := dRow 82 5 (l.map sveD)
@[go_sem] theorem r_svRow (l : List Sve) : svRow l = dRow 82 5 (l.map sveD) := rfl
theorem AC.toL {P : Program} {f : FuncId} {args : List TV} {x : AV} (h : AC P f args noHp 0 ⟨x, noHp, 0⟩) : AC P f args noHp 0 ⟨x, hpL [], 0⟩ := by rw [hpL_nil]; exact h
theorem wn {x : Int} {m : Nat} (e : x = (m : Int)) (h : m ≤ 1099511627776) : IntKind.i64.wrap x = (m : Int) := by rw [e]; exact wrap_nat h
theorem sbitsOk_ac (s : ByteArray) (hl : s.size ≤ 400) (hb : ∀ b ∈ s.data.toList, b = 49 ∨ b = 48) : AC Tryz.prog 163 [sT s] noHp 0 ⟨.t (bT true), noHp, 0⟩ := by
  refine AC_of Tryz.func163 rfl Tryz.ntmps163 Tryz.results163 (by kernel_rfl) rfl ?_
  simp only [List.zipIdx, List.map, Nat.zero_add, Nat.reduceAdd]
  repeat (first | apply Aw_seq | apply Aw_block | apply Aw_skip | apply Aw_exit | refine Aw_condt rfl ?_ | refine Aw_condf rfl ?_ | ((first | refine qr ?_ | refine qd (by kernel_rfl) (by kernel_rfl) ?_); simp only [go_sem, jE, reduceIte, jA, jM, jS, jL, jD, jB]) | refine dk (by kernel_rfl) ?_)
  refine Aw.rw (rwL (l' := [(3, .t (iT (0 : Nat))), (0, .t (sT s))]) (os := []) (M := []) (n' := 0) (by repeat (first | exact trivial | refine ⟨rfl, rfl, ?_⟩)) (by rfl) (by simp only [go_sem, jE, reduceIte, jA, jM, jS, jL, jD, jB]; first | done | rfl) (by decide) (by unfold idM; decide)) ?_
  refine Aw_loop_rw (ι := { i : Nat // i ≤ s.size }) (fun q => S [(3, .t (iT (q.1 : Nat))), (0, .t (sT s))] (hpL []) 0) (fun q => s.size - q.1) ⟨0, Nat.zero_le _⟩ ?_
  rintro ⟨i, hi⟩
  dsimp only
  by_cases hlt : i < s.size
  · have g1 : decide ((i : Int) < (s.size : Int)) = true := decide_eq_true (by omega)
    have w1 := wrap_succ hlt (by omega)
    have h3 : ∀ hp, ixB hp s i = _ := fun hp => ixB_ok hlt
    have hm : s[i] ∈ s.data.toList := by show s.data[i] ∈ _; exact Array.mem_toList_iff.2 (Array.getElem_mem _)
    rcases hb _ hm with c | c
    · have g2 : decide (((s[i].toNat : Nat) : Int) = 48) = false := by rw [c]; rfl
      have g3 : decide (((s[i].toNat : Nat) : Int) = 49) = true := by rw [c]; rfl
      repeat (first | apply Aw_seq | apply Aw_block | apply Aw_skip | apply Aw_exit | refine Aw_condt rfl ?_ | refine Aw_condf rfl ?_ | ((first | refine qr ?_ | refine qd (by kernel_rfl) (by kernel_rfl) ?_); simp only [go_sem, jE, reduceIte, jA, jM, jS, jL, jD, jB, g1, h3, g2, g3, w1]) | refine dk (by kernel_rfl) ?_)
      refine ⟨⟨i + 1, hlt⟩, [], ?_, rwL (by repeat (first | exact trivial | refine ⟨rfl, rfl, ?_⟩)) (by rfl) (by simp only [go_sem, jE, reduceIte, jA, jM, jS, jL, jD, jB]; first | done | rfl) (by decide) (by unfold idM; decide)⟩
      show s.size - (i + 1) < s.size - i; omega
    · have g2 : decide (((s[i].toNat : Nat) : Int) = 48) = true := by rw [c]; rfl
      repeat (first | apply Aw_seq | apply Aw_block | apply Aw_skip | apply Aw_exit | refine Aw_condt rfl ?_ | refine Aw_condf rfl ?_ | ((first | refine qr ?_ | refine qd (by kernel_rfl) (by kernel_rfl) ?_); simp only [go_sem, jE, reduceIte, jA, jM, jS, jL, jD, jB, g1, h3, g2, w1]) | refine dk (by kernel_rfl) ?_)
      refine ⟨⟨i + 1, hlt⟩, [], ?_, rwL (by repeat (first | exact trivial | refine ⟨rfl, rfl, ?_⟩)) (by rfl) (by simp only [go_sem, jE, reduceIte, jA, jM, jS, jL, jD, jB]; first | done | rfl) (by decide) (by unfold idM; decide)⟩
      show s.size - (i + 1) < s.size - i; omega
  · have g1 : decide ((i : Int) < (s.size : Int)) = false := decide_eq_false (by omega)
    have g4 : decide ((s.size : Int) ≤ 400) = true := decide_eq_true (by omega)
    repeat (first | apply Aw_seq | apply Aw_block | apply Aw_skip | apply Aw_exit | refine Aw_condt rfl ?_ | refine Aw_condf rfl ?_ | ((first | refine qr ?_ | refine qd (by kernel_rfl) (by kernel_rfl) ?_); simp only [go_sem, jE, reduceIte, jA, jM, jS, jL, jD, jB, g1, g4]) | refine dk (by kernel_rfl) ?_)
    exact Aw_ret (ret0 (.inl rfl) (by simp only [go_sem, jE, reduceIte, jA, jM, jS, jL, jD, jB]; rfl) (by rfl) rfl)
theorem count_take_succ {l : List UInt8} {i : Nat} {b : UInt8} (h : l[i]? = some b) : (l.take (i + 1)).count 49 = (l.take i).count 49 + (if b = 49 then 1 else 0) := by
  rw [List.take_add_one, h, List.count_append]
  by_cases c : b = 49 <;> simp [c]
def cntO (l : List UInt8) (i : Nat) : Nat := (l.take i).count 49
theorem cntO_0 (l : List UInt8) : cntO l 0 = 0 := rfl
theorem ones_ac (s : ByteArray) (at_ : Nat) (hl : s.size ≤ 400) (ha : at_ ≤ s.size) : AC Tryz.prog 141 [sT s, iT at_] noHp 0 ⟨.t (iT (cntO s.data.toList at_ : Nat)), noHp, 0⟩ := by
  have hsl : s.data.toList.length = s.size := Array.length_toList
  refine AC_of Tryz.func141 rfl Tryz.ntmps141 Tryz.results141 (by kernel_rfl) rfl ?_
  simp only [List.zipIdx, List.map, Nat.zero_add, Nat.reduceAdd]
  repeat (first | apply Aw_seq | apply Aw_block | apply Aw_skip | apply Aw_exit | refine Aw_condt rfl ?_ | refine Aw_condf rfl ?_ | ((first | refine qr ?_ | refine qd (by kernel_rfl) (by kernel_rfl) ?_); simp only [go_sem, jE, reduceIte, jA, jM, jS, jL, jD, jB]) | refine dk (by kernel_rfl) ?_)
  refine Aw.rw (rwL (l' := [(6, .t (iT (0 : Nat))), (5, .t (iT (cntO s.data.toList 0 : Nat))), (1, .t (iT at_)), (0, .t (sT s))]) (os := []) (M := []) (n' := 0) (by repeat (first | exact trivial | refine ⟨rfl, rfl, ?_⟩)) (by rfl) (by simp only [go_sem, jE, reduceIte, jA, jM, jS, jL, jD, jB, cntO_0]; first | done | rfl) (by decide) (by unfold idM; decide)) ?_
  refine Aw_loop_rw (ι := { i : Nat // i ≤ at_ }) (fun q => S [(6, .t (iT (q.1 : Nat))), (5, .t (iT (cntO s.data.toList q.1 : Nat))), (1, .t (iT at_)), (0, .t (sT s))] (hpL []) 0) (fun q => at_ - q.1) ⟨0, Nat.zero_le _⟩ ?_
  rintro ⟨i, hi⟩
  dsimp only
  by_cases hlt : i < at_
  · have g1 : decide ((i : Int) < (at_ : Int)) = true := decide_eq_true (by omega)
    have g2 : decide ((i : Int) < (s.size : Int)) = true := decide_eq_true (by omega)
    have w1 := wrap_succ (i := i) (m := s.size) (by omega) (by omega)
    have his : i < s.size := by omega
    have h3 : ∀ hp, ixB hp s i = _ := fun hp => ixB_ok his
    have hg : s.data.toList[i]? = some s[i] := by rw [List.getElem?_eq_getElem (by omega)]; rfl
    have hc : cntO s.data.toList (i + 1) = cntO s.data.toList i + (if s[i] = 49 then 1 else 0) := count_take_succ hg
    have hle : cntO s.data.toList i ≤ i := by
      have := List.count_le_length (a := (49 : UInt8)) (l := s.data.toList.take i)
      rw [List.length_take] at this
      unfold cntO; omega
    by_cases c : s[i] = 49
    · rw [if_pos c] at hc
      have g3 : decide (((s[i].toNat : Nat) : Int) = 49) = true := by rw [c]; rfl
      have w2 : IntKind.i64.wrap ((cntO s.data.toList i : Int) + 1) = ((cntO s.data.toList i + 1 : Nat) : Int) := wn (by omega) (by omega)
      repeat (first | apply Aw_seq | apply Aw_block | apply Aw_skip | apply Aw_exit | refine Aw_condt rfl ?_ | refine Aw_condf rfl ?_ | ((first | refine qr ?_ | refine qd (by kernel_rfl) (by kernel_rfl) ?_); simp only [go_sem, jE, reduceIte, jA, jM, jS, jL, jD, jB, g1, g2, h3, g3, w1, w2]) | refine dk (by kernel_rfl) ?_)
      refine ⟨⟨i + 1, hlt⟩, [], ?_, ?_⟩
      rotate_left
      dsimp only
      rw [hc]
      exact rwL (by repeat (first | exact trivial | refine ⟨rfl, rfl, ?_⟩)) (by rfl) (by simp only [go_sem, jE, reduceIte, jA, jM, jS, jL, jD, jB]; first | done | rfl) (by decide) (by unfold idM; decide)
      show at_ - (i + 1) < at_ - i; omega
    · rw [if_neg c, Nat.add_zero] at hc
      have g3 : decide (((s[i].toNat : Nat) : Int) = 49) = false := decide_eq_false fun e => c (UInt8.toNat_inj.1 (Int.ofNat.inj e))
      repeat (first | apply Aw_seq | apply Aw_block | apply Aw_skip | apply Aw_exit | refine Aw_condt rfl ?_ | refine Aw_condf rfl ?_ | ((first | refine qr ?_ | refine qd (by kernel_rfl) (by kernel_rfl) ?_); simp only [go_sem, jE, reduceIte, jA, jM, jS, jL, jD, jB, g1, g2, h3, g3, w1]) | refine dk (by kernel_rfl) ?_)
      refine ⟨⟨i + 1, hlt⟩, [], ?_, ?_⟩
      rotate_left
      dsimp only
      rw [hc]
      exact rwL (by repeat (first | exact trivial | refine ⟨rfl, rfl, ?_⟩)) (by rfl) (by simp only [go_sem, jE, reduceIte, jA, jM, jS, jL, jD, jB]; first | done | rfl) (by decide) (by unfold idM; decide)
      show at_ - (i + 1) < at_ - i; omega
  · have g1 : decide ((i : Int) < (at_ : Int)) = false := decide_eq_false (by omega)
    obtain rfl : i = at_ := by omega
    repeat (first | apply Aw_seq | apply Aw_block | apply Aw_skip | apply Aw_exit | refine Aw_condt rfl ?_ | refine Aw_condf rfl ?_ | ((first | refine qr ?_ | refine qd (by kernel_rfl) (by kernel_rfl) ?_); simp only [go_sem, jE, reduceIte, jA, jM, jS, jL, jD, jB, g1]) | refine dk (by kernel_rfl) ?_)
    exact Aw_ret (ret0 (.inl rfl) (by simp only [go_sem, jE, reduceIte, jA, jM, jS, jL, jD, jB]; rfl) (by rfl) rfl)
def oneN (l : List UInt8) (n : Nat) : Nat := (posOne l n).getD l.length
structure SoneI (l : List UInt8) (R : Nat) where
  i : Nat
  n : Nat
  hi : i ≤ l.length
  hn : n ≤ 1000
  h : i + oneN (l.drop i) n = R
theorem sone_ac (s : ByteArray) (n : Nat) (hl : s.size ≤ 400) (hn : n ≤ 1000) : AC Tryz.prog 100 [sT s, iT n] noHp 0 ⟨.t (iT (oneN s.data.toList n : Nat)), noHp, 0⟩ := by
  have hsl : s.data.toList.length = s.size := Array.length_toList
  obtain ⟨R, hR⟩ : ∃ R, R = oneN s.data.toList n := ⟨_, rfl⟩
  rw [← hR]
  refine AC_of Tryz.func100 rfl Tryz.ntmps100 Tryz.results100 (by kernel_rfl) rfl ?_
  simp only [List.zipIdx, List.map, Nat.zero_add, Nat.reduceAdd]
  repeat (first | apply Aw_seq | apply Aw_block | apply Aw_skip | apply Aw_exit | refine Aw_condt rfl ?_ | refine Aw_condf rfl ?_ | ((first | refine qr ?_ | refine qd (by kernel_rfl) (by kernel_rfl) ?_); simp only [go_sem, jE, reduceIte, jA, jM, jS, jL, jD, jB]) | refine dk (by kernel_rfl) ?_)
  refine Aw.rw (rwL (l' := [(5, .t (iT (0 : Nat))), (1, .t (iT n)), (0, .t (sT s))]) (os := []) (M := []) (n' := 0) (by repeat (first | exact trivial | refine ⟨rfl, rfl, ?_⟩)) (by rfl) (by simp only [go_sem, jE, reduceIte, jA, jM, jS, jL, jD, jB]; first | done | rfl) (by decide) (by unfold idM; decide)) ?_
  refine Aw_loop_rw (ι := SoneI s.data.toList R) (fun q => S [(5, .t (iT (q.i : Nat))), (1, .t (iT q.n)), (0, .t (sT s))] (hpL []) 0) (fun q => s.size - q.i) ⟨0, n, Nat.zero_le _, hn, by rw [hR]; simp⟩ ?_
  clear hR
  rintro ⟨i, m, hi, hm, h⟩
  dsimp only
  by_cases hlt : i < s.size
  · have g1 : decide ((i : Int) < (s.size : Int)) = true := decide_eq_true (by omega)
    have w1 := wrap_succ hlt (by omega)
    have h3 : ∀ hp, ixB hp s i = _ := fun hp => ixB_ok hlt
    have hd : s.data.toList.drop i = s[i] :: s.data.toList.drop (i + 1) := by
      rw [List.drop_eq_getElem_cons (by omega)]; rfl
    rw [hd] at h
    by_cases c1 : s[i] = 49
    · have g2 : decide (((s[i].toNat : Nat) : Int) = 49) = true := by rw [c1]; rfl
      cases m with
      | zero =>
        have e1 : R = i := by rw [← h]; simp [oneN, posOne, c1]
        subst e1
        have g3 : decide (((0 : Nat) : Int) = 0) = true := rfl
        repeat (first | apply Aw_seq | apply Aw_block | apply Aw_skip | apply Aw_exit | refine Aw_condt rfl ?_ | refine Aw_condf rfl ?_ | ((first | refine qr ?_ | refine qd (by kernel_rfl) (by kernel_rfl) ?_); simp only [go_sem, jE, reduceIte, jA, jM, jS, jL, jD, jB, g1, h3, g2, g3]) | refine dk (by kernel_rfl) ?_)
        exact Aw_ret (ret0 (.inl rfl) (by simp only [go_sem, jE, reduceIte, jA, jM, jS, jL, jD, jB]; rfl) (by rfl) rfl)
      | succ m =>
        have g3 : decide (((m + 1 : Nat) : Int) = 0) = false := decide_eq_false (by omega)
        have w2 : IntKind.i64.wrap (((m + 1 : Nat) : Int) - 1) = (m : Int) := wn (by omega) (by omega)
        have e1 : (i + 1) + oneN (s.data.toList.drop (i + 1)) m = R := by
          rw [← h]; unfold oneN; simp only [posOne]; rw [if_pos c1]
          cases posOne (s.data.toList.drop (i + 1)) m with
          | none => simp; omega
          | some v => simp; omega
        repeat (first | apply Aw_seq | apply Aw_block | apply Aw_skip | apply Aw_exit | refine Aw_condt rfl ?_ | refine Aw_condf rfl ?_ | ((first | refine qr ?_ | refine qd (by kernel_rfl) (by kernel_rfl) ?_); simp only [go_sem, jE, reduceIte, jA, jM, jS, jL, jD, jB, g1, w1, h3, g2, g3, w2]) | refine dk (by kernel_rfl) ?_)
        refine ⟨⟨i + 1, m, by omega, by omega, e1⟩, [], ?_, rwL (by repeat (first | exact trivial | refine ⟨rfl, rfl, ?_⟩)) (by rfl) (by simp only [go_sem, jE, reduceIte, jA, jM, jS, jL, jD, jB]; first | done | rfl) (by decide) (by unfold idM; decide)⟩
        show s.size - (i + 1) < s.size - i; omega
    · have g2 : decide (((s[i].toNat : Nat) : Int) = 49) = false := decide_eq_false (fun e => c1 (UInt8.toNat_inj.1 (Int.ofNat.inj e)))
      have e1 : (i + 1) + oneN (s.data.toList.drop (i + 1)) m = R := by
        rw [← h]; unfold oneN; simp only [posOne]; rw [if_neg c1]
        cases posOne (s.data.toList.drop (i + 1)) m with
        | none => simp; omega
        | some v => simp; omega
      repeat (first | apply Aw_seq | apply Aw_block | apply Aw_skip | apply Aw_exit | refine Aw_condt rfl ?_ | refine Aw_condf rfl ?_ | ((first | refine qr ?_ | refine qd (by kernel_rfl) (by kernel_rfl) ?_); simp only [go_sem, jE, reduceIte, jA, jM, jS, jL, jD, jB, g1, w1, h3, g2]) | refine dk (by kernel_rfl) ?_)
      refine ⟨⟨i + 1, m, by omega, by omega, e1⟩, [], ?_, rwL (by repeat (first | exact trivial | refine ⟨rfl, rfl, ?_⟩)) (by rfl) (by simp only [go_sem, jE, reduceIte, jA, jM, jS, jL, jD, jB]; first | done | rfl) (by decide) (by unfold idM; decide)⟩
      show s.size - (i + 1) < s.size - i; omega
  · have g1 : decide ((i : Int) < (s.size : Int)) = false := decide_eq_false (by omega)
    have e1 : R = s.size := by rw [← h, List.drop_of_length_le (by omega)]; simp [oneN, posOne]; omega
    subst e1
    repeat (first | apply Aw_seq | apply Aw_block | apply Aw_skip | apply Aw_exit | refine Aw_condt rfl ?_ | refine Aw_condf rfl ?_ | ((first | refine qr ?_ | refine qd (by kernel_rfl) (by kernel_rfl) ?_); simp only [go_sem, jE, reduceIte, jA, jM, jS, jL, jD, jB, g1]) | refine dk (by kernel_rfl) ?_)
    exact Aw_ret (ret0 (.inl rfl) (by simp only [go_sem, jE, reduceIte, jA, jM, jS, jL, jD, jB]; rfl) (by rfl) rfl)
theorem fks_queue {keep : Nat} : ∀ (n : Nat) (q : List (List ByteArray × Nat)) (m : Nat), m < (fks keep n q).length → m < q.length + (((fks keep n q).take m).flatMap fun f => (node keep f).kids).length
  | 0, q, m, h => by simp [fks] at h
  | n + 1, [], m, h => by simp [fks] at h
  | n + 1, f :: q, 0, h => by simp
  | n + 1, f :: q, m + 1, h => by
    simp only [fks, List.length_cons] at h
    have ih := fks_queue (keep := keep) n (q ++ (node keep f).kids) m (by omega)
    simp only [fks, List.take_succ_cons, List.flatMap_cons, List.length_append, List.length_cons] at ih ⊢
    omega
theorem kids_count (keep : Nat) (F : List (List ByteArray × Nat)) : (F.flatMap fun f => (node keep f).kids).length = (F.flatMap brs).countP bMul := by
  induction F with
  | nil => rfl
  | cons f F ih =>
    rw [List.flatMap_cons, List.flatMap_cons, List.length_append, List.countP_append, ih, (node_all keep f).2.2.2.2, List.length_map, List.countP_eq_length_filter (l := brs f)]
theorem allB_off (keep : Nat) (ks : List ByteArray) (j : Nat) : (allB keep ks).take (offB keep ks j) = ((allF keep ks).take j).flatMap brs := by
  unfold offB offL allB
  conv => lhs; rw [← List.take_append_drop j (allF keep ks), List.flatMap_append]
  rw [List.take_append_drop, List.take_append_of_le_length (Nat.le_refl _), List.take_length]
theorem off_mono (keep : Nat) (ks : List ByteArray) {i j : Nat} (h : i ≤ j) : offB keep ks i ≤ offB keep ks j := by
  unfold offB offL
  obtain ⟨d, rfl⟩ := Nat.exists_eq_add_of_le h
  rw [List.take_add, List.flatMap_append, List.length_append]; omega
/-- A branch leads to a fork behind its own. -/
theorem kid_gt {keep : Nat} {ks : List ByteArray} (hf : Fork (ks, 0)) {j : Nat} {f : List ByteArray × Nat} (hj : (allF keep ks)[j]? = some f) {t : Nat} {x : Br} (hx : (brs f)[t]? = some x) (hm : bMul x = true) : j < ((allB keep ks).take (offB keep ks j + t + 1)).countP bMul := by
  have hjl := (List.getElem?_eq_some_iff.1 hj).1
  have ht := (List.getElem?_eq_some_iff.1 hx).1
  have h1 := fks_queue (keep := keep) (wts [(ks, 0)]) [(ks, 0)] j hjl
  rw [kids_count] at h1
  have h2 := allB_off keep ks j
  have h3 := br_at hj ht
  rw [hx] at h3
  rw [List.take_add_one, List.countP_append, h3]
  have h4 : ((allB keep ks).take (offB keep ks j)).countP bMul ≤ ((allB keep ks).take (offB keep ks j + t)).countP bMul := by
    rw [List.take_add, List.countP_append]; omega
  have h5 : (some x).toList.countP bMul = 1 := by simp [hm]
  rw [h5]
  rw [h2] at h4
  have h6 : (((allF keep ks).take j).flatMap brs).countP bMul = (((fks keep (wts [(ks, 0)]) [(ks, 0)]).take j).flatMap brs).countP bMul := rfl
  rw [h6] at h4
  simp only [List.length_singleton] at h1
  omega
theorem off_kid {keep : Nat} {ks : List ByteArray} (hf : Fork (ks, 0)) {j : Nat} {f : List ByteArray × Nat} (hj : (allF keep ks)[j]? = some f) {t : Nat} {x : Br} (hx : (brs f)[t]? = some x) (hm : bMul x = true) : offB keep ks j + t < offB keep ks (((allB keep ks).take (offB keep ks j + t + 1)).countP bMul) := by
  have ht := (List.getElem?_eq_some_iff.1 hx).1
  have h := off_mono keep ks (Nat.succ_le_of_lt (kid_gt hf hj hx hm))
  rw [Nat.succ_eq_add_one, off_next hj] at h
  omega
theorem ext_at {s : ByteArray} {i : Nat} {b : UInt8} {hi : i < s.size} (e : s[i] = b) : s.extract i (i + 1) = bs [b] := by
  apply ext_l
  rw [ByteArray.data_extract, Array.toList_extract, bs_l, List.extract_eq_take_drop]
  have h' : i < s.data.toList.length := by rw [size_l] at hi; exact hi
  rw [List.drop_eq_getElem_cons h', show i + 1 - i = 1 by omega]
  show [s.data.toList[i]] = [b]
  rw [← e]; rfl
/-- The branch to which a key leads, by its number, and how deep it stands. -/
def walkN (keep : Nat) (ks : List ByteArray) (k : ByteArray) : Nat → Nat → List ByteArray × Nat → Option (Nat × Nat)
  | 0, _, _ => none
  | n + 1, j, f => match (brs f).findIdx? (fun b => decide (bLet b = lab k f.2)) with
    | none => none
    | some a => match (brs f)[a]? with
      | none => none
      | some x => if bMul x = true then walkN keep ks k n (((allB keep ks).take (offB keep ks j + a + 1)).countP bMul) (bKid x) else some (offB keep ks j + a, f.2)
theorem count_ones (l : List Br) (n : Nat) : ((l.map bMore).take n).count 49 = (l.take n).countP bMul := by
  rw [← List.map_take, (count_more _).1]
theorem not_ones (l : List Br) (n : Nat) (h : n ≤ l.length) : (l.take n).countP bMul + (l.take n).countP (fun b => !bMul b) = n := by
  have e := List.length_eq_countP_add_countP (l := l.take n) bMul
  rw [List.length_take, Nat.min_eq_left h] at e
  have e2 : (l.take n).countP (fun a => decide ¬ bMul a = true) = (l.take n).countP (fun b => !bMul b) := by
    congr 1; funext a; cases bMul a <;> rfl
  rw [e2] at e
  omega
theorem count_bMore (l : List Br) : (l.filter fun b => !bMul b).length + l.countP bMul = l.length := by
  have e := List.length_eq_countP_add_countP (l := l) bMul
  rw [← List.countP_eq_length_filter]
  have e2 : l.countP (fun a => decide ¬ bMul a = true) = l.countP (fun b => !bMul b) := by
    congr 1; funext a; cases bMul a <;> rfl
  rw [e2] at e
  omega
open Go Go.Proofs Go.Shelf
def Tryz.lCount_ren : Go.Shelf.Ren := ⟨fun | 138 => 165 | 195 => 185 | 218 => 186 | 143 => 187 | 219 => 197 | 217 => 200 | 225 => 201 | 224 => 202 | 267 => 203 | 266 => 204 | 314 => 205 | n => n, fun | 9 => 9 | 3 => 3 | 4 => 4 | 5 => 5 | 0 => 0 | 46 => 154 | 146 => 203 | 51 => 184 | n => n, fun | 1 => 0 | n => n⟩
theorem Tryz.lCount : Go.Proofs.Lays.n138 Tryz.prog Tryz.lCount_ren := {
  mixed := by kernel_rfl
  f138 := Tryz.func165.trans (congrArg some (by kernel_rfl))
  f143 := Tryz.func187.trans (congrArg some (by kernel_rfl))
  f195 := Tryz.func185.trans (congrArg some (by kernel_rfl))
  f217 := Tryz.func200.trans (congrArg some (by kernel_rfl))
  f218 := Tryz.func186.trans (congrArg some (by kernel_rfl))
  f219 := Tryz.func197.trans (congrArg some (by kernel_rfl))
  f224 := Tryz.func202.trans (congrArg some (by kernel_rfl))
  f225 := Tryz.func201.trans (congrArg some (by kernel_rfl))
  f266 := Tryz.func204.trans (congrArg some (by kernel_rfl))
  f267 := Tryz.func203.trans (congrArg some (by kernel_rfl))
  f314 := Tryz.func205.trans (congrArg some (by kernel_rfl))
  t0 := Tryz.underlying0
  a0 := Tryz.isAgg0
  z0 := Tryz.sizeOf0
  v0 := Tryz.zeroValue0
  t3 := Tryz.underlying3
  a3 := Tryz.isAgg3
  z3 := Tryz.sizeOf3
  v3 := Tryz.zeroValue3
  t4 := Tryz.underlying4
  a4 := Tryz.isAgg4
  z4 := Tryz.sizeOf4
  v4 := Tryz.zeroValue4
  t5 := Tryz.underlying5
  a5 := Tryz.isAgg5
  z5 := Tryz.sizeOf5
  v5 := Tryz.zeroValue5
  t9 := Tryz.underlying9
  a9 := Tryz.isAgg9
  z9 := Tryz.sizeOf9
  v9 := Tryz.zeroValue9
  t46 := Tryz.underlying154
  a46 := Tryz.isAgg154
  z46 := Tryz.sizeOf154
  v46 := Tryz.zeroValue154
  t51 := Tryz.underlying184
  a51 := Tryz.isAgg184
  z51 := Tryz.sizeOf184
  v51 := Tryz.zeroValue184
  t146 := Tryz.underlying203
  a146 := Tryz.isAgg203
  z146 := Tryz.sizeOf203
  v146 := Tryz.zeroValue203
  g1 := by kernel_rfl }
theorem count_ac (s : ByteArray) (c : UInt8) : AC Tryz.prog 165 [sT s, sT ⟨#[c]⟩] noHp 0 ⟨.t (iT (s.data.toList.count c : Nat)), noHp, 0⟩ := by
  refine ⟨by exact ⟨_, Tryz.func165, rfl, rfl⟩, fun cx vs g hU hA => ?_⟩
  obtain rfl : vs = [.string s, .string ⟨#[c]⟩] := by
    cases hA with
    | cons h1 h2 => cases h2 with
      | cons h2 h3 =>
        cases h3
        have e1 := repD_s h1
        have e2 := repD_s h2
        rw [e1, e2]
  refine (Any.strings_Count_one Tryz.lCount s c cx.w).mono ?_
  rintro e w' ⟨rfl, rfl⟩
  exact ⟨_, cx, rfl, rfl, Tr.refl cx _, g, .s rfl, hU⟩
/-- A text begins with another one. -/
def begB (s h : ByteArray) : Bool := decide (h.size ≤ s.size) && decide (s.extract 0 h.size = h)
theorem hasPre_ac (s h : ByteArray) : AC Tryz.prog 188 [sT s, sT h] noHp 0 ⟨.t (bT (begB s h)), noHp, 0⟩ := by
  refine AC_of Tryz.func188 rfl Tryz.ntmps188 Tryz.results188 (by kernel_rfl) rfl ?_
  simp only [List.zipIdx, List.map, Nat.zero_add, Nat.reduceAdd]
  by_cases c : h.size ≤ s.size
  · have g1 : decide ((h.size : Int) ≤ (s.size : Int)) = true := decide_eq_true (by omega)
    have g2 : ((h.size : Int) ≤ (s.size : Int)) = True := eq_true (by omega)
    have g3 : ((0 : Int) ≤ (h.size : Int)) = True := eq_true (by omega)
    have g4 : Int.toNat ((h.size : Nat) : Int) = h.size := rfl
    have g5 : Int.toNat 0 = 0 := rfl
    unfold begB
    rw [decide_eq_true c, Bool.true_and]
    repeat (first | apply Aw_seq | apply Aw_block | apply Aw_skip | apply Aw_exit | refine Aw_condt rfl ?_ | refine Aw_condf rfl ?_ | ((first | refine qr ?_ | refine qd (by kernel_rfl) (by kernel_rfl) ?_); simp only [go_sem, jE, reduceIte, jA, jM, jS, jL, jD, jB, g1, g2, g3, g4, g5]) | refine dk (by kernel_rfl) ?_)
    exact Aw_ret (ret0 (.inl rfl) (by simp only [go_sem, jE, reduceIte, jA, jM, jS, jL, jD, jB]; rfl) (by rfl) rfl)
  · have g1 : decide ((h.size : Int) ≤ (s.size : Int)) = false := decide_eq_false (by omega)
    unfold begB
    rw [decide_eq_false c, Bool.false_and]
    repeat (first | apply Aw_seq | apply Aw_block | apply Aw_skip | apply Aw_exit | refine Aw_condt rfl ?_ | refine Aw_condf rfl ?_ | ((first | refine qr ?_ | refine qd (by kernel_rfl) (by kernel_rfl) ?_); simp only [go_sem, jE, reduceIte, jA, jM, jS, jL, jD, jB, g1]) | refine dk (by kernel_rfl) ?_)
    exact Aw_ret (ret0 (.inl rfl) (by simp only [go_sem, jE, reduceIte, jA, jM, jS, jL, jD, jB]; rfl) (by rfl) rfl)
theorem hasPrefix_ac (s h : ByteArray) : AC Tryz.prog 168 [sT s, sT h] noHp 0 ⟨.t (bT (begB s h)), noHp, 0⟩ := by
  refine AC_of Tryz.func168 rfl Tryz.ntmps168 Tryz.results168 (by kernel_rfl) rfl ?_
  simp only [List.zipIdx, List.map, Nat.zero_add, Nat.reduceAdd]
  repeat (first | apply Aw_seq | apply Aw_block | apply Aw_skip | apply Aw_exit | refine Aw_condt rfl ?_ | refine Aw_condf rfl ?_ | ((first | refine qr ?_ | refine qd (by kernel_rfl) (by kernel_rfl) ?_); simp only [go_sem, jE, reduceIte, jA, jM, jS, jL, jD, jB]) | refine dk (by kernel_rfl) ?_ | (refine qp (hasPre_ac s h) (by simp only [go_sem, jE, reduceIte, jA, jM, jS, jL, jD, jB]; first | done | rfl) rfl (by simp only [go_sem, Nat.reduceLT]) rfl rfl ?_; simp only [go_sem, jE, reduceIte, jA, jM, jS, jL, jD, jB]))
  exact Aw_ret (ret0 (.inl rfl) (by simp only [go_sem, jE, reduceIte, jA, jM, jS, jL, jD, jB]; rfl) (by rfl) rfl)
theorem keyBegins_ac (s h : ByteArray) : AC Tryz.prog 147 [sT s, sT h] noHp 0 ⟨.t (bT (begB s h)), noHp, 0⟩ := by
  refine AC_of Tryz.func147 rfl Tryz.ntmps147 Tryz.results147 (by kernel_rfl) rfl ?_
  simp only [List.zipIdx, List.map, Nat.zero_add, Nat.reduceAdd]
  repeat (first | apply Aw_seq | apply Aw_block | apply Aw_skip | apply Aw_exit | refine Aw_condt rfl ?_ | refine Aw_condf rfl ?_ | ((first | refine qr ?_ | refine qd (by kernel_rfl) (by kernel_rfl) ?_); simp only [go_sem, jE, reduceIte, jA, jM, jS, jL, jD, jB]) | refine dk (by kernel_rfl) ?_ | (refine qp (hasPrefix_ac s h) (by simp only [go_sem, jE, reduceIte, jA, jM, jS, jL, jD, jB]; first | done | rfl) rfl (by simp only [go_sem, Nat.reduceLT]) rfl rfl ?_; simp only [go_sem, jE, reduceIte, jA, jM, jS, jL, jD, jB]))
  exact Aw_ret (ret0 (.inl rfl) (by simp only [go_sem, jE, reduceIte, jA, jM, jS, jL, jD, jB]; rfl) (by rfl) rfl)
def oneR : Option Nat → Int
  | some p => (p : Int)
  | none => -1
def oneI (l : List UInt8) (n : Nat) : Int := oneR (posOne l n)
structure OneI (l : List UInt8) (R : Option Nat) where
  i : Nat
  n : Nat
  hi : i ≤ l.length
  hn : n ≤ 1000000
  h : (posOne (l.drop i) n).map (· + i) = R
theorem one_ac (s : ByteArray) (n : Nat) (hl : s.size ≤ 1000000) (hn : n ≤ 1000000) : AC Tryz.prog 180 [sT s, iT n] noHp 0 ⟨.t (iT (oneI s.data.toList n)), noHp, 0⟩ := by
  obtain ⟨R, hR⟩ : ∃ R, R = posOne s.data.toList n := ⟨_, rfl⟩
  have hr : oneI s.data.toList n = oneR R := by rw [hR]; rfl
  rw [hr]
  have hsl : s.data.toList.length = s.size := Array.length_toList
  refine AC_of Tryz.func180 rfl Tryz.ntmps180 Tryz.results180 (by kernel_rfl) rfl ?_
  simp only [List.zipIdx, List.map, Nat.zero_add, Nat.reduceAdd]
  repeat (first | apply Aw_seq | apply Aw_block | apply Aw_skip | apply Aw_exit | refine Aw_condt rfl ?_ | refine Aw_condf rfl ?_ | ((first | refine qr ?_ | refine qd (by kernel_rfl) (by kernel_rfl) ?_); simp only [go_sem, jE, reduceIte, jA, jM, jS, jL, jD, jB]) | refine dk (by kernel_rfl) ?_)
  refine Aw.rw (rwL (l' := [(8, .t (iT (0 : Nat))), (7, .t (iT s.size)), (1, .t (iT n)), (0, .t (sT s))]) (os := []) (M := []) (n' := 0) (by repeat (first | exact trivial | refine ⟨rfl, rfl, ?_⟩)) (by rfl) (by simp only [go_sem, jE, reduceIte, jA, jM, jS, jL, jD, jB]; first | done | rfl) (by decide) (by unfold idM; decide)) ?_
  refine Aw_loop_rw (ι := OneI s.data.toList R) (fun q => S [(8, .t (iT (q.i : Nat))), (7, .t (iT s.size)), (1, .t (iT q.n)), (0, .t (sT s))] (hpL []) 0) (fun q => s.size - q.i) ⟨0, n, Nat.zero_le _, hn, by rw [hR]; simp⟩ ?_
  clear hR hr
  rintro ⟨i, m, hi, hm, h⟩
  dsimp only
  by_cases hlt : i < s.size
  · have g1 : decide ((i : Int) < (s.size : Int)) = true := decide_eq_true (by omega)
    have w1 := wrap_succ hlt (by omega)
    have h3 := ixB_ok (hp := hpL []) hlt
    have hd : s.data.toList.drop i = s[i] :: s.data.toList.drop (i + 1) := by
      rw [List.drop_eq_getElem_cons (by omega)]; rfl
    rw [hd] at h
    by_cases c1 : s[i] = 49
    · have g2 : decide (((s[i].toNat : Nat) : Int) = 49) = true := by rw [c1]; rfl
      cases m with
      | zero =>
        have e1 : R = some i := by rw [← h]; simp [posOne, c1]
        subst e1
        have g3 : decide (((0 : Nat) : Int) = 0) = true := rfl
        repeat (first | apply Aw_seq | apply Aw_block | apply Aw_skip | apply Aw_exit | refine Aw_condt rfl ?_ | refine Aw_condf rfl ?_ | ((first | refine qr ?_ | refine qd (by kernel_rfl) (by kernel_rfl) ?_); simp only [go_sem, jE, reduceIte, jA, jM, jS, jL, jD, jB, g1, h3, g2, g3]) | refine dk (by kernel_rfl) ?_)
        exact Aw_ret (ret0 (.inl rfl) (by simp only [go_sem, jE, reduceIte, jA, jM, jS, jL, jD, jB]; rfl) (by rfl) rfl)
      | succ m =>
        have g3 : decide (((m + 1 : Nat) : Int) = 0) = false := decide_eq_false (by omega)
        have w2 : IntKind.i64.wrap (((m + 1 : Nat) : Int) - 1) = (m : Int) := wn (by omega) (by omega)
        have e1 : (posOne (s.data.toList.drop (i + 1)) m).map (· + (i + 1)) = R := by
          rw [← h]; simp only [posOne]; rw [if_pos c1]
          cases posOne (s.data.toList.drop (i + 1)) m with
          | none => rfl
          | some v => simp; omega
        repeat (first | apply Aw_seq | apply Aw_block | apply Aw_skip | apply Aw_exit | refine Aw_condt rfl ?_ | refine Aw_condf rfl ?_ | ((first | refine qr ?_ | refine qd (by kernel_rfl) (by kernel_rfl) ?_); simp only [go_sem, jE, reduceIte, jA, jM, jS, jL, jD, jB, g1, w1, h3, g2, g3, w2]) | refine dk (by kernel_rfl) ?_)
        refine ⟨⟨i + 1, m, by omega, by omega, e1⟩, [], ?_, rwL (by repeat (first | exact trivial | refine ⟨rfl, rfl, ?_⟩)) (by rfl) (by simp only [go_sem, jE, reduceIte, jA, jM, jS, jL, jD, jB]; first | done | rfl) (by decide) (by unfold idM; decide)⟩
        show s.size - (i + 1) < s.size - i; omega
    · have g2 : decide (((s[i].toNat : Nat) : Int) = 49) = false := decide_eq_false (fun e => c1 (UInt8.toNat_inj.1 (Int.ofNat.inj e)))
      have e1 : (posOne (s.data.toList.drop (i + 1)) m).map (· + (i + 1)) = R := by
        rw [← h]; simp only [posOne]; rw [if_neg c1]
        cases posOne (s.data.toList.drop (i + 1)) m with
        | none => rfl
        | some v => simp; omega
      repeat (first | apply Aw_seq | apply Aw_block | apply Aw_skip | apply Aw_exit | refine Aw_condt rfl ?_ | refine Aw_condf rfl ?_ | ((first | refine qr ?_ | refine qd (by kernel_rfl) (by kernel_rfl) ?_); simp only [go_sem, jE, reduceIte, jA, jM, jS, jL, jD, jB, g1, w1, h3, g2]) | refine dk (by kernel_rfl) ?_)
      refine ⟨⟨i + 1, m, by omega, by omega, e1⟩, [], ?_, rwL (by repeat (first | exact trivial | refine ⟨rfl, rfl, ?_⟩)) (by rfl) (by simp only [go_sem, jE, reduceIte, jA, jM, jS, jL, jD, jB]; first | done | rfl) (by decide) (by unfold idM; decide)⟩
      show s.size - (i + 1) < s.size - i; omega
  · have g1 : decide ((i : Int) < (s.size : Int)) = false := decide_eq_false (by omega)
    have e1 : R = none := by rw [← h, List.drop_of_length_le (by omega)]; rfl
    subst e1
    repeat (first | apply Aw_seq | apply Aw_block | apply Aw_skip | apply Aw_exit | refine Aw_condt rfl ?_ | refine Aw_condf rfl ?_ | ((first | refine qr ?_ | refine qd (by kernel_rfl) (by kernel_rfl) ?_); simp only [go_sem, jE, reduceIte, jA, jM, jS, jL, jD, jB, g1]) | refine dk (by kernel_rfl) ?_)
    exact Aw_ret (ret0 (.inl rfl) (by simp only [go_sem, jE, reduceIte, jA, jM, jS, jL, jD, jB]; rfl) (by rfl) rfl)
structure BrI (m : Nat) where
  a : Nat
  h1 : 1 ≤ a
  h2 : a ≤ m
def svObj (s : Sve) : Obj := ⟨82, 5, false, [[.d (.s (.string s.letters)), .d (.s (.string s.more)), .d (.s (.string s.first)), .d (.rs 1 (s.rests.map strD)), .d (.s (.int .i64 s.keep))]]⟩
@[go_sem] theorem r_svObj (s : Sve) : svObj s = ⟨82, 5, false, [[.d (.s (.string s.letters)), .d (.s (.string s.more)), .d (.s (.string s.first)), .d (.rs 1 (s.rests.map strD)), .d (.s (.int .i64 s.keep))]]⟩ := rfl
theorem branches_ac {keep : Nat} {ks : List ByteArray} {s : Sve} (h : SvIs keep ks s) {j : Nat} {f : List ByteArray × Nat} (hj : (allF keep ks)[j]? = some f) : AC Tryz.prog 150 [sveP s, iT j] noHp 0 ⟨.tup [iT (offB keep ks j : Nat), iT ((offB keep ks j + (brs f).length : Nat))], noHp, 0⟩ := by
  obtain ⟨z1, z2, z3⟩ := h.sizes
  have hb := h.hb
  have hjl : j < (allF keep ks).length := (List.getElem?_eq_some_iff.1 hj).1
  have hfl := allF_len (keep := keep) h.hf
  have k := one_ac s.first j (by omega) (by omega)
  rw [h.h1] at k
  by_cases hk : ks = []
  · subst hk
    have e1 : oneI (firstL keep []) j = -1 := by rw [firstL_nil]; rfl
    have e2 : offB keep [] j = 0 := by have := off_le keep [] j; rw [allB_nil] at this; simp at this; exact this
    have e3 : (brs f).length = 0 := by
      have := off_le keep [] (j + 1)
      rw [off_next hj, allB_nil] at this
      simp at this; simp; exact this.2
    rw [e1] at k
    rw [e2, e3]
    have g1 : decide ((-1 : Int) < 0) = true := rfl
    refine AC_of Tryz.func150 rfl Tryz.ntmps150 Tryz.results150 (by kernel_rfl) rfl ?_
    simp only [List.zipIdx, List.map, Nat.zero_add, Nat.reduceAdd]
    repeat (first | apply Aw_seq | apply Aw_block | apply Aw_skip | apply Aw_exit | refine Aw_condt rfl ?_ | refine Aw_condf rfl ?_ | ((first | refine qr ?_ | refine qd (by kernel_rfl) (by kernel_rfl) ?_); simp only [go_sem, jE, reduceIte, jA, jM, jS, jL, jD, jB, g1]) | refine dk (by kernel_rfl) ?_ | (refine qp (k) (by simp only [go_sem, jE, reduceIte, jA, jM, jS, jL, jD, jB, g1]; first | done | rfl) rfl (by simp only [go_sem, Nat.reduceLT]) rfl rfl ?_; simp only [go_sem, jE, reduceIte, jA, jM, jS, jL, jD, jB, g1]))
    exact Aw_ret (ret0 (.inl rfl) (by simp only [go_sem, jE, reduceIte, jA, jM, jS, jL, jD, jB]; rfl) (by rfl) rfl)
  · have e1 : oneI (firstL keep ks) j = (offB keep ks j : Nat) := by unfold oneI; rw [first_one h.hf hk, if_pos hjl]; rfl
    rw [e1] at k
    have hlen : offB keep ks j + (brs f).length ≤ (allB keep ks).length := by rw [← off_next hj]; exact off_le _ _ _
    have hpos : 0 < (brs f).length := List.length_pos_iff.2 (allF_ne h.hf hk f (List.mem_of_getElem? hj))
    have hnext := first_next h.hf hk hj
    have hat := fun t ht => first_at hj (t := t) ht
    rw [firstL_len] at hnext
    generalize offB keep ks j = o at *
    generalize (brs f).length = m at *
    have g1 : decide ((o : Int) < 0) = false := decide_eq_false (by omega)
    have g2 : IntKind.i64.wrap ((o : Int) + 1) = ((o + 1 : Nat) : Int) := wn (by omega) (by omega)
    refine AC_of Tryz.func150 rfl Tryz.ntmps150 Tryz.results150 (by kernel_rfl) rfl ?_
    simp only [List.zipIdx, List.map, Nat.zero_add, Nat.reduceAdd]
    repeat (first | apply Aw_seq | apply Aw_block | apply Aw_skip | apply Aw_exit | refine Aw_condt rfl ?_ | refine Aw_condf rfl ?_ | ((first | refine qr ?_ | refine qd (by kernel_rfl) (by kernel_rfl) ?_); simp only [go_sem, jE, reduceIte, jA, jM, jS, jL, jD, jB, g1, g2]) | refine dk (by kernel_rfl) ?_ | (refine qp (k) (by simp only [go_sem, jE, reduceIte, jA, jM, jS, jL, jD, jB, g1, g2]; first | done | rfl) rfl (by simp only [go_sem, Nat.reduceLT]) rfl rfl ?_; simp only [go_sem, jE, reduceIte, jA, jM, jS, jL, jD, jB, g1, g2]))
    refine Aw.rw (rwL (l' := [(7, .t (iT ((o + 1 : Nat) : Int))), (6, .t (iT (o : Nat))), (2, .t (.c (.ph 0 0 0)))]) (os := [some (svObj s)]) (M := [0]) (n' := 1) (by repeat (first | exact trivial | refine ⟨rfl, rfl, ?_⟩)) (by rfl) (by simp only [go_sem, jE, reduceIte, jA, jM, jS, jL, jD, jB]; first | done | rfl) (by decide) (by unfold idM; decide)) ?_
    refine Aw_loop_rw (ι := BrI m) (fun q => S [(7, .t (iT ((o + q.a : Nat) : Int))), (6, .t (iT (o : Nat))), (2, .t (.c (.ph 0 0 0)))] (hpL [some (svObj s)]) 1) (fun q => m - q.a) ⟨1, by omega, by omega⟩ ?_
    rintro ⟨a, h1, h2⟩
    dsimp only
    by_cases hlt : a < m
    · obtain ⟨hi, e⟩ := byteL_at h.h1 (hat a hlt)
      rw [if_neg (by omega)] at e
      have h3 : ∀ hp, ixB hp s.first (o + a) = _ := fun hp => ixB_ok hi
      have g3 : decide (((o + a : Nat) : Int) < (s.first.size : Int)) = true := decide_eq_true (by omega)
      have g4 : decide (((s.first[o + a]).toNat : Int) = 48) = true := by rw [e]; rfl
      have w : IntKind.i64.wrap (((o + a : Nat) : Int) + 1) = ((o + (a + 1) : Nat) : Int) := wn (by omega) (by omega)
      repeat (first | apply Aw_seq | apply Aw_block | apply Aw_skip | apply Aw_exit | refine Aw_condt rfl ?_ | refine Aw_condf rfl ?_ | ((first | refine qr ?_ | refine qd (by kernel_rfl) (by kernel_rfl) ?_); simp only [go_sem, jE, reduceIte, jA, jM, jS, jL, jD, jB, g3, g4, w, h3]) | refine dk (by kernel_rfl) ?_)
      refine ⟨⟨a + 1, by omega, by omega⟩, [0], ?_, rwL (by repeat (first | exact trivial | refine ⟨rfl, rfl, ?_⟩)) (by rfl) (by simp only [go_sem, jE, reduceIte, jA, jM, jS, jL, jD, jB]; first | done | rfl) (by decide) (by unfold idM; decide)⟩
      show m - (a + 1) < m - a; omega
    · have ea : a = m := by omega
      subst ea
      rcases hnext with hn | hn
      · have g3 : decide (((o + a : Nat) : Int) < (s.first.size : Int)) = false := decide_eq_false (by omega)
        repeat (first | apply Aw_seq | apply Aw_block | apply Aw_skip | apply Aw_exit | refine Aw_condt rfl ?_ | refine Aw_condf rfl ?_ | ((first | refine qr ?_ | refine qd (by kernel_rfl) (by kernel_rfl) ?_); simp only [go_sem, jE, reduceIte, jA, jM, jS, jL, jD, jB, g3]) | refine dk (by kernel_rfl) ?_)
        exact Aw_ret (ret0 (.inl rfl) (by simp only [go_sem, jE, reduceIte, jA, jM, jS, jL, jD, jB]; rfl) (by rfl) rfl)
      · obtain ⟨hi, e⟩ := byteL_at h.h1 hn
        have h3 : ∀ hp, ixB hp s.first (o + a) = _ := fun hp => ixB_ok hi
        have g3 : decide (((o + a : Nat) : Int) < (s.first.size : Int)) = true := decide_eq_true (by omega)
        have g4 : decide (((s.first[o + a]).toNat : Int) = 48) = false := by rw [e]; rfl
        repeat (first | apply Aw_seq | apply Aw_block | apply Aw_skip | apply Aw_exit | refine Aw_condt rfl ?_ | refine Aw_condf rfl ?_ | ((first | refine qr ?_ | refine qd (by kernel_rfl) (by kernel_rfl) ?_); simp only [go_sem, jE, reduceIte, jA, jM, jS, jL, jD, jB, g3, g4, h3]) | refine dk (by kernel_rfl) ?_)
        exact Aw_ret (ret0 (.inl rfl) (by simp only [go_sem, jE, reduceIte, jA, jM, jS, jL, jD, jB]; rfl) (by rfl) rfl)
theorem node_ac {keep : Nat} {ks : List ByteArray} {s : Sve} (h : SvIs keep ks s) {b : Nat} (hb : b < (allB keep ks).length) : AC Tryz.prog 152 [sveP s, iT b] noHp 0 ⟨.t (iT ((((allB keep ks).take (b + 1)).countP bMul : Nat))), noHp, 0⟩ := by
  obtain ⟨z1, z2, z3⟩ := h.sizes
  have hbb := h.hb
  have k := count_ac (s.more.extract 0 (b + 1)) 49
  rw [extract_list, h.hm, ← List.map_take, (count_more _).1] at k
  have w : IntKind.i64.wrap ((b : Int) + 1) = ((b + 1 : Nat) : Int) := wn (by omega) (by omega)
  have g2 : (((b + 1 : Nat) : Int) ≤ (s.more.size : Int)) = True := eq_true (by omega)
  have g3 : ((0 : Int) ≤ ((b + 1 : Nat) : Int)) = True := eq_true (by omega)
  have g4 : Int.toNat ((b + 1 : Nat) : Int) = b + 1 := rfl
  have g5 : Int.toNat 0 = 0 := rfl
  refine AC_of Tryz.func152 rfl Tryz.ntmps152 Tryz.results152 (by kernel_rfl) rfl ?_
  simp only [List.zipIdx, List.map, Nat.zero_add, Nat.reduceAdd]
  repeat (first | apply Aw_seq | apply Aw_block | apply Aw_skip | apply Aw_exit | refine Aw_condt rfl ?_ | refine Aw_condf rfl ?_ | ((first | refine qr ?_ | refine qd (by kernel_rfl) (by kernel_rfl) ?_); simp only [go_sem, jE, reduceIte, jA, jM, jS, jL, jD, jB, w, g2, g3, g4, g5]) | refine dk (by kernel_rfl) ?_ | (refine qp (k) (by simp only [go_sem, jE, reduceIte, jA, jM, jS, jL, jD, jB, w, g2, g3, g4, g5]; first | done | rfl) rfl (by simp only [go_sem, Nat.reduceLT]) rfl rfl ?_; simp only [go_sem, jE, reduceIte, jA, jM, jS, jL, jD, jB, w, g2, g3, g4, g5]))
  exact Aw_ret (ret0 (.inl rfl) (by simp only [go_sem, jE, reduceIte, jA, jM, jS, jL, jD, jB]; rfl) (by rfl) rfl)
theorem rest_ac {keep : Nat} {ks : List ByteArray} {s : Sve} (h : SvIs keep ks s) {b : Nat} {x : Br} (hb : (allB keep ks)[b]? = some x) (hm : bMul x = false) : AC Tryz.prog 154 [sveP s, iT b] noHp 0 ⟨.t (sT (bCut keep x)), noHp, 0⟩ := by
  obtain ⟨z1, z2, z3⟩ := h.sizes
  have hbb := h.hb
  have hbl := (List.getElem?_eq_some_iff.1 hb).1
  have k := count_ac (s.more.extract 0 b) 48
  rw [extract_list, h.hm, ← List.map_take, (count_more _).2] at k
  have hx := rest_at hb hm
  rw [← h.hr] at hx
  generalize ((allB keep ks).take b).countP (fun b => !bMul b) = n at *
  have hl := (List.getElem?_eq_some_iff.1 hx).1
  have g2 : ((b : Int) ≤ (s.more.size : Int)) = True := eq_true (by omega)
  have g3 : ((0 : Int) ≤ (b : Int)) = True := eq_true (by omega)
  have g4 : Int.toNat ((b : Nat) : Int) = b := rfl
  have g5 : Int.toNat 0 = 0 := rfl
  refine AC_of Tryz.func154 rfl Tryz.ntmps154 Tryz.results154 (by kernel_rfl) rfl ?_
  simp only [List.zipIdx, List.map, Nat.zero_add, Nat.reduceAdd]
  repeat (first | apply Aw_seq | apply Aw_block | apply Aw_skip | apply Aw_exit | refine Aw_condt rfl ?_ | refine Aw_condf rfl ?_ | ((first | refine qr ?_ | refine qd (by kernel_rfl) (by kernel_rfl) ?_); simp only [go_sem, jE, reduceIte, jA, jM, jS, jL, jD, jB, g2, g3, g4, g5, hx, hl]) | refine dk (by kernel_rfl) ?_ | (refine qp (k) (by simp only [go_sem, jE, reduceIte, jA, jM, jS, jL, jD, jB, g2, g3, g4, g5, hx, hl]; first | done | rfl) rfl (by simp only [go_sem, Nat.reduceLT]) rfl rfl ?_; simp only [go_sem, jE, reduceIte, jA, jM, jS, jL, jD, jB, g2, g3, g4, g5, hx, hl]))
  exact Aw_ret (ret0 (.inl rfl) (by simp only [go_sem, jE, reduceIte, jA, jM, jS, jL, jD, jB]; rfl) (by rfl) rfl)
theorem complete_ac {keep : Nat} {ks : List ByteArray} {s : Sve} (h : SvIs keep ks s) {b : Nat} {x : Br} (hb : (allB keep ks)[b]? = some x) (hm : bMul x = false) : AC Tryz.prog 153 [sveP s, iT b] noHp 0 ⟨.t (bT (whole keep x)), noHp, 0⟩ := by
  have k := rest_ac h hb hm
  obtain ⟨hi, e⟩ := byteL_at h.hl (i := b) (b := bLet x) (by rw [List.getElem?_map, hb]; rfl)
  have h3 : ∀ hp, ixB hp s.letters b = _ := fun hp => ixB_ok hi
  have g5 : decide (((bCut keep x).size : Int) < s.keep) = decide ((bCut keep x).size < keep) := by rw [h.hk]; exact decide_eq_decide.2 (by omega)
  unfold whole
  by_cases c : bLet x = 45
  · have g4 : decide (((s.letters[b]).toNat : Int) = 45) = true := by rw [e, c]; rfl
    rw [decide_eq_true c, Bool.true_or]
    refine AC_of Tryz.func153 rfl Tryz.ntmps153 Tryz.results153 (by kernel_rfl) rfl ?_
    simp only [List.zipIdx, List.map, Nat.zero_add, Nat.reduceAdd]
    repeat (first | apply Aw_seq | apply Aw_block | apply Aw_skip | apply Aw_exit | refine Aw_condt rfl ?_ | refine Aw_condf rfl ?_ | ((first | refine qr ?_ | refine qd (by kernel_rfl) (by kernel_rfl) ?_); simp only [go_sem, jE, reduceIte, jA, jM, jS, jL, jD, jB, g4, h3]) | refine dk (by kernel_rfl) ?_)
    exact Aw_ret (ret0 (.inl rfl) (by simp only [go_sem, jE, reduceIte, jA, jM, jS, jL, jD, jB]; rfl) (by rfl) rfl)
  · have g4 : decide (((s.letters[b]).toNat : Int) = 45) = false := decide_eq_false (fun h45 => c (by rw [← e]; exact UInt8.toNat_inj.1 (Int.ofNat.inj h45)))
    rw [decide_eq_false c, Bool.false_or]
    refine AC_of Tryz.func153 rfl Tryz.ntmps153 Tryz.results153 (by kernel_rfl) rfl ?_
    simp only [List.zipIdx, List.map, Nat.zero_add, Nat.reduceAdd]
    repeat (first | apply Aw_seq | apply Aw_block | apply Aw_skip | apply Aw_exit | refine Aw_condt rfl ?_ | refine Aw_condf rfl ?_ | ((first | refine qr ?_ | refine qd (by kernel_rfl) (by kernel_rfl) ?_); simp only [go_sem, jE, reduceIte, jA, jM, jS, jL, jD, jB, g4, h3, g5]) | refine dk (by kernel_rfl) ?_ | (refine qp (k) (by simp only [go_sem, jE, reduceIte, jA, jM, jS, jL, jD, jB, g4, h3, g5]; first | done | rfl) rfl (by simp only [go_sem, Nat.reduceLT]) rfl rfl ?_; simp only [go_sem, jE, reduceIte, jA, jM, jS, jL, jD, jB, g4, h3, g5]))
    exact Aw_ret (ret0 (.inl rfl) (by simp only [go_sem, jE, reduceIte, jA, jM, jS, jL, jD, jB]; rfl) (by rfl) rfl)
end Go.Proofs.YtimkdclalajadaaGreat.Ab
