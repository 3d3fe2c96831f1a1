/-
  States told weaker under their names; a row of rows of its own, however many. No condition.
  A slice that is nil is a row without elements: contracts told of the one serve for the other. Definitions and lemmas. No condition.
  Contracts: a law's comparisons, of what is the same; the law of the store's check. No condition.
  Contracts: a law's marks: what it writes into rows of its own, and looks for afterwards. No condition.
  Contracts: a law's marks, found again. No condition.
  A law's marks in rows of rows, however many. No condition.
  Contracts: a new store. No condition.
  Contracts: runs that are joined, and trimmed, the reference's. No condition.
  Contracts: what is left out of a run, the program's. No condition.
  Contracts: the order of entries as a number, two stretches of a run that change places. No condition.
  Contract: two stretches of a run, side by side, that change places. No condition.
  Contract: a stretch of a run that is sorted by insertion. No condition.
  Contract: one entry ahead of a sorted stretch is merged into it. No condition.
  Contract: one entry behind a sorted stretch is merged into it. No condition.
  Contract: two sorted stretches of a run, side by side, become one. No condition.
  Contract: two sorted stretches of a run, side by side, become one. No condition.
  Plain law: blocks that are sorted, and joined two by two. No condition.
-/
import Derived.Test.YtimkdclalajadaaGreatTc
namespace Go.Proofs.YtimkdclalajadaaGreat.Ab
open Nat renaming reduceEqDiff → jE, reduceAdd → jA, reduceMul → jM, reduceSub → jS, reduceLT → jL, reduceLeDiff → jD, reduceBEq → jB
set_option linter.deprecated false
set_option linter.unusedVariables false
set_option linter.unusedSimpArgs false
open Go Go.Proofs
set_option maxRecDepth 10000
set_option maxHeartbeats 8000000
def ChkW (l : List (Nat × AV)) : List (Nat × AV) → Prop
  | [] => True
  | (t, v) :: r => look l t = v ∧ ChkW l r
theorem hpL_get {os : List (Option Obj)} {m : Nat} {o : Obj} : hpL os m = some o ↔ os[m]? = some (some o) := by
  unfold hpL
  cases os[m]? with
  | none => simp
  | some x => simp
theorem CV.ren_idn {π : Nat → Nat} {n : Nat} (h : ∀ m, m < n → π m = m) {x : CV} (hb : x.bd n = true) : x.ren π = x := by
  cases x with
  | d x => rfl
  | h m => simp [CV.bd] at hb; simp [CV.ren, h m hb]
  | ph m i j => simp [CV.bd] at hb; simp [CV.ren, h m hb]
  | pr cs => rfl
  | fn f cap =>
    simp only [CV.bd, List.all_eq_true] at hb
    simp only [CV.ren, CV.fn.injEq, true_and]
    refine (List.map_congr_left fun p hp => ?_).trans (List.map_id _)
    exact PV.ren_id h (hb p hp)
  | dead => rfl
theorem TV.ren_idn {π : Nat → Nat} {n : Nat} (h : ∀ m, m < n → π m = m) {x : TV} (hb : x.bd n = true) : x.ren π = x := by
  cases x with
  | c x => simp only [TV.ren]; rw [CV.ren_idn h hb]
  | agg cs =>
    simp only [TV.bd, List.all_eq_true] at hb
    simp only [TV.ren, TV.agg.injEq]
    exact (List.map_congr_left fun p hp => CV.ren_idn h (hb p hp)).trans (List.map_id _)
theorem AV.ren_idn {π : Nat → Nat} {n : Nat} (h : ∀ m, m < n → π m = m) {x : AV} (hb : x.bd n = true) : x.ren π = x := by
  cases x with
  | t x => simp only [AV.ren]; rw [TV.ren_idn h hb]
  | tup xs =>
    simp only [AV.bd, List.all_eq_true] at hb
    simp only [AV.ren, AV.tup.injEq]
    exact (List.map_congr_left fun p hp => TV.ren_idn h (hb p hp)).trans (List.map_id _)
  | dead => rfl
theorem Obj.ren_idn {π : Nat → Nat} {n : Nat} (h : ∀ m, m < n → π m = m) {o : Obj} (hb : o.bd n = true) : o.ren π = o := by
  obtain ⟨e, k, row, els⟩ := o
  simp only [Obj.bd, List.all_eq_true] at hb
  simp only [Obj.ren, Obj.mk.injEq, true_and]
  refine (List.map_congr_left fun cs hcs => ?_).trans (List.map_id _)
  exact (List.map_congr_left fun p hp => CV.ren_idn h (hb cs hcs p hp)).trans (List.map_id _)
theorem pin_range {n m : Nat} (h : m < n) : pin (List.range n) m = m := by simp [pin, List.getD, h]
theorem bdP_mono {a b : Nat} (h : a ≤ b) {x : PV} (hx : x.bd a = true) : x.bd b = true := by
  cases x with
  | d x => rfl
  | ph m i j => simp [PV.bd] at hx ⊢; omega
theorem bdC_mono {a b : Nat} (h : a ≤ b) {x : CV} (hx : x.bd a = true) : x.bd b = true := by
  cases x with
  | d x => rfl
  | h m => simp [CV.bd] at hx ⊢; omega
  | ph m i j => simp [CV.bd] at hx ⊢; omega
  | pr cs => rfl
  | fn f cap =>
    simp only [CV.bd, List.all_eq_true] at hx ⊢
    exact fun p hp => bdP_mono h (hx p hp)
  | dead => rfl
theorem bdT_mono {a b : Nat} (h : a ≤ b) {x : TV} (hx : x.bd a = true) : x.bd b = true := by
  cases x with
  | c x => exact bdC_mono h hx
  | agg cs =>
    simp only [TV.bd, List.all_eq_true] at hx ⊢
    exact fun p hp => bdC_mono h (hx p hp)
theorem bdA_mono {a b : Nat} (h : a ≤ b) {x : AV} (hx : x.bd a = true) : x.bd b = true := by
  cases x with
  | t x => exact bdT_mono h hx
  | tup xs =>
    simp only [AV.bd, List.all_eq_true] at hx ⊢
    exact fun p hp => bdT_mono h (hx p hp)
  | dead => rfl
theorem chkI {M : List Nat} {l l' : List (Nat × AV)} {n : Nat} (hM : ∀ m, m < n → pin M m = m) (hn : n ≤ M.length) (h : ChkW l l') (hb : ∀ p ∈ l', p.2.bd n = true) : ChkM M l l' := by
  induction l' with
  | nil => trivial
  | cons p r ih =>
    obtain ⟨i, v⟩ := p
    obtain ⟨h1, h2⟩ := h
    have hv : v.bd n = true := hb (i, v) (by simp)
    refine ⟨by rw [h1, AV.ren_idn hM hv], ?_, ih h2 fun p hp => hb p (List.mem_cons_of_mem _ hp)⟩
    exact bdA_mono hn hv
/-- A state under the names that it has. -/
theorem rwI {k : Nat} {l l' : List (Nat × AV)} {hp hp' : Hp} {n m' n' : Nat} (h : ChkW l l') (hb : ∀ p ∈ l', p.2.bd m' = true) (hh : ∀ m o, hp' m = some o → hp m = some o ∧ m < m' ∧ o.bd m' = true) (hn : m' ≤ n') (hk : k ≤ m') : Rw k (List.range m') (S l hp n) (S l' hp' n') := by
  have hi : ∀ m, m < m' → pin (List.range m') m = m := fun m hm => pin_range hm
  refine rwM (chkI hi (by simp) h hb) ⟨fun m m2 o o' h1 h2 q => ?_, fun m o hm => ?_⟩ (by simpa using hn) (fun m hm => ⟨by simp; omega, hi m (by omega)⟩)
  · rw [hi m (hh m o h1).2.1, hi m2 (hh m2 o' h2).2.1] at q; exact q
  · obtain ⟨a, b, c⟩ := hh m o hm
    exact ⟨by simpa using b, by rw [hi m b, Obj.ren_idn hi c]; exact a, by simpa using c⟩
theorem pinM_le {i N m : Nat} (h : m ≤ i) : pin (List.range (i + 1) ++ [N]) m = m := by
  simp [pin, List.getD, List.getElem?_append_left, show m < i + 1 by omega]
theorem pinM_top {i N : Nat} : pin (List.range (i + 1) ++ [N]) (i + 1) = N := by
  simp [pin, List.getD, List.getElem?_append_right]
/-- One new name, told as the next. -/
theorem rwOne {l l' : List (Nat × AV)} {hp hp' : Hp} {n n' i N : Nat} (hN : i < N) (h : ChkW l l') (hb : ∀ p ∈ l', p.2.bd (i + 1) = true) (hh : ∀ m o, hp' m = some o → (m ≤ i ∧ hp m = some (o.ren (pin (List.range (i + 1) ++ [N]))) ∨ m = i + 1 ∧ hp N = some (o.ren (pin (List.range (i + 1) ++ [N])))) ∧ o.bd (i + 2) = true) (hn : i + 2 ≤ n') : Rw 0 (List.range (i + 1) ++ [N]) (S l hp n) (S l' hp' n') := by
  have hl : (List.range (i + 1) ++ [N]).length = i + 2 := by simp
  have hi : ∀ m, m < i + 1 → pin (List.range (i + 1) ++ [N]) m = m := fun m hm => pinM_le (by omega)
  refine rwM (chkI hi (by rw [hl]; omega) h hb) ⟨fun m m2 o o' h1 h2 q => ?_, fun m o hm => ?_⟩ (by rw [hl]; exact hn) (fun m hm => by omega)
  · rcases (hh m o h1).1 with ⟨a, _⟩ | ⟨a, _⟩ <;> rcases (hh m2 o' h2).1 with ⟨b, _⟩ | ⟨b, _⟩
    · rw [hi m (by omega), hi m2 (by omega)] at q; exact q
    · rw [hi m (by omega), b, pinM_top] at q; omega
    · rw [a, hi m2 (by omega), pinM_top] at q; omega
    · omega
  · obtain ⟨a | a, c⟩ := hh m o hm
    · exact ⟨by rw [hl]; omega, by rw [hi m (by omega)]; exact a.2, by rw [hl]; exact c⟩
    · obtain ⟨rfl, a⟩ := a
      exact ⟨by rw [hl]; omega, by rw [pinM_top]; exact a, by rw [hl]; exact c⟩
/-- The end of a function under the names that it has. -/
theorem retI {P : Program} {k : Nat} {l : List (Nat × AV)} {hp hp' : Hp} {n n' : Nat} {rs : List ResultVar} {e : Exit} {x : AV} (he : e = .ret ∨ e = .normal) (h : resA P rs (look l) hp = some x) (hb : x.bd n' = true) (hh : ∀ m o, hp' m = some o → hp m = some o ∧ m < n' ∧ o.bd n' = true) (hk : k ≤ n') :
    RetQ P rs k ⟨x, hp', n'⟩ e (S l hp n) := by
  have hi : ∀ m, m < n' → pin (List.range n') m = m := fun m hm => pin_range hm
  refine ⟨he.symm, List.range n', ⟨?_, by simpa using hb, ⟨fun m m' o o' h1 h2 q => ?_, fun m o hm => ?_⟩, by simp, fun m hm => ⟨by simp; omega, hi m (by omega)⟩⟩⟩
  · rw [h, AV.ren_idn hi hb]
  · rw [hi m (hh m o h1).2.1, hi m' (hh m' o' h2).2.1] at q; exact q
  · obtain ⟨a, b, c⟩ := hh m o hm
    exact ⟨by simpa using b, by rw [hi m b, Obj.ren_idn hi c]; exact a, by simpa using c⟩
theorem hpL_set {os : List (Option Obj)} {i : Nat} {o : Option Obj} (h : i < os.length) : upd (hpL os) i o = hpL (os.set i o) := by
  funext m
  by_cases e : m = i
  · subst e; rw [upd_same]; unfold hpL; rw [List.getElem?_set_self h]; rfl
  · rw [upd_ne _ _ e]; unfold hpL; rw [List.getElem?_set_ne (Ne.symm e)]
/-- A row of rows: the first i of them there. -/
def pEls (i n : Nat) : List (List CV) := (List.range i).map (fun j => [.h (j + 1)]) ++ List.replicate (n - i) [.d (.s (.slice none 0 0))]
def pRow (i n : Nat) : Obj := ⟨29, 1, true, pEls i n⟩
@[go_sem] theorem r_pRow (i n : Nat) : pRow i n = ⟨29, 1, true, pEls i n⟩ := rfl
theorem pE_0 (n : Nat) : List.replicate n [CV.d (.s (.slice none 0 0))] = pEls 0 n := by simp [pEls]
theorem pE_len {i n : Nat} (h : i ≤ n) : (pEls i n).length = n := by simp [pEls]; omega
theorem pE_get {i n : Nat} (h : i < n) : (pEls i n)[i]? = some [.d (.s (.slice none 0 0))] := by
  unfold pEls
  rw [List.getElem?_append_right (by simp), List.getElem?_replicate]
  simp; omega
theorem pE_set {i n : Nat} (h : i < n) : (pEls i n).set i [.h (i + 1)] = pEls (i + 1) n := by
  unfold pEls
  rw [List.set_append_right _ _ (by simp), show n - i = (n - (i + 1)) + 1 by omega, List.replicate_succ]
  simp [List.range_succ]
theorem pE_all {i n : Nat} {k : Nat} (h : i < k) (hi : i ≤ n) : (pEls i n).all (·.all (CV.bd k)) = true := by
  simp only [pEls, List.all_append, List.all_map, List.all_replicate, Bool.and_eq_true]
  refine ⟨List.all_eq_true.2 fun j hj => ?_, by split <;> simp [CV.bd]⟩
  have := List.mem_range.1 hj
  simp [CV.bd]; omega
theorem bd_eRow (r : List Ent) (k : Nat) : (eRow r).bd k = true := dRow_bd _ _ _ _
theorem bd_kRow (r : List ByteArray) (k : Nat) : (kRow r).bd k = true := dRow_bd _ _ _ _
theorem ren_eRow (r : List Ent) (π : Nat → Nat) : (eRow r).ren π = eRow r := dRow_ren _ _ _ _
def lvOs (i : Nat) (r : List (List Ent)) : List (Option Obj) := some (pRow i r.length) :: (r.take i).map fun x => some (eRow x)
theorem lvOs_len {i : Nat} {r : List (List Ent)} (h : i ≤ r.length) : (lvOs i r).length = i + 1 := by simp [lvOs]; omega
theorem pE_r0 (n : Nat) (π : Nat → Nat) : (pEls 0 n).map (fun x => x.map (CV.ren π)) = pEls 0 n := by simp [pEls, CV.ren]
theorem pE_a0 (n : Nat) : ((pEls 0 n).all fun x => x.all (CV.bd 1)) = true := by simp [pEls, CV.bd]
theorem pE_ren {i n N : Nat} (h : i < n) (hN : i < N) : (pRow (i + 1) n).ren (pin (List.range (i + 1) ++ [N])) = ⟨29, 1, true, (pEls i n).set i [.h N]⟩ := by
  simp only [Obj.ren, pRow, Obj.mk.injEq, true_and]
  rw [← pE_set h, List.map_set]
  congr 1
  · refine (List.map_congr_left fun cs hcs => ?_).trans (List.map_id _)
    have := List.all_eq_true.1 (pE_all (k := i + 1) (Nat.lt_succ_self i) (Nat.le_of_lt h)) cs hcs
    exact (List.map_congr_left fun p hp => CV.ren_idn (fun m hm => pinM_le (by omega)) (List.all_eq_true.1 this p hp)).trans (List.map_id _)
  · simp [CV.ren, pinM_top]
theorem lvOs_rw {i N : Nat} {r : List (List Ent)} {x : List Ent} (h : i < r.length) (hx : r[i]? = some x) (hN : i < N) : ∀ m o, hpL (lvOs (i + 1) r) m = some o → (m ≤ i ∧ upd (upd (hpL (lvOs i r)) N (some (dRow 56 4 (x.map entD)))) 0 (some ⟨29, 1, true, (pEls i r.length).set i [.h N]⟩) m = some (o.ren (pin (List.range (i + 1) ++ [N]))) ∨ m = i + 1 ∧ upd (upd (hpL (lvOs i r)) N (some (dRow 56 4 (x.map entD)))) 0 (some ⟨29, 1, true, (pEls i r.length).set i [.h N]⟩) N = some (o.ren (pin (List.range (i + 1) ++ [N])))) ∧ o.bd (i + 2) = true := by
  intro m o hm
  rw [hpL_get] at hm
  rcases m with _ | m
  · simp only [lvOs, List.getElem?_cons_zero, Option.some.injEq] at hm
    subst hm
    exact ⟨.inl ⟨Nat.zero_le _, by rw [upd_same, pE_ren h hN]⟩, pE_all (by omega) (by omega)⟩
  · simp only [lvOs, List.getElem?_cons_succ, List.getElem?_map] at hm
    obtain ⟨y, hy, ho⟩ := Option.map_eq_some_iff.1 hm
    obtain rfl := Option.some.inj ho
    refine ⟨?_, bd_eRow _ _⟩
    rw [ren_eRow]
    rw [List.getElem?_take] at hy
    split at hy
    · rename_i hlt
      by_cases e : m = i
      · subst e
        rw [hx] at hy; obtain rfl := Option.some.inj hy
        exact .inr ⟨rfl, by rw [upd_ne _ _ (by omega), upd_same]; rfl⟩
      · refine .inl ⟨by omega, ?_⟩
        rw [upd_ne _ _ (by omega), upd_ne _ _ (by omega), hpL_get]
        simp [lvOs, List.getElem?_take, hy]
        omega
    · cases hy
theorem toEntrySSO_ac (r : List (List Ent)) (hl : r.length ≤ 1048576) (he : ∀ e ∈ r, e.length ≤ 1048576) : AC Tryz.prog 32 [lvsT r] noHp 0 ⟨.t (.c (.h 0)), hpL (lvOs r.length r), r.length + 1⟩ := by
  refine AC_of Tryz.func32 rfl Tryz.ntmps32 Tryz.results32 (by kernel_rfl) rfl ?_
  simp only [List.zipIdx, List.map, Nat.zero_add, Nat.reduceAdd]
  have t0 : ((r.length : Nat) : Int).toNat = r.length := rfl
  have t1 : (0 : Int) ≤ ((r.length : Nat) : Int) := by omega
  have t2 : ((r.length : Nat) : Int) ≤ 140737488355328 := by omega
  have t3 : decide (r.length * 24 ≤ 140737488355328) = true := decide_eq_true (by omega)
  have t4 := of_decide_eq_true t3
  have t5 := pE_0 r.length
  repeat (first | apply Aw_seq | apply Aw_block | apply Aw_skip | apply Aw_exit | refine Aw_condt rfl ?_ | refine Aw_condf rfl ?_ | ((first | refine qr ?_ | refine qd (by kernel_rfl) (by kernel_rfl) ?_); simp only [go_sem, jE, reduceIte, jA, jM, jS, jL, jD, jB, t0, t1, t2, t4]) | refine dk (by kernel_rfl) ?_)
  refine Aw.rw (rwL (l' := [(4, .t (iT (0 : Nat))), (3, .t (.c (.h 0))), (0, .t (lvsT r))]) (os := [some (pRow 0 r.length)]) (M := [3]) (n' := 1) (by repeat (first | exact trivial | refine ⟨rfl, rfl, ?_⟩)) (by rfl) (by simp only [go_sem, jE, reduceIte, jA, jM, jS, jL, jD, jB, t5, pE_r0, pE_a0]; first | done | rfl) (by decide) (by unfold idM; decide)) ?_
  refine Aw_loop_rw (ι := { j : Nat // j ≤ r.length }) (fun j => S [(4, .t (iT (j.1 : Nat))), (3, .t (.c (.h 0))), (0, .t (lvsT r))] (hpL (lvOs j.1 r)) (j.1 + 1)) (fun j => r.length - j.1) ⟨0, Nat.zero_le _⟩ ?_
  rintro ⟨i, hi⟩
  dsimp only
  by_cases hlt : i < r.length
  · have h1 : (i : Int) < (r.length : Int) := by omega
    have h2 := wrap_succ hlt (by omega)
    obtain ⟨e, hx⟩ : ∃ e, r[i]? = some e := ⟨_, List.getElem?_eq_getElem hlt⟩
    have kk := toEntrySR_ac e (he e (List.mem_of_getElem? hx))
    have g0 : hpL (lvOs i r) 0 = some (pRow i r.length) := rfl
    have g1 := pE_len hi
    have g2 := pE_get hlt
    have g3 := pE_set hlt
    have g4 : (0 = i + 1) = False := eq_false (by omega)
    repeat (first | apply Aw_seq | apply Aw_block | apply Aw_skip | apply Aw_exit | refine Aw_condt rfl ?_ | refine Aw_condf rfl ?_ | ((first | refine qr ?_ | refine qd (by kernel_rfl) (by kernel_rfl) ?_); simp only [go_sem, jE, reduceIte, jA, jM, jS, jL, jD, jB, h1, h2, hx, hlt, g0, g1, g2, g4, t0]) | refine dk (by kernel_rfl) ?_ | (refine qx (call_N (L := []) (kk) rfl (.cons (.nm rfl) (.nil)) (.inl rfl) rfl) (by simp only [go_sem, jE, reduceIte, jA, jM, jS, jL, jD, jB, h1, h2, hx, hlt, g0, g1, g2, g4, t0]; first | done | rfl) rfl (by simp only [go_sem, Nat.reduceLT]) ?_; simp only [go_sem, jE, reduceIte, jA, jM, jS, jL, jD, jB, h1, h2, hx, hlt, g0, g1, g2, g4, t0]))
    refine ⟨⟨i + 1, hlt⟩, _, ?_, rwOne (i := i) (N := i + 1 + 1 + 1 + 1 + 1 + 1 + 1 + 1 + 1 + 1 + 1) (by omega) (by repeat (first | exact trivial | refine ⟨rfl, ?_⟩)) (by simp [AV.bd, TV.bd, CV.bd]) (lvOs_rw hlt hx (by omega)) (Nat.le_refl _)⟩
    show r.length - (i + 1) < r.length - i; omega
  · have h1 : ¬ (i : Int) < (r.length : Int) := by omega
    obtain rfl : i = r.length := by omega
    repeat (first | apply Aw_seq | apply Aw_block | apply Aw_skip | apply Aw_exit | refine Aw_condt rfl ?_ | refine Aw_condf rfl ?_ | ((first | refine qr ?_ | refine qd (by kernel_rfl) (by kernel_rfl) ?_); simp only [go_sem, jE, reduceIte, jA, jM, jS, jL, jD, jB, h1]) | refine dk (by kernel_rfl) ?_)
    refine Aw_ret (retI (.inl rfl) rfl (by simp [AV.bd, TV.bd, CV.bd]) (fun m o hm => ⟨hm, ?_⟩) (Nat.zero_le _))
    have hg := hpL_get.1 hm
    refine ⟨by have := (List.getElem?_eq_some_iff.1 hg).1; rwa [lvOs_len (Nat.le_refl _)] at this, ?_⟩
    rcases m with _ | m
    · simp only [lvOs, List.getElem?_cons_zero, Option.some.injEq] at hg
      subst hg
      exact pE_all (by omega) (Nat.le_refl _)
    · simp only [lvOs, List.getElem?_cons_succ, List.getElem?_map] at hg
      obtain ⟨x, _, hx⟩ := Option.map_eq_some_iff.1 hg
      rw [← Option.some.inj hx]; exact bd_eRow _ _
inductive NilD : D → D → Prop
  | refl (x : D) : NilD x x
  | nil (k : Nat) : NilD (.s (.slice none 0 0)) (.rs k [])
  | rs {k : Nat} {els els' : List (List D)} (hl : els.length = els'.length) (hk : ∀ (i : Nat) cs cs', els[i]? = some cs → els'[i]? = some cs' → cs.length = cs'.length) (h : ∀ (i j : Nat) cs cs' x y, els[i]? = some cs → els'[i]? = some cs' → cs[j]? = some x → cs'[j]? = some y → NilD x y) : NilD (.rs k els) (.rs k els')
theorem NilD.rep {w : World} {S : Nat → Prop} {x y : D} (h : NilD x y) : ∀ {v : Value}, RepD w S x v → RepD w S y v := by
  induction h with
  | refl x => exact fun h => h
  | nil k =>
    intro v h
    cases h
    exact .rs (A := none) (cap := 0) (fun _ _ => .bool false) (Nat.le_refl _) (Nat.zero_le _) (by simp) (fun i j hi => absurd hi (by simp)) (fun i j cs x hi => by simp at hi)
  | @rs k els els' hl hk h ih =>
    intro v hv
    cases hv with
    | rs vals l1 l2 l3 l4 l5 =>
      rw [hl] at l1 ⊢
      refine .rs vals l1 l2 (fun cs' hcs => ?_) (fun i j hi hj => l4 i j (by omega) hj) (fun i j cs' y hi hj => ?_)
      · obtain ⟨i, hi⟩ := List.mem_iff_getElem?.1 hcs
        have hil := (List.getElem?_eq_some_iff.1 hi).1
        have h1 : els[i]? = some els[i] := List.getElem?_eq_getElem (by omega)
        rw [← hk i _ _ h1 hi]; exact l3 _ (List.mem_of_getElem? h1)
      · have hil := (List.getElem?_eq_some_iff.1 hi).1
        have h1 : els[i]? = some els[i] := List.getElem?_eq_getElem (by omega)
        have hjl := (List.getElem?_eq_some_iff.1 hj).1
        have h2 := hk i _ _ h1 hi
        have h3 : els[i][j]? = some (els[i][j]'(by omega)) := List.getElem?_eq_getElem (by omega)
        exact ih i j _ _ _ _ h1 hi h3 hj (l5 i j _ _ h1 h3)
def NilC (x y : CV) : Prop := x = y ∨ ∃ a b, x = .d a ∧ y = .d b ∧ NilD a b
def NilT : TV → TV → Prop
  | .c x, .c y => NilC x y
  | .agg xs, .agg ys => All2 NilC xs ys
  | _, _ => False
def NilA : AV → AV → Prop
  | .t x, .t y => NilT x y
  | .tup xs, .tup ys => All2 NilT xs ys
  | _, _ => False
theorem NilC.rep {c : Cx} {x y : CV} (h : NilC x y) {v : Value} (hr : RepC c x v) : RepC c y v := by
  rcases h with rfl | ⟨a, b, rfl, rfl, h⟩
  · exact hr
  · exact h.rep hr
theorem NilT.rep {c : Cx} {x y : TV} (h : NilT x y) {v : Value} (hr : RepT c x v) : RepT c y v := by
  cases x with
  | c x => cases y with
    | c y => exact NilC.rep h hr
    | agg _ => exact h.elim
  | agg xs => cases y with
    | c _ => exact h.elim
    | agg ys =>
      obtain ⟨vs, e, hv⟩ := hr
      exact ⟨vs, e, all2_rep (R := NilC) (T' := RepC c) (fun _ _ _ h1 h2 => NilC.rep h1 h2) h hv⟩
theorem NilA.rep {c : Cx} {x y : AV} (h : NilA x y) {v : Value} (hr : RepA c x v) : RepA c y v := by
  cases x with
  | dead => cases y <;> exact h.elim
  | t x => cases y with
    | t y => exact NilT.rep h hr
    | _ => exact h.elim
  | tup xs => cases y with
    | tup ys =>
      obtain ⟨vs, e, hv⟩ := hr
      exact ⟨vs, e, all2_rep (R := NilT) (T' := RepT c) (fun _ _ _ h1 h2 => NilT.rep h1 h2) h hv⟩
    | _ => exact h.elim
theorem AC.nilR {P : Program} {f : FuncId} {args : List TV} {hp hp' : Hp} {k n : Nat} {x y : AV} (h : AC P f args hp k ⟨x, hp', n⟩) (hx : NilA x y) : AC P f args hp k ⟨y, hp', n⟩ :=
  ⟨h.1, fun c vs g hU hA => Calls.mono (h.2 c vs g hU hA) fun e w' ⟨v, c', h1, h2, h3, h4, h5, h6⟩ => ⟨v, c', h1, h2, h3, h4, hx.rep h5, h6⟩⟩
theorem AC.nilL {P : Program} {f : FuncId} {args args' : List TV} {hp : Hp} {k : Nat} {out : Out} (h : AC P f args' hp k out) (hx : All2 NilT args args') : AC P f args hp k out :=
  ⟨h.1, fun c vs g hU hA => h.2 c vs g hU (all2_rep (R := NilT) (T' := RepT c) (fun _ _ _ h1 h2 => NilT.rep h1 h2) hx hA)⟩
theorem NilT.refl (x : TV) : NilT x x := by
  cases x with
  | c x => exact .inl rfl
  | agg xs => exact All2.of_get rfl fun i a b ha hb => by rw [ha] at hb; exact .inl (Option.some.inj hb)
theorem NilC.nil (k : Nat) : NilC (.d (.s (.slice none 0 0))) (.d (.rs k [])) := .inr ⟨_, _, rfl, rfl, .nil k⟩
theorem iref (a : Int) : decide (a = a) = true := decide_eq_true rfl
theorem sref (a : ByteArray) : decide (a = a) = true := decide_eq_true rfl
theorem bref (a : Bool) : (a == a) = true := by cases a <;> rfl
theorem eqEntry_ac (e : Ent) : AC Tryz.prog 72 [entT e, entT e] noHp 0 ⟨.t (bT true), noHp, 0⟩ := by
  refine AC_of Tryz.func72 rfl Tryz.ntmps72 Tryz.results72 (by kernel_rfl) rfl ?_
  simp only [List.zipIdx, List.map, Nat.zero_add, Nat.reduceAdd]
  repeat (first | apply Aw_seq | apply Aw_block | apply Aw_skip | apply Aw_exit | refine Aw_condt rfl ?_ | refine Aw_condf rfl ?_ | ((first | refine qr ?_ | refine qd (by kernel_rfl) (by kernel_rfl) ?_); simp only [go_sem, jE, reduceIte, jA, jM, jS, jL, jD, jB, iref, sref, bref]) | refine dk (by kernel_rfl) ?_)
  exact Aw_ret (ret0 (.inl rfl) (by simp only [go_sem, jE, reduceIte, jA, jM, jS, jL, jD, jB]; rfl) (by rfl) rfl)
theorem eqEntryS_ac (r : List Ent) (hl : r.length ≤ 1099511627776) : AC Tryz.prog 23 [runT r, runT r] noHp 0 ⟨.t (bT true), noHp, 0⟩ := by
  refine AC_of Tryz.func23 rfl Tryz.ntmps23 Tryz.results23 (by kernel_rfl) rfl ?_
  simp only [List.zipIdx, List.map, Nat.zero_add, Nat.reduceAdd]
  repeat (first | apply Aw_seq | apply Aw_block | apply Aw_skip | apply Aw_exit | refine Aw_condt rfl ?_ | refine Aw_condf rfl ?_ | ((first | refine qr ?_ | refine qd (by kernel_rfl) (by kernel_rfl) ?_); simp only [go_sem, jE, reduceIte, jA, jM, jS, jL, jD, jB, iref]) | refine dk (by kernel_rfl) ?_)
  refine Aw.rw (rw0 (l' := [(5, .t (iT (0 : Nat))), (1, .t (runT r)), (0, .t (runT r))]) (n' := 0) (by repeat (first | exact trivial | refine ⟨rfl, rfl, ?_⟩))) ?_
  refine Aw_loop0 (ι := { i : Nat // i ≤ r.length ∧ (True) }) (fun q => [(5, .t (iT (q.1 : Nat))), (1, .t (runT r)), (0, .t (runT r))]) (fun q => r.length - q.1) ⟨0, Nat.zero_le _, trivial⟩ ?_
  rintro ⟨i, hi, hp⟩
  dsimp only
  by_cases hlt : i < r.length
  · have h1 : (i : Int) < (r.length : Int) := by omega
    have h2 := wrap_succ hlt hl
    obtain ⟨e, hx⟩ : ∃ e, r[i]? = some e := ⟨_, List.getElem?_eq_getElem hlt⟩
    repeat (first | apply Aw_seq | apply Aw_block | apply Aw_skip | apply Aw_exit | refine Aw_condt rfl ?_ | refine Aw_condf rfl ?_ | ((first | refine qr ?_ | refine qd (by kernel_rfl) (by kernel_rfl) ?_); simp only [go_sem, jE, reduceIte, jA, jM, jS, jL, jD, jB, h1, h2, hx, iref, sref, bref]) | refine dk (by kernel_rfl) ?_ | (refine qp (eqEntry_ac e) (by simp only [go_sem, jE, reduceIte, jA, jM, jS, jL, jD, jB, h1, h2, hx, iref, sref, bref]; first | done | rfl) rfl (by simp only [go_sem, Nat.reduceLT]) rfl rfl ?_; simp only [go_sem, jE, reduceIte, jA, jM, jS, jL, jD, jB, h1, h2, hx, iref, sref, bref]))
    exact ⟨⟨i + 1, by omega, trivial⟩, (by simp only []; omega), rw0 (by repeat (first | exact trivial | refine ⟨rfl, rfl, ?_⟩))⟩
  · have h1 : ¬ (i : Int) < (r.length : Int) := by omega
    repeat (first | apply Aw_seq | apply Aw_block | apply Aw_skip | apply Aw_exit | refine Aw_condt rfl ?_ | refine Aw_condf rfl ?_ | ((first | refine qr ?_ | refine qd (by kernel_rfl) (by kernel_rfl) ?_); simp only [go_sem, jE, reduceIte, jA, jM, jS, jL, jD, jB, h1]) | refine dk (by kernel_rfl) ?_)
    exact Aw_ret (ret0 (.inl rfl) (by simp only [go_sem, jE, reduceIte, jA, jM, jS, jL, jD, jB]; rfl) (by rfl) rfl)
theorem eqEntrySS_ac (r : List (List Ent)) (hl : r.length ≤ 1099511627776) (he : ∀ e ∈ r, e.length ≤ 1099511627776) : AC Tryz.prog 38 [lvsT r, lvsT r] noHp 0 ⟨.t (bT true), noHp, 0⟩ := by
  refine AC_of Tryz.func38 rfl Tryz.ntmps38 Tryz.results38 (by kernel_rfl) rfl ?_
  simp only [List.zipIdx, List.map, Nat.zero_add, Nat.reduceAdd]
  repeat (first | apply Aw_seq | apply Aw_block | apply Aw_skip | apply Aw_exit | refine Aw_condt rfl ?_ | refine Aw_condf rfl ?_ | ((first | refine qr ?_ | refine qd (by kernel_rfl) (by kernel_rfl) ?_); simp only [go_sem, jE, reduceIte, jA, jM, jS, jL, jD, jB, iref]) | refine dk (by kernel_rfl) ?_)
  refine Aw.rw (rw0 (l' := [(5, .t (iT (0 : Nat))), (1, .t (lvsT r)), (0, .t (lvsT r))]) (n' := 0) (by repeat (first | exact trivial | refine ⟨rfl, rfl, ?_⟩))) ?_
  refine Aw_loop0 (ι := { i : Nat // i ≤ r.length ∧ (True) }) (fun q => [(5, .t (iT (q.1 : Nat))), (1, .t (lvsT r)), (0, .t (lvsT r))]) (fun q => r.length - q.1) ⟨0, Nat.zero_le _, trivial⟩ ?_
  rintro ⟨i, hi, hp⟩
  dsimp only
  by_cases hlt : i < r.length
  · have h1 : (i : Int) < (r.length : Int) := by omega
    have h2 := wrap_succ hlt hl
    obtain ⟨e, hx⟩ : ∃ e, r[i]? = some e := ⟨_, List.getElem?_eq_getElem hlt⟩
    repeat (first | apply Aw_seq | apply Aw_block | apply Aw_skip | apply Aw_exit | refine Aw_condt rfl ?_ | refine Aw_condf rfl ?_ | ((first | refine qr ?_ | refine qd (by kernel_rfl) (by kernel_rfl) ?_); simp only [go_sem, jE, reduceIte, jA, jM, jS, jL, jD, jB, h1, h2, hx, iref, sref, bref]) | refine dk (by kernel_rfl) ?_ | (refine qp (eqEntryS_ac e (he e (List.mem_of_getElem? hx))) (by simp only [go_sem, jE, reduceIte, jA, jM, jS, jL, jD, jB, h1, h2, hx, iref, sref, bref]; first | done | rfl) rfl (by simp only [go_sem, Nat.reduceLT]) rfl rfl ?_; simp only [go_sem, jE, reduceIte, jA, jM, jS, jL, jD, jB, h1, h2, hx, iref, sref, bref]))
    exact ⟨⟨i + 1, by omega, trivial⟩, (by simp only []; omega), rw0 (by repeat (first | exact trivial | refine ⟨rfl, rfl, ?_⟩))⟩
  · have h1 : ¬ (i : Int) < (r.length : Int) := by omega
    repeat (first | apply Aw_seq | apply Aw_block | apply Aw_skip | apply Aw_exit | refine Aw_condt rfl ?_ | refine Aw_condf rfl ?_ | ((first | refine qr ?_ | refine qd (by kernel_rfl) (by kernel_rfl) ?_); simp only [go_sem, jE, reduceIte, jA, jM, jS, jL, jD, jB, h1]) | refine dk (by kernel_rfl) ?_)
    exact Aw_ret (ret0 (.inl rfl) (by simp only [go_sem, jE, reduceIte, jA, jM, jS, jL, jD, jB]; rfl) (by rfl) rfl)
theorem eqStringS_ac (r : List ByteArray) (hl : r.length ≤ 1099511627776) : AC Tryz.prog 126 [strsT r, strsT r] noHp 0 ⟨.t (bT true), noHp, 0⟩ := by
  refine AC_of Tryz.func126 rfl Tryz.ntmps126 Tryz.results126 (by kernel_rfl) rfl ?_
  simp only [List.zipIdx, List.map, Nat.zero_add, Nat.reduceAdd]
  repeat (first | apply Aw_seq | apply Aw_block | apply Aw_skip | apply Aw_exit | refine Aw_condt rfl ?_ | refine Aw_condf rfl ?_ | ((first | refine qr ?_ | refine qd (by kernel_rfl) (by kernel_rfl) ?_); simp only [go_sem, jE, reduceIte, jA, jM, jS, jL, jD, jB, iref]) | refine dk (by kernel_rfl) ?_)
  refine Aw.rw (rw0 (l' := [(5, .t (iT (0 : Nat))), (1, .t (strsT r)), (0, .t (strsT r))]) (n' := 0) (by repeat (first | exact trivial | refine ⟨rfl, rfl, ?_⟩))) ?_
  refine Aw_loop0 (ι := { i : Nat // i ≤ r.length ∧ (True) }) (fun q => [(5, .t (iT (q.1 : Nat))), (1, .t (strsT r)), (0, .t (strsT r))]) (fun q => r.length - q.1) ⟨0, Nat.zero_le _, trivial⟩ ?_
  rintro ⟨i, hi, hp⟩
  dsimp only
  by_cases hlt : i < r.length
  · have h1 : (i : Int) < (r.length : Int) := by omega
    have h2 := wrap_succ hlt hl
    obtain ⟨e, hx⟩ : ∃ e, r[i]? = some e := ⟨_, List.getElem?_eq_getElem hlt⟩
    repeat (first | apply Aw_seq | apply Aw_block | apply Aw_skip | apply Aw_exit | refine Aw_condt rfl ?_ | refine Aw_condf rfl ?_ | ((first | refine qr ?_ | refine qd (by kernel_rfl) (by kernel_rfl) ?_); simp only [go_sem, jE, reduceIte, jA, jM, jS, jL, jD, jB, h1, h2, hx, iref, sref, bref]) | refine dk (by kernel_rfl) ?_)
    exact ⟨⟨i + 1, by omega, trivial⟩, (by simp only []; omega), rw0 (by repeat (first | exact trivial | refine ⟨rfl, rfl, ?_⟩))⟩
  · have h1 : ¬ (i : Int) < (r.length : Int) := by omega
    repeat (first | apply Aw_seq | apply Aw_block | apply Aw_skip | apply Aw_exit | refine Aw_condt rfl ?_ | refine Aw_condf rfl ?_ | ((first | refine qr ?_ | refine qd (by kernel_rfl) (by kernel_rfl) ?_); simp only [go_sem, jE, reduceIte, jA, jM, jS, jL, jD, jB, h1]) | refine dk (by kernel_rfl) ?_)
    exact Aw_ret (ret0 (.inl rfl) (by simp only [go_sem, jE, reduceIte, jA, jM, jS, jL, jD, jB]; rfl) (by rfl) rfl)
theorem eqSieve_ac (s : Sve) (hl : s.rests.length ≤ 1099511627776) : AC Tryz.prog 83 [sveP s, sveP s] noHp 0 ⟨.t (bT true), noHp, 0⟩ := by
  refine AC_of Tryz.func83 rfl Tryz.ntmps83 Tryz.results83 (by kernel_rfl) rfl ?_
  simp only [List.zipIdx, List.map, Nat.zero_add, Nat.reduceAdd]
  repeat (first | apply Aw_seq | apply Aw_block | apply Aw_skip | apply Aw_exit | refine Aw_condt rfl ?_ | refine Aw_condf rfl ?_ | ((first | refine qr ?_ | refine qd (by kernel_rfl) (by kernel_rfl) ?_); simp only [go_sem, jE, reduceIte, jA, jM, jS, jL, jD, jB, iref, sref, bref]) | refine dk (by kernel_rfl) ?_ | (refine qp (eqStringS_ac s.rests hl) (by simp only [go_sem, jE, reduceIte, jA, jM, jS, jL, jD, jB, iref, sref, bref]; first | done | rfl) rfl (by simp only [go_sem, Nat.reduceLT]) rfl rfl ?_; simp only [go_sem, jE, reduceIte, jA, jM, jS, jL, jD, jB, iref, sref, bref]))
  exact Aw_ret (ret0 (.inl rfl) (by simp only [go_sem, jE, reduceIte, jA, jM, jS, jL, jD, jB]; rfl) (by rfl) rfl)
theorem eqSieveS_ac (r : List Sve) (hl : r.length ≤ 1099511627776) (he : ∀ e ∈ r, e.rests.length ≤ 1099511627776) : AC Tryz.prog 39 [svsT r, svsT r] noHp 0 ⟨.t (bT true), noHp, 0⟩ := by
  refine AC_of Tryz.func39 rfl Tryz.ntmps39 Tryz.results39 (by kernel_rfl) rfl ?_
  simp only [List.zipIdx, List.map, Nat.zero_add, Nat.reduceAdd]
  repeat (first | apply Aw_seq | apply Aw_block | apply Aw_skip | apply Aw_exit | refine Aw_condt rfl ?_ | refine Aw_condf rfl ?_ | ((first | refine qr ?_ | refine qd (by kernel_rfl) (by kernel_rfl) ?_); simp only [go_sem, jE, reduceIte, jA, jM, jS, jL, jD, jB, iref]) | refine dk (by kernel_rfl) ?_)
  refine Aw.rw (rw0 (l' := [(5, .t (iT (0 : Nat))), (1, .t (svsT r)), (0, .t (svsT r))]) (n' := 0) (by repeat (first | exact trivial | refine ⟨rfl, rfl, ?_⟩))) ?_
  refine Aw_loop0 (ι := { i : Nat // i ≤ r.length ∧ (True) }) (fun q => [(5, .t (iT (q.1 : Nat))), (1, .t (svsT r)), (0, .t (svsT r))]) (fun q => r.length - q.1) ⟨0, Nat.zero_le _, trivial⟩ ?_
  rintro ⟨i, hi, hp⟩
  dsimp only
  by_cases hlt : i < r.length
  · have h1 : (i : Int) < (r.length : Int) := by omega
    have h2 := wrap_succ hlt hl
    obtain ⟨e, hx⟩ : ∃ e, r[i]? = some e := ⟨_, List.getElem?_eq_getElem hlt⟩
    repeat (first | apply Aw_seq | apply Aw_block | apply Aw_skip | apply Aw_exit | refine Aw_condt rfl ?_ | refine Aw_condf rfl ?_ | ((first | refine qr ?_ | refine qd (by kernel_rfl) (by kernel_rfl) ?_); simp only [go_sem, jE, reduceIte, jA, jM, jS, jL, jD, jB, h1, h2, hx, iref, sref, bref]) | refine dk (by kernel_rfl) ?_ | (refine qp (eqSieve_ac e (he e (List.mem_of_getElem? hx))) (by simp only [go_sem, jE, reduceIte, jA, jM, jS, jL, jD, jB, h1, h2, hx, iref, sref, bref]; first | done | rfl) rfl (by simp only [go_sem, Nat.reduceLT]) rfl rfl ?_; simp only [go_sem, jE, reduceIte, jA, jM, jS, jL, jD, jB, h1, h2, hx, iref, sref, bref]))
    exact ⟨⟨i + 1, by omega, trivial⟩, (by simp only []; omega), rw0 (by repeat (first | exact trivial | refine ⟨rfl, rfl, ?_⟩))⟩
  · have h1 : ¬ (i : Int) < (r.length : Int) := by omega
    repeat (first | apply Aw_seq | apply Aw_block | apply Aw_skip | apply Aw_exit | refine Aw_condt rfl ?_ | refine Aw_condf rfl ?_ | ((first | refine qr ?_ | refine qd (by kernel_rfl) (by kernel_rfl) ?_); simp only [go_sem, jE, reduceIte, jA, jM, jS, jL, jD, jB, h1]) | refine dk (by kernel_rfl) ?_)
    exact Aw_ret (ret0 (.inl rfl) (by simp only [go_sem, jE, reduceIte, jA, jM, jS, jL, jD, jB]; rfl) (by rfl) rfl)
theorem eqIntS_ac (r : List Int) (hl : r.length ≤ 1099511627776) : AC Tryz.prog 40 [intsT r, intsT r] noHp 0 ⟨.t (bT true), noHp, 0⟩ := by
  refine AC_of Tryz.func40 rfl Tryz.ntmps40 Tryz.results40 (by kernel_rfl) rfl ?_
  simp only [List.zipIdx, List.map, Nat.zero_add, Nat.reduceAdd]
  repeat (first | apply Aw_seq | apply Aw_block | apply Aw_skip | apply Aw_exit | refine Aw_condt rfl ?_ | refine Aw_condf rfl ?_ | ((first | refine qr ?_ | refine qd (by kernel_rfl) (by kernel_rfl) ?_); simp only [go_sem, jE, reduceIte, jA, jM, jS, jL, jD, jB, iref]) | refine dk (by kernel_rfl) ?_)
  refine Aw.rw (rw0 (l' := [(5, .t (iT (0 : Nat))), (1, .t (intsT r)), (0, .t (intsT r))]) (n' := 0) (by repeat (first | exact trivial | refine ⟨rfl, rfl, ?_⟩))) ?_
  refine Aw_loop0 (ι := { i : Nat // i ≤ r.length ∧ (True) }) (fun q => [(5, .t (iT (q.1 : Nat))), (1, .t (intsT r)), (0, .t (intsT r))]) (fun q => r.length - q.1) ⟨0, Nat.zero_le _, trivial⟩ ?_
  rintro ⟨i, hi, hp⟩
  dsimp only
  by_cases hlt : i < r.length
  · have h1 : (i : Int) < (r.length : Int) := by omega
    have h2 := wrap_succ hlt hl
    obtain ⟨e, hx⟩ : ∃ e, r[i]? = some e := ⟨_, List.getElem?_eq_getElem hlt⟩
    repeat (first | apply Aw_seq | apply Aw_block | apply Aw_skip | apply Aw_exit | refine Aw_condt rfl ?_ | refine Aw_condf rfl ?_ | ((first | refine qr ?_ | refine qd (by kernel_rfl) (by kernel_rfl) ?_); simp only [go_sem, jE, reduceIte, jA, jM, jS, jL, jD, jB, h1, h2, hx, iref, sref, bref]) | refine dk (by kernel_rfl) ?_)
    exact ⟨⟨i + 1, by omega, trivial⟩, (by simp only []; omega), rw0 (by repeat (first | exact trivial | refine ⟨rfl, rfl, ?_⟩))⟩
  · have h1 : ¬ (i : Int) < (r.length : Int) := by omega
    repeat (first | apply Aw_seq | apply Aw_block | apply Aw_skip | apply Aw_exit | refine Aw_condt rfl ?_ | refine Aw_condf rfl ?_ | ((first | refine qr ?_ | refine qd (by kernel_rfl) (by kernel_rfl) ?_); simp only [go_sem, jE, reduceIte, jA, jM, jS, jL, jD, jB, h1]) | refine dk (by kernel_rfl) ?_)
    exact Aw_ret (ret0 (.inl rfl) (by simp only [go_sem, jE, reduceIte, jA, jM, jS, jL, jD, jB]; rfl) (by rfl) rfl)
structure farT (s : Sto) : Prop where
  top : s.top.length ≤ 1099511627776
  ll : s.levels.length ≤ 1099511627776
  levels : ∀ e ∈ s.levels, e.length ≤ 1099511627776
  sl : s.sieves.length ≤ 1099511627776
  sieves : ∀ e ∈ s.sieves, e.rests.length ≤ 1099511627776
  times : s.times.length ≤ 1099511627776
theorem midT.far {s : Sto} (h : midT s) : farT s := ⟨by have := h.top; omega, by have := h.ll; omega, fun e he => by have := h.levels e he; omega, by have := h.sl; omega, fun e he => by have := h.sieves e he; omega, by have := h.times; omega⟩
theorem eqStore_ac (s : Sto) (h : farT s) : AC Tryz.prog 12 [stT s, stT s] noHp 0 ⟨.t (bT true), noHp, 0⟩ := by
  refine AC_of Tryz.func12 rfl Tryz.ntmps12 Tryz.results12 (by kernel_rfl) rfl ?_
  simp only [List.zipIdx, List.map, Nat.zero_add, Nat.reduceAdd]
  repeat (first | apply Aw_seq | apply Aw_block | apply Aw_skip | apply Aw_exit | refine Aw_condt rfl ?_ | refine Aw_condf rfl ?_ | ((first | refine qr ?_ | refine qd (by kernel_rfl) (by kernel_rfl) ?_); simp only [go_sem, jE, reduceIte, jA, jM, jS, jL, jD, jB, iref, sref, bref]) | refine dk (by kernel_rfl) ?_ | (refine qp (eqEntryS_ac s.top h.top) (by simp only [go_sem, jE, reduceIte, jA, jM, jS, jL, jD, jB, iref, sref, bref]; first | done | rfl) rfl (by simp only [go_sem, Nat.reduceLT]) rfl rfl ?_; simp only [go_sem, jE, reduceIte, jA, jM, jS, jL, jD, jB, iref, sref, bref]) | (refine qp (eqEntrySS_ac s.levels h.ll h.levels) (by simp only [go_sem, jE, reduceIte, jA, jM, jS, jL, jD, jB, iref, sref, bref]; first | done | rfl) rfl (by simp only [go_sem, Nat.reduceLT]) rfl rfl ?_; simp only [go_sem, jE, reduceIte, jA, jM, jS, jL, jD, jB, iref, sref, bref]) | (refine qp (eqSieveS_ac s.sieves h.sl h.sieves) (by simp only [go_sem, jE, reduceIte, jA, jM, jS, jL, jD, jB, iref, sref, bref]; first | done | rfl) rfl (by simp only [go_sem, Nat.reduceLT]) rfl rfl ?_; simp only [go_sem, jE, reduceIte, jA, jM, jS, jL, jD, jB, iref, sref, bref]) | (refine qp (eqIntS_ac s.times h.times) (by simp only [go_sem, jE, reduceIte, jA, jM, jS, jL, jD, jB, iref, sref, bref]; first | done | rfl) rfl (by simp only [go_sem, Nat.reduceLT]) rfl rfl ?_; simp only [go_sem, jE, reduceIte, jA, jM, jS, jL, jD, jB, iref, sref, bref]))
  exact Aw_ret (ret0 (.inl rfl) (by simp only [go_sem, jE, reduceIte, jA, jM, jS, jL, jD, jB]; rfl) (by rfl) rfl)
theorem wS_mem {α : Type} {f : α → Nat} {xs : List α} {x : α} (h : x ∈ xs) : f x ≤ wS f xs := by
  unfold wS
  have : ∀ ys : List Nat, ∀ y ∈ ys, y ≤ ys.sum := fun ys => by
    induction ys with
    | nil => intro y hy; simp at hy
    | cons a r ih => intro y hy; rcases List.mem_cons.1 hy with rfl | hy; simp; have := ih y hy; simp; omega
  have := this (xs.map f) (f x) (List.mem_map.2 ⟨x, h, rfl⟩)
  omega
theorem wS_len {α : Type} {f : α → Nat} {xs : List α} : xs.length ≤ wS f xs := by unfold wS; omega
theorem wRun_smR {r : List Ent} {n : Nat} (h : wRun r ≤ n) (hn : n ≤ 1048576) : SmR r := ⟨by have := wS_len (f := wEnt) (xs := r); unfold wRun at h; omega, fun e he => by have := wS_mem (f := wEnt) he; unfold wRun at h; unfold wEnt at this; unfold smK; unfold wEnt at h; omega⟩
theorem w_mid {s : Sto} (h : wSto s ≤ 1048576) : midT s := by
  unfold wSto at h
  refine ⟨?_, ?_, fun e he => ?_, ?_, fun e he => ?_, ?_⟩
  · have := wS_len (f := wEnt) (xs := s.top); unfold wRun at h; omega
  · have := wS_len (f := wRun) (xs := s.levels); omega
  · have := wS_mem (f := wRun) he; have h2 := wS_len (f := wEnt) (xs := e); unfold wRun at this h; omega
  · have := wS_len (f := wSve) (xs := s.sieves); omega
  · have := wS_mem (f := wSve) he; have h2 := wS_len (f := ByteArray.size) (xs := e.rests); unfold wSve at this h; omega
  · omega
def digB (x : Nat) : ByteArray := ByteArray.empty.push (UInt8.ofNat (IntKind.u8.wrap (IntKind.i64.wrap (48 + Int.tmod (x : Int) 10))).toNat)
theorem digB_size (x : Nat) : (digB x).size = 1 := rfl
def markG (x : Nat) (s : ByteArray) : ByteArray := if h : 0 < x then markG (x / 10) (digB x ++ s) else s
termination_by x
decreasing_by omega
def mTxt : ByteArray := bs [109]
def m0Txt : ByteArray := bs [109, 48]
def markT (x : Nat) : ByteArray := if x = 0 then m0Txt else mTxt ++ markG x ByteArray.empty
theorem ten0 : ((10 : Int) = 0) = False := eq_false (by decide)
theorem three0 : ((3 : Int) = 0) = False := eq_false (by decide)
theorem markText_ac (k : Nat) (hk : k ≤ 1099511627776) : AC Tryz.prog 73 [iT k] noHp 0 ⟨.t (sT (markT k)), noHp, 0⟩ := by
  refine AC_of Tryz.func73 rfl Tryz.ntmps73 Tryz.results73 (by kernel_rfl) rfl ?_
  simp only [List.zipIdx, List.map, Nat.zero_add, Nat.reduceAdd]
  by_cases h0 : k = 0
  · subst h0
    have h1 : ((0 : Nat) : Int) ≤ 0 := by omega
    repeat (first | apply Aw_seq | apply Aw_block | apply Aw_skip | apply Aw_exit | refine Aw_condt rfl ?_ | refine Aw_condf rfl ?_ | ((first | refine qr ?_ | refine qd (by kernel_rfl) (by kernel_rfl) ?_); simp only [go_sem, jE, reduceIte, jA, jM, jS, jL, jD, jB, h1]) | refine dk (by kernel_rfl) ?_)
    exact Aw_ret (ret0 (.inl rfl) (by simp only [go_sem, jE, reduceIte, jA, jM, jS, jL, jD, jB]; rfl) (by rfl) rfl)
  have h1 : ¬ ((k : Int) ≤ 0) := by omega
  repeat (first | apply Aw_seq | apply Aw_block | apply Aw_skip | apply Aw_exit | refine Aw_condt rfl ?_ | refine Aw_condf rfl ?_ | ((first | refine qr ?_ | refine qd (by kernel_rfl) (by kernel_rfl) ?_); simp only [go_sem, jE, reduceIte, jA, jM, jS, jL, jD, jB, h1]) | refine dk (by kernel_rfl) ?_)
  refine Aw.rw (rwL (l' := [(3, .t (sT ByteArray.empty)), (0, .t (iT (k : Nat)))]) (os := []) (M := []) (n' := 0) (by repeat (first | exact trivial | refine ⟨rfl, rfl, ?_⟩)) (by rfl) (by simp only [go_sem, jE, reduceIte, jA, jM, jS, jL, jD, jB]; first | done | rfl) (by decide) (by unfold idM; decide)) ?_
  refine Aw_loop_rw (ι := { p : Nat × ByteArray // p.1 ≤ 1099511627776 ∧ p.2.size + p.1 ≤ 1099511627776 ∧ mTxt ++ markG p.1 p.2 = markT k }) (fun p => S [(3, .t (sT p.1.2)), (0, .t (iT (p.1.1 : Nat)))] (hpL []) 0) (fun p => p.1.1) ⟨(k, ByteArray.empty), hk, by simpa using hk, by unfold markT; rw [if_neg h0]⟩ ?_
  rintro ⟨⟨x, s⟩, hx, hs, he⟩
  dsimp only at hx hs he ⊢
  by_cases hp : 0 < x
  · have g1 : decide ((0 : Int) < (x : Int)) = true := decide_eq_true (by omega)
    have g2 : zs.push (UInt8.ofNat (IntKind.u8.wrap (IntKind.i64.wrap (48 + (x : Int).tmod 10))).toNat) = digB x := rfl
    have g3 : IntKind.i64.wrap ((x : Int).tdiv 10) = ((x / 10 : Nat) : Int) := by
      rw [show (x : Int).tdiv 10 = ((x / 10 : Nat) : Int) from rfl]; exact wrap_nat (by omega)
    have g4 : ((digB x).size + s.size ≤ 9223372036854775807) = True := eq_true (by rw [digB_size]; omega)
    have he2 : mTxt ++ markG (x / 10) (digB x ++ s) = markT k := by
      rw [← he]
      conv => rhs; rw [markG]
      rw [dif_pos hp]
    have hs2 : (digB x ++ s).size = 1 + s.size := by rw [ByteArray.size_append, digB_size]
    repeat (first | apply Aw_seq | apply Aw_block | apply Aw_skip | apply Aw_exit | refine Aw_condt rfl ?_ | refine Aw_condf rfl ?_ | ((first | refine qr ?_ | refine qd (by kernel_rfl) (by kernel_rfl) ?_); simp only [go_sem, jE, reduceIte, jA, jM, jS, jL, jD, jB, g1, g2, g3, g4, ten0]) | refine dk (by kernel_rfl) ?_)
    refine ⟨⟨(x / 10, digB x ++ s), by dsimp only; omega, by dsimp only; omega, he2⟩, [], ?_, rwL (by repeat (first | exact trivial | refine ⟨rfl, rfl, ?_⟩)) (by rfl) (by simp only [go_sem, jE, reduceIte, jA, jM, jS, jL, jD, jB]; first | done | rfl) (by decide) (by unfold idM; decide)⟩
    show x / 10 < x; omega
  · have g1 : decide ((0 : Int) < (x : Int)) = false := decide_eq_false (by omega)
    have g3 : markG x s = s := by rw [markG, dif_neg hp]
    rw [g3] at he
    have g4 : (1 + s.size ≤ 9223372036854775807) = True := eq_true (by omega)
    rw [← he]
    unfold mTxt
    repeat (first | apply Aw_seq | apply Aw_block | apply Aw_skip | apply Aw_exit | refine Aw_condt rfl ?_ | refine Aw_condf rfl ?_ | ((first | refine qr ?_ | refine qd (by kernel_rfl) (by kernel_rfl) ?_); simp only [go_sem, jE, reduceIte, jA, jM, jS, jL, jD, jB, g1, g4]) | refine dk (by kernel_rfl) ?_)
    exact Aw_ret (ret0 (.inl rfl) (by simp only [go_sem, jE, reduceIte, jA, jM, jS, jL, jD, jB]; rfl) (by rfl) rfl)
/-- What has been marked, i elements of it. -/
def mkD {α : Type} (f : α → List D) (m : Nat → α) (xs : List α) (i : Nat) : List (List D) := (List.range i).map (fun j => f (m j)) ++ (xs.drop i).map f
theorem mkD_0 {α : Type} (f : α → List D) (m : Nat → α) (xs : List α) : mkD f m xs 0 = xs.map f := by simp [mkD]
theorem mkD_end {α : Type} (f : α → List D) (m : Nat → α) (xs : List α) : mkD f m xs xs.length = ((List.range xs.length).map m).map f := by simp [mkD]
theorem mkD_ln {α : Type} (f : α → List D) (m : Nat → α) (xs : List α) {i : Nat} (h : i ≤ xs.length) : (mkD f m xs i).length = xs.length := by simp [mkD]; omega
theorem mkD_get {α : Type} (f : α → List D) (m : Nat → α) {xs : List α} {i : Nat} {x : α} (h : xs[i]? = some x) : ((mkD f m xs i).map (·.map CV.d))[i]? = some ((f x).map .d) := by
  unfold mkD
  rw [List.getElem?_map, List.getElem?_append_right (by simp), List.getElem?_map]
  simp [List.getElem?_drop, h]
theorem mkD_set {α : Type} (f : α → List D) (m : Nat → α) {xs : List α} {i : Nat} (h : i < xs.length) : ((mkD f m xs i).map (·.map CV.d)).set i ((f (m i)).map .d) = (mkD f m xs (i + 1)).map (·.map .d) := by
  unfold mkD
  rw [List.drop_eq_getElem_cons h, List.range_succ]
  simp only [List.map_append, List.map_cons, List.map_nil, List.append_assoc]
  rw [List.set_append_right _ _ (by simp)]
  simp
theorem set_get {α : Type} {L : List α} {i : Nat} (h : i < L.length) (c : α) : (L.set i c)[i]? = some c := by rw [List.getElem?_set_self h]
def mStrs (k n : Nat) : List ByteArray := (List.range n).map fun j => markT (k + j)
theorem markStringS_ac (r : List ByteArray) (k : Nat) (hk : k + r.length ≤ 1099511627776) : AC Tryz.prog 84 [.c (.h 0), iT k] (hpL [some (dRow 9 1 (r.map strD))]) 1 ⟨.t (iT ((k + r.length : Nat) : Int)), hpL [some (dRow 9 1 ((mStrs k r.length).map strD))], 1⟩ := by
  refine AC_of Tryz.func84 rfl Tryz.ntmps84 Tryz.results84 (by kernel_rfl) rfl ?_
  simp only [List.zipIdx, List.map, Nat.zero_add, Nat.reduceAdd]
  repeat (first | apply Aw_seq | apply Aw_block | apply Aw_skip | apply Aw_exit | refine Aw_condt rfl ?_ | refine Aw_condf rfl ?_ | ((first | refine qr ?_ | refine qd (by kernel_rfl) (by kernel_rfl) ?_); simp only [go_sem, jE, reduceIte, jA, jM, jS, jL, jD, jB]) | refine dk (by kernel_rfl) ?_)
  refine Aw.rw (rwL (l' := [(5, .t (iT (0 : Nat))), (1, .t (iT ((k + 0 : Nat) : Int))), (0, .t (.c (.h 0)))]) (os := [some (dRow 9 1 (mkD strD (fun j => markT (k + j)) r 0))]) (M := [0]) (n' := 1) (by repeat (first | exact trivial | refine ⟨rfl, rfl, ?_⟩)) (by rfl) (by simp only [go_sem, jE, reduceIte, jA, jM, jS, jL, jD, jB, mkD_0]; first | done | rfl) (by decide) (by unfold idM; decide)) ?_
  refine Aw_loop_rw (ι := { j : Nat // j ≤ r.length }) (fun j => S [(5, .t (iT (j.1 : Nat))), (1, .t (iT ((k + j.1 : Nat) : Int))), (0, .t (.c (.h 0)))] (hpL [some (dRow 9 1 (mkD strD (fun j => markT (k + j)) r j.1))]) 1) (fun j => r.length - j.1) ⟨0, Nat.zero_le _⟩ ?_
  rintro ⟨i, hi⟩
  dsimp only
  have g0 := mkD_ln strD (fun j => markT (k + j)) r hi
  by_cases hlt : i < r.length
  · have h1 : (i : Int) < (r.length : Int) := by omega
    have h2 := wrap_succ hlt (by omega)
    have h3 : IntKind.i64.wrap (((k + i : Nat) : Int) + 1) = ((k + (i + 1) : Nat) : Int) := wrap_succ (m := k + i + 1) (by omega) (by omega)
    obtain ⟨e, hx⟩ : ∃ e, r[i]? = some e := ⟨_, List.getElem?_eq_getElem hlt⟩
    have g2 := mkD_get strD (fun j => markT (k + j)) hx
    have g3 := mkD_set strD (fun j => markT (k + j)) hlt
    simp only [strD, List.map] at g2
    rw [show (((strD (markT (k + i))).map CV.d)) = [.d (.s (.string (markT (k + i))))] from rfl] at g3
    have km := markText_ac (k + i) (by omega)
    repeat (first | apply Aw_seq | apply Aw_block | apply Aw_skip | apply Aw_exit | refine Aw_condt rfl ?_ | refine Aw_condf rfl ?_ | ((first | refine qr ?_ | refine qd (by kernel_rfl) (by kernel_rfl) ?_); simp only [go_sem, jE, reduceIte, jA, jM, jS, jL, jD, jB, h1, h2, h3, hlt, g0, g2]) | refine dk (by kernel_rfl) ?_ | (refine qp (km) (by simp only [go_sem, jE, reduceIte, jA, jM, jS, jL, jD, jB, h1, h2, h3, hlt, g0, g2]; first | done | rfl) rfl (by simp only [go_sem, Nat.reduceLT]) rfl rfl ?_; simp only [go_sem, jE, reduceIte, jA, jM, jS, jL, jD, jB, h1, h2, h3, hlt, g0, g2]))
    refine ⟨⟨i + 1, hlt⟩, [0], ?_, rwL (by repeat (first | exact trivial | refine ⟨rfl, rfl, ?_⟩)) (by rfl) (by simp only [go_sem, jE, reduceIte, jA, jM, jS, jL, jD, jB, g3]; first | done | rfl) (by decide) (by unfold idM; decide)⟩
    show r.length - (i + 1) < r.length - i; omega
  · have h1 : ¬ (i : Int) < (r.length : Int) := by omega
    obtain rfl : i = r.length := by omega
    repeat (first | apply Aw_seq | apply Aw_block | apply Aw_skip | apply Aw_exit | refine Aw_condt rfl ?_ | refine Aw_condf rfl ?_ | ((first | refine qr ?_ | refine qd (by kernel_rfl) (by kernel_rfl) ?_); simp only [go_sem, jE, reduceIte, jA, jM, jS, jL, jD, jB, h1, g0]) | refine dk (by kernel_rfl) ?_)
    exact Aw_ret (retL (M := [0]) (.inl rfl) (by simp only [go_sem, jE, reduceIte, jA, jM, jS, jL, jD, jB]; first | done | rfl) rfl rfl (by rfl) (by simp only [go_sem, jE, reduceIte, jA, jM, jS, jL, jD, jB, mkD_end, mStrs]; first | done | rfl | (and_intros <;> rfl)) (by decide) (by unfold idM; decide))
def mInts (k n : Nat) : List Int := (List.range n).map fun j => (((k + j) : Nat) : Int)
theorem markIntS_ac (r : List Int) (k : Nat) (hk : k + r.length ≤ 1099511627776) : AC Tryz.prog 43 [.c (.h 0), iT k] (hpL [some (dRow 3 1 (r.map intD))]) 1 ⟨.t (iT ((k + r.length : Nat) : Int)), hpL [some (dRow 3 1 ((mInts k r.length).map intD))], 1⟩ := by
  refine AC_of Tryz.func43 rfl Tryz.ntmps43 Tryz.results43 (by kernel_rfl) rfl ?_
  simp only [List.zipIdx, List.map, Nat.zero_add, Nat.reduceAdd]
  repeat (first | apply Aw_seq | apply Aw_block | apply Aw_skip | apply Aw_exit | refine Aw_condt rfl ?_ | refine Aw_condf rfl ?_ | ((first | refine qr ?_ | refine qd (by kernel_rfl) (by kernel_rfl) ?_); simp only [go_sem, jE, reduceIte, jA, jM, jS, jL, jD, jB]) | refine dk (by kernel_rfl) ?_)
  refine Aw.rw (rwL (l' := [(5, .t (iT (0 : Nat))), (1, .t (iT ((k + 0 : Nat) : Int))), (0, .t (.c (.h 0)))]) (os := [some (dRow 3 1 (mkD intD (fun j => (((k + j) : Nat) : Int)) r 0))]) (M := [0]) (n' := 1) (by repeat (first | exact trivial | refine ⟨rfl, rfl, ?_⟩)) (by rfl) (by simp only [go_sem, jE, reduceIte, jA, jM, jS, jL, jD, jB, mkD_0]; first | done | rfl) (by decide) (by unfold idM; decide)) ?_
  refine Aw_loop_rw (ι := { j : Nat // j ≤ r.length }) (fun j => S [(5, .t (iT (j.1 : Nat))), (1, .t (iT ((k + j.1 : Nat) : Int))), (0, .t (.c (.h 0)))] (hpL [some (dRow 3 1 (mkD intD (fun j => (((k + j) : Nat) : Int)) r j.1))]) 1) (fun j => r.length - j.1) ⟨0, Nat.zero_le _⟩ ?_
  rintro ⟨i, hi⟩
  dsimp only
  have g0 := mkD_ln intD (fun j => (((k + j) : Nat) : Int)) r hi
  by_cases hlt : i < r.length
  · have h1 : (i : Int) < (r.length : Int) := by omega
    have h2 := wrap_succ hlt (by omega)
    have h3 : IntKind.i64.wrap (((k + i : Nat) : Int) + 1) = ((k + (i + 1) : Nat) : Int) := wrap_succ (m := k + i + 1) (by omega) (by omega)
    obtain ⟨e, hx⟩ : ∃ e, r[i]? = some e := ⟨_, List.getElem?_eq_getElem hlt⟩
    have g2 := mkD_get intD (fun j => (((k + j) : Nat) : Int)) hx
    have g3 := mkD_set intD (fun j => (((k + j) : Nat) : Int)) hlt
    simp only [intD, List.map] at g2
    rw [show (((intD ((((k + i) : Nat) : Int))).map CV.d)) = [.d (.s (.int .i64 ((k + i : Nat) : Int)))] from rfl] at g3
    repeat (first | apply Aw_seq | apply Aw_block | apply Aw_skip | apply Aw_exit | refine Aw_condt rfl ?_ | refine Aw_condf rfl ?_ | ((first | refine qr ?_ | refine qd (by kernel_rfl) (by kernel_rfl) ?_); simp only [go_sem, jE, reduceIte, jA, jM, jS, jL, jD, jB, h1, h2, h3, hlt, g0, g2]) | refine dk (by kernel_rfl) ?_)
    refine ⟨⟨i + 1, hlt⟩, [0], ?_, rwL (by repeat (first | exact trivial | refine ⟨rfl, rfl, ?_⟩)) (by rfl) (by simp only [go_sem, jE, reduceIte, jA, jM, jS, jL, jD, jB, g3]; first | done | rfl) (by decide) (by unfold idM; decide)⟩
    show r.length - (i + 1) < r.length - i; omega
  · have h1 : ¬ (i : Int) < (r.length : Int) := by omega
    obtain rfl : i = r.length := by omega
    repeat (first | apply Aw_seq | apply Aw_block | apply Aw_skip | apply Aw_exit | refine Aw_condt rfl ?_ | refine Aw_condf rfl ?_ | ((first | refine qr ?_ | refine qd (by kernel_rfl) (by kernel_rfl) ?_); simp only [go_sem, jE, reduceIte, jA, jM, jS, jL, jD, jB, h1, g0]) | refine dk (by kernel_rfl) ?_)
    exact Aw_ret (retL (M := [0]) (.inl rfl) (by simp only [go_sem, jE, reduceIte, jA, jM, jS, jL, jD, jB]; first | done | rfl) rfl rfl (by rfl) (by simp only [go_sem, jE, reduceIte, jA, jM, jS, jL, jD, jB, mkD_end, mInts]; first | done | rfl | (and_intros <;> rfl)) (by decide) (by unfold idM; decide))
def markE (k : Nat) : Ent := ⟨markT k, ((k + 1 : Nat) : Int), decide (Int.tmod ((k + 2 : Nat) : Int) 3 = 0), ((k + 3 : Nat) : Int)⟩
def mEnts (k n : Nat) : List Ent := (List.range n).map fun j => markE (k + 4 * j)
theorem markEntryS_ac (r : List Ent) (k : Nat) (hk : k + 4 * r.length ≤ 1099511627776) : AC Tryz.prog 24 [.c (.h 0), iT k] (hpL [some (dRow 56 4 (r.map entD))]) 1 ⟨.t (iT ((k + 4 * r.length : Nat) : Int)), hpL [some (dRow 56 4 ((mEnts k r.length).map entD))], 1⟩ := by
  refine AC_of Tryz.func24 rfl Tryz.ntmps24 Tryz.results24 (by kernel_rfl) rfl ?_
  simp only [List.zipIdx, List.map, Nat.zero_add, Nat.reduceAdd]
  repeat (first | apply Aw_seq | apply Aw_block | apply Aw_skip | apply Aw_exit | refine Aw_condt rfl ?_ | refine Aw_condf rfl ?_ | ((first | refine qr ?_ | refine qd (by kernel_rfl) (by kernel_rfl) ?_); simp only [go_sem, jE, reduceIte, jA, jM, jS, jL, jD, jB]) | refine dk (by kernel_rfl) ?_)
  refine Aw.rw (rwL (l' := [(5, .t (iT (0 : Nat))), (1, .t (iT ((k + 4 * 0 : Nat) : Int))), (0, .t (.c (.h 0)))]) (os := [some (dRow 56 4 (mkD entD (fun j => markE (k + 4 * j)) r 0))]) (M := [0]) (n' := 1) (by repeat (first | exact trivial | refine ⟨rfl, rfl, ?_⟩)) (by rfl) (by simp only [go_sem, jE, reduceIte, jA, jM, jS, jL, jD, jB, mkD_0]; first | done | rfl) (by decide) (by unfold idM; decide)) ?_
  refine Aw_loop_rw (ι := { j : Nat // j ≤ r.length }) (fun j => S [(5, .t (iT (j.1 : Nat))), (1, .t (iT ((k + 4 * j.1 : Nat) : Int))), (0, .t (.c (.h 0)))] (hpL [some (dRow 56 4 (mkD entD (fun j => markE (k + 4 * j)) r j.1))]) 1) (fun j => r.length - j.1) ⟨0, Nat.zero_le _⟩ ?_
  rintro ⟨i, hi⟩
  dsimp only
  have g0 := mkD_ln entD (fun j => markE (k + 4 * j)) r hi
  by_cases hlt : i < r.length
  · have h1 : (i : Int) < (r.length : Int) := by omega
    have h2 := wrap_succ hlt (by omega)
    obtain ⟨q, hq⟩ : ∃ q, q = k + 4 * i := ⟨_, rfl⟩
    have hqm : q + 4 ≤ 1099511627776 := by omega
    have w1 : IntKind.i64.wrap ((q : Int) + 1) = ((q + 1 : Nat) : Int) := wrap_succ (m := q + 1) (by omega) (by omega)
    have w2 : IntKind.i64.wrap (((q + 1 : Nat) : Int) + 1) = ((q + 2 : Nat) : Int) := wrap_succ (m := q + 2) (by omega) (by omega)
    have w3 : IntKind.i64.wrap (((q + 2 : Nat) : Int) + 1) = ((q + 3 : Nat) : Int) := wrap_succ (m := q + 3) (by omega) (by omega)
    have w4 : IntKind.i64.wrap (((q + 3 : Nat) : Int) + 1) = ((k + 4 * (i + 1) : Nat) : Int) := by rw [show k + 4 * (i + 1) = q + 4 by omega]; exact wrap_succ (m := q + 4) (by omega) (by omega)
    obtain ⟨e, hx⟩ : ∃ e, r[i]? = some e := ⟨_, List.getElem?_eq_getElem hlt⟩
    have km := markText_ac q (by omega)
    have g2 := mkD_get entD (fun j => markE (k + 4 * j)) hx
    have g3 := mkD_set entD (fun j => markE (k + 4 * j)) hlt
    simp only [entD, List.map] at g2
    rw [show (((entD (markE (k + 4 * i))).map CV.d)) = [.d (.s (.string (markT q))), .d (.s (.int .i64 ((q + 1 : Nat) : Int))), .d (.s (.bool (decide (Int.tmod ((q + 2 : Nat) : Int) 3 = 0)))), .d (.s (.int .i64 ((q + 3 : Nat) : Int)))] by rw [← hq]; rfl] at g3
    have gl : i < ((mkD entD (fun j => markE (k + 4 * j)) r i).map (·.map CV.d)).length := by simp [g0]; exact hlt
    have g4 := set_get gl
    rw [← hq]
    repeat (first | apply Aw_seq | apply Aw_block | apply Aw_skip | apply Aw_exit | refine Aw_condt rfl ?_ | refine Aw_condf rfl ?_ | ((first | refine qr ?_ | refine qd (by kernel_rfl) (by kernel_rfl) ?_); simp only [go_sem, jE, reduceIte, jA, jM, jS, jL, jD, jB, h1, h2, w1, w2, w3, w4, hlt, g0, g2, g4, three0, List.length_set, List.set_set, List.length_map]) | refine dk (by kernel_rfl) ?_ | (refine qp (km) (by simp only [go_sem, jE, reduceIte, jA, jM, jS, jL, jD, jB, h1, h2, w1, w2, w3, w4, hlt, g0, g2, g4, three0, List.length_set, List.set_set, List.length_map]; first | done | rfl) rfl (by simp only [go_sem, Nat.reduceLT]) rfl rfl ?_; simp only [go_sem, jE, reduceIte, jA, jM, jS, jL, jD, jB, h1, h2, w1, w2, w3, w4, hlt, g0, g2, g4, three0, List.length_set, List.set_set, List.length_map]))
    refine ⟨⟨i + 1, hlt⟩, [0], ?_, rwL (by repeat (first | exact trivial | refine ⟨rfl, rfl, ?_⟩)) (by rfl) (by simp only [go_sem, jE, reduceIte, jA, jM, jS, jL, jD, jB, g3]; first | done | rfl) (by decide) (by unfold idM; decide)⟩
    show r.length - (i + 1) < r.length - i; omega
  · have h1 : ¬ (i : Int) < (r.length : Int) := by omega
    obtain rfl : i = r.length := by omega
    repeat (first | apply Aw_seq | apply Aw_block | apply Aw_skip | apply Aw_exit | refine Aw_condt rfl ?_ | refine Aw_condf rfl ?_ | ((first | refine qr ?_ | refine qd (by kernel_rfl) (by kernel_rfl) ?_); simp only [go_sem, jE, reduceIte, jA, jM, jS, jL, jD, jB, h1, g0]) | refine dk (by kernel_rfl) ?_)
    exact Aw_ret (retL (M := [0]) (.inl rfl) (by simp only [go_sem, jE, reduceIte, jA, jM, jS, jL, jD, jB]; first | done | rfl) rfl rfl (by rfl) (by simp only [go_sem, jE, reduceIte, jA, jM, jS, jL, jD, jB, mkD_end, mEnts]; first | done | rfl | (and_intros <;> rfl)) (by decide) (by unfold idM; decide))
theorem mE_key (k : Nat) : (markE k).key = markT k := rfl
theorem mE_val (k : Nat) : (markE k).val = ((k + 1 : Nat) : Int) := rfl
theorem mE_gone (k : Nat) : (markE k).gone = decide (Int.tmod ((k + 2 : Nat) : Int) 3 = 0) := rfl
theorem mE_time (k : Nat) : (markE k).time = ((k + 3 : Nat) : Int) := rfl
theorem heldStringS_ac (k n : Nat) (hk : k + n ≤ 1099511627776) : AC Tryz.prog 85 [strsT (mStrs k n), iT k] noHp 0 ⟨.t (iT ((k + n : Nat) : Int)), noHp, 0⟩ := by
  refine AC_of Tryz.func85 rfl Tryz.ntmps85 Tryz.results85 (by kernel_rfl) rfl ?_
  simp only [List.zipIdx, List.map, Nat.zero_add, Nat.reduceAdd]
  have hl : (mStrs k n).length = n := by simp [mStrs]
  repeat (first | apply Aw_seq | apply Aw_block | apply Aw_skip | apply Aw_exit | refine Aw_condt rfl ?_ | refine Aw_condf rfl ?_ | ((first | refine qr ?_ | refine qd (by kernel_rfl) (by kernel_rfl) ?_); simp only [go_sem, jE, reduceIte, jA, jM, jS, jL, jD, jB]) | refine dk (by kernel_rfl) ?_)
  refine Aw.rw (rw0 (l' := [(5, .t (iT (0 : Nat))), (1, .t (iT ((k + 0 : Nat) : Int))), (0, .t (strsT (mStrs k n)))]) (n' := 0) (by repeat (first | exact trivial | refine ⟨rfl, rfl, ?_⟩))) ?_
  refine Aw_loop0 (ι := { i : Nat // i ≤ n ∧ (True) }) (fun q => [(5, .t (iT (q.1 : Nat))), (1, .t (iT ((k + q.1 : Nat) : Int))), (0, .t (strsT (mStrs k n)))]) (fun q => n - q.1) ⟨0, Nat.zero_le _, trivial⟩ ?_
  rintro ⟨i, hi, hp⟩
  dsimp only
  by_cases hlt : i < n
  · have h1 : (i : Int) < (n : Int) := by omega
    have h2 := wrap_succ hlt (by omega)
    have hx : (mStrs k n)[i]? = some (markT (k + i)) := by simp [mStrs, List.getElem?_map, List.getElem?_range hlt]
    have w1 : IntKind.i64.wrap (((k + i : Nat) : Int) + 1) = ((k + (i + 1) : Nat) : Int) := wrap_succ (m := k + i + 1) (by omega) (by omega)
    have km := markText_ac (k + i) (by omega)
    repeat (first | apply Aw_seq | apply Aw_block | apply Aw_skip | apply Aw_exit | refine Aw_condt rfl ?_ | refine Aw_condf rfl ?_ | ((first | refine qr ?_ | refine qd (by kernel_rfl) (by kernel_rfl) ?_); simp only [go_sem, jE, reduceIte, jA, jM, jS, jL, jD, jB, h1, h2, hx, hl, iref, sref, bref, w1]) | refine dk (by kernel_rfl) ?_ | (refine qp (km) (by simp only [go_sem, jE, reduceIte, jA, jM, jS, jL, jD, jB, h1, h2, hx, hl, iref, sref, bref, w1]; first | done | rfl) rfl (by simp only [go_sem, Nat.reduceLT]) rfl rfl ?_; simp only [go_sem, jE, reduceIte, jA, jM, jS, jL, jD, jB, h1, h2, hx, hl, iref, sref, bref, w1]))
    exact ⟨⟨i + 1, by omega, trivial⟩, (by simp only []; omega), rw0 (by repeat (first | exact trivial | refine ⟨rfl, rfl, ?_⟩))⟩
  · have h1 : ¬ (i : Int) < (n : Int) := by omega
    obtain rfl : i = n := by omega
    repeat (first | apply Aw_seq | apply Aw_block | apply Aw_skip | apply Aw_exit | refine Aw_condt rfl ?_ | refine Aw_condf rfl ?_ | ((first | refine qr ?_ | refine qd (by kernel_rfl) (by kernel_rfl) ?_); simp only [go_sem, jE, reduceIte, jA, jM, jS, jL, jD, jB, h1, hl]) | refine dk (by kernel_rfl) ?_)
    exact Aw_ret (ret0 (.inl rfl) (by simp only [go_sem, jE, reduceIte, jA, jM, jS, jL, jD, jB]; rfl) (by rfl) rfl)
theorem heldIntS_ac (k n : Nat) (hk : k + n ≤ 1099511627776) : AC Tryz.prog 46 [intsT (mInts k n), iT k] noHp 0 ⟨.t (iT ((k + n : Nat) : Int)), noHp, 0⟩ := by
  refine AC_of Tryz.func46 rfl Tryz.ntmps46 Tryz.results46 (by kernel_rfl) rfl ?_
  simp only [List.zipIdx, List.map, Nat.zero_add, Nat.reduceAdd]
  have hl : (mInts k n).length = n := by simp [mInts]
  repeat (first | apply Aw_seq | apply Aw_block | apply Aw_skip | apply Aw_exit | refine Aw_condt rfl ?_ | refine Aw_condf rfl ?_ | ((first | refine qr ?_ | refine qd (by kernel_rfl) (by kernel_rfl) ?_); simp only [go_sem, jE, reduceIte, jA, jM, jS, jL, jD, jB]) | refine dk (by kernel_rfl) ?_)
  refine Aw.rw (rw0 (l' := [(5, .t (iT (0 : Nat))), (1, .t (iT ((k + 0 : Nat) : Int))), (0, .t (intsT (mInts k n)))]) (n' := 0) (by repeat (first | exact trivial | refine ⟨rfl, rfl, ?_⟩))) ?_
  refine Aw_loop0 (ι := { i : Nat // i ≤ n ∧ (True) }) (fun q => [(5, .t (iT (q.1 : Nat))), (1, .t (iT ((k + q.1 : Nat) : Int))), (0, .t (intsT (mInts k n)))]) (fun q => n - q.1) ⟨0, Nat.zero_le _, trivial⟩ ?_
  rintro ⟨i, hi, hp⟩
  dsimp only
  by_cases hlt : i < n
  · have h1 : (i : Int) < (n : Int) := by omega
    have h2 := wrap_succ hlt (by omega)
    have hx : (mInts k n)[i]? = some (((k + i : Nat) : Int)) := by simp [mInts, List.getElem?_map, List.getElem?_range hlt]
    have w1 : IntKind.i64.wrap (((k + i : Nat) : Int) + 1) = ((k + (i + 1) : Nat) : Int) := wrap_succ (m := k + i + 1) (by omega) (by omega)
    repeat (first | apply Aw_seq | apply Aw_block | apply Aw_skip | apply Aw_exit | refine Aw_condt rfl ?_ | refine Aw_condf rfl ?_ | ((first | refine qr ?_ | refine qd (by kernel_rfl) (by kernel_rfl) ?_); simp only [go_sem, jE, reduceIte, jA, jM, jS, jL, jD, jB, h1, h2, hx, hl, iref, sref, bref, w1]) | refine dk (by kernel_rfl) ?_)
    exact ⟨⟨i + 1, by omega, trivial⟩, (by simp only []; omega), rw0 (by repeat (first | exact trivial | refine ⟨rfl, rfl, ?_⟩))⟩
  · have h1 : ¬ (i : Int) < (n : Int) := by omega
    obtain rfl : i = n := by omega
    repeat (first | apply Aw_seq | apply Aw_block | apply Aw_skip | apply Aw_exit | refine Aw_condt rfl ?_ | refine Aw_condf rfl ?_ | ((first | refine qr ?_ | refine qd (by kernel_rfl) (by kernel_rfl) ?_); simp only [go_sem, jE, reduceIte, jA, jM, jS, jL, jD, jB, h1, hl]) | refine dk (by kernel_rfl) ?_)
    exact Aw_ret (ret0 (.inl rfl) (by simp only [go_sem, jE, reduceIte, jA, jM, jS, jL, jD, jB]; rfl) (by rfl) rfl)
theorem heldEntryS_ac (k n : Nat) (hk : k + 4 * n ≤ 1099511627776) : AC Tryz.prog 25 [runT (mEnts k n), iT k] noHp 0 ⟨.t (iT ((k + 4 * n : Nat) : Int)), noHp, 0⟩ := by
  refine AC_of Tryz.func25 rfl Tryz.ntmps25 Tryz.results25 (by kernel_rfl) rfl ?_
  simp only [List.zipIdx, List.map, Nat.zero_add, Nat.reduceAdd]
  have hl : (mEnts k n).length = n := by simp [mEnts]
  repeat (first | apply Aw_seq | apply Aw_block | apply Aw_skip | apply Aw_exit | refine Aw_condt rfl ?_ | refine Aw_condf rfl ?_ | ((first | refine qr ?_ | refine qd (by kernel_rfl) (by kernel_rfl) ?_); simp only [go_sem, jE, reduceIte, jA, jM, jS, jL, jD, jB]) | refine dk (by kernel_rfl) ?_)
  refine Aw.rw (rw0 (l' := [(5, .t (iT (0 : Nat))), (1, .t (iT ((k + 4 * 0 : Nat) : Int))), (0, .t (runT (mEnts k n)))]) (n' := 0) (by repeat (first | exact trivial | refine ⟨rfl, rfl, ?_⟩))) ?_
  refine Aw_loop0 (ι := { i : Nat // i ≤ n ∧ (True) }) (fun q => [(5, .t (iT (q.1 : Nat))), (1, .t (iT ((k + 4 * q.1 : Nat) : Int))), (0, .t (runT (mEnts k n)))]) (fun q => n - q.1) ⟨0, Nat.zero_le _, trivial⟩ ?_
  rintro ⟨i, hi, hp⟩
  dsimp only
  by_cases hlt : i < n
  · have h1 : (i : Int) < (n : Int) := by omega
    have h2 := wrap_succ hlt (by omega)
    have hx : (mEnts k n)[i]? = some (markE (k + 4 * i)) := by simp [mEnts, List.getElem?_map, List.getElem?_range hlt]
    have w1 : IntKind.i64.wrap (((k + 4 * i : Nat) : Int) + 1) = ((k + 4 * i + 1 : Nat) : Int) := wrap_succ (m := k + 4 * i + 1) (by omega) (by omega)
    have w2 : IntKind.i64.wrap (((k + 4 * i + 1 : Nat) : Int) + 1) = ((k + 4 * i + 2 : Nat) : Int) := wrap_succ (m := k + 4 * i + 2) (by omega) (by omega)
    have w3 : IntKind.i64.wrap (((k + 4 * i + 2 : Nat) : Int) + 1) = ((k + 4 * i + 3 : Nat) : Int) := wrap_succ (m := k + 4 * i + 3) (by omega) (by omega)
    have w4 : IntKind.i64.wrap (((k + 4 * i + 3 : Nat) : Int) + 1) = ((k + 4 * (i + 1) : Nat) : Int) := by rw [show k + 4 * (i + 1) = k + 4 * i + 4 by omega]; exact wrap_succ (m := k + 4 * i + 4) (by omega) (by omega)
    have km := markText_ac (k + 4 * i) (by omega)
    repeat (first | apply Aw_seq | apply Aw_block | apply Aw_skip | apply Aw_exit | refine Aw_condt rfl ?_ | refine Aw_condf rfl ?_ | ((first | refine qr ?_ | refine qd (by kernel_rfl) (by kernel_rfl) ?_); simp only [go_sem, jE, reduceIte, jA, jM, jS, jL, jD, jB, h1, h2, hx, hl, iref, sref, bref, w1, w2, w3, w4, mE_key, mE_val, mE_gone, mE_time, three0]) | refine dk (by kernel_rfl) ?_ | (refine qp (km) (by simp only [go_sem, jE, reduceIte, jA, jM, jS, jL, jD, jB, h1, h2, hx, hl, iref, sref, bref, w1, w2, w3, w4, mE_key, mE_val, mE_gone, mE_time, three0]; first | done | rfl) rfl (by simp only [go_sem, Nat.reduceLT]) rfl rfl ?_; simp only [go_sem, jE, reduceIte, jA, jM, jS, jL, jD, jB, h1, h2, hx, hl, iref, sref, bref, w1, w2, w3, w4, mE_key, mE_val, mE_gone, mE_time, three0]))
    exact ⟨⟨i + 1, by omega, trivial⟩, (by simp only []; omega), rw0 (by repeat (first | exact trivial | refine ⟨rfl, rfl, ?_⟩))⟩
  · have h1 : ¬ (i : Int) < (n : Int) := by omega
    obtain rfl : i = n := by omega
    repeat (first | apply Aw_seq | apply Aw_block | apply Aw_skip | apply Aw_exit | refine Aw_condt rfl ?_ | refine Aw_condf rfl ?_ | ((first | refine qr ?_ | refine qd (by kernel_rfl) (by kernel_rfl) ?_); simp only [go_sem, jE, reduceIte, jA, jM, jS, jL, jD, jB, h1, hl]) | refine dk (by kernel_rfl) ?_)
    exact Aw_ret (ret0 (.inl rfl) (by simp only [go_sem, jE, reduceIte, jA, jM, jS, jL, jD, jB]; rfl) (by rfl) rfl)
theorem lt1 {a n : Nat} (h : a < n) : ∀ q ∈ [a], q < n := fun q hq => by rw [List.mem_singleton.1 hq]; exact h
theorem nd1 (a : Nat) : [a].Nodup := by simp
theorem upd_upd {α : Type} (f : Nat → α) (a : Nat) (x y : α) : upd (upd f a x) a y = upd f a y := by
  funext m
  by_cases e : m = a
  · subst e; rw [upd_same, upd_same]
  · rw [upd_ne _ _ e, upd_ne _ _ e, upd_ne _ _ e]
theorem upd_swap {α : Type} (f : Nat → α) {a b : Nat} (h : a ≠ b) (x y : α) : upd (upd f a x) b y = upd (upd f b y) a x := by
  funext m
  by_cases e : m = a
  · subst e; rw [upd_ne _ _ h, upd_same, upd_same]
  · by_cases e2 : m = b
    · subst e2; rw [upd_same, upd_ne _ _ e, upd_same]
    · rw [upd_ne _ _ e2, upd_ne _ _ e, upd_ne _ _ e, upd_ne _ _ e2]
/-- Marked runs, and where counting stands behind them. -/
def kR (q : Nat) (l : List (List Ent)) : Nat := l.foldl (fun k x => k + 4 * x.length) q
def markRs : Nat → List (List Ent) → List (List Ent)
  | _, [] => []
  | q, x :: l => mEnts q x.length :: markRs (q + 4 * x.length) l
theorem kR_app (q : Nat) (a b : List (List Ent)) : kR q (a ++ b) = kR (kR q a) b := by simp [kR]
theorem kR_le : ∀ (l : List (List Ent)) (q : Nat), q ≤ kR q l
  | [], q => Nat.le_refl _
  | x :: l, q => Nat.le_trans (by omega) (kR_le l (q + 4 * x.length))
theorem kR_take (l : List (List Ent)) (q i : Nat) : kR q (l.take i) ≤ kR q l := by
  conv => rhs; rw [← List.take_append_drop i l, kR_app]
  exact kR_le _ _
theorem kR_succ {l : List (List Ent)} {q i : Nat} {x : List Ent} (h : l[i]? = some x) : kR q (l.take (i + 1)) = kR q (l.take i) + 4 * x.length := by
  rw [List.take_add_one, h, kR_app]; rfl
theorem markRs_app : ∀ (a b : List (List Ent)) (q : Nat), markRs q (a ++ b) = markRs q a ++ markRs (kR q a) b
  | [], b, q => rfl
  | x :: a, b, q => by simp only [List.cons_append, markRs]; rw [markRs_app a b]; rfl
theorem markRs_len : ∀ (l : List (List Ent)) (q : Nat), (markRs q l).length = l.length
  | [], _ => rfl
  | x :: l, q => by simp only [markRs, List.length_cons]; rw [markRs_len l]
def mRs (q i : Nat) (r : List (List Ent)) : List (List Ent) := markRs q (r.take i) ++ r.drop i
theorem mRs_0 (q : Nat) (r : List (List Ent)) : mRs q 0 r = r := by simp [mRs, markRs]
theorem mRs_end (q : Nat) (r : List (List Ent)) : mRs q r.length r = markRs q r := by simp [mRs]
theorem mRs_len {q i : Nat} {r : List (List Ent)} : (mRs q i r).length = r.length := by simp [mRs, markRs_len]; omega
theorem drop_get {α : Type} {r : List α} {i : Nat} {x : α} (h : r[i]? = some x) : r.drop i = x :: r.drop (i + 1) := by
  obtain ⟨hi, rfl⟩ := List.getElem?_eq_some_iff.1 h
  exact List.drop_eq_getElem_cons hi
theorem mRs_get {q i : Nat} {r : List (List Ent)} {x : List Ent} (h : r[i]? = some x) : (mRs q i r)[i]? = some x := by
  have hi := (List.getElem?_eq_some_iff.1 h).1
  unfold mRs
  rw [List.getElem?_append_right (by rw [markRs_len]; simp; omega), markRs_len, drop_get h]
  simp [Nat.min_eq_left (Nat.le_of_lt hi)]
theorem mRs_set {q i : Nat} {r : List (List Ent)} {x : List Ent} (h : r[i]? = some x) : (mRs q i r).set i (mEnts (kR q (r.take i)) x.length) = mRs q (i + 1) r := by
  have hi := (List.getElem?_eq_some_iff.1 h).1
  unfold mRs
  rw [List.set_append_right _ _ (by rw [markRs_len]; simp; omega), markRs_len, drop_get h, List.take_add_one, h, markRs_app]
  simp [Nat.min_eq_left (Nat.le_of_lt hi), markRs]
def lvF (r : List (List Ent)) : List (Option Obj) := some (pRow r.length r.length) :: r.map fun x => some (eRow x)
theorem lvF_os (r : List (List Ent)) : lvOs r.length r = lvF r := by simp [lvOs, lvF]
theorem lvF_len (r : List (List Ent)) : (lvF r).length = r.length + 1 := by simp [lvF]
theorem lvF_bd {r : List (List Ent)} {m : Nat} {o : Obj} (h : hpL (lvF r) m = some o) : m < r.length + 1 ∧ o.bd (r.length + 1) = true := by
  have hg := hpL_get.1 h
  refine ⟨by have := (List.getElem?_eq_some_iff.1 hg).1; rwa [lvF_len] at this, ?_⟩
  rcases m with _ | m
  · simp only [lvF, List.getElem?_cons_zero, Option.some.injEq] at hg
    subst hg
    exact pE_all (by omega) (Nat.le_refl _)
  · simp only [lvF, List.getElem?_cons_succ, List.getElem?_map] at hg
    obtain ⟨x, _, hx⟩ := Option.map_eq_some_iff.1 hg
    rw [← Option.some.inj hx]; exact bd_eRow _ _
theorem lvF_get {r : List (List Ent)} {i : Nat} {x : List Ent} (h : r[i]? = some x) : hpL (lvF r) (i + 1) = some (eRow x) := by
  rw [hpL_get]; simp [lvF, h]
theorem lvF_set {r : List (List Ent)} {i : Nat} {x : List Ent} (h : i < r.length) : upd (hpL (lvF r)) (i + 1) (some (eRow x)) = hpL (lvF (r.set i x)) := by
  rw [hpL_set (by simp [lvF]; omega)]
  simp [lvF, List.map_set]
theorem pE_end {i n : Nat} (h : i < n) : (pEls n n)[i]? = some [.h (i + 1)] := by
  unfold pEls
  rw [List.getElem?_append_left (by simpa using h)]
  simp [List.getElem?_range h]
theorem markEntrySSO_ac (r : List (List Ent)) (q : Nat) (hl : r.length ≤ 1048576) (hq : kR q r ≤ 1099511627776) : AC Tryz.prog 41 [.c (.h 0), iT q] (hpL (lvF r)) (r.length + 1) ⟨.t (iT ((kR q r : Nat) : Int)), hpL (lvF (markRs q r)), r.length + 1⟩ := by
  refine AC_of Tryz.func41 rfl Tryz.ntmps41 Tryz.results41 (by kernel_rfl) rfl ?_
  simp only [List.zipIdx, List.map, Nat.zero_add, Nat.reduceAdd]
  repeat (first | apply Aw_seq | apply Aw_block | apply Aw_skip | apply Aw_exit | refine Aw_condt rfl ?_ | refine Aw_condf rfl ?_ | ((first | refine qr ?_ | refine qd (by kernel_rfl) (by kernel_rfl) ?_); simp only [go_sem, jE, reduceIte, jA, jM, jS, jL, jD, jB]) | refine dk (by kernel_rfl) ?_)
  have start : ∀ {P : Program} {N k : Nat} {x : Code} {Q : Exit → St → Prop}, Aw P N k x Q (S [(5, .t (iT (0 : Nat))), (1, .t (iT ((kR q (r.take 0) : Nat) : Int))), (0, .t (.c (.h 0)))] (hpL (lvF (mRs q 0 r))) (r.length + 1)) → Aw P N k x Q (S [(5, .t (iT (0 : Nat))), (1, .t (iT (q : Nat))), (0, .t (.c (.h 0)))] (hpL (lvF r)) (r.length + 1)) := by
    intro P N k x Q h
    rw [mRs_0] at h; exact h
  refine Aw.rw (rwI (l' := [(5, .t (iT (0 : Nat))), (1, .t (iT (q : Nat))), (0, .t (.c (.h 0)))]) (hp' := hpL (lvF r)) (m' := r.length + 1) (n' := r.length + 1) (by repeat (first | exact trivial | refine ⟨rfl, ?_⟩)) (by simp [AV.bd, TV.bd, CV.bd]) (fun m o hm => ⟨hm, lvF_bd hm⟩) (Nat.le_refl _) (Nat.le_refl _)) ?_
  refine start ?_
  refine Aw_loop_rw (ι := { j : Nat // j ≤ r.length }) (fun j => S [(5, .t (iT (j.1 : Nat))), (1, .t (iT ((kR q (r.take j.1) : Nat) : Int))), (0, .t (.c (.h 0)))] (hpL (lvF (mRs q j.1 r))) (r.length + 1)) (fun j => r.length - j.1) ⟨0, Nat.zero_le _⟩ ?_
  rintro ⟨i, hi⟩
  dsimp only
  have gl : (mRs q i r).length = r.length := mRs_len
  by_cases hlt : i < r.length
  · have h1 : (i : Int) < (r.length : Int) := by omega
    have h2 := wrap_succ hlt (by omega)
    obtain ⟨e, hx⟩ : ∃ e, r[i]? = some e := ⟨_, List.getElem?_eq_getElem hlt⟩
    have hk := kR_succ (q := q) hx
    have hle := kR_take r q (i + 1)
    have kk := markEntryS_ac e (kR q (r.take i)) (by omega)
    rw [← hk] at kk
    have hm := mRs_set (q := q) hx
    have g0 : hpL (lvF (mRs q i r)) 0 = some (pRow r.length r.length) := by rw [← gl]; rfl
    have g1 := pE_len (Nat.le_refl r.length)
    have g2 := pE_end hlt
    have g3 := lvF_get (mRs_get (q := q) hx)
    have g5 := lvF_set (r := mRs q i r) (x := mEnts (kR q (r.take i)) e.length) (i := i) (by omega)
    rw [hm, r_eRow] at g5
    have hh : HandL (hpL (lvF (mRs q i r))) [i + 1] [i + 1] [some (dRow 56 4 (e.map entD))] := ⟨by rw [g3, dRow_ren]; rfl, dRow_bd _ _ _ _, trivial⟩
    repeat (first | apply Aw_seq | apply Aw_block | apply Aw_skip | apply Aw_exit | refine Aw_condt rfl ?_ | refine Aw_condf rfl ?_ | ((first | refine qr ?_ | refine qd (by kernel_rfl) (by kernel_rfl) ?_); simp only [go_sem, jE, reduceIte, jA, jM, jS, jL, jD, jB, h1, h2, hx, hlt, g0, g1, g2]) | refine dk (by kernel_rfl) ?_ | (refine qx (call_L (N' := [i + 1]) (L := []) kk rfl (.cons (.nm rfl) (.cons (.nm rfl) .nil)) (nd1 _) (lt1 (by omega)) (fun _ h => nomatch h) hh (.inl rfl) rfl (Nat.le_refl _)) (by simp only [go_sem, jE, reduceIte, jA, jM, jS, jL, jD, jB, h1, h2, hx, hlt, g0, g1, g2]; first | done | rfl) rfl (by simp only [go_sem, Nat.reduceLT]) ?_; simp only [go_sem, jE, reduceIte, jA, jM, jS, jL, jD, jB, h1, h2, hx, hlt, g0, g1, g2]))
    rw [g5]
    refine ⟨⟨i + 1, hlt⟩, _, ?_, rwI (m' := r.length + 1) (by repeat (first | exact trivial | refine ⟨rfl, ?_⟩)) (by simp [AV.bd, TV.bd, CV.bd]) (fun m o hm => ⟨hm, by have := lvF_bd hm; rwa [mRs_len] at this⟩) (Nat.le_refl _) (Nat.le_refl _)⟩
    show r.length - (i + 1) < r.length - i; omega
  · have h1 : ¬ (i : Int) < (r.length : Int) := by omega
    obtain rfl : i = r.length := by omega
    have g0 : hpL (lvF (mRs q r.length r)) 0 = some (pRow (mRs q r.length r).length (mRs q r.length r).length) := rfl
    rw [gl] at g0
    have g1 := pE_len (Nat.le_refl r.length)
    repeat (first | apply Aw_seq | apply Aw_block | apply Aw_skip | apply Aw_exit | refine Aw_condt rfl ?_ | refine Aw_condf rfl ?_ | ((first | refine qr ?_ | refine qd (by kernel_rfl) (by kernel_rfl) ?_); simp only [go_sem, jE, reduceIte, jA, jM, jS, jL, jD, jB, h1, g0, g1]) | refine dk (by kernel_rfl) ?_)
    rw [mRs_end, List.take_length]
    refine Aw_ret (retI (.inl rfl) rfl rfl (fun m o hm => ⟨hm, ?_⟩) (Nat.le_refl _))
    have := lvF_bd hm
    rwa [markRs_len] at this
def eSve (keep : Int) : Sve := ⟨zs, zs, zs, [], keep⟩
def zSto : Sto := ⟨[], [], [], 0, 0, []⟩
theorem fork0 : Fork ([], 0) := ⟨by omega, .nil, by simp, by simp⟩
theorem bfs0 (keep : Nat) : bfsF keep [([], 0)] = ⟨[], [], [], [], []⟩ := by
  have hn : node keep ([], 0) = zPut := by unfold node; rw [spl_nil]; rfl
  rw [bfsF_cons (by intro g hg; obtain rfl : g = ([], 0) := by simpa using hg
                    exact fork0), hn]
  rfl
theorem t3 : Int.toNat 3 = 3 := rfl
theorem e03 : decide ((0 : Int) < 3) = true := rfl
theorem e13 : decide ((1 : Int) < 3) = true := rfl
theorem e23 : decide ((2 : Int) < 3) = true := rfl
theorem e33 : decide ((3 : Int) < 3) = false := rfl
theorem w01 : IntKind.i64.wrap (0 + 1) = 1 := rfl
theorem w12 : IntKind.i64.wrap (1 + 1) = 2 := rfl
theorem w23 : IntKind.i64.wrap (2 + 1) = 3 := rfl
theorem AC.setL {P : Program} {f : FuncId} {args : List TV} {hp : Hp} {k : Nat} {x y : AV} {os os' : List (Option Obj)} {n : Nat} (L : List Nat) (h : AC P f args hp k ⟨x, hpL os, n⟩) (hr : SetA (hpL os) L x y) (hs : SubL L 0 os os') : AC P f args hp k ⟨y, hpL os', n⟩ :=
  AC.settle h hr (fun m o' hm => by
    obtain ⟨h1, h2⟩ := subL_get hs m o' hm
    exact ⟨by simpa using h1, o', h2, .inl rfl⟩) (Nat.le_refl n)
def svRow (l : List Sve) : Obj := dRow 82 5 (l.map sveD)
@[go_sem] theorem r_svRow (l : List Sve) : svRow l = dRow 82 5 (l.map sveD) := rfl
theorem inKeep {keep : Nat} (hk : keep ≤ 5) : inB 0 keep 5 = true := by unfold inB; rw [decide_eq_true (by omega), decide_eq_true (by omega)]; rfl
def entV (e : Ent) : List Value := [.string e.key, .int .i64 e.val, .bool e.gone, .int .i64 e.time]
@[simp] theorem flat_eRow (r : List Ent) : (eRow r).flat = true := by
  unfold eRow
  rw [show r.map entD = (r.map entV).map (·.map D.s) by rw [List.map_map]; rfl]
  exact dRow_flat _ _ _
@[simp] theorem flat_kRow (r : List ByteArray) : (kRow r).flat = true := by
  unfold kRow
  rw [show r.map strD = (r.map fun s => [Value.string s]).map (·.map D.s) by rw [List.map_map]; rfl]
  exact dRow_flat _ _ _
theorem AC.toL0 {P : Program} {f : FuncId} {args : List TV} {x : AV} (h : AC P f args noHp 0 ⟨x, noHp, 0⟩) : AC P f args noHp 0 ⟨x, hpL [], 0⟩ := by rw [hpL_nil]; exact h
def joinM (a b : List Ent) : List Ent := List.merge a b before
theorem joinM_nil (a : List Ent) : joinM a [] = a := by unfold joinM; exact List.merge_right a
theorem joinM_cc (x y : Ent) (a b : List Ent) : joinM (x :: a) (y :: b) = if before x y = true then x :: joinM a (y :: b) else y :: joinM (x :: a) b := by
  unfold joinM; rw [List.cons_merge_cons]
theorem joinM_nc (y : Ent) (b : List Ent) : joinM [] (y :: b) = y :: joinM [] b := by
  unfold joinM; simp
theorem joinM_len (a b : List Ent) : (joinM a b).length = a.length + b.length := by unfold joinM; rw [List.length_merge]
theorem mem_joinM {a b : List Ent} {e : Ent} (h : e ∈ joinM a b) : e ∈ a ∨ e ∈ b := by unfold joinM at h; exact List.mem_merge.1 h
structure JnI (a b : List Ent) where
  P : List Ent
  i : Nat
  k : Nat
  hi : i ≤ a.length
  hk : k ≤ b.length
  hl : P.length = i + k
  h : P ++ joinM (a.drop i) (b.drop k) = joinM a b
theorem l11Join_ac (a b : List Ent) (ha : a.length ≤ 100000) (hb : b.length ≤ 100000) : AC Tryz.prog 77 [runT a, runT b] noHp 0 ⟨.t (.c (.h 0)), hpL [some (eRow (joinM a b))], 1⟩ := by
  refine AC_of Tryz.func77 rfl Tryz.ntmps77 Tryz.results77 (by kernel_rfl) rfl ?_
  simp only [List.zipIdx, List.map, Nat.zero_add, Nat.reduceAdd]
  repeat (first | apply Aw_seq | apply Aw_block | apply Aw_skip | apply Aw_exit | refine Aw_condt rfl ?_ | refine Aw_condf rfl ?_ | ((first | refine qr ?_ | refine qd (by kernel_rfl) (by kernel_rfl) ?_); simp only [go_sem, jE, reduceIte, jA, jM, jS, jL, jD, jB]) | refine dk (by kernel_rfl) ?_)
  refine Aw.rw (rwL (l' := [(7, .t (iT (0 : Nat))), (6, .t (iT (0 : Nat))), (5, .t (.c (.h 0))), (1, .t (runT b)), (0, .t (runT a))]) (os := [some (eRow [])]) (M := [1]) (n' := 1) (by repeat (first | exact trivial | refine ⟨rfl, rfl, ?_⟩)) (by rfl) (by simp only [go_sem, jE, reduceIte, jA, jM, jS, jL, jD, jB]; first | done | rfl) (by decide) (by unfold idM; decide)) ?_
  refine Aw_loop_rw (ι := JnI a b) (fun q => S [(7, .t (iT (q.k : Nat))), (6, .t (iT (q.i : Nat))), (5, .t (.c (.h 0))), (1, .t (runT b)), (0, .t (runT a))] (hpL [some (eRow q.P)]) 1) (fun q => b.length - q.k) ⟨[], 0, 0, Nat.zero_le _, Nat.zero_le _, rfl, rfl⟩ ?_
  rintro ⟨P, i, k, hi, hk, hl, h⟩
  dsimp only
  by_cases hlt : k < b.length
  · have h1 : (k : Int) < (b.length : Int) := by omega
    have w1 := wrap_succ hlt (by omega)
    obtain ⟨y, hy⟩ : ∃ e, b[k]? = some e := ⟨_, List.getElem?_eq_getElem hlt⟩
    have hbd : b.drop k = y :: b.drop (k + 1) := by rw [List.drop_eq_getElem_cons hlt]; congr 1; rw [List.getElem?_eq_getElem hlt] at hy; exact Option.some.inj hy
    repeat (first | apply Aw_seq | apply Aw_block | apply Aw_skip | apply Aw_exit | refine Aw_condt rfl ?_ | refine Aw_condf rfl ?_ | ((first | refine qr ?_ | refine qd (by kernel_rfl) (by kernel_rfl) ?_); simp only [go_sem, jE, reduceIte, jA, jM, jS, jL, jD, jB, h1]) | refine dk (by kernel_rfl) ?_)
    refine Aw.rw (rwL (l' := [(7, .t (iT (k : Nat))), (6, .t (iT (i : Nat))), (5, .t (.c (.h 0))), (1, .t (runT b)), (0, .t (runT a))]) (os := [some (eRow P)]) (M := [0]) (n' := 1) (by repeat (first | exact trivial | refine ⟨rfl, rfl, ?_⟩)) (by rfl) (by simp only [go_sem, jE, reduceIte, jA, jM, jS, jL, jD, jB]; first | done | rfl) (by decide) (by unfold idM; decide)) ?_
    refine Aw_loop_rw (ι := { q : JnI a b // q.k = k }) (fun q => S [(7, .t (iT (k : Nat))), (6, .t (iT (q.1.i : Nat))), (5, .t (.c (.h 0))), (1, .t (runT b)), (0, .t (runT a))] (hpL [some (eRow q.1.P)]) 1) (fun q => a.length - q.1.i) ⟨⟨P, i, k, hi, hk, hl, h⟩, rfl⟩ ?_
    clear h hl hi P i
    rintro ⟨⟨P, i, k', hi, hk', hl, h⟩, hkk⟩
    dsimp only at hkk ⊢
    subst hkk
    have hap : (P.length + 1) * 40 ≤ 140737488355328 := by omega
    by_cases hia : i < a.length
    · have h2 : (i : Int) < (a.length : Int) := by omega
      have w2 := wrap_succ hia (by omega)
      obtain ⟨x, hx⟩ : ∃ e, a[i]? = some e := ⟨_, List.getElem?_eq_getElem hia⟩
      have had : a.drop i = x :: a.drop (i + 1) := by rw [List.drop_eq_getElem_cons hia]; congr 1; rw [List.getElem?_eq_getElem hia] at hx; exact Option.some.inj hx
      cases c : before x y
      · have hj : (P ++ [y]) ++ joinM (a.drop i) (b.drop (k' + 1)) = joinM a b := by
          rw [← h, hbd, had, joinM_cc, if_neg (by rw [c]; simp)]; simp
        repeat (first | apply Aw_seq | apply Aw_block | apply Aw_skip | apply Aw_exit | refine Aw_condt rfl ?_ | refine Aw_condf rfl ?_ | ((first | refine qr ?_ | refine qd (by kernel_rfl) (by kernel_rfl) ?_); simp only [go_sem, jE, reduceIte, jA, jM, jS, jL, jD, jB, h2, hx, hy, c, w1, hap]) | refine dk (by kernel_rfl) ?_ | (refine qp (sbefore_ac _ _) (by simp only [go_sem, jE, reduceIte, jA, jM, jS, jL, jD, jB, h2, hx, hy, c, w1, hap]; first | done | rfl) rfl (by simp only [go_sem, Nat.reduceLT]) rfl rfl ?_; simp only [go_sem, jE, reduceIte, jA, jM, jS, jL, jD, jB, h2, hx, hy, c, w1, hap]))
        refine ⟨⟨P ++ [y], i, k' + 1, hi, hlt, by simp; omega, hj⟩, [21], ?_, rwL (by repeat (first | exact trivial | refine ⟨rfl, rfl, ?_⟩)) (by rfl) (by simp only [go_sem, jE, reduceIte, jA, jM, jS, jL, jD, jB, List.map_append, List.map_cons, List.map_nil]; first | done | rfl) (by decide) (by unfold idM; decide)⟩
        show b.length - (k' + 1) < b.length - k'; omega
      · have hj : (P ++ [x]) ++ joinM (a.drop (i + 1)) (b.drop k') = joinM a b := by
          rw [← h, hbd, had, joinM_cc, if_pos c]; simp
        repeat (first | apply Aw_seq | apply Aw_block | apply Aw_skip | apply Aw_exit | refine Aw_condt rfl ?_ | refine Aw_condf rfl ?_ | ((first | refine qr ?_ | refine qd (by kernel_rfl) (by kernel_rfl) ?_); simp only [go_sem, jE, reduceIte, jA, jM, jS, jL, jD, jB, h2, hx, hy, c, w2, hap]) | refine dk (by kernel_rfl) ?_ | (refine qp (sbefore_ac _ _) (by simp only [go_sem, jE, reduceIte, jA, jM, jS, jL, jD, jB, h2, hx, hy, c, w2, hap]; first | done | rfl) rfl (by simp only [go_sem, Nat.reduceLT]) rfl rfl ?_; simp only [go_sem, jE, reduceIte, jA, jM, jS, jL, jD, jB, h2, hx, hy, c, w2, hap]))
        refine ⟨⟨⟨P ++ [x], i + 1, k', hia, hk, by simp; omega, hj⟩, rfl⟩, [21], ?_, rwL (by repeat (first | exact trivial | refine ⟨rfl, rfl, ?_⟩)) (by rfl) (by simp only [go_sem, jE, reduceIte, jA, jM, jS, jL, jD, jB, List.map_append, List.map_cons, List.map_nil]; first | done | rfl) (by decide) (by unfold idM; decide)⟩
        show a.length - (i + 1) < a.length - i; omega
    · have h2 : ¬ (i : Int) < (a.length : Int) := by omega
      have hj : (P ++ [y]) ++ joinM (a.drop i) (b.drop (k' + 1)) = joinM a b := by
        rw [← h, hbd, List.drop_eq_nil_of_le (by omega : a.length ≤ i), joinM_nc]; simp
      repeat (first | apply Aw_seq | apply Aw_block | apply Aw_skip | apply Aw_exit | refine Aw_condt rfl ?_ | refine Aw_condf rfl ?_ | ((first | refine qr ?_ | refine qd (by kernel_rfl) (by kernel_rfl) ?_); simp only [go_sem, jE, reduceIte, jA, jM, jS, jL, jD, jB, h2, hy, w1, hap]) | refine dk (by kernel_rfl) ?_)
      refine ⟨⟨P ++ [y], i, k' + 1, hi, hlt, by simp; omega, hj⟩, [13], ?_, rwL (by repeat (first | exact trivial | refine ⟨rfl, rfl, ?_⟩)) (by rfl) (by simp only [go_sem, jE, reduceIte, jA, jM, jS, jL, jD, jB, List.map_append, List.map_cons, List.map_nil]; first | done | rfl) (by decide) (by unfold idM; decide)⟩
      show b.length - (k' + 1) < b.length - k'; omega
  · have h1 : ¬ (k : Int) < (b.length : Int) := by omega
    have hj : P ++ a.drop i = joinM a b := by rw [← h, List.drop_eq_nil_of_le (by omega : b.length ≤ k), joinM_nil]
    have hap : (P.length + (a.length - i)) * 40 ≤ 140737488355328 := by omega
    rw [← hj]
    have i0 : (0 : Int) ≤ (i : Int) := by omega
    have i1 : (i : Int) ≤ (a.length : Int) := by omega
    have tn : Int.toNat ((i : Nat) : Int) = i := rfl
    have tn2 : Int.toNat ((a.length : Nat) : Int) = a.length := rfl
    have tk : List.take a.length (List.map entD a) = List.map entD a := by rw [List.take_of_length_le (by simp)]
    have td : List.drop i (List.map entD a) = List.map entD (a.drop i) := by rw [List.map_drop]
    repeat (first | apply Aw_seq | apply Aw_block | apply Aw_skip | apply Aw_exit | refine Aw_condt rfl ?_ | refine Aw_condf rfl ?_ | ((first | refine qr ?_ | refine qd (by kernel_rfl) (by kernel_rfl) ?_); simp only [go_sem, jE, reduceIte, jA, jM, jS, jL, jD, jB, h1, hap, i0, i1, tn, tn2, tk, td, List.length_drop]) | refine dk (by kernel_rfl) ?_)
    exact Aw_ret (retL (M := [9]) (.inl rfl) (by simp only [go_sem, jE, reduceIte, jA, jM, jS, jL, jD, jB]; first | done | rfl) rfl rfl (by rfl) (by simp only [go_sem, jE, reduceIte, jA, jM, jS, jL, jD, jB, List.map_append, List.map_cons, List.map_nil]; first | done | rfl | (and_intros <;> rfl)) (by decide) (by unfold idM; decide))
theorem l11JoinS_ac (a b : List Ent) (ha : a.length ≤ 100000) (hb : b.length ≤ 100000) : AC Tryz.prog 77 [runT a, runT b] noHp 0 ⟨.t (runT (joinM a b)), noHp, 0⟩ := AC.settle0 [0] (l11Join_ac a b ha hb) (SetC.row0 rfl rfl) rfl
/-- Whether an entry is seen, though one of its key stands ahead of it. -/
def gapM (ts : List Int) (e p : Ent) : Bool := ts.any fun t => decide (e.time ≤ t) && decide (t < p.time)
def seenAt (r : List Ent) (ts : List Int) (i : Nat) : Bool := match r[i]? with
  | some e => (match i with
    | 0 => true
    | j + 1 => match r[j]? with
      | some p => !decide (p.key = e.key) || gapM ts e p
      | none => true)
  | none => true
theorem any_hit {α : Type} {p : α → Bool} {xs : List α} {i : Nat} {x : α} (h : xs[i]? = some x) (hp : p x = true) : xs.any p = true := List.any_eq_true.2 ⟨x, List.mem_of_getElem? h, hp⟩
theorem any_none {α : Type} {p : α → Bool} {xs : List α} (h : ∀ j, j < xs.length → ∀ y, xs[j]? = some y → p y = false) : xs.any p = false := by
  rw [List.any_eq_false]
  intro x hx
  obtain ⟨i, hi⟩ := List.mem_iff_getElem?.1 hx
  rw [h i (List.getElem?_eq_some_iff.1 hi).1 x hi]; simp
theorem l11Seen_ac (r : List Ent) (i : Nat) (ts : List Int) (e : Ent) (he : r[i]? = some e) (hr : r.length ≤ 1099511627776) (ht : ts.length ≤ 1099511627776) : AC Tryz.prog 130 [runT r, iT i, intsT ts] noHp 0 ⟨.t (bT (seenAt r ts i)), noHp, 0⟩ := by
  refine AC_of Tryz.func130 rfl Tryz.ntmps130 Tryz.results130 (by kernel_rfl) rfl ?_
  simp only [List.zipIdx, List.map, Nat.zero_add, Nat.reduceAdd]
  have hil := (List.getElem?_eq_some_iff.1 he).1
  rcases i with _ | j
  · have h5 : decide (((0 : Nat) : Int) = 0) = true := rfl
    have hs : seenAt r ts 0 = true := by unfold seenAt; rw [he]
    rw [hs]
    repeat (first | apply Aw_seq | apply Aw_block | apply Aw_skip | apply Aw_exit | refine Aw_condt rfl ?_ | refine Aw_condf rfl ?_ | ((first | refine qr ?_ | refine qd (by kernel_rfl) (by kernel_rfl) ?_); simp only [go_sem, jE, reduceIte, jA, jM, jS, jL, jD, jB, h5]) | refine dk (by kernel_rfl) ?_)
    exact Aw_ret (ret0 (.inl rfl) (by simp only [go_sem, jE, reduceIte, jA, jM, jS, jL, jD, jB]; rfl) (by rfl) rfl)
  · have h5 : decide (((j + 1 : Nat) : Int) = 0) = false := decide_eq_false (by omega)
    have h6 := wrap_pred (i := j) (by omega) hr
    obtain ⟨p, hy⟩ : ∃ e, r[j]? = some e := ⟨_, List.getElem?_eq_getElem (by omega)⟩
    cases c : decide (p.key = e.key)
    · have hs : seenAt r ts (j + 1) = true := by unfold seenAt; rw [he]; simp only [hy, c]; rfl
      rw [hs]
      repeat (first | apply Aw_seq | apply Aw_block | apply Aw_skip | apply Aw_exit | refine Aw_condt rfl ?_ | refine Aw_condf rfl ?_ | ((first | refine qr ?_ | refine qd (by kernel_rfl) (by kernel_rfl) ?_); simp only [go_sem, jE, reduceIte, jA, jM, jS, jL, jD, jB, h5, h6, he, hy, c]) | refine dk (by kernel_rfl) ?_)
      exact Aw_ret (ret0 (.inl rfl) (by simp only [go_sem, jE, reduceIte, jA, jM, jS, jL, jD, jB]; rfl) (by rfl) rfl)
    · have hs : seenAt r ts (j + 1) = gapM ts e p := by unfold seenAt; rw [he]; simp only [hy, c]; rfl
      rw [hs]
      repeat (first | apply Aw_seq | apply Aw_block | apply Aw_skip | apply Aw_exit | refine Aw_condt rfl ?_ | refine Aw_condf rfl ?_ | ((first | refine qr ?_ | refine qd (by kernel_rfl) (by kernel_rfl) ?_); simp only [go_sem, jE, reduceIte, jA, jM, jS, jL, jD, jB, h5, h6, he, hy, c]) | refine dk (by kernel_rfl) ?_)
      refine Aw.rw (rw0 (l' := [(7, .t (iT (0 : Nat))), (2, .t (intsT ts)), (1, .t (iT ((j + 1 : Nat) : Int))), (0, .t (runT r))]) (n' := 0) (by repeat (first | exact trivial | refine ⟨rfl, rfl, ?_⟩))) ?_
      refine Aw_loop0 (ι := { i : Nat // i ≤ ts.length ∧ (∀ q, q < i → ∀ t, ts[q]? = some t → (decide (e.time ≤ t) && decide (t < p.time)) = false) }) (fun q => [(7, .t (iT (q.1 : Nat))), (2, .t (intsT ts)), (1, .t (iT ((j + 1 : Nat) : Int))), (0, .t (runT r))]) (fun q => ts.length - q.1) ⟨0, Nat.zero_le _, fun q hq => absurd hq (by omega)⟩ ?_
      rintro ⟨i, hi, hp⟩
      dsimp only
      by_cases hlt : i < ts.length
      · have h1 : (i : Int) < (ts.length : Int) := by omega
        have h2 := wrap_succ hlt ht
        obtain ⟨t, hx⟩ : ∃ t, ts[i]? = some t := ⟨_, List.getElem?_eq_getElem hlt⟩
        cases c1 : decide (e.time ≤ t)
        · repeat (first | apply Aw_seq | apply Aw_block | apply Aw_skip | apply Aw_exit | refine Aw_condt rfl ?_ | refine Aw_condf rfl ?_ | ((first | refine qr ?_ | refine qd (by kernel_rfl) (by kernel_rfl) ?_); simp only [go_sem, jE, reduceIte, jA, jM, jS, jL, jD, jB, h1, h2, hx, he, c1]) | refine dk (by kernel_rfl) ?_)
          exact ⟨⟨i + 1, by omega, no_succ hp hx (by rw [c1]; rfl)⟩, (by simp only []; omega), rw0 (by repeat (first | exact trivial | refine ⟨rfl, rfl, ?_⟩))⟩
        · cases c2 : decide (t < p.time)
          · repeat (first | apply Aw_seq | apply Aw_block | apply Aw_skip | apply Aw_exit | refine Aw_condt rfl ?_ | refine Aw_condf rfl ?_ | ((first | refine qr ?_ | refine qd (by kernel_rfl) (by kernel_rfl) ?_); simp only [go_sem, jE, reduceIte, jA, jM, jS, jL, jD, jB, h1, h2, hx, he, hy, h6, c1, c2]) | refine dk (by kernel_rfl) ?_)
            exact ⟨⟨i + 1, by omega, no_succ hp hx (by rw [c2]; simp)⟩, (by simp only []; omega), rw0 (by repeat (first | exact trivial | refine ⟨rfl, rfl, ?_⟩))⟩
          · have hg : gapM ts e p = true := any_hit hx (by rw [c1, c2]; rfl)
            rw [hg]
            repeat (first | apply Aw_seq | apply Aw_block | apply Aw_skip | apply Aw_exit | refine Aw_condt rfl ?_ | refine Aw_condf rfl ?_ | ((first | refine qr ?_ | refine qd (by kernel_rfl) (by kernel_rfl) ?_); simp only [go_sem, jE, reduceIte, jA, jM, jS, jL, jD, jB, h1, h2, hx, he, hy, h6, c1, c2]) | refine dk (by kernel_rfl) ?_)
            exact Aw_ret (ret0 (.inl rfl) (by simp only [go_sem, jE, reduceIte, jA, jM, jS, jL, jD, jB]; rfl) (by rfl) rfl)
      · have h1 : ¬ (i : Int) < (ts.length : Int) := by omega
        obtain rfl : i = ts.length := by omega
        have hg : gapM ts e p = false := any_none hp
        rw [hg]
        repeat (first | apply Aw_seq | apply Aw_block | apply Aw_skip | apply Aw_exit | refine Aw_condt rfl ?_ | refine Aw_condf rfl ?_ | ((first | refine qr ?_ | refine qd (by kernel_rfl) (by kernel_rfl) ?_); simp only [go_sem, jE, reduceIte, jA, jM, jS, jL, jD, jB, h1]) | refine dk (by kernel_rfl) ?_)
        exact Aw_ret (ret0 (.inl rfl) (by simp only [go_sem, jE, reduceIte, jA, jM, jS, jL, jD, jB]; rfl) (by rfl) rfl)
def trimAt (r : List Ent) (ts : List Int) (i : Nat) : List Ent := match r[i]? with
  | some e => if seenAt r ts i = true then [e] else []
  | none => []
def trim1 (r : List Ent) (ts : List Int) : List Ent := colI r.length (trimAt r ts)
def lastAt (r : List Ent) (e : Ent) (i : Nat) : Bool := match r[i + 1]? with
  | some q => !decide (q.key = e.key)
  | none => true
def lowAt (r : List Ent) (i : Nat) : List Ent := match r[i]? with
  | some e => if (!e.gone || !lastAt r e i) = true then [e] else []
  | none => []
def trim2 (r : List Ent) : List Ent := colI r.length (lowAt r)
def trimM (r : List Ent) (ts : List Int) (bottom : Bool) : List Ent := if bottom = true then trim2 (trim1 r ts) else trim1 r ts
theorem trimAt_len (r : List Ent) (ts : List Int) (i : Nat) : (trimAt r ts i).length ≤ 1 := by unfold trimAt; split <;> (try split) <;> simp
theorem lowAt_len (r : List Ent) (i : Nat) : (lowAt r i).length ≤ 1 := by unfold lowAt; split <;> (try split) <;> simp
theorem trim1_len (r : List Ent) (ts : List Int) : (trim1 r ts).length ≤ r.length := colI_len (trimAt_len r ts)
theorem trim2_len (r : List Ent) : (trim2 r).length ≤ r.length := colI_len (lowAt_len r)
theorem trimM_len (r : List Ent) (ts : List Int) (b : Bool) : (trimM r ts b).length ≤ r.length := by
  unfold trimM; split
  · exact Nat.le_trans (trim2_len _) (trim1_len r ts)
  · exact trim1_len r ts
theorem mem_colI {β : Type} {n : Nat} {f : Nat → List β} {x : β} (h : x ∈ colI n f) : ∃ i, i < n ∧ x ∈ f i := by
  unfold colI at h
  obtain ⟨i, hi, hx⟩ := List.mem_flatMap.1 h
  exact ⟨i, List.mem_range.1 hi, hx⟩
theorem mem_trim1 {r : List Ent} {ts : List Int} {e : Ent} (h : e ∈ trim1 r ts) : e ∈ r := by
  obtain ⟨i, _, hx⟩ := mem_colI h
  unfold trimAt at hx
  split at hx
  · rename_i e' he
    split at hx
    · obtain rfl : e = e' := by simpa using hx
      exact List.mem_of_getElem? he
    · simp at hx
  · simp at hx
theorem mem_trim2 {r : List Ent} {e : Ent} (h : e ∈ trim2 r) : e ∈ r := by
  obtain ⟨i, _, hx⟩ := mem_colI h
  unfold lowAt at hx
  split at hx
  · rename_i e' he
    split at hx
    · obtain rfl : e = e' := by simpa using hx
      exact List.mem_of_getElem? he
    · simp at hx
  · simp at hx
theorem mem_trimM {r : List Ent} {ts : List Int} {b : Bool} {e : Ent} (h : e ∈ trimM r ts b) : e ∈ r := by
  unfold trimM at h; split at h
  · exact mem_trim1 (mem_trim2 h)
  · exact mem_trim1 h
def gap1 (e p : Ent) (t : Int) : Bool := decide (e.time ≤ t) && decide (t < p.time)
theorem seen1_ac (e p : Ent) (t : Int) : AC Tryz.prog 160 [iT t, .c (.ph 0 0 0), .c (.ph 1 0 0)] (hpL [some (enO e), some (enO p)]) 2 ⟨.t (bT (gap1 e p t)), hpL [some (enO e), some (enO p)], 2⟩ := by
  unfold gap1
  refine AC_of Tryz.func160 rfl Tryz.ntmps160 Tryz.results160 (by kernel_rfl) rfl ?_
  simp only [List.zipIdx, List.map, Nat.zero_add, Nat.reduceAdd]
  cases c : decide (e.time ≤ t)
  · rw [Bool.false_and]
    repeat (first | apply Aw_seq | apply Aw_block | apply Aw_skip | apply Aw_exit | refine Aw_condt rfl ?_ | refine Aw_condf rfl ?_ | ((first | refine qr ?_ | refine qd (by kernel_rfl) (by kernel_rfl) ?_); simp only [go_sem, jE, reduceIte, jA, jM, jS, jL, jD, jB, c]) | refine dk (by kernel_rfl) ?_)
    exact Aw_ret (retL (M := [0, 1]) (.inl rfl) (by simp only [go_sem, jE, reduceIte, jA, jM, jS, jL, jD, jB]; first | done | rfl) rfl rfl (by rfl) (by simp only [go_sem, jE, reduceIte, jA, jM, jS, jL, jD, jB]; first | done | rfl | (and_intros <;> rfl)) (by decide) (by unfold idM; decide))
  · rw [Bool.true_and]
    repeat (first | apply Aw_seq | apply Aw_block | apply Aw_skip | apply Aw_exit | refine Aw_condt rfl ?_ | refine Aw_condf rfl ?_ | ((first | refine qr ?_ | refine qd (by kernel_rfl) (by kernel_rfl) ?_); simp only [go_sem, jE, reduceIte, jA, jM, jS, jL, jD, jB, c]) | refine dk (by kernel_rfl) ?_)
    exact Aw_ret (retL (M := [0, 1]) (.inl rfl) (by simp only [go_sem, jE, reduceIte, jA, jM, jS, jL, jD, jB]; first | done | rfl) rfl rfl (by rfl) (by simp only [go_sem, jE, reduceIte, jA, jM, jS, jL, jD, jB]; first | done | rfl | (and_intros <;> rfl)) (by decide) (by unfold idM; decide))
def seenI (ts : List Int) (e p : Ent) : Int := match ts.findIdx? (gap1 e p) with
  | some i => (i : Int)
  | none => -1
theorem seenI_hit {ts : List Int} {e p : Ent} {i : Nat} {t : Int} (hi : ts[i]? = some t) (h : ∀ j, j < i → ∀ y, ts[j]? = some y → gap1 e p y = false) (he : gap1 e p t = true) : seenI ts e p = i := by
  have hl := (List.getElem?_eq_some_iff.1 hi).1
  have : ts.findIdx? (gap1 e p) = some i := by
    rw [List.findIdx?_eq_some_iff_getElem]
    refine ⟨hl, ?_, fun j hj => ?_⟩
    · rw [List.getElem?_eq_getElem hl] at hi; rw [Option.some.inj hi]; exact he
    · have := h j hj _ (List.getElem?_eq_getElem (by omega)); simp only [this]; decide
  unfold seenI; rw [this]
theorem seenI_no {ts : List Int} {e p : Ent} (h : ∀ j, j < ts.length → ∀ y, ts[j]? = some y → gap1 e p y = false) : seenI ts e p = -1 := by
  have : ts.findIdx? (gap1 e p) = none := by
    rw [List.findIdx?_eq_none_iff]
    intro x hx
    obtain ⟨i, hi⟩ := List.mem_iff_getElem?.1 hx
    exact h i (List.getElem?_eq_some_iff.1 hi).1 x hi
  unfold seenI; rw [this]
theorem seenI_any (ts : List Int) (e p : Ent) : decide (0 ≤ seenI ts e p) = gapM ts e p := by
  unfold seenI
  cases h : ts.findIdx? (gap1 e p) with
  | none =>
    rw [List.findIdx?_eq_none_iff] at h
    rw [show gapM ts e p = false from List.any_eq_false.2 fun x hx => by have := h x hx; unfold gap1 at this; rw [this]; simp]; rfl
  | some i =>
    rw [List.findIdx?_eq_some_iff_getElem] at h
    obtain ⟨h1, h2, _⟩ := h
    rw [show gapM ts e p = true from List.any_eq_true.2 ⟨_, List.getElem_mem h1, h2⟩]
    exact decide_eq_true (Int.natCast_nonneg i)
theorem seenIx_ac (ts : List Int) (e p : Ent) (hl : ts.length ≤ 1099511627776) : AC Tryz.prog 183 [intsT ts, .c (.fn 160 [.ph 0 0 0, .ph 1 0 0])] (hpL [some (enO e), some (enO p)]) 2 ⟨.t (iT (seenI ts e p)), hpL [some (enO e), some (enO p)], 2⟩ := by
  refine AC_of Tryz.func183 rfl Tryz.ntmps183 Tryz.results183 (by kernel_rfl) rfl ?_
  simp only [List.zipIdx, List.map, Nat.zero_add, Nat.reduceAdd]
  repeat (first | apply Aw_seq | apply Aw_block | apply Aw_skip | apply Aw_exit | refine Aw_condt rfl ?_ | refine Aw_condf rfl ?_ | ((first | refine qr ?_ | refine qd (by kernel_rfl) (by kernel_rfl) ?_); simp only [go_sem, jE, reduceIte, jA, jM, jS, jL, jD, jB]) | refine dk (by kernel_rfl) ?_)
  refine Aw.rw (rwL (l' := [(8, .t (iT (0 : Nat))), (7, .t (iT ts.length)), (0, .t (intsT ts)), (1, .t (.c (.fn 160 [.ph 0 0 0, .ph 1 0 0])))]) (os := [some (enO e), some (enO p)]) (M := [0, 1]) (n' := 2) (by repeat (first | exact trivial | refine ⟨rfl, rfl, ?_⟩)) (by rfl) (by simp only [go_sem, jE, reduceIte, jA, jM, jS, jL, jD, jB]; first | done | rfl) (by decide) (by unfold idM; decide)) ?_
  refine Aw_loop_rw (ι := { j : Nat // j ≤ ts.length ∧ ∀ q, q < j → ∀ y, ts[q]? = some y → gap1 e p y = false }) (fun q => S [(8, .t (iT (q.1 : Nat))), (7, .t (iT ts.length)), (0, .t (intsT ts)), (1, .t (.c (.fn 160 [.ph 0 0 0, .ph 1 0 0])))] (hpL [some (enO e), some (enO p)]) 2) (fun q => ts.length - q.1) ⟨0, Nat.zero_le _, fun j hj => absurd hj (by omega)⟩ ?_
  rintro ⟨j, hj, hq⟩
  dsimp only
  by_cases hjl : j < ts.length
  · have g1 : decide ((j : Int) < (ts.length : Int)) = true := decide_eq_true (by omega)
    have g2 := wrap_succ hjl hl
    obtain ⟨y, hy⟩ : ∃ e, ts[j]? = some e := ⟨_, List.getElem?_eq_getElem hjl⟩
    have hv := seen1_ac e p y
    cases c1 : gap1 e p y
    · rw [c1] at hv
      have nx : ∀ q, q < j + 1 → ∀ z, ts[q]? = some z → gap1 e p z = false := fun q hqj z hz => by
        rcases Nat.lt_succ_iff_lt_or_eq.1 hqj with h | rfl
        · exact hq q h z hz
        · rw [hy] at hz; rw [← Option.some.inj hz]; exact c1
      repeat (first | apply Aw_seq | apply Aw_block | apply Aw_skip | apply Aw_exit | refine Aw_condt rfl ?_ | refine Aw_condf rfl ?_ | ((first | refine qr ?_ | refine qd (by kernel_rfl) (by kernel_rfl) ?_); simp only [go_sem, jE, reduceIte, jA, jM, jS, jL, jD, jB, g1, hy, g2]) | refine dk (by kernel_rfl) ?_ | (refine ex_callv (by simp only [go_sem, jE, reduceIte, jA, jM, jS, jL, jD, jB, g1, hy, g2]; first | done | rfl) (call_V (N' := [0, 1]) (L := []) 1 (hv) rfl (.cons (.nm rfl) (.nil)) (by first | exact .cons (arg_nm rfl rfl) (.cons (arg_nm rfl rfl) (.nil)) | (simp only [capT, List.map]; exact .cons (arg_nm rfl rfl) (.cons (arg_nm rfl rfl) (.nil)))) (by decide) (by decide) (by decide) (by simp only [go_sem, jE, reduceIte, jA, jM, jS, jL, jD, jB, g1, hy, g2]; first | done | rfl) (.inl rfl) rfl (by decide)) (by simp only [go_sem, jE, reduceIte, jA, jM, jS, jL, jD, jB, g1, hy, g2]; first | done | rfl) rfl (by simp only [go_sem, Nat.reduceLT]) ?_; simp only [go_sem, jE, reduceIte, jA, jM, jS, jL, jD, jB, g1, hy, g2]))
      refine ⟨⟨j + 1, by omega, nx⟩, [0, 1], ?_, rwL (by repeat (first | exact trivial | refine ⟨rfl, rfl, ?_⟩)) (by rfl) (by simp only [go_sem, jE, reduceIte, jA, jM, jS, jL, jD, jB]; first | done | rfl) (by decide) (by unfold idM; decide)⟩
      show ts.length - (j + 1) < ts.length - j; omega
    · rw [c1] at hv
      rw [seenI_hit hy hq c1]
      repeat (first | apply Aw_seq | apply Aw_block | apply Aw_skip | apply Aw_exit | refine Aw_condt rfl ?_ | refine Aw_condf rfl ?_ | ((first | refine qr ?_ | refine qd (by kernel_rfl) (by kernel_rfl) ?_); simp only [go_sem, jE, reduceIte, jA, jM, jS, jL, jD, jB, g1, hy, g2]) | refine dk (by kernel_rfl) ?_ | (refine ex_callv (by simp only [go_sem, jE, reduceIte, jA, jM, jS, jL, jD, jB, g1, hy, g2]; first | done | rfl) (call_V (N' := [0, 1]) (L := []) 1 (hv) rfl (.cons (.nm rfl) (.nil)) (by first | exact .cons (arg_nm rfl rfl) (.cons (arg_nm rfl rfl) (.nil)) | (simp only [capT, List.map]; exact .cons (arg_nm rfl rfl) (.cons (arg_nm rfl rfl) (.nil)))) (by decide) (by decide) (by decide) (by simp only [go_sem, jE, reduceIte, jA, jM, jS, jL, jD, jB, g1, hy, g2]; first | done | rfl) (.inl rfl) rfl (by decide)) (by simp only [go_sem, jE, reduceIte, jA, jM, jS, jL, jD, jB, g1, hy, g2]; first | done | rfl) rfl (by simp only [go_sem, Nat.reduceLT]) ?_; simp only [go_sem, jE, reduceIte, jA, jM, jS, jL, jD, jB, g1, hy, g2]))
      exact Aw_ret (retL (M := [0, 1]) (.inl rfl) (by simp only [go_sem, jE, reduceIte, jA, jM, jS, jL, jD, jB]; first | done | rfl) rfl rfl (by rfl) (by simp only [go_sem, jE, reduceIte, jA, jM, jS, jL, jD, jB]; first | done | rfl | (and_intros <;> rfl)) (by decide) (by unfold idM; decide))
  · have g1 : decide ((j : Int) < (ts.length : Int)) = false := decide_eq_false (by omega)
    obtain rfl : j = ts.length := by omega
    rw [seenI_no hq]
    repeat (first | apply Aw_seq | apply Aw_block | apply Aw_skip | apply Aw_exit | refine Aw_condt rfl ?_ | refine Aw_condf rfl ?_ | ((first | refine qr ?_ | refine qd (by kernel_rfl) (by kernel_rfl) ?_); simp only [go_sem, jE, reduceIte, jA, jM, jS, jL, jD, jB, g1]) | refine dk (by kernel_rfl) ?_)
    exact Aw_ret (retL (M := [0, 1]) (.inl rfl) (by simp only [go_sem, jE, reduceIte, jA, jM, jS, jL, jD, jB]; first | done | rfl) rfl rfl (by rfl) (by simp only [go_sem, jE, reduceIte, jA, jM, jS, jL, jD, jB]; first | done | rfl | (and_intros <;> rfl)) (by decide) (by unfold idM; decide))
theorem seenAny_ac (ts : List Int) (e p : Ent) (hl : ts.length ≤ 1099511627776) : AC Tryz.prog 159 [intsT ts, .c (.fn 160 [.ph 0 0 0, .ph 1 0 0])] (hpL [some (enO e), some (enO p)]) 2 ⟨.t (bT (gapM ts e p)), hpL [some (enO e), some (enO p)], 2⟩ := by
  have k := seenIx_ac ts e p hl
  rw [← seenI_any]
  refine AC_of Tryz.func159 rfl Tryz.ntmps159 Tryz.results159 (by kernel_rfl) rfl ?_
  simp only [List.zipIdx, List.map, Nat.zero_add, Nat.reduceAdd]
  repeat (first | apply Aw_seq | apply Aw_block | apply Aw_skip | apply Aw_exit | refine Aw_condt rfl ?_ | refine Aw_condf rfl ?_ | ((first | refine qr ?_ | refine qd (by kernel_rfl) (by kernel_rfl) ?_); simp only [go_sem, jE, reduceIte, jA, jM, jS, jL, jD, jB]) | refine dk (by kernel_rfl) ?_ | (refine qx (call_L (N' := [0, 1]) (L := []) (k) rfl (.cons (.nm rfl) (.cons (.nm rfl) (.nil))) (by decide) (by decide) (by decide) (by simp only [go_sem, jE, reduceIte, jA, jM, jS, jL, jD, jB]; first | done | rfl) (.inl rfl) rfl (by decide)) (by simp only [go_sem, jE, reduceIte, jA, jM, jS, jL, jD, jB]; first | done | rfl) rfl (by simp only [go_sem, Nat.reduceLT]) ?_; simp only [go_sem, jE, reduceIte, jA, jM, jS, jL, jD, jB]))
  exact Aw_ret (retL (M := [0, 1]) (.inl rfl) (by simp only [go_sem, jE, reduceIte, jA, jM, jS, jL, jD, jB]; first | done | rfl) rfl rfl (by rfl) (by simp only [go_sem, jE, reduceIte, jA, jM, jS, jL, jD, jB]; first | done | rfl | (and_intros <;> rfl)) (by decide) (by unfold idM; decide))
theorem seen_ac (ts : List Int) (e p : Ent) (hl : ts.length ≤ 1099511627776) : AC Tryz.prog 131 [intsT ts, entT e, entT p] noHp 0 ⟨.t (bT (gapM ts e p)), noHp, 0⟩ := by
  have k := seenAny_ac ts e p hl
  unfold enO at k
  refine AC_of Tryz.func131 rfl Tryz.ntmps131 Tryz.results131 (by kernel_rfl) rfl ?_
  simp only [List.zipIdx, List.map, Nat.zero_add, Nat.reduceAdd]
  repeat (first | apply Aw_seq | apply Aw_block | apply Aw_skip | apply Aw_exit | refine Aw_condt rfl ?_ | refine Aw_condf rfl ?_ | ((first | refine qr ?_ | refine qd (by kernel_rfl) (by kernel_rfl) ?_); simp only [go_sem, jE, reduceIte, jA, jM, jS, jL, jD, jB]) | refine dk (by kernel_rfl) ?_ | (refine qx (call_L (N' := [0, 1]) (L := []) (k) rfl (.cons (.nm rfl) (.cons (.nm rfl) (.nil))) (by decide) (by decide) (by decide) (by simp only [go_sem, jE, reduceIte, jA, jM, jS, jL, jD, jB]; first | done | rfl) (.inl rfl) rfl (by decide)) (by simp only [go_sem, jE, reduceIte, jA, jM, jS, jL, jD, jB]; first | done | rfl) rfl (by simp only [go_sem, Nat.reduceLT]) ?_; simp only [go_sem, jE, reduceIte, jA, jM, jS, jL, jD, jB]))
  exact Aw_ret (ret0 (.inl rfl) (by simp only [go_sem, jE, reduceIte, jA, jM, jS, jL, jD, jB]; rfl) (by rfl) rfl)
def lowB (r : List Ent) (b : Bool) (i : Nat) : List Ent := match r[i]? with
  | some e => if (!b || (!lastAt r e i || !e.gone)) = true then [e] else []
  | none => []
theorem lowB_len (r : List Ent) (b : Bool) (i : Nat) : (lowB r b i).length ≤ 1 := by unfold lowB; split <;> (try split) <;> simp
theorem lowB_all (r : List Ent) (b : Bool) : colI r.length (lowB r b) = if b = true then trim2 r else r := by
  cases b
  · rw [if_neg (by simp)]
    have key : ∀ n, n ≤ r.length → colI n (lowB r false) = r.take n := by
      intro n
      induction n with
      | zero => intro _; rfl
      | succ n ih =>
        intro h
        have hx := List.getElem?_eq_getElem (show n < r.length by omega)
        rw [colI_succ, ih (by omega), List.take_add_one, hx]
        unfold lowB
        rw [hx]; rfl
    rw [key _ (Nat.le_refl _), List.take_length]
  · rw [if_pos rfl]
    unfold trim2
    congr 1
    funext i
    unfold lowB lowAt
    cases r[i]? with
    | none => rfl
    | some e => simp only [Bool.not_true, Bool.false_or]; rw [Bool.or_comm]
theorem runTrim_ac (r : List Ent) (ts : List Int) (b : Bool) (hs : SmR r) (hr : runOk r = true) (ht : ts.length ≤ 1000) : AC Tryz.prog 93 [runT r, intsT ts, bT b] noHp 0 ⟨.t (.c (.h 0)), hpL [some (eRow (trimM r ts b))], 1⟩ := by
  have k0 := runOk_ac r hs
  rw [hr] at k0
  have hrl := (run_pw hr).2.2
  refine AC_of Tryz.func93 rfl Tryz.ntmps93 Tryz.results93 (by kernel_rfl) rfl ?_
  simp only [List.zipIdx, List.map, Nat.zero_add, Nat.reduceAdd]
  repeat (first | apply Aw_seq | apply Aw_block | apply Aw_skip | apply Aw_exit | refine Aw_condt rfl ?_ | refine Aw_condf rfl ?_ | ((first | refine qr ?_ | refine qd (by kernel_rfl) (by kernel_rfl) ?_); simp only [go_sem, jE, reduceIte, jA, jM, jS, jL, jD, jB]) | refine dk (by kernel_rfl) ?_ | (refine qp (k0) (by simp only [go_sem, jE, reduceIte, jA, jM, jS, jL, jD, jB]; first | done | rfl) rfl (by simp only [go_sem, Nat.reduceLT]) rfl rfl ?_; simp only [go_sem, jE, reduceIte, jA, jM, jS, jL, jD, jB]))
  refine Aw.own (t := 7) (e := 56) (j := 4) rfl (by decide) (by simp only [Nat.reduceAdd]; rfl) ?_
  refine Aw.rw (rwL (l' := [(19, .t (iT (0 : Nat))), (18, .t (iT r.length)), (17, .t (runT r)), (7, .t (.c (.h 0))), (2, .t (bT b)), (1, .t (intsT ts)), (0, .t (runT r))]) (os := [some (eRow (colI 0 (trimAt r ts)))]) (M := [7]) (n' := 1) (by repeat (first | exact trivial | refine ⟨rfl, rfl, ?_⟩)) (by rfl) (by simp only [go_sem, jE, reduceIte, jA, jM, jS, jL, jD, jB, colI_0, List.map_nil]; first | done | rfl) (by decide) (by unfold idM; decide)) ?_
  refine Aw_loop_rw (ι := { i : Nat // i ≤ r.length }) (fun q => S [(19, .t (iT (q.1 : Nat))), (18, .t (iT r.length)), (17, .t (runT r)), (7, .t (.c (.h 0))), (2, .t (bT b)), (1, .t (intsT ts)), (0, .t (runT r))] (hpL [some (eRow (colI q.1 (trimAt r ts)))]) 1) (fun q => r.length - q.1) ⟨0, Nat.zero_le _⟩ ?_
  rintro ⟨i, hi⟩
  dsimp only
  by_cases hlt : i < r.length
  · have g1 : decide ((i : Int) < (r.length : Int)) = true := decide_eq_true (by omega)
    have w1 := wrap_succ hlt (by omega)
    obtain ⟨e, hx⟩ : ∃ e, r[i]? = some e := ⟨_, List.getElem?_eq_getElem hlt⟩
    have hcl := colI_len (trimAt_len r ts) (n := i)
    have hq : ((colI i (trimAt r ts)).length + 1) * 40 ≤ 140737488355328 := by omega
    have hsu : colI (i + 1) (trimAt r ts) = colI i (trimAt r ts) ++ (if seenAt r ts i = true then [e] else []) := by
      rw [colI_succ]; congr 1; unfold trimAt; rw [hx]
    rcases i with _ | j
    · have h5 : decide (((0 : Nat) : Int) = 0) = true := rfl
      have hse : seenAt r ts 0 = true := by unfold seenAt; rw [hx]
      rw [hse, if_pos rfl] at hsu
      repeat (first | apply Aw_seq | apply Aw_block | apply Aw_skip | apply Aw_exit | refine Aw_condt rfl ?_ | refine Aw_condf rfl ?_ | ((first | refine qr ?_ | refine qd (by kernel_rfl) (by kernel_rfl) ?_); simp only [go_sem, jE, reduceIte, jA, jM, jS, jL, jD, jB, g1, w1, hx, hq, h5]) | refine dk (by kernel_rfl) ?_)
      refine ⟨⟨1, hlt⟩, [17], ?_, rwL (by repeat (first | exact trivial | refine ⟨rfl, rfl, ?_⟩)) (by rfl) (by simp only [go_sem, jE, reduceIte, jA, jM, jS, jL, jD, jB, hsu, List.map_append, List.map_cons, List.map_nil]; first | done | rfl) (by decide) (by unfold idM; decide)⟩
      show r.length - 1 < r.length - 0; omega
    · have h5 : decide (((j + 1 : Nat) : Int) = 0) = false := decide_eq_false (by omega)
      have h6 := wrap_pred (i := j) (m := r.length) (by omega) (by omega)
      obtain ⟨p, hy⟩ : ∃ e, r[j]? = some e := ⟨_, List.getElem?_eq_getElem (by omega)⟩
      cases c : decide (p.key = e.key)
      · have hse : seenAt r ts (j + 1) = true := by unfold seenAt; rw [hx]; simp only [hy, c]; rfl
        rw [hse, if_pos rfl] at hsu
        repeat (first | apply Aw_seq | apply Aw_block | apply Aw_skip | apply Aw_exit | refine Aw_condt rfl ?_ | refine Aw_condf rfl ?_ | ((first | refine qr ?_ | refine qd (by kernel_rfl) (by kernel_rfl) ?_); simp only [go_sem, jE, reduceIte, jA, jM, jS, jL, jD, jB, g1, w1, hx, hq, h5, h6, hy, c]) | refine dk (by kernel_rfl) ?_)
        refine ⟨⟨j + 1 + 1, hlt⟩, [26], ?_, rwL (by repeat (first | exact trivial | refine ⟨rfl, rfl, ?_⟩)) (by rfl) (by simp only [go_sem, jE, reduceIte, jA, jM, jS, jL, jD, jB, hsu, List.map_append, List.map_cons, List.map_nil]; first | done | rfl) (by decide) (by unfold idM; decide)⟩
        show r.length - (j + 1 + 1) < r.length - (j + 1); omega
      · have hse : seenAt r ts (j + 1) = gapM ts e p := by unfold seenAt; rw [hx]; simp only [hy, c]; rfl
        rw [hse] at hsu
        have k1 := seen_ac ts e p (by omega)
        cases c2 : gapM ts e p
        · rw [c2] at k1
          rw [c2, if_neg (by simp), List.append_nil] at hsu
          repeat (first | apply Aw_seq | apply Aw_block | apply Aw_skip | apply Aw_exit | refine Aw_condt rfl ?_ | refine Aw_condf rfl ?_ | ((first | refine qr ?_ | refine qd (by kernel_rfl) (by kernel_rfl) ?_); simp only [go_sem, jE, reduceIte, jA, jM, jS, jL, jD, jB, g1, w1, hx, hq, h5, h6, hy, c]) | refine dk (by kernel_rfl) ?_ | (refine qp (k1) (by simp only [go_sem, jE, reduceIte, jA, jM, jS, jL, jD, jB, g1, w1, hx, hq, h5, h6, hy, c]; first | done | rfl) rfl (by simp only [go_sem, Nat.reduceLT]) rfl rfl ?_; simp only [go_sem, jE, reduceIte, jA, jM, jS, jL, jD, jB, g1, w1, hx, hq, h5, h6, hy, c]))
          refine ⟨⟨j + 1 + 1, hlt⟩, [0], ?_, rwL (by repeat (first | exact trivial | refine ⟨rfl, rfl, ?_⟩)) (by rfl) (by simp only [go_sem, jE, reduceIte, jA, jM, jS, jL, jD, jB, hsu]; first | done | rfl) (by decide) (by unfold idM; decide)⟩
          show r.length - (j + 1 + 1) < r.length - (j + 1); omega
        · rw [c2] at k1
          rw [c2, if_pos rfl] at hsu
          repeat (first | apply Aw_seq | apply Aw_block | apply Aw_skip | apply Aw_exit | refine Aw_condt rfl ?_ | refine Aw_condf rfl ?_ | ((first | refine qr ?_ | refine qd (by kernel_rfl) (by kernel_rfl) ?_); simp only [go_sem, jE, reduceIte, jA, jM, jS, jL, jD, jB, g1, w1, hx, hq, h5, h6, hy, c]) | refine dk (by kernel_rfl) ?_ | (refine qp (k1) (by simp only [go_sem, jE, reduceIte, jA, jM, jS, jL, jD, jB, g1, w1, hx, hq, h5, h6, hy, c]; first | done | rfl) rfl (by simp only [go_sem, Nat.reduceLT]) rfl rfl ?_; simp only [go_sem, jE, reduceIte, jA, jM, jS, jL, jD, jB, g1, w1, hx, hq, h5, h6, hy, c]))
          refine ⟨⟨j + 1 + 1, hlt⟩, [33], ?_, rwL (by repeat (first | exact trivial | refine ⟨rfl, rfl, ?_⟩)) (by rfl) (by simp only [go_sem, jE, reduceIte, jA, jM, jS, jL, jD, jB, hsu, List.map_append, List.map_cons, List.map_nil]; first | done | rfl) (by decide) (by unfold idM; decide)⟩
          show r.length - (j + 1 + 1) < r.length - (j + 1); omega
  · have g1 : decide ((i : Int) < (r.length : Int)) = false := decide_eq_false (by omega)
    obtain rfl : i = r.length := by omega
    have e1 : trimM r ts b = colI (trim1 r ts).length (lowB (trim1 r ts) b) := by rw [lowB_all]; unfold trimM; cases b <;> rfl
    have hll := trim1_len r ts
    rw [e1]
    have e2 : colI r.length (trimAt r ts) = trim1 r ts := rfl
    rw [e2]
    obtain ⟨q, hq0⟩ : ∃ q, q = trim1 r ts := ⟨_, rfl⟩
    rw [← hq0] at hll ⊢
    clear e1 e2 hq0
    repeat (first | apply Aw_seq | apply Aw_block | apply Aw_skip | apply Aw_exit | refine Aw_condt rfl ?_ | refine Aw_condf rfl ?_ | ((first | refine qr ?_ | refine qd (by kernel_rfl) (by kernel_rfl) ?_); simp only [go_sem, jE, reduceIte, jA, jM, jS, jL, jD, jB, g1]) | refine dk (by kernel_rfl) ?_)
    refine Aw.own (t := 10) (e := 56) (j := 4) rfl (by decide) (by simp only [Nat.reduceAdd]; rfl) ?_
    refine Aw.rw (rwL (l' := [(54, .t (iT (0 : Nat))), (53, .t (iT q.length)), (52, .t (.c (.h 0))), (10, .t (.c (.h 1))), (7, .t (.c (.h 0))), (2, .t (bT b))]) (os := [some (eRow q), some (eRow (colI 0 (lowB q b)))]) (M := [0, 6]) (n' := 2) (by repeat (first | exact trivial | refine ⟨rfl, rfl, ?_⟩)) (by rfl) (by simp only [go_sem, jE, reduceIte, jA, jM, jS, jL, jD, jB, colI_0, List.map_nil]; first | done | rfl) (by decide) (by unfold idM; decide)) ?_
    refine Aw.setL (l' := [(54, .t (iT (0 : Nat))), (53, .t (iT q.length)), (52, .t (runT q)), (10, .t (.c (.h 1))), (7, .t (runT q)), (2, .t (bT b))]) (os' := [none, some (eRow (colI 0 (lowB q b)))]) (n' := 2) [0] (by repeat (first | exact trivial | refine ⟨SetA.same rfl, ?_⟩ | refine ⟨SetA.row rfl rfl (by decide), ?_⟩)) (by repeat (first | exact trivial | refine ⟨rfl, rfl, ?_⟩ | show SubL _ _ _ _)) (by decide) ?_
    refine Aw_loop_rw (ι := { i : Nat // i ≤ q.length }) (fun z => S [(54, .t (iT (z.1 : Nat))), (53, .t (iT q.length)), (52, .t (runT q)), (10, .t (.c (.h 1))), (7, .t (runT q)), (2, .t (bT b))] (hpL [none, some (eRow (colI z.1 (lowB q b)))]) 2) (fun z => q.length - z.1) ⟨0, Nat.zero_le _⟩ ?_
    clear g1
    rintro ⟨i, hi⟩
    dsimp only
    by_cases hlt : i < q.length
    · have g1 : decide ((i : Int) < (q.length : Int)) = true := decide_eq_true (by omega)
      have w1 := wrap_succ hlt (by omega)
      obtain ⟨e, hx⟩ : ∃ e, q[i]? = some e := ⟨_, List.getElem?_eq_getElem hlt⟩
      have hcl := colI_len (lowB_len q b) (n := i)
      have hq : ((colI i (lowB q b)).length + 1) * 40 ≤ 140737488355328 := by omega
      have hsu : colI (i + 1) (lowB q b) = colI i (lowB q b) ++ (if (!b || (!lastAt q e i || !e.gone)) = true then [e] else []) := by
        rw [colI_succ]; congr 1; unfold lowB; rw [hx]
      have w2 : IntKind.i64.wrap ((i : Int) + 1) = ((i + 1 : Nat) : Int) := w1
      by_cases hA : i + 1 = q.length
      · have g5 : decide (((i + 1 : Nat) : Int) = (q.length : Int)) = true := decide_eq_true (by omega)
        have hla : lastAt q e i = true := by unfold lastAt; rw [List.getElem?_eq_none (by omega)]
        cases b
        · have hp : (!false || (!lastAt q e i || !e.gone)) = true := by rw [hla]; rfl
          rw [hp, if_pos rfl] at hsu
          repeat (first | apply Aw_seq | apply Aw_block | apply Aw_skip | apply Aw_exit | refine Aw_condt rfl ?_ | refine Aw_condf rfl ?_ | ((first | refine qr ?_ | refine qd (by kernel_rfl) (by kernel_rfl) ?_); simp only [go_sem, jE, reduceIte, jA, jM, jS, jL, jD, jB, g1, w1, hx, hq, w2, g5]) | refine dk (by kernel_rfl) ?_)
          refine ⟨⟨i + 1, hlt⟩, [0, 26], ?_, rwL (by repeat (first | exact trivial | refine ⟨rfl, rfl, ?_⟩)) (by rfl) (by simp only [go_sem, jE, reduceIte, jA, jM, jS, jL, jD, jB, hsu, List.map_append, List.map_cons, List.map_nil]; first | done | rfl) (by decide) (by unfold idM; decide)⟩
          show q.length - (i + 1) < q.length - i; omega
        · cases c5 : e.gone
          · have hp : (!true || (!lastAt q e i || !e.gone)) = true := by rw [hla, c5]; rfl
            rw [hp, if_pos rfl] at hsu
            repeat (first | apply Aw_seq | apply Aw_block | apply Aw_skip | apply Aw_exit | refine Aw_condt rfl ?_ | refine Aw_condf rfl ?_ | ((first | refine qr ?_ | refine qd (by kernel_rfl) (by kernel_rfl) ?_); simp only [go_sem, jE, reduceIte, jA, jM, jS, jL, jD, jB, g1, w1, hx, hq, w2, g5, c5]) | refine dk (by kernel_rfl) ?_)
            refine ⟨⟨i + 1, hlt⟩, [0, 31], ?_, rwL (by repeat (first | exact trivial | refine ⟨rfl, rfl, ?_⟩)) (by rfl) (by simp only [go_sem, jE, reduceIte, jA, jM, jS, jL, jD, jB, hsu, List.map_append, List.map_cons, List.map_nil, c5]; first | done | rfl) (by decide) (by unfold idM; decide)⟩
            show q.length - (i + 1) < q.length - i; omega
          · have hp : (!true || (!lastAt q e i || !e.gone)) = false := by rw [hla, c5]; rfl
            rw [hp, if_neg (by simp), List.append_nil] at hsu
            repeat (first | apply Aw_seq | apply Aw_block | apply Aw_skip | apply Aw_exit | refine Aw_condt rfl ?_ | refine Aw_condf rfl ?_ | ((first | refine qr ?_ | refine qd (by kernel_rfl) (by kernel_rfl) ?_); simp only [go_sem, jE, reduceIte, jA, jM, jS, jL, jD, jB, g1, w1, hx, hq, w2, g5, c5]) | refine dk (by kernel_rfl) ?_)
            refine ⟨⟨i + 1, hlt⟩, [0, 1], ?_, rwL (by repeat (first | exact trivial | refine ⟨rfl, rfl, ?_⟩)) (by rfl) (by simp only [go_sem, jE, reduceIte, jA, jM, jS, jL, jD, jB, hsu]; first | done | rfl) (by decide) (by unfold idM; decide)⟩
            show q.length - (i + 1) < q.length - i; omega
      · have g5 : decide (((i + 1 : Nat) : Int) = (q.length : Int)) = false := decide_eq_false (by omega)
        obtain ⟨z, hz⟩ : ∃ z, q[i + 1]? = some z := ⟨_, List.getElem?_eq_getElem (by omega)⟩
        cases c : decide (z.key = e.key)
        · have hla : lastAt q e i = true := by unfold lastAt; rw [hz]; simp only [c]; rfl
          cases b
          · have hp : (!false || (!lastAt q e i || !e.gone)) = true := by rw [hla]; rfl
            rw [hp, if_pos rfl] at hsu
            repeat (first | apply Aw_seq | apply Aw_block | apply Aw_skip | apply Aw_exit | refine Aw_condt rfl ?_ | refine Aw_condf rfl ?_ | ((first | refine qr ?_ | refine qd (by kernel_rfl) (by kernel_rfl) ?_); simp only [go_sem, jE, reduceIte, jA, jM, jS, jL, jD, jB, g1, w1, hx, hq, w2, g5, hz, c]) | refine dk (by kernel_rfl) ?_)
            refine ⟨⟨i + 1, hlt⟩, [0, 35], ?_, rwL (by repeat (first | exact trivial | refine ⟨rfl, rfl, ?_⟩)) (by rfl) (by simp only [go_sem, jE, reduceIte, jA, jM, jS, jL, jD, jB, hsu, List.map_append, List.map_cons, List.map_nil]; first | done | rfl) (by decide) (by unfold idM; decide)⟩
            show q.length - (i + 1) < q.length - i; omega
          · cases c5 : e.gone
            · have hp : (!true || (!lastAt q e i || !e.gone)) = true := by rw [hla, c5]; rfl
              rw [hp, if_pos rfl] at hsu
              repeat (first | apply Aw_seq | apply Aw_block | apply Aw_skip | apply Aw_exit | refine Aw_condt rfl ?_ | refine Aw_condf rfl ?_ | ((first | refine qr ?_ | refine qd (by kernel_rfl) (by kernel_rfl) ?_); simp only [go_sem, jE, reduceIte, jA, jM, jS, jL, jD, jB, g1, w1, hx, hq, w2, g5, hz, c, c5]) | refine dk (by kernel_rfl) ?_)
              refine ⟨⟨i + 1, hlt⟩, [0, 40], ?_, rwL (by repeat (first | exact trivial | refine ⟨rfl, rfl, ?_⟩)) (by rfl) (by simp only [go_sem, jE, reduceIte, jA, jM, jS, jL, jD, jB, hsu, List.map_append, List.map_cons, List.map_nil, c5]; first | done | rfl) (by decide) (by unfold idM; decide)⟩
              show q.length - (i + 1) < q.length - i; omega
            · have hp : (!true || (!lastAt q e i || !e.gone)) = false := by rw [hla, c5]; rfl
              rw [hp, if_neg (by simp), List.append_nil] at hsu
              repeat (first | apply Aw_seq | apply Aw_block | apply Aw_skip | apply Aw_exit | refine Aw_condt rfl ?_ | refine Aw_condf rfl ?_ | ((first | refine qr ?_ | refine qd (by kernel_rfl) (by kernel_rfl) ?_); simp only [go_sem, jE, reduceIte, jA, jM, jS, jL, jD, jB, g1, w1, hx, hq, w2, g5, hz, c, c5]) | refine dk (by kernel_rfl) ?_)
              refine ⟨⟨i + 1, hlt⟩, [0, 1], ?_, rwL (by repeat (first | exact trivial | refine ⟨rfl, rfl, ?_⟩)) (by rfl) (by simp only [go_sem, jE, reduceIte, jA, jM, jS, jL, jD, jB, hsu]; first | done | rfl) (by decide) (by unfold idM; decide)⟩
              show q.length - (i + 1) < q.length - i; omega
        · have hla : lastAt q e i = false := by unfold lastAt; rw [hz]; simp only [c]; rfl
          cases b
          · have hp : (!false || (!lastAt q e i || !e.gone)) = true := by rw [hla]; rfl
            rw [hp, if_pos rfl] at hsu
            repeat (first | apply Aw_seq | apply Aw_block | apply Aw_skip | apply Aw_exit | refine Aw_condt rfl ?_ | refine Aw_condf rfl ?_ | ((first | refine qr ?_ | refine qd (by kernel_rfl) (by kernel_rfl) ?_); simp only [go_sem, jE, reduceIte, jA, jM, jS, jL, jD, jB, g1, w1, hx, hq, w2, g5, hz, c]) | refine dk (by kernel_rfl) ?_)
            refine ⟨⟨i + 1, hlt⟩, [0, 35], ?_, rwL (by repeat (first | exact trivial | refine ⟨rfl, rfl, ?_⟩)) (by rfl) (by simp only [go_sem, jE, reduceIte, jA, jM, jS, jL, jD, jB, hsu, List.map_append, List.map_cons, List.map_nil]; first | done | rfl) (by decide) (by unfold idM; decide)⟩
            show q.length - (i + 1) < q.length - i; omega
          · have hp : (!true || (!lastAt q e i || !e.gone)) = true := by rw [hla]; rfl
            rw [hp, if_pos rfl] at hsu
            repeat (first | apply Aw_seq | apply Aw_block | apply Aw_skip | apply Aw_exit | refine Aw_condt rfl ?_ | refine Aw_condf rfl ?_ | ((first | refine qr ?_ | refine qd (by kernel_rfl) (by kernel_rfl) ?_); simp only [go_sem, jE, reduceIte, jA, jM, jS, jL, jD, jB, g1, w1, hx, hq, w2, g5, hz, c]) | refine dk (by kernel_rfl) ?_)
            refine ⟨⟨i + 1, hlt⟩, [0, 37], ?_, rwL (by repeat (first | exact trivial | refine ⟨rfl, rfl, ?_⟩)) (by rfl) (by simp only [go_sem, jE, reduceIte, jA, jM, jS, jL, jD, jB, hsu, List.map_append, List.map_cons, List.map_nil]; first | done | rfl) (by decide) (by unfold idM; decide)⟩
            show q.length - (i + 1) < q.length - i; omega
    · have g1 : decide ((i : Int) < (q.length : Int)) = false := decide_eq_false (by omega)
      obtain rfl : i = q.length := by omega
      repeat (first | apply Aw_seq | apply Aw_block | apply Aw_skip | apply Aw_exit | refine Aw_condt rfl ?_ | refine Aw_condf rfl ?_ | ((first | refine qr ?_ | refine qd (by kernel_rfl) (by kernel_rfl) ?_); simp only [go_sem, jE, reduceIte, jA, jM, jS, jL, jD, jB, g1]) | refine dk (by kernel_rfl) ?_)
      exact Aw_ret (retL (M := [1]) (.inl rfl) (by simp only [go_sem, jE, reduceIte, jA, jM, jS, jL, jD, jB]; first | done | rfl) rfl rfl (by rfl) (by simp only [go_sem, jE, reduceIte, jA, jM, jS, jL, jD, jB]; first | done | rfl | (and_intros <;> rfl)) (by decide) (by unfold idM; decide))
theorem runTrimS_ac (r : List Ent) (ts : List Int) (b : Bool) (hs : SmR r) (hr : runOk r = true) (ht : ts.length ≤ 1000) : AC Tryz.prog 93 [runT r, intsT ts, bT b] noHp 0 ⟨.t (runT (trimM r ts b)), noHp, 0⟩ := AC.settle0 [0] (runTrim_ac r ts b hs hr ht) (SetC.row0 rfl rfl) rfl
abbrev cmpV : TV := .c (.fn 124 [])
def cmpM (a b : Ent) : Int := if before a b = true then -1 else if before b a = true then 1 else 0
theorem cmp_ac (a b : Ent) : AC Tryz.prog 124 [entT a, entT b] noHp 0 ⟨.t (iT (cmpM a b)), noHp, 0⟩ := by
  refine AC_of Tryz.func124 rfl Tryz.ntmps124 Tryz.results124 (by kernel_rfl) rfl ?_
  simp only [List.zipIdx, List.map, Nat.zero_add, Nat.reduceAdd]
  have k1 := before_ac a b
  have k2 := before_ac b a
  unfold cmpM
  cases c1 : before a b
  · cases c2 : before b a
    · rw [c1] at k1; rw [c2] at k2
      repeat (first | apply Aw_seq | apply Aw_block | apply Aw_skip | apply Aw_exit | refine Aw_condt rfl ?_ | refine Aw_condf rfl ?_ | ((first | refine qr ?_ | refine qd (by kernel_rfl) (by kernel_rfl) ?_); simp only [go_sem, jE, reduceIte, jA, jM, jS, jL, jD, jB]) | refine dk (by kernel_rfl) ?_ | (refine qp (k1) (by simp only [go_sem, jE, reduceIte, jA, jM, jS, jL, jD, jB]; first | done | rfl) rfl (by simp only [go_sem, Nat.reduceLT]) rfl rfl ?_; simp only [go_sem, jE, reduceIte, jA, jM, jS, jL, jD, jB]) | (refine qp (k2) (by simp only [go_sem, jE, reduceIte, jA, jM, jS, jL, jD, jB]; first | done | rfl) rfl (by simp only [go_sem, Nat.reduceLT]) rfl rfl ?_; simp only [go_sem, jE, reduceIte, jA, jM, jS, jL, jD, jB]))
      exact Aw_ret (ret0 (.inl rfl) (by simp only [go_sem, jE, reduceIte, jA, jM, jS, jL, jD, jB]; rfl) (by rfl) rfl)
    · rw [c1] at k1; rw [c2] at k2
      repeat (first | apply Aw_seq | apply Aw_block | apply Aw_skip | apply Aw_exit | refine Aw_condt rfl ?_ | refine Aw_condf rfl ?_ | ((first | refine qr ?_ | refine qd (by kernel_rfl) (by kernel_rfl) ?_); simp only [go_sem, jE, reduceIte, jA, jM, jS, jL, jD, jB]) | refine dk (by kernel_rfl) ?_ | (refine qp (k1) (by simp only [go_sem, jE, reduceIte, jA, jM, jS, jL, jD, jB]; first | done | rfl) rfl (by simp only [go_sem, Nat.reduceLT]) rfl rfl ?_; simp only [go_sem, jE, reduceIte, jA, jM, jS, jL, jD, jB]) | (refine qp (k2) (by simp only [go_sem, jE, reduceIte, jA, jM, jS, jL, jD, jB]; first | done | rfl) rfl (by simp only [go_sem, Nat.reduceLT]) rfl rfl ?_; simp only [go_sem, jE, reduceIte, jA, jM, jS, jL, jD, jB]))
      exact Aw_ret (ret0 (.inl rfl) (by simp only [go_sem, jE, reduceIte, jA, jM, jS, jL, jD, jB]; rfl) (by rfl) rfl)
  · rw [c1] at k1
    repeat (first | apply Aw_seq | apply Aw_block | apply Aw_skip | apply Aw_exit | refine Aw_condt rfl ?_ | refine Aw_condf rfl ?_ | ((first | refine qr ?_ | refine qd (by kernel_rfl) (by kernel_rfl) ?_); simp only [go_sem, jE, reduceIte, jA, jM, jS, jL, jD, jB]) | refine dk (by kernel_rfl) ?_ | (refine qp (k1) (by simp only [go_sem, jE, reduceIte, jA, jM, jS, jL, jD, jB]; first | done | rfl) rfl (by simp only [go_sem, Nat.reduceLT]) rfl rfl ?_; simp only [go_sem, jE, reduceIte, jA, jM, jS, jL, jD, jB]))
    exact Aw_ret (ret0 (.inl rfl) (by simp only [go_sem, jE, reduceIte, jA, jM, jS, jL, jD, jB]; rfl) (by rfl) rfl)
theorem AC.toLV {P : Program} {f : FuncId} {args : List TV} {x : AV} (h : AC P f args noHp 0 ⟨x, noHp, 0⟩) : AC P f args (hpL []) 0 ⟨x, hpL [], 0⟩ := by rw [hpL_nil]; exact h
theorem cmpM_neg (a b : Ent) : decide (cmpM a b < 0) = before a b := by
  unfold cmpM
  cases before a b
  · cases before b a <;> rfl
  · rfl
/-- The cells of an entry. -/
theorem set_en (xs : List Ent) (n : Nat) (e : Ent) : (List.map (fun x => List.map CV.d x) (List.map entD xs)).set n [.d (.s (.string e.key)), .d (.s (.int .i64 e.val)), .d (.s (.bool e.gone)), .d (.s (.int .i64 e.time))] = List.map (fun x => List.map CV.d x) (List.map entD (xs.set n e)) := by
  rw [List.map_set, List.map_set]; rfl
theorem d_en (xs : List Ent) : (⟨56, 4, true, List.map (fun x => List.map CV.d x) (List.map entD xs)⟩ : Obj) = dRow 56 4 (List.map entD xs) := rfl
def swp (a b : Nat) (xs : List Ent) : Nat → List Ent
  | 0 => xs
  | i + 1 => match (swp a b xs i)[a + i]?, (swp a b xs i)[b + i]? with
    | some p, some q => ((swp a b xs i).set (a + i) q).set (b + i) p
    | _, _ => swp a b xs i
theorem swp_len (a b : Nat) (xs : List Ent) : ∀ i, (swp a b xs i).length = xs.length
  | 0 => rfl
  | i + 1 => by
    unfold swp
    split
    · rw [List.length_set, List.length_set]; exact swp_len a b xs i
    · exact swp_len a b xs i
theorem swapRange_ac (xs : List Ent) (a b n : Nat) (hl : xs.length ≤ 1000) (ha : a + n ≤ xs.length) (hb : b + n ≤ xs.length) : AC Tryz.prog 199 [.c (.h 0), iT a, iT b, iT n, cmpV] (hpL [some (eRow xs)]) 1 ⟨.tup [], hpL [some (eRow (swp a b xs n))], 1⟩ := by
  refine AC_of Tryz.func199 rfl Tryz.ntmps199 Tryz.results199 (by kernel_rfl) rfl ?_
  simp only [List.zipIdx, List.map, Nat.zero_add, Nat.reduceAdd]
  repeat (first | apply Aw_seq | apply Aw_block | apply Aw_skip | apply Aw_exit | refine Aw_condt rfl ?_ | refine Aw_condf rfl ?_ | ((first | refine qr ?_ | refine qd (by kernel_rfl) (by kernel_rfl) ?_); simp only [go_sem, jE, reduceIte, jA, jM, jS, jL, jD, jB]) | refine dk (by kernel_rfl) ?_)
  refine Aw.rw (rwL (l' := [(10, .t (iT (0 : Nat))), (4, .t cmpV), (3, .t (iT n)), (2, .t (iT b)), (1, .t (iT a)), (0, .t (.c (.h 0)))]) (os := [some (eRow (swp a b xs 0))]) (M := [0]) (n' := 1) (by repeat (first | exact trivial | refine ⟨rfl, rfl, ?_⟩)) (by rfl) (by simp only [go_sem, jE, reduceIte, jA, jM, jS, jL, jD, jB, swp]; first | done | rfl) (by decide) (by unfold idM; decide)) ?_
  refine Aw_loop_rw (ι := { i : Nat // i ≤ n }) (fun q => S [(10, .t (iT (q.1 : Nat))), (4, .t cmpV), (3, .t (iT n)), (2, .t (iT b)), (1, .t (iT a)), (0, .t (.c (.h 0)))] (hpL [some (eRow (swp a b xs q.1))]) 1) (fun q => n - q.1) ⟨0, Nat.zero_le _⟩ ?_
  rintro ⟨i, hi⟩
  dsimp only
  by_cases hlt : i < n
  · have g1 : (i : Int) < (n : Int) := by omega
    have w1 := wrap_succ hlt (by omega)
    have hsl := swp_len a b xs i
    obtain ⟨p, hp⟩ : ∃ e, (swp a b xs i)[a + i]? = some e := ⟨_, List.getElem?_eq_getElem (by omega)⟩
    obtain ⟨q, hq⟩ : ∃ e, (swp a b xs i)[b + i]? = some e := ⟨_, List.getElem?_eq_getElem (by omega)⟩
    have e1 : swp a b xs (i + 1) = ((swp a b xs i).set (a + i) q).set (b + i) p := by rw [swp, hp, hq]
    have wa : IntKind.i64.wrap ((a : Int) + (i : Int)) = ((a + i : Nat) : Int) := by rw [show (a : Int) + (i : Int) = ((a + i : Nat) : Int) by omega]; exact wrap_nat (by omega)
    have wb : IntKind.i64.wrap ((b : Int) + (i : Int)) = ((b + i : Nat) : Int) := by rw [show (b : Int) + (i : Int) = ((b + i : Nat) : Int) by omega]; exact wrap_nat (by omega)
    generalize swp a b xs i = ys at hsl hp hq e1 ⊢
    have la : a + i < ys.length := by omega
    have lb : b + i < ys.length := by omega
    obtain ⟨q2, hq2⟩ : ∃ e, (ys.set (a + i) q)[b + i]? = some e := ⟨_, List.getElem?_eq_getElem (by rw [List.length_set]; exact lb)⟩
    repeat (first | apply Aw_seq | apply Aw_block | apply Aw_skip | apply Aw_exit | refine Aw_condt rfl ?_ | refine Aw_condf rfl ?_ | ((first | refine qr ?_ | refine qd (by kernel_rfl) (by kernel_rfl) ?_); simp only [go_sem, jE, reduceIte, jA, jM, jS, jL, jD, jB, g1, w1, wa, wb, hp, hq, la, lb, hq2, set_en, d_en, List.length_set]) | refine dk (by kernel_rfl) ?_)
    refine ⟨⟨i + 1, hlt⟩, [0], ?_, rwL (by repeat (first | exact trivial | refine ⟨rfl, rfl, ?_⟩)) (by rfl) (by simp only [go_sem, jE, reduceIte, jA, jM, jS, jL, jD, jB, e1]; first | done | rfl) (by decide) (by unfold idM; decide)⟩
    show n - (i + 1) < n - i; omega
  · have g1 : ¬ (i : Int) < (n : Int) := by omega
    obtain rfl : i = n := by omega
    repeat (first | apply Aw_seq | apply Aw_block | apply Aw_skip | apply Aw_exit | refine Aw_condt rfl ?_ | refine Aw_condf rfl ?_ | ((first | refine qr ?_ | refine qd (by kernel_rfl) (by kernel_rfl) ?_); simp only [go_sem, jE, reduceIte, jA, jM, jS, jL, jD, jB, g1]) | refine dk (by kernel_rfl) ?_)
    exact (retL (M := [0]) (.inr rfl) (by simp only [resA, go_sem, jE, reduceIte, jA, jM, jS, jL, jD, jB]; first | done | rfl) rfl rfl (by rfl) (by simp only [go_sem, jE, reduceIte, jA, jM, jS, jL, jD, jB]; first | done | rfl | (and_intros <;> rfl)) (by decide) (by unfold idM; decide))
theorem swp_get (a b n : Nat) (xs : List Ent) (hab : a + n ≤ b) (hb : b + n ≤ xs.length) : ∀ i, i ≤ n → ∀ j, (swp a b xs i)[j]? = if a ≤ j ∧ j < a + i then xs[j + (b - a)]? else if b ≤ j ∧ j < b + i then xs[j - (b - a)]? else xs[j]?
  | 0, _, j => by rw [if_neg (by omega), if_neg (by omega)]; rfl
  | i + 1, hi, j => by
    have ih := swp_get a b n xs hab hb i (by omega)
    have ha := ih (a + i)
    rw [if_neg (by omega), if_neg (by omega)] at ha
    have hbb := ih (b + i)
    rw [if_neg (by omega), if_neg (by omega)] at hbb
    have hl := swp_len a b xs i
    obtain ⟨p, hp⟩ : ∃ e, xs[a + i]? = some e := ⟨_, List.getElem?_eq_getElem (by omega)⟩
    obtain ⟨q, hq⟩ : ∃ e, xs[b + i]? = some e := ⟨_, List.getElem?_eq_getElem (by omega)⟩
    have e1 : swp a b xs (i + 1) = ((swp a b xs i).set (a + i) q).set (b + i) p := by rw [swp, ha, hbb, hp, hq]
    rw [e1, List.getElem?_set, List.getElem?_set, List.length_set]
    by_cases c1 : b + i = j
    · subst c1
      rw [if_pos rfl, if_pos (by omega), if_neg (by omega), if_pos (by omega), show b + i - (b - a) = a + i by omega, hp]
    · rw [if_neg c1]
      by_cases c2 : a + i = j
      · subst c2
        rw [if_pos rfl, if_pos (by omega), if_pos (by omega), show a + i + (b - a) = b + i by omega, hq]
      · rw [if_neg c2, ih]
        by_cases c3 : a ≤ j ∧ j < a + i
        · rw [if_pos c3, if_pos (by omega)]
        · have r1 : ¬ (a ≤ j ∧ j < a + (i + 1)) := by omega
          rw [if_neg c3, if_neg r1]
          by_cases c4 : b ≤ j ∧ j < b + i
          · rw [if_pos c4, if_pos (by omega)]
          · rw [if_neg c4, if_neg (by omega)]
theorem swp_seg (A U W V B : List Ent) (h : U.length = V.length) : swp A.length (A.length + U.length + W.length) (A ++ U ++ W ++ V ++ B) U.length = A ++ V ++ W ++ U ++ B := by
  apply List.ext_getElem?
  intro j
  rw [swp_get A.length (A.length + U.length + W.length) U.length _ (by omega) (by simp; omega) U.length (Nat.le_refl _)]
  simp only [List.append_assoc, List.getElem?_append]
  by_cases c1 : j < A.length
  · rw [if_neg (by omega), if_neg (by omega), if_pos c1, if_pos c1]
  by_cases c2 : j < A.length + U.length
  · rw [if_pos (by omega), if_neg (by omega), if_neg (by omega), if_neg (by omega), if_pos (by omega), if_neg c1, if_pos (by omega)]
    congr 1; omega
  by_cases c3 : j < A.length + U.length + W.length
  · rw [if_neg (by omega), if_neg (by omega), if_neg c1, if_neg (by omega), if_pos (by omega), if_neg c1, if_neg (by omega), if_pos (by omega)]
    congr 1; omega
  by_cases c4 : j < A.length + U.length + W.length + V.length
  · rw [if_neg (by omega), if_pos (by omega), if_neg (by omega), if_pos (by omega), if_neg c1, if_neg (by omega), if_neg (by omega), if_pos (by omega)]
    congr 1; omega
  · rw [if_neg (by omega), if_neg (by omega), if_neg c1, if_neg (by omega), if_neg (by omega), if_neg (by omega), if_neg c1, if_neg (by omega), if_neg (by omega), if_neg (by omega)]
    congr 1; omega
/-- Two stretches of the same length change places. -/
theorem swapSeg_ac (A U W V B : List Ent) (h : U.length = V.length) (hl : (A ++ U ++ W ++ V ++ B).length ≤ 1000) (a b n : Nat) (ea : a = A.length) (eb : b = A.length + U.length + W.length) (en : n = U.length) : AC Tryz.prog 199 [.c (.h 0), iT a, iT b, iT n, cmpV] (hpL [some (eRow (A ++ U ++ W ++ V ++ B))]) 1 ⟨.tup [], hpL [some (eRow (A ++ V ++ W ++ U ++ B))], 1⟩ := by
  subst ea eb en
  rw [← swp_seg A U W V B h]
  refine swapRange_ac _ _ _ _ hl ?_ ?_ <;> simp <;> omega
structure RotI (m : Nat) (R : List Ent) where
  A : List Ent
  X : List Ent
  Y : List Ent
  B : List Ent
  i : Nat
  j : Nat
  hi : X.length = i
  hj : Y.length = j
  hX : 0 < i
  hY : 0 < j
  hm : m = A.length + i
  hl : (A ++ X ++ Y ++ B).length ≤ 1000
  h : A ++ Y ++ X ++ B = R
theorem wsub {a i n : Nat} (h : n + i = a) (hn : a ≤ 1000000) : IntKind.i64.wrap ((a : Int) - (i : Int)) = (n : Int) := by rw [show (a : Int) - (i : Int) = (n : Int) by omega]; exact wrap_nat (by omega)
theorem wadd {a i n : Nat} (h : a + i = n) (hn : n ≤ 1000000) : IntKind.i64.wrap ((a : Int) + (i : Int)) = (n : Int) := by rw [show (a : Int) + (i : Int) = (n : Int) by omega]; exact wrap_nat (by omega)
theorem rotate_ac (A X Y B : List Ent) (hX : 0 < X.length) (hY : 0 < Y.length) (hl : (A ++ X ++ Y ++ B).length ≤ 1000) (a m b : Nat) (ea : a = A.length) (em : m = A.length + X.length) (eb : b = A.length + X.length + Y.length) : AC Tryz.prog 195 [.c (.h 0), iT a, iT m, iT b, cmpV] (hpL [some (eRow (A ++ X ++ Y ++ B))]) 1 ⟨.tup [], hpL [some (eRow (A ++ Y ++ X ++ B))], 1⟩ := by
  refine AC_of Tryz.func195 rfl Tryz.ntmps195 Tryz.results195 (by kernel_rfl) rfl ?_
  simp only [List.zipIdx, List.map, Nat.zero_add, Nat.reduceAdd]
  have hlen : A.length + X.length + Y.length + B.length ≤ 1000 := by simpa [Nat.add_assoc] using hl
  have w1 : IntKind.i64.wrap ((m : Int) - (a : Int)) = (X.length : Int) := wsub (by omega) (by omega)
  have w2 : IntKind.i64.wrap ((b : Int) - (m : Int)) = (Y.length : Int) := wsub (by omega) (by omega)
  obtain ⟨R, hR⟩ : ∃ R, R = A ++ Y ++ X ++ B := ⟨_, rfl⟩
  rw [← hR]
  repeat (first | apply Aw_seq | apply Aw_block | apply Aw_skip | apply Aw_exit | refine Aw_condt rfl ?_ | refine Aw_condf rfl ?_ | ((first | refine qr ?_ | refine qd (by kernel_rfl) (by kernel_rfl) ?_); simp only [go_sem, jE, reduceIte, jA, jM, jS, jL, jD, jB, w1, w2]) | refine dk (by kernel_rfl) ?_)
  refine Aw.rw (rwL (l' := [(11, .t (iT (Y.length : Nat))), (10, .t (iT (X.length : Nat))), (4, .t cmpV), (3, .t (iT b)), (2, .t (iT m)), (1, .t (iT a)), (0, .t (.c (.h 0)))]) (os := [some (eRow (A ++ X ++ Y ++ B))]) (M := [0]) (n' := 1) (by repeat (first | exact trivial | refine ⟨rfl, rfl, ?_⟩)) (by rfl) (by simp only [go_sem, jE, reduceIte, jA, jM, jS, jL, jD, jB]; first | done | rfl) (by decide) (by unfold idM; decide)) ?_
  refine Aw_loop_rw (ι := RotI m R) (fun q => S [(11, .t (iT (q.j : Nat))), (10, .t (iT (q.i : Nat))), (4, .t cmpV), (3, .t (iT b)), (2, .t (iT m)), (1, .t (iT a)), (0, .t (.c (.h 0)))] (hpL [some (eRow (q.A ++ q.X ++ q.Y ++ q.B))]) 1) (fun q => q.i + q.j) ⟨A, X, Y, B, X.length, Y.length, rfl, rfl, hX, hY, em, hl, hR.symm⟩ ?_
  clear hR hlen w1 w2 ea em eb hX hY hl
  clear A X Y B
  rintro ⟨A, X, Y, B, i, j, hi, hj, hX, hY, hm, hl, h⟩
  dsimp only
  have hlen : A.length + i + j + B.length ≤ 1000 := by rw [← hi, ← hj]; simpa [Nat.add_assoc] using hl
  have w1 : IntKind.i64.wrap ((m : Int) - (i : Int)) = (A.length : Int) := wsub (by omega) (by omega)
  by_cases c1 : i = j
  · have g1 : decide ((i : Int) = (j : Int)) = true := decide_eq_true (by omega)
    have k := swapSeg_ac A X [] Y B (by omega) (by simpa using hl) A.length m i rfl (by simp; omega) hi.symm
    simp only [List.append_nil] at k
    rw [h] at k
    repeat (first | apply Aw_seq | apply Aw_block | apply Aw_skip | apply Aw_exit | refine Aw_condt rfl ?_ | refine Aw_condf rfl ?_ | ((first | refine qr ?_ | refine qd (by kernel_rfl) (by kernel_rfl) ?_); simp only [go_sem, jE, reduceIte, jA, jM, jS, jL, jD, jB, g1, w1]) | refine dk (by kernel_rfl) ?_ | (refine qx (call_L (N' := [0]) (L := []) (k) rfl (.cons (.nm rfl) (.cons (.nm rfl) (.cons (.nm rfl) (.cons (.nm rfl) (.cons (.nm rfl) (.nil)))))) (by decide) (by decide) (by decide) (by simp only [go_sem, jE, reduceIte, jA, jM, jS, jL, jD, jB, g1, w1]; first | done | rfl) (.inl rfl) rfl (by decide)) (by simp only [go_sem, jE, reduceIte, jA, jM, jS, jL, jD, jB, g1, w1]; first | done | rfl) rfl (by simp only [go_sem, Nat.reduceLT]) ?_; simp only [go_sem, jE, reduceIte, jA, jM, jS, jL, jD, jB, g1, w1]))
    exact (retL (M := [0]) (.inr rfl) (by simp only [resA, go_sem, jE, reduceIte, jA, jM, jS, jL, jD, jB]; first | done | rfl) rfl rfl (by rfl) (by simp only [go_sem, jE, reduceIte, jA, jM, jS, jL, jD, jB]; first | done | rfl | (and_intros <;> rfl)) (by decide) (by unfold idM; decide))
  · have g1 : decide ((i : Int) = (j : Int)) = false := decide_eq_false (by omega)
    by_cases c2 : j < i
    · have g2 : decide ((j : Int) < (i : Int)) = true := decide_eq_true (by omega)
      obtain ⟨X1, X2, rfl, hx⟩ : ∃ X1 X2, X = X1 ++ X2 ∧ X1.length = j := ⟨X.take j, X.drop j, (List.take_append_drop _ _).symm, by rw [List.length_take]; omega⟩
      rw [List.length_append] at hi
      have w2 : IntKind.i64.wrap ((i : Int) - (j : Int)) = ((i - j : Nat) : Int) := wsub (by omega) (by omega)
      have k := swapSeg_ac A X1 X2 Y B (by omega) (by simpa [Nat.add_assoc] using hl) A.length m j rfl (by omega) hx.symm
      repeat (first | apply Aw_seq | apply Aw_block | apply Aw_skip | apply Aw_exit | refine Aw_condt rfl ?_ | refine Aw_condf rfl ?_ | ((first | refine qr ?_ | refine qd (by kernel_rfl) (by kernel_rfl) ?_); simp only [go_sem, jE, reduceIte, jA, jM, jS, jL, jD, jB, g1, g2, w1, w2, List.append_assoc]) | refine dk (by kernel_rfl) ?_ | (refine qx (call_L (N' := [0]) (L := []) (k) rfl (.cons (.nm rfl) (.cons (.nm rfl) (.cons (.nm rfl) (.cons (.nm rfl) (.cons (.nm rfl) (.nil)))))) (by decide) (by decide) (by decide) (by simp only [go_sem, jE, reduceIte, jA, jM, jS, jL, jD, jB, g1, g2, w1, w2, List.append_assoc]; first | done | rfl) (.inl rfl) rfl (by decide)) (by simp only [go_sem, jE, reduceIte, jA, jM, jS, jL, jD, jB, g1, g2, w1, w2, List.append_assoc]; first | done | rfl) rfl (by simp only [go_sem, Nat.reduceLT]) ?_; simp only [go_sem, jE, reduceIte, jA, jM, jS, jL, jD, jB, g1, g2, w1, w2, List.append_assoc]))
      refine ⟨⟨A ++ Y, X2, X1, B, i - j, j, by omega, hx, by omega, hY, by rw [List.length_append]; omega, by simp only [List.length_append] at hl ⊢; omega, by rw [← h]; simp⟩, [0], ?_, rwL (by repeat (first | exact trivial | refine ⟨rfl, rfl, ?_⟩)) (by rfl) (by simp only [go_sem, jE, reduceIte, jA, jM, jS, jL, jD, jB, List.append_assoc, List.map_append]; first | done | rfl) (by decide) (by unfold idM; decide)⟩
      show i - j + j < i + j; omega
    · have g2 : decide ((j : Int) < (i : Int)) = false := decide_eq_false (by omega)
      obtain ⟨Y1, Y2, rfl, hy⟩ : ∃ Y1 Y2, Y = Y1 ++ Y2 ∧ Y2.length = i := ⟨Y.take (j - i), Y.drop (j - i), (List.take_append_drop _ _).symm, by rw [List.length_drop]; omega⟩
      rw [List.length_append] at hj
      have w2 : IntKind.i64.wrap ((j : Int) - (i : Int)) = ((j - i : Nat) : Int) := wsub (by omega) (by omega)
      have w3 : IntKind.i64.wrap ((m : Int) + (j : Int)) = ((m + j : Nat) : Int) := wadd rfl (by omega)
      have w4 : IntKind.i64.wrap (((m + j : Nat) : Int) - (i : Int)) = ((m + j - i : Nat) : Int) := wsub (by omega) (by omega)
      have k := swapSeg_ac A X Y1 Y2 B (by omega) (by simpa [Nat.add_assoc] using hl) A.length (m + j - i) i rfl (by omega) hi.symm
      repeat (first | apply Aw_seq | apply Aw_block | apply Aw_skip | apply Aw_exit | refine Aw_condt rfl ?_ | refine Aw_condf rfl ?_ | ((first | refine qr ?_ | refine qd (by kernel_rfl) (by kernel_rfl) ?_); simp only [go_sem, jE, reduceIte, jA, jM, jS, jL, jD, jB, g1, g2, w1, w2, w3, w4, List.append_assoc]) | refine dk (by kernel_rfl) ?_ | (refine qx (call_L (N' := [0]) (L := []) (k) rfl (.cons (.nm rfl) (.cons (.nm rfl) (.cons (.nm rfl) (.cons (.nm rfl) (.cons (.nm rfl) (.nil)))))) (by decide) (by decide) (by decide) (by simp only [go_sem, jE, reduceIte, jA, jM, jS, jL, jD, jB, g1, g2, w1, w2, w3, w4, List.append_assoc]; first | done | rfl) (.inl rfl) rfl (by decide)) (by simp only [go_sem, jE, reduceIte, jA, jM, jS, jL, jD, jB, g1, g2, w1, w2, w3, w4, List.append_assoc]; first | done | rfl) rfl (by simp only [go_sem, Nat.reduceLT]) ?_; simp only [go_sem, jE, reduceIte, jA, jM, jS, jL, jD, jB, g1, g2, w1, w2, w3, w4, List.append_assoc]))
      refine ⟨⟨A, Y2, Y1, X ++ B, i, j - i, hy, by omega, hX, by omega, hm, by simp only [List.length_append] at hl ⊢; omega, by rw [← h]; simp⟩, [0], ?_, rwL (by repeat (first | exact trivial | refine ⟨rfl, rfl, ?_⟩)) (by rfl) (by simp only [go_sem, jE, reduceIte, jA, jM, jS, jL, jD, jB, List.append_assoc, List.map_append]; first | done | rfl) (by decide) (by unfold idM; decide)⟩
      show i + (j - i) < i + j; omega
abbrev LeE (x y : Ent) : Prop := before y x = false
abbrev Sd (l : List Ent) : Prop := l.Pairwise LeE
theorem bef_iff (a b : Ent) : before a b = true ↔ klt a.key b.key = true ∨ (a.key = b.key ∧ b.time < a.time) := by
  unfold before
  simp only [Bool.or_eq_true, Bool.and_eq_true, decide_eq_true_eq]
theorem bef_asym {a b : Ent} (h : before a b = true) : before b a = false := by
  cases h' : before b a
  · rfl
  · exfalso
    rw [bef_iff] at h h'
    rcases h with h | ⟨h, h2⟩
    · rcases h' with k | ⟨k, _⟩
      · have := klt_trans h k; rw [klt_irrefl] at this; cases this
      · rw [k, klt_irrefl] at h; cases h
    · rcases h' with k | ⟨_, k⟩
      · rw [h, klt_irrefl] at k; cases k
      · omega
theorem leE_iff (x y : Ent) : LeE x y ↔ klt x.key y.key = true ∨ (x.key = y.key ∧ y.time ≤ x.time) := by
  unfold LeE
  constructor
  · intro h
    by_cases e : x.key = y.key
    · refine .inr ⟨e, ?_⟩
      rcases Int.lt_or_le x.time y.time with h2 | h2
      · have : before y x = true := (bef_iff y x).2 (.inr ⟨e.symm, h2⟩)
        rw [h] at this; cases this
      · exact h2
    · refine .inl ?_
      cases c : klt x.key y.key
      · have : klt y.key x.key = true := klt_total c e
        have : before y x = true := (bef_iff y x).2 (.inl this)
        rw [h] at this; cases this
      · rfl
  · intro h
    cases c : before y x
    · rfl
    · exfalso
      rw [bef_iff] at c
      rcases h with h | ⟨h, h2⟩
      · rcases c with k | ⟨k, _⟩
        · have := klt_trans h k; rw [klt_irrefl] at this; cases this
        · rw [k, klt_irrefl] at h; cases h
      · rcases c with k | ⟨_, k⟩
        · rw [h, klt_irrefl] at k; cases k
        · omega
theorem leE_trans {a b c : Ent} (h : LeE a b) (h' : LeE b c) : LeE a c := by
  rw [leE_iff] at *
  rcases h with h | ⟨h, h2⟩
  · rcases h' with k | ⟨k, _⟩
    · exact .inl (klt_trans h k)
    · exact .inl (k ▸ h)
  · rcases h' with k | ⟨k, k2⟩
    · exact .inl (h ▸ k)
    · exact .inr ⟨h.trans k, by omega⟩
/-- Into a run that is turned round. -/
def rI (y : Ent) : List Ent → List Ent
  | [] => [y]
  | z :: zs => if before y z = true then z :: rI y zs else y :: z :: zs
theorem rI_perm (y : Ent) (R : List Ent) : (rI y R).Perm (y :: R) := by
  induction R with
  | nil => exact .refl _
  | cons z R ih =>
    simp only [rI]
    split
    · exact (ih.cons z).trans (.swap y z R)
    · exact .refl _
theorem rI_len (y : Ent) (R : List Ent) : (rI y R).length = R.length + 1 := by simpa using (rI_perm y R).length_eq
theorem rI_sorted (y : Ent) (R : List Ent) (h : R.Pairwise fun a b => LeE b a) : (rI y R).Pairwise fun a b => LeE b a := by
  induction R with
  | nil => simp [rI]
  | cons z R ih =>
    obtain ⟨h1, h2⟩ := List.pairwise_cons.1 h
    simp only [rI]
    split
    · rename_i c
      refine List.pairwise_cons.2 ⟨fun w hw => ?_, ih h2⟩
      rcases List.mem_cons.1 ((rI_perm y R).mem_iff.1 hw) with rfl | hw
      · exact bef_asym c
      · exact h1 w hw
    · rename_i c
      have c : LeE z y := by simpa using c
      refine List.pairwise_cons.2 ⟨fun w hw => ?_, h⟩
      rcases List.mem_cons.1 hw with rfl | hw
      · exact c
      · exact leE_trans (h1 w hw) c
def insAll (R T : List Ent) : List Ent := T.foldl (fun R y => rI y R) R
theorem insAll_perm (T : List Ent) : ∀ R, (insAll R T).Perm (R ++ T) := by
  induction T with
  | nil => intro R; simp [insAll]
  | cons y T ih =>
    intro R
    have := ih (rI y R)
    refine (show (insAll (rI y R) T).Perm _ from this).trans ?_
    exact ((rI_perm y R).append_right T).trans List.perm_middle.symm
theorem insAll_sorted (T : List Ent) : ∀ R, (R.Pairwise fun a b => LeE b a) → (insAll R T).Pairwise fun a b => LeE b a := by
  induction T with
  | nil => intro R h; exact h
  | cons y T ih => intro R h; exact ih _ (rI_sorted y R h)
def isort (R : List Ent) : List Ent := (insAll [] R).reverse
theorem isort_perm (R : List Ent) : (isort R).Perm R := (List.reverse_perm _).trans (by simpa using insAll_perm R [])
theorem isort_sorted (R : List Ent) : Sd (isort R) := List.pairwise_reverse.2 (insAll_sorted R [] .nil)
theorem get_mid (P Q : List Ent) (p : Ent) (n : Nat) (h : n = P.length) : (P ++ p :: Q)[n]? = some p := by subst h; simp
theorem set_mid (P Q : List Ent) (p v : Ent) (n : Nat) (h : n = P.length) : (P ++ p :: Q).set n v = P ++ v :: Q := by
  subst h
  rw [List.set_append_right _ _ (Nat.le_refl _)]; simp
/-- The outer rounds. -/
structure OuI (A B Z : List Ent) (b : Nat) where
  R : List Ent
  T : List Ent
  xs : List Ent
  i : Nat
  hi : i = A.length + max R.length 1
  hb : b = A.length + R.length + T.length
  hT : R = [] → T = []
  hx : xs = A ++ R.reverse ++ (T ++ B)
  h : A ++ (insAll R T).reverse ++ B = Z
/-- The inner ones. -/
structure InsI (A C Z : List Ent) (y : Ent) where
  R : List Ent
  T : List Ent
  xs : List Ent
  j : Nat
  hj : j = A.length + R.length
  hj2 : j ≤ 1000
  hx : xs = A ++ R.reverse ++ y :: T
  h : A ++ (rI y R).reverse ++ T = Z
theorem insertion_ac (A R B : List Ent) (hl : (A ++ R ++ B).length ≤ 1000) (a b : Nat) (ea : a = A.length) (eb : b = A.length + R.length) : AC Tryz.prog 181 [.c (.h 0), iT a, iT b, cmpV] (hpL [some (eRow (A ++ R ++ B))]) 1 ⟨.tup [], hpL [some (eRow (A ++ isort R ++ B))], 1⟩ := by
  have hlen : A.length + R.length + B.length ≤ 1000 := by simpa [Nat.add_assoc] using hl
  have w0 : IntKind.i64.wrap ((a : Int) + 1) = ((a + 1 : Nat) : Int) := wrap_succ (m := a + 1) (by omega) (by omega)
  obtain ⟨Z, hZ⟩ : ∃ Z, Z = A ++ isort R ++ B := ⟨_, rfl⟩
  rw [← hZ]
  obtain ⟨xs, hxs⟩ : ∃ xs, xs = A ++ R ++ B := ⟨_, rfl⟩
  rw [← hxs]
  obtain ⟨q0, q1, q2⟩ : ∃ q : OuI A B Z b, q.xs = xs ∧ q.i = a + 1 := by
    cases R with
    | nil => exact ⟨⟨[], [], xs, a + 1, by simp; omega, by simpa using eb, fun _ => rfl, by rw [hxs]; simp, by rw [hZ]; rfl⟩, rfl, rfl⟩
    | cons x T => exact ⟨⟨[x], T, xs, a + 1, by simp; omega, by simp at eb ⊢; omega, fun h => (by cases h), by rw [hxs]; simp, by rw [hZ]; rfl⟩, rfl, rfl⟩
  have hB : A.length + B.length ≤ 1000 := by omega
  have hb : b ≤ 1000 := by omega
  clear hZ hxs hl hlen eb
  refine AC_of Tryz.func181 rfl Tryz.ntmps181 Tryz.results181 (by kernel_rfl) rfl ?_
  simp only [List.zipIdx, List.map, Nat.zero_add, Nat.reduceAdd]
  repeat (first | apply Aw_seq | apply Aw_block | apply Aw_skip | apply Aw_exit | refine Aw_condt rfl ?_ | refine Aw_condf rfl ?_ | ((first | refine qr ?_ | refine qd (by kernel_rfl) (by kernel_rfl) ?_); simp only [go_sem, jE, reduceIte, jA, jM, jS, jL, jD, jB, w0]) | refine dk (by kernel_rfl) ?_)
  clear w0
  rw [← q1, ← q2]
  refine Aw.rw (rwL (l' := [(8, .t (iT (q0.i : Nat))), (3, .t cmpV), (2, .t (iT b)), (1, .t (iT a)), (0, .t (.c (.h 0)))]) (os := [some (eRow q0.xs)]) (M := [0]) (n' := 1) (by repeat (first | exact trivial | refine ⟨rfl, rfl, ?_⟩)) (by rfl) (by simp only [go_sem, jE, reduceIte, jA, jM, jS, jL, jD, jB]; first | done | rfl) (by decide) (by unfold idM; decide)) ?_
  refine Aw_loop_rw (ι := OuI A B Z b) (fun q => S [(8, .t (iT (q.i : Nat))), (3, .t cmpV), (2, .t (iT b)), (1, .t (iT a)), (0, .t (.c (.h 0)))] (hpL [some (eRow q.xs)]) 1) (fun q => q.T.length) q0 ?_
  clear q1 q2 q0 xs R
  rintro ⟨R, T, xs, i, hi, hbb, hT, hx, h⟩
  dsimp only
  cases T with
  | nil =>
    have g1 : decide ((i : Int) < (b : Int)) = false := decide_eq_false (by simp at hbb; omega)
    have e1 : xs = Z := by rw [hx, ← h]; simp [insAll]
    rw [e1]
    repeat (first | apply Aw_seq | apply Aw_block | apply Aw_skip | apply Aw_exit | refine Aw_condt rfl ?_ | refine Aw_condf rfl ?_ | ((first | refine qr ?_ | refine qd (by kernel_rfl) (by kernel_rfl) ?_); simp only [go_sem, jE, reduceIte, jA, jM, jS, jL, jD, jB, g1]) | refine dk (by kernel_rfl) ?_)
    exact (retL (M := [0]) (.inr rfl) (by simp only [resA, go_sem, jE, reduceIte, jA, jM, jS, jL, jD, jB]; first | done | rfl) rfl rfl (by rfl) (by simp only [go_sem, jE, reduceIte, jA, jM, jS, jL, jD, jB]; first | done | rfl | (and_intros <;> rfl)) (by decide) (by unfold idM; decide))
  | cons y T =>
    have hR : 0 < R.length := by
      cases R with
      | nil => exact absurd (hT rfl) (by simp)
      | cons _ _ => simp
    simp only [List.length_cons] at hbb
    have g1 : decide ((i : Int) < (b : Int)) = true := decide_eq_true (by omega)
    have wi : IntKind.i64.wrap ((i : Int) + 1) = ((i + 1 : Nat) : Int) := wrap_succ (m := i + 1) (by omega) (by omega)
    obtain ⟨ZI, hZI⟩ : ∃ ZI, ZI = A ++ (rI y R).reverse ++ (T ++ B) := ⟨_, rfl⟩
    repeat (first | apply Aw_seq | apply Aw_block | apply Aw_skip | apply Aw_exit | refine Aw_condt rfl ?_ | refine Aw_condf rfl ?_ | ((first | refine qr ?_ | refine qd (by kernel_rfl) (by kernel_rfl) ?_); simp only [go_sem, jE, reduceIte, jA, jM, jS, jL, jD, jB, g1]) | refine dk (by kernel_rfl) ?_)
    refine Aw.rw (rwL (l' := [(9, .t (iT (i : Nat))), (8, .t (iT (i : Nat))), (3, .t cmpV), (2, .t (iT b)), (1, .t (iT a)), (0, .t (.c (.h 0)))]) (os := [some (eRow xs)]) (M := [0]) (n' := 1) (by repeat (first | exact trivial | refine ⟨rfl, rfl, ?_⟩)) (by rfl) (by simp only [go_sem, jE, reduceIte, jA, jM, jS, jL, jD, jB]; first | done | rfl) (by decide) (by unfold idM; decide)) ?_
    refine Aw_loop_rw (ι := InsI A (T ++ B) ZI y) (fun q => S [(9, .t (iT (q.j : Nat))), (8, .t (iT (i : Nat))), (3, .t cmpV), (2, .t (iT b)), (1, .t (iT a)), (0, .t (.c (.h 0)))] (hpL [some (eRow q.xs)]) 1) (fun q => q.R.length) ⟨R, T ++ B, xs, i, by omega, by omega, by rw [hx]; simp, hZI.symm⟩ ?_
    have hiR : A.length + R.length ≤ i := by omega
    have hib : i < b := by omega
    have e9 : A ++ (insAll (rI y R) T).reverse ++ B = Z := h
    have rl := rI_len y R
    have hin : i + 1 = A.length + max (rI y R).length 1 := by rw [rl]; omega
    have hbn : b = A.length + (rI y R).length + T.length := by rw [rl]; omega
    have hxn : ZI = A ++ (rI y R).reverse ++ (T ++ B) := hZI
    generalize rI y R = R2 at e9 hin hbn hxn
    clear rl hx h hT hZI
    rintro ⟨R', T', ys, j, hj, hj2, hy, h⟩
    dsimp only
    have hR2 : R2 = [] → T = [] := fun h => by subst h; simp at hin hbn; omega
    cases R' with
    | nil =>
      have g2 : decide ((a : Int) < (j : Int)) = false := decide_eq_false (by simp at hj; omega)
      have e8 : ys = ZI := by rw [hy, ← h]; simp [rI]
      rw [e8]
      repeat (first | apply Aw_seq | apply Aw_block | apply Aw_skip | apply Aw_exit | refine Aw_condt rfl ?_ | refine Aw_condf rfl ?_ | ((first | refine qr ?_ | refine qd (by kernel_rfl) (by kernel_rfl) ?_); simp only [go_sem, jE, reduceIte, jA, jM, jS, jL, jD, jB, g2, wi]) | refine dk (by kernel_rfl) ?_)
      refine ⟨⟨R2, T, ZI, i + 1, hin, hbn, hR2, hxn, e9⟩, [0], ?_, rwL (by repeat (first | exact trivial | refine ⟨rfl, rfl, ?_⟩)) (by rfl) (by simp only [go_sem, jE, reduceIte, jA, jM, jS, jL, jD, jB]; first | done | rfl) (by decide) (by unfold idM; decide)⟩
      show T.length < T.length + 1; omega
    | cons r R' =>
      simp only [List.length_cons] at hj
      have g2 : decide ((a : Int) < (j : Int)) = true := decide_eq_true (by omega)
      have w2 : IntKind.i64.wrap ((j : Int) - 1) = ((j - 1 : Nat) : Int) := wsub (i := 1) (by omega) (by omega)
      have y1 : ys[j]? = some y := by rw [hy]; exact get_mid _ _ _ _ (by simp; omega)
      have hy2 : ys = (A ++ R'.reverse) ++ r :: (y :: T') := by rw [hy]; simp
      have y2 : ys[j - 1]? = some r := by rw [hy2]; exact get_mid _ _ _ _ (by simp; omega)
      have hyl : ys.length = j + 1 + T'.length := by rw [hy2]; simp; omega
      have l1 : j < ys.length := by omega
      have l2 : j - 1 < ys.length := by omega
      have kc := (cmp_ac y r).toLV
      have cn := cmpM_neg y r
      cases c : before y r
      · rw [c] at cn
        have e8 : ys = ZI := by rw [hy, ← h]; simp [rI, c]
        repeat (first | apply Aw_seq | apply Aw_block | apply Aw_skip | apply Aw_exit | refine Aw_condt rfl ?_ | refine Aw_condf rfl ?_ | ((first | refine qr ?_ | refine qd (by kernel_rfl) (by kernel_rfl) ?_); simp only [go_sem, jE, reduceIte, jA, jM, jS, jL, jD, jB, g2, w2, y1, y2, l1, l2, cn, wi]) | refine dk (by kernel_rfl) ?_ | (refine ex_callv (by simp only [go_sem, jE, reduceIte, jA, jM, jS, jL, jD, jB, g2, w2, y1, y2, l1, l2, cn, wi]; first | done | rfl) (call_V (N' := []) (L := []) 2 (kc) rfl (.cons (.nm rfl) (.cons (.nm rfl) (.nil))) (by first | exact .nil | (simp only [capT, List.map]; exact .nil)) (by decide) (by decide) (by decide) (by simp only [go_sem, jE, reduceIte, jA, jM, jS, jL, jD, jB, g2, w2, y1, y2, l1, l2, cn, wi]; first | done | rfl) (.inl rfl) rfl (by decide)) (by simp only [go_sem, jE, reduceIte, jA, jM, jS, jL, jD, jB, g2, w2, y1, y2, l1, l2, cn, wi]; first | done | rfl) rfl (by simp only [go_sem, Nat.reduceLT]) ?_; simp only [go_sem, jE, reduceIte, jA, jM, jS, jL, jD, jB, g2, w2, y1, y2, l1, l2, cn, wi]))
        rw [e8]
        refine ⟨⟨R2, T, ZI, i + 1, hin, hbn, hR2, hxn, e9⟩, [0], ?_, rwL (by repeat (first | exact trivial | refine ⟨rfl, rfl, ?_⟩)) (by rfl) (by simp only [go_sem, jE, reduceIte, jA, jM, jS, jL, jD, jB]; first | done | rfl) (by decide) (by unfold idM; decide)⟩
        show T.length < T.length + 1; omega
      · rw [c] at cn
        obtain ⟨y3, hy3⟩ : ∃ e, (ys.set j r)[j - 1]? = some e := ⟨_, List.getElem?_eq_getElem (by rw [List.length_set]; exact l2)⟩
        have e1 : (ys.set j r).set (j - 1) y = A ++ R'.reverse ++ y :: (r :: T') := by
          have s1 : ys.set j r = A ++ R'.reverse ++ r :: (r :: T') := by
            rw [hy2, show A ++ R'.reverse ++ r :: y :: T' = (A ++ R'.reverse ++ [r]) ++ y :: T' by simp, set_mid _ _ _ _ _ (by simp; omega)]; simp
          rw [s1, set_mid _ _ _ _ _ (by simp; omega)]
        repeat (first | apply Aw_seq | apply Aw_block | apply Aw_skip | apply Aw_exit | refine Aw_condt rfl ?_ | refine Aw_condf rfl ?_ | ((first | refine qr ?_ | refine qd (by kernel_rfl) (by kernel_rfl) ?_); simp only [go_sem, jE, reduceIte, jA, jM, jS, jL, jD, jB, g2, w2, y1, y2, l1, l2, cn, hy3, set_en, d_en, List.length_set]) | refine dk (by kernel_rfl) ?_ | (refine ex_callv (by simp only [go_sem, jE, reduceIte, jA, jM, jS, jL, jD, jB, g2, w2, y1, y2, l1, l2, cn, hy3, set_en, d_en, List.length_set]; first | done | rfl) (call_V (N' := []) (L := []) 2 (kc) rfl (.cons (.nm rfl) (.cons (.nm rfl) (.nil))) (by first | exact .nil | (simp only [capT, List.map]; exact .nil)) (by decide) (by decide) (by decide) (by simp only [go_sem, jE, reduceIte, jA, jM, jS, jL, jD, jB, g2, w2, y1, y2, l1, l2, cn, hy3, set_en, d_en, List.length_set]; first | done | rfl) (.inl rfl) rfl (by decide)) (by simp only [go_sem, jE, reduceIte, jA, jM, jS, jL, jD, jB, g2, w2, y1, y2, l1, l2, cn, hy3, set_en, d_en, List.length_set]; first | done | rfl) rfl (by simp only [go_sem, Nat.reduceLT]) ?_; simp only [go_sem, jE, reduceIte, jA, jM, jS, jL, jD, jB, g2, w2, y1, y2, l1, l2, cn, hy3, set_en, d_en, List.length_set]))
        refine ⟨⟨R', r :: T', A ++ R'.reverse ++ y :: (r :: T'), j - 1, by omega, by omega, rfl, by rw [← h]; simp [rI, c]⟩, [0], ?_, rwL (by repeat (first | exact trivial | refine ⟨rfl, rfl, ?_⟩)) (by rfl) (by simp only [go_sem, jE, reduceIte, jA, jM, jS, jL, jD, jB, e1]; first | done | rfl) (by decide) (by unfold idM; decide)⟩
        show R'.length < R'.length + 1; omega
@[go_sem] theorem r_shr1 {T : Option TI} {k k' : IntKind} {a : Int} : bop T .shr (.int k a) (.int k' 1) = some (.int k (a.fdiv 2)) := by
  unfold bop; cases k <;> simp [IntKind.bits]
/-- Halving: the first place for which it does not hold. -/
def bsF (P : Nat → Bool) (i j : Nat) : Nat := if h : i < j then (if P ((i + j) / 2) = true then bsF P ((i + j) / 2 + 1) j else bsF P i ((i + j) / 2)) else i
termination_by j - i
theorem bsF_spec (P : Nat → Bool) (lo hi : Nat) (i j : Nat) (h1 : i ≤ j) (h2 : lo ≤ i) (h3 : j ≤ hi) (h4 : i = lo ∨ P (i - 1) = true) (h5 : j = hi ∨ P j = false) : lo ≤ bsF P i j ∧ bsF P i j ≤ hi ∧ (bsF P i j = lo ∨ P (bsF P i j - 1) = true) ∧ (bsF P i j = hi ∨ P (bsF P i j) = false) := by
  unfold bsF
  by_cases c : i < j
  · rw [dif_pos c]
    cases p : P ((i + j) / 2)
    · simp only [Bool.false_eq_true, if_false]
      exact bsF_spec P lo hi i ((i + j) / 2) (by omega) h2 (by omega) h4 (.inr p)
    · simp only [if_true]
      exact bsF_spec P lo hi ((i + j) / 2 + 1) j (by omega) (by omega) h3 (.inr (by simpa using p)) h5
  · rw [dif_neg c]
    obtain rfl : i = j := by omega
    exact ⟨h2, h3, h4, h5⟩
termination_by j - i
structure BsI (P : Nat → Bool) (lo hi r : Nat) where
  i : Nat
  j : Nat
  hij : i ≤ j
  hlo : lo ≤ i
  hhi : j ≤ hi
  h : bsF P i j = r
theorem half_w (i j : Nat) (h : i + j ≤ 1000000) : IntKind.i64.wrap ((i : Int) + (j : Int)) = ((i + j : Nat) : Int) ∧ IntKind.u64.wrap ((i + j : Nat) : Int) = ((i + j : Nat) : Int) ∧ ((i + j : Nat) : Int).fdiv 2 = (((i + j) / 2 : Nat) : Int) ∧ IntKind.i64.wrap (((i + j) / 2 : Nat) : Int) = (((i + j) / 2 : Nat) : Int) := by
  refine ⟨wadd rfl (by omega), ?_, by rw [Int.fdiv_eq_ediv_of_nonneg _ (by decide)]; omega, wrap_nat (by omega)⟩
  simp [IntKind.wrap, IntKind.bits, IntKind.signed]; omega
theorem sd_head {h : Ent} {T : List Ent} (s : Sd (h :: T)) : ∀ v ∈ h :: T, LeE h v := fun v hv => by
  rcases List.mem_cons.1 hv with rfl | hv
  · exact (leE_iff _ _).2 (.inr ⟨rfl, Int.le_refl _⟩)
  · exact (List.pairwise_cons.1 s).1 v hv
theorem sd_last {T : List Ent} {l : Ent} (s : Sd (T ++ [l])) : ∀ v ∈ T ++ [l], LeE v l := fun v hv => by
  rcases List.mem_append.1 hv with hv | hv
  · exact (List.pairwise_append.1 s).2.2 v hv l (by simp)
  · simp at hv; subst hv; exact (leE_iff _ _).2 (.inr ⟨rfl, Int.le_refl _⟩)
/-- All of one list up to all of another, if the first's last is up to the second's first. -/
theorem sd_cross {T1 T2 : List Ent} (s1 : Sd T1) (s2 : Sd T2) (h : ∀ X l z Y, T1 = X ++ [l] → T2 = z :: Y → LeE l z) : ∀ x ∈ T1, ∀ y ∈ T2, LeE x y := fun x hx y hy => by
  rcases List.eq_nil_or_concat T1 with rfl | ⟨X, l, e1⟩
  · simp at hx
  · cases T2 with
    | nil => simp at hy
    | cons z Y =>
      rw [List.concat_eq_append] at e1
      subst e1
      exact leE_trans (sd_last s1 x hx) (leE_trans (h X l z Y rfl rfl) (sd_head s2 y hy))
/-- An entry that is carried behind a stretch. -/
structure MvI (A C Z : List Ent) (x : Ent) (n : Nat) where
  W1 : List Ent
  W2 : List Ent
  xs : List Ent
  k : Nat
  hk : k = A.length + W1.length
  hn : W1.length + W2.length = n
  hx : xs = A ++ W1 ++ x :: (W2 ++ C)
  hl : A.length + W1.length + W2.length + C.length ≤ 1000
  h : A ++ (W1 ++ W2) ++ x :: C = Z
theorem symOne_ac (A V B : List Ent) (x : Ent) (hV : 0 < V.length) (hl : A.length + 1 + V.length + B.length ≤ 1000) (a m b : Nat) (ea : a = A.length) (em : m = A.length + 1) (eb : b = A.length + 1 + V.length) :
    ∃ R, AC Tryz.prog 182 [.c (.h 0), iT a, iT m, iT b, cmpV] (hpL [some (eRow (A ++ [x] ++ V ++ B))]) 1 ⟨.tup [], hpL [some (eRow (A ++ R ++ B))], 1⟩ ∧ R.Perm ([x] ++ V) ∧ (Sd V → Sd R) := by
  obtain ⟨xs, hxs⟩ : ∃ xs, xs = A ++ [x] ++ V ++ B := ⟨_, rfl⟩
  have hxl : xs.length = A.length + 1 + V.length + B.length := by rw [hxs]; simp; omega
  obtain ⟨P, hP⟩ : ∃ P : Nat → Bool, P = fun h => match xs[h]? with | some y => before y x | none => false := ⟨_, rfl⟩
  obtain ⟨r, hr⟩ : ∃ r, r = bsF P m b := ⟨_, rfl⟩
  obtain ⟨s1, s2, s3, s4⟩ := bsF_spec P m b m b (by omega) (Nat.le_refl _) (Nat.le_refl _) (.inl rfl) (.inl rfl)
  rw [← hr] at s1 s2 s3 s4
  obtain ⟨V1, V2, rfl, hv⟩ : ∃ V1 V2, V = V1 ++ V2 ∧ V1.length = r - m := ⟨V.take (r - m), V.drop (r - m), (List.take_append_drop _ _).symm, by rw [List.length_take]; omega⟩
  rw [List.length_append] at hl hV eb hxl
  have hxa : xs[a]? = some x := by rw [hxs, show A ++ [x] ++ (V1 ++ V2) ++ B = A ++ x :: (V1 ++ V2 ++ B) by simp]; exact get_mid _ _ _ _ ea
  refine ⟨V1 ++ [x] ++ V2, ?_, by first | (simp; done) | simpa using (List.perm_middle (l₁ := V1) (l₂ := V2) (a := x)), fun sv => ?_⟩
  case refine_2 =>
    obtain ⟨sv1, sv2, sv3⟩ := List.pairwise_append.1 sv
    have c1 : ∀ v ∈ V1, ∀ y ∈ [x], LeE v y := sd_cross sv1 (by simp) fun X l z Y e1 e2 => by
      obtain ⟨rfl, _⟩ := List.cons.inj e2
      have hp : P (r - 1) = true := by
        rcases s3 with h | h
        · rw [e1] at hv; simp at hv; omega
        · exact h
      have hxl : xs[r - 1]? = some l := by
        rw [hxs, e1, show A ++ [x] ++ (X ++ [l] ++ V2) ++ B = (A ++ [x] ++ X) ++ l :: (V2 ++ B) by simp]
        exact get_mid _ _ _ _ (by rw [e1] at hv; simp at hv ⊢; omega)
      rw [hP] at hp
      dsimp only at hp
      rw [hxl] at hp
      exact bef_asym hp
    have c2 : ∀ y ∈ [x], ∀ v ∈ V2, LeE y v := sd_cross (by simp) sv2 fun X l z Y e1 e2 => by
      obtain rfl : l = x := by
        have := congrArg List.getLast? e1
        simpa using this.symm
      have hp : P r = false := by
        rcases s4 with h | h
        · rw [e2] at eb; simp at eb; omega
        · exact h
      have hxl : xs[r]? = some z := by
        rw [hxs, e2, show A ++ [l] ++ (V1 ++ z :: Y) ++ B = (A ++ [l] ++ V1) ++ z :: (Y ++ B) by simp]
        exact get_mid _ _ _ _ (by simp; omega)
      rw [hP] at hp
      dsimp only at hp
      rw [hxl] at hp
      exact hp
    refine List.pairwise_append.2 ⟨List.pairwise_append.2 ⟨sv1, by simp, c1⟩, sv2, fun v hvv w hw => ?_⟩
    rcases List.mem_append.1 hvv with h | h
    · exact sv3 v h w hw
    · exact c2 v h w hw
  rw [← hxs]
  obtain ⟨Z, hZ⟩ : ∃ Z, Z = A ++ (V1 ++ [x] ++ V2) ++ B := ⟨_, rfl⟩
  rw [← hZ]
  have w0 : IntKind.i64.wrap ((m : Int) - (a : Int)) = 1 := by rw [show (m : Int) - (a : Int) = 1 by omega]; rfl
  have g0 : decide ((1 : Int) = 1) = true := rfl
  refine AC_of Tryz.func182 rfl Tryz.ntmps182 Tryz.results182 (by kernel_rfl) rfl ?_
  simp only [List.zipIdx, List.map, Nat.zero_add, Nat.reduceAdd]
  repeat (first | apply Aw_seq | apply Aw_block | apply Aw_skip | apply Aw_exit | refine Aw_condt rfl ?_ | refine Aw_condf rfl ?_ | ((first | refine qr ?_ | refine qd (by kernel_rfl) (by kernel_rfl) ?_); simp only [go_sem, jE, reduceIte, jA, jM, jS, jL, jD, jB, w0, g0]) | refine dk (by kernel_rfl) ?_)
  refine Aw.rw (rwL (l' := [(11, .t (iT (b : Nat))), (10, .t (iT (m : Nat))), (4, .t cmpV), (3, .t (iT b)), (2, .t (iT m)), (1, .t (iT a)), (0, .t (.c (.h 0)))]) (os := [some (eRow xs)]) (M := [0]) (n' := 1) (by repeat (first | exact trivial | refine ⟨rfl, rfl, ?_⟩)) (by rfl) (by simp only [go_sem, jE, reduceIte, jA, jM, jS, jL, jD, jB]; first | done | rfl) (by decide) (by unfold idM; decide)) ?_
  refine Aw_loop_rw (ι := BsI P m b r) (fun q => S [(11, .t (iT (q.j : Nat))), (10, .t (iT (q.i : Nat))), (4, .t cmpV), (3, .t (iT b)), (2, .t (iT m)), (1, .t (iT a)), (0, .t (.c (.h 0)))] (hpL [some (eRow xs)]) 1) (fun q => q.j - q.i) ⟨m, b, by omega, Nat.le_refl _, Nat.le_refl _, hr.symm⟩ ?_
  rintro ⟨i, j, hij, hlo, hhi, hb⟩
  dsimp only
  by_cases c : i < j
  · have g1 : decide ((i : Int) < (j : Int)) = true := decide_eq_true (by omega)
    obtain ⟨h1, h2, h3, h4⟩ := half_w i j (by omega)
    have hu : bsF P i j = if P ((i + j) / 2) = true then bsF P ((i + j) / 2 + 1) j else bsF P i ((i + j) / 2) := by rw [bsF, dif_pos c]
    obtain ⟨h, hh⟩ : ∃ h, h = (i + j) / 2 := ⟨_, rfl⟩
    rw [← hh] at h3 h4 hu
    have w1 : IntKind.i64.wrap ((h : Int) + 1) = ((h + 1 : Nat) : Int) := wrap_succ (m := h + 1) (by omega) (by omega)
    obtain ⟨y, hy⟩ : ∃ y, xs[h]? = some y := ⟨_, List.getElem?_eq_getElem (by omega)⟩
    have l1 : h < xs.length := by omega
    have l2 : a < xs.length := by omega
    have kc := (cmp_ac y x).toLV
    have cn := cmpM_neg y x
    have pe : P h = before y x := by rw [hP]; dsimp only; rw [hy]
    rw [pe] at hu
    cases c2 : before y x
    · rw [c2] at cn hu
      rw [hu] at hb
      repeat (first | apply Aw_seq | apply Aw_block | apply Aw_skip | apply Aw_exit | refine Aw_condt rfl ?_ | refine Aw_condf rfl ?_ | ((first | refine qr ?_ | refine qd (by kernel_rfl) (by kernel_rfl) ?_); simp only [go_sem, jE, reduceIte, jA, jM, jS, jL, jD, jB, g1, h1, h2, h3, h4, hy, hxa, l1, l2, cn]) | refine dk (by kernel_rfl) ?_ | (refine ex_callv (by simp only [go_sem, jE, reduceIte, jA, jM, jS, jL, jD, jB, g1, h1, h2, h3, h4, hy, hxa, l1, l2, cn]; first | done | rfl) (call_V (N' := []) (L := []) 2 (kc) rfl (.cons (.nm rfl) (.cons (.nm rfl) (.nil))) (by first | exact .nil | (simp only [capT, List.map]; exact .nil)) (by decide) (by decide) (by decide) (by simp only [go_sem, jE, reduceIte, jA, jM, jS, jL, jD, jB, g1, h1, h2, h3, h4, hy, hxa, l1, l2, cn]; first | done | rfl) (.inl rfl) rfl (by decide)) (by simp only [go_sem, jE, reduceIte, jA, jM, jS, jL, jD, jB, g1, h1, h2, h3, h4, hy, hxa, l1, l2, cn]; first | done | rfl) rfl (by simp only [go_sem, Nat.reduceLT]) ?_; simp only [go_sem, jE, reduceIte, jA, jM, jS, jL, jD, jB, g1, h1, h2, h3, h4, hy, hxa, l1, l2, cn]))
      refine ⟨⟨i, h, by omega, hlo, by omega, hb⟩, [0], ?_, rwL (by repeat (first | exact trivial | refine ⟨rfl, rfl, ?_⟩)) (by rfl) (by simp only [go_sem, jE, reduceIte, jA, jM, jS, jL, jD, jB]; first | done | rfl) (by decide) (by unfold idM; decide)⟩
      show h - i < j - i; omega
    · rw [c2] at cn hu
      rw [hu] at hb
      repeat (first | apply Aw_seq | apply Aw_block | apply Aw_skip | apply Aw_exit | refine Aw_condt rfl ?_ | refine Aw_condf rfl ?_ | ((first | refine qr ?_ | refine qd (by kernel_rfl) (by kernel_rfl) ?_); simp only [go_sem, jE, reduceIte, jA, jM, jS, jL, jD, jB, g1, h1, h2, h3, h4, w1, hy, hxa, l1, l2, cn]) | refine dk (by kernel_rfl) ?_ | (refine ex_callv (by simp only [go_sem, jE, reduceIte, jA, jM, jS, jL, jD, jB, g1, h1, h2, h3, h4, w1, hy, hxa, l1, l2, cn]; first | done | rfl) (call_V (N' := []) (L := []) 2 (kc) rfl (.cons (.nm rfl) (.cons (.nm rfl) (.nil))) (by first | exact .nil | (simp only [capT, List.map]; exact .nil)) (by decide) (by decide) (by decide) (by simp only [go_sem, jE, reduceIte, jA, jM, jS, jL, jD, jB, g1, h1, h2, h3, h4, w1, hy, hxa, l1, l2, cn]; first | done | rfl) (.inl rfl) rfl (by decide)) (by simp only [go_sem, jE, reduceIte, jA, jM, jS, jL, jD, jB, g1, h1, h2, h3, h4, w1, hy, hxa, l1, l2, cn]; first | done | rfl) rfl (by simp only [go_sem, Nat.reduceLT]) ?_; simp only [go_sem, jE, reduceIte, jA, jM, jS, jL, jD, jB, g1, h1, h2, h3, h4, w1, hy, hxa, l1, l2, cn]))
      refine ⟨⟨h + 1, j, by omega, by omega, hhi, hb⟩, [0], ?_, rwL (by repeat (first | exact trivial | refine ⟨rfl, rfl, ?_⟩)) (by rfl) (by simp only [go_sem, jE, reduceIte, jA, jM, jS, jL, jD, jB]; first | done | rfl) (by decide) (by unfold idM; decide)⟩
      show j - (h + 1) < j - i; omega
  · have g1 : decide ((i : Int) < (j : Int)) = false := decide_eq_false (by omega)
    have er : i = r := by rw [← hb, bsF, dif_neg c]
    subst er
    repeat (first | apply Aw_seq | apply Aw_block | apply Aw_skip | apply Aw_exit | refine Aw_condt rfl ?_ | refine Aw_condf rfl ?_ | ((first | refine qr ?_ | refine qd (by kernel_rfl) (by kernel_rfl) ?_); simp only [go_sem, jE, reduceIte, jA, jM, jS, jL, jD, jB, g1]) | refine dk (by kernel_rfl) ?_)
    refine Aw.rw (rwL (l' := [(13, .t (iT (a : Nat))), (10, .t (iT (i : Nat))), (4, .t cmpV), (3, .t (iT b)), (2, .t (iT m)), (1, .t (iT a)), (0, .t (.c (.h 0)))]) (os := [some (eRow xs)]) (M := [0]) (n' := 1) (by repeat (first | exact trivial | refine ⟨rfl, rfl, ?_⟩)) (by rfl) (by simp only [go_sem, jE, reduceIte, jA, jM, jS, jL, jD, jB]; first | done | rfl) (by decide) (by unfold idM; decide)) ?_
    refine Aw_loop_rw (ι := MvI A (V2 ++ B) Z x V1.length) (fun q => S [(13, .t (iT (q.k : Nat))), (10, .t (iT (i : Nat))), (4, .t cmpV), (3, .t (iT b)), (2, .t (iT m)), (1, .t (iT a)), (0, .t (.c (.h 0)))] (hpL [some (eRow q.xs)]) 1) (fun q => q.W2.length) ⟨[], V1, xs, a, by simpa using ea, by simp, by rw [hxs]; simp, by simp; omega, by rw [hZ]; simp⟩ ?_
    have wi : IntKind.i64.wrap ((i : Int) - 1) = ((i - 1 : Nat) : Int) := wsub (i := 1) (by omega) (by omega)
    rintro ⟨W1, W2, ys, k, hk, hn, hy, hyl, hz⟩
    dsimp only
    cases W2 with
    | nil =>
      have g2 : decide ((k : Int) < ((i - 1 : Nat) : Int)) = false := decide_eq_false (by simp at hn; omega)
      have e8 : ys = Z := by rw [hy, ← hz]; simp
      rw [e8]
      repeat (first | apply Aw_seq | apply Aw_block | apply Aw_skip | apply Aw_exit | refine Aw_condt rfl ?_ | refine Aw_condf rfl ?_ | ((first | refine qr ?_ | refine qd (by kernel_rfl) (by kernel_rfl) ?_); simp only [go_sem, jE, reduceIte, jA, jM, jS, jL, jD, jB, g2, wi]) | refine dk (by kernel_rfl) ?_)
      exact Aw_ret (retL (M := [0]) (.inl rfl) (by simp only [go_sem, jE, reduceIte, jA, jM, jS, jL, jD, jB]; first | done | rfl) rfl rfl (by rfl) (by simp only [go_sem, jE, reduceIte, jA, jM, jS, jL, jD, jB]; first | done | rfl | (and_intros <;> rfl)) (by decide) (by unfold idM; decide))
    | cons w W2 =>
      simp only [List.length_cons] at hn hyl
      have g2 : decide ((k : Int) < ((i - 1 : Nat) : Int)) = true := decide_eq_true (by omega)
      have wk : IntKind.i64.wrap ((k : Int) + 1) = ((k + 1 : Nat) : Int) := wrap_succ (m := k + 1) (by omega) (by omega)
      have hy2 : ys = (A ++ W1 ++ [x]) ++ w :: (W2 ++ (V2 ++ B)) := by rw [hy]; simp
      have y1 : ys[k]? = some x := by rw [hy]; exact get_mid _ _ _ _ (by simp; omega)
      have y2 : ys[k + 1]? = some w := by rw [hy2]; exact get_mid _ _ _ _ (by simp; omega)
      have hyL : ys.length = k + 2 + W2.length + V2.length + B.length := by rw [hy2]; simp; omega
      have l1 : k < ys.length := by omega
      have l2 : k + 1 < ys.length := by omega
      obtain ⟨y3, hy3⟩ : ∃ e, (ys.set k w)[k + 1]? = some e := ⟨_, List.getElem?_eq_getElem (by rw [List.length_set]; exact l2)⟩
      have e1 : (ys.set k w).set (k + 1) x = A ++ (W1 ++ [w]) ++ x :: (W2 ++ (V2 ++ B)) := by
        have q1 : ys.set k w = (A ++ W1 ++ [w]) ++ w :: (W2 ++ (V2 ++ B)) := by
          rw [hy, set_mid _ _ _ _ _ (by simp; omega)]; simp
        rw [q1, set_mid _ _ _ _ _ (by simp; omega)]; simp
      repeat (first | apply Aw_seq | apply Aw_block | apply Aw_skip | apply Aw_exit | refine Aw_condt rfl ?_ | refine Aw_condf rfl ?_ | ((first | refine qr ?_ | refine qd (by kernel_rfl) (by kernel_rfl) ?_); simp only [go_sem, jE, reduceIte, jA, jM, jS, jL, jD, jB, g2, wi, wk, y1, y2, l1, l2, hy3, set_en, d_en, List.length_set]) | refine dk (by kernel_rfl) ?_)
      refine ⟨⟨W1 ++ [w], W2, A ++ (W1 ++ [w]) ++ x :: (W2 ++ (V2 ++ B)), k + 1, by simp; omega, by simp; omega, rfl, by simp at hyl ⊢; omega, by rw [← hz]; simp⟩, [0], ?_, rwL (by repeat (first | exact trivial | refine ⟨rfl, rfl, ?_⟩)) (by rfl) (by simp only [go_sem, jE, reduceIte, jA, jM, jS, jL, jD, jB, e1]; first | done | rfl) (by decide) (by unfold idM; decide)⟩
      show W2.length < W2.length + 1; omega
/-- An entry that is carried ahead of a stretch. -/
structure MbI (A C Z : List Ent) (y : Ent) (n : Nat) where
  R : List Ent
  T : List Ent
  xs : List Ent
  k : Nat
  hk : k = A.length + R.length
  hn : R.length + T.length = n
  hx : xs = A ++ R.reverse ++ y :: (T ++ C)
  hl : A.length + R.length + T.length + C.length ≤ 1000
  h : A ++ y :: (R.reverse ++ T ++ C) = Z
theorem symTwo_ac (A U B : List Ent) (y : Ent) (hU : 2 ≤ U.length) (hl : A.length + U.length + 1 + B.length ≤ 1000) (a m b : Nat) (ea : a = A.length) (em : m = A.length + U.length) (eb : b = A.length + U.length + 1) :
    ∃ R, AC Tryz.prog 182 [.c (.h 0), iT a, iT m, iT b, cmpV] (hpL [some (eRow (A ++ U ++ [y] ++ B))]) 1 ⟨.tup [], hpL [some (eRow (A ++ R ++ B))], 1⟩ ∧ R.Perm (U ++ [y]) ∧ (Sd U → Sd R) := by
  obtain ⟨xs, hxs⟩ : ∃ xs, xs = A ++ U ++ [y] ++ B := ⟨_, rfl⟩
  have hxl : xs.length = A.length + U.length + 1 + B.length := by rw [hxs]; simp; omega
  obtain ⟨P, hP⟩ : ∃ P : Nat → Bool, P = fun h => match xs[h]? with | some x => !before y x | none => false := ⟨_, rfl⟩
  obtain ⟨r, hr⟩ : ∃ r, r = bsF P a m := ⟨_, rfl⟩
  obtain ⟨s1, s2, s3, s4⟩ := bsF_spec P a m a m (by omega) (Nat.le_refl _) (Nat.le_refl _) (.inl rfl) (.inl rfl)
  rw [← hr] at s1 s2 s3 s4
  obtain ⟨U1, U2, rfl, hv⟩ : ∃ U1 U2, U = U1 ++ U2 ∧ U1.length = r - a := ⟨U.take (r - a), U.drop (r - a), (List.take_append_drop _ _).symm, by rw [List.length_take]; omega⟩
  rw [List.length_append] at hl hU em eb hxl
  have hxa : xs[m]? = some y := by rw [hxs, show A ++ (U1 ++ U2) ++ [y] ++ B = (A ++ (U1 ++ U2)) ++ y :: B by simp]; exact get_mid _ _ _ _ (by simp; omega)
  refine ⟨U1 ++ [y] ++ U2, ?_, ?_, fun sv => ?_⟩
  case refine_2 =>
    have h1 : (U1 ++ [y] ++ U2).Perm (y :: (U1 ++ U2)) := by first | (simp; done) | simpa using (List.perm_middle (l₁ := U1) (l₂ := U2) (a := y))
    exact h1.trans (by simpa using (List.perm_append_comm (l₁ := [y]) (l₂ := U1 ++ U2)))
  case refine_3 =>
    obtain ⟨sv1, sv2, sv3⟩ := List.pairwise_append.1 sv
    have c1 : ∀ v ∈ U1, ∀ w ∈ [y], LeE v w := sd_cross sv1 (by simp) fun X l z Y e1 e2 => by
      obtain ⟨rfl, _⟩ := List.cons.inj e2
      have hp : P (r - 1) = true := by
        rcases s3 with h | h
        · rw [e1] at hv; simp at hv; omega
        · exact h
      have hxl : xs[r - 1]? = some l := by
        rw [hxs, e1, show A ++ (X ++ [l] ++ U2) ++ [y] ++ B = (A ++ X) ++ l :: (U2 ++ [y] ++ B) by simp]
        exact get_mid _ _ _ _ (by rw [e1] at hv; simp at hv ⊢; omega)
      rw [hP] at hp
      dsimp only at hp
      rw [hxl] at hp
      simpa using hp
    have c2 : ∀ w ∈ [y], ∀ v ∈ U2, LeE w v := sd_cross (by simp) sv2 fun X l z Y e1 e2 => by
      obtain rfl : l = y := by
        have := congrArg List.getLast? e1
        simpa using this.symm
      have hp : P r = false := by
        rcases s4 with h | h
        · rw [e2] at em; simp at em; omega
        · exact h
      have hxl : xs[r]? = some z := by
        rw [hxs, e2, show A ++ (U1 ++ z :: Y) ++ [l] ++ B = (A ++ U1) ++ z :: (Y ++ [l] ++ B) by simp]
        exact get_mid _ _ _ _ (by simp; omega)
      rw [hP] at hp
      dsimp only at hp
      rw [hxl] at hp
      exact bef_asym (by simpa using hp)
    refine List.pairwise_append.2 ⟨List.pairwise_append.2 ⟨sv1, by simp, c1⟩, sv2, fun v hvv w hw => ?_⟩
    rcases List.mem_append.1 hvv with h | h
    · exact sv3 v h w hw
    · exact c2 v h w hw
  rw [← hxs]
  obtain ⟨Z, hZ⟩ : ∃ Z, Z = A ++ (U1 ++ [y] ++ U2) ++ B := ⟨_, rfl⟩
  rw [← hZ]
  have w0 : IntKind.i64.wrap ((m : Int) - (a : Int)) = ((m - a : Nat) : Int) := wsub (by omega) (by omega)
  have g0 : decide (((m - a : Nat) : Int) = 1) = false := decide_eq_false (by omega)
  have w5 : IntKind.i64.wrap ((b : Int) - (m : Int)) = 1 := by rw [show (b : Int) - (m : Int) = 1 by omega]; rfl
  have g5 : decide ((1 : Int) = 1) = true := rfl
  refine AC_of Tryz.func182 rfl Tryz.ntmps182 Tryz.results182 (by kernel_rfl) rfl ?_
  simp only [List.zipIdx, List.map, Nat.zero_add, Nat.reduceAdd]
  repeat (first | apply Aw_seq | apply Aw_block | apply Aw_skip | apply Aw_exit | refine Aw_condt rfl ?_ | refine Aw_condf rfl ?_ | ((first | refine qr ?_ | refine qd (by kernel_rfl) (by kernel_rfl) ?_); simp only [go_sem, jE, reduceIte, jA, jM, jS, jL, jD, jB, w0, g0, w5, g5]) | refine dk (by kernel_rfl) ?_)
  refine Aw.rw (rwL (l' := [(15, .t (iT (m : Nat))), (14, .t (iT (a : Nat))), (4, .t cmpV), (3, .t (iT b)), (2, .t (iT m)), (1, .t (iT a)), (0, .t (.c (.h 0)))]) (os := [some (eRow xs)]) (M := [0]) (n' := 1) (by repeat (first | exact trivial | refine ⟨rfl, rfl, ?_⟩)) (by rfl) (by simp only [go_sem, jE, reduceIte, jA, jM, jS, jL, jD, jB]; first | done | rfl) (by decide) (by unfold idM; decide)) ?_
  refine Aw_loop_rw (ι := BsI P a m r) (fun q => S [(15, .t (iT (q.j : Nat))), (14, .t (iT (q.i : Nat))), (4, .t cmpV), (3, .t (iT b)), (2, .t (iT m)), (1, .t (iT a)), (0, .t (.c (.h 0)))] (hpL [some (eRow xs)]) 1) (fun q => q.j - q.i) ⟨a, m, by omega, Nat.le_refl _, Nat.le_refl _, hr.symm⟩ ?_
  rintro ⟨i, j, hij, hlo, hhi, hb⟩
  dsimp only
  by_cases c : i < j
  · have g1 : decide ((i : Int) < (j : Int)) = true := decide_eq_true (by omega)
    obtain ⟨h1, h2, h3, h4⟩ := half_w i j (by omega)
    have hu : bsF P i j = if P ((i + j) / 2) = true then bsF P ((i + j) / 2 + 1) j else bsF P i ((i + j) / 2) := by rw [bsF, dif_pos c]
    obtain ⟨h, hh⟩ : ∃ h, h = (i + j) / 2 := ⟨_, rfl⟩
    rw [← hh] at h3 h4 hu
    have w1 : IntKind.i64.wrap ((h : Int) + 1) = ((h + 1 : Nat) : Int) := wrap_succ (m := h + 1) (by omega) (by omega)
    obtain ⟨x, hy⟩ : ∃ y, xs[h]? = some y := ⟨_, List.getElem?_eq_getElem (by omega)⟩
    have l1 : h < xs.length := by omega
    have l2 : m < xs.length := by omega
    have kc := (cmp_ac y x).toLV
    have cn := cmpM_neg y x
    have pe : P h = !before y x := by rw [hP]; dsimp only; rw [hy]
    rw [pe] at hu
    cases c2 : before y x
    · rw [c2] at cn hu
      rw [hu] at hb
      repeat (first | apply Aw_seq | apply Aw_block | apply Aw_skip | apply Aw_exit | refine Aw_condt rfl ?_ | refine Aw_condf rfl ?_ | ((first | refine qr ?_ | refine qd (by kernel_rfl) (by kernel_rfl) ?_); simp only [go_sem, jE, reduceIte, jA, jM, jS, jL, jD, jB, g1, h1, h2, h3, h4, w1, hy, hxa, l1, l2, cn]) | refine dk (by kernel_rfl) ?_ | (refine ex_callv (by simp only [go_sem, jE, reduceIte, jA, jM, jS, jL, jD, jB, g1, h1, h2, h3, h4, w1, hy, hxa, l1, l2, cn]; first | done | rfl) (call_V (N' := []) (L := []) 2 (kc) rfl (.cons (.nm rfl) (.cons (.nm rfl) (.nil))) (by first | exact .nil | (simp only [capT, List.map]; exact .nil)) (by decide) (by decide) (by decide) (by simp only [go_sem, jE, reduceIte, jA, jM, jS, jL, jD, jB, g1, h1, h2, h3, h4, w1, hy, hxa, l1, l2, cn]; first | done | rfl) (.inl rfl) rfl (by decide)) (by simp only [go_sem, jE, reduceIte, jA, jM, jS, jL, jD, jB, g1, h1, h2, h3, h4, w1, hy, hxa, l1, l2, cn]; first | done | rfl) rfl (by simp only [go_sem, Nat.reduceLT]) ?_; simp only [go_sem, jE, reduceIte, jA, jM, jS, jL, jD, jB, g1, h1, h2, h3, h4, w1, hy, hxa, l1, l2, cn]))
      refine ⟨⟨h + 1, j, by omega, by omega, hhi, hb⟩, [0], ?_, rwL (by repeat (first | exact trivial | refine ⟨rfl, rfl, ?_⟩)) (by rfl) (by simp only [go_sem, jE, reduceIte, jA, jM, jS, jL, jD, jB]; first | done | rfl) (by decide) (by unfold idM; decide)⟩
      show j - (h + 1) < j - i; omega
    · rw [c2] at cn hu
      rw [hu] at hb
      repeat (first | apply Aw_seq | apply Aw_block | apply Aw_skip | apply Aw_exit | refine Aw_condt rfl ?_ | refine Aw_condf rfl ?_ | ((first | refine qr ?_ | refine qd (by kernel_rfl) (by kernel_rfl) ?_); simp only [go_sem, jE, reduceIte, jA, jM, jS, jL, jD, jB, g1, h1, h2, h3, h4, hy, hxa, l1, l2, cn]) | refine dk (by kernel_rfl) ?_ | (refine ex_callv (by simp only [go_sem, jE, reduceIte, jA, jM, jS, jL, jD, jB, g1, h1, h2, h3, h4, hy, hxa, l1, l2, cn]; first | done | rfl) (call_V (N' := []) (L := []) 2 (kc) rfl (.cons (.nm rfl) (.cons (.nm rfl) (.nil))) (by first | exact .nil | (simp only [capT, List.map]; exact .nil)) (by decide) (by decide) (by decide) (by simp only [go_sem, jE, reduceIte, jA, jM, jS, jL, jD, jB, g1, h1, h2, h3, h4, hy, hxa, l1, l2, cn]; first | done | rfl) (.inl rfl) rfl (by decide)) (by simp only [go_sem, jE, reduceIte, jA, jM, jS, jL, jD, jB, g1, h1, h2, h3, h4, hy, hxa, l1, l2, cn]; first | done | rfl) rfl (by simp only [go_sem, Nat.reduceLT]) ?_; simp only [go_sem, jE, reduceIte, jA, jM, jS, jL, jD, jB, g1, h1, h2, h3, h4, hy, hxa, l1, l2, cn]))
      refine ⟨⟨i, h, by omega, hlo, by omega, hb⟩, [0], ?_, rwL (by repeat (first | exact trivial | refine ⟨rfl, rfl, ?_⟩)) (by rfl) (by simp only [go_sem, jE, reduceIte, jA, jM, jS, jL, jD, jB]; first | done | rfl) (by decide) (by unfold idM; decide)⟩
      show h - i < j - i; omega
  · have g1 : decide ((i : Int) < (j : Int)) = false := decide_eq_false (by omega)
    have er : i = r := by rw [← hb, bsF, dif_neg c]
    subst er
    repeat (first | apply Aw_seq | apply Aw_block | apply Aw_skip | apply Aw_exit | refine Aw_condt rfl ?_ | refine Aw_condf rfl ?_ | ((first | refine qr ?_ | refine qd (by kernel_rfl) (by kernel_rfl) ?_); simp only [go_sem, jE, reduceIte, jA, jM, jS, jL, jD, jB, g1]) | refine dk (by kernel_rfl) ?_)
    refine Aw.rw (rwL (l' := [(17, .t (iT (m : Nat))), (14, .t (iT (i : Nat))), (4, .t cmpV), (3, .t (iT b)), (2, .t (iT m)), (1, .t (iT a)), (0, .t (.c (.h 0)))]) (os := [some (eRow xs)]) (M := [0]) (n' := 1) (by repeat (first | exact trivial | refine ⟨rfl, rfl, ?_⟩)) (by rfl) (by simp only [go_sem, jE, reduceIte, jA, jM, jS, jL, jD, jB]; first | done | rfl) (by decide) (by unfold idM; decide)) ?_
    refine Aw_loop_rw (ι := MbI (A ++ U1) B Z y U2.length) (fun q => S [(17, .t (iT (q.k : Nat))), (14, .t (iT (i : Nat))), (4, .t cmpV), (3, .t (iT b)), (2, .t (iT m)), (1, .t (iT a)), (0, .t (.c (.h 0)))] (hpL [some (eRow q.xs)]) 1) (fun q => q.R.length) ⟨U2.reverse, [], xs, m, by simp; omega, by simp, by rw [hxs]; simp, by simp; omega, by rw [hZ]; simp⟩ ?_
    have hA : (A ++ U1).length = i := by simp; omega
    rintro ⟨R, T, ys, k, hk, hn, hy, hyl, hz⟩
    dsimp only
    rw [hA] at hk hyl
    cases R with
    | nil =>
      have g2 : decide ((i : Int) < (k : Int)) = false := decide_eq_false (by simp at hk; omega)
      have e8 : ys = Z := by rw [hy, ← hz]; simp
      rw [e8]
      repeat (first | apply Aw_seq | apply Aw_block | apply Aw_skip | apply Aw_exit | refine Aw_condt rfl ?_ | refine Aw_condf rfl ?_ | ((first | refine qr ?_ | refine qd (by kernel_rfl) (by kernel_rfl) ?_); simp only [go_sem, jE, reduceIte, jA, jM, jS, jL, jD, jB, g2]) | refine dk (by kernel_rfl) ?_)
      exact Aw_ret (retL (M := [0]) (.inl rfl) (by simp only [go_sem, jE, reduceIte, jA, jM, jS, jL, jD, jB]; first | done | rfl) rfl rfl (by rfl) (by simp only [go_sem, jE, reduceIte, jA, jM, jS, jL, jD, jB]; first | done | rfl | (and_intros <;> rfl)) (by decide) (by unfold idM; decide))
    | cons w R =>
      simp only [List.length_cons] at hk hn hyl
      have g2 : decide ((i : Int) < (k : Int)) = true := decide_eq_true (by omega)
      have wk : IntKind.i64.wrap ((k : Int) - 1) = ((k - 1 : Nat) : Int) := wsub (i := 1) (by omega) (by omega)
      have hy2 : ys = (A ++ U1 ++ R.reverse) ++ w :: (y :: (T ++ B)) := by rw [hy]; simp
      have y1 : ys[k]? = some y := by rw [hy]; exact get_mid _ _ _ _ (by rw [List.length_append, hA]; simp; omega)
      have y2 : ys[k - 1]? = some w := by rw [hy2]; exact get_mid _ _ _ _ (by rw [List.length_append, hA]; simp; omega)
      have hyL : ys.length = k + 1 + T.length + B.length := by rw [hy2, List.length_append, List.length_append, hA]; simp; omega
      have l1 : k < ys.length := by omega
      have l2 : k - 1 < ys.length := by omega
      obtain ⟨y3, hy3⟩ : ∃ e, (ys.set k w)[k - 1]? = some e := ⟨_, List.getElem?_eq_getElem (by rw [List.length_set]; exact l2)⟩
      have e1 : (ys.set k w).set (k - 1) y = (A ++ U1) ++ R.reverse ++ y :: ((w :: T) ++ B) := by
        have q1 : ys.set k w = (A ++ U1 ++ R.reverse) ++ w :: (w :: (T ++ B)) := by
          rw [hy, show (A ++ U1) ++ (w :: R).reverse ++ y :: (T ++ B) = ((A ++ U1) ++ R.reverse ++ [w]) ++ y :: (T ++ B) by simp, set_mid _ _ _ _ _ (by rw [List.length_append, List.length_append, hA]; simp; omega)]; simp
        rw [q1, set_mid _ _ _ _ _ (by rw [List.length_append, hA]; simp; omega)]; simp
      repeat (first | apply Aw_seq | apply Aw_block | apply Aw_skip | apply Aw_exit | refine Aw_condt rfl ?_ | refine Aw_condf rfl ?_ | ((first | refine qr ?_ | refine qd (by kernel_rfl) (by kernel_rfl) ?_); simp only [go_sem, jE, reduceIte, jA, jM, jS, jL, jD, jB, g2, wk, y1, y2, l1, l2, hy3, set_en, d_en, List.length_set]) | refine dk (by kernel_rfl) ?_)
      refine ⟨⟨R, w :: T, (A ++ U1) ++ R.reverse ++ y :: ((w :: T) ++ B), k - 1, by rw [hA]; omega, by simp; omega, rfl, by rw [hA]; simp at hyl ⊢; omega, by rw [← hz]; simp⟩, [0], ?_, rwL (by repeat (first | exact trivial | refine ⟨rfl, rfl, ?_⟩)) (by rfl) (by simp only [go_sem, jE, reduceIte, jA, jM, jS, jL, jD, jB, e1]; first | done | rfl) (by decide) (by unfold idM; decide)⟩
      show R.length < R.length + 1; omega
def SymOk (n : Nat) : Prop := ∀ (A U V B : List Ent) (a m b : Nat), U.length + V.length ≤ n → 0 < U.length → 0 < V.length → A.length + U.length + V.length + B.length ≤ 1000 → a = A.length → m = A.length + U.length → b = A.length + U.length + V.length →
  ∃ R, AC Tryz.prog 182 [.c (.h 0), iT a, iT m, iT b, cmpV] (hpL [some (eRow (A ++ U ++ V ++ B))]) 1 ⟨.tup [], hpL [some (eRow (A ++ R ++ B))], 1⟩ ∧ R.Perm (U ++ V) ∧ (Sd U → Sd V → Sd R)
theorem sym_half {n : Nat} (H : SymOk n) (A U V B : List Ent) (h : U.length + V.length ≤ n) (hb : A.length + U.length + V.length + B.length ≤ 1000) (a m b : Nat) (ea : a = A.length) (em : m = A.length + U.length) (eb : b = A.length + U.length + V.length) :
    ∃ R, (0 < U.length → 0 < V.length → AC Tryz.prog 182 [.c (.h 0), iT a, iT m, iT b, cmpV] (hpL [some (eRow (A ++ U ++ V ++ B))]) 1 ⟨.tup [], hpL [some (eRow (A ++ R ++ B))], 1⟩) ∧ ((U = [] ∨ V = []) → R = U ++ V) ∧ R.Perm (U ++ V) ∧ (Sd U → Sd V → Sd R) := by
  by_cases h1 : U = []
  · subst h1; exact ⟨[] ++ V, fun h => absurd h (by simp), fun _ => rfl, .refl _, fun _ s => s⟩
  · by_cases h2 : V = []
    · subst h2; exact ⟨U ++ [], fun _ h => absurd h (by simp), fun _ => rfl, .refl _, fun s _ => by simpa using s⟩
    · obtain ⟨R, e, p, s⟩ := H A U V B a m b h (List.length_pos_iff.2 h1) (List.length_pos_iff.2 h2) hb ea em eb
      exact ⟨R, fun _ _ => e, fun h => by rcases h with h | h <;> contradiction, p, s⟩
theorem sym_ar {a u v mid N lo hi B : Nat} (hm : mid = (a + (a + u + v)) / 2) (hN : N = mid + (a + u)) (hU : 2 ≤ u) (hV : 2 ≤ v) (hb : a + u + v + B ≤ 1000) (hl : (a + u > mid ∧ lo + (a + u + v) = N ∧ hi = mid) ∨ (a + u ≤ mid ∧ lo = a ∧ hi = a + u)) :
    lo ≤ hi ∧ a ≤ lo ∧ hi ≤ a + u ∧ hi ≤ mid ∧ N ≤ lo + (a + u + v) ∧ a < mid ∧ mid < a + u + v ∧ N ≤ 2000 := by omega
theorem sym_ar2 {a u v mid N lo hi r n : Nat} (hN : N = mid + (a + u)) (h1 : lo ≤ hi) (h2 : a ≤ lo) (h3 : hi ≤ a + u) (h4 : hi ≤ mid) (h5 : N ≤ lo + (a + u + v)) (h6 : a < mid) (h7 : mid < a + u + v) (g1 : lo ≤ r) (g2 : r ≤ hi) (hn : u + v ≤ n + 1) :
    r - a ≤ u ∧ mid - r ≤ v ∧ a + (r - a) = r ∧ (r - a) + (u - (r - a)) = u ∧ a + (r - a) + (mid - r) = mid ∧ a + (r - a) + (mid - r) + (u - (r - a)) = N - r ∧ a + (r - a) + (mid - r) + (u - (r - a)) + (v - (mid - r)) = a + u + v ∧ (r - a) + (mid - r) ≤ n ∧ (u - (r - a)) + (v - (mid - r)) ≤ n ∧ a + (r - a) + (u - (r - a)) = a + u ∧ (N - r) + r = N ∧ (r < a + u ↔ 0 < u - (r - a)) ∧ (a + u < N - r ↔ 0 < mid - r) := by omega
/-- What halving leaves, and the two that are joined of it. -/
theorem sym_plan {n : Nat} (H : SymOk n) (A U V B : List Ent) (hn : U.length + V.length ≤ n + 1) (hU : 2 ≤ U.length) (hV : 2 ≤ V.length) (hb : A.length + U.length + V.length + B.length ≤ 1000) (a m b mid N lo hi : Nat) (ea : a = A.length) (em : m = A.length + U.length) (eb : b = A.length + U.length + V.length)
    (hm : mid = (a + b) / 2) (hN : N = mid + m) (hl : (m > mid ∧ lo + b = N ∧ hi = mid) ∨ (m ≤ mid ∧ lo = a ∧ hi = m)) (P : Nat → Bool) (hP : P = fun c => match (A ++ U ++ V ++ B)[N - 1 - c]?, (A ++ U ++ V ++ B)[c]? with | some x, some y => !before x y | _, _ => false) (r : Nat) (hr : r = bsF P lo hi) :
    ∃ U1 U2 V1 V2 M1 M2, U = U1 ++ U2 ∧ V = V1 ++ V2 ∧ A.length + U1.length = r ∧ A.length + U1.length + V1.length = mid ∧ A.length + U1.length + V1.length + U2.length = N - r ∧ lo ≤ r ∧ r ≤ hi ∧ hi ≤ mid ∧ N ≤ lo + b ∧ mid < b ∧ lo ≤ hi ∧
      (0 < U1.length → 0 < V1.length → AC Tryz.prog 182 [.c (.h 0), iT a, iT r, iT mid, cmpV] (hpL [some (eRow (A ++ U1 ++ V1 ++ (U2 ++ V2 ++ B)))]) 1 ⟨.tup [], hpL [some (eRow (A ++ M1 ++ (U2 ++ V2 ++ B)))], 1⟩) ∧ ((U1 = [] ∨ V1 = []) → M1 = U1 ++ V1) ∧
      (0 < U2.length → 0 < V2.length → AC Tryz.prog 182 [.c (.h 0), iT mid, iT (N - r : Nat), iT b, cmpV] (hpL [some (eRow (A ++ M1 ++ U2 ++ V2 ++ B))]) 1 ⟨.tup [], hpL [some (eRow (A ++ M1 ++ M2 ++ B))], 1⟩) ∧ ((U2 = [] ∨ V2 = []) → M2 = U2 ++ V2) ∧
      (M1 ++ M2).Perm (U ++ V) ∧ (Sd U → Sd V → Sd (M1 ++ M2)) := by
  subst ea em eb
  obtain ⟨h1, h2, h3, h4, h5, h6, h7, h8⟩ := sym_ar hm hN hU hV hb hl
  obtain ⟨g1, g2, g3, g4⟩ := bsF_spec P lo hi lo hi h1 (Nat.le_refl _) (Nat.le_refl _) (.inl rfl) (.inl rfl)
  rw [← hr] at g1 g2 g3 g4
  obtain ⟨a1, a2, a3, a4, a5, a6, a7, a8, a9, a10, a11, a12, a13⟩ := sym_ar2 hN h1 h2 h3 h4 h5 h6 h7 g1 g2 hn
  obtain ⟨U1, U2, rfl, t1⟩ : ∃ U1 U2, U = U1 ++ U2 ∧ U1.length = r - A.length := ⟨U.take (r - A.length), U.drop (r - A.length), (List.take_append_drop _ _).symm, by rw [List.length_take]; omega⟩
  obtain ⟨V1, V2, rfl, u1⟩ : ∃ V1 V2, V = V1 ++ V2 ∧ V1.length = mid - r := ⟨V.take (mid - r), V.drop (mid - r), (List.take_append_drop _ _).symm, by rw [List.length_take]; omega⟩
  simp only [List.length_append] at *
  obtain ⟨M1, e1, n1, p1, s1⟩ := sym_half H A U1 V1 (U2 ++ V2 ++ B) (by omega) (by simp; omega) A.length r mid rfl (by omega) (by omega)
  have l1 : M1.length = U1.length + V1.length := by simpa using p1.length_eq
  obtain ⟨M2, e2, n2, p2, s2⟩ := sym_half H (A ++ M1) U2 V2 B (by omega) (by simp; omega) mid (N - r) (A.length + (U1.length + U2.length) + (V1.length + V2.length)) (by simp; omega) (by simp; omega) (by simp; omega)
  refine ⟨U1, U2, V1, V2, M1, M2, rfl, rfl, by omega, by omega, by omega, g1, g2, h4, by omega, by omega, h1, e1, n1, e2, n2, ?_, fun sU sV => ?_⟩
  · have q : (M1 ++ M2).Perm ((U1 ++ V1) ++ (U2 ++ V2)) := p1.append p2
    refine q.trans ?_
    rw [List.append_assoc, List.append_assoc]
    refine List.Perm.append_left _ ?_
    rw [← List.append_assoc, ← List.append_assoc]
    exact (List.perm_append_comm).append_right _
  · obtain ⟨x1, x2, x3⟩ := List.pairwise_append.1 sU
    obtain ⟨y1, y2, y3⟩ := List.pairwise_append.1 sV
    have z1 : ∀ x ∈ U1, ∀ y ∈ V2, LeE x y := sd_cross x1 y2 fun X l z Y e1 e2 => by
      rcases g3 with g3 | g3
      · exfalso
        have q1 : 0 < U1.length := by rw [e1]; simp
        have q2 : 0 < V2.length := by rw [e2]; simp
        rcases hl with ⟨_, q, _⟩ | ⟨_, q, _⟩ <;> omega
      · have rl : (A ++ (U1 ++ U2) ++ (V1 ++ V2) ++ B)[r - 1]? = some l := by
          rw [show A ++ (U1 ++ U2) ++ (V1 ++ V2) ++ B = (A ++ X) ++ l :: (U2 ++ (V1 ++ V2) ++ B) by rw [e1]; simp]
          exact get_mid _ _ _ _ (by rw [e1] at t1; simp at t1 ⊢; omega)
        have rz : (A ++ (U1 ++ U2) ++ (V1 ++ V2) ++ B)[N - 1 - (r - 1)]? = some z := by
          rw [show A ++ (U1 ++ U2) ++ (V1 ++ V2) ++ B = (A ++ (U1 ++ U2) ++ V1) ++ z :: (Y ++ B) by rw [e2]; simp]
          exact get_mid _ _ _ _ (by rw [e1] at t1; simp at t1 ⊢; omega)
        rw [hP] at g3
        dsimp only at g3
        rw [rl, rz] at g3
        simpa using g3
    have z2 : ∀ x ∈ V1, ∀ y ∈ U2, LeE x y := sd_cross y1 x2 fun X l z Y e1 e2 => by
      rcases g4 with g4 | g4
      · exfalso
        have q1 : 0 < V1.length := by rw [e1]; simp
        have q2 : 0 < U2.length := by rw [e2]; simp
        rcases hl with ⟨_, _, q⟩ | ⟨_, _, q⟩ <;> omega
      · have rl : (A ++ (U1 ++ U2) ++ (V1 ++ V2) ++ B)[N - 1 - r]? = some l := by
          rw [show A ++ (U1 ++ U2) ++ (V1 ++ V2) ++ B = (A ++ (U1 ++ U2) ++ X) ++ l :: (V2 ++ B) by rw [e1]; simp]
          exact get_mid _ _ _ _ (by rw [e1] at u1; simp at u1 ⊢; omega)
        have rz : (A ++ (U1 ++ U2) ++ (V1 ++ V2) ++ B)[r]? = some z := by
          rw [show A ++ (U1 ++ U2) ++ (V1 ++ V2) ++ B = (A ++ U1) ++ z :: (Y ++ (V1 ++ V2) ++ B) by rw [e2]; simp]
          exact get_mid _ _ _ _ (by simp; omega)
        rw [hP] at g4
        dsimp only at g4
        rw [rl, rz] at g4
        exact bef_asym (by simpa using g4)
    refine List.pairwise_append.2 ⟨s1 x1 y1, s2 x2 y2, fun x hx y hy => ?_⟩
    rcases List.mem_append.1 (p1.mem_iff.1 hx) with hx | hx <;> rcases List.mem_append.1 (p2.mem_iff.1 hy) with hy | hy
    · exact x3 x hx y hy
    · exact z1 x hx y hy
    · exact z2 x hx y hy
    · exact y3 x hx y hy
abbrev smSl (a m b : Nat) : List (Nat × AV) := [(4, .t cmpV), (3, .t (iT b)), (2, .t (iT m)), (1, .t (iT a)), (0, .t (.c (.h 0)))]
theorem symMain {n : Nat} (H : SymOk n) (A U V B : List Ent) (hn : U.length + V.length ≤ n + 1) (hU : 2 ≤ U.length) (hV : 2 ≤ V.length) (hb : A.length + U.length + V.length + B.length ≤ 1000) (a m b : Nat) (ea : a = A.length) (em : m = A.length + U.length) (eb : b = A.length + U.length + V.length) :
    ∃ R, AC Tryz.prog 182 [.c (.h 0), iT a, iT m, iT b, cmpV] (hpL [some (eRow (A ++ U ++ V ++ B))]) 1 ⟨.tup [], hpL [some (eRow (A ++ R ++ B))], 1⟩ ∧ R.Perm (U ++ V) ∧ (Sd U → Sd V → Sd R) := by
  obtain ⟨mid, hm⟩ : ∃ mid, mid = (a + b) / 2 := ⟨_, rfl⟩
  obtain ⟨N, hN⟩ : ∃ N, N = mid + m := ⟨_, rfl⟩
  obtain ⟨lo, hi, hl⟩ : ∃ lo hi, (m > mid ∧ lo + b = N ∧ hi = mid) ∨ (m ≤ mid ∧ lo = a ∧ hi = m) := by
    by_cases c : m > mid
    · exact ⟨N - b, mid, .inl ⟨c, by omega, rfl⟩⟩
    · exact ⟨a, m, .inr ⟨by omega, rfl, rfl⟩⟩
  obtain ⟨xs, hxs⟩ : ∃ xs, xs = A ++ U ++ V ++ B := ⟨_, rfl⟩
  have hxl : xs.length = A.length + U.length + V.length + B.length := by rw [hxs]; simp; omega
  obtain ⟨P, hP⟩ : ∃ P : Nat → Bool, P = fun c => match xs[N - 1 - c]?, xs[c]? with | some x, some y => !before x y | _, _ => false := ⟨_, rfl⟩
  obtain ⟨r, hr⟩ : ∃ r, r = bsF P lo hi := ⟨_, rfl⟩
  obtain ⟨U1, U2, V1, V2, M1, M2, rfl, rfl, b1, b2, b3, b4, b5, b6, b7, b8, b9, e1, n1, e2, n2, p, s⟩ := sym_plan H A U V B hn hU hV hb a m b mid N lo hi ea em eb hm hN hl P (by rw [hP, hxs] <;> rfl) r hr
  refine ⟨M1 ++ M2, ?_, p, s⟩
  rw [← hxs]
  obtain ⟨Z, hZ⟩ : ∃ Z, Z = A ++ (M1 ++ M2) ++ B := ⟨_, rfl⟩
  rw [← hZ]
  simp only [List.length_append] at hn hU hV hb em eb hxl
  have w0 : IntKind.i64.wrap ((m : Int) - (a : Int)) = ((m - a : Nat) : Int) := wsub (by omega) (by omega)
  have g0 : decide (((m - a : Nat) : Int) = 1) = false := decide_eq_false (by omega)
  have w5 : IntKind.i64.wrap ((b : Int) - (m : Int)) = ((b - m : Nat) : Int) := wsub (by omega) (by omega)
  have g5 : decide (((b - m : Nat) : Int) = 1) = false := decide_eq_false (by omega)
  obtain ⟨h1, h2, h3, h4⟩ := half_w a b (by omega)
  rw [← hm] at h3 h4
  have w6 : IntKind.i64.wrap ((mid : Int) + (m : Int)) = (N : Int) := wadd hN.symm (by omega)
  have w7 : IntKind.i64.wrap ((N : Int) - 1) = ((N - 1 : Nat) : Int) := wsub (i := 1) (by omega) (by omega)
  refine AC_of Tryz.func182 rfl Tryz.ntmps182 Tryz.results182 (by kernel_rfl) rfl ?_
  simp only [List.zipIdx, List.map, Nat.zero_add, Nat.reduceAdd]
  repeat (first | apply Aw_seq | apply Aw_block | apply Aw_skip | apply Aw_exit | refine Aw_condt rfl ?_ | refine Aw_condf rfl ?_ | ((first | refine qr ?_ | refine qd (by kernel_rfl) (by kernel_rfl) ?_); simp only [go_sem, jE, reduceIte, jA, jM, jS, jL, jD, jB, w0, g0, w5, g5, h1, h2, h3, h4, w6]) | refine dk (by kernel_rfl) ?_)
  refine cut_seq (J := fun (_ : Unit) => S ((21, .t (iT (hi : Nat))) :: (20, .t (iT (lo : Nat))) :: (19, .t (iT (N : Nat))) :: (18, .t (iT (mid : Nat))) :: smSl a m b) (hpL [some (eRow xs)]) 1) ?_ ?_
  · by_cases c : mid < m
    · have c1 : decide ((mid : Int) < (m : Int)) = true := decide_eq_true (by omega)
      obtain ⟨q1, q2⟩ : lo + b = N ∧ hi = mid := by rcases hl with ⟨_, q⟩ | ⟨q, _⟩; exact q; omega
      have w8 : IntKind.i64.wrap ((N : Int) - (b : Int)) = (lo : Int) := wsub (by omega) (by omega)
      subst q2
      rw [c1]
      repeat (first | apply Aw_seq | apply Aw_block | apply Aw_skip | apply Aw_exit | refine Aw_condt rfl ?_ | refine Aw_condf rfl ?_ | ((first | refine qr ?_ | refine qd (by kernel_rfl) (by kernel_rfl) ?_); simp only [go_sem, jE, reduceIte, jA, jM, jS, jL, jD, jB, w8]) | refine dk (by kernel_rfl) ?_)
      exact ⟨(), [0], rwL (by repeat (first | exact trivial | refine ⟨rfl, rfl, ?_⟩)) (by rfl) (by simp only [go_sem, jE, reduceIte, jA, jM, jS, jL, jD, jB]; first | done | rfl) (by decide) (by unfold idM; decide)⟩
    · have c1 : decide ((mid : Int) < (m : Int)) = false := decide_eq_false (by omega)
      obtain ⟨q1, q2⟩ : lo = a ∧ hi = m := by rcases hl with ⟨q, _⟩ | ⟨_, q⟩; omega; exact q
      subst q1 q2
      rw [c1]
      repeat (first | apply Aw_seq | apply Aw_block | apply Aw_skip | apply Aw_exit | refine Aw_condt rfl ?_ | refine Aw_condf rfl ?_ | ((first | refine qr ?_ | refine qd (by kernel_rfl) (by kernel_rfl) ?_); simp only [go_sem, jE, reduceIte, jA, jM, jS, jL, jD, jB]) | refine dk (by kernel_rfl) ?_)
      exact ⟨(), [0], rwL (by repeat (first | exact trivial | refine ⟨rfl, rfl, ?_⟩)) (by rfl) (by simp only [go_sem, jE, reduceIte, jA, jM, jS, jL, jD, jB]; first | done | rfl) (by decide) (by unfold idM; decide)⟩
  intro _
  repeat (first | apply Aw_seq | apply Aw_block | apply Aw_skip | apply Aw_exit | refine Aw_condt rfl ?_ | refine Aw_condf rfl ?_ | ((first | refine qr ?_ | refine qd (by kernel_rfl) (by kernel_rfl) ?_); simp only [go_sem, jE, reduceIte, jA, jM, jS, jL, jD, jB, w7]) | refine dk (by kernel_rfl) ?_)
  refine Aw.rw (rwL (l' := (22, .t (iT (N - 1 : Nat))) :: (21, .t (iT (hi : Nat))) :: (20, .t (iT (lo : Nat))) :: (19, .t (iT (N : Nat))) :: (18, .t (iT (mid : Nat))) :: smSl a m b) (os := [some (eRow xs)]) (M := [0]) (n' := 1) (by repeat (first | exact trivial | refine ⟨rfl, rfl, ?_⟩)) (by rfl) (by simp only [go_sem, jE, reduceIte, jA, jM, jS, jL, jD, jB]; first | done | rfl) (by decide) (by unfold idM; decide)) ?_
  refine Aw_loop_rw (ι := BsI P lo hi r) (fun q => S ((22, .t (iT (N - 1 : Nat))) :: (21, .t (iT (q.j : Nat))) :: (20, .t (iT (q.i : Nat))) :: (19, .t (iT (N : Nat))) :: (18, .t (iT (mid : Nat))) :: smSl a m b) (hpL [some (eRow xs)]) 1) (fun q => q.j - q.i) ⟨lo, hi, b9, Nat.le_refl _, Nat.le_refl _, hr.symm⟩ ?_
  rintro ⟨i, j, hij, hlo, hhi, hbs⟩
  dsimp only
  by_cases c : i < j
  · have g1 : decide ((i : Int) < (j : Int)) = true := decide_eq_true (by omega)
    obtain ⟨h1, h2, h3, h4⟩ := half_w i j (by omega)
    have hu : bsF P i j = if P ((i + j) / 2) = true then bsF P ((i + j) / 2 + 1) j else bsF P i ((i + j) / 2) := by rw [bsF, dif_pos c]
    obtain ⟨h, hh⟩ : ∃ h, h = (i + j) / 2 := ⟨_, rfl⟩
    rw [← hh] at h3 h4 hu
    have w1 : IntKind.i64.wrap ((h : Int) + 1) = ((h + 1 : Nat) : Int) := wrap_succ (m := h + 1) (by omega) (by omega)
    have w2 : IntKind.i64.wrap (((N - 1 : Nat) : Int) - (h : Int)) = ((N - 1 - h : Nat) : Int) := wsub (by omega) (by omega)
    have l1 : h < xs.length := by omega
    have l2 : N - 1 - h < xs.length := by omega
    obtain ⟨x, hx⟩ : ∃ y, xs[N - 1 - h]? = some y := ⟨_, List.getElem?_eq_getElem l2⟩
    obtain ⟨y, hy⟩ : ∃ y, xs[h]? = some y := ⟨_, List.getElem?_eq_getElem l1⟩
    have kc := (cmp_ac x y).toLV
    have cn := cmpM_neg x y
    have pe : P h = !before x y := by rw [hP]; dsimp only; rw [hx, hy]
    rw [pe] at hu
    cases c2 : before x y
    · rw [c2] at cn hu
      rw [hu] at hbs
      repeat (first | apply Aw_seq | apply Aw_block | apply Aw_skip | apply Aw_exit | refine Aw_condt rfl ?_ | refine Aw_condf rfl ?_ | ((first | refine qr ?_ | refine qd (by kernel_rfl) (by kernel_rfl) ?_); simp only [go_sem, jE, reduceIte, jA, jM, jS, jL, jD, jB, g1, h1, h2, h3, h4, w1, w2, hx, hy, l1, l2, cn]) | refine dk (by kernel_rfl) ?_ | (refine ex_callv (by simp only [go_sem, jE, reduceIte, jA, jM, jS, jL, jD, jB, g1, h1, h2, h3, h4, w1, w2, hx, hy, l1, l2, cn]; first | done | rfl) (call_V (N' := []) (L := []) 2 (kc) rfl (.cons (.nm rfl) (.cons (.nm rfl) (.nil))) (by first | exact .nil | (simp only [capT, List.map]; exact .nil)) (by decide) (by decide) (by decide) (by simp only [go_sem, jE, reduceIte, jA, jM, jS, jL, jD, jB, g1, h1, h2, h3, h4, w1, w2, hx, hy, l1, l2, cn]; first | done | rfl) (.inl rfl) rfl (by decide)) (by simp only [go_sem, jE, reduceIte, jA, jM, jS, jL, jD, jB, g1, h1, h2, h3, h4, w1, w2, hx, hy, l1, l2, cn]; first | done | rfl) rfl (by simp only [go_sem, Nat.reduceLT]) ?_; simp only [go_sem, jE, reduceIte, jA, jM, jS, jL, jD, jB, g1, h1, h2, h3, h4, w1, w2, hx, hy, l1, l2, cn]))
      refine ⟨⟨h + 1, j, by omega, by omega, hhi, hbs⟩, [0], ?_, rwL (by repeat (first | exact trivial | refine ⟨rfl, rfl, ?_⟩)) (by rfl) (by simp only [go_sem, jE, reduceIte, jA, jM, jS, jL, jD, jB]; first | done | rfl) (by decide) (by unfold idM; decide)⟩
      show j - (h + 1) < j - i; omega
    · rw [c2] at cn hu
      rw [hu] at hbs
      repeat (first | apply Aw_seq | apply Aw_block | apply Aw_skip | apply Aw_exit | refine Aw_condt rfl ?_ | refine Aw_condf rfl ?_ | ((first | refine qr ?_ | refine qd (by kernel_rfl) (by kernel_rfl) ?_); simp only [go_sem, jE, reduceIte, jA, jM, jS, jL, jD, jB, g1, h1, h2, h3, h4, w2, hx, hy, l1, l2, cn]) | refine dk (by kernel_rfl) ?_ | (refine ex_callv (by simp only [go_sem, jE, reduceIte, jA, jM, jS, jL, jD, jB, g1, h1, h2, h3, h4, w2, hx, hy, l1, l2, cn]; first | done | rfl) (call_V (N' := []) (L := []) 2 (kc) rfl (.cons (.nm rfl) (.cons (.nm rfl) (.nil))) (by first | exact .nil | (simp only [capT, List.map]; exact .nil)) (by decide) (by decide) (by decide) (by simp only [go_sem, jE, reduceIte, jA, jM, jS, jL, jD, jB, g1, h1, h2, h3, h4, w2, hx, hy, l1, l2, cn]; first | done | rfl) (.inl rfl) rfl (by decide)) (by simp only [go_sem, jE, reduceIte, jA, jM, jS, jL, jD, jB, g1, h1, h2, h3, h4, w2, hx, hy, l1, l2, cn]; first | done | rfl) rfl (by simp only [go_sem, Nat.reduceLT]) ?_; simp only [go_sem, jE, reduceIte, jA, jM, jS, jL, jD, jB, g1, h1, h2, h3, h4, w2, hx, hy, l1, l2, cn]))
      refine ⟨⟨i, h, by omega, hlo, by omega, hbs⟩, [0], ?_, rwL (by repeat (first | exact trivial | refine ⟨rfl, rfl, ?_⟩)) (by rfl) (by simp only [go_sem, jE, reduceIte, jA, jM, jS, jL, jD, jB]; first | done | rfl) (by decide) (by unfold idM; decide)⟩
      show h - i < j - i; omega
  · have g1 : decide ((i : Int) < (j : Int)) = false := decide_eq_false (by omega)
    have er : i = r := by rw [← hbs, bsF, dif_neg c]
    subst er
    have w9 : IntKind.i64.wrap ((N : Int) - (i : Int)) = ((N - i : Nat) : Int) := wsub (by omega) (by omega)
    obtain ⟨Y1, hY1⟩ : ∃ Y1, Y1 = A ++ U1 ++ V1 ++ U2 ++ V2 ++ B := ⟨_, rfl⟩
    obtain ⟨Y2, hY2⟩ : ∃ Y2, Y2 = A ++ M1 ++ U2 ++ V2 ++ B := ⟨_, rfl⟩
    have l0 : ∀ L : List Ent, L = [] ↔ ¬ 0 < L.length := fun L => by rw [List.length_pos_iff]; simp
    iterate 8 (first | apply Aw_seq | apply Aw_block | apply Aw_skip | apply Aw_exit | refine Aw_condt rfl ?_ | refine Aw_condf rfl ?_ | ((first | refine qr ?_ | refine qd (by kernel_rfl) (by kernel_rfl) ?_); simp only [go_sem, jE, reduceIte, jA, jM, jS, jL, jD, jB, g1, w9]) | refine dk (by kernel_rfl) ?_)
    refine cut_seq (J := fun (_ : Unit) => S ((24, .t (iT (N - i : Nat))) :: (20, .t (iT (i : Nat))) :: (18, .t (iT (mid : Nat))) :: smSl a m b) (hpL [some (eRow Y1)]) 1) ?_ ?_
    · by_cases q1 : 0 < U2.length
      · have d1 : decide ((i : Int) < (m : Int)) = true := decide_eq_true (by omega)
        by_cases q2 : 0 < V1.length
        · have d2 : decide ((m : Int) < ((N - i : Nat) : Int)) = true := decide_eq_true (by omega)
          have k := rotate_ac (A ++ U1) U2 V1 (V2 ++ B) q1 q2 (by simp; omega) i m (N - i) (by simp; omega) (by simp; omega) (by simp; omega)
          rw [show (A ++ U1) ++ U2 ++ V1 ++ (V2 ++ B) = xs by rw [hxs]; simp, show (A ++ U1) ++ V1 ++ U2 ++ (V2 ++ B) = Y1 by rw [hY1]; simp] at k
          repeat (first | apply Aw_seq | apply Aw_block | apply Aw_skip | apply Aw_exit | refine Aw_condt rfl ?_ | refine Aw_condf rfl ?_ | ((first | refine qr ?_ | refine qd (by kernel_rfl) (by kernel_rfl) ?_); simp only [go_sem, jE, reduceIte, jA, jM, jS, jL, jD, jB, d1, d2]) | refine dk (by kernel_rfl) ?_ | (refine qx (call_L (N' := [0]) (L := []) (k) rfl (.cons (.nm rfl) (.cons (.nm rfl) (.cons (.nm rfl) (.cons (.nm rfl) (.cons (.nm rfl) (.nil)))))) (by decide) (by decide) (by decide) (by simp only [go_sem, jE, reduceIte, jA, jM, jS, jL, jD, jB, d1, d2]; first | done | rfl) (.inl rfl) rfl (by decide)) (by simp only [go_sem, jE, reduceIte, jA, jM, jS, jL, jD, jB, d1, d2]; first | done | rfl) rfl (by simp only [go_sem, Nat.reduceLT]) ?_; simp only [go_sem, jE, reduceIte, jA, jM, jS, jL, jD, jB, d1, d2]))
          exact ⟨(), [0], rwL (by repeat (first | exact trivial | refine ⟨rfl, rfl, ?_⟩)) (by rfl) (by simp only [go_sem, jE, reduceIte, jA, jM, jS, jL, jD, jB]; first | done | rfl) (by decide) (by unfold idM; decide)⟩
        · have d2 : decide ((m : Int) < ((N - i : Nat) : Int)) = false := decide_eq_false (by omega)
          rw [show xs = Y1 by rw [hxs, hY1, (l0 V1).2 q2]; simp]
          repeat (first | apply Aw_seq | apply Aw_block | apply Aw_skip | apply Aw_exit | refine Aw_condt rfl ?_ | refine Aw_condf rfl ?_ | ((first | refine qr ?_ | refine qd (by kernel_rfl) (by kernel_rfl) ?_); simp only [go_sem, jE, reduceIte, jA, jM, jS, jL, jD, jB, d1, d2]) | refine dk (by kernel_rfl) ?_)
          exact ⟨rfl, (), [0], rwL (by repeat (first | exact trivial | refine ⟨rfl, rfl, ?_⟩)) (by rfl) (by simp only [go_sem, jE, reduceIte, jA, jM, jS, jL, jD, jB]; first | done | rfl) (by decide) (by unfold idM; decide)⟩
      · have d1 : decide ((i : Int) < (m : Int)) = false := decide_eq_false (by omega)
        rw [show xs = Y1 by rw [hxs, hY1, (l0 U2).2 q1]; simp]
        repeat (first | apply Aw_seq | apply Aw_block | apply Aw_skip | apply Aw_exit | refine Aw_condt rfl ?_ | refine Aw_condf rfl ?_ | ((first | refine qr ?_ | refine qd (by kernel_rfl) (by kernel_rfl) ?_); simp only [go_sem, jE, reduceIte, jA, jM, jS, jL, jD, jB, d1]) | refine dk (by kernel_rfl) ?_)
        exact ⟨rfl, (), [0], rwL (by repeat (first | exact trivial | refine ⟨rfl, rfl, ?_⟩)) (by rfl) (by simp only [go_sem, jE, reduceIte, jA, jM, jS, jL, jD, jB]; first | done | rfl) (by decide) (by unfold idM; decide)⟩
    intro _
    iterate 1 (first | apply Aw_seq | apply Aw_block | apply Aw_skip | apply Aw_exit | refine Aw_condt rfl ?_ | refine Aw_condf rfl ?_ | ((first | refine qr ?_ | refine qd (by kernel_rfl) (by kernel_rfl) ?_); simp only [go_sem, jE, reduceIte, jA, jM, jS, jL, jD, jB, g1]) | refine dk (by kernel_rfl) ?_)
    refine cut_seq (J := fun (_ : Unit) => S ((24, .t (iT (N - i : Nat))) :: (18, .t (iT (mid : Nat))) :: smSl a m b) (hpL [some (eRow Y2)]) 1) ?_ ?_
    · by_cases q1 : 0 < U1.length
      · have d1 : decide ((a : Int) < (i : Int)) = true := decide_eq_true (by omega)
        by_cases q2 : 0 < V1.length
        · have d2 : decide ((i : Int) < (mid : Int)) = true := decide_eq_true (by omega)
          have k := e1 q1 q2
          rw [show A ++ U1 ++ V1 ++ (U2 ++ V2 ++ B) = Y1 by rw [hY1]; simp, show A ++ M1 ++ (U2 ++ V2 ++ B) = Y2 by rw [hY2]; simp] at k
          repeat (first | apply Aw_seq | apply Aw_block | apply Aw_skip | apply Aw_exit | refine Aw_condt rfl ?_ | refine Aw_condf rfl ?_ | ((first | refine qr ?_ | refine qd (by kernel_rfl) (by kernel_rfl) ?_); simp only [go_sem, jE, reduceIte, jA, jM, jS, jL, jD, jB, d1, d2]) | refine dk (by kernel_rfl) ?_ | (refine qx (call_L (N' := [0]) (L := []) (k) rfl (.cons (.nm rfl) (.cons (.nm rfl) (.cons (.nm rfl) (.cons (.nm rfl) (.cons (.nm rfl) (.nil)))))) (by decide) (by decide) (by decide) (by simp only [go_sem, jE, reduceIte, jA, jM, jS, jL, jD, jB, d1, d2]; first | done | rfl) (.inl rfl) rfl (by decide)) (by simp only [go_sem, jE, reduceIte, jA, jM, jS, jL, jD, jB, d1, d2]; first | done | rfl) rfl (by simp only [go_sem, Nat.reduceLT]) ?_; simp only [go_sem, jE, reduceIte, jA, jM, jS, jL, jD, jB, d1, d2]))
          exact ⟨(), [0], rwL (by repeat (first | exact trivial | refine ⟨rfl, rfl, ?_⟩)) (by rfl) (by simp only [go_sem, jE, reduceIte, jA, jM, jS, jL, jD, jB]; first | done | rfl) (by decide) (by unfold idM; decide)⟩
        · have d2 : decide ((i : Int) < (mid : Int)) = false := decide_eq_false (by omega)
          rw [show Y1 = Y2 by rw [hY1, hY2, n1 (.inr ((l0 V1).2 q2))]; simp]
          repeat (first | apply Aw_seq | apply Aw_block | apply Aw_skip | apply Aw_exit | refine Aw_condt rfl ?_ | refine Aw_condf rfl ?_ | ((first | refine qr ?_ | refine qd (by kernel_rfl) (by kernel_rfl) ?_); simp only [go_sem, jE, reduceIte, jA, jM, jS, jL, jD, jB, d1, d2]) | refine dk (by kernel_rfl) ?_)
          exact ⟨rfl, (), [0], rwL (by repeat (first | exact trivial | refine ⟨rfl, rfl, ?_⟩)) (by rfl) (by simp only [go_sem, jE, reduceIte, jA, jM, jS, jL, jD, jB]; first | done | rfl) (by decide) (by unfold idM; decide)⟩
      · have d1 : decide ((a : Int) < (i : Int)) = false := decide_eq_false (by omega)
        rw [show Y1 = Y2 by rw [hY1, hY2, n1 (.inl ((l0 U1).2 q1))]; simp]
        repeat (first | apply Aw_seq | apply Aw_block | apply Aw_skip | apply Aw_exit | refine Aw_condt rfl ?_ | refine Aw_condf rfl ?_ | ((first | refine qr ?_ | refine qd (by kernel_rfl) (by kernel_rfl) ?_); simp only [go_sem, jE, reduceIte, jA, jM, jS, jL, jD, jB, d1]) | refine dk (by kernel_rfl) ?_)
        exact ⟨rfl, (), [0], rwL (by repeat (first | exact trivial | refine ⟨rfl, rfl, ?_⟩)) (by rfl) (by simp only [go_sem, jE, reduceIte, jA, jM, jS, jL, jD, jB]; first | done | rfl) (by decide) (by unfold idM; decide)⟩
    intro _
    by_cases q1 : 0 < U2.length
    · have d1 : decide ((mid : Int) < ((N - i : Nat) : Int)) = true := decide_eq_true (by omega)
      by_cases q2 : 0 < V2.length
      · have d2 : decide (((N - i : Nat) : Int) < (b : Int)) = true := decide_eq_true (by omega)
        have k := e2 q1 q2
        rw [show A ++ M1 ++ U2 ++ V2 ++ B = Y2 by rw [hY2], show A ++ M1 ++ M2 ++ B = Z by rw [hZ]; simp] at k
        repeat (first | apply Aw_seq | apply Aw_block | apply Aw_skip | apply Aw_exit | refine Aw_condt rfl ?_ | refine Aw_condf rfl ?_ | ((first | refine qr ?_ | refine qd (by kernel_rfl) (by kernel_rfl) ?_); simp only [go_sem, jE, reduceIte, jA, jM, jS, jL, jD, jB, d1, d2]) | refine dk (by kernel_rfl) ?_ | (refine qx (call_L (N' := [0]) (L := []) (k) rfl (.cons (.nm rfl) (.cons (.nm rfl) (.cons (.nm rfl) (.cons (.nm rfl) (.cons (.nm rfl) (.nil)))))) (by decide) (by decide) (by decide) (by simp only [go_sem, jE, reduceIte, jA, jM, jS, jL, jD, jB, d1, d2]; first | done | rfl) (.inl rfl) rfl (by decide)) (by simp only [go_sem, jE, reduceIte, jA, jM, jS, jL, jD, jB, d1, d2]; first | done | rfl) rfl (by simp only [go_sem, Nat.reduceLT]) ?_; simp only [go_sem, jE, reduceIte, jA, jM, jS, jL, jD, jB, d1, d2]))
        exact (retL (M := [0]) (.inr rfl) (by simp only [resA, go_sem, jE, reduceIte, jA, jM, jS, jL, jD, jB]; first | done | rfl) rfl rfl (by rfl) (by simp only [go_sem, jE, reduceIte, jA, jM, jS, jL, jD, jB]; first | done | rfl | (and_intros <;> rfl)) (by decide) (by unfold idM; decide))
      · have d2 : decide (((N - i : Nat) : Int) < (b : Int)) = false := decide_eq_false (by omega)
        rw [show Y2 = Z by rw [hY2, hZ, n2 (.inr ((l0 V2).2 q2))]; simp]
        repeat (first | apply Aw_seq | apply Aw_block | apply Aw_skip | apply Aw_exit | refine Aw_condt rfl ?_ | refine Aw_condf rfl ?_ | ((first | refine qr ?_ | refine qd (by kernel_rfl) (by kernel_rfl) ?_); simp only [go_sem, jE, reduceIte, jA, jM, jS, jL, jD, jB, d1, d2]) | refine dk (by kernel_rfl) ?_)
        exact (retL (M := [0]) (.inr rfl) (by simp only [resA, go_sem, jE, reduceIte, jA, jM, jS, jL, jD, jB]; first | done | rfl) rfl rfl (by rfl) (by simp only [go_sem, jE, reduceIte, jA, jM, jS, jL, jD, jB]; first | done | rfl | (and_intros <;> rfl)) (by decide) (by unfold idM; decide))
    · have d1 : decide ((mid : Int) < ((N - i : Nat) : Int)) = false := decide_eq_false (by omega)
      rw [show Y2 = Z by rw [hY2, hZ, n2 (.inl ((l0 U2).2 q1))]; simp]
      repeat (first | apply Aw_seq | apply Aw_block | apply Aw_skip | apply Aw_exit | refine Aw_condt rfl ?_ | refine Aw_condf rfl ?_ | ((first | refine qr ?_ | refine qd (by kernel_rfl) (by kernel_rfl) ?_); simp only [go_sem, jE, reduceIte, jA, jM, jS, jL, jD, jB, d1]) | refine dk (by kernel_rfl) ?_)
      exact (retL (M := [0]) (.inr rfl) (by simp only [resA, go_sem, jE, reduceIte, jA, jM, jS, jL, jD, jB]; first | done | rfl) rfl rfl (by rfl) (by simp only [go_sem, jE, reduceIte, jA, jM, jS, jL, jD, jB]; first | done | rfl | (and_intros <;> rfl)) (by decide) (by unfold idM; decide))
theorem symOk : ∀ n, SymOk n
  | 0 => fun A U V B a m b h hU => by omega
  | n + 1 => fun A U V B a m b h hU hV hb ea em eb => by
    by_cases c1 : U.length = 1
    · obtain ⟨x, rfl⟩ := List.length_eq_one_iff.1 c1
      obtain ⟨R, e, p, s⟩ := symOne_ac A V B x hV (by simpa using hb) a m b ea (by simpa using em) (by simpa using eb)
      exact ⟨R, e, p, fun _ => s⟩
    · by_cases c2 : V.length = 1
      · obtain ⟨y, rfl⟩ := List.length_eq_one_iff.1 c2
        obtain ⟨R, e, p, s⟩ := symTwo_ac A U B y (by omega) (by simpa using hb) a m b ea em (by simpa using eb)
        exact ⟨R, e, p, fun h _ => s h⟩
      · exact symMain (symOk n) A U V B h (by omega) (by omega) hb a m b ea em eb
def MgH (A U V B : List Ent) : Prop := 0 < U.length ∧ 0 < V.length ∧ A.length + U.length + V.length + B.length ≤ 1000
theorem mg_ex {A U V B : List Ent} (h : MgH A U V B) : ∃ R, AC Tryz.prog 182 [.c (.h 0), iT (A.length : Nat), iT (A.length + U.length : Nat), iT (A.length + U.length + V.length : Nat), cmpV] (hpL [some (eRow (A ++ U ++ V ++ B))]) 1 ⟨.tup [], hpL [some (eRow (A ++ R ++ B))], 1⟩ ∧ R.Perm (U ++ V) ∧ (Sd U → Sd V → Sd R) :=
  symOk (U.length + V.length) A U V B _ _ _ (Nat.le_refl _) h.1 h.2.1 h.2.2 rfl rfl rfl
open Classical in
noncomputable def mgV (A U V B : List Ent) : List Ent := if h : MgH A U V B then Classical.choose (mg_ex h) else U ++ V
theorem mgV_ac {A U V B : List Ent} (h : MgH A U V B) (a m b : Nat) (ea : a = A.length) (em : m = A.length + U.length) (eb : b = A.length + U.length + V.length) : AC Tryz.prog 182 [.c (.h 0), iT a, iT m, iT b, cmpV] (hpL [some (eRow (A ++ U ++ V ++ B))]) 1 ⟨.tup [], hpL [some (eRow (A ++ mgV A U V B ++ B))], 1⟩ := by
  subst ea em eb
  unfold mgV; rw [dif_pos h]; exact (Classical.choose_spec (mg_ex h)).1
theorem mgV_perm (A U V B : List Ent) : (mgV A U V B).Perm (U ++ V) := by
  unfold mgV
  split
  · rename_i h; exact (Classical.choose_spec (mg_ex h)).2.1
  · exact .refl _
theorem mgV_sd {A U V B : List Ent} (h : MgH A U V B) (hu : Sd U) (hv : Sd V) : Sd (mgV A U V B) := by
  unfold mgV; rw [dif_pos h]; exact (Classical.choose_spec (mg_ex h)).2.2 hu hv
/-- Sorted blocks of a length; the last may be shorter. -/
def Ch (s : Nat) : List (List Ent) → Prop
  | [] => True
  | c :: cs => (c.length = s ∨ (c.length ≤ s ∧ cs = [])) ∧ Sd c ∧ Ch s cs
def c0 (T : List Ent) : List (List Ent) := if h : 20 ≤ T.length then isort (T.take 20) :: c0 (T.drop 20) else [isort T]
termination_by T.length
decreasing_by rw [List.length_drop]; omega
theorem c0_ch (T : List Ent) : Ch 20 (c0 T) ∧ (c0 T).flatten.Perm T := by
  unfold c0
  by_cases h : 20 ≤ T.length
  · rw [dif_pos h]
    obtain ⟨h1, h2⟩ := c0_ch (T.drop 20)
    refine ⟨⟨.inl (by rw [(isort_perm _).length_eq, List.length_take]; omega), isort_sorted _, h1⟩, ?_⟩
    rw [List.flatten_cons]
    have := (isort_perm (T.take 20)).append h2
    rwa [List.take_append_drop] at this
  · rw [dif_neg h]
    exact ⟨⟨.inr ⟨by rw [(isort_perm _).length_eq]; omega, rfl⟩, isort_sorted _, trivial⟩, by simpa using isort_perm T⟩
termination_by T.length
decreasing_by rw [List.length_drop]; omega
noncomputable def m2 : List Ent → List (List Ent) → List (List Ent)
  | A, c1 :: c2 :: cs => (if 0 < c2.length then mgV A c1 c2 cs.flatten else c1) :: m2 (A ++ (if 0 < c2.length then mgV A c1 c2 cs.flatten else c1)) cs
  | _, [c1] => [c1]
  | _, [] => []
theorem m2_ch {s : Nat} (hs : 0 < s) : ∀ (cs : List (List Ent)) (A : List Ent), Ch s cs → A.length + cs.flatten.length ≤ 1000 → Ch (2 * s) (m2 A cs) ∧ (m2 A cs).flatten.Perm cs.flatten
  | [], A, _, _ => ⟨trivial, .refl _⟩
  | [c1], A, h, _ => by
    obtain ⟨q1, q2, _⟩ := h
    exact ⟨⟨.inr ⟨by rcases q1 with q | q <;> omega, rfl⟩, q2, trivial⟩, .refl _⟩
  | c1 :: c2 :: cs, A, h, hl => by
    obtain ⟨q1, q2, r1, r2, r3⟩ := h
    have l1 : c1.length = s := by
      rcases q1 with q | q
      · exact q
      · exact absurd q.2 (by simp)
    simp only [List.flatten_cons, List.length_append] at hl
    have e0 : c2.length = s → (0 < c2.length) := fun h => by omega
    simp only [m2]
    by_cases p2 : 0 < c2.length
    · rw [if_pos p2]
      have hm : MgH A c1 c2 cs.flatten := ⟨by omega, p2, by omega⟩
      have pm := mgV_perm A c1 c2 cs.flatten
      have lm : (mgV A c1 c2 cs.flatten).length = c1.length + c2.length := by simpa using pm.length_eq
      obtain ⟨g1, g2⟩ := m2_ch hs cs (A ++ mgV A c1 c2 cs.flatten) r3 (by rw [List.length_append, lm]; omega)
      refine ⟨⟨?_, mgV_sd hm q2 r2, g1⟩, ?_⟩
      · rcases r1 with r | ⟨r, rfl⟩
        · exact .inl (by omega)
        · exact .inr ⟨by omega, rfl⟩
      · rw [List.flatten_cons, List.flatten_cons, List.flatten_cons, ← List.append_assoc]
        exact pm.append g2
    · rw [if_neg p2]
      have e2 : c2 = [] := List.eq_nil_of_length_eq_zero (by omega)
      rcases r1 with r | ⟨r, rfl⟩
      · exact absurd (e0 r) p2
      · refine ⟨⟨.inr ⟨by omega, rfl⟩, q2, trivial⟩, ?_⟩
        rw [e2]; simp [m2]
noncomputable def l1Z (n : Nat) : Nat → Nat → List (List Ent) → List (List Ent)
  | 0, _, cs => cs
  | d + 1, s, cs => if s < n then l1Z n d (2 * s) (m2 [] cs) else cs
theorem ch_sorted {s : Nat} : ∀ {cs : List (List Ent)}, Ch s cs → cs.flatten.length ≤ s → 0 < s → Sd cs.flatten := by
  intro cs
  cases cs with
  | nil => intro _ _ _; exact .nil
  | cons c cs =>
    intro h hl hs
    obtain ⟨q1, q2, q3⟩ := h
    rw [List.flatten_cons] at hl ⊢
    rw [List.length_append] at hl
    have : cs.flatten = [] := by
      rcases q1 with q1 | q1
      · exact List.eq_nil_of_length_eq_zero (by omega)
      · rw [q1.2]; rfl
    rw [this, List.append_nil]; exact q2
theorem l1Z_ok (n : Nat) (hn : n ≤ 1000) : ∀ (d s : Nat) (cs : List (List Ent)), n ≤ s + d → 0 < s → Ch s cs → cs.flatten.length = n → Sd (l1Z n d s cs).flatten ∧ (l1Z n d s cs).flatten.Perm cs.flatten
  | 0, s, cs, h1, h2, hc, hl => (show Sd cs.flatten ∧ cs.flatten.Perm cs.flatten from ⟨ch_sorted hc (by omega) h2, .refl _⟩)
  | d + 1, s, cs, h1, h2, hc, hl => by
    unfold l1Z
    by_cases c : s < n
    · rw [if_pos c]
      obtain ⟨g1, g2⟩ := m2_ch h2 cs [] hc (by rw [List.length_nil]; omega)
      obtain ⟨k1, k2⟩ := l1Z_ok n hn d (2 * s) (m2 [] cs) (by omega) (by omega) g1 (by rw [g2.length_eq]; exact hl)
      exact ⟨k1, k2.trans g2⟩
    · rw [if_neg c]
      exact ⟨ch_sorted hc (by omega) h2, .refl _⟩
noncomputable def sortE (xs : List Ent) : List Ent := (l1Z xs.length xs.length 20 (c0 xs)).flatten
theorem sortE_ok (xs : List Ent) (h : xs.length ≤ 1000) : Sd (sortE xs) ∧ (sortE xs).Perm xs := by
  obtain ⟨g1, g2⟩ := c0_ch xs
  obtain ⟨k1, k2⟩ := l1Z_ok xs.length h xs.length 20 (c0 xs) (by omega) (by omega) g1 g2.length_eq
  exact ⟨k1, k2.trans g2⟩
end Go.Proofs.YtimkdclalajadaaGreat.Ab
