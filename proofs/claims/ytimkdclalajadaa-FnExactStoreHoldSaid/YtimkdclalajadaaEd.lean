/-
  States told weaker under their names; a row of rows of its own, however many. No condition.
  A slice that is nil is a row without elements: contracts told of the one serve for the other. Definitions and lemmas. No condition.
  Contracts: a law's comparisons, of what is the same; the law of the store's check. No condition.
  Contracts: a law's marks: what it writes into rows of its own, and looks for afterwards. No condition.
  Contracts: a law's marks, found again. No condition.
  A law's marks in rows of rows, however many. No condition.
  Contracts: a new store. No condition.
  Contracts: runs that are joined, and trimmed, the reference's. No condition.
  Contracts: what is left out of a run, the program's. No condition.
  Contracts: the order of entries as a number, two stretches of a run that change places. No condition.
  Contract: two stretches of a run, side by side, that change places. No condition.
  Contract: a stretch of a run that is sorted by insertion. No condition.
  Contract: one entry ahead of a sorted stretch is merged into it. No condition.
  Contract: one entry behind a sorted stretch is merged into it. No condition.
  Contract: two sorted stretches of a run, side by side, become one. No condition.
  Contract: two sorted stretches of a run, side by side, become one. No condition.
  Plain law: blocks that are sorted, and joined two by two. No condition.
  Contracts: the stable sort of entries. No condition.
  Contract: two runs that are joined, the program's. No condition.
  Contracts: a run that is trimmed, the reference's. No condition.
  Contracts: a store anew, a level that is set, the reference's. No condition.
  Contract: a store anew, the reference's. No condition.
  Contracts: a run that is let into a level, the reference's. No condition.
  Contracts: the top that goes down, an entry that is added, the reference's. No condition.
  Contracts: an entry that is put, or a key that is taken away, the reference's. No condition.
  Plain law: the levels of a store that is one are runs, each newer than those below. No condition.
  Plain law: runs that are newer join to a run; what the program pushes down is what the reference lets down. No condition.
  Contracts: a level that is set, a run that is pushed into levels, the program's. No condition.
  Contracts: what can be done to a store, the reference's. No condition.
  Contracts: a time that is held, or freed, the reference's. No condition.
  Contracts: deeds, one behind the other, the reference's. No condition.
  Contracts: the top that goes down, an entry that is written, the program's. No condition.
  Contracts: a store anew, the program's. No condition.
  Sieves of its own, however many, and a law's marks in them. No condition.
  A store of its own, whatever its shape: its rows one behind the other. No condition.
  Contracts: a store of its own, whatever its shape, as a law makes it, and its marks (what was marked is not told). No condition.
-/
import Derived.Test.YtimkdclalajadaaEc
namespace Go.Proofs.Ytimkdclalajadaa.Ab
open Nat renaming reduceEqDiff → jE, reduceAdd → jA, reduceMul → jM, reduceSub → jS, reduceLT → jL, reduceLeDiff → jD, reduceBEq → jB
set_option linter.deprecated false
set_option linter.unusedVariables false
set_option linter.unusedSimpArgs false
open Go Go.Proofs
set_option maxRecDepth 10000
set_option maxHeartbeats 8000000
def ChkW (l : List (Nat × AV)) : List (Nat × AV) → Prop
  | [] => True
  | (t, v) :: r => look l t = v ∧ ChkW l r
theorem hpL_get {os : List (Option Obj)} {m : Nat} {o : Obj} : hpL os m = some o ↔ os[m]? = some (some o) := by
  unfold hpL
  cases os[m]? with
  | none => simp
  | some x => simp
theorem CV.ren_idn {π : Nat → Nat} {n : Nat} (h : ∀ m, m < n → π m = m) {x : CV} (hb : x.bd n = true) : x.ren π = x := by
  cases x with
  | d x => rfl
  | h m => simp [CV.bd] at hb; simp [CV.ren, h m hb]
  | ph m i j => simp [CV.bd] at hb; simp [CV.ren, h m hb]
  | pr cs => rfl
  | fn f cap =>
    simp only [CV.bd, List.all_eq_true] at hb
    simp only [CV.ren, CV.fn.injEq, true_and]
    refine (List.map_congr_left fun p hp => ?_).trans (List.map_id _)
    exact PV.ren_id h (hb p hp)
  | dead => rfl
theorem TV.ren_idn {π : Nat → Nat} {n : Nat} (h : ∀ m, m < n → π m = m) {x : TV} (hb : x.bd n = true) : x.ren π = x := by
  cases x with
  | c x => simp only [TV.ren]; rw [CV.ren_idn h hb]
  | agg cs =>
    simp only [TV.bd, List.all_eq_true] at hb
    simp only [TV.ren, TV.agg.injEq]
    exact (List.map_congr_left fun p hp => CV.ren_idn h (hb p hp)).trans (List.map_id _)
theorem AV.ren_idn {π : Nat → Nat} {n : Nat} (h : ∀ m, m < n → π m = m) {x : AV} (hb : x.bd n = true) : x.ren π = x := by
  cases x with
  | t x => simp only [AV.ren]; rw [TV.ren_idn h hb]
  | tup xs =>
    simp only [AV.bd, List.all_eq_true] at hb
    simp only [AV.ren, AV.tup.injEq]
    exact (List.map_congr_left fun p hp => TV.ren_idn h (hb p hp)).trans (List.map_id _)
  | dead => rfl
theorem Obj.ren_idn {π : Nat → Nat} {n : Nat} (h : ∀ m, m < n → π m = m) {o : Obj} (hb : o.bd n = true) : o.ren π = o := by
  obtain ⟨e, k, row, els⟩ := o
  simp only [Obj.bd, List.all_eq_true] at hb
  simp only [Obj.ren, Obj.mk.injEq, true_and]
  refine (List.map_congr_left fun cs hcs => ?_).trans (List.map_id _)
  exact (List.map_congr_left fun p hp => CV.ren_idn h (hb cs hcs p hp)).trans (List.map_id _)
theorem pin_range {n m : Nat} (h : m < n) : pin (List.range n) m = m := by simp [pin, List.getD, h]
theorem bdP_mono {a b : Nat} (h : a ≤ b) {x : PV} (hx : x.bd a = true) : x.bd b = true := by
  cases x with
  | d x => rfl
  | ph m i j => simp [PV.bd] at hx ⊢; omega
theorem bdC_mono {a b : Nat} (h : a ≤ b) {x : CV} (hx : x.bd a = true) : x.bd b = true := by
  cases x with
  | d x => rfl
  | h m => simp [CV.bd] at hx ⊢; omega
  | ph m i j => simp [CV.bd] at hx ⊢; omega
  | pr cs => rfl
  | fn f cap =>
    simp only [CV.bd, List.all_eq_true] at hx ⊢
    exact fun p hp => bdP_mono h (hx p hp)
  | dead => rfl
theorem bdT_mono {a b : Nat} (h : a ≤ b) {x : TV} (hx : x.bd a = true) : x.bd b = true := by
  cases x with
  | c x => exact bdC_mono h hx
  | agg cs =>
    simp only [TV.bd, List.all_eq_true] at hx ⊢
    exact fun p hp => bdC_mono h (hx p hp)
theorem bdA_mono {a b : Nat} (h : a ≤ b) {x : AV} (hx : x.bd a = true) : x.bd b = true := by
  cases x with
  | t x => exact bdT_mono h hx
  | tup xs =>
    simp only [AV.bd, List.all_eq_true] at hx ⊢
    exact fun p hp => bdT_mono h (hx p hp)
  | dead => rfl
theorem chkI {M : List Nat} {l l' : List (Nat × AV)} {n : Nat} (hM : ∀ m, m < n → pin M m = m) (hn : n ≤ M.length) (h : ChkW l l') (hb : ∀ p ∈ l', p.2.bd n = true) : ChkM M l l' := by
  induction l' with
  | nil => trivial
  | cons p r ih =>
    obtain ⟨i, v⟩ := p
    obtain ⟨h1, h2⟩ := h
    have hv : v.bd n = true := hb (i, v) (by simp)
    refine ⟨by rw [h1, AV.ren_idn hM hv], ?_, ih h2 fun p hp => hb p (List.mem_cons_of_mem _ hp)⟩
    exact bdA_mono hn hv
/-- A state under the names that it has. -/
theorem rwI {k : Nat} {l l' : List (Nat × AV)} {hp hp' : Hp} {n m' n' : Nat} (h : ChkW l l') (hb : ∀ p ∈ l', p.2.bd m' = true) (hh : ∀ m o, hp' m = some o → hp m = some o ∧ m < m' ∧ o.bd m' = true) (hn : m' ≤ n') (hk : k ≤ m') : Rw k (List.range m') (S l hp n) (S l' hp' n') := by
  have hi : ∀ m, m < m' → pin (List.range m') m = m := fun m hm => pin_range hm
  refine rwM (chkI hi (by simp) h hb) ⟨fun m m2 o o' h1 h2 q => ?_, fun m o hm => ?_⟩ (by simpa using hn) (fun m hm => ⟨by simp; omega, hi m (by omega)⟩)
  · rw [hi m (hh m o h1).2.1, hi m2 (hh m2 o' h2).2.1] at q; exact q
  · obtain ⟨a, b, c⟩ := hh m o hm
    exact ⟨by simpa using b, by rw [hi m b, Obj.ren_idn hi c]; exact a, by simpa using c⟩
theorem pinM_le {i N m : Nat} (h : m ≤ i) : pin (List.range (i + 1) ++ [N]) m = m := by
  simp [pin, List.getD, List.getElem?_append_left, show m < i + 1 by omega]
theorem pinM_top {i N : Nat} : pin (List.range (i + 1) ++ [N]) (i + 1) = N := by
  simp [pin, List.getD, List.getElem?_append_right]
/-- One new name, told as the next. -/
theorem rwOne {l l' : List (Nat × AV)} {hp hp' : Hp} {n n' i N : Nat} (hN : i < N) (h : ChkW l l') (hb : ∀ p ∈ l', p.2.bd (i + 1) = true) (hh : ∀ m o, hp' m = some o → (m ≤ i ∧ hp m = some (o.ren (pin (List.range (i + 1) ++ [N]))) ∨ m = i + 1 ∧ hp N = some (o.ren (pin (List.range (i + 1) ++ [N])))) ∧ o.bd (i + 2) = true) (hn : i + 2 ≤ n') : Rw 0 (List.range (i + 1) ++ [N]) (S l hp n) (S l' hp' n') := by
  have hl : (List.range (i + 1) ++ [N]).length = i + 2 := by simp
  have hi : ∀ m, m < i + 1 → pin (List.range (i + 1) ++ [N]) m = m := fun m hm => pinM_le (by omega)
  refine rwM (chkI hi (by rw [hl]; omega) h hb) ⟨fun m m2 o o' h1 h2 q => ?_, fun m o hm => ?_⟩ (by rw [hl]; exact hn) (fun m hm => by omega)
  · rcases (hh m o h1).1 with ⟨a, _⟩ | ⟨a, _⟩ <;> rcases (hh m2 o' h2).1 with ⟨b, _⟩ | ⟨b, _⟩
    · rw [hi m (by omega), hi m2 (by omega)] at q; exact q
    · rw [hi m (by omega), b, pinM_top] at q; omega
    · rw [a, hi m2 (by omega), pinM_top] at q; omega
    · omega
  · obtain ⟨a | a, c⟩ := hh m o hm
    · exact ⟨by rw [hl]; omega, by rw [hi m (by omega)]; exact a.2, by rw [hl]; exact c⟩
    · obtain ⟨rfl, a⟩ := a
      exact ⟨by rw [hl]; omega, by rw [pinM_top]; exact a, by rw [hl]; exact c⟩
/-- The end of a function under the names that it has. -/
theorem retI {P : Program} {k : Nat} {l : List (Nat × AV)} {hp hp' : Hp} {n n' : Nat} {rs : List ResultVar} {e : Exit} {x : AV} (he : e = .ret ∨ e = .normal) (h : resA P rs (look l) hp = some x) (hb : x.bd n' = true) (hh : ∀ m o, hp' m = some o → hp m = some o ∧ m < n' ∧ o.bd n' = true) (hk : k ≤ n') :
    RetQ P rs k ⟨x, hp', n'⟩ e (S l hp n) := by
  have hi : ∀ m, m < n' → pin (List.range n') m = m := fun m hm => pin_range hm
  refine ⟨he.symm, List.range n', ⟨?_, by simpa using hb, ⟨fun m m' o o' h1 h2 q => ?_, fun m o hm => ?_⟩, by simp, fun m hm => ⟨by simp; omega, hi m (by omega)⟩⟩⟩
  · rw [h, AV.ren_idn hi hb]
  · rw [hi m (hh m o h1).2.1, hi m' (hh m' o' h2).2.1] at q; exact q
  · obtain ⟨a, b, c⟩ := hh m o hm
    exact ⟨by simpa using b, by rw [hi m b, Obj.ren_idn hi c]; exact a, by simpa using c⟩
theorem hpL_set {os : List (Option Obj)} {i : Nat} {o : Option Obj} (h : i < os.length) : upd (hpL os) i o = hpL (os.set i o) := by
  funext m
  by_cases e : m = i
  · subst e; rw [upd_same]; unfold hpL; rw [List.getElem?_set_self h]; rfl
  · rw [upd_ne _ _ e]; unfold hpL; rw [List.getElem?_set_ne (Ne.symm e)]
/-- A row of rows: the first i of them there. -/
def pEls (i n : Nat) : List (List CV) := (List.range i).map (fun j => [.h (j + 1)]) ++ List.replicate (n - i) [.d (.s (.slice none 0 0))]
def pRow (i n : Nat) : Obj := ⟨29, 1, true, pEls i n⟩
@[go_sem] theorem r_pRow (i n : Nat) : pRow i n = ⟨29, 1, true, pEls i n⟩ := rfl
theorem pE_0 (n : Nat) : List.replicate n [CV.d (.s (.slice none 0 0))] = pEls 0 n := by simp [pEls]
theorem pE_len {i n : Nat} (h : i ≤ n) : (pEls i n).length = n := by simp [pEls]; omega
theorem pE_get {i n : Nat} (h : i < n) : (pEls i n)[i]? = some [.d (.s (.slice none 0 0))] := by
  unfold pEls
  rw [List.getElem?_append_right (by simp), List.getElem?_replicate]
  simp; omega
theorem pE_set {i n : Nat} (h : i < n) : (pEls i n).set i [.h (i + 1)] = pEls (i + 1) n := by
  unfold pEls
  rw [List.set_append_right _ _ (by simp), show n - i = (n - (i + 1)) + 1 by omega, List.replicate_succ]
  simp [List.range_succ]
theorem pE_all {i n : Nat} {k : Nat} (h : i < k) (hi : i ≤ n) : (pEls i n).all (·.all (CV.bd k)) = true := by
  simp only [pEls, List.all_append, List.all_map, List.all_replicate, Bool.and_eq_true]
  refine ⟨List.all_eq_true.2 fun j hj => ?_, by split <;> simp [CV.bd]⟩
  have := List.mem_range.1 hj
  simp [CV.bd]; omega
theorem bd_eRow (r : List Ent) (k : Nat) : (eRow r).bd k = true := dRow_bd _ _ _ _
theorem bd_kRow (r : List ByteArray) (k : Nat) : (kRow r).bd k = true := dRow_bd _ _ _ _
theorem ren_eRow (r : List Ent) (π : Nat → Nat) : (eRow r).ren π = eRow r := dRow_ren _ _ _ _
def lvOs (i : Nat) (r : List (List Ent)) : List (Option Obj) := some (pRow i r.length) :: (r.take i).map fun x => some (eRow x)
theorem lvOs_len {i : Nat} {r : List (List Ent)} (h : i ≤ r.length) : (lvOs i r).length = i + 1 := by simp [lvOs]; omega
theorem pE_r0 (n : Nat) (π : Nat → Nat) : (pEls 0 n).map (fun x => x.map (CV.ren π)) = pEls 0 n := by simp [pEls, CV.ren]
theorem pE_a0 (n : Nat) : ((pEls 0 n).all fun x => x.all (CV.bd 1)) = true := by simp [pEls, CV.bd]
theorem pE_ren {i n N : Nat} (h : i < n) (hN : i < N) : (pRow (i + 1) n).ren (pin (List.range (i + 1) ++ [N])) = ⟨29, 1, true, (pEls i n).set i [.h N]⟩ := by
  simp only [Obj.ren, pRow, Obj.mk.injEq, true_and]
  rw [← pE_set h, List.map_set]
  congr 1
  · refine (List.map_congr_left fun cs hcs => ?_).trans (List.map_id _)
    have := List.all_eq_true.1 (pE_all (k := i + 1) (Nat.lt_succ_self i) (Nat.le_of_lt h)) cs hcs
    exact (List.map_congr_left fun p hp => CV.ren_idn (fun m hm => pinM_le (by omega)) (List.all_eq_true.1 this p hp)).trans (List.map_id _)
  · simp [CV.ren, pinM_top]
theorem lvOs_rw {i N : Nat} {r : List (List Ent)} {x : List Ent} (h : i < r.length) (hx : r[i]? = some x) (hN : i < N) : ∀ m o, hpL (lvOs (i + 1) r) m = some o → (m ≤ i ∧ upd (upd (hpL (lvOs i r)) N (some (dRow 79 4 (x.map entD)))) 0 (some ⟨29, 1, true, (pEls i r.length).set i [.h N]⟩) m = some (o.ren (pin (List.range (i + 1) ++ [N]))) ∨ m = i + 1 ∧ upd (upd (hpL (lvOs i r)) N (some (dRow 79 4 (x.map entD)))) 0 (some ⟨29, 1, true, (pEls i r.length).set i [.h N]⟩) N = some (o.ren (pin (List.range (i + 1) ++ [N])))) ∧ o.bd (i + 2) = true := by
  intro m o hm
  rw [hpL_get] at hm
  rcases m with _ | m
  · simp only [lvOs, List.getElem?_cons_zero, Option.some.injEq] at hm
    subst hm
    exact ⟨.inl ⟨Nat.zero_le _, by rw [upd_same, pE_ren h hN]⟩, pE_all (by omega) (by omega)⟩
  · simp only [lvOs, List.getElem?_cons_succ, List.getElem?_map] at hm
    obtain ⟨y, hy, ho⟩ := Option.map_eq_some_iff.1 hm
    obtain rfl := Option.some.inj ho
    refine ⟨?_, bd_eRow _ _⟩
    rw [ren_eRow]
    rw [List.getElem?_take] at hy
    split at hy
    · rename_i hlt
      by_cases e : m = i
      · subst e
        rw [hx] at hy; obtain rfl := Option.some.inj hy
        exact .inr ⟨rfl, by rw [upd_ne _ _ (by omega), upd_same]; rfl⟩
      · refine .inl ⟨by omega, ?_⟩
        rw [upd_ne _ _ (by omega), upd_ne _ _ (by omega), hpL_get]
        simp [lvOs, List.getElem?_take, hy]
        omega
    · cases hy
theorem toEntrySSO_ac (r : List (List Ent)) (hl : r.length ≤ 1048576) (he : ∀ e ∈ r, e.length ≤ 1048576) : AC Try.prog 22 [lvsT r] noHp 0 ⟨.t (.c (.h 0)), hpL (lvOs r.length r), r.length + 1⟩ := by
  refine AC_of Try.func22 rfl Try.ntmps22 Try.results22 (by kernel_rfl) rfl ?_
  simp only [List.zipIdx, List.map, Nat.zero_add, Nat.reduceAdd]
  have t0 : ((r.length : Nat) : Int).toNat = r.length := rfl
  have t1 : (0 : Int) ≤ ((r.length : Nat) : Int) := by omega
  have t2 : ((r.length : Nat) : Int) ≤ 140737488355328 := by omega
  have t3 : decide (r.length * 24 ≤ 140737488355328) = true := decide_eq_true (by omega)
  have t4 := of_decide_eq_true t3
  have t5 := pE_0 r.length
  repeat (first | apply Aw_seq | apply Aw_block | apply Aw_skip | apply Aw_exit | refine Aw_condt rfl ?_ | refine Aw_condf rfl ?_ | ((first | refine qr ?_ | refine qd (by kernel_rfl) (by kernel_rfl) ?_); simp only [go_sem, jE, reduceIte, jA, jM, jS, jL, jD, jB, t0, t1, t2, t4]) | refine dk (by kernel_rfl) ?_)
  refine Aw.rw (rwL (l' := [(4, .t (iT (0 : Nat))), (3, .t (.c (.h 0))), (0, .t (lvsT r))]) (os := [some (pRow 0 r.length)]) (M := [3]) (n' := 1) (by repeat (first | exact trivial | refine ⟨rfl, rfl, ?_⟩)) (by rfl) (by simp only [go_sem, jE, reduceIte, jA, jM, jS, jL, jD, jB, t5, pE_r0, pE_a0]; first | done | rfl) (by decide) (by unfold idM; decide)) ?_
  refine Aw_loop_rw (ι := { j : Nat // j ≤ r.length }) (fun j => S [(4, .t (iT (j.1 : Nat))), (3, .t (.c (.h 0))), (0, .t (lvsT r))] (hpL (lvOs j.1 r)) (j.1 + 1)) (fun j => r.length - j.1) ⟨0, Nat.zero_le _⟩ ?_
  rintro ⟨i, hi⟩
  dsimp only
  by_cases hlt : i < r.length
  · have h1 : (i : Int) < (r.length : Int) := by omega
    have h2 := wrap_succ hlt (by omega)
    obtain ⟨e, hx⟩ : ∃ e, r[i]? = some e := ⟨_, List.getElem?_eq_getElem hlt⟩
    have kk := toEntrySR_ac e (he e (List.mem_of_getElem? hx))
    have g0 : hpL (lvOs i r) 0 = some (pRow i r.length) := rfl
    have g1 := pE_len hi
    have g2 := pE_get hlt
    have g3 := pE_set hlt
    have g4 : (0 = i + 1) = False := eq_false (by omega)
    repeat (first | apply Aw_seq | apply Aw_block | apply Aw_skip | apply Aw_exit | refine Aw_condt rfl ?_ | refine Aw_condf rfl ?_ | ((first | refine qr ?_ | refine qd (by kernel_rfl) (by kernel_rfl) ?_); simp only [go_sem, jE, reduceIte, jA, jM, jS, jL, jD, jB, h1, h2, hx, hlt, g0, g1, g2, g4, t0]) | refine dk (by kernel_rfl) ?_ | (refine qx (call_N (L := []) (kk) rfl (.cons (.nm rfl) (.nil)) (.inl rfl) rfl) (by simp only [go_sem, jE, reduceIte, jA, jM, jS, jL, jD, jB, h1, h2, hx, hlt, g0, g1, g2, g4, t0]; first | done | rfl) rfl (by simp only [go_sem, Nat.reduceLT]) ?_; simp only [go_sem, jE, reduceIte, jA, jM, jS, jL, jD, jB, h1, h2, hx, hlt, g0, g1, g2, g4, t0]))
    refine ⟨⟨i + 1, hlt⟩, _, ?_, rwOne (i := i) (N := i + 1 + 1 + 1 + 1 + 1 + 1 + 1 + 1 + 1 + 1 + 1) (by omega) (by repeat (first | exact trivial | refine ⟨rfl, ?_⟩)) (by simp [AV.bd, TV.bd, CV.bd]) (lvOs_rw hlt hx (by omega)) (Nat.le_refl _)⟩
    show r.length - (i + 1) < r.length - i; omega
  · have h1 : ¬ (i : Int) < (r.length : Int) := by omega
    obtain rfl : i = r.length := by omega
    repeat (first | apply Aw_seq | apply Aw_block | apply Aw_skip | apply Aw_exit | refine Aw_condt rfl ?_ | refine Aw_condf rfl ?_ | ((first | refine qr ?_ | refine qd (by kernel_rfl) (by kernel_rfl) ?_); simp only [go_sem, jE, reduceIte, jA, jM, jS, jL, jD, jB, h1]) | refine dk (by kernel_rfl) ?_)
    refine Aw_ret (retI (.inl rfl) rfl (by simp [AV.bd, TV.bd, CV.bd]) (fun m o hm => ⟨hm, ?_⟩) (Nat.zero_le _))
    have hg := hpL_get.1 hm
    refine ⟨by have := (List.getElem?_eq_some_iff.1 hg).1; rwa [lvOs_len (Nat.le_refl _)] at this, ?_⟩
    rcases m with _ | m
    · simp only [lvOs, List.getElem?_cons_zero, Option.some.injEq] at hg
      subst hg
      exact pE_all (by omega) (Nat.le_refl _)
    · simp only [lvOs, List.getElem?_cons_succ, List.getElem?_map] at hg
      obtain ⟨x, _, hx⟩ := Option.map_eq_some_iff.1 hg
      rw [← Option.some.inj hx]; exact bd_eRow _ _
inductive NilD : D → D → Prop
  | refl (x : D) : NilD x x
  | nil (k : Nat) : NilD (.s (.slice none 0 0)) (.rs k [])
  | rs {k : Nat} {els els' : List (List D)} (hl : els.length = els'.length) (hk : ∀ (i : Nat) cs cs', els[i]? = some cs → els'[i]? = some cs' → cs.length = cs'.length) (h : ∀ (i j : Nat) cs cs' x y, els[i]? = some cs → els'[i]? = some cs' → cs[j]? = some x → cs'[j]? = some y → NilD x y) : NilD (.rs k els) (.rs k els')
theorem NilD.rep {w : World} {S : Nat → Prop} {x y : D} (h : NilD x y) : ∀ {v : Value}, RepD w S x v → RepD w S y v := by
  induction h with
  | refl x => exact fun h => h
  | nil k =>
    intro v h
    cases h
    exact .rs (A := none) (cap := 0) (fun _ _ => .bool false) (Nat.le_refl _) (Nat.zero_le _) (by simp) (fun i j hi => absurd hi (by simp)) (fun i j cs x hi => by simp at hi)
  | @rs k els els' hl hk h ih =>
    intro v hv
    cases hv with
    | rs vals l1 l2 l3 l4 l5 =>
      rw [hl] at l1 ⊢
      refine .rs vals l1 l2 (fun cs' hcs => ?_) (fun i j hi hj => l4 i j (by omega) hj) (fun i j cs' y hi hj => ?_)
      · obtain ⟨i, hi⟩ := List.mem_iff_getElem?.1 hcs
        have hil := (List.getElem?_eq_some_iff.1 hi).1
        have h1 : els[i]? = some els[i] := List.getElem?_eq_getElem (by omega)
        rw [← hk i _ _ h1 hi]; exact l3 _ (List.mem_of_getElem? h1)
      · have hil := (List.getElem?_eq_some_iff.1 hi).1
        have h1 : els[i]? = some els[i] := List.getElem?_eq_getElem (by omega)
        have hjl := (List.getElem?_eq_some_iff.1 hj).1
        have h2 := hk i _ _ h1 hi
        have h3 : els[i][j]? = some (els[i][j]'(by omega)) := List.getElem?_eq_getElem (by omega)
        exact ih i j _ _ _ _ h1 hi h3 hj (l5 i j _ _ h1 h3)
def NilC (x y : CV) : Prop := x = y ∨ ∃ a b, x = .d a ∧ y = .d b ∧ NilD a b
def NilT : TV → TV → Prop
  | .c x, .c y => NilC x y
  | .agg xs, .agg ys => All2 NilC xs ys
  | _, _ => False
def NilA : AV → AV → Prop
  | .t x, .t y => NilT x y
  | .tup xs, .tup ys => All2 NilT xs ys
  | _, _ => False
theorem NilC.rep {c : Cx} {x y : CV} (h : NilC x y) {v : Value} (hr : RepC c x v) : RepC c y v := by
  rcases h with rfl | ⟨a, b, rfl, rfl, h⟩
  · exact hr
  · exact h.rep hr
theorem NilT.rep {c : Cx} {x y : TV} (h : NilT x y) {v : Value} (hr : RepT c x v) : RepT c y v := by
  cases x with
  | c x => cases y with
    | c y => exact NilC.rep h hr
    | agg _ => exact h.elim
  | agg xs => cases y with
    | c _ => exact h.elim
    | agg ys =>
      obtain ⟨vs, e, hv⟩ := hr
      exact ⟨vs, e, all2_rep (R := NilC) (T' := RepC c) (fun _ _ _ h1 h2 => NilC.rep h1 h2) h hv⟩
theorem NilA.rep {c : Cx} {x y : AV} (h : NilA x y) {v : Value} (hr : RepA c x v) : RepA c y v := by
  cases x with
  | dead => cases y <;> exact h.elim
  | t x => cases y with
    | t y => exact NilT.rep h hr
    | _ => exact h.elim
  | tup xs => cases y with
    | tup ys =>
      obtain ⟨vs, e, hv⟩ := hr
      exact ⟨vs, e, all2_rep (R := NilT) (T' := RepT c) (fun _ _ _ h1 h2 => NilT.rep h1 h2) h hv⟩
    | _ => exact h.elim
theorem AC.nilR {P : Program} {f : FuncId} {args : List TV} {hp hp' : Hp} {k n : Nat} {x y : AV} (h : AC P f args hp k ⟨x, hp', n⟩) (hx : NilA x y) : AC P f args hp k ⟨y, hp', n⟩ :=
  ⟨h.1, fun c vs g hU hA => Calls.mono (h.2 c vs g hU hA) fun e w' ⟨v, c', h1, h2, h3, h4, h5, h6⟩ => ⟨v, c', h1, h2, h3, h4, hx.rep h5, h6⟩⟩
theorem AC.nilL {P : Program} {f : FuncId} {args args' : List TV} {hp : Hp} {k : Nat} {out : Out} (h : AC P f args' hp k out) (hx : All2 NilT args args') : AC P f args hp k out :=
  ⟨h.1, fun c vs g hU hA => h.2 c vs g hU (all2_rep (R := NilT) (T' := RepT c) (fun _ _ _ h1 h2 => NilT.rep h1 h2) hx hA)⟩
theorem NilT.refl (x : TV) : NilT x x := by
  cases x with
  | c x => exact .inl rfl
  | agg xs => exact All2.of_get rfl fun i a b ha hb => by rw [ha] at hb; exact .inl (Option.some.inj hb)
theorem NilC.nil (k : Nat) : NilC (.d (.s (.slice none 0 0))) (.d (.rs k [])) := .inr ⟨_, _, rfl, rfl, .nil k⟩
theorem iref (a : Int) : decide (a = a) = true := decide_eq_true rfl
theorem sref (a : ByteArray) : decide (a = a) = true := decide_eq_true rfl
theorem bref (a : Bool) : (a == a) = true := by cases a <;> rfl
theorem eqEntry_ac (e : Ent) : AC Try.prog 53 [entT e, entT e] noHp 0 ⟨.t (bT true), noHp, 0⟩ := by
  refine AC_of Try.func53 rfl Try.ntmps53 Try.results53 (by kernel_rfl) rfl ?_
  simp only [List.zipIdx, List.map, Nat.zero_add, Nat.reduceAdd]
  repeat (first | apply Aw_seq | apply Aw_block | apply Aw_skip | apply Aw_exit | refine Aw_condt rfl ?_ | refine Aw_condf rfl ?_ | ((first | refine qr ?_ | refine qd (by kernel_rfl) (by kernel_rfl) ?_); simp only [go_sem, jE, reduceIte, jA, jM, jS, jL, jD, jB, iref, sref, bref]) | refine dk (by kernel_rfl) ?_)
  exact Aw_ret (ret0 (.inl rfl) (by simp only [go_sem, jE, reduceIte, jA, jM, jS, jL, jD, jB]; rfl) (by rfl) rfl)
theorem eqEntryS_ac (r : List Ent) (hl : r.length ≤ 1099511627776) : AC Try.prog 27 [runT r, runT r] noHp 0 ⟨.t (bT true), noHp, 0⟩ := by
  refine AC_of Try.func27 rfl Try.ntmps27 Try.results27 (by kernel_rfl) rfl ?_
  simp only [List.zipIdx, List.map, Nat.zero_add, Nat.reduceAdd]
  repeat (first | apply Aw_seq | apply Aw_block | apply Aw_skip | apply Aw_exit | refine Aw_condt rfl ?_ | refine Aw_condf rfl ?_ | ((first | refine qr ?_ | refine qd (by kernel_rfl) (by kernel_rfl) ?_); simp only [go_sem, jE, reduceIte, jA, jM, jS, jL, jD, jB, iref]) | refine dk (by kernel_rfl) ?_)
  refine Aw.rw (rw0 (l' := [(5, .t (iT (0 : Nat))), (1, .t (runT r)), (0, .t (runT r))]) (n' := 0) (by repeat (first | exact trivial | refine ⟨rfl, rfl, ?_⟩))) ?_
  refine Aw_loop0 (ι := { i : Nat // i ≤ r.length ∧ (True) }) (fun q => [(5, .t (iT (q.1 : Nat))), (1, .t (runT r)), (0, .t (runT r))]) (fun q => r.length - q.1) ⟨0, Nat.zero_le _, trivial⟩ ?_
  rintro ⟨i, hi, hp⟩
  dsimp only
  by_cases hlt : i < r.length
  · have h1 : (i : Int) < (r.length : Int) := by omega
    have h2 := wrap_succ hlt hl
    obtain ⟨e, hx⟩ : ∃ e, r[i]? = some e := ⟨_, List.getElem?_eq_getElem hlt⟩
    repeat (first | apply Aw_seq | apply Aw_block | apply Aw_skip | apply Aw_exit | refine Aw_condt rfl ?_ | refine Aw_condf rfl ?_ | ((first | refine qr ?_ | refine qd (by kernel_rfl) (by kernel_rfl) ?_); simp only [go_sem, jE, reduceIte, jA, jM, jS, jL, jD, jB, h1, h2, hx, iref, sref, bref]) | refine dk (by kernel_rfl) ?_ | (refine qp (eqEntry_ac e) (by simp only [go_sem, jE, reduceIte, jA, jM, jS, jL, jD, jB, h1, h2, hx, iref, sref, bref]; first | done | rfl) rfl (by simp only [go_sem, Nat.reduceLT]) rfl rfl ?_; simp only [go_sem, jE, reduceIte, jA, jM, jS, jL, jD, jB, h1, h2, hx, iref, sref, bref]))
    exact ⟨⟨i + 1, by omega, trivial⟩, (by simp only []; omega), rw0 (by repeat (first | exact trivial | refine ⟨rfl, rfl, ?_⟩))⟩
  · have h1 : ¬ (i : Int) < (r.length : Int) := by omega
    repeat (first | apply Aw_seq | apply Aw_block | apply Aw_skip | apply Aw_exit | refine Aw_condt rfl ?_ | refine Aw_condf rfl ?_ | ((first | refine qr ?_ | refine qd (by kernel_rfl) (by kernel_rfl) ?_); simp only [go_sem, jE, reduceIte, jA, jM, jS, jL, jD, jB, h1]) | refine dk (by kernel_rfl) ?_)
    exact Aw_ret (ret0 (.inl rfl) (by simp only [go_sem, jE, reduceIte, jA, jM, jS, jL, jD, jB]; rfl) (by rfl) rfl)
theorem eqEntrySS_ac (r : List (List Ent)) (hl : r.length ≤ 1099511627776) (he : ∀ e ∈ r, e.length ≤ 1099511627776) : AC Try.prog 28 [lvsT r, lvsT r] noHp 0 ⟨.t (bT true), noHp, 0⟩ := by
  refine AC_of Try.func28 rfl Try.ntmps28 Try.results28 (by kernel_rfl) rfl ?_
  simp only [List.zipIdx, List.map, Nat.zero_add, Nat.reduceAdd]
  repeat (first | apply Aw_seq | apply Aw_block | apply Aw_skip | apply Aw_exit | refine Aw_condt rfl ?_ | refine Aw_condf rfl ?_ | ((first | refine qr ?_ | refine qd (by kernel_rfl) (by kernel_rfl) ?_); simp only [go_sem, jE, reduceIte, jA, jM, jS, jL, jD, jB, iref]) | refine dk (by kernel_rfl) ?_)
  refine Aw.rw (rw0 (l' := [(5, .t (iT (0 : Nat))), (1, .t (lvsT r)), (0, .t (lvsT r))]) (n' := 0) (by repeat (first | exact trivial | refine ⟨rfl, rfl, ?_⟩))) ?_
  refine Aw_loop0 (ι := { i : Nat // i ≤ r.length ∧ (True) }) (fun q => [(5, .t (iT (q.1 : Nat))), (1, .t (lvsT r)), (0, .t (lvsT r))]) (fun q => r.length - q.1) ⟨0, Nat.zero_le _, trivial⟩ ?_
  rintro ⟨i, hi, hp⟩
  dsimp only
  by_cases hlt : i < r.length
  · have h1 : (i : Int) < (r.length : Int) := by omega
    have h2 := wrap_succ hlt hl
    obtain ⟨e, hx⟩ : ∃ e, r[i]? = some e := ⟨_, List.getElem?_eq_getElem hlt⟩
    repeat (first | apply Aw_seq | apply Aw_block | apply Aw_skip | apply Aw_exit | refine Aw_condt rfl ?_ | refine Aw_condf rfl ?_ | ((first | refine qr ?_ | refine qd (by kernel_rfl) (by kernel_rfl) ?_); simp only [go_sem, jE, reduceIte, jA, jM, jS, jL, jD, jB, h1, h2, hx, iref, sref, bref]) | refine dk (by kernel_rfl) ?_ | (refine qp (eqEntryS_ac e (he e (List.mem_of_getElem? hx))) (by simp only [go_sem, jE, reduceIte, jA, jM, jS, jL, jD, jB, h1, h2, hx, iref, sref, bref]; first | done | rfl) rfl (by simp only [go_sem, Nat.reduceLT]) rfl rfl ?_; simp only [go_sem, jE, reduceIte, jA, jM, jS, jL, jD, jB, h1, h2, hx, iref, sref, bref]))
    exact ⟨⟨i + 1, by omega, trivial⟩, (by simp only []; omega), rw0 (by repeat (first | exact trivial | refine ⟨rfl, rfl, ?_⟩))⟩
  · have h1 : ¬ (i : Int) < (r.length : Int) := by omega
    repeat (first | apply Aw_seq | apply Aw_block | apply Aw_skip | apply Aw_exit | refine Aw_condt rfl ?_ | refine Aw_condf rfl ?_ | ((first | refine qr ?_ | refine qd (by kernel_rfl) (by kernel_rfl) ?_); simp only [go_sem, jE, reduceIte, jA, jM, jS, jL, jD, jB, h1]) | refine dk (by kernel_rfl) ?_)
    exact Aw_ret (ret0 (.inl rfl) (by simp only [go_sem, jE, reduceIte, jA, jM, jS, jL, jD, jB]; rfl) (by rfl) rfl)
theorem eqStringS_ac (r : List ByteArray) (hl : r.length ≤ 1099511627776) : AC Try.prog 83 [strsT r, strsT r] noHp 0 ⟨.t (bT true), noHp, 0⟩ := by
  refine AC_of Try.func83 rfl Try.ntmps83 Try.results83 (by kernel_rfl) rfl ?_
  simp only [List.zipIdx, List.map, Nat.zero_add, Nat.reduceAdd]
  repeat (first | apply Aw_seq | apply Aw_block | apply Aw_skip | apply Aw_exit | refine Aw_condt rfl ?_ | refine Aw_condf rfl ?_ | ((first | refine qr ?_ | refine qd (by kernel_rfl) (by kernel_rfl) ?_); simp only [go_sem, jE, reduceIte, jA, jM, jS, jL, jD, jB, iref]) | refine dk (by kernel_rfl) ?_)
  refine Aw.rw (rw0 (l' := [(5, .t (iT (0 : Nat))), (1, .t (strsT r)), (0, .t (strsT r))]) (n' := 0) (by repeat (first | exact trivial | refine ⟨rfl, rfl, ?_⟩))) ?_
  refine Aw_loop0 (ι := { i : Nat // i ≤ r.length ∧ (True) }) (fun q => [(5, .t (iT (q.1 : Nat))), (1, .t (strsT r)), (0, .t (strsT r))]) (fun q => r.length - q.1) ⟨0, Nat.zero_le _, trivial⟩ ?_
  rintro ⟨i, hi, hp⟩
  dsimp only
  by_cases hlt : i < r.length
  · have h1 : (i : Int) < (r.length : Int) := by omega
    have h2 := wrap_succ hlt hl
    obtain ⟨e, hx⟩ : ∃ e, r[i]? = some e := ⟨_, List.getElem?_eq_getElem hlt⟩
    repeat (first | apply Aw_seq | apply Aw_block | apply Aw_skip | apply Aw_exit | refine Aw_condt rfl ?_ | refine Aw_condf rfl ?_ | ((first | refine qr ?_ | refine qd (by kernel_rfl) (by kernel_rfl) ?_); simp only [go_sem, jE, reduceIte, jA, jM, jS, jL, jD, jB, h1, h2, hx, iref, sref, bref]) | refine dk (by kernel_rfl) ?_)
    exact ⟨⟨i + 1, by omega, trivial⟩, (by simp only []; omega), rw0 (by repeat (first | exact trivial | refine ⟨rfl, rfl, ?_⟩))⟩
  · have h1 : ¬ (i : Int) < (r.length : Int) := by omega
    repeat (first | apply Aw_seq | apply Aw_block | apply Aw_skip | apply Aw_exit | refine Aw_condt rfl ?_ | refine Aw_condf rfl ?_ | ((first | refine qr ?_ | refine qd (by kernel_rfl) (by kernel_rfl) ?_); simp only [go_sem, jE, reduceIte, jA, jM, jS, jL, jD, jB, h1]) | refine dk (by kernel_rfl) ?_)
    exact Aw_ret (ret0 (.inl rfl) (by simp only [go_sem, jE, reduceIte, jA, jM, jS, jL, jD, jB]; rfl) (by rfl) rfl)
theorem eqSieve_ac (s : Sve) (hl : s.rests.length ≤ 1099511627776) : AC Try.prog 54 [sveP s, sveP s] noHp 0 ⟨.t (bT true), noHp, 0⟩ := by
  refine AC_of Try.func54 rfl Try.ntmps54 Try.results54 (by kernel_rfl) rfl ?_
  simp only [List.zipIdx, List.map, Nat.zero_add, Nat.reduceAdd]
  repeat (first | apply Aw_seq | apply Aw_block | apply Aw_skip | apply Aw_exit | refine Aw_condt rfl ?_ | refine Aw_condf rfl ?_ | ((first | refine qr ?_ | refine qd (by kernel_rfl) (by kernel_rfl) ?_); simp only [go_sem, jE, reduceIte, jA, jM, jS, jL, jD, jB, iref, sref, bref]) | refine dk (by kernel_rfl) ?_ | (refine qp (eqStringS_ac s.rests hl) (by simp only [go_sem, jE, reduceIte, jA, jM, jS, jL, jD, jB, iref, sref, bref]; first | done | rfl) rfl (by simp only [go_sem, Nat.reduceLT]) rfl rfl ?_; simp only [go_sem, jE, reduceIte, jA, jM, jS, jL, jD, jB, iref, sref, bref]))
  exact Aw_ret (ret0 (.inl rfl) (by simp only [go_sem, jE, reduceIte, jA, jM, jS, jL, jD, jB]; rfl) (by rfl) rfl)
theorem eqSieveS_ac (r : List Sve) (hl : r.length ≤ 1099511627776) (he : ∀ e ∈ r, e.rests.length ≤ 1099511627776) : AC Try.prog 29 [svsT r, svsT r] noHp 0 ⟨.t (bT true), noHp, 0⟩ := by
  refine AC_of Try.func29 rfl Try.ntmps29 Try.results29 (by kernel_rfl) rfl ?_
  simp only [List.zipIdx, List.map, Nat.zero_add, Nat.reduceAdd]
  repeat (first | apply Aw_seq | apply Aw_block | apply Aw_skip | apply Aw_exit | refine Aw_condt rfl ?_ | refine Aw_condf rfl ?_ | ((first | refine qr ?_ | refine qd (by kernel_rfl) (by kernel_rfl) ?_); simp only [go_sem, jE, reduceIte, jA, jM, jS, jL, jD, jB, iref]) | refine dk (by kernel_rfl) ?_)
  refine Aw.rw (rw0 (l' := [(5, .t (iT (0 : Nat))), (1, .t (svsT r)), (0, .t (svsT r))]) (n' := 0) (by repeat (first | exact trivial | refine ⟨rfl, rfl, ?_⟩))) ?_
  refine Aw_loop0 (ι := { i : Nat // i ≤ r.length ∧ (True) }) (fun q => [(5, .t (iT (q.1 : Nat))), (1, .t (svsT r)), (0, .t (svsT r))]) (fun q => r.length - q.1) ⟨0, Nat.zero_le _, trivial⟩ ?_
  rintro ⟨i, hi, hp⟩
  dsimp only
  by_cases hlt : i < r.length
  · have h1 : (i : Int) < (r.length : Int) := by omega
    have h2 := wrap_succ hlt hl
    obtain ⟨e, hx⟩ : ∃ e, r[i]? = some e := ⟨_, List.getElem?_eq_getElem hlt⟩
    repeat (first | apply Aw_seq | apply Aw_block | apply Aw_skip | apply Aw_exit | refine Aw_condt rfl ?_ | refine Aw_condf rfl ?_ | ((first | refine qr ?_ | refine qd (by kernel_rfl) (by kernel_rfl) ?_); simp only [go_sem, jE, reduceIte, jA, jM, jS, jL, jD, jB, h1, h2, hx, iref, sref, bref]) | refine dk (by kernel_rfl) ?_ | (refine qp (eqSieve_ac e (he e (List.mem_of_getElem? hx))) (by simp only [go_sem, jE, reduceIte, jA, jM, jS, jL, jD, jB, h1, h2, hx, iref, sref, bref]; first | done | rfl) rfl (by simp only [go_sem, Nat.reduceLT]) rfl rfl ?_; simp only [go_sem, jE, reduceIte, jA, jM, jS, jL, jD, jB, h1, h2, hx, iref, sref, bref]))
    exact ⟨⟨i + 1, by omega, trivial⟩, (by simp only []; omega), rw0 (by repeat (first | exact trivial | refine ⟨rfl, rfl, ?_⟩))⟩
  · have h1 : ¬ (i : Int) < (r.length : Int) := by omega
    repeat (first | apply Aw_seq | apply Aw_block | apply Aw_skip | apply Aw_exit | refine Aw_condt rfl ?_ | refine Aw_condf rfl ?_ | ((first | refine qr ?_ | refine qd (by kernel_rfl) (by kernel_rfl) ?_); simp only [go_sem, jE, reduceIte, jA, jM, jS, jL, jD, jB, h1]) | refine dk (by kernel_rfl) ?_)
    exact Aw_ret (ret0 (.inl rfl) (by simp only [go_sem, jE, reduceIte, jA, jM, jS, jL, jD, jB]; rfl) (by rfl) rfl)
theorem eqIntS_ac (r : List Int) (hl : r.length ≤ 1099511627776) : AC Try.prog 30 [intsT r, intsT r] noHp 0 ⟨.t (bT true), noHp, 0⟩ := by
  refine AC_of Try.func30 rfl Try.ntmps30 Try.results30 (by kernel_rfl) rfl ?_
  simp only [List.zipIdx, List.map, Nat.zero_add, Nat.reduceAdd]
  repeat (first | apply Aw_seq | apply Aw_block | apply Aw_skip | apply Aw_exit | refine Aw_condt rfl ?_ | refine Aw_condf rfl ?_ | ((first | refine qr ?_ | refine qd (by kernel_rfl) (by kernel_rfl) ?_); simp only [go_sem, jE, reduceIte, jA, jM, jS, jL, jD, jB, iref]) | refine dk (by kernel_rfl) ?_)
  refine Aw.rw (rw0 (l' := [(5, .t (iT (0 : Nat))), (1, .t (intsT r)), (0, .t (intsT r))]) (n' := 0) (by repeat (first | exact trivial | refine ⟨rfl, rfl, ?_⟩))) ?_
  refine Aw_loop0 (ι := { i : Nat // i ≤ r.length ∧ (True) }) (fun q => [(5, .t (iT (q.1 : Nat))), (1, .t (intsT r)), (0, .t (intsT r))]) (fun q => r.length - q.1) ⟨0, Nat.zero_le _, trivial⟩ ?_
  rintro ⟨i, hi, hp⟩
  dsimp only
  by_cases hlt : i < r.length
  · have h1 : (i : Int) < (r.length : Int) := by omega
    have h2 := wrap_succ hlt hl
    obtain ⟨e, hx⟩ : ∃ e, r[i]? = some e := ⟨_, List.getElem?_eq_getElem hlt⟩
    repeat (first | apply Aw_seq | apply Aw_block | apply Aw_skip | apply Aw_exit | refine Aw_condt rfl ?_ | refine Aw_condf rfl ?_ | ((first | refine qr ?_ | refine qd (by kernel_rfl) (by kernel_rfl) ?_); simp only [go_sem, jE, reduceIte, jA, jM, jS, jL, jD, jB, h1, h2, hx, iref, sref, bref]) | refine dk (by kernel_rfl) ?_)
    exact ⟨⟨i + 1, by omega, trivial⟩, (by simp only []; omega), rw0 (by repeat (first | exact trivial | refine ⟨rfl, rfl, ?_⟩))⟩
  · have h1 : ¬ (i : Int) < (r.length : Int) := by omega
    repeat (first | apply Aw_seq | apply Aw_block | apply Aw_skip | apply Aw_exit | refine Aw_condt rfl ?_ | refine Aw_condf rfl ?_ | ((first | refine qr ?_ | refine qd (by kernel_rfl) (by kernel_rfl) ?_); simp only [go_sem, jE, reduceIte, jA, jM, jS, jL, jD, jB, h1]) | refine dk (by kernel_rfl) ?_)
    exact Aw_ret (ret0 (.inl rfl) (by simp only [go_sem, jE, reduceIte, jA, jM, jS, jL, jD, jB]; rfl) (by rfl) rfl)
structure farT (s : Sto) : Prop where
  top : s.top.length ≤ 1099511627776
  ll : s.levels.length ≤ 1099511627776
  levels : ∀ e ∈ s.levels, e.length ≤ 1099511627776
  sl : s.sieves.length ≤ 1099511627776
  sieves : ∀ e ∈ s.sieves, e.rests.length ≤ 1099511627776
  times : s.times.length ≤ 1099511627776
theorem midT.far {s : Sto} (h : midT s) : farT s := ⟨by have := h.top; omega, by have := h.ll; omega, fun e he => by have := h.levels e he; omega, by have := h.sl; omega, fun e he => by have := h.sieves e he; omega, by have := h.times; omega⟩
theorem eqStore_ac (s : Sto) (h : farT s) : AC Try.prog 9 [stT s, stT s] noHp 0 ⟨.t (bT true), noHp, 0⟩ := by
  refine AC_of Try.func9 rfl Try.ntmps9 Try.results9 (by kernel_rfl) rfl ?_
  simp only [List.zipIdx, List.map, Nat.zero_add, Nat.reduceAdd]
  repeat (first | apply Aw_seq | apply Aw_block | apply Aw_skip | apply Aw_exit | refine Aw_condt rfl ?_ | refine Aw_condf rfl ?_ | ((first | refine qr ?_ | refine qd (by kernel_rfl) (by kernel_rfl) ?_); simp only [go_sem, jE, reduceIte, jA, jM, jS, jL, jD, jB, iref, sref, bref]) | refine dk (by kernel_rfl) ?_ | (refine qp (eqEntryS_ac s.top h.top) (by simp only [go_sem, jE, reduceIte, jA, jM, jS, jL, jD, jB, iref, sref, bref]; first | done | rfl) rfl (by simp only [go_sem, Nat.reduceLT]) rfl rfl ?_; simp only [go_sem, jE, reduceIte, jA, jM, jS, jL, jD, jB, iref, sref, bref]) | (refine qp (eqEntrySS_ac s.levels h.ll h.levels) (by simp only [go_sem, jE, reduceIte, jA, jM, jS, jL, jD, jB, iref, sref, bref]; first | done | rfl) rfl (by simp only [go_sem, Nat.reduceLT]) rfl rfl ?_; simp only [go_sem, jE, reduceIte, jA, jM, jS, jL, jD, jB, iref, sref, bref]) | (refine qp (eqSieveS_ac s.sieves h.sl h.sieves) (by simp only [go_sem, jE, reduceIte, jA, jM, jS, jL, jD, jB, iref, sref, bref]; first | done | rfl) rfl (by simp only [go_sem, Nat.reduceLT]) rfl rfl ?_; simp only [go_sem, jE, reduceIte, jA, jM, jS, jL, jD, jB, iref, sref, bref]) | (refine qp (eqIntS_ac s.times h.times) (by simp only [go_sem, jE, reduceIte, jA, jM, jS, jL, jD, jB, iref, sref, bref]; first | done | rfl) rfl (by simp only [go_sem, Nat.reduceLT]) rfl rfl ?_; simp only [go_sem, jE, reduceIte, jA, jM, jS, jL, jD, jB, iref, sref, bref]))
  exact Aw_ret (ret0 (.inl rfl) (by simp only [go_sem, jE, reduceIte, jA, jM, jS, jL, jD, jB]; rfl) (by rfl) rfl)
theorem wS_mem {α : Type} {f : α → Nat} {xs : List α} {x : α} (h : x ∈ xs) : f x ≤ wS f xs := by
  unfold wS
  have : ∀ ys : List Nat, ∀ y ∈ ys, y ≤ ys.sum := fun ys => by
    induction ys with
    | nil => intro y hy; simp at hy
    | cons a r ih => intro y hy; rcases List.mem_cons.1 hy with rfl | hy; simp; have := ih y hy; simp; omega
  have := this (xs.map f) (f x) (List.mem_map.2 ⟨x, h, rfl⟩)
  omega
theorem wS_len {α : Type} {f : α → Nat} {xs : List α} : xs.length ≤ wS f xs := by unfold wS; omega
theorem wRun_smR {r : List Ent} {n : Nat} (h : wRun r ≤ n) (hn : n ≤ 1048576) : SmR r := ⟨by have := wS_len (f := wEnt) (xs := r); unfold wRun at h; omega, fun e he => by have := wS_mem (f := wEnt) he; unfold wRun at h; unfold wEnt at this; unfold smK; unfold wEnt at h; omega⟩
theorem w_mid {s : Sto} (h : wSto s ≤ 1048576) : midT s := by
  unfold wSto at h
  refine ⟨?_, ?_, fun e he => ?_, ?_, fun e he => ?_, ?_⟩
  · have := wS_len (f := wEnt) (xs := s.top); unfold wRun at h; omega
  · have := wS_len (f := wRun) (xs := s.levels); omega
  · have := wS_mem (f := wRun) he; have h2 := wS_len (f := wEnt) (xs := e); unfold wRun at this h; omega
  · have := wS_len (f := wSve) (xs := s.sieves); omega
  · have := wS_mem (f := wSve) he; have h2 := wS_len (f := ByteArray.size) (xs := e.rests); unfold wSve at this h; omega
  · omega
def digB (x : Nat) : ByteArray := ByteArray.empty.push (UInt8.ofNat (IntKind.u8.wrap (IntKind.i64.wrap (48 + Int.tmod (x : Int) 10))).toNat)
theorem digB_size (x : Nat) : (digB x).size = 1 := rfl
def markG (x : Nat) (s : ByteArray) : ByteArray := if h : 0 < x then markG (x / 10) (digB x ++ s) else s
termination_by x
decreasing_by omega
def mTxt : ByteArray := bs [109]
def m0Txt : ByteArray := bs [109, 48]
def markT (x : Nat) : ByteArray := if x = 0 then m0Txt else mTxt ++ markG x ByteArray.empty
theorem ten0 : ((10 : Int) = 0) = False := eq_false (by decide)
theorem three0 : ((3 : Int) = 0) = False := eq_false (by decide)
theorem markText_ac (k : Nat) (hk : k ≤ 1099511627776) : AC Try.prog 55 [iT k] noHp 0 ⟨.t (sT (markT k)), noHp, 0⟩ := by
  refine AC_of Try.func55 rfl Try.ntmps55 Try.results55 (by kernel_rfl) rfl ?_
  simp only [List.zipIdx, List.map, Nat.zero_add, Nat.reduceAdd]
  by_cases h0 : k = 0
  · subst h0
    have h1 : ((0 : Nat) : Int) ≤ 0 := by omega
    repeat (first | apply Aw_seq | apply Aw_block | apply Aw_skip | apply Aw_exit | refine Aw_condt rfl ?_ | refine Aw_condf rfl ?_ | ((first | refine qr ?_ | refine qd (by kernel_rfl) (by kernel_rfl) ?_); simp only [go_sem, jE, reduceIte, jA, jM, jS, jL, jD, jB, h1]) | refine dk (by kernel_rfl) ?_)
    exact Aw_ret (ret0 (.inl rfl) (by simp only [go_sem, jE, reduceIte, jA, jM, jS, jL, jD, jB]; rfl) (by rfl) rfl)
  have h1 : ¬ ((k : Int) ≤ 0) := by omega
  repeat (first | apply Aw_seq | apply Aw_block | apply Aw_skip | apply Aw_exit | refine Aw_condt rfl ?_ | refine Aw_condf rfl ?_ | ((first | refine qr ?_ | refine qd (by kernel_rfl) (by kernel_rfl) ?_); simp only [go_sem, jE, reduceIte, jA, jM, jS, jL, jD, jB, h1]) | refine dk (by kernel_rfl) ?_)
  refine Aw.rw (rwL (l' := [(3, .t (sT ByteArray.empty)), (0, .t (iT (k : Nat)))]) (os := []) (M := []) (n' := 0) (by repeat (first | exact trivial | refine ⟨rfl, rfl, ?_⟩)) (by rfl) (by simp only [go_sem, jE, reduceIte, jA, jM, jS, jL, jD, jB]; first | done | rfl) (by decide) (by unfold idM; decide)) ?_
  refine Aw_loop_rw (ι := { p : Nat × ByteArray // p.1 ≤ 1099511627776 ∧ p.2.size + p.1 ≤ 1099511627776 ∧ mTxt ++ markG p.1 p.2 = markT k }) (fun p => S [(3, .t (sT p.1.2)), (0, .t (iT (p.1.1 : Nat)))] (hpL []) 0) (fun p => p.1.1) ⟨(k, ByteArray.empty), hk, by simpa using hk, by unfold markT; rw [if_neg h0]⟩ ?_
  rintro ⟨⟨x, s⟩, hx, hs, he⟩
  dsimp only at hx hs he ⊢
  by_cases hp : 0 < x
  · have g1 : decide ((0 : Int) < (x : Int)) = true := decide_eq_true (by omega)
    have g2 : zs.push (UInt8.ofNat (IntKind.u8.wrap (IntKind.i64.wrap (48 + (x : Int).tmod 10))).toNat) = digB x := rfl
    have g3 : IntKind.i64.wrap ((x : Int).tdiv 10) = ((x / 10 : Nat) : Int) := by
      rw [show (x : Int).tdiv 10 = ((x / 10 : Nat) : Int) from rfl]; exact wrap_nat (by omega)
    have g4 : ((digB x).size + s.size ≤ 9223372036854775807) = True := eq_true (by rw [digB_size]; omega)
    have he2 : mTxt ++ markG (x / 10) (digB x ++ s) = markT k := by
      rw [← he]
      conv => rhs; rw [markG]
      rw [dif_pos hp]
    have hs2 : (digB x ++ s).size = 1 + s.size := by rw [ByteArray.size_append, digB_size]
    repeat (first | apply Aw_seq | apply Aw_block | apply Aw_skip | apply Aw_exit | refine Aw_condt rfl ?_ | refine Aw_condf rfl ?_ | ((first | refine qr ?_ | refine qd (by kernel_rfl) (by kernel_rfl) ?_); simp only [go_sem, jE, reduceIte, jA, jM, jS, jL, jD, jB, g1, g2, g3, g4, ten0]) | refine dk (by kernel_rfl) ?_)
    refine ⟨⟨(x / 10, digB x ++ s), by dsimp only; omega, by dsimp only; omega, he2⟩, [], ?_, rwL (by repeat (first | exact trivial | refine ⟨rfl, rfl, ?_⟩)) (by rfl) (by simp only [go_sem, jE, reduceIte, jA, jM, jS, jL, jD, jB]; first | done | rfl) (by decide) (by unfold idM; decide)⟩
    show x / 10 < x; omega
  · have g1 : decide ((0 : Int) < (x : Int)) = false := decide_eq_false (by omega)
    have g3 : markG x s = s := by rw [markG, dif_neg hp]
    rw [g3] at he
    have g4 : (1 + s.size ≤ 9223372036854775807) = True := eq_true (by omega)
    rw [← he]
    unfold mTxt
    repeat (first | apply Aw_seq | apply Aw_block | apply Aw_skip | apply Aw_exit | refine Aw_condt rfl ?_ | refine Aw_condf rfl ?_ | ((first | refine qr ?_ | refine qd (by kernel_rfl) (by kernel_rfl) ?_); simp only [go_sem, jE, reduceIte, jA, jM, jS, jL, jD, jB, g1, g4]) | refine dk (by kernel_rfl) ?_)
    exact Aw_ret (ret0 (.inl rfl) (by simp only [go_sem, jE, reduceIte, jA, jM, jS, jL, jD, jB]; rfl) (by rfl) rfl)
/-- What has been marked, i elements of it. -/
def mkD {α : Type} (f : α → List D) (m : Nat → α) (xs : List α) (i : Nat) : List (List D) := (List.range i).map (fun j => f (m j)) ++ (xs.drop i).map f
theorem mkD_0 {α : Type} (f : α → List D) (m : Nat → α) (xs : List α) : mkD f m xs 0 = xs.map f := by simp [mkD]
theorem mkD_end {α : Type} (f : α → List D) (m : Nat → α) (xs : List α) : mkD f m xs xs.length = ((List.range xs.length).map m).map f := by simp [mkD]
theorem mkD_ln {α : Type} (f : α → List D) (m : Nat → α) (xs : List α) {i : Nat} (h : i ≤ xs.length) : (mkD f m xs i).length = xs.length := by simp [mkD]; omega
theorem mkD_get {α : Type} (f : α → List D) (m : Nat → α) {xs : List α} {i : Nat} {x : α} (h : xs[i]? = some x) : ((mkD f m xs i).map (·.map CV.d))[i]? = some ((f x).map .d) := by
  unfold mkD
  rw [List.getElem?_map, List.getElem?_append_right (by simp), List.getElem?_map]
  simp [List.getElem?_drop, h]
theorem mkD_set {α : Type} (f : α → List D) (m : Nat → α) {xs : List α} {i : Nat} (h : i < xs.length) : ((mkD f m xs i).map (·.map CV.d)).set i ((f (m i)).map .d) = (mkD f m xs (i + 1)).map (·.map .d) := by
  unfold mkD
  rw [List.drop_eq_getElem_cons h, List.range_succ]
  simp only [List.map_append, List.map_cons, List.map_nil, List.append_assoc]
  rw [List.set_append_right _ _ (by simp)]
  simp
theorem set_get {α : Type} {L : List α} {i : Nat} (h : i < L.length) (c : α) : (L.set i c)[i]? = some c := by rw [List.getElem?_set_self h]
def mStrs (k n : Nat) : List ByteArray := (List.range n).map fun j => markT (k + j)
theorem markStringS_ac (r : List ByteArray) (k : Nat) (hk : k + r.length ≤ 1099511627776) : AC Try.prog 56 [.c (.h 0), iT k] (hpL [some (dRow 9 1 (r.map strD))]) 1 ⟨.t (iT ((k + r.length : Nat) : Int)), hpL [some (dRow 9 1 ((mStrs k r.length).map strD))], 1⟩ := by
  refine AC_of Try.func56 rfl Try.ntmps56 Try.results56 (by kernel_rfl) rfl ?_
  simp only [List.zipIdx, List.map, Nat.zero_add, Nat.reduceAdd]
  repeat (first | apply Aw_seq | apply Aw_block | apply Aw_skip | apply Aw_exit | refine Aw_condt rfl ?_ | refine Aw_condf rfl ?_ | ((first | refine qr ?_ | refine qd (by kernel_rfl) (by kernel_rfl) ?_); simp only [go_sem, jE, reduceIte, jA, jM, jS, jL, jD, jB]) | refine dk (by kernel_rfl) ?_)
  refine Aw.rw (rwL (l' := [(5, .t (iT (0 : Nat))), (1, .t (iT ((k + 0 : Nat) : Int))), (0, .t (.c (.h 0)))]) (os := [some (dRow 9 1 (mkD strD (fun j => markT (k + j)) r 0))]) (M := [0]) (n' := 1) (by repeat (first | exact trivial | refine ⟨rfl, rfl, ?_⟩)) (by rfl) (by simp only [go_sem, jE, reduceIte, jA, jM, jS, jL, jD, jB, mkD_0]; first | done | rfl) (by decide) (by unfold idM; decide)) ?_
  refine Aw_loop_rw (ι := { j : Nat // j ≤ r.length }) (fun j => S [(5, .t (iT (j.1 : Nat))), (1, .t (iT ((k + j.1 : Nat) : Int))), (0, .t (.c (.h 0)))] (hpL [some (dRow 9 1 (mkD strD (fun j => markT (k + j)) r j.1))]) 1) (fun j => r.length - j.1) ⟨0, Nat.zero_le _⟩ ?_
  rintro ⟨i, hi⟩
  dsimp only
  have g0 := mkD_ln strD (fun j => markT (k + j)) r hi
  by_cases hlt : i < r.length
  · have h1 : (i : Int) < (r.length : Int) := by omega
    have h2 := wrap_succ hlt (by omega)
    have h3 : IntKind.i64.wrap (((k + i : Nat) : Int) + 1) = ((k + (i + 1) : Nat) : Int) := wrap_succ (m := k + i + 1) (by omega) (by omega)
    obtain ⟨e, hx⟩ : ∃ e, r[i]? = some e := ⟨_, List.getElem?_eq_getElem hlt⟩
    have g2 := mkD_get strD (fun j => markT (k + j)) hx
    have g3 := mkD_set strD (fun j => markT (k + j)) hlt
    simp only [strD, List.map] at g2
    rw [show (((strD (markT (k + i))).map CV.d)) = [.d (.s (.string (markT (k + i))))] from rfl] at g3
    have km := markText_ac (k + i) (by omega)
    repeat (first | apply Aw_seq | apply Aw_block | apply Aw_skip | apply Aw_exit | refine Aw_condt rfl ?_ | refine Aw_condf rfl ?_ | ((first | refine qr ?_ | refine qd (by kernel_rfl) (by kernel_rfl) ?_); simp only [go_sem, jE, reduceIte, jA, jM, jS, jL, jD, jB, h1, h2, h3, hlt, g0, g2]) | refine dk (by kernel_rfl) ?_ | (refine qp (km) (by simp only [go_sem, jE, reduceIte, jA, jM, jS, jL, jD, jB, h1, h2, h3, hlt, g0, g2]; first | done | rfl) rfl (by simp only [go_sem, Nat.reduceLT]) rfl rfl ?_; simp only [go_sem, jE, reduceIte, jA, jM, jS, jL, jD, jB, h1, h2, h3, hlt, g0, g2]))
    refine ⟨⟨i + 1, hlt⟩, [0], ?_, rwL (by repeat (first | exact trivial | refine ⟨rfl, rfl, ?_⟩)) (by rfl) (by simp only [go_sem, jE, reduceIte, jA, jM, jS, jL, jD, jB, g3]; first | done | rfl) (by decide) (by unfold idM; decide)⟩
    show r.length - (i + 1) < r.length - i; omega
  · have h1 : ¬ (i : Int) < (r.length : Int) := by omega
    obtain rfl : i = r.length := by omega
    repeat (first | apply Aw_seq | apply Aw_block | apply Aw_skip | apply Aw_exit | refine Aw_condt rfl ?_ | refine Aw_condf rfl ?_ | ((first | refine qr ?_ | refine qd (by kernel_rfl) (by kernel_rfl) ?_); simp only [go_sem, jE, reduceIte, jA, jM, jS, jL, jD, jB, h1, g0]) | refine dk (by kernel_rfl) ?_)
    exact Aw_ret (retL (M := [0]) (.inl rfl) (by simp only [go_sem, jE, reduceIte, jA, jM, jS, jL, jD, jB]; first | done | rfl) rfl rfl (by rfl) (by simp only [go_sem, jE, reduceIte, jA, jM, jS, jL, jD, jB, mkD_end, mStrs]; first | done | rfl | (and_intros <;> rfl)) (by decide) (by unfold idM; decide))
def mInts (k n : Nat) : List Int := (List.range n).map fun j => (((k + j) : Nat) : Int)
theorem markIntS_ac (r : List Int) (k : Nat) (hk : k + r.length ≤ 1099511627776) : AC Try.prog 34 [.c (.h 0), iT k] (hpL [some (dRow 3 1 (r.map intD))]) 1 ⟨.t (iT ((k + r.length : Nat) : Int)), hpL [some (dRow 3 1 ((mInts k r.length).map intD))], 1⟩ := by
  refine AC_of Try.func34 rfl Try.ntmps34 Try.results34 (by kernel_rfl) rfl ?_
  simp only [List.zipIdx, List.map, Nat.zero_add, Nat.reduceAdd]
  repeat (first | apply Aw_seq | apply Aw_block | apply Aw_skip | apply Aw_exit | refine Aw_condt rfl ?_ | refine Aw_condf rfl ?_ | ((first | refine qr ?_ | refine qd (by kernel_rfl) (by kernel_rfl) ?_); simp only [go_sem, jE, reduceIte, jA, jM, jS, jL, jD, jB]) | refine dk (by kernel_rfl) ?_)
  refine Aw.rw (rwL (l' := [(5, .t (iT (0 : Nat))), (1, .t (iT ((k + 0 : Nat) : Int))), (0, .t (.c (.h 0)))]) (os := [some (dRow 3 1 (mkD intD (fun j => (((k + j) : Nat) : Int)) r 0))]) (M := [0]) (n' := 1) (by repeat (first | exact trivial | refine ⟨rfl, rfl, ?_⟩)) (by rfl) (by simp only [go_sem, jE, reduceIte, jA, jM, jS, jL, jD, jB, mkD_0]; first | done | rfl) (by decide) (by unfold idM; decide)) ?_
  refine Aw_loop_rw (ι := { j : Nat // j ≤ r.length }) (fun j => S [(5, .t (iT (j.1 : Nat))), (1, .t (iT ((k + j.1 : Nat) : Int))), (0, .t (.c (.h 0)))] (hpL [some (dRow 3 1 (mkD intD (fun j => (((k + j) : Nat) : Int)) r j.1))]) 1) (fun j => r.length - j.1) ⟨0, Nat.zero_le _⟩ ?_
  rintro ⟨i, hi⟩
  dsimp only
  have g0 := mkD_ln intD (fun j => (((k + j) : Nat) : Int)) r hi
  by_cases hlt : i < r.length
  · have h1 : (i : Int) < (r.length : Int) := by omega
    have h2 := wrap_succ hlt (by omega)
    have h3 : IntKind.i64.wrap (((k + i : Nat) : Int) + 1) = ((k + (i + 1) : Nat) : Int) := wrap_succ (m := k + i + 1) (by omega) (by omega)
    obtain ⟨e, hx⟩ : ∃ e, r[i]? = some e := ⟨_, List.getElem?_eq_getElem hlt⟩
    have g2 := mkD_get intD (fun j => (((k + j) : Nat) : Int)) hx
    have g3 := mkD_set intD (fun j => (((k + j) : Nat) : Int)) hlt
    simp only [intD, List.map] at g2
    rw [show (((intD ((((k + i) : Nat) : Int))).map CV.d)) = [.d (.s (.int .i64 ((k + i : Nat) : Int)))] from rfl] at g3
    repeat (first | apply Aw_seq | apply Aw_block | apply Aw_skip | apply Aw_exit | refine Aw_condt rfl ?_ | refine Aw_condf rfl ?_ | ((first | refine qr ?_ | refine qd (by kernel_rfl) (by kernel_rfl) ?_); simp only [go_sem, jE, reduceIte, jA, jM, jS, jL, jD, jB, h1, h2, h3, hlt, g0, g2]) | refine dk (by kernel_rfl) ?_)
    refine ⟨⟨i + 1, hlt⟩, [0], ?_, rwL (by repeat (first | exact trivial | refine ⟨rfl, rfl, ?_⟩)) (by rfl) (by simp only [go_sem, jE, reduceIte, jA, jM, jS, jL, jD, jB, g3]; first | done | rfl) (by decide) (by unfold idM; decide)⟩
    show r.length - (i + 1) < r.length - i; omega
  · have h1 : ¬ (i : Int) < (r.length : Int) := by omega
    obtain rfl : i = r.length := by omega
    repeat (first | apply Aw_seq | apply Aw_block | apply Aw_skip | apply Aw_exit | refine Aw_condt rfl ?_ | refine Aw_condf rfl ?_ | ((first | refine qr ?_ | refine qd (by kernel_rfl) (by kernel_rfl) ?_); simp only [go_sem, jE, reduceIte, jA, jM, jS, jL, jD, jB, h1, g0]) | refine dk (by kernel_rfl) ?_)
    exact Aw_ret (retL (M := [0]) (.inl rfl) (by simp only [go_sem, jE, reduceIte, jA, jM, jS, jL, jD, jB]; first | done | rfl) rfl rfl (by rfl) (by simp only [go_sem, jE, reduceIte, jA, jM, jS, jL, jD, jB, mkD_end, mInts]; first | done | rfl | (and_intros <;> rfl)) (by decide) (by unfold idM; decide))
def markE (k : Nat) : Ent := ⟨markT k, ((k + 1 : Nat) : Int), decide (Int.tmod ((k + 2 : Nat) : Int) 3 = 0), ((k + 3 : Nat) : Int)⟩
def mEnts (k n : Nat) : List Ent := (List.range n).map fun j => markE (k + 4 * j)
theorem markEntryS_ac (r : List Ent) (k : Nat) (hk : k + 4 * r.length ≤ 1099511627776) : AC Try.prog 31 [.c (.h 0), iT k] (hpL [some (dRow 79 4 (r.map entD))]) 1 ⟨.t (iT ((k + 4 * r.length : Nat) : Int)), hpL [some (dRow 79 4 ((mEnts k r.length).map entD))], 1⟩ := by
  refine AC_of Try.func31 rfl Try.ntmps31 Try.results31 (by kernel_rfl) rfl ?_
  simp only [List.zipIdx, List.map, Nat.zero_add, Nat.reduceAdd]
  repeat (first | apply Aw_seq | apply Aw_block | apply Aw_skip | apply Aw_exit | refine Aw_condt rfl ?_ | refine Aw_condf rfl ?_ | ((first | refine qr ?_ | refine qd (by kernel_rfl) (by kernel_rfl) ?_); simp only [go_sem, jE, reduceIte, jA, jM, jS, jL, jD, jB]) | refine dk (by kernel_rfl) ?_)
  refine Aw.rw (rwL (l' := [(5, .t (iT (0 : Nat))), (1, .t (iT ((k + 4 * 0 : Nat) : Int))), (0, .t (.c (.h 0)))]) (os := [some (dRow 79 4 (mkD entD (fun j => markE (k + 4 * j)) r 0))]) (M := [0]) (n' := 1) (by repeat (first | exact trivial | refine ⟨rfl, rfl, ?_⟩)) (by rfl) (by simp only [go_sem, jE, reduceIte, jA, jM, jS, jL, jD, jB, mkD_0]; first | done | rfl) (by decide) (by unfold idM; decide)) ?_
  refine Aw_loop_rw (ι := { j : Nat // j ≤ r.length }) (fun j => S [(5, .t (iT (j.1 : Nat))), (1, .t (iT ((k + 4 * j.1 : Nat) : Int))), (0, .t (.c (.h 0)))] (hpL [some (dRow 79 4 (mkD entD (fun j => markE (k + 4 * j)) r j.1))]) 1) (fun j => r.length - j.1) ⟨0, Nat.zero_le _⟩ ?_
  rintro ⟨i, hi⟩
  dsimp only
  have g0 := mkD_ln entD (fun j => markE (k + 4 * j)) r hi
  by_cases hlt : i < r.length
  · have h1 : (i : Int) < (r.length : Int) := by omega
    have h2 := wrap_succ hlt (by omega)
    obtain ⟨q, hq⟩ : ∃ q, q = k + 4 * i := ⟨_, rfl⟩
    have hqm : q + 4 ≤ 1099511627776 := by omega
    have w1 : IntKind.i64.wrap ((q : Int) + 1) = ((q + 1 : Nat) : Int) := wrap_succ (m := q + 1) (by omega) (by omega)
    have w2 : IntKind.i64.wrap (((q + 1 : Nat) : Int) + 1) = ((q + 2 : Nat) : Int) := wrap_succ (m := q + 2) (by omega) (by omega)
    have w3 : IntKind.i64.wrap (((q + 2 : Nat) : Int) + 1) = ((q + 3 : Nat) : Int) := wrap_succ (m := q + 3) (by omega) (by omega)
    have w4 : IntKind.i64.wrap (((q + 3 : Nat) : Int) + 1) = ((k + 4 * (i + 1) : Nat) : Int) := by rw [show k + 4 * (i + 1) = q + 4 by omega]; exact wrap_succ (m := q + 4) (by omega) (by omega)
    obtain ⟨e, hx⟩ : ∃ e, r[i]? = some e := ⟨_, List.getElem?_eq_getElem hlt⟩
    have km := markText_ac q (by omega)
    have g2 := mkD_get entD (fun j => markE (k + 4 * j)) hx
    have g3 := mkD_set entD (fun j => markE (k + 4 * j)) hlt
    simp only [entD, List.map] at g2
    rw [show (((entD (markE (k + 4 * i))).map CV.d)) = [.d (.s (.string (markT q))), .d (.s (.int .i64 ((q + 1 : Nat) : Int))), .d (.s (.bool (decide (Int.tmod ((q + 2 : Nat) : Int) 3 = 0)))), .d (.s (.int .i64 ((q + 3 : Nat) : Int)))] by rw [← hq]; rfl] at g3
    have gl : i < ((mkD entD (fun j => markE (k + 4 * j)) r i).map (·.map CV.d)).length := by simp [g0]; exact hlt
    have g4 := set_get gl
    rw [← hq]
    repeat (first | apply Aw_seq | apply Aw_block | apply Aw_skip | apply Aw_exit | refine Aw_condt rfl ?_ | refine Aw_condf rfl ?_ | ((first | refine qr ?_ | refine qd (by kernel_rfl) (by kernel_rfl) ?_); simp only [go_sem, jE, reduceIte, jA, jM, jS, jL, jD, jB, h1, h2, w1, w2, w3, w4, hlt, g0, g2, g4, three0, List.length_set, List.set_set, List.length_map]) | refine dk (by kernel_rfl) ?_ | (refine qp (km) (by simp only [go_sem, jE, reduceIte, jA, jM, jS, jL, jD, jB, h1, h2, w1, w2, w3, w4, hlt, g0, g2, g4, three0, List.length_set, List.set_set, List.length_map]; first | done | rfl) rfl (by simp only [go_sem, Nat.reduceLT]) rfl rfl ?_; simp only [go_sem, jE, reduceIte, jA, jM, jS, jL, jD, jB, h1, h2, w1, w2, w3, w4, hlt, g0, g2, g4, three0, List.length_set, List.set_set, List.length_map]))
    refine ⟨⟨i + 1, hlt⟩, [0], ?_, rwL (by repeat (first | exact trivial | refine ⟨rfl, rfl, ?_⟩)) (by rfl) (by simp only [go_sem, jE, reduceIte, jA, jM, jS, jL, jD, jB, g3]; first | done | rfl) (by decide) (by unfold idM; decide)⟩
    show r.length - (i + 1) < r.length - i; omega
  · have h1 : ¬ (i : Int) < (r.length : Int) := by omega
    obtain rfl : i = r.length := by omega
    repeat (first | apply Aw_seq | apply Aw_block | apply Aw_skip | apply Aw_exit | refine Aw_condt rfl ?_ | refine Aw_condf rfl ?_ | ((first | refine qr ?_ | refine qd (by kernel_rfl) (by kernel_rfl) ?_); simp only [go_sem, jE, reduceIte, jA, jM, jS, jL, jD, jB, h1, g0]) | refine dk (by kernel_rfl) ?_)
    exact Aw_ret (retL (M := [0]) (.inl rfl) (by simp only [go_sem, jE, reduceIte, jA, jM, jS, jL, jD, jB]; first | done | rfl) rfl rfl (by rfl) (by simp only [go_sem, jE, reduceIte, jA, jM, jS, jL, jD, jB, mkD_end, mEnts]; first | done | rfl | (and_intros <;> rfl)) (by decide) (by unfold idM; decide))
theorem mE_key (k : Nat) : (markE k).key = markT k := rfl
theorem mE_val (k : Nat) : (markE k).val = ((k + 1 : Nat) : Int) := rfl
theorem mE_gone (k : Nat) : (markE k).gone = decide (Int.tmod ((k + 2 : Nat) : Int) 3 = 0) := rfl
theorem mE_time (k : Nat) : (markE k).time = ((k + 3 : Nat) : Int) := rfl
theorem heldStringS_ac (k n : Nat) (hk : k + n ≤ 1099511627776) : AC Try.prog 57 [strsT (mStrs k n), iT k] noHp 0 ⟨.t (iT ((k + n : Nat) : Int)), noHp, 0⟩ := by
  refine AC_of Try.func57 rfl Try.ntmps57 Try.results57 (by kernel_rfl) rfl ?_
  simp only [List.zipIdx, List.map, Nat.zero_add, Nat.reduceAdd]
  have hl : (mStrs k n).length = n := by simp [mStrs]
  repeat (first | apply Aw_seq | apply Aw_block | apply Aw_skip | apply Aw_exit | refine Aw_condt rfl ?_ | refine Aw_condf rfl ?_ | ((first | refine qr ?_ | refine qd (by kernel_rfl) (by kernel_rfl) ?_); simp only [go_sem, jE, reduceIte, jA, jM, jS, jL, jD, jB]) | refine dk (by kernel_rfl) ?_)
  refine Aw.rw (rw0 (l' := [(5, .t (iT (0 : Nat))), (1, .t (iT ((k + 0 : Nat) : Int))), (0, .t (strsT (mStrs k n)))]) (n' := 0) (by repeat (first | exact trivial | refine ⟨rfl, rfl, ?_⟩))) ?_
  refine Aw_loop0 (ι := { i : Nat // i ≤ n ∧ (True) }) (fun q => [(5, .t (iT (q.1 : Nat))), (1, .t (iT ((k + q.1 : Nat) : Int))), (0, .t (strsT (mStrs k n)))]) (fun q => n - q.1) ⟨0, Nat.zero_le _, trivial⟩ ?_
  rintro ⟨i, hi, hp⟩
  dsimp only
  by_cases hlt : i < n
  · have h1 : (i : Int) < (n : Int) := by omega
    have h2 := wrap_succ hlt (by omega)
    have hx : (mStrs k n)[i]? = some (markT (k + i)) := by simp [mStrs, List.getElem?_map, List.getElem?_range hlt]
    have w1 : IntKind.i64.wrap (((k + i : Nat) : Int) + 1) = ((k + (i + 1) : Nat) : Int) := wrap_succ (m := k + i + 1) (by omega) (by omega)
    have km := markText_ac (k + i) (by omega)
    repeat (first | apply Aw_seq | apply Aw_block | apply Aw_skip | apply Aw_exit | refine Aw_condt rfl ?_ | refine Aw_condf rfl ?_ | ((first | refine qr ?_ | refine qd (by kernel_rfl) (by kernel_rfl) ?_); simp only [go_sem, jE, reduceIte, jA, jM, jS, jL, jD, jB, h1, h2, hx, hl, iref, sref, bref, w1]) | refine dk (by kernel_rfl) ?_ | (refine qp (km) (by simp only [go_sem, jE, reduceIte, jA, jM, jS, jL, jD, jB, h1, h2, hx, hl, iref, sref, bref, w1]; first | done | rfl) rfl (by simp only [go_sem, Nat.reduceLT]) rfl rfl ?_; simp only [go_sem, jE, reduceIte, jA, jM, jS, jL, jD, jB, h1, h2, hx, hl, iref, sref, bref, w1]))
    exact ⟨⟨i + 1, by omega, trivial⟩, (by simp only []; omega), rw0 (by repeat (first | exact trivial | refine ⟨rfl, rfl, ?_⟩))⟩
  · have h1 : ¬ (i : Int) < (n : Int) := by omega
    obtain rfl : i = n := by omega
    repeat (first | apply Aw_seq | apply Aw_block | apply Aw_skip | apply Aw_exit | refine Aw_condt rfl ?_ | refine Aw_condf rfl ?_ | ((first | refine qr ?_ | refine qd (by kernel_rfl) (by kernel_rfl) ?_); simp only [go_sem, jE, reduceIte, jA, jM, jS, jL, jD, jB, h1, hl]) | refine dk (by kernel_rfl) ?_)
    exact Aw_ret (ret0 (.inl rfl) (by simp only [go_sem, jE, reduceIte, jA, jM, jS, jL, jD, jB]; rfl) (by rfl) rfl)
theorem heldIntS_ac (k n : Nat) (hk : k + n ≤ 1099511627776) : AC Try.prog 38 [intsT (mInts k n), iT k] noHp 0 ⟨.t (iT ((k + n : Nat) : Int)), noHp, 0⟩ := by
  refine AC_of Try.func38 rfl Try.ntmps38 Try.results38 (by kernel_rfl) rfl ?_
  simp only [List.zipIdx, List.map, Nat.zero_add, Nat.reduceAdd]
  have hl : (mInts k n).length = n := by simp [mInts]
  repeat (first | apply Aw_seq | apply Aw_block | apply Aw_skip | apply Aw_exit | refine Aw_condt rfl ?_ | refine Aw_condf rfl ?_ | ((first | refine qr ?_ | refine qd (by kernel_rfl) (by kernel_rfl) ?_); simp only [go_sem, jE, reduceIte, jA, jM, jS, jL, jD, jB]) | refine dk (by kernel_rfl) ?_)
  refine Aw.rw (rw0 (l' := [(5, .t (iT (0 : Nat))), (1, .t (iT ((k + 0 : Nat) : Int))), (0, .t (intsT (mInts k n)))]) (n' := 0) (by repeat (first | exact trivial | refine ⟨rfl, rfl, ?_⟩))) ?_
  refine Aw_loop0 (ι := { i : Nat // i ≤ n ∧ (True) }) (fun q => [(5, .t (iT (q.1 : Nat))), (1, .t (iT ((k + q.1 : Nat) : Int))), (0, .t (intsT (mInts k n)))]) (fun q => n - q.1) ⟨0, Nat.zero_le _, trivial⟩ ?_
  rintro ⟨i, hi, hp⟩
  dsimp only
  by_cases hlt : i < n
  · have h1 : (i : Int) < (n : Int) := by omega
    have h2 := wrap_succ hlt (by omega)
    have hx : (mInts k n)[i]? = some (((k + i : Nat) : Int)) := by simp [mInts, List.getElem?_map, List.getElem?_range hlt]
    have w1 : IntKind.i64.wrap (((k + i : Nat) : Int) + 1) = ((k + (i + 1) : Nat) : Int) := wrap_succ (m := k + i + 1) (by omega) (by omega)
    repeat (first | apply Aw_seq | apply Aw_block | apply Aw_skip | apply Aw_exit | refine Aw_condt rfl ?_ | refine Aw_condf rfl ?_ | ((first | refine qr ?_ | refine qd (by kernel_rfl) (by kernel_rfl) ?_); simp only [go_sem, jE, reduceIte, jA, jM, jS, jL, jD, jB, h1, h2, hx, hl, iref, sref, bref, w1]) | refine dk (by kernel_rfl) ?_)
    exact ⟨⟨i + 1, by omega, trivial⟩, (by simp only []; omega), rw0 (by repeat (first | exact trivial | refine ⟨rfl, rfl, ?_⟩))⟩
  · have h1 : ¬ (i : Int) < (n : Int) := by omega
    obtain rfl : i = n := by omega
    repeat (first | apply Aw_seq | apply Aw_block | apply Aw_skip | apply Aw_exit | refine Aw_condt rfl ?_ | refine Aw_condf rfl ?_ | ((first | refine qr ?_ | refine qd (by kernel_rfl) (by kernel_rfl) ?_); simp only [go_sem, jE, reduceIte, jA, jM, jS, jL, jD, jB, h1, hl]) | refine dk (by kernel_rfl) ?_)
    exact Aw_ret (ret0 (.inl rfl) (by simp only [go_sem, jE, reduceIte, jA, jM, jS, jL, jD, jB]; rfl) (by rfl) rfl)
theorem heldEntryS_ac (k n : Nat) (hk : k + 4 * n ≤ 1099511627776) : AC Try.prog 35 [runT (mEnts k n), iT k] noHp 0 ⟨.t (iT ((k + 4 * n : Nat) : Int)), noHp, 0⟩ := by
  refine AC_of Try.func35 rfl Try.ntmps35 Try.results35 (by kernel_rfl) rfl ?_
  simp only [List.zipIdx, List.map, Nat.zero_add, Nat.reduceAdd]
  have hl : (mEnts k n).length = n := by simp [mEnts]
  repeat (first | apply Aw_seq | apply Aw_block | apply Aw_skip | apply Aw_exit | refine Aw_condt rfl ?_ | refine Aw_condf rfl ?_ | ((first | refine qr ?_ | refine qd (by kernel_rfl) (by kernel_rfl) ?_); simp only [go_sem, jE, reduceIte, jA, jM, jS, jL, jD, jB]) | refine dk (by kernel_rfl) ?_)
  refine Aw.rw (rw0 (l' := [(5, .t (iT (0 : Nat))), (1, .t (iT ((k + 4 * 0 : Nat) : Int))), (0, .t (runT (mEnts k n)))]) (n' := 0) (by repeat (first | exact trivial | refine ⟨rfl, rfl, ?_⟩))) ?_
  refine Aw_loop0 (ι := { i : Nat // i ≤ n ∧ (True) }) (fun q => [(5, .t (iT (q.1 : Nat))), (1, .t (iT ((k + 4 * q.1 : Nat) : Int))), (0, .t (runT (mEnts k n)))]) (fun q => n - q.1) ⟨0, Nat.zero_le _, trivial⟩ ?_
  rintro ⟨i, hi, hp⟩
  dsimp only
  by_cases hlt : i < n
  · have h1 : (i : Int) < (n : Int) := by omega
    have h2 := wrap_succ hlt (by omega)
    have hx : (mEnts k n)[i]? = some (markE (k + 4 * i)) := by simp [mEnts, List.getElem?_map, List.getElem?_range hlt]
    have w1 : IntKind.i64.wrap (((k + 4 * i : Nat) : Int) + 1) = ((k + 4 * i + 1 : Nat) : Int) := wrap_succ (m := k + 4 * i + 1) (by omega) (by omega)
    have w2 : IntKind.i64.wrap (((k + 4 * i + 1 : Nat) : Int) + 1) = ((k + 4 * i + 2 : Nat) : Int) := wrap_succ (m := k + 4 * i + 2) (by omega) (by omega)
    have w3 : IntKind.i64.wrap (((k + 4 * i + 2 : Nat) : Int) + 1) = ((k + 4 * i + 3 : Nat) : Int) := wrap_succ (m := k + 4 * i + 3) (by omega) (by omega)
    have w4 : IntKind.i64.wrap (((k + 4 * i + 3 : Nat) : Int) + 1) = ((k + 4 * (i + 1) : Nat) : Int) := by rw [show k + 4 * (i + 1) = k + 4 * i + 4 by omega]; exact wrap_succ (m := k + 4 * i + 4) (by omega) (by omega)
    have km := markText_ac (k + 4 * i) (by omega)
    repeat (first | apply Aw_seq | apply Aw_block | apply Aw_skip | apply Aw_exit | refine Aw_condt rfl ?_ | refine Aw_condf rfl ?_ | ((first | refine qr ?_ | refine qd (by kernel_rfl) (by kernel_rfl) ?_); simp only [go_sem, jE, reduceIte, jA, jM, jS, jL, jD, jB, h1, h2, hx, hl, iref, sref, bref, w1, w2, w3, w4, mE_key, mE_val, mE_gone, mE_time, three0]) | refine dk (by kernel_rfl) ?_ | (refine qp (km) (by simp only [go_sem, jE, reduceIte, jA, jM, jS, jL, jD, jB, h1, h2, hx, hl, iref, sref, bref, w1, w2, w3, w4, mE_key, mE_val, mE_gone, mE_time, three0]; first | done | rfl) rfl (by simp only [go_sem, Nat.reduceLT]) rfl rfl ?_; simp only [go_sem, jE, reduceIte, jA, jM, jS, jL, jD, jB, h1, h2, hx, hl, iref, sref, bref, w1, w2, w3, w4, mE_key, mE_val, mE_gone, mE_time, three0]))
    exact ⟨⟨i + 1, by omega, trivial⟩, (by simp only []; omega), rw0 (by repeat (first | exact trivial | refine ⟨rfl, rfl, ?_⟩))⟩
  · have h1 : ¬ (i : Int) < (n : Int) := by omega
    obtain rfl : i = n := by omega
    repeat (first | apply Aw_seq | apply Aw_block | apply Aw_skip | apply Aw_exit | refine Aw_condt rfl ?_ | refine Aw_condf rfl ?_ | ((first | refine qr ?_ | refine qd (by kernel_rfl) (by kernel_rfl) ?_); simp only [go_sem, jE, reduceIte, jA, jM, jS, jL, jD, jB, h1, hl]) | refine dk (by kernel_rfl) ?_)
    exact Aw_ret (ret0 (.inl rfl) (by simp only [go_sem, jE, reduceIte, jA, jM, jS, jL, jD, jB]; rfl) (by rfl) rfl)
theorem lt1 {a n : Nat} (h : a < n) : ∀ q ∈ [a], q < n := fun q hq => by rw [List.mem_singleton.1 hq]; exact h
theorem nd1 (a : Nat) : [a].Nodup := by simp
theorem upd_upd {α : Type} (f : Nat → α) (a : Nat) (x y : α) : upd (upd f a x) a y = upd f a y := by
  funext m
  by_cases e : m = a
  · subst e; rw [upd_same, upd_same]
  · rw [upd_ne _ _ e, upd_ne _ _ e, upd_ne _ _ e]
theorem upd_swap {α : Type} (f : Nat → α) {a b : Nat} (h : a ≠ b) (x y : α) : upd (upd f a x) b y = upd (upd f b y) a x := by
  funext m
  by_cases e : m = a
  · subst e; rw [upd_ne _ _ h, upd_same, upd_same]
  · by_cases e2 : m = b
    · subst e2; rw [upd_same, upd_ne _ _ e, upd_same]
    · rw [upd_ne _ _ e2, upd_ne _ _ e, upd_ne _ _ e, upd_ne _ _ e2]
/-- Marked runs, and where counting stands behind them. -/
def kR (q : Nat) (l : List (List Ent)) : Nat := l.foldl (fun k x => k + 4 * x.length) q
def markRs : Nat → List (List Ent) → List (List Ent)
  | _, [] => []
  | q, x :: l => mEnts q x.length :: markRs (q + 4 * x.length) l
theorem kR_app (q : Nat) (a b : List (List Ent)) : kR q (a ++ b) = kR (kR q a) b := by simp [kR]
theorem kR_le : ∀ (l : List (List Ent)) (q : Nat), q ≤ kR q l
  | [], q => Nat.le_refl _
  | x :: l, q => Nat.le_trans (by omega) (kR_le l (q + 4 * x.length))
theorem kR_take (l : List (List Ent)) (q i : Nat) : kR q (l.take i) ≤ kR q l := by
  conv => rhs; rw [← List.take_append_drop i l, kR_app]
  exact kR_le _ _
theorem kR_succ {l : List (List Ent)} {q i : Nat} {x : List Ent} (h : l[i]? = some x) : kR q (l.take (i + 1)) = kR q (l.take i) + 4 * x.length := by
  rw [List.take_add_one, h, kR_app]; rfl
theorem markRs_app : ∀ (a b : List (List Ent)) (q : Nat), markRs q (a ++ b) = markRs q a ++ markRs (kR q a) b
  | [], b, q => rfl
  | x :: a, b, q => by simp only [List.cons_append, markRs]; rw [markRs_app a b]; rfl
theorem markRs_len : ∀ (l : List (List Ent)) (q : Nat), (markRs q l).length = l.length
  | [], _ => rfl
  | x :: l, q => by simp only [markRs, List.length_cons]; rw [markRs_len l]
def mRs (q i : Nat) (r : List (List Ent)) : List (List Ent) := markRs q (r.take i) ++ r.drop i
theorem mRs_0 (q : Nat) (r : List (List Ent)) : mRs q 0 r = r := by simp [mRs, markRs]
theorem mRs_end (q : Nat) (r : List (List Ent)) : mRs q r.length r = markRs q r := by simp [mRs]
theorem mRs_len {q i : Nat} {r : List (List Ent)} : (mRs q i r).length = r.length := by simp [mRs, markRs_len]; omega
theorem drop_get {α : Type} {r : List α} {i : Nat} {x : α} (h : r[i]? = some x) : r.drop i = x :: r.drop (i + 1) := by
  obtain ⟨hi, rfl⟩ := List.getElem?_eq_some_iff.1 h
  exact List.drop_eq_getElem_cons hi
theorem mRs_get {q i : Nat} {r : List (List Ent)} {x : List Ent} (h : r[i]? = some x) : (mRs q i r)[i]? = some x := by
  have hi := (List.getElem?_eq_some_iff.1 h).1
  unfold mRs
  rw [List.getElem?_append_right (by rw [markRs_len]; simp; omega), markRs_len, drop_get h]
  simp [Nat.min_eq_left (Nat.le_of_lt hi)]
theorem mRs_set {q i : Nat} {r : List (List Ent)} {x : List Ent} (h : r[i]? = some x) : (mRs q i r).set i (mEnts (kR q (r.take i)) x.length) = mRs q (i + 1) r := by
  have hi := (List.getElem?_eq_some_iff.1 h).1
  unfold mRs
  rw [List.set_append_right _ _ (by rw [markRs_len]; simp; omega), markRs_len, drop_get h, List.take_add_one, h, markRs_app]
  simp [Nat.min_eq_left (Nat.le_of_lt hi), markRs]
def lvF (r : List (List Ent)) : List (Option Obj) := some (pRow r.length r.length) :: r.map fun x => some (eRow x)
theorem lvF_os (r : List (List Ent)) : lvOs r.length r = lvF r := by simp [lvOs, lvF]
theorem lvF_len (r : List (List Ent)) : (lvF r).length = r.length + 1 := by simp [lvF]
theorem lvF_bd {r : List (List Ent)} {m : Nat} {o : Obj} (h : hpL (lvF r) m = some o) : m < r.length + 1 ∧ o.bd (r.length + 1) = true := by
  have hg := hpL_get.1 h
  refine ⟨by have := (List.getElem?_eq_some_iff.1 hg).1; rwa [lvF_len] at this, ?_⟩
  rcases m with _ | m
  · simp only [lvF, List.getElem?_cons_zero, Option.some.injEq] at hg
    subst hg
    exact pE_all (by omega) (Nat.le_refl _)
  · simp only [lvF, List.getElem?_cons_succ, List.getElem?_map] at hg
    obtain ⟨x, _, hx⟩ := Option.map_eq_some_iff.1 hg
    rw [← Option.some.inj hx]; exact bd_eRow _ _
theorem lvF_get {r : List (List Ent)} {i : Nat} {x : List Ent} (h : r[i]? = some x) : hpL (lvF r) (i + 1) = some (eRow x) := by
  rw [hpL_get]; simp [lvF, h]
theorem lvF_set {r : List (List Ent)} {i : Nat} {x : List Ent} (h : i < r.length) : upd (hpL (lvF r)) (i + 1) (some (eRow x)) = hpL (lvF (r.set i x)) := by
  rw [hpL_set (by simp [lvF]; omega)]
  simp [lvF, List.map_set]
theorem pE_end {i n : Nat} (h : i < n) : (pEls n n)[i]? = some [.h (i + 1)] := by
  unfold pEls
  rw [List.getElem?_append_left (by simpa using h)]
  simp [List.getElem?_range h]
theorem markEntrySSO_ac (r : List (List Ent)) (q : Nat) (hl : r.length ≤ 1048576) (hq : kR q r ≤ 1099511627776) : AC Try.prog 32 [.c (.h 0), iT q] (hpL (lvF r)) (r.length + 1) ⟨.t (iT ((kR q r : Nat) : Int)), hpL (lvF (markRs q r)), r.length + 1⟩ := by
  refine AC_of Try.func32 rfl Try.ntmps32 Try.results32 (by kernel_rfl) rfl ?_
  simp only [List.zipIdx, List.map, Nat.zero_add, Nat.reduceAdd]
  repeat (first | apply Aw_seq | apply Aw_block | apply Aw_skip | apply Aw_exit | refine Aw_condt rfl ?_ | refine Aw_condf rfl ?_ | ((first | refine qr ?_ | refine qd (by kernel_rfl) (by kernel_rfl) ?_); simp only [go_sem, jE, reduceIte, jA, jM, jS, jL, jD, jB]) | refine dk (by kernel_rfl) ?_)
  have start : ∀ {P : Program} {N k : Nat} {x : Code} {Q : Exit → St → Prop}, Aw P N k x Q (S [(5, .t (iT (0 : Nat))), (1, .t (iT ((kR q (r.take 0) : Nat) : Int))), (0, .t (.c (.h 0)))] (hpL (lvF (mRs q 0 r))) (r.length + 1)) → Aw P N k x Q (S [(5, .t (iT (0 : Nat))), (1, .t (iT (q : Nat))), (0, .t (.c (.h 0)))] (hpL (lvF r)) (r.length + 1)) := by
    intro P N k x Q h
    rw [mRs_0] at h; exact h
  refine Aw.rw (rwI (l' := [(5, .t (iT (0 : Nat))), (1, .t (iT (q : Nat))), (0, .t (.c (.h 0)))]) (hp' := hpL (lvF r)) (m' := r.length + 1) (n' := r.length + 1) (by repeat (first | exact trivial | refine ⟨rfl, ?_⟩)) (by simp [AV.bd, TV.bd, CV.bd]) (fun m o hm => ⟨hm, lvF_bd hm⟩) (Nat.le_refl _) (Nat.le_refl _)) ?_
  refine start ?_
  refine Aw_loop_rw (ι := { j : Nat // j ≤ r.length }) (fun j => S [(5, .t (iT (j.1 : Nat))), (1, .t (iT ((kR q (r.take j.1) : Nat) : Int))), (0, .t (.c (.h 0)))] (hpL (lvF (mRs q j.1 r))) (r.length + 1)) (fun j => r.length - j.1) ⟨0, Nat.zero_le _⟩ ?_
  rintro ⟨i, hi⟩
  dsimp only
  have gl : (mRs q i r).length = r.length := mRs_len
  by_cases hlt : i < r.length
  · have h1 : (i : Int) < (r.length : Int) := by omega
    have h2 := wrap_succ hlt (by omega)
    obtain ⟨e, hx⟩ : ∃ e, r[i]? = some e := ⟨_, List.getElem?_eq_getElem hlt⟩
    have hk := kR_succ (q := q) hx
    have hle := kR_take r q (i + 1)
    have kk := markEntryS_ac e (kR q (r.take i)) (by omega)
    rw [← hk] at kk
    have hm := mRs_set (q := q) hx
    have g0 : hpL (lvF (mRs q i r)) 0 = some (pRow r.length r.length) := by rw [← gl]; rfl
    have g1 := pE_len (Nat.le_refl r.length)
    have g2 := pE_end hlt
    have g3 := lvF_get (mRs_get (q := q) hx)
    have g5 := lvF_set (r := mRs q i r) (x := mEnts (kR q (r.take i)) e.length) (i := i) (by omega)
    rw [hm, r_eRow] at g5
    have hh : HandL (hpL (lvF (mRs q i r))) [i + 1] [i + 1] [some (dRow 79 4 (e.map entD))] := ⟨by rw [g3, dRow_ren]; rfl, dRow_bd _ _ _ _, trivial⟩
    repeat (first | apply Aw_seq | apply Aw_block | apply Aw_skip | apply Aw_exit | refine Aw_condt rfl ?_ | refine Aw_condf rfl ?_ | ((first | refine qr ?_ | refine qd (by kernel_rfl) (by kernel_rfl) ?_); simp only [go_sem, jE, reduceIte, jA, jM, jS, jL, jD, jB, h1, h2, hx, hlt, g0, g1, g2]) | refine dk (by kernel_rfl) ?_ | (refine qx (call_L (N' := [i + 1]) (L := []) kk rfl (.cons (.nm rfl) (.cons (.nm rfl) .nil)) (nd1 _) (lt1 (by omega)) (fun _ h => nomatch h) hh (.inl rfl) rfl (Nat.le_refl _)) (by simp only [go_sem, jE, reduceIte, jA, jM, jS, jL, jD, jB, h1, h2, hx, hlt, g0, g1, g2]; first | done | rfl) rfl (by simp only [go_sem, Nat.reduceLT]) ?_; simp only [go_sem, jE, reduceIte, jA, jM, jS, jL, jD, jB, h1, h2, hx, hlt, g0, g1, g2]))
    rw [g5]
    refine ⟨⟨i + 1, hlt⟩, _, ?_, rwI (m' := r.length + 1) (by repeat (first | exact trivial | refine ⟨rfl, ?_⟩)) (by simp [AV.bd, TV.bd, CV.bd]) (fun m o hm => ⟨hm, by have := lvF_bd hm; rwa [mRs_len] at this⟩) (Nat.le_refl _) (Nat.le_refl _)⟩
    show r.length - (i + 1) < r.length - i; omega
  · have h1 : ¬ (i : Int) < (r.length : Int) := by omega
    obtain rfl : i = r.length := by omega
    have g0 : hpL (lvF (mRs q r.length r)) 0 = some (pRow (mRs q r.length r).length (mRs q r.length r).length) := rfl
    rw [gl] at g0
    have g1 := pE_len (Nat.le_refl r.length)
    repeat (first | apply Aw_seq | apply Aw_block | apply Aw_skip | apply Aw_exit | refine Aw_condt rfl ?_ | refine Aw_condf rfl ?_ | ((first | refine qr ?_ | refine qd (by kernel_rfl) (by kernel_rfl) ?_); simp only [go_sem, jE, reduceIte, jA, jM, jS, jL, jD, jB, h1, g0, g1]) | refine dk (by kernel_rfl) ?_)
    rw [mRs_end, List.take_length]
    refine Aw_ret (retI (.inl rfl) rfl rfl (fun m o hm => ⟨hm, ?_⟩) (Nat.le_refl _))
    have := lvF_bd hm
    rwa [markRs_len] at this
def zSto : Sto := ⟨[], [], [], 0, 0, []⟩
theorem t3 : Int.toNat 3 = 3 := rfl
theorem e03 : decide ((0 : Int) < 3) = true := rfl
theorem e13 : decide ((1 : Int) < 3) = true := rfl
theorem e23 : decide ((2 : Int) < 3) = true := rfl
theorem e33 : decide ((3 : Int) < 3) = false := rfl
theorem w01 : IntKind.i64.wrap (0 + 1) = 1 := rfl
theorem w12 : IntKind.i64.wrap (1 + 1) = 2 := rfl
theorem w23 : IntKind.i64.wrap (2 + 1) = 3 := rfl
theorem AC.setL {P : Program} {f : FuncId} {args : List TV} {hp : Hp} {k : Nat} {x y : AV} {os os' : List (Option Obj)} {n : Nat} (L : List Nat) (h : AC P f args hp k ⟨x, hpL os, n⟩) (hr : SetA (hpL os) L x y) (hs : SubL L 0 os os') : AC P f args hp k ⟨y, hpL os', n⟩ :=
  AC.settle h hr (fun m o' hm => by
    obtain ⟨h1, h2⟩ := subL_get hs m o' hm
    exact ⟨by simpa using h1, o', h2, .inl rfl⟩) (Nat.le_refl n)
def svRow (l : List Sve) : Obj := dRow 78 5 (l.map sveD)
@[go_sem] theorem r_svRow (l : List Sve) : svRow l = dRow 78 5 (l.map sveD) := rfl
def entV (e : Ent) : List Value := [.string e.key, .int .i64 e.val, .bool e.gone, .int .i64 e.time]
@[simp] theorem flat_eRow (r : List Ent) : (eRow r).flat = true := by
  unfold eRow
  rw [show r.map entD = (r.map entV).map (·.map D.s) by rw [List.map_map]; rfl]
  exact dRow_flat _ _ _
@[simp] theorem flat_kRow (r : List ByteArray) : (kRow r).flat = true := by
  unfold kRow
  rw [show r.map strD = (r.map fun s => [Value.string s]).map (·.map D.s) by rw [List.map_map]; rfl]
  exact dRow_flat _ _ _
theorem AC.toL0 {P : Program} {f : FuncId} {args : List TV} {x : AV} (h : AC P f args noHp 0 ⟨x, noHp, 0⟩) : AC P f args noHp 0 ⟨x, hpL [], 0⟩ := by rw [hpL_nil]; exact h
def joinM (a b : List Ent) : List Ent := List.merge a b before
structure JnI (a b : List Ent) where
  P : List Ent
  i : Nat
  k : Nat
  hi : i ≤ a.length
  hk : k ≤ b.length
  hl : P.length = i + k
  h : P ++ joinM (a.drop i) (b.drop k) = joinM a b
structure RotI (m : Nat) (R : List Ent) where
  A : List Ent
  X : List Ent
  Y : List Ent
  B : List Ent
  i : Nat
  j : Nat
  hi : X.length = i
  hj : Y.length = j
  hX : 0 < i
  hY : 0 < j
  hm : m = A.length + i
  hl : (A ++ X ++ Y ++ B).length ≤ 1000
  h : A ++ Y ++ X ++ B = R
/-- Into a run that is turned round. -/
def rI (y : Ent) : List Ent → List Ent
  | [] => [y]
  | z :: zs => if before y z = true then z :: rI y zs else y :: z :: zs
def insAll (R T : List Ent) : List Ent := T.foldl (fun R y => rI y R) R
def isort (R : List Ent) : List Ent := (insAll [] R).reverse
/-- The outer rounds. -/
structure OuI (A B Z : List Ent) (b : Nat) where
  R : List Ent
  T : List Ent
  xs : List Ent
  i : Nat
  hi : i = A.length + max R.length 1
  hb : b = A.length + R.length + T.length
  hT : R = [] → T = []
  hx : xs = A ++ R.reverse ++ (T ++ B)
  h : A ++ (insAll R T).reverse ++ B = Z
/-- The inner ones. -/
structure InsI (A C Z : List Ent) (y : Ent) where
  R : List Ent
  T : List Ent
  xs : List Ent
  j : Nat
  hj : j = A.length + R.length
  hj2 : j ≤ 1000
  hx : xs = A ++ R.reverse ++ y :: T
  h : A ++ (rI y R).reverse ++ T = Z
@[go_sem] theorem r_shr1 {T : Option TI} {k k' : IntKind} {a : Int} : bop T .shr (.int k a) (.int k' 1) = some (.int k (a.fdiv 2)) := by
  unfold bop; cases k <;> simp [IntKind.bits]
/-- Halving: the first place for which it does not hold. -/
def bsF (P : Nat → Bool) (i j : Nat) : Nat := if h : i < j then (if P ((i + j) / 2) = true then bsF P ((i + j) / 2 + 1) j else bsF P i ((i + j) / 2)) else i
termination_by j - i
structure BsI (P : Nat → Bool) (lo hi r : Nat) where
  i : Nat
  j : Nat
  hij : i ≤ j
  hlo : lo ≤ i
  hhi : j ≤ hi
  h : bsF P i j = r
/-- An entry that is carried behind a stretch. -/
structure MvI (A C Z : List Ent) (x : Ent) (n : Nat) where
  W1 : List Ent
  W2 : List Ent
  xs : List Ent
  k : Nat
  hk : k = A.length + W1.length
  hn : W1.length + W2.length = n
  hx : xs = A ++ W1 ++ x :: (W2 ++ C)
  hl : A.length + W1.length + W2.length + C.length ≤ 1000
  h : A ++ (W1 ++ W2) ++ x :: C = Z
/-- An entry that is carried ahead of a stretch. -/
structure MbI (A C Z : List Ent) (y : Ent) (n : Nat) where
  R : List Ent
  T : List Ent
  xs : List Ent
  k : Nat
  hk : k = A.length + R.length
  hn : R.length + T.length = n
  hx : xs = A ++ R.reverse ++ y :: (T ++ C)
  hl : A.length + R.length + T.length + C.length ≤ 1000
  h : A ++ y :: (R.reverse ++ T ++ C) = Z
open Classical in
def c0 (T : List Ent) : List (List Ent) := if h : 20 ≤ T.length then isort (T.take 20) :: c0 (T.drop 20) else [isort T]
termination_by T.length
decreasing_by rw [List.length_drop]; omega
/-- The first rounds: blocks of twenty. -/
structure S0I (CS : List (List Ent)) (n : Nat) where
  cs : List (List Ent)
  T : List Ent
  xs : List Ent
  a : Nat
  b : Nat
  hb : b = a + 20
  ha : a = cs.flatten.length
  hn : n = a + T.length
  hx : xs = cs.flatten ++ T
  h : cs ++ c0 T = CS
theorem cloneRun_ac (r : List Ent) (hl : r.length ≤ 100000) : AC Try.prog 79 [runT r] noHp 0 ⟨.t (.c (.h 0)), hpL [some (eRow r)], 1⟩ := by
  refine AC_of Try.func79 rfl Try.ntmps79 Try.results79 (by kernel_rfl) rfl ?_
  simp only [List.zipIdx, List.map, Nat.zero_add, Nat.reduceAdd]
  have hb : r.length * 40 ≤ 140737488355328 := by omega
  repeat (first | apply Aw_seq | apply Aw_block | apply Aw_skip | apply Aw_exit | refine Aw_condt rfl ?_ | refine Aw_condf rfl ?_ | ((first | refine qr ?_ | refine qd (by kernel_rfl) (by kernel_rfl) ?_); simp only [go_sem, jE, reduceIte, jA, jM, jS, jL, jD, jB, hb]) | refine dk (by kernel_rfl) ?_)
  exact Aw_ret (retL (M := [2]) (.inl rfl) (by simp only [go_sem, jE, reduceIte, jA, jM, jS, jL, jD, jB]; first | done | rfl) rfl rfl (by rfl) (by simp only [go_sem, jE, reduceIte, jA, jM, jS, jL, jD, jB]; first | done | rfl | (and_intros <;> rfl)) (by decide) (by unfold idM; decide))
/-- What is left of a heap when some rows are settled; what held them holds their data. -/
def SubS (hp : Hp) (L : List Nat) (i : Nat) : List (Option Obj) → List (Option Obj) → Prop
  | some o :: s, some o' :: s' => (o' = o ∨ SetO hp L o o') ∧ L.contains i = false ∧ SubS hp L (i + 1) s s'
  | _ :: s, none :: s' => SubS hp L (i + 1) s s'
  | _, [] => True
  | _, _ => False
theorem subS_get {hp : Hp} {L : List Nat} : ∀ {i : Nat} {os os' : List (Option Obj)}, SubS hp L i os os' → ∀ m o', hpL os' m = some o' → L.contains (i + m) = false ∧ ∃ o, hpL os m = some o ∧ (o' = o ∨ SetO hp L o o')
  | i, some o :: s, some o' :: s', h, 0, q, hq => by
    rw [l_c0] at hq ⊢; obtain ⟨h1, h2, _⟩ := h; cases hq; exact ⟨h2, o, rfl, h1⟩
  | i, some o :: s, some o' :: s', h, m + 1, q, hq => by
    rw [l_c1] at hq ⊢; have := subS_get h.2.2 m q hq; rw [show i + (m + 1) = i + 1 + m by omega]; exact this
  | i, o :: s, none :: s', h, 0, q, hq => by rw [l_c0] at hq; cases hq
  | i, some o :: s, none :: s', h, m + 1, q, hq => by
    rw [l_c1] at hq ⊢; have := subS_get (os := s) (os' := s') h m q hq; rw [show i + (m + 1) = i + 1 + m by omega]; exact this
  | i, none :: s, none :: s', h, m + 1, q, hq => by
    rw [l_c1] at hq ⊢; have := subS_get (os := s) (os' := s') h m q hq; rw [show i + (m + 1) = i + 1 + m by omega]; exact this
  | _, _, [], _, m, q, hq => by rw [l_n] at hq; cases hq
  | _, [], none :: _, h, _, _, _ => h.elim
  | _, [], some _ :: _, h, _, _, _ => h.elim
  | _, none :: _, some _ :: _, h, _, _, _ => h.elim
theorem AC.setS {P : Program} {f : FuncId} {args : List TV} {hp : Hp} {k : Nat} {x y : AV} {os os' : List (Option Obj)} {n : Nat} (L : List Nat) (h : AC P f args hp k ⟨x, hpL os, n⟩) (hr : SetA (hpL os) L x y) (hs : SubS (hpL os) L 0 os os') : AC P f args hp k ⟨y, hpL os', n⟩ :=
  AC.settle h hr (fun m o' hm => by
    obtain ⟨h1, o, h2, h3⟩ := subS_get hs m o' hm
    exact ⟨by simpa using h1, o, h2, h3⟩) (Nat.le_refl n)
def lvRow (l : List (List Ent)) : Obj := dRow 29 1 (l.map lvD)
@[go_sem] theorem r_lvRow (l : List (List Ent)) : lvRow l = dRow 29 1 (l.map lvD) := rfl
abbrev hT (s : Sto) : TV := .agg [.h 2, .h 0, .h 1, .d (.s (.int .i64 s.keep)), .d (.s (.int .i64 s.time)), .h 3]
def tmRow (ts : List Int) : Obj := dRow 3 1 (ts.map intD)
@[go_sem] theorem r_tmRow (ts : List Int) : tmRow ts = dRow 3 1 (ts.map intD) := rfl
def hS (s : Sto) : List (Option Obj) := [some (lvRow s.levels), some (svRow s.sieves), some (eRow s.top), some (tmRow s.times)]
@[go_sem] theorem r_hS (s : Sto) : hS s = [some (dRow 29 1 (s.levels.map lvD)), some (dRow 78 5 (s.sieves.map sveD)), some (dRow 79 4 (s.top.map entD)), some (dRow 3 1 (s.times.map intD))] := rfl
/-- And a run. -/
def hR (s : Sto) (r : List Ent) : List (Option Obj) := [some (lvRow s.levels), some (svRow s.sieves), some (eRow s.top), some (tmRow s.times), some (eRow r)]
@[go_sem] theorem r_hR (s : Sto) (r : List Ent) : hR s r = [some (dRow 29 1 (s.levels.map lvD)), some (dRow 78 5 (s.sieves.map sveD)), some (dRow 79 4 (s.top.map entD)), some (dRow 3 1 (s.times.map intD)), some (dRow 79 4 (r.map entD))] := rfl
def hG (s : Sto) : List (Option Obj) := [some (lvRow s.levels), some (svRow s.sieves), some (eRow s.top), some (tmRow s.times), none]
@[go_sem] theorem r_hG (s : Sto) : hG s = [some (dRow 29 1 (s.levels.map lvD)), some (dRow 78 5 (s.sieves.map sveD)), some (dRow 79 4 (s.top.map entD)), some (dRow 3 1 (s.times.map intD)), none] := rfl
theorem Aw.setS {P : Program} {N k : Nat} {x : Code} {Q : Exit → St → Prop} {l l' : List (Nat × AV)} {os os' : List (Option Obj)} {n n' : Nat} (L : List Nat) (h : ChkS L (hpL os) l l') (hs : SubS (hpL os) L 0 os os') (hn : n ≤ n') (q : Aw P N k x Q (S l' (hpL os') n')) : Aw P N k x Q (S l (hpL os) n) :=
  Aw.settle (stl_look h (fun m o' hm => by
    obtain ⟨h1, o, h2, h3⟩ := subS_get hs m o' hm
    exact ⟨by simpa using h1, o, h2, h3⟩) hn) q
abbrev zA : TV := .agg [.d (.s (.slice none 0 0)), .d (.s (.slice none 0 0)), .d (.s (.slice none 0 0)), .d (.s (.int .i64 0)), .d (.s (.int .i64 0)), .d (.s (.slice none 0 0))]
theorem zA_nil : NilA (.tup [zA, bT false]) (.tup [stT zSto, bT false]) := .cons (.cons (NilC.nil _) (.cons (NilC.nil _) (.cons (NilC.nil _) (.cons (.inl rfl) (.cons (.inl rfl) (.cons (NilC.nil _) .nil)))))) (.cons (NilT.refl _) .nil)
@[go_sem] theorem all_intD (q : List Int) : (List.map (fun x => List.map CV.d x) (List.map intD q)).all (fun cs => cs.length == 1) = true := by simp [intD]
@[go_sem] theorem r_ixR1 {P : Program} {hp : Hp} (e k : Nat) (els : List (List D)) : ixR P hp e k els 1 = match tiOf P e with
    | some E => if E.sz = k ∧ 0 < k then (els[1]?).map fun cs => (.t (.c (.pr cs)), hp) else none
    | none => none := r_ixR (hp := hp) e k els 1
@[go_sem] theorem r_ixR2 {P : Program} {hp : Hp} (e k : Nat) (els : List (List D)) : ixR P hp e k els 2 = match tiOf P e with
    | some E => if E.sz = k ∧ 0 < k then (els[2]?).map fun cs => (.t (.c (.pr cs)), hp) else none
    | none => none := r_ixR (hp := hp) e k els 2
theorem l12Copy_ac (top a b c : List Ent) (x y z : Sve) (keep time : Int) (ts : List Int) (h0 : top.length ≤ 100000) (h1 : a.length ≤ 100000) (h2 : b.length ≤ 100000) (h3 : c.length ≤ 100000) (h4 : x.rests.length ≤ 1099511627776) (h5 : y.rests.length ≤ 1099511627776) (h6 : z.rests.length ≤ 1099511627776) (h7 : ts.length ≤ 100000) :
    AC Try.prog 19 [stT ⟨top, [a, b, c], [x, y, z], keep, time, ts⟩] noHp 0 ⟨.t (.agg [.h 0, .h 1, .h 2, .d (.s (.int .i64 keep)), .d (.s (.int .i64 time)), .h 3]),
      hpL [some (eRow top), some ⟨29, 1, true, [[.h 4], [.h 5], [.h 6]]⟩, some ⟨78, 5, true, [[.d (.s (.string x.letters)), .d (.s (.string x.more)), .d (.s (.string x.first)), .h 7, .d (.s (.int .i64 x.keep))], [.d (.s (.string y.letters)), .d (.s (.string y.more)), .d (.s (.string y.first)), .h 8, .d (.s (.int .i64 y.keep))], [.d (.s (.string z.letters)), .d (.s (.string z.more)), .d (.s (.string z.first)), .h 9, .d (.s (.int .i64 z.keep))]]⟩,
        some (dRow 3 1 (ts.map intD)), some (eRow a), some (eRow b), some (eRow c), some (kRow x.rests), some (kRow y.rests), some (kRow z.rests)], 10⟩ := by
  refine AC_of Try.func19 rfl Try.ntmps19 Try.results19 (by kernel_rfl) rfl ?_
  simp only [List.zipIdx, List.map, Nat.zero_add, Nat.reduceAdd]
  have q0 : top.length * 40 ≤ 140737488355328 := by omega
  have q1 : a.length * 40 ≤ 140737488355328 := by omega
  have q2 : b.length * 40 ≤ 140737488355328 := by omega
  have q3 : c.length * 40 ≤ 140737488355328 := by omega
  have q4 : x.rests.length * 16 ≤ 140737488355328 := by omega
  have q5 : y.rests.length * 16 ≤ 140737488355328 := by omega
  have q6 : z.rests.length * 16 ≤ 140737488355328 := by omega
  have q7 : ts.length * 8 ≤ 140737488355328 := by omega
  repeat (first | apply Aw_seq | apply Aw_block | apply Aw_skip | apply Aw_exit | refine Aw_condt rfl ?_ | refine Aw_condf rfl ?_ | ((first | refine qr ?_ | refine qd (by kernel_rfl) (by kernel_rfl) ?_); simp only [go_sem, jE, reduceIte, jA, jM, jS, jL, jD, jB, q0, q7]) | refine dk (by kernel_rfl) ?_)
  refine Aw_rounds 4 ?_
  refine AwR_succ ?_
  repeat (first | apply Aw_seq | apply Aw_block | apply Aw_skip | apply Aw_exit | refine Aw_condt rfl ?_ | refine Aw_condf rfl ?_ | ((first | refine qr ?_ | refine qd (by kernel_rfl) (by kernel_rfl) ?_); simp only [go_sem, jE, reduceIte, jA, jM, jS, jL, jD, jB, e03, w01, w12, w23, e13, e23, e33, q1, q2, q3, q4, q5, q6]) | refine dk (by kernel_rfl) ?_)
  exact Aw_ret (retL (M := [8, 121, 141, 14, 37, 78, 119, 52, 93, 134]) (.inl rfl) (by simp only [go_sem, jE, reduceIte, jA, jM, jS, jL, jD, jB]; first | done | rfl) rfl rfl (by rfl) (by simp only [go_sem, jE, reduceIte, jA, jM, jS, jL, jD, jB]; first | done | rfl | (and_intros <;> rfl)) (by decide) (by unfold idM; decide))
theorem l12CopyS_ac (top a b c : List Ent) (x y z : Sve) (keep time : Int) (ts : List Int) (h0 : top.length ≤ 100000) (h1 : a.length ≤ 100000) (h2 : b.length ≤ 100000) (h3 : c.length ≤ 100000) (h4 : x.rests.length ≤ 1099511627776) (h5 : y.rests.length ≤ 1099511627776) (h6 : z.rests.length ≤ 1099511627776) (h7 : ts.length ≤ 100000) :
    AC Try.prog 19 [stT ⟨top, [a, b, c], [x, y, z], keep, time, ts⟩] noHp 0 ⟨.t (hT ⟨top, [a, b, c], [x, y, z], keep, time, ts⟩), hpL (hS ⟨top, [a, b, c], [x, y, z], keep, time, ts⟩), 4⟩ := by
  have h := AC.setS [4, 5, 6, 7, 8, 9] (l12Copy_ac top a b c x y z keep time ts h0 h1 h2 h3 h4 h5 h6 h7) (y := .t (.agg [.h 0, .h 1, .h 2, .d (.s (.int .i64 keep)), .d (.s (.int .i64 time)), .h 3])) (os' := [some (eRow top), some (lvRow [a, b, c]), some (svRow [x, y, z]), some (tmRow ts)])
    (.cons (.inl rfl) (.cons (.inl rfl) (.cons (.inl rfl) (.cons (.inl rfl) (.cons (.inl rfl) (.cons (.inl rfl) .nil))))))
    ⟨.inl rfl, rfl, .inr ⟨rfl, rfl, rfl, .cons (.cons (SetC.row0 rfl rfl) .nil) (.cons (.cons (SetC.row0 rfl rfl) .nil) (.cons (.cons (SetC.row0 rfl rfl) .nil) .nil))⟩, rfl,
      .inr ⟨rfl, rfl, rfl, .cons (.cons (.inl rfl) (.cons (.inl rfl) (.cons (.inl rfl) (.cons (SetC.row0 rfl rfl) (.cons (.inl rfl) .nil))))) (.cons (.cons (.inl rfl) (.cons (.inl rfl) (.cons (.inl rfl) (.cons (SetC.row0 rfl rfl) (.cons (.inl rfl) .nil))))) (.cons (.cons (.inl rfl) (.cons (.inl rfl) (.cons (.inl rfl) (.cons (SetC.row0 rfl rfl) (.cons (.inl rfl) .nil))))) .nil))⟩, rfl, .inl rfl, rfl, trivial⟩
  refine AC.sel (M := [1, 2, 0, 3]) h rfl rfl (selL rfl ?_) (by decide) fun m hm => absurd hm (by omega)
  simp only [go_sem, LeftL]
structure SmH (s : Sto) : Prop where
  ll : s.levels.length = 3
  sl : s.sieves.length = 3
  lev : ∀ r ∈ s.levels, SmR r ∧ r.length ≤ 1000
  tl : s.times.length ≤ 1000
def zO : Obj := ⟨33, 6, false, [[.d (.s (.slice none 0 0)), .d (.s (.slice none 0 0)), .d (.s (.slice none 0 0)), .d (.s (.int .i64 0)), .d (.s (.int .i64 0)), .d (.s (.slice none 0 0))]]⟩
@[go_sem] theorem r_zO : zO = ⟨33, 6, false, [[.d (.s (.slice none 0 0)), .d (.s (.slice none 0 0)), .d (.s (.slice none 0 0)), .d (.s (.int .i64 0)), .d (.s (.int .i64 0)), .d (.s (.slice none 0 0))]]⟩ := rfl
def hS5 (s : Sto) : List (Option Obj) := [some (lvRow s.levels), some (svRow s.sieves), none, some (tmRow s.times), some (eRow s.top)]
@[go_sem] theorem r_hS5 (s : Sto) : hS5 s = [some (dRow 29 1 (s.levels.map lvD)), some (dRow 78 5 (s.sieves.map sveD)), none, some (dRow 3 1 (s.times.map intD)), some (dRow 79 4 (s.top.map entD))] := rfl
theorem runOk_len {r : List Ent} (h : runOk r = true) : r.length ≤ 40 := by
  unfold runOk at h; rw [Bool.and_eq_true] at h; exact of_decide_eq_true h.2
theorem storeS_facts {s : Sto} (h : storeS s = true) : s.levels.length = 3 ∧ s.sieves.length = 3 ∧ s.top.length ≤ 4 ∧ s.times.length ≤ 3 ∧ (∀ r ∈ s.levels, r.length ≤ 40) ∧ inB 0 s.time 999 = true ∧ inB 0 s.keep 5 = true := by
  unfold storeS headS at h
  simp only [Bool.and_eq_true] at h
  obtain ⟨⟨⟨⟨⟨⟨⟨h1, h2⟩, h3⟩, h4⟩, h5⟩, h6⟩, h7⟩, h8⟩ := h
  have hl := of_decide_eq_true h1
  have hsl := of_decide_eq_true h2
  refine ⟨hl, hsl, of_decide_eq_true h7, ?_, ?_, h4, h3⟩
  · unfold timesM at h5; rw [Bool.and_eq_true] at h5; exact of_decide_eq_true h5.2
  · intro r hr
    obtain ⟨i, hi⟩ := List.mem_iff_getElem?.1 hr
    have hil := (List.getElem?_eq_some_iff.1 hi).1
    have := allI_iff.1 h8 i (by omega)
    unfold sAt at this
    obtain ⟨x, hx⟩ : ∃ x, s.sieves[i]? = some x := ⟨_, List.getElem?_eq_getElem (by omega)⟩
    rw [hi, hx] at this
    simp only [Bool.and_eq_true] at this
    have l := this.1.1
    unfold lvM at l
    simp only [Bool.and_eq_true] at l
    exact runOk_len l.1.1.1
theorem valid_sm {s : Sto} (hs : SmSt s) (h : storeS s = true) : SmH s := by
  obtain ⟨h1, h2, h3, h4, h5, _⟩ := storeS_facts h
  exact ⟨h1, h2, fun r hr => ⟨hs.lev r hr, by have := h5 r hr; omega⟩, by omega⟩
theorem copyV_ac (s : Sto) (hs : SmSt s) (hv : storeS s = true) : AC Try.prog 19 [stT s] noHp 0 ⟨.t (hT s), hpL (hS s), 4⟩ := by
  obtain ⟨h1, h2, h3, h4, h5, _⟩ := storeS_facts hv
  obtain ⟨top, levels, sieves, keep, time, times⟩ := s
  dsimp only at h1 h2 h3 h4 h5
  obtain ⟨a, b, c, rfl⟩ := len3 h1
  obtain ⟨x, y, z, rfl⟩ := len3 h2
  have q1 := h5 a (by simp); have q2 := h5 b (by simp); have q3 := h5 c (by simp)
  exact l12CopyS_ac top a b c x y z keep time times (by omega) (by omega) (by omega) (by omega) (hs.rl x (by simp)) (hs.rl y (by simp)) (hs.rl z (by simp)) (by omega)
/-- Levels as they are in a store that is one. -/
structure LvOk (s : Sto) : Prop where
  run : ∀ i, i < 3 → runOk (s.levels.getD i []) = true ∧ (s.levels.getD i []).length ≤ 8 * (i + 1)
  newer : ∀ i k, i < k → k < 3 → newerM (s.levels.getD i []) (s.levels.getD k []) = true
/-- A store in a variable: its levels and sieves are rows of its own. -/
def pO (s : Sto) : Obj := ⟨33, 6, false, [[.d (.rs 4 (s.top.map entD)), .h 1, .h 2, .d (.s (.int .i64 s.keep)), .d (.s (.int .i64 s.time)), .d (.rs 1 (s.times.map intD))]]⟩
@[go_sem] theorem r_pO (s : Sto) : pO s = ⟨33, 6, false, [[.d (.rs 4 (s.top.map entD)), .h 1, .h 2, .d (.s (.int .i64 s.keep)), .d (.s (.int .i64 s.time)), .d (.rs 1 (s.times.map intD))]]⟩ := rfl
def pH (s : Sto) : List (Option Obj) := [some (pO s), some (lvRow s.levels), some (svRow s.sieves)]
@[go_sem] theorem r_pH (s : Sto) : pH s = [some (pO s), some (lvRow s.levels), some (svRow s.sieves)] := rfl
abbrev resO (o : Option Sto) : AV := .tup [stT (o.getD zSto), bT o.isSome]
/-- What is given: a store of its own, or nothing. -/
def OwnR (f : FuncId) (args : List TV) (o : Option Sto) : Prop := (∀ x, o = some x → AC Try.prog f args noHp 0 ⟨.tup [hT x, bT true], hpL (hS x), 4⟩) ∧ (o = none → AC Try.prog f args noHp 0 ⟨.tup [zA, bT false], noHp, 0⟩)
theorem OwnR.set {f : FuncId} {args : List TV} {o : Option Sto} (h : OwnR f args o) : AC Try.prog f args noHp 0 ⟨resO o, noHp, 0⟩ := by
  cases o with
  | none => exact AC.nilR (h.2 rfl) zA_nil
  | some x => exact AC.settle0 [0, 1, 2, 3] (h.1 x rfl) (.cons (.cons (SetC.row0 rfl rfl) (.cons (SetC.row0 rfl rfl) (.cons (SetC.row0 rfl rfl) (.cons (.inl rfl) (.cons (.inl rfl) (.cons (SetC.row0 rfl rfl) .nil)))))) (.cons (.inl rfl) .nil)) rfl
def heldTs (s : Sto) : List Int := if s.times.getLast? = some s.time then s.times else s.times ++ [s.time]
def holdM (s : Sto) : Option Sto := if storeS s = true then (if timesM (heldTs s) s.time = true then some { s with times := heldTs s } else none) else none
abbrev resH (o : Option Sto) : AV := .tup [stT (o.getD zSto), iT (o.getD zSto).time, bT o.isSome]
abbrev zH : AV := .tup [zA, iT 0, bT false]
theorem zH_nil : NilA zH (resH none) := .cons (.cons (NilC.nil _) (.cons (NilC.nil _) (.cons (NilC.nil _) (.cons (.inl rfl) (.cons (.inl rfl) (.cons (NilC.nil _) .nil)))))) (.cons (NilT.refl _) (.cons (NilT.refl _) .nil))
def OwnH (f : FuncId) (args : List TV) (o : Option Sto) : Prop := (∀ x, o = some x → AC Try.prog f args noHp 0 ⟨.tup [hT x, iT x.time, bT true], hpL (hS x), 4⟩) ∧ (o = none → AC Try.prog f args noHp 0 ⟨zH, noHp, 0⟩)
theorem storeHoldS_own (s : Sto) (hs : SmSt s) : OwnH 6 [stT s] (holdM s) := by
  have k1 := sstoreOk_ac s hs
  unfold holdM
  cases c1 : storeS s
  · rw [c1] at k1
    refine ⟨fun x hx => by simp at hx, fun _ => ?_⟩
    refine AC_of Try.func6 rfl Try.ntmps6 Try.results6 (by kernel_rfl) rfl ?_
    simp only [List.zipIdx, List.map, Nat.zero_add, Nat.reduceAdd]
    repeat (first | apply Aw_seq | apply Aw_block | apply Aw_skip | apply Aw_exit | refine Aw_condt rfl ?_ | refine Aw_condf rfl ?_ | ((first | refine qr ?_ | refine qd (by kernel_rfl) (by kernel_rfl) ?_); simp only [go_sem, jE, reduceIte, jA, jM, jS, jL, jD, jB]) | refine dk (by kernel_rfl) ?_ | (refine qp (k1) (by simp only [go_sem, jE, reduceIte, jA, jM, jS, jL, jD, jB]; first | done | rfl) rfl (by simp only [go_sem, Nat.reduceLT]) rfl rfl ?_; simp only [go_sem, jE, reduceIte, jA, jM, jS, jL, jD, jB]))
    exact Aw_ret (ret0 (.inl rfl) (by simp only [go_sem, jE, reduceIte, jA, jM, jS, jL, jD, jB]; rfl) (by rfl) rfl)
  rw [c1] at k1
  rw [if_pos rfl]
  have k3 := copyV_ac s hs c1
  obtain ⟨h1, h2, h3, h4, h5, _⟩ := storeS_facts c1
  have hap : (s.times.length + 1) * 8 ≤ 140737488355328 := by omega
  have hapA : ∀ (pre : s.times = [] ∨ ∃ j y, s.times.length = j + 1 ∧ s.times[j]? = some y ∧ decide (y = s.time) = false), OwnH 6 [stT s] (if timesM (s.times ++ [s.time]) s.time = true then some { s with times := s.times ++ [s.time] } else none) := by
    intro pre
    have k4 := (l12Times_ac (s.times ++ [s.time]) s.time (by simp; omega)).toL0
    simp only [intsT, List.map_append, List.map_cons, List.map_nil, intD] at k4
    cases c2 : timesM (s.times ++ [s.time]) s.time
    · rw [c2] at k4
      refine ⟨fun x hx => by simp at hx, fun _ => ?_⟩
      rcases pre with hz | ⟨j, y, hj, hy, hne⟩
      · have z0 : decide (((s.times.length : Nat) : Int) = 0) = true := by rw [hz]; rfl
        refine AC_of Try.func6 rfl Try.ntmps6 Try.results6 (by kernel_rfl) rfl ?_
        simp only [List.zipIdx, List.map, Nat.zero_add, Nat.reduceAdd]
        repeat (first | apply Aw_seq | apply Aw_block | apply Aw_skip | apply Aw_exit | refine Aw_condt rfl ?_ | refine Aw_condf rfl ?_ | ((first | refine qr ?_ | refine qd (by kernel_rfl) (by kernel_rfl) ?_); simp only [go_sem, jE, reduceIte, jA, jM, jS, jL, jD, jB, z0, hap]) | refine dk (by kernel_rfl) ?_ | (refine qp (k1) (by simp only [go_sem, jE, reduceIte, jA, jM, jS, jL, jD, jB, z0, hap]; first | done | rfl) rfl (by simp only [go_sem, Nat.reduceLT]) rfl rfl ?_; simp only [go_sem, jE, reduceIte, jA, jM, jS, jL, jD, jB, z0, hap]) | (refine qx (call_N (L := []) (k3) rfl (.cons (.nm rfl) (.nil)) (.inl rfl) rfl) (by simp only [go_sem, jE, reduceIte, jA, jM, jS, jL, jD, jB, z0, hap]; first | done | rfl) rfl (by simp only [go_sem, Nat.reduceLT]) ?_; simp only [go_sem, jE, reduceIte, jA, jM, jS, jL, jD, jB, z0, hap]) | (refine qx (call_N (L := [25]) (k4) rfl (.cons (arg_lend (m := 25) rfl (by simp)) (.cons (.nm rfl) (.nil))) (.inr ⟨rfl, by simp⟩) rfl) (by simp only [go_sem, jE, reduceIte, jA, jM, jS, jL, jD, jB, z0, hap]; first | done | rfl) rfl (by simp only [go_sem, Nat.reduceLT]) ?_; simp only [go_sem, jE, reduceIte, jA, jM, jS, jL, jD, jB, z0, hap]))
        exact Aw_ret (ret0 (.inl rfl) (by simp only [go_sem, jE, reduceIte, jA, jM, jS, jL, jD, jB]; rfl) (by rfl) rfl)
      · have z0 : decide (((s.times.length : Nat) : Int) = 0) = false := decide_eq_false (by omega)
        have w1 : IntKind.i64.wrap (((s.times.length : Nat) : Int) - 1) = (j : Int) := by rw [hj]; exact wrap_pred (m := j + 1) (by omega) (by omega)
        have hjl : j < s.times.length := by omega
        refine AC_of Try.func6 rfl Try.ntmps6 Try.results6 (by kernel_rfl) rfl ?_
        simp only [List.zipIdx, List.map, Nat.zero_add, Nat.reduceAdd]
        repeat (first | apply Aw_seq | apply Aw_block | apply Aw_skip | apply Aw_exit | refine Aw_condt rfl ?_ | refine Aw_condf rfl ?_ | ((first | refine qr ?_ | refine qd (by kernel_rfl) (by kernel_rfl) ?_); simp only [go_sem, jE, reduceIte, jA, jM, jS, jL, jD, jB, z0, hap, w1, hy, hne, hjl]) | refine dk (by kernel_rfl) ?_ | (refine qp (k1) (by simp only [go_sem, jE, reduceIte, jA, jM, jS, jL, jD, jB, z0, hap, w1, hy, hne, hjl]; first | done | rfl) rfl (by simp only [go_sem, Nat.reduceLT]) rfl rfl ?_; simp only [go_sem, jE, reduceIte, jA, jM, jS, jL, jD, jB, z0, hap, w1, hy, hne, hjl]) | (refine qx (call_N (L := []) (k3) rfl (.cons (.nm rfl) (.nil)) (.inl rfl) rfl) (by simp only [go_sem, jE, reduceIte, jA, jM, jS, jL, jD, jB, z0, hap, w1, hy, hne, hjl]; first | done | rfl) rfl (by simp only [go_sem, Nat.reduceLT]) ?_; simp only [go_sem, jE, reduceIte, jA, jM, jS, jL, jD, jB, z0, hap, w1, hy, hne, hjl]) | (refine qx (call_N (L := [34]) (k4) rfl (.cons (arg_lend (m := 34) rfl (by simp)) (.cons (.nm rfl) (.nil))) (.inr ⟨rfl, by simp⟩) rfl) (by simp only [go_sem, jE, reduceIte, jA, jM, jS, jL, jD, jB, z0, hap, w1, hy, hne, hjl]; first | done | rfl) rfl (by simp only [go_sem, Nat.reduceLT]) ?_; simp only [go_sem, jE, reduceIte, jA, jM, jS, jL, jD, jB, z0, hap, w1, hy, hne, hjl]))
        exact Aw_ret (ret0 (.inl rfl) (by simp only [go_sem, jE, reduceIte, jA, jM, jS, jL, jD, jB]; rfl) (by rfl) rfl)
    · rw [c2] at k4
      refine ⟨fun x hx => ?_, fun hx => by simp at hx⟩
      obtain rfl := Option.some.inj (show some { s with times := s.times ++ [s.time] } = some x from hx)
      rcases pre with hz | ⟨j, y, hj, hy, hne⟩
      · have z0 : decide (((s.times.length : Nat) : Int) = 0) = true := by rw [hz]; rfl
        refine AC_of Try.func6 rfl Try.ntmps6 Try.results6 (by kernel_rfl) rfl ?_
        simp only [List.zipIdx, List.map, Nat.zero_add, Nat.reduceAdd]
        repeat (first | apply Aw_seq | apply Aw_block | apply Aw_skip | apply Aw_exit | refine Aw_condt rfl ?_ | refine Aw_condf rfl ?_ | ((first | refine qr ?_ | refine qd (by kernel_rfl) (by kernel_rfl) ?_); simp only [go_sem, jE, reduceIte, jA, jM, jS, jL, jD, jB, z0, hap]) | refine dk (by kernel_rfl) ?_ | (refine qp (k1) (by simp only [go_sem, jE, reduceIte, jA, jM, jS, jL, jD, jB, z0, hap]; first | done | rfl) rfl (by simp only [go_sem, Nat.reduceLT]) rfl rfl ?_; simp only [go_sem, jE, reduceIte, jA, jM, jS, jL, jD, jB, z0, hap]) | (refine qx (call_N (L := []) (k3) rfl (.cons (.nm rfl) (.nil)) (.inl rfl) rfl) (by simp only [go_sem, jE, reduceIte, jA, jM, jS, jL, jD, jB, z0, hap]; first | done | rfl) rfl (by simp only [go_sem, Nat.reduceLT]) ?_; simp only [go_sem, jE, reduceIte, jA, jM, jS, jL, jD, jB, z0, hap]) | (refine qx (call_N (L := [25]) (k4) rfl (.cons (arg_lend (m := 25) rfl (by simp)) (.cons (.nm rfl) (.nil))) (.inr ⟨rfl, by simp⟩) rfl) (by simp only [go_sem, jE, reduceIte, jA, jM, jS, jL, jD, jB, z0, hap]; first | done | rfl) rfl (by simp only [go_sem, Nat.reduceLT]) ?_; simp only [go_sem, jE, reduceIte, jA, jM, jS, jL, jD, jB, z0, hap]))
        exact Aw_ret (retL (M := [7, 8, 9, 25]) (.inl rfl) (by simp only [go_sem, jE, reduceIte, jA, jM, jS, jL, jD, jB]; first | done | rfl) rfl rfl (by rfl) (by simp only [go_sem, jE, reduceIte, jA, jM, jS, jL, jD, jB, List.map_append, List.map_cons, List.map_nil]; first | done | rfl | (and_intros <;> rfl)) (by decide) (by unfold idM; decide))
      · have z0 : decide (((s.times.length : Nat) : Int) = 0) = false := decide_eq_false (by omega)
        have w1 : IntKind.i64.wrap (((s.times.length : Nat) : Int) - 1) = (j : Int) := by rw [hj]; exact wrap_pred (m := j + 1) (by omega) (by omega)
        have hjl : j < s.times.length := by omega
        refine AC_of Try.func6 rfl Try.ntmps6 Try.results6 (by kernel_rfl) rfl ?_
        simp only [List.zipIdx, List.map, Nat.zero_add, Nat.reduceAdd]
        repeat (first | apply Aw_seq | apply Aw_block | apply Aw_skip | apply Aw_exit | refine Aw_condt rfl ?_ | refine Aw_condf rfl ?_ | ((first | refine qr ?_ | refine qd (by kernel_rfl) (by kernel_rfl) ?_); simp only [go_sem, jE, reduceIte, jA, jM, jS, jL, jD, jB, z0, hap, w1, hy, hne, hjl]) | refine dk (by kernel_rfl) ?_ | (refine qp (k1) (by simp only [go_sem, jE, reduceIte, jA, jM, jS, jL, jD, jB, z0, hap, w1, hy, hne, hjl]; first | done | rfl) rfl (by simp only [go_sem, Nat.reduceLT]) rfl rfl ?_; simp only [go_sem, jE, reduceIte, jA, jM, jS, jL, jD, jB, z0, hap, w1, hy, hne, hjl]) | (refine qx (call_N (L := []) (k3) rfl (.cons (.nm rfl) (.nil)) (.inl rfl) rfl) (by simp only [go_sem, jE, reduceIte, jA, jM, jS, jL, jD, jB, z0, hap, w1, hy, hne, hjl]; first | done | rfl) rfl (by simp only [go_sem, Nat.reduceLT]) ?_; simp only [go_sem, jE, reduceIte, jA, jM, jS, jL, jD, jB, z0, hap, w1, hy, hne, hjl]) | (refine qx (call_N (L := [34]) (k4) rfl (.cons (arg_lend (m := 34) rfl (by simp)) (.cons (.nm rfl) (.nil))) (.inr ⟨rfl, by simp⟩) rfl) (by simp only [go_sem, jE, reduceIte, jA, jM, jS, jL, jD, jB, z0, hap, w1, hy, hne, hjl]; first | done | rfl) rfl (by simp only [go_sem, Nat.reduceLT]) ?_; simp only [go_sem, jE, reduceIte, jA, jM, jS, jL, jD, jB, z0, hap, w1, hy, hne, hjl]))
        exact Aw_ret (retL (M := [7, 8, 9, 34]) (.inl rfl) (by simp only [go_sem, jE, reduceIte, jA, jM, jS, jL, jD, jB]; first | done | rfl) rfl rfl (by rfl) (by simp only [go_sem, jE, reduceIte, jA, jM, jS, jL, jD, jB, List.map_append, List.map_cons, List.map_nil]; first | done | rfl | (and_intros <;> rfl)) (by decide) (by unfold idM; decide))
  by_cases hz : s.times = []
  · have hh : heldTs s = s.times ++ [s.time] := by unfold heldTs; rw [hz]; simp
    rw [hh]
    exact hapA (.inl hz)
  · obtain ⟨j, hj⟩ : ∃ j, s.times.length = j + 1 := ⟨s.times.length - 1, by have := List.length_pos_iff.2 hz; omega⟩
    obtain ⟨y, hy⟩ : ∃ y, s.times[j]? = some y := ⟨_, List.getElem?_eq_getElem (by omega)⟩
    have hlast : s.times.getLast? = some y := by rw [List.getLast?_eq_getElem?, hj]; exact hy
    cases c3 : decide (y = s.time)
    · have hh : heldTs s = s.times ++ [s.time] := by
        unfold heldTs; rw [hlast, if_neg]
        intro e; rw [Option.some.inj e] at c3; simp at c3
      rw [hh]
      exact hapA (.inr ⟨j, y, hj, hy, c3⟩)
    · have hh : heldTs s = s.times := by unfold heldTs; rw [hlast, of_decide_eq_true c3, if_pos rfl]
      rw [hh]
      have k4 := (l12Times_ac s.times s.time (by omega)).toL0
      have z0 : decide (((s.times.length : Nat) : Int) = 0) = false := decide_eq_false (by omega)
      have w1 : IntKind.i64.wrap (((s.times.length : Nat) : Int) - 1) = (j : Int) := by rw [hj]; exact wrap_pred (m := j + 1) (by omega) (by omega)
      have hjl : j < s.times.length := by omega
      cases c2 : timesM s.times s.time
      · rw [c2] at k4
        refine ⟨fun x hx => by simp at hx, fun _ => ?_⟩
        refine AC_of Try.func6 rfl Try.ntmps6 Try.results6 (by kernel_rfl) rfl ?_
        simp only [List.zipIdx, List.map, Nat.zero_add, Nat.reduceAdd]
        repeat (first | apply Aw_seq | apply Aw_block | apply Aw_skip | apply Aw_exit | refine Aw_condt rfl ?_ | refine Aw_condf rfl ?_ | ((first | refine qr ?_ | refine qd (by kernel_rfl) (by kernel_rfl) ?_); simp only [go_sem, jE, reduceIte, jA, jM, jS, jL, jD, jB, z0, w1, hy, c3, hjl]) | refine dk (by kernel_rfl) ?_ | (refine qp (k1) (by simp only [go_sem, jE, reduceIte, jA, jM, jS, jL, jD, jB, z0, w1, hy, c3, hjl]; first | done | rfl) rfl (by simp only [go_sem, Nat.reduceLT]) rfl rfl ?_; simp only [go_sem, jE, reduceIte, jA, jM, jS, jL, jD, jB, z0, w1, hy, c3, hjl]) | (refine qx (call_N (L := []) (k3) rfl (.cons (.nm rfl) (.nil)) (.inl rfl) rfl) (by simp only [go_sem, jE, reduceIte, jA, jM, jS, jL, jD, jB, z0, w1, hy, c3, hjl]; first | done | rfl) rfl (by simp only [go_sem, Nat.reduceLT]) ?_; simp only [go_sem, jE, reduceIte, jA, jM, jS, jL, jD, jB, z0, w1, hy, c3, hjl]) | (refine qx (call_N (L := [10]) (k4) rfl (.cons (arg_lend (m := 10) rfl (by simp)) (.cons (.nm rfl) (.nil))) (.inr ⟨rfl, by simp⟩) rfl) (by simp only [go_sem, jE, reduceIte, jA, jM, jS, jL, jD, jB, z0, w1, hy, c3, hjl]; first | done | rfl) rfl (by simp only [go_sem, Nat.reduceLT]) ?_; simp only [go_sem, jE, reduceIte, jA, jM, jS, jL, jD, jB, z0, w1, hy, c3, hjl]))
        exact Aw_ret (ret0 (.inl rfl) (by simp only [go_sem, jE, reduceIte, jA, jM, jS, jL, jD, jB]; rfl) (by rfl) rfl)
      · rw [c2] at k4
        refine ⟨fun x hx => ?_, fun hx => by simp at hx⟩
        obtain rfl := Option.some.inj (show some { s with times := s.times } = some x from hx)
        refine AC_of Try.func6 rfl Try.ntmps6 Try.results6 (by kernel_rfl) rfl ?_
        simp only [List.zipIdx, List.map, Nat.zero_add, Nat.reduceAdd]
        repeat (first | apply Aw_seq | apply Aw_block | apply Aw_skip | apply Aw_exit | refine Aw_condt rfl ?_ | refine Aw_condf rfl ?_ | ((first | refine qr ?_ | refine qd (by kernel_rfl) (by kernel_rfl) ?_); simp only [go_sem, jE, reduceIte, jA, jM, jS, jL, jD, jB, z0, w1, hy, c3, hjl]) | refine dk (by kernel_rfl) ?_ | (refine qp (k1) (by simp only [go_sem, jE, reduceIte, jA, jM, jS, jL, jD, jB, z0, w1, hy, c3, hjl]; first | done | rfl) rfl (by simp only [go_sem, Nat.reduceLT]) rfl rfl ?_; simp only [go_sem, jE, reduceIte, jA, jM, jS, jL, jD, jB, z0, w1, hy, c3, hjl]) | (refine qx (call_N (L := []) (k3) rfl (.cons (.nm rfl) (.nil)) (.inl rfl) rfl) (by simp only [go_sem, jE, reduceIte, jA, jM, jS, jL, jD, jB, z0, w1, hy, c3, hjl]; first | done | rfl) rfl (by simp only [go_sem, Nat.reduceLT]) ?_; simp only [go_sem, jE, reduceIte, jA, jM, jS, jL, jD, jB, z0, w1, hy, c3, hjl]) | (refine qx (call_N (L := [10]) (k4) rfl (.cons (arg_lend (m := 10) rfl (by simp)) (.cons (.nm rfl) (.nil))) (.inr ⟨rfl, by simp⟩) rfl) (by simp only [go_sem, jE, reduceIte, jA, jM, jS, jL, jD, jB, z0, w1, hy, c3, hjl]; first | done | rfl) rfl (by simp only [go_sem, Nat.reduceLT]) ?_; simp only [go_sem, jE, reduceIte, jA, jM, jS, jL, jD, jB, z0, w1, hy, c3, hjl]))
        exact Aw_ret (retL (M := [7, 8, 9, 10]) (.inl rfl) (by simp only [go_sem, jE, reduceIte, jA, jM, jS, jL, jD, jB]; first | done | rfl) rfl rfl (by rfl) (by simp only [go_sem, jE, reduceIte, jA, jM, jS, jL, jD, jB]; first | done | rfl | (and_intros <;> rfl)) (by decide) (by unfold idM; decide))
def stHd (s : Sto) : Obj := ⟨33, 6, false, [[.h 5, .h 0, .h 1, .d (.s (.int .i64 s.keep)), .d (.s (.int .i64 s.time)), .h 6]]⟩
@[go_sem] theorem r_stHd (s : Sto) : stHd s = ⟨33, 6, false, [[.h 5, .h 0, .h 1, .d (.s (.int .i64 s.keep)), .d (.s (.int .i64 s.time)), .h 6]]⟩ := rfl
structure Deed where
  kind : Int
  key : ByteArray
  num : Int
def deedD (d : Deed) : List D := [.s (.int .i64 d.kind), .s (.string d.key), .s (.int .i64 d.num)]
@[go_sem] theorem r_deedD (d : Deed) : deedD d = [.s (.int .i64 d.kind), .s (.string d.key), .s (.int .i64 d.num)] := rfl
theorem cloneInts_ac (ts : List Int) (hl : ts.length ≤ 100000) : AC Try.prog 80 [intsT ts] noHp 0 ⟨.t (.c (.h 0)), hpL [some (tmRow ts)], 1⟩ := by
  refine AC_of Try.func80 rfl Try.ntmps80 Try.results80 (by kernel_rfl) rfl ?_
  simp only [List.zipIdx, List.map, Nat.zero_add, Nat.reduceAdd]
  have hb : ts.length * 8 ≤ 140737488355328 := by omega
  repeat (first | apply Aw_seq | apply Aw_block | apply Aw_skip | apply Aw_exit | refine Aw_condt rfl ?_ | refine Aw_condf rfl ?_ | ((first | refine qr ?_ | refine qd (by kernel_rfl) (by kernel_rfl) ?_); simp only [go_sem, jE, reduceIte, jA, jM, jS, jL, jD, jB, hb]) | refine dk (by kernel_rfl) ?_)
  exact Aw_ret (retL (M := [2]) (.inl rfl) (by simp only [go_sem, jE, reduceIte, jA, jM, jS, jL, jD, jB]; first | done | rfl) rfl rfl (by rfl) (by simp only [go_sem, jE, reduceIte, jA, jM, jS, jL, jD, jB]; first | done | rfl | (and_intros <;> rfl)) (by decide) (by unfold idM; decide))
theorem svClone_ac (x : Sve) (hl : x.rests.length ≤ 1099511627776) : AC Try.prog 81 [sveP x] noHp 0 ⟨.t (.agg [.d (.s (.string x.letters)), .d (.s (.string x.more)), .d (.s (.string x.first)), .h 0, .d (.s (.int .i64 x.keep))]), hpL [some (kRow x.rests)], 1⟩ := by
  refine AC_of Try.func81 rfl Try.ntmps81 Try.results81 (by kernel_rfl) rfl ?_
  simp only [List.zipIdx, List.map, Nat.zero_add, Nat.reduceAdd]
  have hb : x.rests.length * 16 ≤ 140737488355328 := by omega
  repeat (first | apply Aw_seq | apply Aw_block | apply Aw_skip | apply Aw_exit | refine Aw_condt rfl ?_ | refine Aw_condf rfl ?_ | ((first | refine qr ?_ | refine qd (by kernel_rfl) (by kernel_rfl) ?_); simp only [go_sem, jE, reduceIte, jA, jM, jS, jL, jD, jB, hb]) | refine dk (by kernel_rfl) ?_)
  exact Aw_ret (retL (M := [4]) (.inl rfl) (by simp only [go_sem, jE, reduceIte, jA, jM, jS, jL, jD, jB]; first | done | rfl) rfl rfl (by rfl) (by simp only [go_sem, jE, reduceIte, jA, jM, jS, jL, jD, jB]; first | done | rfl | (and_intros <;> rfl)) (by decide) (by unfold idM; decide))
def svN (x : Sve) (j : Nat) : List CV := [.d (.s (.string x.letters)), .d (.s (.string x.more)), .d (.s (.string x.first)), .h j, .d (.s (.int .i64 x.keep))]
def cloS (top a b c : List Ent) (x y z : Sve) (ts : List Int) : List (Option Obj) := [some (eRow top), some ⟨29, 1, true, [[.h 4], [.h 5], [.h 6]]⟩, some ⟨78, 5, true, [svN x 7, svN y 8, svN z 9]⟩,
        some (tmRow ts), some (eRow a), some (eRow b), some (eRow c), some (kRow x.rests), some (kRow y.rests), some (kRow z.rests)]
theorem storeClone_ac (top a b c : List Ent) (x y z : Sve) (keep time : Int) (ts : List Int) (h0 : top.length ≤ 100000) (h1 : a.length ≤ 100000) (h2 : b.length ≤ 100000) (h3 : c.length ≤ 100000) (h4 : x.rests.length ≤ 1099511627776) (h5 : y.rests.length ≤ 1099511627776) (h6 : z.rests.length ≤ 1099511627776) (h7 : ts.length ≤ 100000) :
    AC Try.prog 51 [stT ⟨top, [a, b, c], [x, y, z], keep, time, ts⟩] noHp 0 ⟨.t (.agg [.h 0, .h 1, .h 2, .d (.s (.int .i64 keep)), .d (.s (.int .i64 time)), .h 3]), hpL (cloS top a b c x y z ts), 10⟩ := by
  have k0 := cloneRun_ac top h0
  have k1 := cloneInts_ac ts h7
  have k2 := cloneRun_ac a h1
  have k3 := cloneRun_ac b h2
  have k4 := cloneRun_ac c h3
  have k5 := svClone_ac x h4
  have k6 := svClone_ac y h5
  have k7 := svClone_ac z h6
  have l0 : decide ((0 : Int) < 3) = true := rfl
  have l1 : decide ((1 : Int) < 3) = true := rfl
  have l2 : decide ((2 : Int) < 3) = true := rfl
  have l3 : decide ((3 : Int) < 3) = false := rfl
  have w0 : IntKind.i64.wrap ((0 : Int) + 1) = 1 := rfl
  have w1 : IntKind.i64.wrap ((1 : Int) + 1) = 2 := rfl
  have w2 : IntKind.i64.wrap ((2 : Int) + 1) = 3 := rfl
  unfold cloS svN
  refine AC_of Try.func51 rfl Try.ntmps51 Try.results51 (by kernel_rfl) rfl ?_
  simp only [List.zipIdx, List.map, Nat.zero_add, Nat.reduceAdd]
  repeat (first | apply Aw_seq | apply Aw_block | apply Aw_skip | apply Aw_exit | refine Aw_condt rfl ?_ | refine Aw_condf rfl ?_ | ((first | refine qr ?_ | refine qd (by kernel_rfl) (by kernel_rfl) ?_); simp only [go_sem, jE, reduceIte, jA, jM, jS, jL, jD, jB]) | refine dk (by kernel_rfl) ?_ | (refine qx (call_N (L := []) (k0) rfl (.cons (.nm rfl) (.nil)) (.inl rfl) rfl) (by simp only [go_sem, jE, reduceIte, jA, jM, jS, jL, jD, jB]; first | done | rfl) rfl (by simp only [go_sem, Nat.reduceLT]) ?_; simp only [go_sem, jE, reduceIte, jA, jM, jS, jL, jD, jB]) | (refine qx (call_N (L := []) (k1) rfl (.cons (.nm rfl) (.nil)) (.inl rfl) rfl) (by simp only [go_sem, jE, reduceIte, jA, jM, jS, jL, jD, jB]; first | done | rfl) rfl (by simp only [go_sem, Nat.reduceLT]) ?_; simp only [go_sem, jE, reduceIte, jA, jM, jS, jL, jD, jB]))
  refine Aw.ownC (m := 13) (i := 1) (e := 29) (j := 1) rfl rfl (by decide) (by simp only [Nat.reduceAdd]; rfl) rfl ?_
  refine Aw.ownC (m := 13) (i := 2) (e := 78) (j := 5) rfl rfl (by decide) (by simp only [Nat.reduceAdd]; rfl) rfl ?_
  refine Aw_rounds 4 ?_
  refine AwR_succ ?_
  repeat (first | apply Aw_seq | apply Aw_block | apply Aw_skip | apply Aw_exit | refine Aw_condt rfl ?_ | refine Aw_condf rfl ?_ | ((first | refine qr ?_ | refine qd (by kernel_rfl) (by kernel_rfl) ?_); simp only [go_sem, jE, reduceIte, jA, jM, jS, jL, jD, jB, l0, l1, l2, l3, w0, w1, w2]) | refine dk (by kernel_rfl) ?_ | (refine qx (call_N (L := []) (k2) rfl (.cons (.nm rfl) (.nil)) (.inl rfl) rfl) (by simp only [go_sem, jE, reduceIte, jA, jM, jS, jL, jD, jB, l0, l1, l2, l3, w0, w1, w2]; first | done | rfl) rfl (by simp only [go_sem, Nat.reduceLT]) ?_; simp only [go_sem, jE, reduceIte, jA, jM, jS, jL, jD, jB, l0, l1, l2, l3, w0, w1, w2]) | (refine qx (call_N (L := []) (k5) rfl (.cons (.nm rfl) (.nil)) (.inl rfl) rfl) (by simp only [go_sem, jE, reduceIte, jA, jM, jS, jL, jD, jB, l0, l1, l2, l3, w0, w1, w2]; first | done | rfl) rfl (by simp only [go_sem, Nat.reduceLT]) ?_; simp only [go_sem, jE, reduceIte, jA, jM, jS, jL, jD, jB, l0, l1, l2, l3, w0, w1, w2]) | (refine qx (call_N (L := []) (k3) rfl (.cons (.nm rfl) (.nil)) (.inl rfl) rfl) (by simp only [go_sem, jE, reduceIte, jA, jM, jS, jL, jD, jB, l0, l1, l2, l3, w0, w1, w2]; first | done | rfl) rfl (by simp only [go_sem, Nat.reduceLT]) ?_; simp only [go_sem, jE, reduceIte, jA, jM, jS, jL, jD, jB, l0, l1, l2, l3, w0, w1, w2]) | (refine qx (call_N (L := []) (k6) rfl (.cons (.nm rfl) (.nil)) (.inl rfl) rfl) (by simp only [go_sem, jE, reduceIte, jA, jM, jS, jL, jD, jB, l0, l1, l2, l3, w0, w1, w2]; first | done | rfl) rfl (by simp only [go_sem, Nat.reduceLT]) ?_; simp only [go_sem, jE, reduceIte, jA, jM, jS, jL, jD, jB, l0, l1, l2, l3, w0, w1, w2]) | (refine qx (call_N (L := []) (k4) rfl (.cons (.nm rfl) (.nil)) (.inl rfl) rfl) (by simp only [go_sem, jE, reduceIte, jA, jM, jS, jL, jD, jB, l0, l1, l2, l3, w0, w1, w2]; first | done | rfl) rfl (by simp only [go_sem, Nat.reduceLT]) ?_; simp only [go_sem, jE, reduceIte, jA, jM, jS, jL, jD, jB, l0, l1, l2, l3, w0, w1, w2]) | (refine qx (call_N (L := []) (k7) rfl (.cons (.nm rfl) (.nil)) (.inl rfl) rfl) (by simp only [go_sem, jE, reduceIte, jA, jM, jS, jL, jD, jB, l0, l1, l2, l3, w0, w1, w2]; first | done | rfl) rfl (by simp only [go_sem, Nat.reduceLT]) ?_; simp only [go_sem, jE, reduceIte, jA, jM, jS, jL, jD, jB, l0, l1, l2, l3, w0, w1, w2]))
  exact Aw_ret (retL (M := [4, 88, 100, 11, 30, 58, 86, 42, 70, 98]) (.inl rfl) (by simp only [go_sem, jE, reduceIte, jA, jM, jS, jL, jD, jB]; first | done | rfl) rfl rfl (by rfl) (by simp only [go_sem, jE, reduceIte, jA, jM, jS, jL, jD, jB]; first | done | rfl | (and_intros <;> rfl)) (by decide) (by unfold idM; decide))
def sEls : Nat → List Sve → List (List CV)
  | _, [] => []
  | b, x :: l => svN x b :: sEls (b + 1) l
theorem sEls_app : ∀ (a c : List Sve) (b : Nat), sEls b (a ++ c) = sEls b a ++ sEls (b + a.length) c
  | [], c, b => rfl
  | x :: a, c, b => by simp only [List.cons_append, sEls, List.length_cons]; rw [sEls_app a c, show b + 1 + a.length = b + (a.length + 1) by omega]
theorem sEls_len : ∀ (a : List Sve) (b : Nat), (sEls b a).length = a.length
  | [], _ => rfl
  | x :: a, b => by simp only [sEls, List.length_cons]; rw [sEls_len a]
theorem sEls_get : ∀ (a : List Sve) (b i : Nat) {x : Sve}, a[i]? = some x → (sEls b a)[i]? = some (svN x (b + i))
  | [], b, i, x, h => by simp at h
  | y :: a, b, 0, x, h => by simp at h; subst h; rfl
  | y :: a, b, i + 1, x, h => by
    have := sEls_get a (b + 1) i (by simpa using h)
    simpa [sEls, show b + (i + 1) = b + 1 + i by omega] using this
theorem sEls_set : ∀ (a : List Sve) (b i : Nat) (x : Sve), (sEls b a).set i (svN x (b + i)) = sEls b (a.set i x)
  | [], b, i, x => rfl
  | y :: a, b, 0, x => rfl
  | y :: a, b, i + 1, x => by
    have := sEls_set a (b + 1) i x
    simp only [sEls, List.set_cons_succ]
    rw [show b + (i + 1) = b + 1 + i by omega, this]
theorem sEls_bd : ∀ (a : List Sve) (b k : Nat), b + a.length ≤ k → (sEls b a).all (·.all (CV.bd k)) = true
  | [], _, _, _ => rfl
  | x :: a, b, k, h => by
    simp only [List.length_cons] at h
    simp only [sEls, List.all_cons, sEls_bd a (b + 1) k (by omega), Bool.and_true]
    simp [svN, CV.bd]; omega
def zCel : List CV := [.d (.s (.string zs)), .d (.s (.string zs)), .d (.s (.string zs)), .d (.s (.slice none 0 0)), .d (.s (.int .i64 0))]
def zEls (i : Nat) (r : List Sve) : List (List CV) := sEls 1 (r.take i) ++ List.replicate (r.length - i) zCel
def zRow (i : Nat) (r : List Sve) : Obj := ⟨78, 5, true, zEls i r⟩
@[go_sem] theorem r_zRow (i : Nat) (r : List Sve) : zRow i r = ⟨78, 5, true, zEls i r⟩ := rfl
theorem zE_0 (r : List Sve) : List.replicate r.length [CV.d (.s (.string zs)), .d (.s (.string zs)), .d (.s (.string zs)), .d (.s (.slice none 0 0)), .d (.s (.int .i64 0))] = zEls 0 r := by simp [zEls, zCel, sEls]
theorem zE_len {i : Nat} {r : List Sve} (h : i ≤ r.length) : (zEls i r).length = r.length := by simp [zEls, sEls_len]; omega
theorem zE_get {i : Nat} {r : List Sve} (h : i < r.length) : (zEls i r)[i]? = some [.d (.s (.string zs)), .d (.s (.string zs)), .d (.s (.string zs)), .d (.s (.slice none 0 0)), .d (.s (.int .i64 0))] := by
  unfold zEls
  rw [List.getElem?_append_right (by rw [sEls_len]; simp; omega), List.getElem?_replicate, sEls_len]
  simp [zCel]; omega
theorem zE_set {i : Nat} {r : List Sve} {x : Sve} (h : r[i]? = some x) : (zEls i r).set i (svN x (i + 1)) = zEls (i + 1) r := by
  have hi := (List.getElem?_eq_some_iff.1 h).1
  unfold zEls
  rw [List.set_append_right _ _ (by rw [sEls_len]; simp; omega), sEls_len, show r.length - i = (r.length - (i + 1)) + 1 by omega, List.replicate_succ, List.take_add_one, h, sEls_app]
  simp [Nat.min_eq_left (Nat.le_of_lt hi), sEls, show 1 + i = i + 1 by omega]
def svOs (i : Nat) (r : List Sve) : List (Option Obj) := some (zRow i r) :: (r.take i).map fun x => some (kRow x.rests)
theorem zE_r0 (r : List Sve) (π : Nat → Nat) : (zEls 0 r).map (fun x => x.map (CV.ren π)) = zEls 0 r := by simp [zEls, zCel, sEls, CV.ren]
theorem zE_a0 (r : List Sve) : ((zEls 0 r).all fun x => x.all (CV.bd 1)) = true := by simp [zEls, zCel, sEls, CV.bd]
theorem zE_all {i k : Nat} {r : List Sve} (h : i < k) (hi : i ≤ r.length) : (zEls i r).all (·.all (CV.bd k)) = true := by
  unfold zEls
  rw [List.all_append, sEls_bd _ 1 k (by simp; omega), Bool.true_and]
  simp [List.all_replicate, zCel, CV.bd]
theorem zE_ren {i N : Nat} {r : List Sve} {x : Sve} (h : i < r.length) (hx : r[i]? = some x) (hN : i < N) : (zRow (i + 1) r).ren (pin (List.range (i + 1) ++ [N])) = ⟨78, 5, true, (zEls i r).set i (svN x N)⟩ := by
  simp only [Obj.ren, zRow, Obj.mk.injEq, true_and]
  rw [← zE_set hx, List.map_set]
  congr 1
  · refine (List.map_congr_left fun cs hcs => ?_).trans (List.map_id _)
    have := List.all_eq_true.1 (zE_all (k := i + 1) (Nat.lt_succ_self i) (Nat.le_of_lt h)) cs hcs
    exact (List.map_congr_left fun p hp => CV.ren_idn (fun m hm => pinM_le (by omega)) (List.all_eq_true.1 this p hp)).trans (List.map_id _)
  · simp [svN, CV.ren, pinM_top]
theorem ren_kRow (r : List ByteArray) (π : Nat → Nat) : (kRow r).ren π = kRow r := dRow_ren _ _ _ _
theorem svOs_rw {i N : Nat} {r : List Sve} {x : Sve} (h : i < r.length) (hx : r[i]? = some x) (hN : i < N) : ∀ m o, hpL (svOs (i + 1) r) m = some o → (m ≤ i ∧ upd (upd (hpL (svOs i r)) N (some (dRow 9 1 (x.rests.map strD)))) 0 (some ⟨78, 5, true, (zEls i r).set i (svN x N)⟩) m = some (o.ren (pin (List.range (i + 1) ++ [N]))) ∨ m = i + 1 ∧ upd (upd (hpL (svOs i r)) N (some (dRow 9 1 (x.rests.map strD)))) 0 (some ⟨78, 5, true, (zEls i r).set i (svN x N)⟩) N = some (o.ren (pin (List.range (i + 1) ++ [N])))) ∧ o.bd (i + 2) = true := by
  intro m o hm
  rw [hpL_get] at hm
  rcases m with _ | m
  · simp only [svOs, List.getElem?_cons_zero, Option.some.injEq] at hm
    subst hm
    exact ⟨.inl ⟨Nat.zero_le _, by rw [upd_same, zE_ren h hx hN]⟩, zE_all (by omega) (by omega)⟩
  · simp only [svOs, List.getElem?_cons_succ, List.getElem?_map] at hm
    obtain ⟨y, hy, ho⟩ := Option.map_eq_some_iff.1 hm
    obtain rfl := Option.some.inj ho
    refine ⟨?_, bd_kRow _ _⟩
    rw [ren_kRow]
    rw [List.getElem?_take] at hy
    split at hy
    · rename_i hlt
      by_cases e : m = i
      · subst e
        rw [hx] at hy; obtain rfl := Option.some.inj hy
        exact .inr ⟨rfl, by rw [upd_ne _ _ (by omega), upd_same]; rfl⟩
      · refine .inl ⟨by omega, ?_⟩
        rw [upd_ne _ _ (by omega), upd_ne _ _ (by omega), hpL_get]
        simp [svOs, List.getElem?_take, hy]
        omega
    · cases hy
def svF (r : List Sve) : List (Option Obj) := some ⟨78, 5, true, sEls 1 r⟩ :: r.map fun x => some (kRow x.rests)
theorem svF_os (r : List Sve) : svOs r.length r = svF r := by simp [svOs, svF, zRow, zEls]
theorem svF_len (r : List Sve) : (svF r).length = r.length + 1 := by simp [svF]
theorem svF_bd {r : List Sve} {m : Nat} {o : Obj} (h : hpL (svF r) m = some o) : m < r.length + 1 ∧ o.bd (r.length + 1) = true := by
  have hg := hpL_get.1 h
  refine ⟨by have := (List.getElem?_eq_some_iff.1 hg).1; rwa [svF_len] at this, ?_⟩
  rcases m with _ | m
  · simp only [svF, List.getElem?_cons_zero, Option.some.injEq] at hg
    subst hg
    exact sEls_bd r 1 _ (by omega)
  · simp only [svF, List.getElem?_cons_succ, List.getElem?_map] at hg
    obtain ⟨x, _, hx⟩ := Option.map_eq_some_iff.1 hg
    rw [← Option.some.inj hx]; exact bd_kRow _ _
theorem toSieveO_ac (x : Sve) (hl : x.rests.length ≤ 1048576) : AC Try.prog 49 [sveP x] noHp 0 ⟨.t (.agg [.d (.s (.string x.letters)), .d (.s (.string x.more)), .d (.s (.string x.first)), .h 0, .d (.s (.int .i64 x.keep))]), hpL [some (kRow x.rests)], 1⟩ := by
  have k := toStringSR_ac x.rests hl
  refine AC_of Try.func49 rfl Try.ntmps49 Try.results49 (by kernel_rfl) rfl ?_
  simp only [List.zipIdx, List.map, Nat.zero_add, Nat.reduceAdd]
  repeat (first | apply Aw_seq | apply Aw_block | apply Aw_skip | apply Aw_exit | refine Aw_condt rfl ?_ | refine Aw_condf rfl ?_ | ((first | refine qr ?_ | refine qd (by kernel_rfl) (by kernel_rfl) ?_); simp only [go_sem, jE, reduceIte, jA, jM, jS, jL, jD, jB]) | refine dk (by kernel_rfl) ?_ | (refine qx (call_N (L := []) (k) rfl (.cons (.nm rfl) (.nil)) (.inl rfl) rfl) (by simp only [go_sem, jE, reduceIte, jA, jM, jS, jL, jD, jB]; first | done | rfl) rfl (by simp only [go_sem, Nat.reduceLT]) ?_; simp only [go_sem, jE, reduceIte, jA, jM, jS, jL, jD, jB]))
  exact Aw_ret (retL (M := [17]) (.inl rfl) (by simp only [go_sem, jE, reduceIte, jA, jM, jS, jL, jD, jB]; first | done | rfl) rfl rfl (by rfl) (by simp only [go_sem, jE, reduceIte, jA, jM, jS, jL, jD, jB]; first | done | rfl | (and_intros <;> rfl)) (by decide) (by unfold idM; decide))
theorem toSieveSO_ac (r : List Sve) (hl : r.length ≤ 1048576) (he : ∀ e ∈ r, e.rests.length ≤ 1048576) : AC Try.prog 23 [svsT r] noHp 0 ⟨.t (.c (.h 0)), hpL (svF r), r.length + 1⟩ := by
  refine AC_of Try.func23 rfl Try.ntmps23 Try.results23 (by kernel_rfl) rfl ?_
  simp only [List.zipIdx, List.map, Nat.zero_add, Nat.reduceAdd]
  have t0 : ((r.length : Nat) : Int).toNat = r.length := rfl
  have t1 : (0 : Int) ≤ ((r.length : Nat) : Int) := by omega
  have t2 : ((r.length : Nat) : Int) ≤ 140737488355328 := by omega
  have t3 : decide (r.length * 80 ≤ 140737488355328) = true := decide_eq_true (by omega)
  have t4 := of_decide_eq_true t3
  have t5 := zE_0 r
  repeat (first | apply Aw_seq | apply Aw_block | apply Aw_skip | apply Aw_exit | refine Aw_condt rfl ?_ | refine Aw_condf rfl ?_ | ((first | refine qr ?_ | refine qd (by kernel_rfl) (by kernel_rfl) ?_); simp only [go_sem, jE, reduceIte, jA, jM, jS, jL, jD, jB, t0, t1, t2, t4]) | refine dk (by kernel_rfl) ?_)
  refine Aw.rw (rwL (l' := [(4, .t (iT (0 : Nat))), (3, .t (.c (.h 0))), (0, .t (svsT r))]) (os := [some (zRow 0 r)]) (M := [3]) (n' := 1) (by repeat (first | exact trivial | refine ⟨rfl, rfl, ?_⟩)) (by rfl) (by simp only [go_sem, jE, reduceIte, jA, jM, jS, jL, jD, jB, t5, zE_r0, zE_a0]; first | done | rfl) (by decide) (by unfold idM; decide)) ?_
  refine Aw_loop_rw (ι := { j : Nat // j ≤ r.length }) (fun j => S [(4, .t (iT (j.1 : Nat))), (3, .t (.c (.h 0))), (0, .t (svsT r))] (hpL (svOs j.1 r)) (j.1 + 1)) (fun j => r.length - j.1) ⟨0, Nat.zero_le _⟩ ?_
  rintro ⟨i, hi⟩
  dsimp only
  by_cases hlt : i < r.length
  · have h1 : (i : Int) < (r.length : Int) := by omega
    have h2 := wrap_succ hlt (by omega)
    obtain ⟨e, hx⟩ : ∃ e, r[i]? = some e := ⟨_, List.getElem?_eq_getElem hlt⟩
    have kk := toSieveO_ac e (he e (List.mem_of_getElem? hx))
    have g0 : hpL (svOs i r) 0 = some (zRow i r) := rfl
    have g1 := zE_len hi
    have g2 := zE_get hlt
    have g4 : (0 = i + 1) = False := eq_false (by omega)
    repeat (first | apply Aw_seq | apply Aw_block | apply Aw_skip | apply Aw_exit | refine Aw_condt rfl ?_ | refine Aw_condf rfl ?_ | ((first | refine qr ?_ | refine qd (by kernel_rfl) (by kernel_rfl) ?_); simp only [go_sem, jE, reduceIte, jA, jM, jS, jL, jD, jB, h1, h2, hx, hlt, g0, g1, g2, g4, t0]) | refine dk (by kernel_rfl) ?_ | (refine qx (call_N (L := []) (kk) rfl (.cons (.nm rfl) (.nil)) (.inl rfl) rfl) (by simp only [go_sem, jE, reduceIte, jA, jM, jS, jL, jD, jB, h1, h2, hx, hlt, g0, g1, g2, g4, t0]; first | done | rfl) rfl (by simp only [go_sem, Nat.reduceLT]) ?_; simp only [go_sem, jE, reduceIte, jA, jM, jS, jL, jD, jB, h1, h2, hx, hlt, g0, g1, g2, g4, t0]))
    refine ⟨⟨i + 1, hlt⟩, _, ?_, rwOne (i := i) (N := i + 1 + 1 + 1 + 1 + 1 + 1 + 1 + 1 + 1 + 1 + 1) (by omega) (by repeat (first | exact trivial | refine ⟨rfl, ?_⟩)) (by simp [AV.bd, TV.bd, CV.bd]) (svOs_rw hlt hx (by omega)) (Nat.le_refl _)⟩
    show r.length - (i + 1) < r.length - i; omega
  · have h1 : ¬ (i : Int) < (r.length : Int) := by omega
    obtain rfl : i = r.length := by omega
    repeat (first | apply Aw_seq | apply Aw_block | apply Aw_skip | apply Aw_exit | refine Aw_condt rfl ?_ | refine Aw_condf rfl ?_ | ((first | refine qr ?_ | refine qd (by kernel_rfl) (by kernel_rfl) ?_); simp only [go_sem, jE, reduceIte, jA, jM, jS, jL, jD, jB, h1]) | refine dk (by kernel_rfl) ?_)
    rw [svF_os]
    exact Aw_ret (retI (.inl rfl) rfl (by simp [AV.bd, TV.bd, CV.bd]) (fun m o hm => ⟨hm, svF_bd hm⟩) (Nat.zero_le _))
def markSv (q : Nat) (x : Sve) : Sve := ⟨markT q, markT (q + 1), markT (q + 2), mStrs (q + 3) x.rests.length, ((q + 3 + x.rests.length : Nat) : Int)⟩
def kS (q : Nat) (l : List Sve) : Nat := l.foldl (fun k x => k + 4 + x.rests.length) q
def markSs : Nat → List Sve → List Sve
  | _, [] => []
  | q, x :: l => markSv q x :: markSs (q + 4 + x.rests.length) l
theorem kS_app (q : Nat) (a b : List Sve) : kS q (a ++ b) = kS (kS q a) b := by simp [kS]
theorem kS_le : ∀ (l : List Sve) (q : Nat), q ≤ kS q l
  | [], q => Nat.le_refl _
  | x :: l, q => Nat.le_trans (by omega) (kS_le l (q + 4 + x.rests.length))
theorem kS_take (l : List Sve) (q i : Nat) : kS q (l.take i) ≤ kS q l := by
  conv => rhs; rw [← List.take_append_drop i l, kS_app]
  exact kS_le _ _
theorem kS_succ {l : List Sve} {q i : Nat} {x : Sve} (h : l[i]? = some x) : kS q (l.take (i + 1)) = kS q (l.take i) + 4 + x.rests.length := by
  rw [List.take_add_one, h, kS_app]; rfl
theorem markSs_app : ∀ (a b : List Sve) (q : Nat), markSs q (a ++ b) = markSs q a ++ markSs (kS q a) b
  | [], b, q => rfl
  | x :: a, b, q => by simp only [List.cons_append, markSs]; rw [markSs_app a b]; rfl
theorem markSs_len : ∀ (l : List Sve) (q : Nat), (markSs q l).length = l.length
  | [], _ => rfl
  | x :: l, q => by simp only [markSs, List.length_cons]; rw [markSs_len l]
def mSs (q i : Nat) (r : List Sve) : List Sve := markSs q (r.take i) ++ r.drop i
theorem mSs_0 (q : Nat) (r : List Sve) : mSs q 0 r = r := by simp [mSs, markSs]
theorem mSs_end (q : Nat) (r : List Sve) : mSs q r.length r = markSs q r := by simp [mSs]
theorem mSs_len {q i : Nat} {r : List Sve} : (mSs q i r).length = r.length := by simp [mSs, markSs_len]; omega
theorem mSs_get {q i : Nat} {r : List Sve} {x : Sve} (h : r[i]? = some x) : (mSs q i r)[i]? = some x := by
  have hi := (List.getElem?_eq_some_iff.1 h).1
  unfold mSs
  rw [List.getElem?_append_right (by rw [markSs_len]; simp; omega), markSs_len, drop_get h]
  simp [Nat.min_eq_left (Nat.le_of_lt hi)]
theorem mSs_set {q i : Nat} {r : List Sve} {x : Sve} (h : r[i]? = some x) : (mSs q i r).set i (markSv (kS q (r.take i)) x) = mSs q (i + 1) r := by
  have hi := (List.getElem?_eq_some_iff.1 h).1
  unfold mSs
  rw [List.set_append_right _ _ (by rw [markSs_len]; simp; omega), markSs_len, drop_get h, List.take_add_one, h, markSs_app]
  simp [Nat.min_eq_left (Nat.le_of_lt hi), markSs]
theorem svF_get {r : List Sve} {i : Nat} {x : Sve} (h : r[i]? = some x) : hpL (svF r) (i + 1) = some (kRow x.rests) := by
  rw [hpL_get]; simp [svF, h]
theorem svF_set {r : List Sve} {i : Nat} {x : Sve} (h : i < r.length) : upd (upd (hpL (svF r)) 0 (some ⟨78, 5, true, (sEls 1 r).set i (svN x (i + 1))⟩)) (i + 1) (some (kRow x.rests)) = hpL (svF (r.set i x)) := by
  rw [hpL_set (by simp [svF]), hpL_set (by simp [svF]; omega), show i + 1 = 1 + i by omega, sEls_set]
  simp [svF, List.map_set, show 1 + i = i + 1 by omega]
theorem markSieveSO_ac (r : List Sve) (q : Nat) (hl : r.length ≤ 1048576) (hq : kS q r ≤ 1099511627776) : AC Try.prog 33 [.c (.h 0), iT q] (hpL (svF r)) (r.length + 1) ⟨.t (iT ((kS q r : Nat) : Int)), hpL (svF (markSs q r)), r.length + 1⟩ := by
  refine AC_of Try.func33 rfl Try.ntmps33 Try.results33 (by kernel_rfl) rfl ?_
  simp only [List.zipIdx, List.map, Nat.zero_add, Nat.reduceAdd]
  repeat (first | apply Aw_seq | apply Aw_block | apply Aw_skip | apply Aw_exit | refine Aw_condt rfl ?_ | refine Aw_condf rfl ?_ | ((first | refine qr ?_ | refine qd (by kernel_rfl) (by kernel_rfl) ?_); simp only [go_sem, jE, reduceIte, jA, jM, jS, jL, jD, jB]) | refine dk (by kernel_rfl) ?_)
  have start : ∀ {P : Program} {N k : Nat} {x : Code} {Q : Exit → St → Prop}, Aw P N k x Q (S [(5, .t (iT (0 : Nat))), (1, .t (iT ((kS q (r.take 0) : Nat) : Int))), (0, .t (.c (.h 0)))] (hpL (svF (mSs q 0 r))) (r.length + 1)) → Aw P N k x Q (S [(5, .t (iT (0 : Nat))), (1, .t (iT (q : Nat))), (0, .t (.c (.h 0)))] (hpL (svF r)) (r.length + 1)) := by
    intro P N k x Q h
    rw [mSs_0] at h; exact h
  refine Aw.rw (rwI (l' := [(5, .t (iT (0 : Nat))), (1, .t (iT (q : Nat))), (0, .t (.c (.h 0)))]) (hp' := hpL (svF r)) (m' := r.length + 1) (n' := r.length + 1) (by repeat (first | exact trivial | refine ⟨rfl, ?_⟩)) (by simp [AV.bd, TV.bd, CV.bd]) (fun m o hm => ⟨hm, svF_bd hm⟩) (Nat.le_refl _) (Nat.le_refl _)) ?_
  refine start ?_
  refine Aw_loop_rw (ι := { j : Nat // j ≤ r.length }) (fun j => S [(5, .t (iT (j.1 : Nat))), (1, .t (iT ((kS q (r.take j.1) : Nat) : Int))), (0, .t (.c (.h 0)))] (hpL (svF (mSs q j.1 r))) (r.length + 1)) (fun j => r.length - j.1) ⟨0, Nat.zero_le _⟩ ?_
  rintro ⟨i, hi⟩
  dsimp only
  have gl : (mSs q i r).length = r.length := mSs_len
  by_cases hlt : i < r.length
  · have h1 : (i : Int) < (r.length : Int) := by omega
    have h2 := wrap_succ hlt (by omega)
    obtain ⟨e, hx⟩ : ∃ e, r[i]? = some e := ⟨_, List.getElem?_eq_getElem hlt⟩
    have hk := kS_succ (q := q) hx
    have hle := kS_take r q (i + 1)
    obtain ⟨p, hp⟩ : ∃ p, p = kS q (r.take i) := ⟨_, rfl⟩
    have hm := mSs_set (q := q) hx
    rw [← hp] at hk hm ⊢
    have w1 : IntKind.i64.wrap ((p : Int) + 1) = ((p + 1 : Nat) : Int) := wrap_succ (m := p + 1) (by omega) (by omega)
    have w2 : IntKind.i64.wrap (((p + 1 : Nat) : Int) + 1) = ((p + 2 : Nat) : Int) := wrap_succ (m := p + 2) (by omega) (by omega)
    have w3 : IntKind.i64.wrap (((p + 2 : Nat) : Int) + 1) = ((p + 3 : Nat) : Int) := wrap_succ (m := p + 3) (by omega) (by omega)
    have w4 : IntKind.i64.wrap (((p + 3 + e.rests.length : Nat) : Int) + 1) = ((kS q (r.take (i + 1)) : Nat) : Int) := by rw [hk, show p + 4 + e.rests.length = p + 3 + e.rests.length + 1 by omega]; exact wrap_succ (m := p + 3 + e.rests.length + 1) (by omega) (by omega)
    have k0 := markText_ac p (by omega)
    have k1 := markText_ac (p + 1) (by omega)
    have k2 := markText_ac (p + 2) (by omega)
    have k3 := markStringS_ac e.rests (p + 3) (by omega)
    have g0 : hpL (svF (mSs q i r)) 0 = some ⟨78, 5, true, sEls 1 (mSs q i r)⟩ := rfl
    have g1 : (sEls 1 (mSs q i r)).length = r.length := by rw [sEls_len, gl]
    have g2 := sEls_get _ 1 i (mSs_get (q := q) hx)
    rw [show 1 + i = i + 1 by omega] at g2
    unfold svN at g2
    have g3 := svF_get (mSs_get (q := q) hx)
    have g4 := set_get (L := sEls 1 (mSs q i r)) (i := i) (by omega)
    have g5 := svF_set (r := mSs q i r) (x := markSv p e) (i := i) (by omega)
    rw [hm, r_kRow] at g5
    unfold svN markSv at g5
    dsimp only at g5
    have g6 : (0 = i + 1) = False := eq_false (by omega)
    have g7 : (i + 1 = 0) = False := eq_false (by omega)
    have hh : ∀ x : Option Obj, HandL (upd (hpL (svF (mSs q i r))) 0 x) [i + 1] [i + 1] [some (dRow 9 1 (e.rests.map strD))] := fun x => ⟨by rw [upd_ne _ _ (by omega), g3, dRow_ren]; rfl, dRow_bd _ _ _ _, trivial⟩
    repeat (first | apply Aw_seq | apply Aw_block | apply Aw_skip | apply Aw_exit | refine Aw_condt rfl ?_ | refine Aw_condf rfl ?_ | ((first | refine qr ?_ | refine qd (by kernel_rfl) (by kernel_rfl) ?_); simp only [go_sem, jE, reduceIte, jA, jM, jS, jL, jD, jB, h1, h2, w1, w2, w3, w4, hlt, g0, g1, g2, g4, g6, g7, three0, List.length_set, List.set_set, upd_upd]) | refine dk (by kernel_rfl) ?_ | (refine qp (k0) (by simp only [go_sem, jE, reduceIte, jA, jM, jS, jL, jD, jB, h1, h2, w1, w2, w3, w4, hlt, g0, g1, g2, g4, g6, g7, three0, List.length_set, List.set_set, upd_upd]; first | done | rfl) rfl (by simp only [go_sem, Nat.reduceLT]) rfl rfl ?_; simp only [go_sem, jE, reduceIte, jA, jM, jS, jL, jD, jB, h1, h2, w1, w2, w3, w4, hlt, g0, g1, g2, g4, g6, g7, three0, List.length_set, List.set_set, upd_upd]) | (refine qp (k1) (by simp only [go_sem, jE, reduceIte, jA, jM, jS, jL, jD, jB, h1, h2, w1, w2, w3, w4, hlt, g0, g1, g2, g4, g6, g7, three0, List.length_set, List.set_set, upd_upd]; first | done | rfl) rfl (by simp only [go_sem, Nat.reduceLT]) rfl rfl ?_; simp only [go_sem, jE, reduceIte, jA, jM, jS, jL, jD, jB, h1, h2, w1, w2, w3, w4, hlt, g0, g1, g2, g4, g6, g7, three0, List.length_set, List.set_set, upd_upd]) | (refine qp (k2) (by simp only [go_sem, jE, reduceIte, jA, jM, jS, jL, jD, jB, h1, h2, w1, w2, w3, w4, hlt, g0, g1, g2, g4, g6, g7, three0, List.length_set, List.set_set, upd_upd]; first | done | rfl) rfl (by simp only [go_sem, Nat.reduceLT]) rfl rfl ?_; simp only [go_sem, jE, reduceIte, jA, jM, jS, jL, jD, jB, h1, h2, w1, w2, w3, w4, hlt, g0, g1, g2, g4, g6, g7, three0, List.length_set, List.set_set, upd_upd]) | (refine qx (call_L (N' := [i + 1]) (L := []) k3 rfl (.cons (.nm rfl) (.cons (.nm rfl) .nil)) (nd1 _) (lt1 (by omega)) (fun _ h => nomatch h) (hh _) (.inl rfl) rfl (Nat.le_refl _)) (by simp only [go_sem, jE, reduceIte, jA, jM, jS, jL, jD, jB, h1, h2, w1, w2, w3, w4, hlt, g0, g1, g2, g4, g6, g7, three0, List.length_set, List.set_set, upd_upd]; first | done | rfl) rfl (by simp only [go_sem, Nat.reduceLT]) ?_; simp only [go_sem, jE, reduceIte, jA, jM, jS, jL, jD, jB, h1, h2, w1, w2, w3, w4, hlt, g0, g1, g2, g4, g6, g7, three0, List.length_set, List.set_set, upd_upd]))
    rw [upd_swap _ (show i + 1 ≠ 0 by omega), upd_upd, g5]
    refine ⟨⟨i + 1, hlt⟩, _, ?_, rwI (m' := r.length + 1) (by repeat (first | exact trivial | refine ⟨rfl, ?_⟩)) (by simp [AV.bd, TV.bd, CV.bd]) (fun m o hm => ⟨hm, by have := svF_bd hm; rwa [mSs_len] at this⟩) (Nat.le_refl _) (Nat.le_refl _)⟩
    show r.length - (i + 1) < r.length - i; omega
  · have h1 : ¬ (i : Int) < (r.length : Int) := by omega
    obtain rfl : i = r.length := by omega
    have g0 : hpL (svF (mSs q r.length r)) 0 = some ⟨78, 5, true, sEls 1 (mSs q r.length r)⟩ := rfl
    have g1 : (sEls 1 (mSs q r.length r)).length = r.length := by rw [sEls_len, gl]
    repeat (first | apply Aw_seq | apply Aw_block | apply Aw_skip | apply Aw_exit | refine Aw_condt rfl ?_ | refine Aw_condf rfl ?_ | ((first | refine qr ?_ | refine qd (by kernel_rfl) (by kernel_rfl) ?_); simp only [go_sem, jE, reduceIte, jA, jM, jS, jL, jD, jB, h1, g0, g1]) | refine dk (by kernel_rfl) ?_)
    rw [mSs_end, List.take_length]
    refine Aw_ret (retI (.inl rfl) rfl rfl (fun m o hm => ⟨hm, ?_⟩) (Nat.le_refl _))
    have := svF_bd hm
    rwa [markSs_len] at this
section
variable {f g h : Nat → Nat} {m n : Nat}
theorem PV.ren_cm (e : ∀ i, i < m → g (f i) = h i) {x : PV} (hb : x.bd m = true) : (x.ren f).ren g = x.ren h := by
  cases x with
  | d x => rfl
  | ph i a b => simp [PV.bd] at hb; simp [PV.ren, e i hb]
theorem CV.ren_cm (e : ∀ i, i < m → g (f i) = h i) {x : CV} (hb : x.bd m = true) : (x.ren f).ren g = x.ren h := by
  cases x with
  | h i => simp [CV.bd] at hb; simp [CV.ren, e i hb]
  | ph i a b => simp [CV.bd] at hb; simp [CV.ren, e i hb]
  | fn f cap =>
    simp only [CV.bd, List.all_eq_true] at hb
    simp only [CV.ren, CV.fn.injEq, true_and, List.map_map]
    exact List.map_congr_left fun p hp => PV.ren_cm e (hb p hp)
  | _ => rfl
theorem Obj.ren_cm (e : ∀ i, i < m → g (f i) = h i) {o : Obj} (hb : o.bd m = true) : (o.ren f).ren g = o.ren h := by
  obtain ⟨a, k, row, els⟩ := o
  simp only [Obj.bd, List.all_eq_true] at hb
  simp only [Obj.ren, Obj.mk.injEq, true_and, List.map_map]
  exact List.map_congr_left fun cs hcs => by
    simp only [Function.comp, List.map_map]
    exact List.map_congr_left fun p hp => CV.ren_cm e (hb cs hcs p hp)
theorem Obj.ren_cg (e : ∀ i, i < m → f i = h i) {o : Obj} (hb : o.bd m = true) : o.ren f = o.ren h := by
  have := Obj.ren_cm (f := fun i => i) (g := f) (h := h) (m := m) e hb
  rwa [Obj.ren_idn (fun _ _ => rfl) hb] at this
theorem PV.bd_ren (e : ∀ i, i < m → f i < n) {x : PV} (hb : x.bd m = true) : (x.ren f).bd n = true := by
  cases x with
  | d x => rfl
  | ph i a b => simp [PV.bd] at hb; simp [PV.ren, PV.bd, e i hb]
theorem CV.bd_ren (e : ∀ i, i < m → f i < n) {x : CV} (hb : x.bd m = true) : (x.ren f).bd n = true := by
  cases x with
  | h i => simp [CV.bd] at hb; simp [CV.ren, CV.bd, e i hb]
  | ph i a b => simp [CV.bd] at hb; simp [CV.ren, CV.bd, e i hb]
  | fn f cap =>
    simp only [CV.bd, List.all_eq_true] at hb
    simp only [CV.ren, CV.bd, List.all_map, List.all_eq_true]
    exact fun p hp => PV.bd_ren e (hb p hp)
  | _ => rfl
theorem Obj.bd_ren (e : ∀ i, i < m → f i < n) {o : Obj} (hb : o.bd m = true) : (o.ren f).bd n = true := by
  simp only [Obj.bd, List.all_eq_true] at hb
  simp only [Obj.bd, Obj.ren, List.all_map, List.all_eq_true, Function.comp]
  exact fun cs hcs p hp => CV.bd_ren e (hb cs hcs p hp)
theorem Obj.bd_mono (hmn : m ≤ n) {o : Obj} (hb : o.bd m = true) : o.bd n = true := by
  simp only [Obj.bd, List.all_eq_true] at hb ⊢
  exact fun cs hcs p hp => bdC_mono hmn (hb cs hcs p hp)
end
theorem idB {k : Nat} {M : List Nat} (h : ((List.range k).all fun m => decide (m < M.length) && Nat.beq (pin M m) m) = true) : idM k M := fun m hm => by
  have := List.all_eq_true.1 h m (List.mem_range.2 hm)
  simp only [Bool.and_eq_true, decide_eq_true_eq] at this
  exact ⟨this.1, Nat.eq_of_beq_eq_true this.2⟩
/-- Objects under names that begin at b. -/
def shO (b : Nat) (os : List (Option Obj)) : List (Option Obj) := os.map (·.map (Obj.ren (b + ·)))
theorem shO_len (b : Nat) (os : List (Option Obj)) : (shO b os).length = os.length := by simp [shO]
theorem hpL_map (f : Obj → Obj) (os : List (Option Obj)) (m : Nat) : hpL (os.map (·.map f)) m = (hpL os m).map f := by
  simp only [hpL, List.getElem?_map]
  cases os[m]? <;> rfl
theorem hpL_sh (b : Nat) (os : List (Option Obj)) (m : Nat) : hpL (shO b os) m = (hpL os m).map (Obj.ren (b + ·)) := hpL_map _ _ _
theorem hpL_lt {os : List (Option Obj)} {m : Nat} {o : Obj} (h : hpL os m = some o) : m < os.length := by
  rcases Nat.lt_or_ge m os.length with h1 | h1
  · exact h1
  · rw [hpL_none h1] at h; cases h
theorem hpL_l {a b : List (Option Obj)} {m : Nat} (h : m < a.length) : hpL (a ++ b) m = hpL a m := by
  unfold hpL; rw [List.getElem?_append_left h]
theorem hpL_r {a b : List (Option Obj)} {j n : Nat} (h : a.length = n) : hpL (a ++ b) (n + j) = hpL b j := by
  unfold hpL; rw [List.getElem?_append_right (by omega), h, Nat.add_sub_cancel_left]
theorem app_cases {os1 os2 : List (Option Obj)} {N m : Nat} {o : Obj} (e1 : os1.length = N) (h : hpL (os1 ++ shO N os2) m = some o) : (m < N ∧ hpL os1 m = some o) ∨ ∃ j o', m = N + j ∧ j < os2.length ∧ hpL os2 j = some o' ∧ o = o'.ren (N + ·) := by
  rcases Nat.lt_or_ge m N with h1 | h1
  · rw [hpL_l (by omega)] at h
    exact .inl ⟨h1, h⟩
  · obtain ⟨j, rfl⟩ : ∃ j, m = N + j := ⟨m - N, by omega⟩
    rw [hpL_r e1, hpL_sh] at h
    obtain ⟨o', h2, h3⟩ := Option.map_eq_some_iff.1 h
    exact .inr ⟨j, o', rfl, hpL_lt h2, h2, h3.symm⟩
def BdO (os : List (Option Obj)) (n : Nat) : Prop := ∀ m o, hpL os m = some o → o.bd n = true
theorem bdApp {os1 os2 : List (Option Obj)} {N N2 : Nat} (e1 : os1.length = N) (h1 : BdO os1 N) (h2 : BdO os2 N2) : BdO (os1 ++ shO N os2) (N + N2) := fun m o hm => by
  rcases app_cases e1 hm with ⟨_, h⟩ | ⟨j, o', _, _, h, rfl⟩
  · exact Obj.bd_mono (by omega) (h1 m o h)
  · exact Obj.bd_ren (fun i hi => by omega) (h2 j o' h)
theorem bdOne {os : List (Option Obj)} {N : Nat} {x : Obj} (h : BdO os N) (hx : ∀ k, x.bd k = true) : BdO (os ++ [some x]) (N + 1) := fun m o hm => by
  rcases Nat.lt_or_ge m os.length with h1 | h1
  · rw [hpL_l h1] at hm; exact Obj.bd_mono (by omega) (h m o hm)
  · obtain ⟨j, rfl⟩ : ∃ j, m = os.length + j := ⟨m - os.length, by omega⟩
    rw [hpL_r rfl] at hm
    rcases j with _ | j
    · rw [l_c0] at hm; obtain rfl := Option.some.inj hm; exact hx _
    · rw [l_c1, l_n] at hm; cases hm
theorem pin_l {a b : List Nat} {m : Nat} (h : m < a.length) : pin (a ++ b) m = pin a m := by simp [pin, List.getD, List.getElem?_append_left h]
theorem pin_r {a b : List Nat} {n j : Nat} (h : a.length = n) : pin (a ++ b) (n + j) = pin b j := by subst h; simp [pin, List.getD, List.getElem?_append_right]
theorem pin_g {p n j : Nat} (h : j < n) : pin (List.range' p n) j = p + j := by simp [pin, List.getD, List.getElem?_range' h]
/-- More objects, as a call of this function leaves them. -/
theorem selApp {hp : Hp} {M : List Nat} {os1 os2 : List (Option Obj)} {p N N2 : Nat} (h1 : HpSel M hp (hpL os1)) (e0 : M.length = N) (e1 : os1.length = N) (e2 : os2.length = N2) (hlt : ∀ m ∈ M, m < p) (b2 : BdO os2 N2) :
    HpSel (M ++ List.range' p N2) (updL hp (List.range' p N2) (os2.map (·.map (Obj.ren (pout [] p))))) (hpL (os1 ++ shO N os2)) := by
  have hl : (M ++ List.range' p N2).length = N + N2 := by simp [e0]
  have left : ∀ m, m < N → pin (M ++ List.range' p N2) m = pin M m := fun m hm => pin_l (by omega)
  have right : ∀ j, j < N2 → pin (M ++ List.range' p N2) (N + j) = p + j := fun j hj => by rw [pin_r e0, pin_g hj]
  have lp : ∀ m, m < N → pin M m < p := fun m hm => hlt _ (pin_mem (by omega))
  constructor
  · intro m m' o o' hm hm' q
    rcases app_cases e1 hm with ⟨a, a1⟩ | ⟨j, _, rfl, a, _⟩ <;> rcases app_cases e1 hm' with ⟨b, c1⟩ | ⟨j', _, rfl, b, _⟩
    · rw [left m a, left m' b] at q
      exact h1.inj m m' o o' a1 c1 q
    · rw [left m a, right j' (by omega)] at q
      have := lp m a; omega
    · rw [left m' b, right j (by omega)] at q
      have := lp m' b; omega
    · rw [right j (by omega), right j' (by omega)] at q; omega
  · intro m o hm
    rcases app_cases e1 hm with ⟨a, a1⟩ | ⟨j, o', rfl, a, a1, rfl⟩
    · obtain ⟨q1, q2, q3⟩ := h1.obj m o a1
      refine ⟨by omega, ?_, Obj.bd_mono (by omega) q3⟩
      rw [left m a, updL_not (fun hc => by have := (List.mem_range'_1.1 hc).1; have := lp m a; omega), q2]
      congr 1
      exact Obj.ren_cg (fun i hi => (left i (by omega)).symm) q3
    · have hj : j < N2 := by omega
      refine ⟨by omega, ?_, by rw [hl]; exact Obj.bd_ren (fun i hi => by omega) (b2 j o' a1)⟩
      rw [right j hj, updL_get List.nodup_range' (i := j) (by rw [List.getElem?_range' hj]; simp) (by simp [e2]; exact hj), hpL_map, a1, Obj.ren_cm (h := pout [] p) (fun i hi => by rw [right i hi, q_n]) (b2 j o' a1)]
      rfl
/-- One more, that names none. -/
theorem selOne {hp : Hp} {M : List Nat} {os : List (Option Obj)} {p N : Nat} {x : Obj} (h1 : HpSel M hp (hpL os)) (e0 : M.length = N) (e1 : os.length = N) (hlt : ∀ m ∈ M, m < p) (hr : ∀ π, x.ren π = x) (hx : ∀ k, x.bd k = true) :
    HpSel (M ++ [p]) (upd hp p (some x)) (hpL (os ++ [some x])) := by
  have h := selApp (p := p) (os2 := [some x]) (N2 := 1) h1 e0 e1 rfl hlt (fun m o hm => by
    rcases m with _ | m
    · rw [l_c0] at hm; obtain rfl := Option.some.inj hm; exact hx _
    · rw [l_c1, l_n] at hm; cases hm)
  have e : shO N [some x] = [some x] := by simp [shO, hr]
  rw [e] at h
  have e2 : updL hp (List.range' p 1) ([some x].map (·.map (Obj.ren (pout [] p)))) = upd hp p (some x) := by
    simp only [List.map, Option.map, hr]; rfl
  rw [e2] at h
  exact h
theorem selNil {hp : Hp} : HpSel [] hp (hpL []) := by
  constructor
  · intro m m' o o' h; rw [l_n] at h; cases h
  · intro m o h; rw [l_n] at h; cases h
/-- A call that gets objects one behind the other and leaves none. -/
def hole (b m : Nat) (hp : Hp) : Hp := fun q => if b ≤ q ∧ q < b + m then none else hp q
theorem hole_ne {b m q : Nat} {hp : Hp} (h : ¬ (b ≤ q ∧ q < b + m)) : hole b m hp q = hp q := if_neg h
/-- A block of objects, as it lies. -/
def BlkO (hp : Hp) (b : Nat) (os : List (Option Obj)) : Prop := ∀ j, j < os.length → ∃ o, os[j]? = some (some o) ∧ hp (b + j) = some (o.ren (b + ·)) ∧ o.bd os.length = true
theorem BlkO.hole {hp : Hp} {b c m : Nat} {os : List (Option Obj)} (h : BlkO hp b os) (hd : c + m ≤ b ∨ b + os.length ≤ c) : BlkO (hole c m hp) b os := fun j hj => by
  obtain ⟨o, h1, h2, h3⟩ := h j hj
  exact ⟨o, h1, by rw [hole_ne (by omega)]; exact h2, h3⟩
theorem BlkO.upd {hp : Hp} {b q : Nat} {x : Option Obj} {os : List (Option Obj)} (h : BlkO hp b os) (hd : q < b ∨ b + os.length ≤ q) : BlkO (upd hp q x) b os := fun j hj => by
  obtain ⟨o, h1, h2, h3⟩ := h j hj
  exact ⟨o, h1, by rw [upd_ne _ _ (by omega)]; exact h2, h3⟩
theorem selSkip {hp hp1 : Hp} {M : List Nat} {q : Nat} {x : Option Obj} (h : HpSel M hp hp1) (hq : ∀ m ∈ M, m ≠ q) : HpSel M (upd hp q x) hp1 :=
  ⟨h.inj, fun m o hm => by
    obtain ⟨h1, h2, h3⟩ := h.obj m o hm
    exact ⟨h1, by rw [upd_ne _ _ (hq _ (pin_mem h1))]; exact h2, h3⟩⟩
theorem retM {P : Program} {l : List (Nat × AV)} {hp hp' : Hp} {n n' : Nat} {rs : List ResultVar} {e : Exit} {x : AV} {M : List Nat} (he : e = .ret ∨ e = .normal) (h : resA P rs (look l) hp = some (x.ren (pin M))) (hb : x.bd M.length = true) (hs : HpSel M hp hp') (hn : M.length ≤ n') :
    RetQ P rs 0 ⟨x, hp', n'⟩ e (S l hp n) := ⟨he.symm, M, ⟨h, hb, hs, hn, fun m hm => absurd hm (by omega)⟩⟩
theorem call_B {P : Program} {hp : Hp} {n : Nat} {f : FuncId} {va : List AV} {ta tb : List TV} {os : List (Option Obj)} {x : AV} {b N : Nat} (e : os.length = N) (hc : AC P f tb (hpL os) N ⟨x, noHp, N⟩) (hv : va = ta.map AV.t) (hB : All2 (Arg hp (List.range' b N) []) ta tb) (hs : BlkO hp b os) (hx : x.bd 0 = true) :
    CallOk P f hp va n x (hole b N hp) n (List.range' b N ++ []) (List.range' b N) := by
  subst e
  have hl : (List.range' b os.length).length = os.length := List.length_range'
  refine ⟨ta, tb, hpL os, List.range' b os.length, [], ⟨x, noHp, os.length⟩, hv, hB, ⟨List.nodup_range', by simp, fun j o hj => ?_, fun j hj => ?_⟩, .inl rfl, by rw [hl]; exact hc, ?_, ?_, ?_, rfl, rfl⟩
  · rw [hl]; exact hpL_lt hj
  · rw [hl] at hj
    obtain ⟨o, h1, h2, h3⟩ := hs j hj
    refine ⟨o, by simp [hpL, h1], ?_, by rw [hl]; exact h3⟩
    rw [pin_g hj, h2, Obj.ren_cg (fun i hi => (pin_g hi).symm) h3]
  · exact (AV.ren_id (n := 0) (fun m hm => absurd hm (by omega)) hx).symm
  · funext q
    unfold hole
    show _ = hpOut hp (List.range' b os.length) n (os.length - (List.range' b os.length).length) noHp q
    unfold hpOut
    rw [hl, if_neg (c := inR n (os.length - os.length) q) (by unfold inR; omega)]
    by_cases h : b ≤ q ∧ q < b + os.length
    · rw [if_pos h, if_pos (List.mem_range'_1.2 h)]; rfl
    · rw [if_neg h, if_neg (fun hm => h (List.mem_range'_1.1 hm))]
  · rw [hl]; simp
theorem arg_B {hp : Hp} {b n : Nat} {L : List Nat} (h : 0 < n) : Arg hp (List.range' b n) L (.c (.h b)) (.c (.h 0)) := by
  have := Arg.nm (hp := hp) (N := List.range' b n) (L := L) (b := .c (.h 0)) (by simpa [TV.bd, CV.bd] using h)
  rw [show (TV.c (.h 0)).ren (pin (List.range' b n)) = .c (.h b) by simp only [TV.ren, CV.ren, pin_g h]; rfl] at this
  exact this
-- the rows
def hEls (b n : Nat) : List (List CV) := (List.range' b n).map fun j => [.h j]
theorem hEls_succ (b n : Nat) : hEls b (n + 1) = [.h b] :: hEls (b + 1) n := rfl
theorem pRow_sh (b n : Nat) : (pRow n n).ren (b + ·) = ⟨29, 1, true, hEls (b + 1) n⟩ := by
  simp only [pRow, Obj.ren, Obj.mk.injEq, true_and, pEls, hEls, Nat.sub_self, List.replicate_zero, List.append_nil, List.map_map]
  rw [List.range_eq_range', ← List.map_add_range' (n := n) (a := b + 1) (s := 0)]
  rw [List.map_map]
  exact List.map_congr_left fun j _ => by simp [CV.ren]; omega
theorem sEls_sh (b : Nat) : ∀ (r : List Sve) (c : Nat), (sEls c r).map (·.map (CV.ren (b + ·))) = sEls (b + c) r
  | [], c => rfl
  | x :: r, c => by simp only [sEls, List.map_cons, sEls_sh b r]; rfl
theorem lvF_blk (r : List (List Ent)) (j : Nat) (hj : j < (lvF r).length) : ∃ o, (lvF r)[j]? = some (some o) ∧ o.bd (lvF r).length = true := by
  rcases j with _ | j
  · exact ⟨_, rfl, by rw [lvF_len]; exact pE_all (by omega) (Nat.le_refl _)⟩
  · rw [lvF_len] at hj
    exact ⟨eRow (r[j]'(by omega)), by simp [lvF, List.getElem?_eq_getElem (show j < r.length by omega)], bd_eRow _ _⟩
theorem svF_blk (r : List Sve) (j : Nat) (hj : j < (svF r).length) : ∃ o, (svF r)[j]? = some (some o) ∧ o.bd (svF r).length = true := by
  rcases j with _ | j
  · exact ⟨_, rfl, by rw [svF_len]; exact sEls_bd _ _ _ (by omega)⟩
  · rw [svF_len] at hj
    exact ⟨kRow (r[j]'(by omega)).rests, by simp [svF, List.getElem?_eq_getElem (show j < r.length by omega)], bd_kRow _ _⟩
theorem lvF_bdO (r : List (List Ent)) : BdO (lvF r) (r.length + 1) := fun m o h => (lvF_bd h).2
theorem svF_bdO (r : List Sve) : BdO (svF r) (r.length + 1) := fun m o h => (svF_bd h).2
/-- The rows of a store: its top, its levels, its sieves, its times. -/
def gK (s : Sto) : Nat := s.levels.length + s.sieves.length + 4
def gOs (s : Sto) : List (Option Obj) := (([some (eRow s.top)] ++ shO 1 (lvF s.levels)) ++ shO (s.levels.length + 2) (svF s.sieves)) ++ [some (tmRow s.times)]
def gT (b : Nat) (s : Sto) : TV := .agg [.h b, .h (b + 1), .h (b + (s.levels.length + 2)), .d (.s (.int .i64 s.keep)), .d (.s (.int .i64 s.time)), .h (b + (s.levels.length + s.sieves.length + 3))]
theorem g1_len (s : Sto) : ([some (eRow s.top)] ++ shO 1 (lvF s.levels)).length = s.levels.length + 2 := by simp [shO_len, lvF_len]
theorem g2_len (s : Sto) : (([some (eRow s.top)] ++ shO 1 (lvF s.levels)) ++ shO (s.levels.length + 2) (svF s.sieves)).length = s.levels.length + s.sieves.length + 3 := by rw [List.length_append, g1_len, shO_len, svF_len]; omega
theorem gOs_len (s : Sto) : (gOs s).length = gK s := by unfold gOs gK; rw [List.length_append, g2_len]; rfl
theorem ren_tmRow (r : List Int) (π : Nat → Nat) : (tmRow r).ren π = tmRow r := dRow_ren _ _ _ _
theorem bd_tmRow (r : List Int) (k : Nat) : (tmRow r).bd k = true := dRow_bd _ _ _ _
theorem bd0_eRow (r : List Ent) : BdO [some (eRow r)] 1 := fun m o hm => by
  rcases m with _ | m
  · rw [l_c0] at hm; obtain rfl := Option.some.inj hm; exact bd_eRow _ _
  · rw [l_c1, l_n] at hm; cases hm
theorem g1_bd (s : Sto) : BdO ([some (eRow s.top)] ++ shO 1 (lvF s.levels)) (s.levels.length + 2) := by
  have := bdApp (os1 := [some (eRow s.top)]) (N := 1) rfl (bd0_eRow _) (lvF_bdO s.levels)
  rwa [show 1 + (s.levels.length + 1) = s.levels.length + 2 by omega] at this
theorem g2_bd (s : Sto) : BdO (([some (eRow s.top)] ++ shO 1 (lvF s.levels)) ++ shO (s.levels.length + 2) (svF s.sieves)) (s.levels.length + s.sieves.length + 3) := by
  have := bdApp (g1_len s) (g1_bd s) (svF_bdO s.sieves)
  rwa [show s.levels.length + 2 + (s.sieves.length + 1) = s.levels.length + s.sieves.length + 3 by omega] at this
theorem gOs_bd (s : Sto) : BdO (gOs s) (gK s) := bdOne (g2_bd s) (fun k => bd_tmRow _ k)
theorem gH_top (s : Sto) : hpL (gOs s) 0 = some (eRow s.top) := rfl
theorem gH_lev (s : Sto) {j : Nat} (hj : j < s.levels.length + 1) : hpL (gOs s) (1 + j) = (hpL (lvF s.levels) j).map (Obj.ren (1 + ·)) := by
  unfold gOs
  rw [hpL_l (by rw [g2_len]; omega), hpL_l (by rw [g1_len]; omega), hpL_r (a := [some (eRow s.top)]) (n := 1) rfl, hpL_sh]
theorem gH_sve (s : Sto) {j : Nat} (hj : j < s.sieves.length + 1) : hpL (gOs s) (s.levels.length + 2 + j) = (hpL (svF s.sieves) j).map (Obj.ren (s.levels.length + 2 + ·)) := by
  unfold gOs
  rw [hpL_l (by rw [g2_len]; omega), hpL_r (g1_len s), hpL_sh]
theorem gH_tm (s : Sto) : hpL (gOs s) (s.levels.length + s.sieves.length + 3) = some (tmRow s.times) := by
  have := hpL_r (b := [some (tmRow s.times)]) (j := 0) (g2_len s)
  rw [l_c0] at this
  exact this
/-- The store's rows under names from b on. -/
def GSt (hp : Hp) (b : Nat) (s : Sto) : Prop := ∀ m o, hpL (gOs s) m = some o → hp (b + m) = some (o.ren (b + ·))
theorem gst_top {hp : Hp} {b : Nat} {s : Sto} (h : GSt hp b s) : BlkO hp b [some (eRow s.top)] := fun j hj => by
  obtain rfl : j = 0 := by simp at hj; exact hj
  exact ⟨_, rfl, by rw [h 0 _ (gH_top s)], bd_eRow _ _⟩
theorem gst_part {hp : Hp} {b c n : Nat} {s : Sto} {os : List (Option Obj)} (h : GSt hp b s) (hl : os.length = n) (hg : ∀ j, j < n → hpL (gOs s) (c + j) = (hpL os j).map (Obj.ren (c + ·))) (hb : ∀ j, j < os.length → ∃ o, os[j]? = some (some o) ∧ o.bd os.length = true) : BlkO hp (b + c) os := fun j hj => by
  obtain ⟨o, h1, h2⟩ := hb j hj
  refine ⟨o, h1, ?_, h2⟩
  have := h (c + j) (o.ren (c + ·)) (by rw [hg j (by omega)]; simp [hpL, h1])
  rw [Nat.add_assoc, this, Obj.ren_cm (h := (b + c + ·)) (fun i hi => (Nat.add_assoc b c i).symm) h2]
theorem gst_lev {hp : Hp} {b : Nat} {s : Sto} (h : GSt hp b s) : BlkO hp (b + 1) (lvF s.levels) := gst_part h (lvF_len _) (fun j hj => gH_lev s hj) (lvF_blk _)
theorem gst_sve {hp : Hp} {b : Nat} {s : Sto} (h : GSt hp b s) : BlkO hp (b + (s.levels.length + 2)) (svF s.sieves) := gst_part h (svF_len _) (fun j hj => gH_sve s hj) (svF_blk _)
theorem gst_tm {hp : Hp} {b : Nat} {s : Sto} (h : GSt hp b s) : BlkO hp (b + (s.levels.length + s.sieves.length + 3)) [some (tmRow s.times)] := fun j hj => by
  obtain rfl : j = 0 := by simp at hj; exact hj
  exact ⟨_, rfl, by rw [Nat.add_zero, h _ _ (gH_tm s), ren_tmRow, ren_tmRow], bd_tmRow _ _⟩
-- lent
theorem lend_hEls {hp : Hp} {n : Nat} : ∀ (r : List (List Ent)) (b : Nat), (∀ j x, r[j]? = some x → hp (b + j) = some (eRow x)) → (hEls b r.length).mapM (fun cs : List CV => cs.mapM (lendC hp (n + 1))) = some (r.map lvD)
  | [], b, _ => rfl
  | x :: r, b, h => by
    have h0 : hp b = some (eRow x) := h 0 x rfl
    have ih := lend_hEls (n := n) r (b + 1) fun j y hy => by have := h (j + 1) y (by simpa using hy); rwa [show b + (j + 1) = b + 1 + j by omega] at this
    rw [List.length_cons, hEls_succ, List.mapM_cons, ih, List.mapM_cons, lend_dRow h0]
    rfl
theorem lend_sEls {hp : Hp} {n : Nat} : ∀ (r : List Sve) (b : Nat), (∀ j x, r[j]? = some x → hp (b + j) = some (kRow x.rests)) → (sEls b r).mapM (fun cs : List CV => cs.mapM (lendC hp (n + 1))) = some (r.map sveD)
  | [], b, _ => rfl
  | x :: r, b, h => by
    have h0 : hp b = some (kRow x.rests) := h 0 x rfl
    have ih := lend_sEls (n := n) r (b + 1) fun j y hy => by have := h (j + 1) y (by simpa using hy); rwa [show b + (j + 1) = b + 1 + j by omega] at this
    simp only [sEls, List.mapM_cons, ih, svN, lend_dRow h0]
    rfl
theorem lendN_hEls {hp : Hp} {n : Nat} : ∀ (r : List (List Ent)) (b : Nat), (∀ j x, r[j]? = some x → hp (b + j) = some (eRow x)) → ∀ m ∈ (hEls b r.length).flatMap (fun cs : List CV => cs.flatMap (lendN hp (n + 1))), b ≤ m ∧ m < b + r.length
  | [], b, _, m, hm => by simp [hEls] at hm
  | x :: r, b, h, m, hm => by
    have h0 : hp b = some (eRow x) := h 0 x rfl
    have ih := lendN_hEls (n := n) r (b + 1) fun j y hy => by have := h (j + 1) y (by simpa using hy); rwa [show b + (j + 1) = b + 1 + j by omega] at this
    rw [List.length_cons, hEls_succ, List.flatMap_cons, List.mem_append] at hm
    rcases hm with hm | hm
    · simp only [List.flatMap_cons, List.flatMap_nil, List.append_nil] at hm
      rw [lendN_dRow h0 n m hm, List.length_cons]; omega
    · have := ih m hm
      rw [List.length_cons]; omega
theorem lendN_sEls {hp : Hp} {n : Nat} : ∀ (r : List Sve) (b : Nat), (∀ j x, r[j]? = some x → hp (b + j) = some (kRow x.rests)) → ∀ m ∈ (sEls b r).flatMap (fun cs : List CV => cs.flatMap (lendN hp (n + 1))), b ≤ m ∧ m < b + r.length
  | [], b, _, m, hm => by simp [sEls] at hm
  | x :: r, b, h, m, hm => by
    have h0 : hp b = some (kRow x.rests) := h 0 x rfl
    have ih := lendN_sEls (n := n) r (b + 1) fun j y hy => by have := h (j + 1) y (by simpa using hy); rwa [show b + (j + 1) = b + 1 + j by omega] at this
    simp only [sEls, List.flatMap_cons, List.mem_append] at hm
    rcases hm with hm | hm
    · have hd : ∀ (i : Value), lendN hp (n + 1) (.d (.s i)) = [] := fun i => rfl
      simp only [svN, List.flatMap_cons, List.flatMap_nil, List.append_nil, List.nil_append, hd] at hm
      rw [lendN_dRow h0 n m hm, List.length_cons]; omega
    · have := ih m hm
      rw [List.length_cons]; omega
theorem arg_gT {hp : Hp} {N' L : List Nat} {b : Nat} {s : Sto} (h : GSt hp b s) (hL : ∀ m, b ≤ m → m < b + gK s → m ∈ L) : Arg hp N' L (gT b s) (stT s) := by
  have g0 : hp b = some (eRow s.top) := by have := h 0 _ (gH_top s); rwa [ren_eRow] at this
  have g1 : hp (b + 1) = some ⟨29, 1, true, hEls (b + 2) s.levels.length⟩ := by
    have := h 1 _ ((gH_lev s (j := 0) (by omega)).trans rfl)
    rw [this, Obj.ren_cm (m := s.levels.length + 1) (h := (b + 1 + ·)) (fun i hi => (Nat.add_assoc b 1 i).symm) (show (pRow s.levels.length s.levels.length).bd (s.levels.length + 1) = true from pE_all (by omega) (Nat.le_refl _)), pRow_sh]
  have g2 : hp (b + (s.levels.length + 2)) = some ⟨78, 5, true, sEls (b + (s.levels.length + 2) + 1) s.sieves⟩ := by
    have := h (s.levels.length + 2) _ ((gH_sve s (j := 0) (by omega)).trans rfl)
    rw [this, Obj.ren_cm (m := s.sieves.length + 1) (h := (b + (s.levels.length + 2) + ·)) (fun i hi => (Nat.add_assoc b _ i).symm) (show (⟨78, 5, true, sEls 1 s.sieves⟩ : Obj).bd (s.sieves.length + 1) = true from sEls_bd _ _ _ (by omega))]
    simp only [Obj.ren, sEls_sh]
  have g3 : hp (b + (s.levels.length + s.sieves.length + 3)) = some (tmRow s.times) := by have := h _ _ (gH_tm s); rwa [ren_tmRow] at this
  have l1 : ∀ j x, s.levels[j]? = some x → hp (b + 2 + j) = some (eRow x) := fun j x hx => by
    have hj := (List.getElem?_eq_some_iff.1 hx).1
    have := h (1 + (j + 1)) (eRow x) (by rw [gH_lev s (by omega), lvF_get hx]; simp [ren_eRow])
    rw [ren_eRow] at this
    rwa [show b + (1 + (j + 1)) = b + 2 + j by omega] at this
  have l2 : ∀ j x, s.sieves[j]? = some x → hp (b + (s.levels.length + 2) + 1 + j) = some (kRow x.rests) := fun j x hx => by
    have hj := (List.getElem?_eq_some_iff.1 hx).1
    have := h (s.levels.length + 2 + (j + 1)) (kRow x.rests) (by rw [gH_sve s (by omega), svF_get hx]; simp [ren_kRow])
    rw [ren_kRow] at this
    rwa [show b + (s.levels.length + 2 + (j + 1)) = b + (s.levels.length + 2) + 1 + j by omega] at this
  have e1 : lendC hp 3 (.h (b + 1)) = some (.rs 1 (s.levels.map lvD)) := by
    show (match hp (b + 1) with | some o => _ | none => none) = _
    rw [g1]
    show ((hEls (b + 2) s.levels.length).mapM (fun cs : List CV => cs.mapM (lendC hp 2))).map (D.rs 1) = _
    rw [lend_hEls s.levels (b + 2) l1]; rfl
  have e2 : lendC hp 3 (.h (b + (s.levels.length + 2))) = some (.rs 5 (s.sieves.map sveD)) := by
    show (match hp (b + (s.levels.length + 2)) with | some o => _ | none => none) = _
    rw [g2]
    show ((sEls (b + (s.levels.length + 2) + 1) s.sieves).mapM (fun cs : List CV => cs.mapM (lendC hp 2))).map (D.rs 5) = _
    rw [lend_sEls s.sieves _ l2]; rfl
  have hd : ∀ (i : Value), lendN hp 3 (.d (.s i)) = [] := fun i => rfl
  refine .ln (n := 3) ?_ fun w hw m hm => ?_
  · unfold gT
    simp only [TV.lend, List.mapM_cons, List.mapM_nil, lend_dRow g0, e1, e2, lend_dRow g3]
    rfl
  · unfold gT at hw
    have hK : gK s = s.levels.length + s.sieves.length + 4 := rfl
    simp only [TV.cells, List.mem_cons, List.not_mem_nil, or_false] at hw
    rcases hw with rfl | rfl | rfl | rfl | rfl | rfl
    · rw [lendN_dRow g0 2 m hm]; exact hL _ (by omega) (by omega)
    · have e : lendN hp 3 (.h (b + 1)) = (b + 1) :: ((hEls (b + 2) s.levels.length).flatMap fun cs : List CV => cs.flatMap (lendN hp 2)) := by
        show (match hp (b + 1) with | some o => _ | none => []) = _
        rw [g1]
      rw [e] at hm
      rcases List.mem_cons.1 hm with rfl | hm
      · exact hL _ (by omega) (by omega)
      · have := lendN_hEls s.levels (b + 2) l1 m hm
        exact hL _ (by omega) (by omega)
    · have e : lendN hp 3 (.h (b + (s.levels.length + 2))) = (b + (s.levels.length + 2)) :: ((sEls (b + (s.levels.length + 2) + 1) s.sieves).flatMap fun cs : List CV => cs.flatMap (lendN hp 2)) := by
        show (match hp (b + (s.levels.length + 2)) with | some o => _ | none => []) = _
        rw [g2]
      rw [e] at hm
      rcases List.mem_cons.1 hm with rfl | hm
      · exact hL _ (by omega) (by omega)
      · have := lendN_sEls s.sieves _ l2 m hm
        exact hL _ (by omega) (by omega)
    · rw [hd] at hm; cases hm
    · rw [hd] at hm; cases hm
    · rw [lendN_dRow g3 2 m hm]; exact hL _ (by omega) (by omega)
theorem AC.drop {P : Program} {f : FuncId} {args : List TV} {hp hp2 : Hp} {x : AV} {k n : Nat} (h : AC P f args hp k ⟨x, hp2, n⟩) (hx : x.bd n = true) (hk : k ≤ n) : AC P f args hp k ⟨x, noHp, n⟩ := by
  refine AC.sel (M := List.range n) h ?_ (by simpa using hx) ⟨fun m m' o o' hm => by simp [noHp] at hm, fun m o hm => by simp [noHp] at hm⟩ (by simp) fun m hm => ⟨by simp; omega, pin_range (by omega)⟩
  exact (AV.ren_idn (fun m hm => pin_range hm) hx).symm
def cntS (q : Nat) (s : Sto) : Nat := kS (kR (q + 4 * s.top.length) s.levels) s.sieves + s.times.length
theorem markStoreF_ac (s : Sto) (q : Nat) (hm : midT s) (hq : cntS q s ≤ 1099511627776) : AC Try.prog 10 [gT 0 s, iT q] (hpL (gOs s)) (gK s) ⟨.t (iT ((cntS q s : Nat) : Int)), noHp, gK s⟩ := by
  unfold cntS at hq ⊢
  have a1 := kR_le s.levels (q + 4 * s.top.length)
  have a2 := kS_le s.sieves (kR (q + 4 * s.top.length) s.levels)
  have k1 := AC.drop (markEntryS_ac s.top q (by omega)) rfl (Nat.le_refl _)
  have k2 := AC.drop (markEntrySSO_ac s.levels (q + 4 * s.top.length) hm.ll (by omega)) rfl (Nat.le_refl _)
  have k3 := AC.drop (markSieveSO_ac s.sieves (kR (q + 4 * s.top.length) s.levels) hm.sl (by omega)) rfl (Nat.le_refl _)
  have k4 := AC.drop (markIntS_ac s.times (kS (kR (q + 4 * s.top.length) s.levels) s.sieves) hq) rfl (Nat.le_refl _)
  have hg : GSt (hpL (gOs s)) 0 s := fun m o h => by
    rw [Nat.zero_add, h, Obj.ren_idn (n := gK s) (fun i _ => by simp) (gOs_bd s m o h)]
  have b1 := gst_top hg
  have b2 := gst_lev hg
  have b3 := gst_sve hg
  have b4 := gst_tm hg
  have l2 := lvF_len s.levels
  have l3 := svF_len s.sieves
  simp only [Nat.zero_add] at b2 b3 b4
  unfold gT
  simp only [Nat.zero_add]
  generalize hpL (gOs s) = H at *
  generalize kS (kR (q + 4 * s.top.length) s.levels) s.sieves = q3 at *
  generalize kR (q + 4 * s.top.length) s.levels = q2 at *
  have e1 : ∀ hp : Hp, hole 0 1 hp (gK s) = hp (gK s) := fun hp => hole_ne (by unfold gK; omega)
  have e2 : ∀ hp : Hp, hole 1 (s.levels.length + 1) hp (gK s) = hp (gK s) := fun hp => hole_ne (by unfold gK; omega)
  have e3 : ∀ hp : Hp, hole (s.levels.length + 2) (s.sieves.length + 1) hp (gK s) = hp (gK s) := fun hp => hole_ne (by unfold gK; omega)
  have x1 : gK s = s.levels.length + s.sieves.length + 4 := rfl
  have u1 : 0 + [some (eRow s.top)].length ≤ gK s := by rw [List.length_singleton]; omega
  have u4 : s.levels.length + s.sieves.length + 3 + [some (tmRow s.times)].length ≤ gK s := by rw [List.length_singleton]; omega
  refine AC_of Try.func10 rfl Try.ntmps10 Try.results10 (by kernel_rfl) rfl ?_
  simp only [List.zipIdx, List.map, Nat.zero_add, Nat.reduceAdd]
  repeat (first | apply Aw_seq | apply Aw_block | apply Aw_skip | apply Aw_exit | refine Aw_condt rfl ?_ | refine Aw_condf rfl ?_ | ((first | refine qr ?_ | refine qd (by kernel_rfl) (by kernel_rfl) ?_); simp only [go_sem, jE, reduceIte, jA, jM, jS, jL, jD, jB, e1, e2, e3]) | refine dk (by kernel_rfl) ?_ | (refine qx (call_B (b := 0) (N := 1) rfl k1 rfl (.cons (arg_B (by omega)) (.cons (.nm rfl) .nil)) (b1.upd (.inr u1)) rfl) (by simp only [go_sem, jE, reduceIte, jA, jM, jS, jL, jD, jB, e1, e2, e3]; first | done | rfl) rfl (by simp only [go_sem, Nat.reduceLT]) ?_; simp only [go_sem, jE, reduceIte, jA, jM, jS, jL, jD, jB, e1, e2, e3]) | (refine qx (call_B (b := 1) (lvF_len _) k2 rfl (.cons (arg_B (by omega)) (.cons (.nm rfl) .nil)) ((b2.upd (.inr (by omega))).hole (.inl (by omega))) rfl) (by simp only [go_sem, jE, reduceIte, jA, jM, jS, jL, jD, jB, e1, e2, e3]; first | done | rfl) rfl (by simp only [go_sem, Nat.reduceLT]) ?_; simp only [go_sem, jE, reduceIte, jA, jM, jS, jL, jD, jB, e1, e2, e3]) | (refine qx (call_B (svF_len _) k3 rfl (.cons (arg_B (by omega)) (.cons (.nm rfl) .nil)) (((b3.upd (.inr (by omega))).hole (.inl (by omega))).hole (.inl (by omega))) rfl) (by simp only [go_sem, jE, reduceIte, jA, jM, jS, jL, jD, jB, e1, e2, e3]; first | done | rfl) rfl (by simp only [go_sem, Nat.reduceLT]) ?_; simp only [go_sem, jE, reduceIte, jA, jM, jS, jL, jD, jB, e1, e2, e3]) | (refine qx (call_B (N := 1) rfl k4 rfl (.cons (arg_B (by omega)) (.cons (.nm rfl) .nil)) ((((b4.upd (.inr u4)).hole (.inl (by omega))).hole (.inl (by omega))).hole (.inl (by omega))) rfl) (by simp only [go_sem, jE, reduceIte, jA, jM, jS, jL, jD, jB, e1, e2, e3]; first | done | rfl) rfl (by simp only [go_sem, Nat.reduceLT]) ?_; simp only [go_sem, jE, reduceIte, jA, jM, jS, jL, jD, jB, e1, e2, e3]))
  refine Aw_ret (retI (hp' := noHp) (n' := gK s) (.inl rfl) ?_ ?_ (fun m o hm => ?_) (Nat.le_refl _))
  · rfl
  · rfl
  · cases hm
theorem updL_lo {hp : Hp} {os : List (Option Obj)} {p q m n : Nat} (h1 : m < p) (h2 : m < q) : updL hp (p :: List.range' q n) os m = hp m := updL_not (by
  simp only [List.mem_cons, List.mem_range'_1, not_or]
  exact ⟨by omega, by omega⟩)
theorem toStoreG_ac (s : Sto) (hm : midT s) : AC Try.prog 7 [stT s] noHp 0 ⟨.t (gT 0 s), hpL (gOs s), gK s⟩ := by
  have k1 := toEntrySR_ac s.top hm.top
  have k2 := toEntrySSO_ac s.levels hm.ll hm.levels
  have k3 := toSieveSO_ac s.sieves hm.sl hm.sieves
  have k4 := toIntSR_ac s.times hm.times
  rw [lvF_os] at k2
  have a0 : ∀ (hp : Hp) (os : List (Option Obj)), updL hp (10 :: List.range' 11 s.levels.length) os 0 = hp 0 := fun hp os => updL_lo (by omega) (by omega)
  have b0 : ∀ (hp : Hp) (os : List (Option Obj)), updL hp ((10 + (s.levels.length + 1) + 1 + 1 + 1 + 1) :: List.range' (10 + (s.levels.length + 1) + 1 + 1 + 1 + 1 + 1) s.sieves.length) os 0 = hp 0 := fun hp os => updL_lo (by omega) (by omega)
  have c0 : (0 = 10 + (s.levels.length + 1) + 1 + 1 + 1 + 1 + (s.sieves.length + 1) + 1 + 1 + 1 + 1 + 1 + 1 + 1 + 1 + 1 + 1 + 1 + 1) = False := eq_false (by omega)
  have a1 : ∀ (hp : Hp) (os : List (Option Obj)), updL hp (10 :: List.range' 11 s.levels.length) os 1 = hp 1 := fun hp os => updL_lo (by omega) (by omega)
  have b1 : ∀ (hp : Hp) (os : List (Option Obj)), updL hp ((10 + (s.levels.length + 1) + 1 + 1 + 1 + 1) :: List.range' (10 + (s.levels.length + 1) + 1 + 1 + 1 + 1 + 1) s.sieves.length) os 1 = hp 1 := fun hp os => updL_lo (by omega) (by omega)
  have c1 : (1 = 10 + (s.levels.length + 1) + 1 + 1 + 1 + 1 + (s.sieves.length + 1) + 1 + 1 + 1 + 1 + 1 + 1 + 1 + 1 + 1 + 1 + 1 + 1) = False := eq_false (by omega)
  have a2 : ∀ (hp : Hp) (os : List (Option Obj)), updL hp (10 :: List.range' 11 s.levels.length) os 2 = hp 2 := fun hp os => updL_lo (by omega) (by omega)
  have b2 : ∀ (hp : Hp) (os : List (Option Obj)), updL hp ((10 + (s.levels.length + 1) + 1 + 1 + 1 + 1) :: List.range' (10 + (s.levels.length + 1) + 1 + 1 + 1 + 1 + 1) s.sieves.length) os 2 = hp 2 := fun hp os => updL_lo (by omega) (by omega)
  have c2 : (2 = 10 + (s.levels.length + 1) + 1 + 1 + 1 + 1 + (s.sieves.length + 1) + 1 + 1 + 1 + 1 + 1 + 1 + 1 + 1 + 1 + 1 + 1 + 1) = False := eq_false (by omega)
  refine AC_of Try.func7 rfl Try.ntmps7 Try.results7 (by kernel_rfl) rfl ?_
  simp only [List.zipIdx, List.map, Nat.zero_add, Nat.reduceAdd]
  repeat (first | apply Aw_seq | apply Aw_block | apply Aw_skip | apply Aw_exit | refine Aw_condt rfl ?_ | refine Aw_condf rfl ?_ | ((first | refine qr ?_ | refine qd (by kernel_rfl) (by kernel_rfl) ?_); simp only [go_sem, jE, reduceIte, jA, jM, jS, jL, jD, jB, a0, b0, c0, a1, b1, c1, a2, b2, c2]) | refine dk (by kernel_rfl) ?_ | (refine qx (call_N (L := []) (k1) rfl (.cons (.nm rfl) (.nil)) (.inl rfl) rfl) (by simp only [go_sem, jE, reduceIte, jA, jM, jS, jL, jD, jB, a0, b0, c0, a1, b1, c1, a2, b2, c2]; first | done | rfl) rfl (by simp only [go_sem, Nat.reduceLT]) ?_; simp only [go_sem, jE, reduceIte, jA, jM, jS, jL, jD, jB, a0, b0, c0, a1, b1, c1, a2, b2, c2]) | (refine qx (call_N (L := []) k2 rfl (.cons (.nm rfl) .nil) (.inl rfl) (lvF_len _)) (by simp only [go_sem, jE, reduceIte, jA, jM, jS, jL, jD, jB, a0, b0, c0, a1, b1, c1, a2, b2, c2]; first | done | rfl) rfl (by simp only [go_sem, Nat.reduceLT]) ?_; simp only [go_sem, jE, reduceIte, jA, jM, jS, jL, jD, jB, a0, b0, c0, a1, b1, c1, a2, b2, c2]) | (refine qx (call_N (L := []) k3 rfl (.cons (.nm rfl) .nil) (.inl rfl) (svF_len _)) (by simp only [go_sem, jE, reduceIte, jA, jM, jS, jL, jD, jB, a0, b0, c0, a1, b1, c1, a2, b2, c2]; first | done | rfl) rfl (by simp only [go_sem, Nat.reduceLT]) ?_; simp only [go_sem, jE, reduceIte, jA, jM, jS, jL, jD, jB, a0, b0, c0, a1, b1, c1, a2, b2, c2]) | (refine qx (call_N (L := []) (k4) rfl (.cons (.nm rfl) (.nil)) (.inl rfl) rfl) (by simp only [go_sem, jE, reduceIte, jA, jM, jS, jL, jD, jB, a0, b0, c0, a1, b1, c1, a2, b2, c2]; first | done | rfl) rfl (by simp only [go_sem, Nat.reduceLT]) ?_; simp only [go_sem, jE, reduceIte, jA, jM, jS, jL, jD, jB, a0, b0, c0, a1, b1, c1, a2, b2, c2]))
  have hm5 : ∀ m ∈ ([] ++ [5] : List Nat), m = 5 := fun m h => by simpa using h
  have hm10 : ∀ m ∈ (([] ++ [5]) ++ List.range' 10 (s.levels.length + 1) : List Nat), 5 ≤ m ∧ m < 10 + (s.levels.length + 1) := fun m h => by
    rcases List.mem_append.1 h with h | h
    · have := hm5 m h; omega
    · have := List.mem_range'_1.1 h; omega
  have hm3 : ∀ m ∈ ((([] ++ [5]) ++ List.range' 10 (s.levels.length + 1)) ++ List.range' (10 + (s.levels.length + 1) + 1 + 1 + 1 + 1) (s.sieves.length + 1) : List Nat), 5 ≤ m ∧ m < 10 + (s.levels.length + 1) + 1 + 1 + 1 + 1 + (s.sieves.length + 1) := fun m h => by
    rcases List.mem_append.1 h with h | h
    · have := hm10 m h; omega
    · have := List.mem_range'_1.1 h; omega
  have hm4 : ∀ m ∈ (((([] ++ [5]) ++ List.range' 10 (s.levels.length + 1)) ++ List.range' (10 + (s.levels.length + 1) + 1 + 1 + 1 + 1) (s.sieves.length + 1)) ++ [10 + (s.levels.length + 1) + 1 + 1 + 1 + 1 + (s.sieves.length + 1) + 1 + 1 + 1 + 1 + 1 + 1 + 1 + 1 + 1 + 1 + 1 + 1] : List Nat), 5 ≤ m := fun m h => by
    rcases List.mem_append.1 h with h | h
    · have := hm3 m h; omega
    · have := List.mem_singleton.1 h; omega
  have hn2 : (([] ++ [5]) ++ List.range' 10 (s.levels.length + 1) : List Nat).length = s.levels.length + 2 := by simp; try omega
  have hn3 : ((([] ++ [5]) ++ List.range' 10 (s.levels.length + 1)) ++ List.range' (10 + (s.levels.length + 1) + 1 + 1 + 1 + 1) (s.sieves.length + 1) : List Nat).length = s.levels.length + s.sieves.length + 3 := by rw [List.length_append, hn2, List.length_range']; try omega
  have r1 := fun π => ren_eRow s.top π
  have r2 := fun k => bd_eRow s.top k
  have r3 := fun π => ren_tmRow s.times π
  have r4 := fun k => bd_tmRow s.times k
  rw [r_eRow] at r1 r2
  rw [r_tmRow] at r3 r4
  generalize hM : ((((([] : List Nat) ++ [5]) ++ List.range' 10 (s.levels.length + 1)) ++ List.range' (10 + (s.levels.length + 1) + 1 + 1 + 1 + 1) (s.sieves.length + 1)) ++ [10 + (s.levels.length + 1) + 1 + 1 + 1 + 1 + (s.sieves.length + 1) + 1 + 1 + 1 + 1 + 1 + 1 + 1 + 1 + 1 + 1 + 1 + 1]) = M at hm4
  have hn4 : M.length = s.levels.length + s.sieves.length + 4 := by rw [← hM, List.length_append, hn3]; rfl
  have q0 : pin M 0 = 5 := by rw [← hM, pin_l (by omega), pin_l (by omega)]; rfl
  have q1 : pin M 1 = 10 := by rw [← hM, pin_l (by omega), pin_l (by omega), show 1 = 1 + 0 from rfl, pin_r (n := 1) rfl, pin_g (by omega)]
  have q2 : pin M (s.levels.length + 2) = 10 + (s.levels.length + 1) + 1 + 1 + 1 + 1 := by
    have h := pin_r (b := List.range' (10 + (s.levels.length + 1) + 1 + 1 + 1 + 1) (s.sieves.length + 1)) (j := 0) hn2
    rw [pin_g (by omega)] at h
    rw [← hM, pin_l (by omega)]; exact h
  have q3 : pin M (s.levels.length + s.sieves.length + 3) = 10 + (s.levels.length + 1) + 1 + 1 + 1 + 1 + (s.sieves.length + 1) + 1 + 1 + 1 + 1 + 1 + 1 + 1 + 1 + 1 + 1 + 1 + 1 := by
    have h := pin_r (b := [10 + (s.levels.length + 1) + 1 + 1 + 1 + 1 + (s.sieves.length + 1) + 1 + 1 + 1 + 1 + 1 + 1 + 1 + 1 + 1 + 1 + 1 + 1]) (j := 0) hn3
    rw [← hM]; exact h
  have hx : AV.ren (pin M) (.t (gT 0 s)) = .t (.agg [.h 5, .h 10, .h (10 + (s.levels.length + 1) + 1 + 1 + 1 + 1), .d (.s (.int .i64 s.keep)), .d (.s (.int .i64 s.time)), .h (10 + (s.levels.length + 1) + 1 + 1 + 1 + 1 + (s.sieves.length + 1) + 1 + 1 + 1 + 1 + 1 + 1 + 1 + 1 + 1 + 1 + 1 + 1)]) := by
    simp only [gT, AV.ren, TV.ren, List.map, CV.ren, Nat.zero_add, q0, q1, q2, q3]
  subst hM
  refine Aw_ret (retM (.inl rfl) ?_ ?_ (selSkip (selSkip (selOne (selSkip (selSkip (selSkip (selApp (selSkip (selApp (selSkip (selOne (p := 5) (N := 0) (os := []) selNil rfl rfl (by simp) r1 r2) ?_) (N := 1) rfl rfl (lvF_len _) ?_ (lvF_bdO _)) ?_) hn2 (g1_len s) (svF_len _) ?_ (svF_bdO _)) ?_) ?_) ?_) hn3 (g2_len s) ?_ r3 r4) ?_) ?_) ?_)
  · rw [hx]
    simp only [resA, go_sem, jE, reduceIte, jA, jM, jS, jL, jD, jB, a0, b0, c0, a1, b1, c1, a2, b2, c2]
    first | done | rfl
  · rw [show (AV.t (gT 0 s)).bd _ = (gT 0 s).bd _ from rfl, hn4]
    simp only [gT, TV.bd, List.all_cons, List.all_nil, CV.bd, Bool.and_eq_true, decide_eq_true_eq, Bool.and_true]
    refine ⟨?_, ?_, ?_, ?_, ?_, ?_⟩ <;> first | omega | trivial
  · exact fun m h => by have := hm5 m h; omega
  · exact fun m h => by have := hm5 m h; omega
  · exact fun m h => by have := hm10 m h; omega
  · exact fun m h => by have := hm10 m h; omega
  · exact fun m h => by have := hm3 m h; omega
  · exact fun m h => by have := hm3 m h; omega
  · exact fun m h => by have := hm3 m h; omega
  · exact fun m h => by have := hm3 m h; omega
  · exact fun m h => by have := hm4 m h; omega
  · exact fun m h => by have := hm4 m h; omega
  · rw [hn4]; exact Nat.le_refl _
end Go.Proofs.Ytimkdclalajadaa.Ab
