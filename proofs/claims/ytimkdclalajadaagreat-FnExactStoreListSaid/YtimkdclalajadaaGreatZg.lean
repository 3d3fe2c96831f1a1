/-
  Plain law: runs that are newer join to a run; what the program pushes down is what the reference lets down. No condition.
  Contracts: a level that is set, a run that is pushed into levels, the program's. No condition.
  Contracts: what can be done to a store, the reference's. No condition.
  Contracts: a time that is held, or freed, the reference's. No condition.
  Contracts: deeds, one behind the other, the reference's. No condition.
  Contracts: the top that goes down, an entry that is written, the program's. No condition.
  Contracts: a store anew, the program's. No condition.
  Sieves of its own, however many, and a law's marks in them. No condition.
  A store of its own, whatever its shape: its rows one behind the other. No condition.
  Contracts: a store of its own, whatever its shape, as a law makes it, and its marks (what was marked is not told). No condition.
  Contracts: a law's marks in a new store. No condition.
  A store of its own, marked, and the marks found again; three levels. No condition.
  Contract: the law of a new store gives true, of every number. No condition.
  Contracts: what is put, what is taken away, the top that goes down, the program's. No condition.
  Rules for a law's stores of their own: lent, handed on, marked. No condition.
-/
import Derived.Test.YtimkdclalajadaaGreatZf
import Derived.Test.YtimkdclalajadaaGreatZd
import Derived.Test.YtimkdclalajadaaGreatZe
import Derived.Test.YtimkdclalajadaaGreatZc
namespace Go.Proofs.YtimkdclalajadaaGreat.Ab
open Nat renaming reduceEqDiff → jE, reduceAdd → jA, reduceMul → jM, reduceSub → jS, reduceLT → jL, reduceLeDiff → jD, reduceBEq → jB
set_option linter.deprecated false
set_option linter.unusedVariables false
set_option linter.unusedSimpArgs false
open Go Go.Proofs
set_option maxRecDepth 10000
set_option maxHeartbeats 8000000
/-- A store in a variable: its levels and sieves are rows of its own. -/
def pO (s : Sto) : Obj := ⟨33, 6, false, [[.d (.rs 4 (s.top.map entD)), .h 1, .h 2, .d (.s (.int .i64 s.keep)), .d (.s (.int .i64 s.time)), .d (.rs 1 (s.times.map intD))]]⟩
@[go_sem] theorem r_pO (s : Sto) : pO s = ⟨33, 6, false, [[.d (.rs 4 (s.top.map entD)), .h 1, .h 2, .d (.s (.int .i64 s.keep)), .d (.s (.int .i64 s.time)), .d (.rs 1 (s.times.map intD))]]⟩ := rfl
def pH (s : Sto) : List (Option Obj) := [some (pO s), some (lvRow s.levels), some (svRow s.sieves)]
@[go_sem] theorem r_pH (s : Sto) : pH s = [some (pO s), some (lvRow s.levels), some (svRow s.sieves)] := rfl
abbrev resO (o : Option Sto) : AV := .tup [stT (o.getD zSto), bT o.isSome]
/-- What is given: a store of its own, or nothing. -/
def OwnR (f : FuncId) (args : List TV) (o : Option Sto) : Prop := (∀ x, o = some x → AC Tryz.prog f args noHp 0 ⟨.tup [hT x, bT true], hpL (hS x), 4⟩) ∧ (o = none → AC Tryz.prog f args noHp 0 ⟨.tup [zA, bT false], noHp, 0⟩)
theorem OwnR.set {f : FuncId} {args : List TV} {o : Option Sto} (h : OwnR f args o) : AC Tryz.prog f args noHp 0 ⟨resO o, noHp, 0⟩ := by
  cases o with
  | none => exact AC.nilR (h.2 rfl) zA_nil
  | some x => exact AC.settle0 [0, 1, 2, 3] (h.1 x rfl) (.cons (.cons (SetC.row0 rfl rfl) (.cons (SetC.row0 rfl rfl) (.cons (SetC.row0 rfl rfl) (.cons (.inl rfl) (.cons (.inl rfl) (.cons (SetC.row0 rfl rfl) .nil)))))) (.cons (.inl rfl) .nil)) rfl
def stHd (s : Sto) : Obj := ⟨33, 6, false, [[.h 5, .h 0, .h 1, .d (.s (.int .i64 s.keep)), .d (.s (.int .i64 s.time)), .h 6]]⟩
@[go_sem] theorem r_stHd (s : Sto) : stHd s = ⟨33, 6, false, [[.h 5, .h 0, .h 1, .d (.s (.int .i64 s.keep)), .d (.s (.int .i64 s.time)), .h 6]]⟩ := rfl
structure Deed where
  kind : Int
  key : ByteArray
  num : Int
def deedD (d : Deed) : List D := [.s (.int .i64 d.kind), .s (.string d.key), .s (.int .i64 d.num)]
@[go_sem] theorem r_deedD (d : Deed) : deedD d = [.s (.int .i64 d.kind), .s (.string d.key), .s (.int .i64 d.num)] := rfl
def svN (x : Sve) (j : Nat) : List CV := [.d (.s (.string x.letters)), .d (.s (.string x.more)), .d (.s (.string x.first)), .h j, .d (.s (.int .i64 x.keep))]
def cloS (top a b c : List Ent) (x y z : Sve) (ts : List Int) : List (Option Obj) := [some (eRow top), some ⟨29, 1, true, [[.h 4], [.h 5], [.h 6]]⟩, some ⟨82, 5, true, [svN x 7, svN y 8, svN z 9]⟩,
        some (tmRow ts), some (eRow a), some (eRow b), some (eRow c), some (kRow x.rests), some (kRow y.rests), some (kRow z.rests)]
def sEls : Nat → List Sve → List (List CV)
  | _, [] => []
  | b, x :: l => svN x b :: sEls (b + 1) l
theorem sEls_app : ∀ (a c : List Sve) (b : Nat), sEls b (a ++ c) = sEls b a ++ sEls (b + a.length) c
  | [], c, b => rfl
  | x :: a, c, b => by simp only [List.cons_append, sEls, List.length_cons]; rw [sEls_app a c, show b + 1 + a.length = b + (a.length + 1) by omega]
theorem sEls_len : ∀ (a : List Sve) (b : Nat), (sEls b a).length = a.length
  | [], _ => rfl
  | x :: a, b => by simp only [sEls, List.length_cons]; rw [sEls_len a]
theorem sEls_get : ∀ (a : List Sve) (b i : Nat) {x : Sve}, a[i]? = some x → (sEls b a)[i]? = some (svN x (b + i))
  | [], b, i, x, h => by simp at h
  | y :: a, b, 0, x, h => by simp at h; subst h; rfl
  | y :: a, b, i + 1, x, h => by
    have := sEls_get a (b + 1) i (by simpa using h)
    simpa [sEls, show b + (i + 1) = b + 1 + i by omega] using this
theorem sEls_set : ∀ (a : List Sve) (b i : Nat) (x : Sve), (sEls b a).set i (svN x (b + i)) = sEls b (a.set i x)
  | [], b, i, x => rfl
  | y :: a, b, 0, x => rfl
  | y :: a, b, i + 1, x => by
    have := sEls_set a (b + 1) i x
    simp only [sEls, List.set_cons_succ]
    rw [show b + (i + 1) = b + 1 + i by omega, this]
theorem sEls_bd : ∀ (a : List Sve) (b k : Nat), b + a.length ≤ k → (sEls b a).all (·.all (CV.bd k)) = true
  | [], _, _, _ => rfl
  | x :: a, b, k, h => by
    simp only [List.length_cons] at h
    simp only [sEls, List.all_cons, sEls_bd a (b + 1) k (by omega), Bool.and_true]
    simp [svN, CV.bd]; omega
def zCel : List CV := [.d (.s (.string zs)), .d (.s (.string zs)), .d (.s (.string zs)), .d (.s (.slice none 0 0)), .d (.s (.int .i64 0))]
def zEls (i : Nat) (r : List Sve) : List (List CV) := sEls 1 (r.take i) ++ List.replicate (r.length - i) zCel
def zRow (i : Nat) (r : List Sve) : Obj := ⟨82, 5, true, zEls i r⟩
@[go_sem] theorem r_zRow (i : Nat) (r : List Sve) : zRow i r = ⟨82, 5, true, zEls i r⟩ := rfl
theorem zE_0 (r : List Sve) : List.replicate r.length [CV.d (.s (.string zs)), .d (.s (.string zs)), .d (.s (.string zs)), .d (.s (.slice none 0 0)), .d (.s (.int .i64 0))] = zEls 0 r := by simp [zEls, zCel, sEls]
theorem zE_len {i : Nat} {r : List Sve} (h : i ≤ r.length) : (zEls i r).length = r.length := by simp [zEls, sEls_len]; omega
theorem zE_get {i : Nat} {r : List Sve} (h : i < r.length) : (zEls i r)[i]? = some [.d (.s (.string zs)), .d (.s (.string zs)), .d (.s (.string zs)), .d (.s (.slice none 0 0)), .d (.s (.int .i64 0))] := by
  unfold zEls
  rw [List.getElem?_append_right (by rw [sEls_len]; simp; omega), List.getElem?_replicate, sEls_len]
  simp [zCel]; omega
theorem zE_set {i : Nat} {r : List Sve} {x : Sve} (h : r[i]? = some x) : (zEls i r).set i (svN x (i + 1)) = zEls (i + 1) r := by
  have hi := (List.getElem?_eq_some_iff.1 h).1
  unfold zEls
  rw [List.set_append_right _ _ (by rw [sEls_len]; simp; omega), sEls_len, show r.length - i = (r.length - (i + 1)) + 1 by omega, List.replicate_succ, List.take_add_one, h, sEls_app]
  simp [Nat.min_eq_left (Nat.le_of_lt hi), sEls, show 1 + i = i + 1 by omega]
def svOs (i : Nat) (r : List Sve) : List (Option Obj) := some (zRow i r) :: (r.take i).map fun x => some (kRow x.rests)
theorem zE_r0 (r : List Sve) (π : Nat → Nat) : (zEls 0 r).map (fun x => x.map (CV.ren π)) = zEls 0 r := by simp [zEls, zCel, sEls, CV.ren]
theorem zE_a0 (r : List Sve) : ((zEls 0 r).all fun x => x.all (CV.bd 1)) = true := by simp [zEls, zCel, sEls, CV.bd]
theorem zE_all {i k : Nat} {r : List Sve} (h : i < k) (hi : i ≤ r.length) : (zEls i r).all (·.all (CV.bd k)) = true := by
  unfold zEls
  rw [List.all_append, sEls_bd _ 1 k (by simp; omega), Bool.true_and]
  simp [List.all_replicate, zCel, CV.bd]
theorem zE_ren {i N : Nat} {r : List Sve} {x : Sve} (h : i < r.length) (hx : r[i]? = some x) (hN : i < N) : (zRow (i + 1) r).ren (pin (List.range (i + 1) ++ [N])) = ⟨82, 5, true, (zEls i r).set i (svN x N)⟩ := by
  simp only [Obj.ren, zRow, Obj.mk.injEq, true_and]
  rw [← zE_set hx, List.map_set]
  congr 1
  · refine (List.map_congr_left fun cs hcs => ?_).trans (List.map_id _)
    have := List.all_eq_true.1 (zE_all (k := i + 1) (Nat.lt_succ_self i) (Nat.le_of_lt h)) cs hcs
    exact (List.map_congr_left fun p hp => CV.ren_idn (fun m hm => pinM_le (by omega)) (List.all_eq_true.1 this p hp)).trans (List.map_id _)
  · simp [svN, CV.ren, pinM_top]
theorem ren_kRow (r : List ByteArray) (π : Nat → Nat) : (kRow r).ren π = kRow r := dRow_ren _ _ _ _
theorem svOs_rw {i N : Nat} {r : List Sve} {x : Sve} (h : i < r.length) (hx : r[i]? = some x) (hN : i < N) : ∀ m o, hpL (svOs (i + 1) r) m = some o → (m ≤ i ∧ upd (upd (hpL (svOs i r)) N (some (dRow 9 1 (x.rests.map strD)))) 0 (some ⟨82, 5, true, (zEls i r).set i (svN x N)⟩) m = some (o.ren (pin (List.range (i + 1) ++ [N]))) ∨ m = i + 1 ∧ upd (upd (hpL (svOs i r)) N (some (dRow 9 1 (x.rests.map strD)))) 0 (some ⟨82, 5, true, (zEls i r).set i (svN x N)⟩) N = some (o.ren (pin (List.range (i + 1) ++ [N])))) ∧ o.bd (i + 2) = true := by
  intro m o hm
  rw [hpL_get] at hm
  rcases m with _ | m
  · simp only [svOs, List.getElem?_cons_zero, Option.some.injEq] at hm
    subst hm
    exact ⟨.inl ⟨Nat.zero_le _, by rw [upd_same, zE_ren h hx hN]⟩, zE_all (by omega) (by omega)⟩
  · simp only [svOs, List.getElem?_cons_succ, List.getElem?_map] at hm
    obtain ⟨y, hy, ho⟩ := Option.map_eq_some_iff.1 hm
    obtain rfl := Option.some.inj ho
    refine ⟨?_, bd_kRow _ _⟩
    rw [ren_kRow]
    rw [List.getElem?_take] at hy
    split at hy
    · rename_i hlt
      by_cases e : m = i
      · subst e
        rw [hx] at hy; obtain rfl := Option.some.inj hy
        exact .inr ⟨rfl, by rw [upd_ne _ _ (by omega), upd_same]; rfl⟩
      · refine .inl ⟨by omega, ?_⟩
        rw [upd_ne _ _ (by omega), upd_ne _ _ (by omega), hpL_get]
        simp [svOs, List.getElem?_take, hy]
        omega
    · cases hy
def svF (r : List Sve) : List (Option Obj) := some ⟨82, 5, true, sEls 1 r⟩ :: r.map fun x => some (kRow x.rests)
theorem svF_os (r : List Sve) : svOs r.length r = svF r := by simp [svOs, svF, zRow, zEls]
theorem svF_len (r : List Sve) : (svF r).length = r.length + 1 := by simp [svF]
theorem svF_bd {r : List Sve} {m : Nat} {o : Obj} (h : hpL (svF r) m = some o) : m < r.length + 1 ∧ o.bd (r.length + 1) = true := by
  have hg := hpL_get.1 h
  refine ⟨by have := (List.getElem?_eq_some_iff.1 hg).1; rwa [svF_len] at this, ?_⟩
  rcases m with _ | m
  · simp only [svF, List.getElem?_cons_zero, Option.some.injEq] at hg
    subst hg
    exact sEls_bd r 1 _ (by omega)
  · simp only [svF, List.getElem?_cons_succ, List.getElem?_map] at hg
    obtain ⟨x, _, hx⟩ := Option.map_eq_some_iff.1 hg
    rw [← Option.some.inj hx]; exact bd_kRow _ _
theorem toSieveO_ac (x : Sve) (hl : x.rests.length ≤ 1048576) : AC Tryz.prog 79 [sveP x] noHp 0 ⟨.t (.agg [.d (.s (.string x.letters)), .d (.s (.string x.more)), .d (.s (.string x.first)), .h 0, .d (.s (.int .i64 x.keep))]), hpL [some (kRow x.rests)], 1⟩ := by
  have k := toStringSR_ac x.rests hl
  refine AC_of Tryz.func79 rfl Tryz.ntmps79 Tryz.results79 (by kernel_rfl) rfl ?_
  simp only [List.zipIdx, List.map, Nat.zero_add, Nat.reduceAdd]
  repeat (first | apply Aw_seq | apply Aw_block | apply Aw_skip | apply Aw_exit | refine Aw_condt rfl ?_ | refine Aw_condf rfl ?_ | ((first | refine qr ?_ | refine qd (by kernel_rfl) (by kernel_rfl) ?_); simp only [go_sem, jE, reduceIte, jA, jM, jS, jL, jD, jB]) | refine dk (by kernel_rfl) ?_ | (refine qx (call_N (L := []) (k) rfl (.cons (.nm rfl) (.nil)) (.inl rfl) rfl) (by simp only [go_sem, jE, reduceIte, jA, jM, jS, jL, jD, jB]; first | done | rfl) rfl (by simp only [go_sem, Nat.reduceLT]) ?_; simp only [go_sem, jE, reduceIte, jA, jM, jS, jL, jD, jB]))
  exact Aw_ret (retL (M := [17]) (.inl rfl) (by simp only [go_sem, jE, reduceIte, jA, jM, jS, jL, jD, jB]; first | done | rfl) rfl rfl (by rfl) (by simp only [go_sem, jE, reduceIte, jA, jM, jS, jL, jD, jB]; first | done | rfl | (and_intros <;> rfl)) (by decide) (by unfold idM; decide))
theorem toSieveSO_ac (r : List Sve) (hl : r.length ≤ 1048576) (he : ∀ e ∈ r, e.rests.length ≤ 1048576) : AC Tryz.prog 33 [svsT r] noHp 0 ⟨.t (.c (.h 0)), hpL (svF r), r.length + 1⟩ := by
  refine AC_of Tryz.func33 rfl Tryz.ntmps33 Tryz.results33 (by kernel_rfl) rfl ?_
  simp only [List.zipIdx, List.map, Nat.zero_add, Nat.reduceAdd]
  have t0 : ((r.length : Nat) : Int).toNat = r.length := rfl
  have t1 : (0 : Int) ≤ ((r.length : Nat) : Int) := by omega
  have t2 : ((r.length : Nat) : Int) ≤ 140737488355328 := by omega
  have t3 : decide (r.length * 80 ≤ 140737488355328) = true := decide_eq_true (by omega)
  have t4 := of_decide_eq_true t3
  have t5 := zE_0 r
  repeat (first | apply Aw_seq | apply Aw_block | apply Aw_skip | apply Aw_exit | refine Aw_condt rfl ?_ | refine Aw_condf rfl ?_ | ((first | refine qr ?_ | refine qd (by kernel_rfl) (by kernel_rfl) ?_); simp only [go_sem, jE, reduceIte, jA, jM, jS, jL, jD, jB, t0, t1, t2, t4]) | refine dk (by kernel_rfl) ?_)
  refine Aw.rw (rwL (l' := [(4, .t (iT (0 : Nat))), (3, .t (.c (.h 0))), (0, .t (svsT r))]) (os := [some (zRow 0 r)]) (M := [3]) (n' := 1) (by repeat (first | exact trivial | refine ⟨rfl, rfl, ?_⟩)) (by rfl) (by simp only [go_sem, jE, reduceIte, jA, jM, jS, jL, jD, jB, t5, zE_r0, zE_a0]; first | done | rfl) (by decide) (by unfold idM; decide)) ?_
  refine Aw_loop_rw (ι := { j : Nat // j ≤ r.length }) (fun j => S [(4, .t (iT (j.1 : Nat))), (3, .t (.c (.h 0))), (0, .t (svsT r))] (hpL (svOs j.1 r)) (j.1 + 1)) (fun j => r.length - j.1) ⟨0, Nat.zero_le _⟩ ?_
  rintro ⟨i, hi⟩
  dsimp only
  by_cases hlt : i < r.length
  · have h1 : (i : Int) < (r.length : Int) := by omega
    have h2 := wrap_succ hlt (by omega)
    obtain ⟨e, hx⟩ : ∃ e, r[i]? = some e := ⟨_, List.getElem?_eq_getElem hlt⟩
    have kk := toSieveO_ac e (he e (List.mem_of_getElem? hx))
    have g0 : hpL (svOs i r) 0 = some (zRow i r) := rfl
    have g1 := zE_len hi
    have g2 := zE_get hlt
    have g4 : (0 = i + 1) = False := eq_false (by omega)
    repeat (first | apply Aw_seq | apply Aw_block | apply Aw_skip | apply Aw_exit | refine Aw_condt rfl ?_ | refine Aw_condf rfl ?_ | ((first | refine qr ?_ | refine qd (by kernel_rfl) (by kernel_rfl) ?_); simp only [go_sem, jE, reduceIte, jA, jM, jS, jL, jD, jB, h1, h2, hx, hlt, g0, g1, g2, g4, t0]) | refine dk (by kernel_rfl) ?_ | (refine qx (call_N (L := []) (kk) rfl (.cons (.nm rfl) (.nil)) (.inl rfl) rfl) (by simp only [go_sem, jE, reduceIte, jA, jM, jS, jL, jD, jB, h1, h2, hx, hlt, g0, g1, g2, g4, t0]; first | done | rfl) rfl (by simp only [go_sem, Nat.reduceLT]) ?_; simp only [go_sem, jE, reduceIte, jA, jM, jS, jL, jD, jB, h1, h2, hx, hlt, g0, g1, g2, g4, t0]))
    refine ⟨⟨i + 1, hlt⟩, _, ?_, rwOne (i := i) (N := i + 1 + 1 + 1 + 1 + 1 + 1 + 1 + 1 + 1 + 1 + 1) (by omega) (by repeat (first | exact trivial | refine ⟨rfl, ?_⟩)) (by simp [AV.bd, TV.bd, CV.bd]) (svOs_rw hlt hx (by omega)) (Nat.le_refl _)⟩
    show r.length - (i + 1) < r.length - i; omega
  · have h1 : ¬ (i : Int) < (r.length : Int) := by omega
    obtain rfl : i = r.length := by omega
    repeat (first | apply Aw_seq | apply Aw_block | apply Aw_skip | apply Aw_exit | refine Aw_condt rfl ?_ | refine Aw_condf rfl ?_ | ((first | refine qr ?_ | refine qd (by kernel_rfl) (by kernel_rfl) ?_); simp only [go_sem, jE, reduceIte, jA, jM, jS, jL, jD, jB, h1]) | refine dk (by kernel_rfl) ?_)
    rw [svF_os]
    exact Aw_ret (retI (.inl rfl) rfl (by simp [AV.bd, TV.bd, CV.bd]) (fun m o hm => ⟨hm, svF_bd hm⟩) (Nat.zero_le _))
def markSv (q : Nat) (x : Sve) : Sve := ⟨markT q, markT (q + 1), markT (q + 2), mStrs (q + 3) x.rests.length, ((q + 3 + x.rests.length : Nat) : Int)⟩
def kS (q : Nat) (l : List Sve) : Nat := l.foldl (fun k x => k + 4 + x.rests.length) q
def markSs : Nat → List Sve → List Sve
  | _, [] => []
  | q, x :: l => markSv q x :: markSs (q + 4 + x.rests.length) l
theorem kS_app (q : Nat) (a b : List Sve) : kS q (a ++ b) = kS (kS q a) b := by simp [kS]
theorem kS_le : ∀ (l : List Sve) (q : Nat), q ≤ kS q l
  | [], q => Nat.le_refl _
  | x :: l, q => Nat.le_trans (by omega) (kS_le l (q + 4 + x.rests.length))
theorem kS_take (l : List Sve) (q i : Nat) : kS q (l.take i) ≤ kS q l := by
  conv => rhs; rw [← List.take_append_drop i l, kS_app]
  exact kS_le _ _
theorem kS_succ {l : List Sve} {q i : Nat} {x : Sve} (h : l[i]? = some x) : kS q (l.take (i + 1)) = kS q (l.take i) + 4 + x.rests.length := by
  rw [List.take_add_one, h, kS_app]; rfl
theorem markSs_app : ∀ (a b : List Sve) (q : Nat), markSs q (a ++ b) = markSs q a ++ markSs (kS q a) b
  | [], b, q => rfl
  | x :: a, b, q => by simp only [List.cons_append, markSs]; rw [markSs_app a b]; rfl
theorem markSs_len : ∀ (l : List Sve) (q : Nat), (markSs q l).length = l.length
  | [], _ => rfl
  | x :: l, q => by simp only [markSs, List.length_cons]; rw [markSs_len l]
def mSs (q i : Nat) (r : List Sve) : List Sve := markSs q (r.take i) ++ r.drop i
theorem mSs_0 (q : Nat) (r : List Sve) : mSs q 0 r = r := by simp [mSs, markSs]
theorem mSs_end (q : Nat) (r : List Sve) : mSs q r.length r = markSs q r := by simp [mSs]
theorem mSs_len {q i : Nat} {r : List Sve} : (mSs q i r).length = r.length := by simp [mSs, markSs_len]; omega
theorem mSs_get {q i : Nat} {r : List Sve} {x : Sve} (h : r[i]? = some x) : (mSs q i r)[i]? = some x := by
  have hi := (List.getElem?_eq_some_iff.1 h).1
  unfold mSs
  rw [List.getElem?_append_right (by rw [markSs_len]; simp; omega), markSs_len, drop_get h]
  simp [Nat.min_eq_left (Nat.le_of_lt hi)]
theorem mSs_set {q i : Nat} {r : List Sve} {x : Sve} (h : r[i]? = some x) : (mSs q i r).set i (markSv (kS q (r.take i)) x) = mSs q (i + 1) r := by
  have hi := (List.getElem?_eq_some_iff.1 h).1
  unfold mSs
  rw [List.set_append_right _ _ (by rw [markSs_len]; simp; omega), markSs_len, drop_get h, List.take_add_one, h, markSs_app]
  simp [Nat.min_eq_left (Nat.le_of_lt hi), markSs]
theorem svF_get {r : List Sve} {i : Nat} {x : Sve} (h : r[i]? = some x) : hpL (svF r) (i + 1) = some (kRow x.rests) := by
  rw [hpL_get]; simp [svF, h]
theorem svF_set {r : List Sve} {i : Nat} {x : Sve} (h : i < r.length) : upd (upd (hpL (svF r)) 0 (some ⟨82, 5, true, (sEls 1 r).set i (svN x (i + 1))⟩)) (i + 1) (some (kRow x.rests)) = hpL (svF (r.set i x)) := by
  rw [hpL_set (by simp [svF]), hpL_set (by simp [svF]; omega), show i + 1 = 1 + i by omega, sEls_set]
  simp [svF, List.map_set, show 1 + i = i + 1 by omega]
theorem markSieveSO_ac (r : List Sve) (q : Nat) (hl : r.length ≤ 1048576) (hq : kS q r ≤ 1099511627776) : AC Tryz.prog 42 [.c (.h 0), iT q] (hpL (svF r)) (r.length + 1) ⟨.t (iT ((kS q r : Nat) : Int)), hpL (svF (markSs q r)), r.length + 1⟩ := by
  refine AC_of Tryz.func42 rfl Tryz.ntmps42 Tryz.results42 (by kernel_rfl) rfl ?_
  simp only [List.zipIdx, List.map, Nat.zero_add, Nat.reduceAdd]
  repeat (first | apply Aw_seq | apply Aw_block | apply Aw_skip | apply Aw_exit | refine Aw_condt rfl ?_ | refine Aw_condf rfl ?_ | ((first | refine qr ?_ | refine qd (by kernel_rfl) (by kernel_rfl) ?_); simp only [go_sem, jE, reduceIte, jA, jM, jS, jL, jD, jB]) | refine dk (by kernel_rfl) ?_)
  have start : ∀ {P : Program} {N k : Nat} {x : Code} {Q : Exit → St → Prop}, Aw P N k x Q (S [(5, .t (iT (0 : Nat))), (1, .t (iT ((kS q (r.take 0) : Nat) : Int))), (0, .t (.c (.h 0)))] (hpL (svF (mSs q 0 r))) (r.length + 1)) → Aw P N k x Q (S [(5, .t (iT (0 : Nat))), (1, .t (iT (q : Nat))), (0, .t (.c (.h 0)))] (hpL (svF r)) (r.length + 1)) := by
    intro P N k x Q h
    rw [mSs_0] at h; exact h
  refine Aw.rw (rwI (l' := [(5, .t (iT (0 : Nat))), (1, .t (iT (q : Nat))), (0, .t (.c (.h 0)))]) (hp' := hpL (svF r)) (m' := r.length + 1) (n' := r.length + 1) (by repeat (first | exact trivial | refine ⟨rfl, ?_⟩)) (by simp [AV.bd, TV.bd, CV.bd]) (fun m o hm => ⟨hm, svF_bd hm⟩) (Nat.le_refl _) (Nat.le_refl _)) ?_
  refine start ?_
  refine Aw_loop_rw (ι := { j : Nat // j ≤ r.length }) (fun j => S [(5, .t (iT (j.1 : Nat))), (1, .t (iT ((kS q (r.take j.1) : Nat) : Int))), (0, .t (.c (.h 0)))] (hpL (svF (mSs q j.1 r))) (r.length + 1)) (fun j => r.length - j.1) ⟨0, Nat.zero_le _⟩ ?_
  rintro ⟨i, hi⟩
  dsimp only
  have gl : (mSs q i r).length = r.length := mSs_len
  by_cases hlt : i < r.length
  · have h1 : (i : Int) < (r.length : Int) := by omega
    have h2 := wrap_succ hlt (by omega)
    obtain ⟨e, hx⟩ : ∃ e, r[i]? = some e := ⟨_, List.getElem?_eq_getElem hlt⟩
    have hk := kS_succ (q := q) hx
    have hle := kS_take r q (i + 1)
    obtain ⟨p, hp⟩ : ∃ p, p = kS q (r.take i) := ⟨_, rfl⟩
    have hm := mSs_set (q := q) hx
    rw [← hp] at hk hm ⊢
    have w1 : IntKind.i64.wrap ((p : Int) + 1) = ((p + 1 : Nat) : Int) := wrap_succ (m := p + 1) (by omega) (by omega)
    have w2 : IntKind.i64.wrap (((p + 1 : Nat) : Int) + 1) = ((p + 2 : Nat) : Int) := wrap_succ (m := p + 2) (by omega) (by omega)
    have w3 : IntKind.i64.wrap (((p + 2 : Nat) : Int) + 1) = ((p + 3 : Nat) : Int) := wrap_succ (m := p + 3) (by omega) (by omega)
    have w4 : IntKind.i64.wrap (((p + 3 + e.rests.length : Nat) : Int) + 1) = ((kS q (r.take (i + 1)) : Nat) : Int) := by rw [hk, show p + 4 + e.rests.length = p + 3 + e.rests.length + 1 by omega]; exact wrap_succ (m := p + 3 + e.rests.length + 1) (by omega) (by omega)
    have k0 := markText_ac p (by omega)
    have k1 := markText_ac (p + 1) (by omega)
    have k2 := markText_ac (p + 2) (by omega)
    have k3 := markStringS_ac e.rests (p + 3) (by omega)
    have g0 : hpL (svF (mSs q i r)) 0 = some ⟨82, 5, true, sEls 1 (mSs q i r)⟩ := rfl
    have g1 : (sEls 1 (mSs q i r)).length = r.length := by rw [sEls_len, gl]
    have g2 := sEls_get _ 1 i (mSs_get (q := q) hx)
    rw [show 1 + i = i + 1 by omega] at g2
    unfold svN at g2
    have g3 := svF_get (mSs_get (q := q) hx)
    have g4 := set_get (L := sEls 1 (mSs q i r)) (i := i) (by omega)
    have g5 := svF_set (r := mSs q i r) (x := markSv p e) (i := i) (by omega)
    rw [hm, r_kRow] at g5
    unfold svN markSv at g5
    dsimp only at g5
    have g6 : (0 = i + 1) = False := eq_false (by omega)
    have g7 : (i + 1 = 0) = False := eq_false (by omega)
    have hh : ∀ x : Option Obj, HandL (upd (hpL (svF (mSs q i r))) 0 x) [i + 1] [i + 1] [some (dRow 9 1 (e.rests.map strD))] := fun x => ⟨by rw [upd_ne _ _ (by omega), g3, dRow_ren]; rfl, dRow_bd _ _ _ _, trivial⟩
    repeat (first | apply Aw_seq | apply Aw_block | apply Aw_skip | apply Aw_exit | refine Aw_condt rfl ?_ | refine Aw_condf rfl ?_ | ((first | refine qr ?_ | refine qd (by kernel_rfl) (by kernel_rfl) ?_); simp only [go_sem, jE, reduceIte, jA, jM, jS, jL, jD, jB, h1, h2, w1, w2, w3, w4, hlt, g0, g1, g2, g4, g6, g7, three0, List.length_set, List.set_set, upd_upd]) | refine dk (by kernel_rfl) ?_ | (refine qp (k0) (by simp only [go_sem, jE, reduceIte, jA, jM, jS, jL, jD, jB, h1, h2, w1, w2, w3, w4, hlt, g0, g1, g2, g4, g6, g7, three0, List.length_set, List.set_set, upd_upd]; first | done | rfl) rfl (by simp only [go_sem, Nat.reduceLT]) rfl rfl ?_; simp only [go_sem, jE, reduceIte, jA, jM, jS, jL, jD, jB, h1, h2, w1, w2, w3, w4, hlt, g0, g1, g2, g4, g6, g7, three0, List.length_set, List.set_set, upd_upd]) | (refine qp (k1) (by simp only [go_sem, jE, reduceIte, jA, jM, jS, jL, jD, jB, h1, h2, w1, w2, w3, w4, hlt, g0, g1, g2, g4, g6, g7, three0, List.length_set, List.set_set, upd_upd]; first | done | rfl) rfl (by simp only [go_sem, Nat.reduceLT]) rfl rfl ?_; simp only [go_sem, jE, reduceIte, jA, jM, jS, jL, jD, jB, h1, h2, w1, w2, w3, w4, hlt, g0, g1, g2, g4, g6, g7, three0, List.length_set, List.set_set, upd_upd]) | (refine qp (k2) (by simp only [go_sem, jE, reduceIte, jA, jM, jS, jL, jD, jB, h1, h2, w1, w2, w3, w4, hlt, g0, g1, g2, g4, g6, g7, three0, List.length_set, List.set_set, upd_upd]; first | done | rfl) rfl (by simp only [go_sem, Nat.reduceLT]) rfl rfl ?_; simp only [go_sem, jE, reduceIte, jA, jM, jS, jL, jD, jB, h1, h2, w1, w2, w3, w4, hlt, g0, g1, g2, g4, g6, g7, three0, List.length_set, List.set_set, upd_upd]) | (refine qx (call_L (N' := [i + 1]) (L := []) k3 rfl (.cons (.nm rfl) (.cons (.nm rfl) .nil)) (nd1 _) (lt1 (by omega)) (fun _ h => nomatch h) (hh _) (.inl rfl) rfl (Nat.le_refl _)) (by simp only [go_sem, jE, reduceIte, jA, jM, jS, jL, jD, jB, h1, h2, w1, w2, w3, w4, hlt, g0, g1, g2, g4, g6, g7, three0, List.length_set, List.set_set, upd_upd]; first | done | rfl) rfl (by simp only [go_sem, Nat.reduceLT]) ?_; simp only [go_sem, jE, reduceIte, jA, jM, jS, jL, jD, jB, h1, h2, w1, w2, w3, w4, hlt, g0, g1, g2, g4, g6, g7, three0, List.length_set, List.set_set, upd_upd]))
    rw [upd_swap _ (show i + 1 ≠ 0 by omega), upd_upd, g5]
    refine ⟨⟨i + 1, hlt⟩, _, ?_, rwI (m' := r.length + 1) (by repeat (first | exact trivial | refine ⟨rfl, ?_⟩)) (by simp [AV.bd, TV.bd, CV.bd]) (fun m o hm => ⟨hm, by have := svF_bd hm; rwa [mSs_len] at this⟩) (Nat.le_refl _) (Nat.le_refl _)⟩
    show r.length - (i + 1) < r.length - i; omega
  · have h1 : ¬ (i : Int) < (r.length : Int) := by omega
    obtain rfl : i = r.length := by omega
    have g0 : hpL (svF (mSs q r.length r)) 0 = some ⟨82, 5, true, sEls 1 (mSs q r.length r)⟩ := rfl
    have g1 : (sEls 1 (mSs q r.length r)).length = r.length := by rw [sEls_len, gl]
    repeat (first | apply Aw_seq | apply Aw_block | apply Aw_skip | apply Aw_exit | refine Aw_condt rfl ?_ | refine Aw_condf rfl ?_ | ((first | refine qr ?_ | refine qd (by kernel_rfl) (by kernel_rfl) ?_); simp only [go_sem, jE, reduceIte, jA, jM, jS, jL, jD, jB, h1, g0, g1]) | refine dk (by kernel_rfl) ?_)
    rw [mSs_end, List.take_length]
    refine Aw_ret (retI (.inl rfl) rfl rfl (fun m o hm => ⟨hm, ?_⟩) (Nat.le_refl _))
    have := svF_bd hm
    rwa [markSs_len] at this
section
variable {f g h : Nat → Nat} {m n : Nat}
theorem PV.ren_cm (e : ∀ i, i < m → g (f i) = h i) {x : PV} (hb : x.bd m = true) : (x.ren f).ren g = x.ren h := by
  cases x with
  | d x => rfl
  | ph i a b => simp [PV.bd] at hb; simp [PV.ren, e i hb]
theorem CV.ren_cm (e : ∀ i, i < m → g (f i) = h i) {x : CV} (hb : x.bd m = true) : (x.ren f).ren g = x.ren h := by
  cases x with
  | h i => simp [CV.bd] at hb; simp [CV.ren, e i hb]
  | ph i a b => simp [CV.bd] at hb; simp [CV.ren, e i hb]
  | fn f cap =>
    simp only [CV.bd, List.all_eq_true] at hb
    simp only [CV.ren, CV.fn.injEq, true_and, List.map_map]
    exact List.map_congr_left fun p hp => PV.ren_cm e (hb p hp)
  | _ => rfl
theorem Obj.ren_cm (e : ∀ i, i < m → g (f i) = h i) {o : Obj} (hb : o.bd m = true) : (o.ren f).ren g = o.ren h := by
  obtain ⟨a, k, row, els⟩ := o
  simp only [Obj.bd, List.all_eq_true] at hb
  simp only [Obj.ren, Obj.mk.injEq, true_and, List.map_map]
  exact List.map_congr_left fun cs hcs => by
    simp only [Function.comp, List.map_map]
    exact List.map_congr_left fun p hp => CV.ren_cm e (hb cs hcs p hp)
theorem Obj.ren_cg (e : ∀ i, i < m → f i = h i) {o : Obj} (hb : o.bd m = true) : o.ren f = o.ren h := by
  have := Obj.ren_cm (f := fun i => i) (g := f) (h := h) (m := m) e hb
  rwa [Obj.ren_idn (fun _ _ => rfl) hb] at this
theorem PV.bd_ren (e : ∀ i, i < m → f i < n) {x : PV} (hb : x.bd m = true) : (x.ren f).bd n = true := by
  cases x with
  | d x => rfl
  | ph i a b => simp [PV.bd] at hb; simp [PV.ren, PV.bd, e i hb]
theorem CV.bd_ren (e : ∀ i, i < m → f i < n) {x : CV} (hb : x.bd m = true) : (x.ren f).bd n = true := by
  cases x with
  | h i => simp [CV.bd] at hb; simp [CV.ren, CV.bd, e i hb]
  | ph i a b => simp [CV.bd] at hb; simp [CV.ren, CV.bd, e i hb]
  | fn f cap =>
    simp only [CV.bd, List.all_eq_true] at hb
    simp only [CV.ren, CV.bd, List.all_map, List.all_eq_true]
    exact fun p hp => PV.bd_ren e (hb p hp)
  | _ => rfl
theorem Obj.bd_ren (e : ∀ i, i < m → f i < n) {o : Obj} (hb : o.bd m = true) : (o.ren f).bd n = true := by
  simp only [Obj.bd, List.all_eq_true] at hb
  simp only [Obj.bd, Obj.ren, List.all_map, List.all_eq_true, Function.comp]
  exact fun cs hcs p hp => CV.bd_ren e (hb cs hcs p hp)
theorem Obj.bd_mono (hmn : m ≤ n) {o : Obj} (hb : o.bd m = true) : o.bd n = true := by
  simp only [Obj.bd, List.all_eq_true] at hb ⊢
  exact fun cs hcs p hp => bdC_mono hmn (hb cs hcs p hp)
end
theorem idB {k : Nat} {M : List Nat} (h : ((List.range k).all fun m => decide (m < M.length) && Nat.beq (pin M m) m) = true) : idM k M := fun m hm => by
  have := List.all_eq_true.1 h m (List.mem_range.2 hm)
  simp only [Bool.and_eq_true, decide_eq_true_eq] at this
  exact ⟨this.1, Nat.eq_of_beq_eq_true this.2⟩
/-- Objects under names that begin at b. -/
def shO (b : Nat) (os : List (Option Obj)) : List (Option Obj) := os.map (·.map (Obj.ren (b + ·)))
theorem shO_len (b : Nat) (os : List (Option Obj)) : (shO b os).length = os.length := by simp [shO]
theorem hpL_map (f : Obj → Obj) (os : List (Option Obj)) (m : Nat) : hpL (os.map (·.map f)) m = (hpL os m).map f := by
  simp only [hpL, List.getElem?_map]
  cases os[m]? <;> rfl
theorem hpL_sh (b : Nat) (os : List (Option Obj)) (m : Nat) : hpL (shO b os) m = (hpL os m).map (Obj.ren (b + ·)) := hpL_map _ _ _
theorem hpL_lt {os : List (Option Obj)} {m : Nat} {o : Obj} (h : hpL os m = some o) : m < os.length := by
  rcases Nat.lt_or_ge m os.length with h1 | h1
  · exact h1
  · rw [hpL_none h1] at h; cases h
theorem hpL_l {a b : List (Option Obj)} {m : Nat} (h : m < a.length) : hpL (a ++ b) m = hpL a m := by
  unfold hpL; rw [List.getElem?_append_left h]
theorem hpL_r {a b : List (Option Obj)} {j n : Nat} (h : a.length = n) : hpL (a ++ b) (n + j) = hpL b j := by
  unfold hpL; rw [List.getElem?_append_right (by omega), h, Nat.add_sub_cancel_left]
theorem app_cases {os1 os2 : List (Option Obj)} {N m : Nat} {o : Obj} (e1 : os1.length = N) (h : hpL (os1 ++ shO N os2) m = some o) : (m < N ∧ hpL os1 m = some o) ∨ ∃ j o', m = N + j ∧ j < os2.length ∧ hpL os2 j = some o' ∧ o = o'.ren (N + ·) := by
  rcases Nat.lt_or_ge m N with h1 | h1
  · rw [hpL_l (by omega)] at h
    exact .inl ⟨h1, h⟩
  · obtain ⟨j, rfl⟩ : ∃ j, m = N + j := ⟨m - N, by omega⟩
    rw [hpL_r e1, hpL_sh] at h
    obtain ⟨o', h2, h3⟩ := Option.map_eq_some_iff.1 h
    exact .inr ⟨j, o', rfl, hpL_lt h2, h2, h3.symm⟩
def BdO (os : List (Option Obj)) (n : Nat) : Prop := ∀ m o, hpL os m = some o → o.bd n = true
theorem bdApp {os1 os2 : List (Option Obj)} {N N2 : Nat} (e1 : os1.length = N) (h1 : BdO os1 N) (h2 : BdO os2 N2) : BdO (os1 ++ shO N os2) (N + N2) := fun m o hm => by
  rcases app_cases e1 hm with ⟨_, h⟩ | ⟨j, o', _, _, h, rfl⟩
  · exact Obj.bd_mono (by omega) (h1 m o h)
  · exact Obj.bd_ren (fun i hi => by omega) (h2 j o' h)
theorem bdOne {os : List (Option Obj)} {N : Nat} {x : Obj} (h : BdO os N) (hx : ∀ k, x.bd k = true) : BdO (os ++ [some x]) (N + 1) := fun m o hm => by
  rcases Nat.lt_or_ge m os.length with h1 | h1
  · rw [hpL_l h1] at hm; exact Obj.bd_mono (by omega) (h m o hm)
  · obtain ⟨j, rfl⟩ : ∃ j, m = os.length + j := ⟨m - os.length, by omega⟩
    rw [hpL_r rfl] at hm
    rcases j with _ | j
    · rw [l_c0] at hm; obtain rfl := Option.some.inj hm; exact hx _
    · rw [l_c1, l_n] at hm; cases hm
theorem pin_l {a b : List Nat} {m : Nat} (h : m < a.length) : pin (a ++ b) m = pin a m := by simp [pin, List.getD, List.getElem?_append_left h]
theorem pin_r {a b : List Nat} {n j : Nat} (h : a.length = n) : pin (a ++ b) (n + j) = pin b j := by subst h; simp [pin, List.getD, List.getElem?_append_right]
theorem pin_g {p n j : Nat} (h : j < n) : pin (List.range' p n) j = p + j := by simp [pin, List.getD, List.getElem?_range' h]
/-- More objects, as a call of this function leaves them. -/
theorem selApp {hp : Hp} {M : List Nat} {os1 os2 : List (Option Obj)} {p N N2 : Nat} (h1 : HpSel M hp (hpL os1)) (e0 : M.length = N) (e1 : os1.length = N) (e2 : os2.length = N2) (hlt : ∀ m ∈ M, m < p) (b2 : BdO os2 N2) :
    HpSel (M ++ List.range' p N2) (updL hp (List.range' p N2) (os2.map (·.map (Obj.ren (pout [] p))))) (hpL (os1 ++ shO N os2)) := by
  have hl : (M ++ List.range' p N2).length = N + N2 := by simp [e0]
  have left : ∀ m, m < N → pin (M ++ List.range' p N2) m = pin M m := fun m hm => pin_l (by omega)
  have right : ∀ j, j < N2 → pin (M ++ List.range' p N2) (N + j) = p + j := fun j hj => by rw [pin_r e0, pin_g hj]
  have lp : ∀ m, m < N → pin M m < p := fun m hm => hlt _ (pin_mem (by omega))
  constructor
  · intro m m' o o' hm hm' q
    rcases app_cases e1 hm with ⟨a, a1⟩ | ⟨j, _, rfl, a, _⟩ <;> rcases app_cases e1 hm' with ⟨b, c1⟩ | ⟨j', _, rfl, b, _⟩
    · rw [left m a, left m' b] at q
      exact h1.inj m m' o o' a1 c1 q
    · rw [left m a, right j' (by omega)] at q
      have := lp m a; omega
    · rw [left m' b, right j (by omega)] at q
      have := lp m' b; omega
    · rw [right j (by omega), right j' (by omega)] at q; omega
  · intro m o hm
    rcases app_cases e1 hm with ⟨a, a1⟩ | ⟨j, o', rfl, a, a1, rfl⟩
    · obtain ⟨q1, q2, q3⟩ := h1.obj m o a1
      refine ⟨by omega, ?_, Obj.bd_mono (by omega) q3⟩
      rw [left m a, updL_not (fun hc => by have := (List.mem_range'_1.1 hc).1; have := lp m a; omega), q2]
      congr 1
      exact Obj.ren_cg (fun i hi => (left i (by omega)).symm) q3
    · have hj : j < N2 := by omega
      refine ⟨by omega, ?_, by rw [hl]; exact Obj.bd_ren (fun i hi => by omega) (b2 j o' a1)⟩
      rw [right j hj, updL_get List.nodup_range' (i := j) (by rw [List.getElem?_range' hj]; simp) (by simp [e2]; exact hj), hpL_map, a1, Obj.ren_cm (h := pout [] p) (fun i hi => by rw [right i hi, q_n]) (b2 j o' a1)]
      rfl
/-- One more, that names none. -/
theorem selOne {hp : Hp} {M : List Nat} {os : List (Option Obj)} {p N : Nat} {x : Obj} (h1 : HpSel M hp (hpL os)) (e0 : M.length = N) (e1 : os.length = N) (hlt : ∀ m ∈ M, m < p) (hr : ∀ π, x.ren π = x) (hx : ∀ k, x.bd k = true) :
    HpSel (M ++ [p]) (upd hp p (some x)) (hpL (os ++ [some x])) := by
  have h := selApp (p := p) (os2 := [some x]) (N2 := 1) h1 e0 e1 rfl hlt (fun m o hm => by
    rcases m with _ | m
    · rw [l_c0] at hm; obtain rfl := Option.some.inj hm; exact hx _
    · rw [l_c1, l_n] at hm; cases hm)
  have e : shO N [some x] = [some x] := by simp [shO, hr]
  rw [e] at h
  have e2 : updL hp (List.range' p 1) ([some x].map (·.map (Obj.ren (pout [] p)))) = upd hp p (some x) := by
    simp only [List.map, Option.map, hr]; rfl
  rw [e2] at h
  exact h
theorem selNil {hp : Hp} : HpSel [] hp (hpL []) := by
  constructor
  · intro m m' o o' h; rw [l_n] at h; cases h
  · intro m o h; rw [l_n] at h; cases h
/-- A call that gets objects one behind the other and leaves none. -/
def hole (b m : Nat) (hp : Hp) : Hp := fun q => if b ≤ q ∧ q < b + m then none else hp q
theorem hole_ne {b m q : Nat} {hp : Hp} (h : ¬ (b ≤ q ∧ q < b + m)) : hole b m hp q = hp q := if_neg h
/-- A block of objects, as it lies. -/
def BlkO (hp : Hp) (b : Nat) (os : List (Option Obj)) : Prop := ∀ j, j < os.length → ∃ o, os[j]? = some (some o) ∧ hp (b + j) = some (o.ren (b + ·)) ∧ o.bd os.length = true
theorem BlkO.hole {hp : Hp} {b c m : Nat} {os : List (Option Obj)} (h : BlkO hp b os) (hd : c + m ≤ b ∨ b + os.length ≤ c) : BlkO (hole c m hp) b os := fun j hj => by
  obtain ⟨o, h1, h2, h3⟩ := h j hj
  exact ⟨o, h1, by rw [hole_ne (by omega)]; exact h2, h3⟩
theorem BlkO.upd {hp : Hp} {b q : Nat} {x : Option Obj} {os : List (Option Obj)} (h : BlkO hp b os) (hd : q < b ∨ b + os.length ≤ q) : BlkO (upd hp q x) b os := fun j hj => by
  obtain ⟨o, h1, h2, h3⟩ := h j hj
  exact ⟨o, h1, by rw [upd_ne _ _ (by omega)]; exact h2, h3⟩
theorem selSkip {hp hp1 : Hp} {M : List Nat} {q : Nat} {x : Option Obj} (h : HpSel M hp hp1) (hq : ∀ m ∈ M, m ≠ q) : HpSel M (upd hp q x) hp1 :=
  ⟨h.inj, fun m o hm => by
    obtain ⟨h1, h2, h3⟩ := h.obj m o hm
    exact ⟨h1, by rw [upd_ne _ _ (hq _ (pin_mem h1))]; exact h2, h3⟩⟩
theorem retM {P : Program} {l : List (Nat × AV)} {hp hp' : Hp} {n n' : Nat} {rs : List ResultVar} {e : Exit} {x : AV} {M : List Nat} (he : e = .ret ∨ e = .normal) (h : resA P rs (look l) hp = some (x.ren (pin M))) (hb : x.bd M.length = true) (hs : HpSel M hp hp') (hn : M.length ≤ n') :
    RetQ P rs 0 ⟨x, hp', n'⟩ e (S l hp n) := ⟨he.symm, M, ⟨h, hb, hs, hn, fun m hm => absurd hm (by omega)⟩⟩
theorem call_B {P : Program} {hp : Hp} {n : Nat} {f : FuncId} {va : List AV} {ta tb : List TV} {os : List (Option Obj)} {x : AV} {b N : Nat} (e : os.length = N) (hc : AC P f tb (hpL os) N ⟨x, noHp, N⟩) (hv : va = ta.map AV.t) (hB : All2 (Arg hp (List.range' b N) []) ta tb) (hs : BlkO hp b os) (hx : x.bd 0 = true) :
    CallOk P f hp va n x (hole b N hp) n (List.range' b N ++ []) (List.range' b N) := by
  subst e
  have hl : (List.range' b os.length).length = os.length := List.length_range'
  refine ⟨ta, tb, hpL os, List.range' b os.length, [], ⟨x, noHp, os.length⟩, hv, hB, ⟨List.nodup_range', by simp, fun j o hj => ?_, fun j hj => ?_⟩, .inl rfl, by rw [hl]; exact hc, ?_, ?_, ?_, rfl, rfl⟩
  · rw [hl]; exact hpL_lt hj
  · rw [hl] at hj
    obtain ⟨o, h1, h2, h3⟩ := hs j hj
    refine ⟨o, by simp [hpL, h1], ?_, by rw [hl]; exact h3⟩
    rw [pin_g hj, h2, Obj.ren_cg (fun i hi => (pin_g hi).symm) h3]
  · exact (AV.ren_id (n := 0) (fun m hm => absurd hm (by omega)) hx).symm
  · funext q
    unfold hole
    show _ = hpOut hp (List.range' b os.length) n (os.length - (List.range' b os.length).length) noHp q
    unfold hpOut
    rw [hl, if_neg (c := inR n (os.length - os.length) q) (by unfold inR; omega)]
    by_cases h : b ≤ q ∧ q < b + os.length
    · rw [if_pos h, if_pos (List.mem_range'_1.2 h)]; rfl
    · rw [if_neg h, if_neg (fun hm => h (List.mem_range'_1.1 hm))]
  · rw [hl]; simp
theorem arg_B {hp : Hp} {b n : Nat} {L : List Nat} (h : 0 < n) : Arg hp (List.range' b n) L (.c (.h b)) (.c (.h 0)) := by
  have := Arg.nm (hp := hp) (N := List.range' b n) (L := L) (b := .c (.h 0)) (by simpa [TV.bd, CV.bd] using h)
  rw [show (TV.c (.h 0)).ren (pin (List.range' b n)) = .c (.h b) by simp only [TV.ren, CV.ren, pin_g h]; rfl] at this
  exact this
-- the rows
def hEls (b n : Nat) : List (List CV) := (List.range' b n).map fun j => [.h j]
theorem hEls_succ (b n : Nat) : hEls b (n + 1) = [.h b] :: hEls (b + 1) n := rfl
theorem pRow_sh (b n : Nat) : (pRow n n).ren (b + ·) = ⟨29, 1, true, hEls (b + 1) n⟩ := by
  simp only [pRow, Obj.ren, Obj.mk.injEq, true_and, pEls, hEls, Nat.sub_self, List.replicate_zero, List.append_nil, List.map_map]
  rw [List.range_eq_range', ← List.map_add_range' (n := n) (a := b + 1) (s := 0)]
  rw [List.map_map]
  exact List.map_congr_left fun j _ => by simp [CV.ren]; omega
theorem sEls_sh (b : Nat) : ∀ (r : List Sve) (c : Nat), (sEls c r).map (·.map (CV.ren (b + ·))) = sEls (b + c) r
  | [], c => rfl
  | x :: r, c => by simp only [sEls, List.map_cons, sEls_sh b r]; rfl
theorem lvF_blk (r : List (List Ent)) (j : Nat) (hj : j < (lvF r).length) : ∃ o, (lvF r)[j]? = some (some o) ∧ o.bd (lvF r).length = true := by
  rcases j with _ | j
  · exact ⟨_, rfl, by rw [lvF_len]; exact pE_all (by omega) (Nat.le_refl _)⟩
  · rw [lvF_len] at hj
    exact ⟨eRow (r[j]'(by omega)), by simp [lvF, List.getElem?_eq_getElem (show j < r.length by omega)], bd_eRow _ _⟩
theorem svF_blk (r : List Sve) (j : Nat) (hj : j < (svF r).length) : ∃ o, (svF r)[j]? = some (some o) ∧ o.bd (svF r).length = true := by
  rcases j with _ | j
  · exact ⟨_, rfl, by rw [svF_len]; exact sEls_bd _ _ _ (by omega)⟩
  · rw [svF_len] at hj
    exact ⟨kRow (r[j]'(by omega)).rests, by simp [svF, List.getElem?_eq_getElem (show j < r.length by omega)], bd_kRow _ _⟩
theorem lvF_bdO (r : List (List Ent)) : BdO (lvF r) (r.length + 1) := fun m o h => (lvF_bd h).2
theorem svF_bdO (r : List Sve) : BdO (svF r) (r.length + 1) := fun m o h => (svF_bd h).2
/-- The rows of a store: its top, its levels, its sieves, its times. -/
def gK (s : Sto) : Nat := s.levels.length + s.sieves.length + 4
def gOs (s : Sto) : List (Option Obj) := (([some (eRow s.top)] ++ shO 1 (lvF s.levels)) ++ shO (s.levels.length + 2) (svF s.sieves)) ++ [some (tmRow s.times)]
def gT (b : Nat) (s : Sto) : TV := .agg [.h b, .h (b + 1), .h (b + (s.levels.length + 2)), .d (.s (.int .i64 s.keep)), .d (.s (.int .i64 s.time)), .h (b + (s.levels.length + s.sieves.length + 3))]
theorem g1_len (s : Sto) : ([some (eRow s.top)] ++ shO 1 (lvF s.levels)).length = s.levels.length + 2 := by simp [shO_len, lvF_len]
theorem g2_len (s : Sto) : (([some (eRow s.top)] ++ shO 1 (lvF s.levels)) ++ shO (s.levels.length + 2) (svF s.sieves)).length = s.levels.length + s.sieves.length + 3 := by rw [List.length_append, g1_len, shO_len, svF_len]; omega
theorem gOs_len (s : Sto) : (gOs s).length = gK s := by unfold gOs gK; rw [List.length_append, g2_len]; rfl
theorem ren_tmRow (r : List Int) (π : Nat → Nat) : (tmRow r).ren π = tmRow r := dRow_ren _ _ _ _
theorem bd_tmRow (r : List Int) (k : Nat) : (tmRow r).bd k = true := dRow_bd _ _ _ _
theorem bd0_eRow (r : List Ent) : BdO [some (eRow r)] 1 := fun m o hm => by
  rcases m with _ | m
  · rw [l_c0] at hm; obtain rfl := Option.some.inj hm; exact bd_eRow _ _
  · rw [l_c1, l_n] at hm; cases hm
theorem g1_bd (s : Sto) : BdO ([some (eRow s.top)] ++ shO 1 (lvF s.levels)) (s.levels.length + 2) := by
  have := bdApp (os1 := [some (eRow s.top)]) (N := 1) rfl (bd0_eRow _) (lvF_bdO s.levels)
  rwa [show 1 + (s.levels.length + 1) = s.levels.length + 2 by omega] at this
theorem g2_bd (s : Sto) : BdO (([some (eRow s.top)] ++ shO 1 (lvF s.levels)) ++ shO (s.levels.length + 2) (svF s.sieves)) (s.levels.length + s.sieves.length + 3) := by
  have := bdApp (g1_len s) (g1_bd s) (svF_bdO s.sieves)
  rwa [show s.levels.length + 2 + (s.sieves.length + 1) = s.levels.length + s.sieves.length + 3 by omega] at this
theorem gOs_bd (s : Sto) : BdO (gOs s) (gK s) := bdOne (g2_bd s) (fun k => bd_tmRow _ k)
theorem gH_top (s : Sto) : hpL (gOs s) 0 = some (eRow s.top) := rfl
theorem gH_lev (s : Sto) {j : Nat} (hj : j < s.levels.length + 1) : hpL (gOs s) (1 + j) = (hpL (lvF s.levels) j).map (Obj.ren (1 + ·)) := by
  unfold gOs
  rw [hpL_l (by rw [g2_len]; omega), hpL_l (by rw [g1_len]; omega), hpL_r (a := [some (eRow s.top)]) (n := 1) rfl, hpL_sh]
theorem gH_sve (s : Sto) {j : Nat} (hj : j < s.sieves.length + 1) : hpL (gOs s) (s.levels.length + 2 + j) = (hpL (svF s.sieves) j).map (Obj.ren (s.levels.length + 2 + ·)) := by
  unfold gOs
  rw [hpL_l (by rw [g2_len]; omega), hpL_r (g1_len s), hpL_sh]
theorem gH_tm (s : Sto) : hpL (gOs s) (s.levels.length + s.sieves.length + 3) = some (tmRow s.times) := by
  have := hpL_r (b := [some (tmRow s.times)]) (j := 0) (g2_len s)
  rw [l_c0] at this
  exact this
/-- The store's rows under names from b on. -/
def GSt (hp : Hp) (b : Nat) (s : Sto) : Prop := ∀ m o, hpL (gOs s) m = some o → hp (b + m) = some (o.ren (b + ·))
theorem gst_top {hp : Hp} {b : Nat} {s : Sto} (h : GSt hp b s) : BlkO hp b [some (eRow s.top)] := fun j hj => by
  obtain rfl : j = 0 := by simp at hj; exact hj
  exact ⟨_, rfl, by rw [h 0 _ (gH_top s)], bd_eRow _ _⟩
theorem gst_part {hp : Hp} {b c n : Nat} {s : Sto} {os : List (Option Obj)} (h : GSt hp b s) (hl : os.length = n) (hg : ∀ j, j < n → hpL (gOs s) (c + j) = (hpL os j).map (Obj.ren (c + ·))) (hb : ∀ j, j < os.length → ∃ o, os[j]? = some (some o) ∧ o.bd os.length = true) : BlkO hp (b + c) os := fun j hj => by
  obtain ⟨o, h1, h2⟩ := hb j hj
  refine ⟨o, h1, ?_, h2⟩
  have := h (c + j) (o.ren (c + ·)) (by rw [hg j (by omega)]; simp [hpL, h1])
  rw [Nat.add_assoc, this, Obj.ren_cm (h := (b + c + ·)) (fun i hi => (Nat.add_assoc b c i).symm) h2]
theorem gst_lev {hp : Hp} {b : Nat} {s : Sto} (h : GSt hp b s) : BlkO hp (b + 1) (lvF s.levels) := gst_part h (lvF_len _) (fun j hj => gH_lev s hj) (lvF_blk _)
theorem gst_sve {hp : Hp} {b : Nat} {s : Sto} (h : GSt hp b s) : BlkO hp (b + (s.levels.length + 2)) (svF s.sieves) := gst_part h (svF_len _) (fun j hj => gH_sve s hj) (svF_blk _)
theorem gst_tm {hp : Hp} {b : Nat} {s : Sto} (h : GSt hp b s) : BlkO hp (b + (s.levels.length + s.sieves.length + 3)) [some (tmRow s.times)] := fun j hj => by
  obtain rfl : j = 0 := by simp at hj; exact hj
  exact ⟨_, rfl, by rw [Nat.add_zero, h _ _ (gH_tm s), ren_tmRow, ren_tmRow], bd_tmRow _ _⟩
-- lent
theorem lend_hEls {hp : Hp} {n : Nat} : ∀ (r : List (List Ent)) (b : Nat), (∀ j x, r[j]? = some x → hp (b + j) = some (eRow x)) → (hEls b r.length).mapM (fun cs : List CV => cs.mapM (lendC hp (n + 1))) = some (r.map lvD)
  | [], b, _ => rfl
  | x :: r, b, h => by
    have h0 : hp b = some (eRow x) := h 0 x rfl
    have ih := lend_hEls (n := n) r (b + 1) fun j y hy => by have := h (j + 1) y (by simpa using hy); rwa [show b + (j + 1) = b + 1 + j by omega] at this
    rw [List.length_cons, hEls_succ, List.mapM_cons, ih, List.mapM_cons, lend_dRow h0]
    rfl
theorem lend_sEls {hp : Hp} {n : Nat} : ∀ (r : List Sve) (b : Nat), (∀ j x, r[j]? = some x → hp (b + j) = some (kRow x.rests)) → (sEls b r).mapM (fun cs : List CV => cs.mapM (lendC hp (n + 1))) = some (r.map sveD)
  | [], b, _ => rfl
  | x :: r, b, h => by
    have h0 : hp b = some (kRow x.rests) := h 0 x rfl
    have ih := lend_sEls (n := n) r (b + 1) fun j y hy => by have := h (j + 1) y (by simpa using hy); rwa [show b + (j + 1) = b + 1 + j by omega] at this
    simp only [sEls, List.mapM_cons, ih, svN, lend_dRow h0]
    rfl
theorem lendN_hEls {hp : Hp} {n : Nat} : ∀ (r : List (List Ent)) (b : Nat), (∀ j x, r[j]? = some x → hp (b + j) = some (eRow x)) → ∀ m ∈ (hEls b r.length).flatMap (fun cs : List CV => cs.flatMap (lendN hp (n + 1))), b ≤ m ∧ m < b + r.length
  | [], b, _, m, hm => by simp [hEls] at hm
  | x :: r, b, h, m, hm => by
    have h0 : hp b = some (eRow x) := h 0 x rfl
    have ih := lendN_hEls (n := n) r (b + 1) fun j y hy => by have := h (j + 1) y (by simpa using hy); rwa [show b + (j + 1) = b + 1 + j by omega] at this
    rw [List.length_cons, hEls_succ, List.flatMap_cons, List.mem_append] at hm
    rcases hm with hm | hm
    · simp only [List.flatMap_cons, List.flatMap_nil, List.append_nil] at hm
      rw [lendN_dRow h0 n m hm, List.length_cons]; omega
    · have := ih m hm
      rw [List.length_cons]; omega
theorem lendN_sEls {hp : Hp} {n : Nat} : ∀ (r : List Sve) (b : Nat), (∀ j x, r[j]? = some x → hp (b + j) = some (kRow x.rests)) → ∀ m ∈ (sEls b r).flatMap (fun cs : List CV => cs.flatMap (lendN hp (n + 1))), b ≤ m ∧ m < b + r.length
  | [], b, _, m, hm => by simp [sEls] at hm
  | x :: r, b, h, m, hm => by
    have h0 : hp b = some (kRow x.rests) := h 0 x rfl
    have ih := lendN_sEls (n := n) r (b + 1) fun j y hy => by have := h (j + 1) y (by simpa using hy); rwa [show b + (j + 1) = b + 1 + j by omega] at this
    simp only [sEls, List.flatMap_cons, List.mem_append] at hm
    rcases hm with hm | hm
    · have hd : ∀ (i : Value), lendN hp (n + 1) (.d (.s i)) = [] := fun i => rfl
      simp only [svN, List.flatMap_cons, List.flatMap_nil, List.append_nil, List.nil_append, hd] at hm
      rw [lendN_dRow h0 n m hm, List.length_cons]; omega
    · have := ih m hm
      rw [List.length_cons]; omega
theorem arg_gT {hp : Hp} {N' L : List Nat} {b : Nat} {s : Sto} (h : GSt hp b s) (hL : ∀ m, b ≤ m → m < b + gK s → m ∈ L) : Arg hp N' L (gT b s) (stT s) := by
  have g0 : hp b = some (eRow s.top) := by have := h 0 _ (gH_top s); rwa [ren_eRow] at this
  have g1 : hp (b + 1) = some ⟨29, 1, true, hEls (b + 2) s.levels.length⟩ := by
    have := h 1 _ ((gH_lev s (j := 0) (by omega)).trans rfl)
    rw [this, Obj.ren_cm (m := s.levels.length + 1) (h := (b + 1 + ·)) (fun i hi => (Nat.add_assoc b 1 i).symm) (show (pRow s.levels.length s.levels.length).bd (s.levels.length + 1) = true from pE_all (by omega) (Nat.le_refl _)), pRow_sh]
  have g2 : hp (b + (s.levels.length + 2)) = some ⟨82, 5, true, sEls (b + (s.levels.length + 2) + 1) s.sieves⟩ := by
    have := h (s.levels.length + 2) _ ((gH_sve s (j := 0) (by omega)).trans rfl)
    rw [this, Obj.ren_cm (m := s.sieves.length + 1) (h := (b + (s.levels.length + 2) + ·)) (fun i hi => (Nat.add_assoc b _ i).symm) (show (⟨82, 5, true, sEls 1 s.sieves⟩ : Obj).bd (s.sieves.length + 1) = true from sEls_bd _ _ _ (by omega))]
    simp only [Obj.ren, sEls_sh]
  have g3 : hp (b + (s.levels.length + s.sieves.length + 3)) = some (tmRow s.times) := by have := h _ _ (gH_tm s); rwa [ren_tmRow] at this
  have l1 : ∀ j x, s.levels[j]? = some x → hp (b + 2 + j) = some (eRow x) := fun j x hx => by
    have hj := (List.getElem?_eq_some_iff.1 hx).1
    have := h (1 + (j + 1)) (eRow x) (by rw [gH_lev s (by omega), lvF_get hx]; simp [ren_eRow])
    rw [ren_eRow] at this
    rwa [show b + (1 + (j + 1)) = b + 2 + j by omega] at this
  have l2 : ∀ j x, s.sieves[j]? = some x → hp (b + (s.levels.length + 2) + 1 + j) = some (kRow x.rests) := fun j x hx => by
    have hj := (List.getElem?_eq_some_iff.1 hx).1
    have := h (s.levels.length + 2 + (j + 1)) (kRow x.rests) (by rw [gH_sve s (by omega), svF_get hx]; simp [ren_kRow])
    rw [ren_kRow] at this
    rwa [show b + (s.levels.length + 2 + (j + 1)) = b + (s.levels.length + 2) + 1 + j by omega] at this
  have e1 : lendC hp 3 (.h (b + 1)) = some (.rs 1 (s.levels.map lvD)) := by
    show (match hp (b + 1) with | some o => _ | none => none) = _
    rw [g1]
    show ((hEls (b + 2) s.levels.length).mapM (fun cs : List CV => cs.mapM (lendC hp 2))).map (D.rs 1) = _
    rw [lend_hEls s.levels (b + 2) l1]; rfl
  have e2 : lendC hp 3 (.h (b + (s.levels.length + 2))) = some (.rs 5 (s.sieves.map sveD)) := by
    show (match hp (b + (s.levels.length + 2)) with | some o => _ | none => none) = _
    rw [g2]
    show ((sEls (b + (s.levels.length + 2) + 1) s.sieves).mapM (fun cs : List CV => cs.mapM (lendC hp 2))).map (D.rs 5) = _
    rw [lend_sEls s.sieves _ l2]; rfl
  have hd : ∀ (i : Value), lendN hp 3 (.d (.s i)) = [] := fun i => rfl
  refine .ln (n := 3) ?_ fun w hw m hm => ?_
  · unfold gT
    simp only [TV.lend, List.mapM_cons, List.mapM_nil, lend_dRow g0, e1, e2, lend_dRow g3]
    rfl
  · unfold gT at hw
    have hK : gK s = s.levels.length + s.sieves.length + 4 := rfl
    simp only [TV.cells, List.mem_cons, List.not_mem_nil, or_false] at hw
    rcases hw with rfl | rfl | rfl | rfl | rfl | rfl
    · rw [lendN_dRow g0 2 m hm]; exact hL _ (by omega) (by omega)
    · have e : lendN hp 3 (.h (b + 1)) = (b + 1) :: ((hEls (b + 2) s.levels.length).flatMap fun cs : List CV => cs.flatMap (lendN hp 2)) := by
        show (match hp (b + 1) with | some o => _ | none => []) = _
        rw [g1]
      rw [e] at hm
      rcases List.mem_cons.1 hm with rfl | hm
      · exact hL _ (by omega) (by omega)
      · have := lendN_hEls s.levels (b + 2) l1 m hm
        exact hL _ (by omega) (by omega)
    · have e : lendN hp 3 (.h (b + (s.levels.length + 2))) = (b + (s.levels.length + 2)) :: ((sEls (b + (s.levels.length + 2) + 1) s.sieves).flatMap fun cs : List CV => cs.flatMap (lendN hp 2)) := by
        show (match hp (b + (s.levels.length + 2)) with | some o => _ | none => []) = _
        rw [g2]
      rw [e] at hm
      rcases List.mem_cons.1 hm with rfl | hm
      · exact hL _ (by omega) (by omega)
      · have := lendN_sEls s.sieves _ l2 m hm
        exact hL _ (by omega) (by omega)
    · rw [hd] at hm; cases hm
    · rw [hd] at hm; cases hm
    · rw [lendN_dRow g3 2 m hm]; exact hL _ (by omega) (by omega)
theorem AC.drop {P : Program} {f : FuncId} {args : List TV} {hp hp2 : Hp} {x : AV} {k n : Nat} (h : AC P f args hp k ⟨x, hp2, n⟩) (hx : x.bd n = true) (hk : k ≤ n) : AC P f args hp k ⟨x, noHp, n⟩ := by
  refine AC.sel (M := List.range n) h ?_ (by simpa using hx) ⟨fun m m' o o' hm => by simp [noHp] at hm, fun m o hm => by simp [noHp] at hm⟩ (by simp) fun m hm => ⟨by simp; omega, pin_range (by omega)⟩
  exact (AV.ren_idn (fun m hm => pin_range hm) hx).symm
def cntS (q : Nat) (s : Sto) : Nat := kS (kR (q + 4 * s.top.length) s.levels) s.sieves + s.times.length
theorem markStoreF_ac (s : Sto) (q : Nat) (hm : midT s) (hq : cntS q s ≤ 1099511627776) : AC Tryz.prog 13 [gT 0 s, iT q] (hpL (gOs s)) (gK s) ⟨.t (iT ((cntS q s : Nat) : Int)), noHp, gK s⟩ := by
  unfold cntS at hq ⊢
  have a1 := kR_le s.levels (q + 4 * s.top.length)
  have a2 := kS_le s.sieves (kR (q + 4 * s.top.length) s.levels)
  have k1 := AC.drop (markEntryS_ac s.top q (by omega)) rfl (Nat.le_refl _)
  have k2 := AC.drop (markEntrySSO_ac s.levels (q + 4 * s.top.length) hm.ll (by omega)) rfl (Nat.le_refl _)
  have k3 := AC.drop (markSieveSO_ac s.sieves (kR (q + 4 * s.top.length) s.levels) hm.sl (by omega)) rfl (Nat.le_refl _)
  have k4 := AC.drop (markIntS_ac s.times (kS (kR (q + 4 * s.top.length) s.levels) s.sieves) hq) rfl (Nat.le_refl _)
  have hg : GSt (hpL (gOs s)) 0 s := fun m o h => by
    rw [Nat.zero_add, h, Obj.ren_idn (n := gK s) (fun i _ => by simp) (gOs_bd s m o h)]
  have b1 := gst_top hg
  have b2 := gst_lev hg
  have b3 := gst_sve hg
  have b4 := gst_tm hg
  have l2 := lvF_len s.levels
  have l3 := svF_len s.sieves
  simp only [Nat.zero_add] at b2 b3 b4
  unfold gT
  simp only [Nat.zero_add]
  generalize hpL (gOs s) = H at *
  generalize kS (kR (q + 4 * s.top.length) s.levels) s.sieves = q3 at *
  generalize kR (q + 4 * s.top.length) s.levels = q2 at *
  have e1 : ∀ hp : Hp, hole 0 1 hp (gK s) = hp (gK s) := fun hp => hole_ne (by unfold gK; omega)
  have e2 : ∀ hp : Hp, hole 1 (s.levels.length + 1) hp (gK s) = hp (gK s) := fun hp => hole_ne (by unfold gK; omega)
  have e3 : ∀ hp : Hp, hole (s.levels.length + 2) (s.sieves.length + 1) hp (gK s) = hp (gK s) := fun hp => hole_ne (by unfold gK; omega)
  have x1 : gK s = s.levels.length + s.sieves.length + 4 := rfl
  have u1 : 0 + [some (eRow s.top)].length ≤ gK s := by rw [List.length_singleton]; omega
  have u4 : s.levels.length + s.sieves.length + 3 + [some (tmRow s.times)].length ≤ gK s := by rw [List.length_singleton]; omega
  refine AC_of Tryz.func13 rfl Tryz.ntmps13 Tryz.results13 (by kernel_rfl) rfl ?_
  simp only [List.zipIdx, List.map, Nat.zero_add, Nat.reduceAdd]
  repeat (first | apply Aw_seq | apply Aw_block | apply Aw_skip | apply Aw_exit | refine Aw_condt rfl ?_ | refine Aw_condf rfl ?_ | ((first | refine qr ?_ | refine qd (by kernel_rfl) (by kernel_rfl) ?_); simp only [go_sem, jE, reduceIte, jA, jM, jS, jL, jD, jB, e1, e2, e3]) | refine dk (by kernel_rfl) ?_ | (refine qx (call_B (b := 0) (N := 1) rfl k1 rfl (.cons (arg_B (by omega)) (.cons (.nm rfl) .nil)) (b1.upd (.inr u1)) rfl) (by simp only [go_sem, jE, reduceIte, jA, jM, jS, jL, jD, jB, e1, e2, e3]; first | done | rfl) rfl (by simp only [go_sem, Nat.reduceLT]) ?_; simp only [go_sem, jE, reduceIte, jA, jM, jS, jL, jD, jB, e1, e2, e3]) | (refine qx (call_B (b := 1) (lvF_len _) k2 rfl (.cons (arg_B (by omega)) (.cons (.nm rfl) .nil)) ((b2.upd (.inr (by omega))).hole (.inl (by omega))) rfl) (by simp only [go_sem, jE, reduceIte, jA, jM, jS, jL, jD, jB, e1, e2, e3]; first | done | rfl) rfl (by simp only [go_sem, Nat.reduceLT]) ?_; simp only [go_sem, jE, reduceIte, jA, jM, jS, jL, jD, jB, e1, e2, e3]) | (refine qx (call_B (svF_len _) k3 rfl (.cons (arg_B (by omega)) (.cons (.nm rfl) .nil)) (((b3.upd (.inr (by omega))).hole (.inl (by omega))).hole (.inl (by omega))) rfl) (by simp only [go_sem, jE, reduceIte, jA, jM, jS, jL, jD, jB, e1, e2, e3]; first | done | rfl) rfl (by simp only [go_sem, Nat.reduceLT]) ?_; simp only [go_sem, jE, reduceIte, jA, jM, jS, jL, jD, jB, e1, e2, e3]) | (refine qx (call_B (N := 1) rfl k4 rfl (.cons (arg_B (by omega)) (.cons (.nm rfl) .nil)) ((((b4.upd (.inr u4)).hole (.inl (by omega))).hole (.inl (by omega))).hole (.inl (by omega))) rfl) (by simp only [go_sem, jE, reduceIte, jA, jM, jS, jL, jD, jB, e1, e2, e3]; first | done | rfl) rfl (by simp only [go_sem, Nat.reduceLT]) ?_; simp only [go_sem, jE, reduceIte, jA, jM, jS, jL, jD, jB, e1, e2, e3]))
  refine Aw_ret (retI (hp' := noHp) (n' := gK s) (.inl rfl) ?_ ?_ (fun m o hm => ?_) (Nat.le_refl _))
  · rfl
  · rfl
  · cases hm
theorem updL_lo {hp : Hp} {os : List (Option Obj)} {p q m n : Nat} (h1 : m < p) (h2 : m < q) : updL hp (p :: List.range' q n) os m = hp m := updL_not (by
  simp only [List.mem_cons, List.mem_range'_1, not_or]
  exact ⟨by omega, by omega⟩)
theorem toStoreG_ac (s : Sto) (hm : midT s) : AC Tryz.prog 10 [stT s] noHp 0 ⟨.t (gT 0 s), hpL (gOs s), gK s⟩ := by
  have k1 := toEntrySR_ac s.top hm.top
  have k2 := toEntrySSO_ac s.levels hm.ll hm.levels
  have k3 := toSieveSO_ac s.sieves hm.sl hm.sieves
  have k4 := toIntSR_ac s.times hm.times
  rw [lvF_os] at k2
  have a0 : ∀ (hp : Hp) (os : List (Option Obj)), updL hp (10 :: List.range' 11 s.levels.length) os 0 = hp 0 := fun hp os => updL_lo (by omega) (by omega)
  have b0 : ∀ (hp : Hp) (os : List (Option Obj)), updL hp ((10 + (s.levels.length + 1) + 1 + 1 + 1 + 1) :: List.range' (10 + (s.levels.length + 1) + 1 + 1 + 1 + 1 + 1) s.sieves.length) os 0 = hp 0 := fun hp os => updL_lo (by omega) (by omega)
  have c0 : (0 = 10 + (s.levels.length + 1) + 1 + 1 + 1 + 1 + (s.sieves.length + 1) + 1 + 1 + 1 + 1 + 1 + 1 + 1 + 1 + 1 + 1 + 1 + 1) = False := eq_false (by omega)
  have a1 : ∀ (hp : Hp) (os : List (Option Obj)), updL hp (10 :: List.range' 11 s.levels.length) os 1 = hp 1 := fun hp os => updL_lo (by omega) (by omega)
  have b1 : ∀ (hp : Hp) (os : List (Option Obj)), updL hp ((10 + (s.levels.length + 1) + 1 + 1 + 1 + 1) :: List.range' (10 + (s.levels.length + 1) + 1 + 1 + 1 + 1 + 1) s.sieves.length) os 1 = hp 1 := fun hp os => updL_lo (by omega) (by omega)
  have c1 : (1 = 10 + (s.levels.length + 1) + 1 + 1 + 1 + 1 + (s.sieves.length + 1) + 1 + 1 + 1 + 1 + 1 + 1 + 1 + 1 + 1 + 1 + 1 + 1) = False := eq_false (by omega)
  have a2 : ∀ (hp : Hp) (os : List (Option Obj)), updL hp (10 :: List.range' 11 s.levels.length) os 2 = hp 2 := fun hp os => updL_lo (by omega) (by omega)
  have b2 : ∀ (hp : Hp) (os : List (Option Obj)), updL hp ((10 + (s.levels.length + 1) + 1 + 1 + 1 + 1) :: List.range' (10 + (s.levels.length + 1) + 1 + 1 + 1 + 1 + 1) s.sieves.length) os 2 = hp 2 := fun hp os => updL_lo (by omega) (by omega)
  have c2 : (2 = 10 + (s.levels.length + 1) + 1 + 1 + 1 + 1 + (s.sieves.length + 1) + 1 + 1 + 1 + 1 + 1 + 1 + 1 + 1 + 1 + 1 + 1 + 1) = False := eq_false (by omega)
  refine AC_of Tryz.func10 rfl Tryz.ntmps10 Tryz.results10 (by kernel_rfl) rfl ?_
  simp only [List.zipIdx, List.map, Nat.zero_add, Nat.reduceAdd]
  repeat (first | apply Aw_seq | apply Aw_block | apply Aw_skip | apply Aw_exit | refine Aw_condt rfl ?_ | refine Aw_condf rfl ?_ | ((first | refine qr ?_ | refine qd (by kernel_rfl) (by kernel_rfl) ?_); simp only [go_sem, jE, reduceIte, jA, jM, jS, jL, jD, jB, a0, b0, c0, a1, b1, c1, a2, b2, c2]) | refine dk (by kernel_rfl) ?_ | (refine qx (call_N (L := []) (k1) rfl (.cons (.nm rfl) (.nil)) (.inl rfl) rfl) (by simp only [go_sem, jE, reduceIte, jA, jM, jS, jL, jD, jB, a0, b0, c0, a1, b1, c1, a2, b2, c2]; first | done | rfl) rfl (by simp only [go_sem, Nat.reduceLT]) ?_; simp only [go_sem, jE, reduceIte, jA, jM, jS, jL, jD, jB, a0, b0, c0, a1, b1, c1, a2, b2, c2]) | (refine qx (call_N (L := []) k2 rfl (.cons (.nm rfl) .nil) (.inl rfl) (lvF_len _)) (by simp only [go_sem, jE, reduceIte, jA, jM, jS, jL, jD, jB, a0, b0, c0, a1, b1, c1, a2, b2, c2]; first | done | rfl) rfl (by simp only [go_sem, Nat.reduceLT]) ?_; simp only [go_sem, jE, reduceIte, jA, jM, jS, jL, jD, jB, a0, b0, c0, a1, b1, c1, a2, b2, c2]) | (refine qx (call_N (L := []) k3 rfl (.cons (.nm rfl) .nil) (.inl rfl) (svF_len _)) (by simp only [go_sem, jE, reduceIte, jA, jM, jS, jL, jD, jB, a0, b0, c0, a1, b1, c1, a2, b2, c2]; first | done | rfl) rfl (by simp only [go_sem, Nat.reduceLT]) ?_; simp only [go_sem, jE, reduceIte, jA, jM, jS, jL, jD, jB, a0, b0, c0, a1, b1, c1, a2, b2, c2]) | (refine qx (call_N (L := []) (k4) rfl (.cons (.nm rfl) (.nil)) (.inl rfl) rfl) (by simp only [go_sem, jE, reduceIte, jA, jM, jS, jL, jD, jB, a0, b0, c0, a1, b1, c1, a2, b2, c2]; first | done | rfl) rfl (by simp only [go_sem, Nat.reduceLT]) ?_; simp only [go_sem, jE, reduceIte, jA, jM, jS, jL, jD, jB, a0, b0, c0, a1, b1, c1, a2, b2, c2]))
  have hm5 : ∀ m ∈ ([] ++ [5] : List Nat), m = 5 := fun m h => by simpa using h
  have hm10 : ∀ m ∈ (([] ++ [5]) ++ List.range' 10 (s.levels.length + 1) : List Nat), 5 ≤ m ∧ m < 10 + (s.levels.length + 1) := fun m h => by
    rcases List.mem_append.1 h with h | h
    · have := hm5 m h; omega
    · have := List.mem_range'_1.1 h; omega
  have hm3 : ∀ m ∈ ((([] ++ [5]) ++ List.range' 10 (s.levels.length + 1)) ++ List.range' (10 + (s.levels.length + 1) + 1 + 1 + 1 + 1) (s.sieves.length + 1) : List Nat), 5 ≤ m ∧ m < 10 + (s.levels.length + 1) + 1 + 1 + 1 + 1 + (s.sieves.length + 1) := fun m h => by
    rcases List.mem_append.1 h with h | h
    · have := hm10 m h; omega
    · have := List.mem_range'_1.1 h; omega
  have hm4 : ∀ m ∈ (((([] ++ [5]) ++ List.range' 10 (s.levels.length + 1)) ++ List.range' (10 + (s.levels.length + 1) + 1 + 1 + 1 + 1) (s.sieves.length + 1)) ++ [10 + (s.levels.length + 1) + 1 + 1 + 1 + 1 + (s.sieves.length + 1) + 1 + 1 + 1 + 1 + 1 + 1 + 1 + 1 + 1 + 1 + 1 + 1] : List Nat), 5 ≤ m := fun m h => by
    rcases List.mem_append.1 h with h | h
    · have := hm3 m h; omega
    · have := List.mem_singleton.1 h; omega
  have hn2 : (([] ++ [5]) ++ List.range' 10 (s.levels.length + 1) : List Nat).length = s.levels.length + 2 := by simp; try omega
  have hn3 : ((([] ++ [5]) ++ List.range' 10 (s.levels.length + 1)) ++ List.range' (10 + (s.levels.length + 1) + 1 + 1 + 1 + 1) (s.sieves.length + 1) : List Nat).length = s.levels.length + s.sieves.length + 3 := by rw [List.length_append, hn2, List.length_range']; try omega
  have r1 := fun π => ren_eRow s.top π
  have r2 := fun k => bd_eRow s.top k
  have r3 := fun π => ren_tmRow s.times π
  have r4 := fun k => bd_tmRow s.times k
  rw [r_eRow] at r1 r2
  rw [r_tmRow] at r3 r4
  generalize hM : ((((([] : List Nat) ++ [5]) ++ List.range' 10 (s.levels.length + 1)) ++ List.range' (10 + (s.levels.length + 1) + 1 + 1 + 1 + 1) (s.sieves.length + 1)) ++ [10 + (s.levels.length + 1) + 1 + 1 + 1 + 1 + (s.sieves.length + 1) + 1 + 1 + 1 + 1 + 1 + 1 + 1 + 1 + 1 + 1 + 1 + 1]) = M at hm4
  have hn4 : M.length = s.levels.length + s.sieves.length + 4 := by rw [← hM, List.length_append, hn3]; rfl
  have q0 : pin M 0 = 5 := by rw [← hM, pin_l (by omega), pin_l (by omega)]; rfl
  have q1 : pin M 1 = 10 := by rw [← hM, pin_l (by omega), pin_l (by omega), show 1 = 1 + 0 from rfl, pin_r (n := 1) rfl, pin_g (by omega)]
  have q2 : pin M (s.levels.length + 2) = 10 + (s.levels.length + 1) + 1 + 1 + 1 + 1 := by
    have h := pin_r (b := List.range' (10 + (s.levels.length + 1) + 1 + 1 + 1 + 1) (s.sieves.length + 1)) (j := 0) hn2
    rw [pin_g (by omega)] at h
    rw [← hM, pin_l (by omega)]; exact h
  have q3 : pin M (s.levels.length + s.sieves.length + 3) = 10 + (s.levels.length + 1) + 1 + 1 + 1 + 1 + (s.sieves.length + 1) + 1 + 1 + 1 + 1 + 1 + 1 + 1 + 1 + 1 + 1 + 1 + 1 := by
    have h := pin_r (b := [10 + (s.levels.length + 1) + 1 + 1 + 1 + 1 + (s.sieves.length + 1) + 1 + 1 + 1 + 1 + 1 + 1 + 1 + 1 + 1 + 1 + 1 + 1]) (j := 0) hn3
    rw [← hM]; exact h
  have hx : AV.ren (pin M) (.t (gT 0 s)) = .t (.agg [.h 5, .h 10, .h (10 + (s.levels.length + 1) + 1 + 1 + 1 + 1), .d (.s (.int .i64 s.keep)), .d (.s (.int .i64 s.time)), .h (10 + (s.levels.length + 1) + 1 + 1 + 1 + 1 + (s.sieves.length + 1) + 1 + 1 + 1 + 1 + 1 + 1 + 1 + 1 + 1 + 1 + 1 + 1)]) := by
    simp only [gT, AV.ren, TV.ren, List.map, CV.ren, Nat.zero_add, q0, q1, q2, q3]
  subst hM
  refine Aw_ret (retM (.inl rfl) ?_ ?_ (selSkip (selSkip (selOne (selSkip (selSkip (selSkip (selApp (selSkip (selApp (selSkip (selOne (p := 5) (N := 0) (os := []) selNil rfl rfl (by simp) r1 r2) ?_) (N := 1) rfl rfl (lvF_len _) ?_ (lvF_bdO _)) ?_) hn2 (g1_len s) (svF_len _) ?_ (svF_bdO _)) ?_) ?_) ?_) hn3 (g2_len s) ?_ r3 r4) ?_) ?_) ?_)
  · rw [hx]
    simp only [resA, go_sem, jE, reduceIte, jA, jM, jS, jL, jD, jB, a0, b0, c0, a1, b1, c1, a2, b2, c2]
    first | done | rfl
  · rw [show (AV.t (gT 0 s)).bd _ = (gT 0 s).bd _ from rfl, hn4]
    simp only [gT, TV.bd, List.all_cons, List.all_nil, CV.bd, Bool.and_eq_true, decide_eq_true_eq, Bool.and_true]
    refine ⟨?_, ?_, ?_, ?_, ?_, ?_⟩ <;> first | omega | trivial
  · exact fun m h => by have := hm5 m h; omega
  · exact fun m h => by have := hm5 m h; omega
  · exact fun m h => by have := hm10 m h; omega
  · exact fun m h => by have := hm10 m h; omega
  · exact fun m h => by have := hm3 m h; omega
  · exact fun m h => by have := hm3 m h; omega
  · exact fun m h => by have := hm3 m h; omega
  · exact fun m h => by have := hm3 m h; omega
  · exact fun m h => by have := hm4 m h; omega
  · exact fun m h => by have := hm4 m h; omega
  · rw [hn4]; exact Nat.le_refl _
theorem lt00 : decide ((0 : Int) < ((0 : Nat) : Int)) = false := rfl
theorem markEntry0_ac (k : Nat) : AC Tryz.prog 24 [runT [], iT k] noHp 0 ⟨.t (iT k), noHp, 0⟩ := by
  refine AC_of Tryz.func24 rfl Tryz.ntmps24 Tryz.results24 (by kernel_rfl) rfl ?_
  simp only [List.zipIdx, List.map, Nat.zero_add, Nat.reduceAdd]
  repeat (first | apply Aw_seq | apply Aw_block | apply Aw_skip | apply Aw_exit | refine Aw_condt rfl ?_ | refine Aw_condf rfl ?_ | ((first | refine qr ?_ | refine qd (by kernel_rfl) (by kernel_rfl) ?_); simp only [go_sem, jE, reduceIte, jA, jM, jS, jL, jD, jB]) | refine dk (by kernel_rfl) ?_)
  refine Aw_rounds 1 ?_
  refine AwR_succ ?_
  repeat (first | apply Aw_seq | apply Aw_block | apply Aw_skip | apply Aw_exit | refine Aw_condt rfl ?_ | refine Aw_condf rfl ?_ | ((first | refine qr ?_ | refine qd (by kernel_rfl) (by kernel_rfl) ?_); simp only [go_sem, jE, reduceIte, jA, jM, jS, jL, jD, jB, lt00]) | refine dk (by kernel_rfl) ?_)
  exact Aw_ret (ret0 (.inl rfl) (by simp only [go_sem, jE, reduceIte, jA, jM, jS, jL, jD, jB]; rfl) (by rfl) rfl)
theorem heldEntry0_ac (k : Nat) (hk : k ≤ 1099511627776) : AC Tryz.prog 25 [runT [], iT k] noHp 0 ⟨.t (iT k), noHp, 0⟩ := heldEntryS_ac k 0 hk
-- idB
theorem toStoreO_ac (top a b c : List Ent) (x y z : Sve) (keep time : Int) (ts : List Int) (h : midT ⟨top, [a, b, c], [x, y, z], keep, time, ts⟩) : AC Tryz.prog 10 [stT ⟨top, [a, b, c], [x, y, z], keep, time, ts⟩] noHp 0 ⟨.t (.agg [.h 0, .h 1, .h 2, .d (.s (.int .i64 keep)), .d (.s (.int .i64 time)), .h 3]), hpL (cloS top a b c x y z ts), 10⟩ := by
  have k1 := toEntrySR_ac top h.top
  have k2 : AC Tryz.prog 32 [lvsT [a, b, c]] noHp 0 ⟨.t (.c (.h 0)), hpL [some ⟨29, 1, true, [[.h 1], [.h 2], [.h 3]]⟩, some (eRow a), some (eRow b), some (eRow c)], 4⟩ := toEntrySSO_ac [a, b, c] h.ll h.levels
  have k3 : AC Tryz.prog 33 [svsT [x, y, z]] noHp 0 ⟨.t (.c (.h 0)), hpL [some ⟨82, 5, true, [svN x 1, svN y 2, svN z 3]⟩, some (kRow x.rests), some (kRow y.rests), some (kRow z.rests)], 4⟩ := toSieveSO_ac [x, y, z] h.sl h.sieves
  have k4 := toIntSR_ac ts h.times
  unfold cloS svN
  unfold svN at k3
  refine AC_of Tryz.func10 rfl Tryz.ntmps10 Tryz.results10 (by kernel_rfl) rfl ?_
  simp only [List.zipIdx, List.map, Nat.zero_add, Nat.reduceAdd]
  repeat (first | apply Aw_seq | apply Aw_block | apply Aw_skip | apply Aw_exit | refine Aw_condt rfl ?_ | refine Aw_condf rfl ?_ | ((first | refine qr ?_ | refine qd (by kernel_rfl) (by kernel_rfl) ?_); simp only [go_sem, jE, reduceIte, jA, jM, jS, jL, jD, jB]) | refine dk (by kernel_rfl) ?_ | (refine qx (call_N (L := []) (k1) rfl (.cons (.nm rfl) (.nil)) (.inl rfl) rfl) (by simp only [go_sem, jE, reduceIte, jA, jM, jS, jL, jD, jB]; first | done | rfl) rfl (by simp only [go_sem, Nat.reduceLT]) ?_; simp only [go_sem, jE, reduceIte, jA, jM, jS, jL, jD, jB]) | (refine qx (call_N (L := []) (k2) rfl (.cons (.nm rfl) (.nil)) (.inl rfl) rfl) (by simp only [go_sem, jE, reduceIte, jA, jM, jS, jL, jD, jB]; first | done | rfl) rfl (by simp only [go_sem, Nat.reduceLT]) ?_; simp only [go_sem, jE, reduceIte, jA, jM, jS, jL, jD, jB]) | (refine qx (call_N (L := []) (k3) rfl (.cons (.nm rfl) (.nil)) (.inl rfl) rfl) (by simp only [go_sem, jE, reduceIte, jA, jM, jS, jL, jD, jB]; first | done | rfl) rfl (by simp only [go_sem, Nat.reduceLT]) ?_; simp only [go_sem, jE, reduceIte, jA, jM, jS, jL, jD, jB]) | (refine qx (call_N (L := []) (k4) rfl (.cons (.nm rfl) (.nil)) (.inl rfl) rfl) (by simp only [go_sem, jE, reduceIte, jA, jM, jS, jL, jD, jB]; first | done | rfl) rfl (by simp only [go_sem, Nat.reduceLT]) ?_; simp only [go_sem, jE, reduceIte, jA, jM, jS, jL, jD, jB]))
  exact Aw_ret (retL (M := [5, 10, 18, 34, 11, 12, 13, 19, 20, 21]) (.inl rfl) (by simp only [go_sem, jE, reduceIte, jA, jM, jS, jL, jD, jB]; first | done | rfl) rfl rfl (by rfl) (by simp only [go_sem, jE, reduceIte, jA, jM, jS, jL, jD, jB]; first | done | rfl | (and_intros <;> rfl)) (by decide) (idB rfl))
theorem markStoreO_ac (top a b c : List Ent) (x y z : Sve) (keep time : Int) (ts : List Int) (q : Nat) (hq : cntS q ⟨top, [a, b, c], [x, y, z], keep, time, ts⟩ ≤ 1099511627776) :
    AC Tryz.prog 13 [.agg [.h 0, .h 1, .h 2, .d (.s (.int .i64 keep)), .d (.s (.int .i64 time)), .h 3], iT q] (hpL (cloS top a b c x y z ts)) 10 ⟨.t (iT ((cntS q ⟨top, [a, b, c], [x, y, z], keep, time, ts⟩ : Nat) : Int)), hpL (cloS (mEnts q top.length) (mEnts (q + 4 * top.length) a.length) (mEnts (q + 4 * top.length + 4 * a.length) b.length) (mEnts (q + 4 * top.length + 4 * a.length + 4 * b.length) c.length)
      (markSv (kR (q + 4 * top.length) [a, b, c]) x) (markSv (kR (q + 4 * top.length) [a, b, c] + 4 + x.rests.length) y) (markSv (kR (q + 4 * top.length) [a, b, c] + 4 + x.rests.length + 4 + y.rests.length) z) (mInts (kS (kR (q + 4 * top.length) [a, b, c]) [x, y, z]) ts.length)), 10⟩ := by
  unfold cntS at hq ⊢
  dsimp only at hq ⊢
  have a1 := kR_le [a, b, c] (q + 4 * top.length)
  have a2 := kS_le [x, y, z] (kR (q + 4 * top.length) [a, b, c])
  have k1 := markEntryS_ac top q (by omega)
  have k2 : AC Tryz.prog 41 [.c (.h 0), iT ((q + 4 * top.length : Nat) : Int)] (hpL [some ⟨29, 1, true, [[.h 1], [.h 2], [.h 3]]⟩, some (eRow a), some (eRow b), some (eRow c)]) 4 ⟨.t (iT ((kR (q + 4 * top.length) [a, b, c] : Nat) : Int)), hpL [some ⟨29, 1, true, [[.h 1], [.h 2], [.h 3]]⟩, some (eRow (mEnts (q + 4 * top.length) a.length)), some (eRow (mEnts (q + 4 * top.length + 4 * a.length) b.length)), some (eRow (mEnts (q + 4 * top.length + 4 * a.length + 4 * b.length) c.length))], 4⟩ := markEntrySSO_ac [a, b, c] (q + 4 * top.length) (by simp) (by omega)
  generalize kR (q + 4 * top.length) [a, b, c] = q2 at a1 a2 hq k2 ⊢
  have k3 : AC Tryz.prog 42 [.c (.h 0), iT (q2 : Nat)] (hpL [some ⟨82, 5, true, [svN x 1, svN y 2, svN z 3]⟩, some (kRow x.rests), some (kRow y.rests), some (kRow z.rests)]) 4 ⟨.t (iT ((kS q2 [x, y, z] : Nat) : Int)), hpL [some ⟨82, 5, true, [svN (markSv q2 x) 1, svN (markSv (q2 + 4 + x.rests.length) y) 2, svN (markSv (q2 + 4 + x.rests.length + 4 + y.rests.length) z) 3]⟩, some (kRow (markSv q2 x).rests), some (kRow (markSv (q2 + 4 + x.rests.length) y).rests), some (kRow (markSv (q2 + 4 + x.rests.length + 4 + y.rests.length) z).rests)], 4⟩ := markSieveSO_ac [x, y, z] q2 (by simp) (by omega)
  have k4 := markIntS_ac ts (kS q2 [x, y, z]) (by omega)
  generalize kS q2 [x, y, z] = q3 at k3 k4 ⊢
  generalize markSv q2 x = x' at k3 ⊢
  generalize markSv (q2 + 4 + x.rests.length) y = y' at k3 ⊢
  generalize markSv (q2 + 4 + x.rests.length + 4 + y.rests.length) z = z' at k3 ⊢
  generalize mEnts (q + 4 * top.length + 4 * a.length + 4 * b.length) c.length = c' at k2 ⊢
  generalize mEnts (q + 4 * top.length + 4 * a.length) b.length = b' at k2 ⊢
  generalize mEnts (q + 4 * top.length) a.length = a' at k2 ⊢
  generalize mEnts q top.length = t' at k1 ⊢
  generalize mInts q3 ts.length = i' at k4 ⊢
  unfold cloS svN
  unfold svN at k3
  refine AC_of Tryz.func13 rfl Tryz.ntmps13 Tryz.results13 (by kernel_rfl) rfl ?_
  simp only [List.zipIdx, List.map, Nat.zero_add, Nat.reduceAdd]
  repeat (first | apply Aw_seq | apply Aw_block | apply Aw_skip | apply Aw_exit | refine Aw_condt rfl ?_ | refine Aw_condf rfl ?_ | ((first | refine qr ?_ | refine qd (by kernel_rfl) (by kernel_rfl) ?_); simp only [go_sem, jE, reduceIte, jA, jM, jS, jL, jD, jB]) | refine dk (by kernel_rfl) ?_ | (refine qx (call_L (N' := [0]) (L := []) (k1) rfl (.cons (.nm rfl) (.cons (.nm rfl) (.nil))) (by decide) (by decide) (by decide) (by simp only [go_sem, jE, reduceIte, jA, jM, jS, jL, jD, jB]; first | done | rfl) (.inl rfl) rfl (by decide)) (by simp only [go_sem, jE, reduceIte, jA, jM, jS, jL, jD, jB]; first | done | rfl) rfl (by simp only [go_sem, Nat.reduceLT]) ?_; simp only [go_sem, jE, reduceIte, jA, jM, jS, jL, jD, jB]) | (refine qx (call_L (N' := [1, 4, 5, 6]) (L := []) (k2) rfl (.cons (.nm rfl) (.cons (.nm rfl) (.nil))) (by decide) (by decide) (by decide) (by simp only [go_sem, jE, reduceIte, jA, jM, jS, jL, jD, jB]; first | done | rfl) (.inl rfl) rfl (by decide)) (by simp only [go_sem, jE, reduceIte, jA, jM, jS, jL, jD, jB]; first | done | rfl) rfl (by simp only [go_sem, Nat.reduceLT]) ?_; simp only [go_sem, jE, reduceIte, jA, jM, jS, jL, jD, jB]) | (refine qx (call_L (N' := [2, 7, 8, 9]) (L := []) (k3) rfl (.cons (.nm rfl) (.cons (.nm rfl) (.nil))) (by decide) (by decide) (by decide) (by simp only [go_sem, jE, reduceIte, jA, jM, jS, jL, jD, jB]; first | done | rfl) (.inl rfl) rfl (by decide)) (by simp only [go_sem, jE, reduceIte, jA, jM, jS, jL, jD, jB]; first | done | rfl) rfl (by simp only [go_sem, Nat.reduceLT]) ?_; simp only [go_sem, jE, reduceIte, jA, jM, jS, jL, jD, jB]) | (refine qx (call_L (N' := [3]) (L := []) (k4) rfl (.cons (.nm rfl) (.cons (.nm rfl) (.nil))) (by decide) (by decide) (by decide) (by simp only [go_sem, jE, reduceIte, jA, jM, jS, jL, jD, jB]; first | done | rfl) (.inl rfl) rfl (by decide)) (by simp only [go_sem, jE, reduceIte, jA, jM, jS, jL, jD, jB]; first | done | rfl) rfl (by simp only [go_sem, Nat.reduceLT]) ?_; simp only [go_sem, jE, reduceIte, jA, jM, jS, jL, jD, jB]))
  exact Aw_ret (retL (M := [0, 1, 2, 3, 4, 5, 6, 7, 8, 9]) (.inl rfl) (by simp only [go_sem, jE, reduceIte, jA, jM, jS, jL, jD, jB]; first | done | rfl) rfl rfl (by rfl) (by simp only [go_sem, jE, reduceIte, jA, jM, jS, jL, jD, jB]; first | done | rfl | (and_intros <;> rfl)) (by decide) (idB rfl))
def inO (v : Int) : Obj := ⟨3, 1, false, [[.d (.s (.int .i64 v))]]⟩
@[go_sem] theorem r_inO (v : Int) : inO v = ⟨3, 1, false, [[.d (.s (.int .i64 v))]]⟩ := rfl
@[simp] theorem flat_mk (e k : Nat) (r : Bool) (els : List (List CV)) : (⟨e, k, r, els⟩ : Obj).flat = els.all (·.all CV.flat) := rfl
@[simp] theorem flat_h (j : Nat) : CV.flat (.h j) = true := rfl
@[simp] theorem flat_s (v : Value) : CV.flat (.d (.s v)) = true := rfl
@[simp] theorem flat_tmRow (r : List Int) : (tmRow r).flat = true := by
  unfold tmRow
  rw [show r.map intD = (r.map fun n => [Value.int .i64 n]).map (·.map D.s) by rw [List.map_map]; rfl]
  exact dRow_flat _ _ _
def newG (p : Nat) (s : Sto) : Hp := updL noHp (List.range' p (gK s)) ((gOs s).map (·.map (Obj.ren (pout [] p))))
theorem pout_nil (p : Nat) : pout [] p = (p + ·) := funext fun j => q_n p j
theorem gst_upL (hp : Hp) (p : Nat) (s : Sto) : GSt (updL hp (List.range' p (gK s)) ((gOs s).map (·.map (Obj.ren (pout [] p))))) p s := fun m o hm => by
  have hl := hpL_lt hm
  rw [gOs_len] at hl
  rw [updL_get List.nodup_range' (i := m) (by rw [List.getElem?_range' hl]; simp) (by rw [List.length_map, gOs_len]; exact hl), hpL_map, hm, pout_nil]
  rfl
theorem gst_new (p : Nat) (s : Sto) : GSt (newG p s) p s := gst_upL noHp p s
theorem GSt.upd {hp : Hp} {p q : Nat} {s : Sto} {x : Option Obj} (h : GSt hp p s) (hq : q < p ∨ p + gK s ≤ q) : GSt (upd hp q x) p s := fun m o hm => by
  have hl := hpL_lt hm
  rw [gOs_len] at hl
  rw [upd_ne _ _ (by omega)]; exact h m o hm
theorem newG_cases {p m : Nat} {s : Sto} {o : Obj} (hm : newG p s m = some o) : ∃ j o', m = p + j ∧ j < gK s ∧ hpL (gOs s) j = some o' ∧ o = o'.ren (p + ·) := by
  by_cases hn : m ∈ List.range' p (gK s)
  · obtain ⟨h1, h2⟩ := List.mem_range'_1.1 hn
    obtain ⟨j, rfl⟩ : ∃ j, m = p + j := ⟨m - p, by omega⟩
    have hj : j < gK s := by omega
    unfold newG at hm
    rw [updL_get List.nodup_range' (i := j) (by rw [List.getElem?_range' hj]; simp) (by rw [List.length_map, gOs_len]; exact hj), hpL_map, pout_nil] at hm
    obtain ⟨o', h3, h4⟩ := Option.map_eq_some_iff.1 hm
    exact ⟨j, o', rfl, hj, h3, h4.symm⟩
  · unfold newG at hm
    rw [updL_not hn] at hm
    cases hm
-- states under new names: some objects, and the block behind them
def ChkB (M : List Nat) (b : Nat) (l : List (Nat × AV)) : List (Nat × AV) → Prop
  | [] => True
  | (t, v) :: r => look l t = v.ren (pin M) ∧ v.bd b = true ∧ ChkB M b l r
theorem chkB {M : List Nat} {b : Nat} (hb : b ≤ M.length) : ∀ {l l' : List (Nat × AV)}, ChkB M b l l' → ChkM M l l'
  | _, [], _ => trivial
  | _, (_, _) :: _, h => ⟨h.1, bdA_mono hb h.2.1, chkB hb h.2.2⟩
theorem selBase {hp : Hp} {p : Nat} {s : Sto} {A : List Nat} (hG : GSt hp p s) (hn : (A ++ List.range' p (gK s)).Nodup) : HpSel (A ++ List.range' p (gK s)) hp (newG A.length s) := by
  have hl : (A ++ List.range' p (gK s)).length = A.length + gK s := by simp
  have hr : ∀ j, j < gK s → pin (A ++ List.range' p (gK s)) (A.length + j) = p + j := fun j hj => by rw [pin_r rfl, pin_g hj]
  constructor
  · intro m m' o o' h1 h2 e
    obtain ⟨j, _, rfl, hj, _⟩ := newG_cases h1
    obtain ⟨j', _, rfl, hj', _⟩ := newG_cases h2
    exact pin_inj hn (by omega) (by omega) e
  · intro m o h1
    obtain ⟨j, o', rfl, hj, h2, rfl⟩ := newG_cases h1
    have hb := gOs_bd s j o' h2
    refine ⟨by omega, ?_, by rw [hl]; exact Obj.bd_ren (fun i hi => by omega) hb⟩
    rw [hr j hj, hG j o' h2, Obj.ren_cm (fun i hi => hr i hi) hb]
theorem selPut {hp hp1 : Hp} {M : List Nat} {m : Nat} {o : Obj} (h : HpSel M hp hp1) (hn : M.Nodup) (hm : m < M.length) (ho : hp (pin M m) = some (o.ren (pin M))) (hb : o.bd M.length = true) : HpSel M hp (upd hp1 m (some o)) := by
  have key : ∀ q x, upd hp1 m (some o) q = some x → q = m ∧ x = o ∨ q ≠ m ∧ hp1 q = some x := fun q x hq => by
    by_cases e : q = m
    · subst e; rw [upd_same] at hq; exact .inl ⟨rfl, (Option.some.inj hq).symm⟩
    · rw [upd_ne _ _ e] at hq; exact .inr ⟨e, hq⟩
  have hlt : ∀ q x, upd hp1 m (some o) q = some x → q < M.length := fun q x hq => by
    rcases key q x hq with ⟨rfl, _⟩ | ⟨_, h1⟩
    · exact hm
    · exact (h.obj q x h1).1
  constructor
  · intro q q' x x' h1 h2 e
    exact pin_inj hn (hlt q x h1) (hlt q' x' h2) e
  · intro q x hq
    rcases key q x hq with ⟨rfl, rfl⟩ | ⟨_, h1⟩
    · exact ⟨hm, ho, hb⟩
    · exact h.obj q x h1
def gC (p : Nat) (s : Sto) : List CV := [.h p, .h (p + 1), .h (p + (s.levels.length + 2)), .d (.s (.int .i64 s.keep)), .d (.s (.int .i64 s.time)), .h (p + (s.levels.length + s.sieves.length + 3))]
@[go_sem] theorem r_gC (p : Nat) (s : Sto) : gC p s = [.h p, .h (p + 1), .h (p + (s.levels.length + 2)), .d (.s (.int .i64 s.keep)), .d (.s (.int .i64 s.time)), .h (p + (s.levels.length + s.sieves.length + 3))] := rfl
def sO (e : Nat) (s : Sto) : Obj := ⟨e, 6, false, [[.d (.rs 4 (s.top.map entD)), .d (.rs 1 (s.levels.map lvD)), .d (.rs 5 (s.sieves.map sveD)), .d (.s (.int .i64 s.keep)), .d (.s (.int .i64 s.time)), .d (.rs 1 (s.times.map intD))]]⟩
@[go_sem] theorem r_sO (e : Nat) (s : Sto) : sO e s = ⟨e, 6, false, [[.d (.rs 4 (s.top.map entD)), .d (.rs 1 (s.levels.map lvD)), .d (.rs 5 (s.sieves.map sveD)), .d (.s (.int .i64 s.keep)), .d (.s (.int .i64 s.time)), .d (.rs 1 (s.times.map intD))]]⟩ := rfl
theorem some_one {o : Obj} {j : Nat} (h : j < [some o].length) : ∃ q, [some o][j]? = some (some q) := by
  obtain rfl : j = 0 := by simp at h; exact h
  exact ⟨o, rfl⟩
theorem some_app {a b : List (Option Obj)} (h1 : ∀ j, j < a.length → ∃ q, a[j]? = some (some q)) (h2 : ∀ j, j < b.length → ∃ q, b[j]? = some (some q)) : ∀ j, j < (a ++ b).length → ∃ q, (a ++ b)[j]? = some (some q) := fun j hj => by
  rcases Nat.lt_or_ge j a.length with c | c
  · rw [List.getElem?_append_left c]; exact h1 j c
  · rw [List.getElem?_append_right c]; exact h2 _ (by rw [List.length_append] at hj; omega)
theorem some_sh {b : Nat} {a : List (Option Obj)} (h1 : ∀ j, j < a.length → ∃ q, a[j]? = some (some q)) : ∀ j, j < (shO b a).length → ∃ q, (shO b a)[j]? = some (some q) := fun j hj => by
  rw [shO_len] at hj
  obtain ⟨q, hq⟩ := h1 j hj
  exact ⟨q.ren (b + ·), by simp [shO, hq]⟩
theorem gOs_all (s : Sto) : ∀ j, j < (gOs s).length → ∃ q, (gOs s)[j]? = some (some q) :=
  some_app (some_app (some_app (fun _ h => some_one h) (some_sh fun j hj => by obtain ⟨o, h, _⟩ := lvF_blk s.levels j hj; exact ⟨o, h⟩)) (some_sh fun j hj => by obtain ⟨o, h, _⟩ := svF_blk s.sieves j hj; exact ⟨o, h⟩)) (fun _ h => some_one h)
theorem blk_gs {hp : Hp} {p : Nat} {s : Sto} (h : GSt hp p s) : BlkO hp p (gOs s) := fun j hj => by
  obtain ⟨o, ho⟩ := gOs_all s j hj
  have hm : hpL (gOs s) j = some o := by simp [hpL, ho]
  refine ⟨o, ho, h j o hm, ?_⟩
  rw [gOs_len]; exact gOs_bd s j o hm
theorem arg_gN {hp : Hp} {p : Nat} {s : Sto} {L : List Nat} : Arg hp (List.range' p (gK s)) L (gT p s) (gT 0 s) := by
  have hb : (gT 0 s).bd (List.range' p (gK s)).length = true := by
    rw [List.length_range']
    simp only [gT, TV.bd, List.all_cons, List.all_nil, CV.bd, gK]
    simp only [Bool.and_eq_true, decide_eq_true_eq, Bool.and_true]
    refine ⟨?_, ?_, ?_, ?_, ?_, ?_⟩ <;> first | omega | trivial
  have := Arg.nm (hp := hp) (N := List.range' p (gK s)) (L := L) hb
  rw [show (gT 0 s).ren (pin (List.range' p (gK s))) = gT p s by
    have e := fun j (h : j < gK s) => pin_g (p := p) h
    unfold gK at e
    simp only [gT, TV.ren, List.map, CV.ren, gK]
    rw [e 0 (by omega), e (0 + 1) (by omega), e (0 + (s.levels.length + 2)) (by omega), e (0 + (s.levels.length + s.sieves.length + 3)) (by omega)]
    simp only [Nat.zero_add, Nat.add_zero]] at this
  exact this
-- the store of three levels, told cell by cell
theorem arg_oT {hp : Hp} {N' L : List Nat} {p0 p1 p2 p3 pa pb pc px py pz : Nat} {top a b c : List Ent} {x y z : Sve} {keep time : Int} {ts : List Int}
    (h0 : hp p0 = some (eRow top)) (h1 : hp p1 = some ⟨29, 1, true, [[.h pa], [.h pb], [.h pc]]⟩) (h2 : hp p2 = some ⟨82, 5, true, [svN x px, svN y py, svN z pz]⟩) (h3 : hp p3 = some (tmRow ts))
    (ha : hp pa = some (eRow a)) (hb : hp pb = some (eRow b)) (hc : hp pc = some (eRow c)) (hx : hp px = some (kRow x.rests)) (hy : hp py = some (kRow y.rests)) (hz : hp pz = some (kRow z.rests))
    (hL : [p0, p1, p2, p3, pa, pb, pc, px, py, pz].all L.contains = true) :
    Arg hp N' L (.agg [.h p0, .h p1, .h p2, .d (.s (.int .i64 keep)), .d (.s (.int .i64 time)), .h p3]) (stT ⟨top, [a, b, c], [x, y, z], keep, time, ts⟩) := by
  have e1 : lendC hp 3 (.h p1) = some (.rs 1 [lvD a, lvD b, lvD c]) := by
    show (match hp p1 with | some o => _ | none => none) = _
    rw [h1]
    show (List.mapM (fun cs : List CV => cs.mapM (lendC hp 2)) [[.h pa], [.h pb], [.h pc]]).map (D.rs 1) = _
    simp only [List.mapM_cons, List.mapM_nil, lend_dRow ha, lend_dRow hb, lend_dRow hc]
    rfl
  have e2 : lendC hp 3 (.h p2) = some (.rs 5 [sveD x, sveD y, sveD z]) := by
    show (match hp p2 with | some o => _ | none => none) = _
    rw [h2]
    show (List.mapM (fun cs : List CV => cs.mapM (lendC hp 2)) [svN x px, svN y py, svN z pz]).map (D.rs 5) = _
    simp only [svN, List.mapM_cons, List.mapM_nil, lend_dRow hx, lend_dRow hy, lend_dRow hz]
    rfl
  simp only [List.all_cons, List.all_nil, Bool.and_true, Bool.and_eq_true, List.contains_iff_mem] at hL
  obtain ⟨q0, q1, q2, q3, qa, qb, qc, qx, qy, qz⟩ := hL
  refine .ln (n := 3) ?_ fun w hw m hm => ?_
  · simp only [TV.lend, List.mapM_cons, List.mapM_nil, lend_dRow h0, e1, e2, lend_dRow h3]
    rfl
  · have hd : ∀ (i : Int) (n : Nat), lendN hp n (.d (.s (.int .i64 i))) = [] := fun i n => by cases n <;> rfl
    have hdS : ∀ (i : ByteArray) (n : Nat), lendN hp n (.d (.s (.string i))) = [] := fun i n => by cases n <;> rfl
    simp only [TV.cells, List.mem_cons, List.not_mem_nil, or_false] at hw
    rcases hw with rfl | rfl | rfl | rfl | rfl | rfl
    · rw [lendN_dRow h0 2 m hm]; exact q0
    · have e : lendN hp 3 (.h p1) = p1 :: ([[CV.h pa], [.h pb], [.h pc]].flatMap fun cs => cs.flatMap (lendN hp 2)) := by
        show (match hp p1 with | some o => _ | none => []) = _
        rw [h1]
      rw [e] at hm
      simp only [List.flatMap_cons, List.flatMap_nil, List.append_nil, List.mem_cons, List.mem_append] at hm
      rcases hm with rfl | hm | hm | hm
      · exact q1
      · rw [lendN_dRow ha 1 m hm]; exact qa
      · rw [lendN_dRow hb 1 m hm]; exact qb
      · rw [lendN_dRow hc 1 m hm]; exact qc
    · have e : lendN hp 3 (.h p2) = p2 :: ([svN x px, svN y py, svN z pz].flatMap fun cs => cs.flatMap (lendN hp 2)) := by
        show (match hp p2 with | some o => _ | none => []) = _
        rw [h2]
      rw [e] at hm
      simp only [svN, List.flatMap_cons, List.flatMap_nil, List.append_nil, List.nil_append, List.mem_cons, List.mem_append, hd, hdS] at hm
      rcases hm with rfl | hm | hm | hm
      · exact q2
      · rw [lendN_dRow hx 1 m hm]; exact qx
      · rw [lendN_dRow hy 1 m hm]; exact qy
      · rw [lendN_dRow hz 1 m hm]; exact qz
    · rw [hd] at hm; cases hm
    · rw [hd] at hm; cases hm
    · rw [lendN_dRow h3 2 m hm]; exact q3
theorem wS_cons {α : Type} (f : α → Nat) (x : α) (l : List α) : wS f (x :: l) = f x + wS f l + 1 := by unfold wS; simp; omega
theorem kR_w : ∀ (l : List (List Ent)) (q : Nat), kR q l ≤ q + 4 * wS wRun l
  | [], q => by simp [kR]
  | x :: l, q => by
    have h := kR_w l (q + 4 * x.length)
    have h1 : x.length ≤ wRun x := wS_len (f := wEnt) (xs := x)
    have e := wS_cons wRun x l
    show kR (q + 4 * x.length) l ≤ _
    omega
theorem kS_w : ∀ (l : List Sve) (q : Nat), kS q l ≤ q + 4 * wS wSve l
  | [], q => by simp [kS]
  | x :: l, q => by
    have h := kS_w l (q + 4 + x.rests.length)
    have h1 : x.rests.length ≤ wS ByteArray.size x.rests := wS_len
    have h2 : wS ByteArray.size x.rests ≤ wSve x := by unfold wSve; omega
    have e := wS_cons wSve x l
    show kS (q + 4 + x.rests.length) l ≤ _
    omega
theorem cntS_le {s : Sto} (h : wSto s ≤ 1048576) : cntS 1 s ≤ 1099511627776 := by
  unfold wSto at h
  unfold cntS
  have h1 : s.top.length ≤ wRun s.top := wS_len (f := wEnt) (xs := s.top)
  have h2 := kR_w s.levels (1 + 4 * s.top.length)
  have h3 := kS_w s.sieves (kR (1 + 4 * s.top.length) s.levels)
  omega
-- a store of none
end Go.Proofs.YtimkdclalajadaaGreat.Ab
