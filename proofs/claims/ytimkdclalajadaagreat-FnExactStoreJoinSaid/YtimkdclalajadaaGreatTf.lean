/-
  Contracts: a store of its own, whatever its shape, as a law makes it, and its marks (what was marked is not told). No condition.
  Contracts: a law's marks in a new store. No condition.
  A store of its own, marked, and the marks found again; three levels. No condition.
  Rules for rows that are lent. No condition.
  Whatever argument of the seat's kinds can be read as data is plain data of the machine's: lemmas, kind by kind (whole numbers, bools, strings, slices, structs). No condition.
  What a law reads as a store, a run, is plain data of the machine's, of sizes that a word holds. No condition.
  Contract: the law of a new store gives true, of every number. No condition.
  Plain law: the forks of a sieve in the order of their numbers, and where they stand. No condition.
  Plain law: a sieve by its branches. No condition.
  Plain law: a small number is its own remainder. No condition.
  The shelf's counting of a byte, at this seat. No condition.
  Contracts: ones of a text of bits, beginnings of keys. No condition.
  Plain law: a sieve's texts by its forks and branches. No condition.
  Plain law: what is kept of a sieve's keys has the same sieve. No condition.
  Contracts: a sieve's branches, what they lead to, what is kept of them. No condition.
  Contract: whether a sieve may have a key. No condition.
  Contracts: what is found in a store, and how many sieves may have a key, the program's. No condition.
  Contracts: what a store has of a key, how many sieves may have it, the program's. No condition.
  Contracts: what is put, what is taken away, the top that goes down, the program's. No condition.
  Rules for a law's stores of their own: lent, handed on, marked. No condition.
-/
import Derived.Test.YtimkdclalajadaaGreatTe
import Derived.Test.YtimkdclalajadaaGreatTd
import Derived.Test.YtimkdclalajadaaGreatTc
import Derived.Deep.Slices
import Derived.ChangeArms
import Derived.DataReads
import Derived.Below
import Derived.Test.YtimkdclalajadaaGreatTb
import Derived.Shelf.Strings.Count
import Derived.Ground.NamesProg
namespace Go.Proofs.YtimkdclalajadaaGreat.Ab
open Nat renaming reduceEqDiff → jE, reduceAdd → jA, reduceMul → jM, reduceSub → jS, reduceLT → jL, reduceLeDiff → jD, reduceBEq → jB
set_option linter.deprecated false
set_option linter.unusedVariables false
set_option linter.unusedSimpArgs false
open Go Go.Proofs
set_option maxRecDepth 10000
set_option maxHeartbeats 8000000
theorem AC.drop {P : Program} {f : FuncId} {args : List TV} {hp hp2 : Hp} {x : AV} {k n : Nat} (h : AC P f args hp k ⟨x, hp2, n⟩) (hx : x.bd n = true) (hk : k ≤ n) : AC P f args hp k ⟨x, noHp, n⟩ := by
  refine AC.sel (M := List.range n) h ?_ (by simpa using hx) ⟨fun m m' o o' hm => by simp [noHp] at hm, fun m o hm => by simp [noHp] at hm⟩ (by simp) fun m hm => ⟨by simp; omega, pin_range (by omega)⟩
  exact (AV.ren_idn (fun m hm => pin_range hm) hx).symm
def cntS (q : Nat) (s : Sto) : Nat := kS (kR (q + 4 * s.top.length) s.levels) s.sieves + s.times.length
theorem markStoreF_ac (s : Sto) (q : Nat) (hm : midT s) (hq : cntS q s ≤ 1099511627776) : AC Tryz.prog 13 [gT 0 s, iT q] (hpL (gOs s)) (gK s) ⟨.t (iT ((cntS q s : Nat) : Int)), noHp, gK s⟩ := by
  unfold cntS at hq ⊢
  have a1 := kR_le s.levels (q + 4 * s.top.length)
  have a2 := kS_le s.sieves (kR (q + 4 * s.top.length) s.levels)
  have k1 := AC.drop (markEntryS_ac s.top q (by omega)) rfl (Nat.le_refl _)
  have k2 := AC.drop (markEntrySSO_ac s.levels (q + 4 * s.top.length) hm.ll (by omega)) rfl (Nat.le_refl _)
  have k3 := AC.drop (markSieveSO_ac s.sieves (kR (q + 4 * s.top.length) s.levels) hm.sl (by omega)) rfl (Nat.le_refl _)
  have k4 := AC.drop (markIntS_ac s.times (kS (kR (q + 4 * s.top.length) s.levels) s.sieves) hq) rfl (Nat.le_refl _)
  have hg : GSt (hpL (gOs s)) 0 s := fun m o h => by
    rw [Nat.zero_add, h, Obj.ren_idn (n := gK s) (fun i _ => by simp) (gOs_bd s m o h)]
  have b1 := gst_top hg
  have b2 := gst_lev hg
  have b3 := gst_sve hg
  have b4 := gst_tm hg
  have l2 := lvF_len s.levels
  have l3 := svF_len s.sieves
  simp only [Nat.zero_add] at b2 b3 b4
  unfold gT
  simp only [Nat.zero_add]
  generalize hpL (gOs s) = H at *
  generalize kS (kR (q + 4 * s.top.length) s.levels) s.sieves = q3 at *
  generalize kR (q + 4 * s.top.length) s.levels = q2 at *
  have e1 : ∀ hp : Hp, hole 0 1 hp (gK s) = hp (gK s) := fun hp => hole_ne (by unfold gK; omega)
  have e2 : ∀ hp : Hp, hole 1 (s.levels.length + 1) hp (gK s) = hp (gK s) := fun hp => hole_ne (by unfold gK; omega)
  have e3 : ∀ hp : Hp, hole (s.levels.length + 2) (s.sieves.length + 1) hp (gK s) = hp (gK s) := fun hp => hole_ne (by unfold gK; omega)
  have x1 : gK s = s.levels.length + s.sieves.length + 4 := rfl
  have u1 : 0 + [some (eRow s.top)].length ≤ gK s := by rw [List.length_singleton]; omega
  have u4 : s.levels.length + s.sieves.length + 3 + [some (tmRow s.times)].length ≤ gK s := by rw [List.length_singleton]; omega
  refine AC_of Tryz.func13 rfl Tryz.ntmps13 Tryz.results13 (by kernel_rfl) rfl ?_
  simp only [List.zipIdx, List.map, Nat.zero_add, Nat.reduceAdd]
  repeat (first | apply Aw_seq | apply Aw_block | apply Aw_skip | apply Aw_exit | refine Aw_condt rfl ?_ | refine Aw_condf rfl ?_ | ((first | refine qr ?_ | refine qd (by kernel_rfl) (by kernel_rfl) ?_); simp only [go_sem, jE, reduceIte, jA, jM, jS, jL, jD, jB, e1, e2, e3]) | refine dk (by kernel_rfl) ?_ | (refine qx (call_B (b := 0) (N := 1) rfl k1 rfl (.cons (arg_B (by omega)) (.cons (.nm rfl) .nil)) (b1.upd (.inr u1)) rfl) (by simp only [go_sem, jE, reduceIte, jA, jM, jS, jL, jD, jB, e1, e2, e3]; first | done | rfl) rfl (by simp only [go_sem, Nat.reduceLT]) ?_; simp only [go_sem, jE, reduceIte, jA, jM, jS, jL, jD, jB, e1, e2, e3]) | (refine qx (call_B (b := 1) (lvF_len _) k2 rfl (.cons (arg_B (by omega)) (.cons (.nm rfl) .nil)) ((b2.upd (.inr (by omega))).hole (.inl (by omega))) rfl) (by simp only [go_sem, jE, reduceIte, jA, jM, jS, jL, jD, jB, e1, e2, e3]; first | done | rfl) rfl (by simp only [go_sem, Nat.reduceLT]) ?_; simp only [go_sem, jE, reduceIte, jA, jM, jS, jL, jD, jB, e1, e2, e3]) | (refine qx (call_B (svF_len _) k3 rfl (.cons (arg_B (by omega)) (.cons (.nm rfl) .nil)) (((b3.upd (.inr (by omega))).hole (.inl (by omega))).hole (.inl (by omega))) rfl) (by simp only [go_sem, jE, reduceIte, jA, jM, jS, jL, jD, jB, e1, e2, e3]; first | done | rfl) rfl (by simp only [go_sem, Nat.reduceLT]) ?_; simp only [go_sem, jE, reduceIte, jA, jM, jS, jL, jD, jB, e1, e2, e3]) | (refine qx (call_B (N := 1) rfl k4 rfl (.cons (arg_B (by omega)) (.cons (.nm rfl) .nil)) ((((b4.upd (.inr u4)).hole (.inl (by omega))).hole (.inl (by omega))).hole (.inl (by omega))) rfl) (by simp only [go_sem, jE, reduceIte, jA, jM, jS, jL, jD, jB, e1, e2, e3]; first | done | rfl) rfl (by simp only [go_sem, Nat.reduceLT]) ?_; simp only [go_sem, jE, reduceIte, jA, jM, jS, jL, jD, jB, e1, e2, e3]))
  refine Aw_ret (retI (hp' := noHp) (n' := gK s) (.inl rfl) ?_ ?_ (fun m o hm => ?_) (Nat.le_refl _))
  · rfl
  · rfl
  · cases hm
theorem updL_lo {hp : Hp} {os : List (Option Obj)} {p q m n : Nat} (h1 : m < p) (h2 : m < q) : updL hp (p :: List.range' q n) os m = hp m := updL_not (by
  simp only [List.mem_cons, List.mem_range'_1, not_or]
  exact ⟨by omega, by omega⟩)
theorem toStoreG_ac (s : Sto) (hm : midT s) : AC Tryz.prog 10 [stT s] noHp 0 ⟨.t (gT 0 s), hpL (gOs s), gK s⟩ := by
  have k1 := toEntrySR_ac s.top hm.top
  have k2 := toEntrySSO_ac s.levels hm.ll hm.levels
  have k3 := toSieveSO_ac s.sieves hm.sl hm.sieves
  have k4 := toIntSR_ac s.times hm.times
  rw [lvF_os] at k2
  have a0 : ∀ (hp : Hp) (os : List (Option Obj)), updL hp (10 :: List.range' 11 s.levels.length) os 0 = hp 0 := fun hp os => updL_lo (by omega) (by omega)
  have b0 : ∀ (hp : Hp) (os : List (Option Obj)), updL hp ((10 + (s.levels.length + 1) + 1 + 1 + 1 + 1) :: List.range' (10 + (s.levels.length + 1) + 1 + 1 + 1 + 1 + 1) s.sieves.length) os 0 = hp 0 := fun hp os => updL_lo (by omega) (by omega)
  have c0 : (0 = 10 + (s.levels.length + 1) + 1 + 1 + 1 + 1 + (s.sieves.length + 1) + 1 + 1 + 1 + 1 + 1 + 1 + 1 + 1 + 1 + 1 + 1 + 1) = False := eq_false (by omega)
  have a1 : ∀ (hp : Hp) (os : List (Option Obj)), updL hp (10 :: List.range' 11 s.levels.length) os 1 = hp 1 := fun hp os => updL_lo (by omega) (by omega)
  have b1 : ∀ (hp : Hp) (os : List (Option Obj)), updL hp ((10 + (s.levels.length + 1) + 1 + 1 + 1 + 1) :: List.range' (10 + (s.levels.length + 1) + 1 + 1 + 1 + 1 + 1) s.sieves.length) os 1 = hp 1 := fun hp os => updL_lo (by omega) (by omega)
  have c1 : (1 = 10 + (s.levels.length + 1) + 1 + 1 + 1 + 1 + (s.sieves.length + 1) + 1 + 1 + 1 + 1 + 1 + 1 + 1 + 1 + 1 + 1 + 1 + 1) = False := eq_false (by omega)
  have a2 : ∀ (hp : Hp) (os : List (Option Obj)), updL hp (10 :: List.range' 11 s.levels.length) os 2 = hp 2 := fun hp os => updL_lo (by omega) (by omega)
  have b2 : ∀ (hp : Hp) (os : List (Option Obj)), updL hp ((10 + (s.levels.length + 1) + 1 + 1 + 1 + 1) :: List.range' (10 + (s.levels.length + 1) + 1 + 1 + 1 + 1 + 1) s.sieves.length) os 2 = hp 2 := fun hp os => updL_lo (by omega) (by omega)
  have c2 : (2 = 10 + (s.levels.length + 1) + 1 + 1 + 1 + 1 + (s.sieves.length + 1) + 1 + 1 + 1 + 1 + 1 + 1 + 1 + 1 + 1 + 1 + 1 + 1) = False := eq_false (by omega)
  refine AC_of Tryz.func10 rfl Tryz.ntmps10 Tryz.results10 (by kernel_rfl) rfl ?_
  simp only [List.zipIdx, List.map, Nat.zero_add, Nat.reduceAdd]
  repeat (first | apply Aw_seq | apply Aw_block | apply Aw_skip | apply Aw_exit | refine Aw_condt rfl ?_ | refine Aw_condf rfl ?_ | ((first | refine qr ?_ | refine qd (by kernel_rfl) (by kernel_rfl) ?_); simp only [go_sem, jE, reduceIte, jA, jM, jS, jL, jD, jB, a0, b0, c0, a1, b1, c1, a2, b2, c2]) | refine dk (by kernel_rfl) ?_ | (refine qx (call_N (L := []) (k1) rfl (.cons (.nm rfl) (.nil)) (.inl rfl) rfl) (by simp only [go_sem, jE, reduceIte, jA, jM, jS, jL, jD, jB, a0, b0, c0, a1, b1, c1, a2, b2, c2]; first | done | rfl) rfl (by simp only [go_sem, Nat.reduceLT]) ?_; simp only [go_sem, jE, reduceIte, jA, jM, jS, jL, jD, jB, a0, b0, c0, a1, b1, c1, a2, b2, c2]) | (refine qx (call_N (L := []) k2 rfl (.cons (.nm rfl) .nil) (.inl rfl) (lvF_len _)) (by simp only [go_sem, jE, reduceIte, jA, jM, jS, jL, jD, jB, a0, b0, c0, a1, b1, c1, a2, b2, c2]; first | done | rfl) rfl (by simp only [go_sem, Nat.reduceLT]) ?_; simp only [go_sem, jE, reduceIte, jA, jM, jS, jL, jD, jB, a0, b0, c0, a1, b1, c1, a2, b2, c2]) | (refine qx (call_N (L := []) k3 rfl (.cons (.nm rfl) .nil) (.inl rfl) (svF_len _)) (by simp only [go_sem, jE, reduceIte, jA, jM, jS, jL, jD, jB, a0, b0, c0, a1, b1, c1, a2, b2, c2]; first | done | rfl) rfl (by simp only [go_sem, Nat.reduceLT]) ?_; simp only [go_sem, jE, reduceIte, jA, jM, jS, jL, jD, jB, a0, b0, c0, a1, b1, c1, a2, b2, c2]) | (refine qx (call_N (L := []) (k4) rfl (.cons (.nm rfl) (.nil)) (.inl rfl) rfl) (by simp only [go_sem, jE, reduceIte, jA, jM, jS, jL, jD, jB, a0, b0, c0, a1, b1, c1, a2, b2, c2]; first | done | rfl) rfl (by simp only [go_sem, Nat.reduceLT]) ?_; simp only [go_sem, jE, reduceIte, jA, jM, jS, jL, jD, jB, a0, b0, c0, a1, b1, c1, a2, b2, c2]))
  have hm5 : ∀ m ∈ ([] ++ [5] : List Nat), m = 5 := fun m h => by simpa using h
  have hm10 : ∀ m ∈ (([] ++ [5]) ++ List.range' 10 (s.levels.length + 1) : List Nat), 5 ≤ m ∧ m < 10 + (s.levels.length + 1) := fun m h => by
    rcases List.mem_append.1 h with h | h
    · have := hm5 m h; omega
    · have := List.mem_range'_1.1 h; omega
  have hm3 : ∀ m ∈ ((([] ++ [5]) ++ List.range' 10 (s.levels.length + 1)) ++ List.range' (10 + (s.levels.length + 1) + 1 + 1 + 1 + 1) (s.sieves.length + 1) : List Nat), 5 ≤ m ∧ m < 10 + (s.levels.length + 1) + 1 + 1 + 1 + 1 + (s.sieves.length + 1) := fun m h => by
    rcases List.mem_append.1 h with h | h
    · have := hm10 m h; omega
    · have := List.mem_range'_1.1 h; omega
  have hm4 : ∀ m ∈ (((([] ++ [5]) ++ List.range' 10 (s.levels.length + 1)) ++ List.range' (10 + (s.levels.length + 1) + 1 + 1 + 1 + 1) (s.sieves.length + 1)) ++ [10 + (s.levels.length + 1) + 1 + 1 + 1 + 1 + (s.sieves.length + 1) + 1 + 1 + 1 + 1 + 1 + 1 + 1 + 1 + 1 + 1 + 1 + 1] : List Nat), 5 ≤ m := fun m h => by
    rcases List.mem_append.1 h with h | h
    · have := hm3 m h; omega
    · have := List.mem_singleton.1 h; omega
  have hn2 : (([] ++ [5]) ++ List.range' 10 (s.levels.length + 1) : List Nat).length = s.levels.length + 2 := by simp; try omega
  have hn3 : ((([] ++ [5]) ++ List.range' 10 (s.levels.length + 1)) ++ List.range' (10 + (s.levels.length + 1) + 1 + 1 + 1 + 1) (s.sieves.length + 1) : List Nat).length = s.levels.length + s.sieves.length + 3 := by rw [List.length_append, hn2, List.length_range']; try omega
  have r1 := fun π => ren_eRow s.top π
  have r2 := fun k => bd_eRow s.top k
  have r3 := fun π => ren_tmRow s.times π
  have r4 := fun k => bd_tmRow s.times k
  rw [r_eRow] at r1 r2
  rw [r_tmRow] at r3 r4
  generalize hM : ((((([] : List Nat) ++ [5]) ++ List.range' 10 (s.levels.length + 1)) ++ List.range' (10 + (s.levels.length + 1) + 1 + 1 + 1 + 1) (s.sieves.length + 1)) ++ [10 + (s.levels.length + 1) + 1 + 1 + 1 + 1 + (s.sieves.length + 1) + 1 + 1 + 1 + 1 + 1 + 1 + 1 + 1 + 1 + 1 + 1 + 1]) = M at hm4
  have hn4 : M.length = s.levels.length + s.sieves.length + 4 := by rw [← hM, List.length_append, hn3]; rfl
  have q0 : pin M 0 = 5 := by rw [← hM, pin_l (by omega), pin_l (by omega)]; rfl
  have q1 : pin M 1 = 10 := by rw [← hM, pin_l (by omega), pin_l (by omega), show 1 = 1 + 0 from rfl, pin_r (n := 1) rfl, pin_g (by omega)]
  have q2 : pin M (s.levels.length + 2) = 10 + (s.levels.length + 1) + 1 + 1 + 1 + 1 := by
    have h := pin_r (b := List.range' (10 + (s.levels.length + 1) + 1 + 1 + 1 + 1) (s.sieves.length + 1)) (j := 0) hn2
    rw [pin_g (by omega)] at h
    rw [← hM, pin_l (by omega)]; exact h
  have q3 : pin M (s.levels.length + s.sieves.length + 3) = 10 + (s.levels.length + 1) + 1 + 1 + 1 + 1 + (s.sieves.length + 1) + 1 + 1 + 1 + 1 + 1 + 1 + 1 + 1 + 1 + 1 + 1 + 1 := by
    have h := pin_r (b := [10 + (s.levels.length + 1) + 1 + 1 + 1 + 1 + (s.sieves.length + 1) + 1 + 1 + 1 + 1 + 1 + 1 + 1 + 1 + 1 + 1 + 1 + 1]) (j := 0) hn3
    rw [← hM]; exact h
  have hx : AV.ren (pin M) (.t (gT 0 s)) = .t (.agg [.h 5, .h 10, .h (10 + (s.levels.length + 1) + 1 + 1 + 1 + 1), .d (.s (.int .i64 s.keep)), .d (.s (.int .i64 s.time)), .h (10 + (s.levels.length + 1) + 1 + 1 + 1 + 1 + (s.sieves.length + 1) + 1 + 1 + 1 + 1 + 1 + 1 + 1 + 1 + 1 + 1 + 1 + 1)]) := by
    simp only [gT, AV.ren, TV.ren, List.map, CV.ren, Nat.zero_add, q0, q1, q2, q3]
  subst hM
  refine Aw_ret (retM (.inl rfl) ?_ ?_ (selSkip (selSkip (selOne (selSkip (selSkip (selSkip (selApp (selSkip (selApp (selSkip (selOne (p := 5) (N := 0) (os := []) selNil rfl rfl (by simp) r1 r2) ?_) (N := 1) rfl rfl (lvF_len _) ?_ (lvF_bdO _)) ?_) hn2 (g1_len s) (svF_len _) ?_ (svF_bdO _)) ?_) ?_) ?_) hn3 (g2_len s) ?_ r3 r4) ?_) ?_) ?_)
  · rw [hx]
    simp only [resA, go_sem, jE, reduceIte, jA, jM, jS, jL, jD, jB, a0, b0, c0, a1, b1, c1, a2, b2, c2]
    first | done | rfl
  · rw [show (AV.t (gT 0 s)).bd _ = (gT 0 s).bd _ from rfl, hn4]
    simp only [gT, TV.bd, List.all_cons, List.all_nil, CV.bd, Bool.and_eq_true, decide_eq_true_eq, Bool.and_true]
    refine ⟨?_, ?_, ?_, ?_, ?_, ?_⟩ <;> first | omega | trivial
  · exact fun m h => by have := hm5 m h; omega
  · exact fun m h => by have := hm5 m h; omega
  · exact fun m h => by have := hm10 m h; omega
  · exact fun m h => by have := hm10 m h; omega
  · exact fun m h => by have := hm3 m h; omega
  · exact fun m h => by have := hm3 m h; omega
  · exact fun m h => by have := hm3 m h; omega
  · exact fun m h => by have := hm3 m h; omega
  · exact fun m h => by have := hm4 m h; omega
  · exact fun m h => by have := hm4 m h; omega
  · rw [hn4]; exact Nat.le_refl _
theorem lt00 : decide ((0 : Int) < ((0 : Nat) : Int)) = false := rfl
theorem markEntry0_ac (k : Nat) : AC Tryz.prog 24 [runT [], iT k] noHp 0 ⟨.t (iT k), noHp, 0⟩ := by
  refine AC_of Tryz.func24 rfl Tryz.ntmps24 Tryz.results24 (by kernel_rfl) rfl ?_
  simp only [List.zipIdx, List.map, Nat.zero_add, Nat.reduceAdd]
  repeat (first | apply Aw_seq | apply Aw_block | apply Aw_skip | apply Aw_exit | refine Aw_condt rfl ?_ | refine Aw_condf rfl ?_ | ((first | refine qr ?_ | refine qd (by kernel_rfl) (by kernel_rfl) ?_); simp only [go_sem, jE, reduceIte, jA, jM, jS, jL, jD, jB]) | refine dk (by kernel_rfl) ?_)
  refine Aw_rounds 1 ?_
  refine AwR_succ ?_
  repeat (first | apply Aw_seq | apply Aw_block | apply Aw_skip | apply Aw_exit | refine Aw_condt rfl ?_ | refine Aw_condf rfl ?_ | ((first | refine qr ?_ | refine qd (by kernel_rfl) (by kernel_rfl) ?_); simp only [go_sem, jE, reduceIte, jA, jM, jS, jL, jD, jB, lt00]) | refine dk (by kernel_rfl) ?_)
  exact Aw_ret (ret0 (.inl rfl) (by simp only [go_sem, jE, reduceIte, jA, jM, jS, jL, jD, jB]; rfl) (by rfl) rfl)
theorem markInt0_ac (k : Nat) : AC Tryz.prog 43 [intsT [], iT k] noHp 0 ⟨.t (iT k), noHp, 0⟩ := by
  refine AC_of Tryz.func43 rfl Tryz.ntmps43 Tryz.results43 (by kernel_rfl) rfl ?_
  simp only [List.zipIdx, List.map, Nat.zero_add, Nat.reduceAdd]
  repeat (first | apply Aw_seq | apply Aw_block | apply Aw_skip | apply Aw_exit | refine Aw_condt rfl ?_ | refine Aw_condf rfl ?_ | ((first | refine qr ?_ | refine qd (by kernel_rfl) (by kernel_rfl) ?_); simp only [go_sem, jE, reduceIte, jA, jM, jS, jL, jD, jB]) | refine dk (by kernel_rfl) ?_)
  refine Aw_rounds 1 ?_
  refine AwR_succ ?_
  repeat (first | apply Aw_seq | apply Aw_block | apply Aw_skip | apply Aw_exit | refine Aw_condt rfl ?_ | refine Aw_condf rfl ?_ | ((first | refine qr ?_ | refine qd (by kernel_rfl) (by kernel_rfl) ?_); simp only [go_sem, jE, reduceIte, jA, jM, jS, jL, jD, jB, lt00]) | refine dk (by kernel_rfl) ?_)
  exact Aw_ret (ret0 (.inl rfl) (by simp only [go_sem, jE, reduceIte, jA, jM, jS, jL, jD, jB]; rfl) (by rfl) rfl)
theorem markEntrySS0_ac (r : List (List Ent)) (k : Nat) (hl : r.length ≤ 1099511627776) (hr : ∀ x ∈ r, x = []) : AC Tryz.prog 41 [lvsT r, iT k] noHp 0 ⟨.t (iT k), noHp, 0⟩ := by
  refine AC_of Tryz.func41 rfl Tryz.ntmps41 Tryz.results41 (by kernel_rfl) rfl ?_
  simp only [List.zipIdx, List.map, Nat.zero_add, Nat.reduceAdd]
  repeat (first | apply Aw_seq | apply Aw_block | apply Aw_skip | apply Aw_exit | refine Aw_condt rfl ?_ | refine Aw_condf rfl ?_ | ((first | refine qr ?_ | refine qd (by kernel_rfl) (by kernel_rfl) ?_); simp only [go_sem, jE, reduceIte, jA, jM, jS, jL, jD, jB]) | refine dk (by kernel_rfl) ?_)
  refine Aw.rw (rw0 (l' := [(5, .t (iT (0 : Nat))), (1, .t (iT k)), (0, .t (lvsT r))]) (n' := 0) (by repeat (first | exact trivial | refine ⟨rfl, rfl, ?_⟩))) ?_
  refine Aw_loop0 (ι := { i : Nat // i ≤ r.length ∧ (True) }) (fun q => [(5, .t (iT (q.1 : Nat))), (1, .t (iT k)), (0, .t (lvsT r))]) (fun q => r.length - q.1) ⟨0, Nat.zero_le _, trivial⟩ ?_
  rintro ⟨i, hi, hp⟩
  dsimp only
  by_cases hlt : i < r.length
  · have h1 : (i : Int) < (r.length : Int) := by omega
    have h2 := wrap_succ hlt hl
    obtain ⟨e, hx⟩ : ∃ e, r[i]? = some e := ⟨_, List.getElem?_eq_getElem hlt⟩
    obtain rfl := hr e (List.mem_of_getElem? hx)
    repeat (first | apply Aw_seq | apply Aw_block | apply Aw_skip | apply Aw_exit | refine Aw_condt rfl ?_ | refine Aw_condf rfl ?_ | ((first | refine qr ?_ | refine qd (by kernel_rfl) (by kernel_rfl) ?_); simp only [go_sem, jE, reduceIte, jA, jM, jS, jL, jD, jB, h1, h2, hx]) | refine dk (by kernel_rfl) ?_ | (refine qp (markEntry0_ac k) (by simp only [go_sem, jE, reduceIte, jA, jM, jS, jL, jD, jB, h1, h2, hx]; first | done | rfl) rfl (by simp only [go_sem, Nat.reduceLT]) rfl rfl ?_; simp only [go_sem, jE, reduceIte, jA, jM, jS, jL, jD, jB, h1, h2, hx]))
    exact ⟨⟨i + 1, by omega, trivial⟩, (by simp only []; omega), rw0 (by repeat (first | exact trivial | refine ⟨rfl, rfl, ?_⟩))⟩
  · have h1 : ¬ (i : Int) < (r.length : Int) := by omega
    repeat (first | apply Aw_seq | apply Aw_block | apply Aw_skip | apply Aw_exit | refine Aw_condt rfl ?_ | refine Aw_condf rfl ?_ | ((first | refine qr ?_ | refine qd (by kernel_rfl) (by kernel_rfl) ?_); simp only [go_sem, jE, reduceIte, jA, jM, jS, jL, jD, jB, h1]) | refine dk (by kernel_rfl) ?_)
    exact Aw_ret (ret0 (.inl rfl) (by simp only [go_sem, jE, reduceIte, jA, jM, jS, jL, jD, jB]; rfl) (by rfl) rfl)
def markV (k : Nat) : Sve := ⟨markT k, markT (k + 1), markT (k + 2), [], ((k + 3 : Nat) : Int)⟩
def mSves (k n : Nat) : List Sve := (List.range n).map fun j => markV (k + 4 * j)
theorem heldEntry0_ac (k : Nat) (hk : k ≤ 1099511627776) : AC Tryz.prog 25 [runT [], iT k] noHp 0 ⟨.t (iT k), noHp, 0⟩ := heldEntryS_ac k 0 hk
theorem heldStr0_ac (k : Nat) (hk : k ≤ 1099511627776) : AC Tryz.prog 85 [strsT [], iT k] noHp 0 ⟨.t (iT k), noHp, 0⟩ := heldStringS_ac k 0 hk
theorem heldInt0_ac (k : Nat) (hk : k ≤ 1099511627776) : AC Tryz.prog 46 [intsT [], iT k] noHp 0 ⟨.t (iT k), noHp, 0⟩ := heldIntS_ac k 0 hk
theorem heldEntrySS0_ac (r : List (List Ent)) (k : Nat) (hk : k ≤ 1099511627776) (hl : r.length ≤ 1099511627776) (hr : ∀ x ∈ r, x = []) : AC Tryz.prog 44 [lvsT r, iT k] noHp 0 ⟨.t (iT k), noHp, 0⟩ := by
  refine AC_of Tryz.func44 rfl Tryz.ntmps44 Tryz.results44 (by kernel_rfl) rfl ?_
  simp only [List.zipIdx, List.map, Nat.zero_add, Nat.reduceAdd]
  have hn := nneg k
  repeat (first | apply Aw_seq | apply Aw_block | apply Aw_skip | apply Aw_exit | refine Aw_condt rfl ?_ | refine Aw_condf rfl ?_ | ((first | refine qr ?_ | refine qd (by kernel_rfl) (by kernel_rfl) ?_); simp only [go_sem, jE, reduceIte, jA, jM, jS, jL, jD, jB]) | refine dk (by kernel_rfl) ?_)
  refine Aw.rw (rw0 (l' := [(5, .t (iT (0 : Nat))), (1, .t (iT k)), (0, .t (lvsT r))]) (n' := 0) (by repeat (first | exact trivial | refine ⟨rfl, rfl, ?_⟩))) ?_
  refine Aw_loop0 (ι := { i : Nat // i ≤ r.length ∧ (True) }) (fun q => [(5, .t (iT (q.1 : Nat))), (1, .t (iT k)), (0, .t (lvsT r))]) (fun q => r.length - q.1) ⟨0, Nat.zero_le _, trivial⟩ ?_
  rintro ⟨i, hi, hp⟩
  dsimp only
  by_cases hlt : i < r.length
  · have h1 : (i : Int) < (r.length : Int) := by omega
    have h2 := wrap_succ hlt hl
    obtain ⟨e, hx⟩ : ∃ e, r[i]? = some e := ⟨_, List.getElem?_eq_getElem hlt⟩
    obtain rfl := hr e (List.mem_of_getElem? hx)
    repeat (first | apply Aw_seq | apply Aw_block | apply Aw_skip | apply Aw_exit | refine Aw_condt rfl ?_ | refine Aw_condf rfl ?_ | ((first | refine qr ?_ | refine qd (by kernel_rfl) (by kernel_rfl) ?_); simp only [go_sem, jE, reduceIte, jA, jM, jS, jL, jD, jB, h1, h2, hx, hn]) | refine dk (by kernel_rfl) ?_ | (refine qp (heldEntry0_ac k hk) (by simp only [go_sem, jE, reduceIte, jA, jM, jS, jL, jD, jB, h1, h2, hx, hn]; first | done | rfl) rfl (by simp only [go_sem, Nat.reduceLT]) rfl rfl ?_; simp only [go_sem, jE, reduceIte, jA, jM, jS, jL, jD, jB, h1, h2, hx, hn]))
    exact ⟨⟨i + 1, by omega, trivial⟩, (by simp only []; omega), rw0 (by repeat (first | exact trivial | refine ⟨rfl, rfl, ?_⟩))⟩
  · have h1 : ¬ (i : Int) < (r.length : Int) := by omega
    repeat (first | apply Aw_seq | apply Aw_block | apply Aw_skip | apply Aw_exit | refine Aw_condt rfl ?_ | refine Aw_condf rfl ?_ | ((first | refine qr ?_ | refine qd (by kernel_rfl) (by kernel_rfl) ?_); simp only [go_sem, jE, reduceIte, jA, jM, jS, jL, jD, jB, h1]) | refine dk (by kernel_rfl) ?_)
    exact Aw_ret (ret0 (.inl rfl) (by simp only [go_sem, jE, reduceIte, jA, jM, jS, jL, jD, jB]; rfl) (by rfl) rfl)
theorem mV_a (k : Nat) : (markV k).letters = markT k := rfl
theorem mV_b (k : Nat) : (markV k).more = markT (k + 1) := rfl
theorem mV_c (k : Nat) : (markV k).first = markT (k + 2) := rfl
theorem mV_d (k : Nat) : (markV k).rests = [] := rfl
theorem mV_e (k : Nat) : (markV k).keep = ((k + 3 : Nat) : Int) := rfl
theorem mnil : List.map strD [] = [] := rfl
theorem heldSieve0_ac (k n : Nat) (hk : k + 4 * n ≤ 1099511627776) : AC Tryz.prog 45 [svsT (mSves k n), iT k] noHp 0 ⟨.t (iT ((k + 4 * n : Nat) : Int)), noHp, 0⟩ := by
  refine AC_of Tryz.func45 rfl Tryz.ntmps45 Tryz.results45 (by kernel_rfl) rfl ?_
  simp only [List.zipIdx, List.map, Nat.zero_add, Nat.reduceAdd]
  have hl : (mSves k n).length = n := by simp [mSves]
  repeat (first | apply Aw_seq | apply Aw_block | apply Aw_skip | apply Aw_exit | refine Aw_condt rfl ?_ | refine Aw_condf rfl ?_ | ((first | refine qr ?_ | refine qd (by kernel_rfl) (by kernel_rfl) ?_); simp only [go_sem, jE, reduceIte, jA, jM, jS, jL, jD, jB]) | refine dk (by kernel_rfl) ?_)
  refine Aw.rw (rw0 (l' := [(5, .t (iT (0 : Nat))), (1, .t (iT ((k + 4 * 0 : Nat) : Int))), (0, .t (svsT (mSves k n)))]) (n' := 0) (by repeat (first | exact trivial | refine ⟨rfl, rfl, ?_⟩))) ?_
  refine Aw_loop0 (ι := { i : Nat // i ≤ n ∧ (True) }) (fun q => [(5, .t (iT (q.1 : Nat))), (1, .t (iT ((k + 4 * q.1 : Nat) : Int))), (0, .t (svsT (mSves k n)))]) (fun q => n - q.1) ⟨0, Nat.zero_le _, trivial⟩ ?_
  rintro ⟨i, hi, hp⟩
  dsimp only
  by_cases hlt : i < n
  · have h1 : (i : Int) < (n : Int) := by omega
    have h2 := wrap_succ hlt (by omega)
    have hx : (mSves k n)[i]? = some (markV (k + 4 * i)) := by simp [mSves, List.getElem?_map, List.getElem?_range hlt]
    have w1 : IntKind.i64.wrap (((k + 4 * i : Nat) : Int) + 1) = ((k + 4 * i + 1 : Nat) : Int) := wrap_succ (m := k + 4 * i + 1) (by omega) (by omega)
    have w2 : IntKind.i64.wrap (((k + 4 * i + 1 : Nat) : Int) + 1) = ((k + 4 * i + 2 : Nat) : Int) := wrap_succ (m := k + 4 * i + 2) (by omega) (by omega)
    have w3 : IntKind.i64.wrap (((k + 4 * i + 2 : Nat) : Int) + 1) = ((k + 4 * i + 3 : Nat) : Int) := wrap_succ (m := k + 4 * i + 3) (by omega) (by omega)
    have w4 : IntKind.i64.wrap (((k + 4 * i + 3 : Nat) : Int) + 1) = ((k + 4 * (i + 1) : Nat) : Int) := by rw [show k + 4 * (i + 1) = k + 4 * i + 4 by omega]; exact wrap_succ (m := k + 4 * i + 4) (by omega) (by omega)
    have k0 := markText_ac (k + 4 * i) (by omega)
    have k1 := markText_ac (k + 4 * i + 1) (by omega)
    have k2 := markText_ac (k + 4 * i + 2) (by omega)
    have k3 := heldStr0_ac (k + 4 * i + 3) (by omega)
    have hn := nneg (k + 4 * i + 3)
    repeat (first | apply Aw_seq | apply Aw_block | apply Aw_skip | apply Aw_exit | refine Aw_condt rfl ?_ | refine Aw_condf rfl ?_ | ((first | refine qr ?_ | refine qd (by kernel_rfl) (by kernel_rfl) ?_); simp only [go_sem, jE, reduceIte, jA, jM, jS, jL, jD, jB, h1, h2, hx, hl, iref, sref, bref, w1, w2, w3, w4, mV_a, mV_b, mV_c, mV_d, mV_e, mnil, hn]) | refine dk (by kernel_rfl) ?_ | (refine qp (k0) (by simp only [go_sem, jE, reduceIte, jA, jM, jS, jL, jD, jB, h1, h2, hx, hl, iref, sref, bref, w1, w2, w3, w4, mV_a, mV_b, mV_c, mV_d, mV_e, mnil, hn]; first | done | rfl) rfl (by simp only [go_sem, Nat.reduceLT]) rfl rfl ?_; simp only [go_sem, jE, reduceIte, jA, jM, jS, jL, jD, jB, h1, h2, hx, hl, iref, sref, bref, w1, w2, w3, w4, mV_a, mV_b, mV_c, mV_d, mV_e, mnil, hn]) | (refine qp (k1) (by simp only [go_sem, jE, reduceIte, jA, jM, jS, jL, jD, jB, h1, h2, hx, hl, iref, sref, bref, w1, w2, w3, w4, mV_a, mV_b, mV_c, mV_d, mV_e, mnil, hn]; first | done | rfl) rfl (by simp only [go_sem, Nat.reduceLT]) rfl rfl ?_; simp only [go_sem, jE, reduceIte, jA, jM, jS, jL, jD, jB, h1, h2, hx, hl, iref, sref, bref, w1, w2, w3, w4, mV_a, mV_b, mV_c, mV_d, mV_e, mnil, hn]) | (refine qp (k2) (by simp only [go_sem, jE, reduceIte, jA, jM, jS, jL, jD, jB, h1, h2, hx, hl, iref, sref, bref, w1, w2, w3, w4, mV_a, mV_b, mV_c, mV_d, mV_e, mnil, hn]; first | done | rfl) rfl (by simp only [go_sem, Nat.reduceLT]) rfl rfl ?_; simp only [go_sem, jE, reduceIte, jA, jM, jS, jL, jD, jB, h1, h2, hx, hl, iref, sref, bref, w1, w2, w3, w4, mV_a, mV_b, mV_c, mV_d, mV_e, mnil, hn]) | (refine qp (k3) (by simp only [go_sem, jE, reduceIte, jA, jM, jS, jL, jD, jB, h1, h2, hx, hl, iref, sref, bref, w1, w2, w3, w4, mV_a, mV_b, mV_c, mV_d, mV_e, mnil, hn]; first | done | rfl) rfl (by simp only [go_sem, Nat.reduceLT]) rfl rfl ?_; simp only [go_sem, jE, reduceIte, jA, jM, jS, jL, jD, jB, h1, h2, hx, hl, iref, sref, bref, w1, w2, w3, w4, mV_a, mV_b, mV_c, mV_d, mV_e, mnil, hn]))
    exact ⟨⟨i + 1, by omega, trivial⟩, (by simp only []; omega), rw0 (by repeat (first | exact trivial | refine ⟨rfl, rfl, ?_⟩))⟩
  · have h1 : ¬ (i : Int) < (n : Int) := by omega
    obtain rfl : i = n := by omega
    repeat (first | apply Aw_seq | apply Aw_block | apply Aw_skip | apply Aw_exit | refine Aw_condt rfl ?_ | refine Aw_condf rfl ?_ | ((first | refine qr ?_ | refine qd (by kernel_rfl) (by kernel_rfl) ?_); simp only [go_sem, jE, reduceIte, jA, jM, jS, jL, jD, jB, h1, hl]) | refine dk (by kernel_rfl) ?_)
    exact Aw_ret (ret0 (.inl rfl) (by simp only [go_sem, jE, reduceIte, jA, jM, jS, jL, jD, jB]; rfl) (by rfl) rfl)
-- idB
theorem markRs_get {l : List (List Ent)} {q i : Nat} {x : List Ent} (h : l[i]? = some x) : (markRs q l)[i]? = some (mEnts (kR q (l.take i)) x.length) := by
  have hi := (List.getElem?_eq_some_iff.1 h).1
  conv => lhs; rw [← List.take_append_drop i l, markRs_app, drop_get h]
  rw [List.getElem?_append_right (by rw [markRs_len]; simp; omega), markRs_len]
  simp [Nat.min_eq_left (Nat.le_of_lt hi), markRs]
theorem markSs_get {l : List Sve} {q i : Nat} {x : Sve} (h : l[i]? = some x) : (markSs q l)[i]? = some (markSv (kS q (l.take i)) x) := by
  have hi := (List.getElem?_eq_some_iff.1 h).1
  conv => lhs; rw [← List.take_append_drop i l, markSs_app, drop_get h]
  rw [List.getElem?_append_right (by rw [markSs_len]; simp; omega), markSs_len]
  simp [Nat.min_eq_left (Nat.le_of_lt hi), markSs]
theorem heldEntrySSM_ac (l : List (List Ent)) (q : Nat) (hl : l.length ≤ 1048576) (hq : kR q l ≤ 1099511627776) : AC Tryz.prog 44 [lvsT (markRs q l), iT q] noHp 0 ⟨.t (iT ((kR q l : Nat) : Int)), noHp, 0⟩ := by
  have gl := markRs_len l q
  refine AC_of Tryz.func44 rfl Tryz.ntmps44 Tryz.results44 (by kernel_rfl) rfl ?_
  simp only [List.zipIdx, List.map, Nat.zero_add, Nat.reduceAdd]
  repeat (first | apply Aw_seq | apply Aw_block | apply Aw_skip | apply Aw_exit | refine Aw_condt rfl ?_ | refine Aw_condf rfl ?_ | ((first | refine qr ?_ | refine qd (by kernel_rfl) (by kernel_rfl) ?_); simp only [go_sem, jE, reduceIte, jA, jM, jS, jL, jD, jB]) | refine dk (by kernel_rfl) ?_)
  refine Aw.rw (rwL (l' := [(5, .t (iT (0 : Nat))), (1, .t (iT ((kR q (l.take 0) : Nat) : Int))), (0, .t (lvsT (markRs q l)))]) (os := []) (M := []) (n' := 0) (by repeat (first | exact trivial | refine ⟨rfl, rfl, ?_⟩)) (by rfl) (by simp only [go_sem, jE, reduceIte, jA, jM, jS, jL, jD, jB]; first | done | rfl) (by decide) (idB rfl)) ?_
  refine Aw_loop_rw (ι := { j : Nat // j ≤ l.length }) (fun j => S [(5, .t (iT (j.1 : Nat))), (1, .t (iT ((kR q (l.take j.1) : Nat) : Int))), (0, .t (lvsT (markRs q l)))] (hpL []) 0) (fun j => l.length - j.1) ⟨0, Nat.zero_le _⟩ ?_
  rintro ⟨i, hi⟩
  dsimp only
  by_cases hlt : i < l.length
  · have h1 : (i : Int) < (l.length : Int) := by omega
    have h2 := wrap_succ hlt (by omega)
    obtain ⟨e, hx⟩ : ∃ e, l[i]? = some e := ⟨_, List.getElem?_eq_getElem hlt⟩
    have hk := kR_succ (q := q) hx
    have hle := kR_take l q (i + 1)
    have hm := markRs_get (q := q) hx
    have kk := heldEntryS_ac (kR q (l.take i)) e.length (by omega)
    rw [← hk] at kk
    have hn := nneg (kR q (l.take (i + 1)))
    generalize kR q (l.take i) = p at kk hm ⊢
    repeat (first | apply Aw_seq | apply Aw_block | apply Aw_skip | apply Aw_exit | refine Aw_condt rfl ?_ | refine Aw_condf rfl ?_ | ((first | refine qr ?_ | refine qd (by kernel_rfl) (by kernel_rfl) ?_); simp only [go_sem, jE, reduceIte, jA, jM, jS, jL, jD, jB, h1, h2, hm, gl, hn]) | refine dk (by kernel_rfl) ?_ | (refine qp (kk) (by simp only [go_sem, jE, reduceIte, jA, jM, jS, jL, jD, jB, h1, h2, hm, gl, hn]; first | done | rfl) rfl (by simp only [go_sem, Nat.reduceLT]) rfl rfl ?_; simp only [go_sem, jE, reduceIte, jA, jM, jS, jL, jD, jB, h1, h2, hm, gl, hn]))
    refine ⟨⟨i + 1, hlt⟩, [], ?_, rwL (by repeat (first | exact trivial | refine ⟨rfl, rfl, ?_⟩)) (by rfl) (by simp only [go_sem, jE, reduceIte, jA, jM, jS, jL, jD, jB]; first | done | rfl) (by decide) (idB rfl)⟩
    show l.length - (i + 1) < l.length - i; omega
  · have h1 : ¬ (i : Int) < (l.length : Int) := by omega
    obtain rfl : i = l.length := by omega
    rw [List.take_length]
    repeat (first | apply Aw_seq | apply Aw_block | apply Aw_skip | apply Aw_exit | refine Aw_condt rfl ?_ | refine Aw_condf rfl ?_ | ((first | refine qr ?_ | refine qd (by kernel_rfl) (by kernel_rfl) ?_); simp only [go_sem, jE, reduceIte, jA, jM, jS, jL, jD, jB, h1, gl]) | refine dk (by kernel_rfl) ?_)
    exact Aw_ret (ret0 (.inl rfl) (by simp only [go_sem, jE, reduceIte, jA, jM, jS, jL, jD, jB]; rfl) (by rfl) rfl)
theorem heldSieveSM_ac (l : List Sve) (q : Nat) (hl : l.length ≤ 1048576) (hq : kS q l ≤ 1099511627776) : AC Tryz.prog 45 [svsT (markSs q l), iT q] noHp 0 ⟨.t (iT ((kS q l : Nat) : Int)), noHp, 0⟩ := by
  have gl := markSs_len l q
  refine AC_of Tryz.func45 rfl Tryz.ntmps45 Tryz.results45 (by kernel_rfl) rfl ?_
  simp only [List.zipIdx, List.map, Nat.zero_add, Nat.reduceAdd]
  repeat (first | apply Aw_seq | apply Aw_block | apply Aw_skip | apply Aw_exit | refine Aw_condt rfl ?_ | refine Aw_condf rfl ?_ | ((first | refine qr ?_ | refine qd (by kernel_rfl) (by kernel_rfl) ?_); simp only [go_sem, jE, reduceIte, jA, jM, jS, jL, jD, jB]) | refine dk (by kernel_rfl) ?_)
  refine Aw.rw (rwL (l' := [(5, .t (iT (0 : Nat))), (1, .t (iT ((kS q (l.take 0) : Nat) : Int))), (0, .t (svsT (markSs q l)))]) (os := []) (M := []) (n' := 0) (by repeat (first | exact trivial | refine ⟨rfl, rfl, ?_⟩)) (by rfl) (by simp only [go_sem, jE, reduceIte, jA, jM, jS, jL, jD, jB]; first | done | rfl) (by decide) (idB rfl)) ?_
  refine Aw_loop_rw (ι := { j : Nat // j ≤ l.length }) (fun j => S [(5, .t (iT (j.1 : Nat))), (1, .t (iT ((kS q (l.take j.1) : Nat) : Int))), (0, .t (svsT (markSs q l)))] (hpL []) 0) (fun j => l.length - j.1) ⟨0, Nat.zero_le _⟩ ?_
  rintro ⟨i, hi⟩
  dsimp only
  by_cases hlt : i < l.length
  · have h1 : (i : Int) < (l.length : Int) := by omega
    have h2 := wrap_succ hlt (by omega)
    obtain ⟨e, hx⟩ : ∃ e, l[i]? = some e := ⟨_, List.getElem?_eq_getElem hlt⟩
    have hk := kS_succ (q := q) hx
    have hle := kS_take l q (i + 1)
    have hm := markSs_get (q := q) hx
    obtain ⟨p, hp⟩ : ∃ p, p = kS q (l.take i) := ⟨_, rfl⟩
    rw [← hp] at hk hm ⊢
    have w1 : IntKind.i64.wrap ((p : Int) + 1) = ((p + 1 : Nat) : Int) := wrap_succ (m := p + 1) (by omega) (by omega)
    have w2 : IntKind.i64.wrap (((p + 1 : Nat) : Int) + 1) = ((p + 2 : Nat) : Int) := wrap_succ (m := p + 2) (by omega) (by omega)
    have w3 : IntKind.i64.wrap (((p + 2 : Nat) : Int) + 1) = ((p + 3 : Nat) : Int) := wrap_succ (m := p + 3) (by omega) (by omega)
    have w4 : IntKind.i64.wrap (((p + 3 + e.rests.length : Nat) : Int) + 1) = ((kS q (l.take (i + 1)) : Nat) : Int) := by rw [hk, show p + 4 + e.rests.length = p + 3 + e.rests.length + 1 by omega]; exact wrap_succ (m := p + 3 + e.rests.length + 1) (by omega) (by omega)
    have k0 := markText_ac p (by omega)
    have k1 := markText_ac (p + 1) (by omega)
    have k2 := markText_ac (p + 2) (by omega)
    have k3 := heldStringS_ac (p + 3) e.rests.length (by omega)
    have hn := nneg (p + 3 + e.rests.length)
    have m1 : (markSv p e).letters = markT p := rfl
    have m2 : (markSv p e).more = markT (p + 1) := rfl
    have m3 : (markSv p e).first = markT (p + 2) := rfl
    have m4 : (markSv p e).rests = mStrs (p + 3) e.rests.length := rfl
    have m5 : (markSv p e).keep = ((p + 3 + e.rests.length : Nat) : Int) := rfl
    repeat (first | apply Aw_seq | apply Aw_block | apply Aw_skip | apply Aw_exit | refine Aw_condt rfl ?_ | refine Aw_condf rfl ?_ | ((first | refine qr ?_ | refine qd (by kernel_rfl) (by kernel_rfl) ?_); simp only [go_sem, jE, reduceIte, jA, jM, jS, jL, jD, jB, h1, h2, hm, gl, iref, sref, bref, w1, w2, w3, w4, m1, m2, m3, m4, m5, hn]) | refine dk (by kernel_rfl) ?_ | (refine qp (k0) (by simp only [go_sem, jE, reduceIte, jA, jM, jS, jL, jD, jB, h1, h2, hm, gl, iref, sref, bref, w1, w2, w3, w4, m1, m2, m3, m4, m5, hn]; first | done | rfl) rfl (by simp only [go_sem, Nat.reduceLT]) rfl rfl ?_; simp only [go_sem, jE, reduceIte, jA, jM, jS, jL, jD, jB, h1, h2, hm, gl, iref, sref, bref, w1, w2, w3, w4, m1, m2, m3, m4, m5, hn]) | (refine qp (k1) (by simp only [go_sem, jE, reduceIte, jA, jM, jS, jL, jD, jB, h1, h2, hm, gl, iref, sref, bref, w1, w2, w3, w4, m1, m2, m3, m4, m5, hn]; first | done | rfl) rfl (by simp only [go_sem, Nat.reduceLT]) rfl rfl ?_; simp only [go_sem, jE, reduceIte, jA, jM, jS, jL, jD, jB, h1, h2, hm, gl, iref, sref, bref, w1, w2, w3, w4, m1, m2, m3, m4, m5, hn]) | (refine qp (k2) (by simp only [go_sem, jE, reduceIte, jA, jM, jS, jL, jD, jB, h1, h2, hm, gl, iref, sref, bref, w1, w2, w3, w4, m1, m2, m3, m4, m5, hn]; first | done | rfl) rfl (by simp only [go_sem, Nat.reduceLT]) rfl rfl ?_; simp only [go_sem, jE, reduceIte, jA, jM, jS, jL, jD, jB, h1, h2, hm, gl, iref, sref, bref, w1, w2, w3, w4, m1, m2, m3, m4, m5, hn]) | (refine qp (k3) (by simp only [go_sem, jE, reduceIte, jA, jM, jS, jL, jD, jB, h1, h2, hm, gl, iref, sref, bref, w1, w2, w3, w4, m1, m2, m3, m4, m5, hn]; first | done | rfl) rfl (by simp only [go_sem, Nat.reduceLT]) rfl rfl ?_; simp only [go_sem, jE, reduceIte, jA, jM, jS, jL, jD, jB, h1, h2, hm, gl, iref, sref, bref, w1, w2, w3, w4, m1, m2, m3, m4, m5, hn]))
    refine ⟨⟨i + 1, hlt⟩, [], ?_, rwL (by repeat (first | exact trivial | refine ⟨rfl, rfl, ?_⟩)) (by rfl) (by simp only [go_sem, jE, reduceIte, jA, jM, jS, jL, jD, jB]; first | done | rfl) (by decide) (idB rfl)⟩
    show l.length - (i + 1) < l.length - i; omega
  · have h1 : ¬ (i : Int) < (l.length : Int) := by omega
    obtain rfl : i = l.length := by omega
    rw [List.take_length]
    repeat (first | apply Aw_seq | apply Aw_block | apply Aw_skip | apply Aw_exit | refine Aw_condt rfl ?_ | refine Aw_condf rfl ?_ | ((first | refine qr ?_ | refine qd (by kernel_rfl) (by kernel_rfl) ?_); simp only [go_sem, jE, reduceIte, jA, jM, jS, jL, jD, jB, h1, gl]) | refine dk (by kernel_rfl) ?_)
    exact Aw_ret (ret0 (.inl rfl) (by simp only [go_sem, jE, reduceIte, jA, jM, jS, jL, jD, jB]; rfl) (by rfl) rfl)
def markSt (q : Nat) (s : Sto) : Sto := ⟨mEnts q s.top.length, markRs (q + 4 * s.top.length) s.levels, markSs (kR (q + 4 * s.top.length) s.levels) s.sieves, s.keep, s.time, mInts (kS (kR (q + 4 * s.top.length) s.levels) s.sieves) s.times.length⟩
theorem heldStoreM_ac (s : Sto) (q : Nat) (hl : s.levels.length ≤ 1048576) (hs : s.sieves.length ≤ 1048576) (hq : cntS q s ≤ 1099511627776) : AC Tryz.prog 14 [stT (markSt q s), iT q] noHp 0 ⟨.t (iT ((cntS q s : Nat) : Int)), noHp, 0⟩ := by
  unfold cntS at hq ⊢
  unfold markSt
  have a1 := kR_le s.levels (q + 4 * s.top.length)
  have a2 := kS_le s.sieves (kR (q + 4 * s.top.length) s.levels)
  have k1 := heldEntryS_ac q s.top.length (by omega)
  have k2 := heldEntrySSM_ac s.levels (q + 4 * s.top.length) hl (by omega)
  have k3 := heldSieveSM_ac s.sieves (kR (q + 4 * s.top.length) s.levels) hs (by omega)
  have k4 := heldIntS_ac (kS (kR (q + 4 * s.top.length) s.levels) s.sieves) s.times.length hq
  have n1 := nneg (q + 4 * s.top.length)
  have n2 := nneg (kR (q + 4 * s.top.length) s.levels)
  have n3 := nneg (kS (kR (q + 4 * s.top.length) s.levels) s.sieves)
  have n4 := nneg (kS (kR (q + 4 * s.top.length) s.levels) s.sieves + s.times.length)
  generalize kS (kR (q + 4 * s.top.length) s.levels) s.sieves = q3 at k3 k4 n3 n4 ⊢
  generalize kR (q + 4 * s.top.length) s.levels = q2 at k2 k3 n2 ⊢
  generalize q + 4 * s.top.length = q1 at k1 k2 n1 ⊢
  refine AC_of Tryz.func14 rfl Tryz.ntmps14 Tryz.results14 (by kernel_rfl) rfl ?_
  simp only [List.zipIdx, List.map, Nat.zero_add, Nat.reduceAdd]
  repeat (first | apply Aw_seq | apply Aw_block | apply Aw_skip | apply Aw_exit | refine Aw_condt rfl ?_ | refine Aw_condf rfl ?_ | ((first | refine qr ?_ | refine qd (by kernel_rfl) (by kernel_rfl) ?_); simp only [go_sem, jE, reduceIte, jA, jM, jS, jL, jD, jB, n1, n2, n3, n4]) | refine dk (by kernel_rfl) ?_ | (refine qp (k1) (by simp only [go_sem, jE, reduceIte, jA, jM, jS, jL, jD, jB, n1, n2, n3, n4]; first | done | rfl) rfl (by simp only [go_sem, Nat.reduceLT]) rfl rfl ?_; simp only [go_sem, jE, reduceIte, jA, jM, jS, jL, jD, jB, n1, n2, n3, n4]) | (refine qp (k2) (by simp only [go_sem, jE, reduceIte, jA, jM, jS, jL, jD, jB, n1, n2, n3, n4]; first | done | rfl) rfl (by simp only [go_sem, Nat.reduceLT]) rfl rfl ?_; simp only [go_sem, jE, reduceIte, jA, jM, jS, jL, jD, jB, n1, n2, n3, n4]) | (refine qp (k3) (by simp only [go_sem, jE, reduceIte, jA, jM, jS, jL, jD, jB, n1, n2, n3, n4]; first | done | rfl) rfl (by simp only [go_sem, Nat.reduceLT]) rfl rfl ?_; simp only [go_sem, jE, reduceIte, jA, jM, jS, jL, jD, jB, n1, n2, n3, n4]) | (refine qp (k4) (by simp only [go_sem, jE, reduceIte, jA, jM, jS, jL, jD, jB, n1, n2, n3, n4]; first | done | rfl) rfl (by simp only [go_sem, Nat.reduceLT]) rfl rfl ?_; simp only [go_sem, jE, reduceIte, jA, jM, jS, jL, jD, jB, n1, n2, n3, n4]))
  exact Aw_ret (ret0 (.inl rfl) (by simp only [go_sem, jE, reduceIte, jA, jM, jS, jL, jD, jB]; rfl) (by rfl) rfl)
theorem toStoreO_ac (top a b c : List Ent) (x y z : Sve) (keep time : Int) (ts : List Int) (h : midT ⟨top, [a, b, c], [x, y, z], keep, time, ts⟩) : AC Tryz.prog 10 [stT ⟨top, [a, b, c], [x, y, z], keep, time, ts⟩] noHp 0 ⟨.t (.agg [.h 0, .h 1, .h 2, .d (.s (.int .i64 keep)), .d (.s (.int .i64 time)), .h 3]), hpL (cloS top a b c x y z ts), 10⟩ := by
  have k1 := toEntrySR_ac top h.top
  have k2 : AC Tryz.prog 32 [lvsT [a, b, c]] noHp 0 ⟨.t (.c (.h 0)), hpL [some ⟨29, 1, true, [[.h 1], [.h 2], [.h 3]]⟩, some (eRow a), some (eRow b), some (eRow c)], 4⟩ := toEntrySSO_ac [a, b, c] h.ll h.levels
  have k3 : AC Tryz.prog 33 [svsT [x, y, z]] noHp 0 ⟨.t (.c (.h 0)), hpL [some ⟨82, 5, true, [svN x 1, svN y 2, svN z 3]⟩, some (kRow x.rests), some (kRow y.rests), some (kRow z.rests)], 4⟩ := toSieveSO_ac [x, y, z] h.sl h.sieves
  have k4 := toIntSR_ac ts h.times
  unfold cloS svN
  unfold svN at k3
  refine AC_of Tryz.func10 rfl Tryz.ntmps10 Tryz.results10 (by kernel_rfl) rfl ?_
  simp only [List.zipIdx, List.map, Nat.zero_add, Nat.reduceAdd]
  repeat (first | apply Aw_seq | apply Aw_block | apply Aw_skip | apply Aw_exit | refine Aw_condt rfl ?_ | refine Aw_condf rfl ?_ | ((first | refine qr ?_ | refine qd (by kernel_rfl) (by kernel_rfl) ?_); simp only [go_sem, jE, reduceIte, jA, jM, jS, jL, jD, jB]) | refine dk (by kernel_rfl) ?_ | (refine qx (call_N (L := []) (k1) rfl (.cons (.nm rfl) (.nil)) (.inl rfl) rfl) (by simp only [go_sem, jE, reduceIte, jA, jM, jS, jL, jD, jB]; first | done | rfl) rfl (by simp only [go_sem, Nat.reduceLT]) ?_; simp only [go_sem, jE, reduceIte, jA, jM, jS, jL, jD, jB]) | (refine qx (call_N (L := []) (k2) rfl (.cons (.nm rfl) (.nil)) (.inl rfl) rfl) (by simp only [go_sem, jE, reduceIte, jA, jM, jS, jL, jD, jB]; first | done | rfl) rfl (by simp only [go_sem, Nat.reduceLT]) ?_; simp only [go_sem, jE, reduceIte, jA, jM, jS, jL, jD, jB]) | (refine qx (call_N (L := []) (k3) rfl (.cons (.nm rfl) (.nil)) (.inl rfl) rfl) (by simp only [go_sem, jE, reduceIte, jA, jM, jS, jL, jD, jB]; first | done | rfl) rfl (by simp only [go_sem, Nat.reduceLT]) ?_; simp only [go_sem, jE, reduceIte, jA, jM, jS, jL, jD, jB]) | (refine qx (call_N (L := []) (k4) rfl (.cons (.nm rfl) (.nil)) (.inl rfl) rfl) (by simp only [go_sem, jE, reduceIte, jA, jM, jS, jL, jD, jB]; first | done | rfl) rfl (by simp only [go_sem, Nat.reduceLT]) ?_; simp only [go_sem, jE, reduceIte, jA, jM, jS, jL, jD, jB]))
  exact Aw_ret (retL (M := [5, 10, 18, 34, 11, 12, 13, 19, 20, 21]) (.inl rfl) (by simp only [go_sem, jE, reduceIte, jA, jM, jS, jL, jD, jB]; first | done | rfl) rfl rfl (by rfl) (by simp only [go_sem, jE, reduceIte, jA, jM, jS, jL, jD, jB]; first | done | rfl | (and_intros <;> rfl)) (by decide) (idB rfl))
theorem markStoreO_ac (top a b c : List Ent) (x y z : Sve) (keep time : Int) (ts : List Int) (q : Nat) (hq : cntS q ⟨top, [a, b, c], [x, y, z], keep, time, ts⟩ ≤ 1099511627776) :
    AC Tryz.prog 13 [.agg [.h 0, .h 1, .h 2, .d (.s (.int .i64 keep)), .d (.s (.int .i64 time)), .h 3], iT q] (hpL (cloS top a b c x y z ts)) 10 ⟨.t (iT ((cntS q ⟨top, [a, b, c], [x, y, z], keep, time, ts⟩ : Nat) : Int)), hpL (cloS (mEnts q top.length) (mEnts (q + 4 * top.length) a.length) (mEnts (q + 4 * top.length + 4 * a.length) b.length) (mEnts (q + 4 * top.length + 4 * a.length + 4 * b.length) c.length)
      (markSv (kR (q + 4 * top.length) [a, b, c]) x) (markSv (kR (q + 4 * top.length) [a, b, c] + 4 + x.rests.length) y) (markSv (kR (q + 4 * top.length) [a, b, c] + 4 + x.rests.length + 4 + y.rests.length) z) (mInts (kS (kR (q + 4 * top.length) [a, b, c]) [x, y, z]) ts.length)), 10⟩ := by
  unfold cntS at hq ⊢
  dsimp only at hq ⊢
  have a1 := kR_le [a, b, c] (q + 4 * top.length)
  have a2 := kS_le [x, y, z] (kR (q + 4 * top.length) [a, b, c])
  have k1 := markEntryS_ac top q (by omega)
  have k2 : AC Tryz.prog 41 [.c (.h 0), iT ((q + 4 * top.length : Nat) : Int)] (hpL [some ⟨29, 1, true, [[.h 1], [.h 2], [.h 3]]⟩, some (eRow a), some (eRow b), some (eRow c)]) 4 ⟨.t (iT ((kR (q + 4 * top.length) [a, b, c] : Nat) : Int)), hpL [some ⟨29, 1, true, [[.h 1], [.h 2], [.h 3]]⟩, some (eRow (mEnts (q + 4 * top.length) a.length)), some (eRow (mEnts (q + 4 * top.length + 4 * a.length) b.length)), some (eRow (mEnts (q + 4 * top.length + 4 * a.length + 4 * b.length) c.length))], 4⟩ := markEntrySSO_ac [a, b, c] (q + 4 * top.length) (by simp) (by omega)
  generalize kR (q + 4 * top.length) [a, b, c] = q2 at a1 a2 hq k2 ⊢
  have k3 : AC Tryz.prog 42 [.c (.h 0), iT (q2 : Nat)] (hpL [some ⟨82, 5, true, [svN x 1, svN y 2, svN z 3]⟩, some (kRow x.rests), some (kRow y.rests), some (kRow z.rests)]) 4 ⟨.t (iT ((kS q2 [x, y, z] : Nat) : Int)), hpL [some ⟨82, 5, true, [svN (markSv q2 x) 1, svN (markSv (q2 + 4 + x.rests.length) y) 2, svN (markSv (q2 + 4 + x.rests.length + 4 + y.rests.length) z) 3]⟩, some (kRow (markSv q2 x).rests), some (kRow (markSv (q2 + 4 + x.rests.length) y).rests), some (kRow (markSv (q2 + 4 + x.rests.length + 4 + y.rests.length) z).rests)], 4⟩ := markSieveSO_ac [x, y, z] q2 (by simp) (by omega)
  have k4 := markIntS_ac ts (kS q2 [x, y, z]) (by omega)
  generalize kS q2 [x, y, z] = q3 at k3 k4 ⊢
  generalize markSv q2 x = x' at k3 ⊢
  generalize markSv (q2 + 4 + x.rests.length) y = y' at k3 ⊢
  generalize markSv (q2 + 4 + x.rests.length + 4 + y.rests.length) z = z' at k3 ⊢
  generalize mEnts (q + 4 * top.length + 4 * a.length + 4 * b.length) c.length = c' at k2 ⊢
  generalize mEnts (q + 4 * top.length + 4 * a.length) b.length = b' at k2 ⊢
  generalize mEnts (q + 4 * top.length) a.length = a' at k2 ⊢
  generalize mEnts q top.length = t' at k1 ⊢
  generalize mInts q3 ts.length = i' at k4 ⊢
  unfold cloS svN
  unfold svN at k3
  refine AC_of Tryz.func13 rfl Tryz.ntmps13 Tryz.results13 (by kernel_rfl) rfl ?_
  simp only [List.zipIdx, List.map, Nat.zero_add, Nat.reduceAdd]
  repeat (first | apply Aw_seq | apply Aw_block | apply Aw_skip | apply Aw_exit | refine Aw_condt rfl ?_ | refine Aw_condf rfl ?_ | ((first | refine qr ?_ | refine qd (by kernel_rfl) (by kernel_rfl) ?_); simp only [go_sem, jE, reduceIte, jA, jM, jS, jL, jD, jB]) | refine dk (by kernel_rfl) ?_ | (refine qx (call_L (N' := [0]) (L := []) (k1) rfl (.cons (.nm rfl) (.cons (.nm rfl) (.nil))) (by decide) (by decide) (by decide) (by simp only [go_sem, jE, reduceIte, jA, jM, jS, jL, jD, jB]; first | done | rfl) (.inl rfl) rfl (by decide)) (by simp only [go_sem, jE, reduceIte, jA, jM, jS, jL, jD, jB]; first | done | rfl) rfl (by simp only [go_sem, Nat.reduceLT]) ?_; simp only [go_sem, jE, reduceIte, jA, jM, jS, jL, jD, jB]) | (refine qx (call_L (N' := [1, 4, 5, 6]) (L := []) (k2) rfl (.cons (.nm rfl) (.cons (.nm rfl) (.nil))) (by decide) (by decide) (by decide) (by simp only [go_sem, jE, reduceIte, jA, jM, jS, jL, jD, jB]; first | done | rfl) (.inl rfl) rfl (by decide)) (by simp only [go_sem, jE, reduceIte, jA, jM, jS, jL, jD, jB]; first | done | rfl) rfl (by simp only [go_sem, Nat.reduceLT]) ?_; simp only [go_sem, jE, reduceIte, jA, jM, jS, jL, jD, jB]) | (refine qx (call_L (N' := [2, 7, 8, 9]) (L := []) (k3) rfl (.cons (.nm rfl) (.cons (.nm rfl) (.nil))) (by decide) (by decide) (by decide) (by simp only [go_sem, jE, reduceIte, jA, jM, jS, jL, jD, jB]; first | done | rfl) (.inl rfl) rfl (by decide)) (by simp only [go_sem, jE, reduceIte, jA, jM, jS, jL, jD, jB]; first | done | rfl) rfl (by simp only [go_sem, Nat.reduceLT]) ?_; simp only [go_sem, jE, reduceIte, jA, jM, jS, jL, jD, jB]) | (refine qx (call_L (N' := [3]) (L := []) (k4) rfl (.cons (.nm rfl) (.cons (.nm rfl) (.nil))) (by decide) (by decide) (by decide) (by simp only [go_sem, jE, reduceIte, jA, jM, jS, jL, jD, jB]; first | done | rfl) (.inl rfl) rfl (by decide)) (by simp only [go_sem, jE, reduceIte, jA, jM, jS, jL, jD, jB]; first | done | rfl) rfl (by simp only [go_sem, Nat.reduceLT]) ?_; simp only [go_sem, jE, reduceIte, jA, jM, jS, jL, jD, jB]))
  exact Aw_ret (retL (M := [0, 1, 2, 3, 4, 5, 6, 7, 8, 9]) (.inl rfl) (by simp only [go_sem, jE, reduceIte, jA, jM, jS, jL, jD, jB]; first | done | rfl) rfl rfl (by rfl) (by simp only [go_sem, jE, reduceIte, jA, jM, jS, jL, jD, jB]; first | done | rfl | (and_intros <;> rfl)) (by decide) (idB rfl))
theorem AC.toL {P : Program} {f : FuncId} {args : List TV} {x : AV} (h : AC P f args noHp 0 ⟨x, noHp, 0⟩) : AC P f args noHp 0 ⟨x, hpL [], 0⟩ := by rw [hpL_nil]; exact h
open Go Go.Proofs Go.Deep Go.WideShapes Go.ChangeShapes Go.RowKit
theorem cell_lt {w : World} {a : Addr} {v : Value} (h : w.cell? a = some v) : a.block < w.heap.size := by
  apply Classical.byContradiction
  intro hn
  have : w.heap[a.block]? = none := Array.getElem?_eq_none (by omega)
  simp [World.cell?, this] at h
/-- What is read as data of type t is, cell by cell, the data that f tells of a value that is ok. -/
structure RdB {α : Type} (P : Program) (t : TypeId) (f : α → List D) (ok : α → Prop) : Prop where
  down : ∀ {H : Type} {enc : TypeId × Value → H} {w : World} {base : Nat} {spare : Nat → Bool} {held : Bool} {fuel : Nat} {cs : List Value} {x : DataW H × List MemPlace},
    DataW.trod enc P w base spare held fuel t cs = some x → ∃ y, All2 (RepD w (· < w.heap.size)) (f y) cs ∧ ok y
theorem RdB.int {P : Program} {t : TypeId} {k : IntKind} (ht : P.underlying t = some (.int k)) : RdB P t (fun n : Int => [.s (.int k n)]) (fun n => (Lit.int k n).wf = true) :=
  ⟨fun h => by obtain ⟨n, rfl, _, hw⟩ := DataW.trod_int ht h; exact ⟨n, .cons (.s rfl) .nil, hw⟩⟩
theorem RdB.bool {P : Program} {t : TypeId} (ht : P.underlying t = some .bool) : RdB P t (fun b : Bool => [.s (.bool b)]) (fun _ => True) :=
  ⟨fun h => by obtain ⟨b, rfl, _⟩ := DataW.trod_bool ht h; exact ⟨b, .cons (.s rfl) .nil, trivial⟩⟩
theorem RdB.str {P : Program} {t : TypeId} (ht : P.underlying t = some .string) : RdB P t (fun s : ByteArray => [.s (.string s)]) (fun s => s.size ≤ maxLen) :=
  ⟨fun h => by obtain ⟨s, rfl, _, hs⟩ := DataW.trod_string ht h; exact ⟨s, .cons (.s rfl) .nil, hs⟩⟩
theorem RdB.slice {α : Type} {P : Program} {t e k : Nat} {f : α → List D} {ok : α → Prop} (ht : P.underlying t = some (.slice e)) (hc : P.cellsOf e = k) (hd : RdB P e f ok) :
    RdB P t (fun xs : List α => [.rs k (xs.map f)]) (fun xs => xs.length ≤ maxLen ∧ ∀ x ∈ xs, ok x) := by
  refine ⟨fun {H enc w base spare held fuel cs x} h => ?_⟩
  rcases open_slice ht h with ⟨rfl, rfl⟩ | ⟨a, len, cap, m, n, D, Pl, rfl, hb, hl, hm, hmm, rfl, hx⟩
  · exact ⟨[], .cons (.rs (A := none) (cap := 0) (fun _ _ => .bool false) (Nat.le_refl _) (Nat.zero_le _) (by simp) (fun i j hi => absurd hi (by simp)) (fun i j cs x hi => by simp at hi)) .nil, by simp, by simp⟩
  · have hlm : len ≤ m := by rw [hmm]; split <;> omega
    have hy : ∀ i : _root_.Fin len, ∃ y, ∃ cs', w.cells? base (a.add (i.1 * P.cellsOf e)) (P.cellsOf e) = some cs' ∧ All2 (RepD w (· < w.heap.size)) (f y) cs' ∧ ok y := fun i => by
      obtain ⟨cs', h1, h2⟩ := hx i.1 (by omega)
      obtain ⟨y, h3, h4⟩ := hd.down h2
      exact ⟨y, cs', h1, h3, h4⟩
    have hsp : ∀ i : _root_.Fin len, ∃ cs', w.cells? base (a.add (i.1 * P.cellsOf e)) (P.cellsOf e) = some cs' ∧ All2 (RepD w (· < w.heap.size)) (f (Classical.choose (hy i))) cs' ∧ ok (Classical.choose (hy i)) := fun i => Classical.choose_spec (hy i)
    have hlen : (List.ofFn fun i : _root_.Fin len => Classical.choose (hy i)).length = len := List.length_ofFn
    have hget : ∀ {j : Nat} {p : α}, (List.ofFn fun i : _root_.Fin len => Classical.choose (hy i))[j]? = some p → ∃ cs', w.cells? base (a.add (j * k)) k = some cs' ∧ All2 (RepD w (· < w.heap.size)) (f p) cs' := fun {j p} hj => by
      have hjl : j < len := by
        have := (List.getElem?_eq_some_iff.1 hj).1
        rwa [hlen] at this
      rw [List.getElem?_ofFn, dif_pos hjl] at hj
      obtain rfl := Option.some.inj hj
      obtain ⟨cs', h1, h2, _⟩ := hsp ⟨j, hjl⟩
      rw [hc] at h1
      exact ⟨cs', h1, h2⟩
    have hbk : ∀ n, (a.add n).block = a.block := fun n => by unfold Addr.add; split <;> rfl
    have hcell : ∀ i, i < len → ∃ cs' : List Value, cs'.length = k ∧ ∀ j, j < k → w.cell? (a.add (i * k + j)) = cs'[j]? := fun i hi => by
      obtain ⟨cs', h1, _⟩ := hsp ⟨i, hi⟩
      rw [hc] at h1
      obtain ⟨_, h3, h4⟩ := World.cells?_some h1
      refine ⟨cs', h3, fun j hj => ?_⟩
      have := h4 j hj
      rw [Deep.add_add] at this
      exact this
    refine ⟨List.ofFn fun i : _root_.Fin len => Classical.choose (hy i), .cons ?_ .nil, by rw [hlen]; omega, ?_⟩
    · have := RepD.rs (w := w) (S := (· < w.heap.size)) (k := k) (els := (List.ofFn fun i : _root_.Fin len => Classical.choose (hy i)).map f) (A := some a) (cap := cap) (fun i j => (w.cell? (a.add (i * k + j))).getD (.bool false)) (by rw [List.length_map, hlen]; exact hl) hm ?_ ?_ ?_
      · rw [List.length_map, hlen] at this; exact this
      · intro cs hcs
        obtain ⟨p, hp, rfl⟩ := List.mem_map.1 hcs
        obtain ⟨j, hj⟩ := List.mem_iff_getElem?.1 hp
        obtain ⟨cs', h1, h2⟩ := hget hj
        rw [h2.len]; exact (World.cells?_some h1).2.1
      · intro i j hi hj
        rw [List.length_map, hlen] at hi
        obtain ⟨cs', h1, h2⟩ := hcell i hi
        have h3 := h2 j hj
        rw [List.getElem?_eq_getElem (by omega)] at h3
        refine ⟨a, rfl, ?_, ?_⟩
        · have := cell_lt h3; rwa [hbk] at this
        · simp only [h3]; rfl
      · intro i j cs x hi hj
        rw [List.getElem?_map] at hi
        obtain ⟨p, hp, rfl⟩ := Option.map_eq_some_iff.1 hi
        obtain ⟨cs', h1, h2⟩ := hget hp
        obtain ⟨_, h3, h4⟩ := World.cells?_some h1
        obtain ⟨v, hv, hr⟩ := h2.get hj
        have hjk : j < k := by have := (List.getElem?_eq_some_iff.1 hv).1; omega
        have := h4 j hjk
        rw [Deep.add_add, hv] at this
        simp only [this]
        exact hr
    · intro x hx
      obtain ⟨i, rfl⟩ := List.mem_ofFn.1 hx
      exact (hsp i).choose_spec.2.2
/-- The fields of a struct, from a cell on. -/
structure FRdB {α : Type} (P : Program) (off : Nat) (fs : List Field) (sz : Nat) (f : α → List D) (ok : α → Prop) : Prop where
  down : ∀ {H : Type} {enc : TypeId × Value → H} {w : World} {base : Nat} {spare : Nat → Bool} {held : Bool} {n : Nat} {cs : List Value} (ys : List (DataW H × List MemPlace)),
    cs.length = off + sz → ys.length = fs.length → (∀ (i : Nat) (f : Field), fs[i]? = some f → DataW.trod enc P w base spare held n f.type ((cs.drop f.offset).take (P.cellsOf f.type)) = ys[i]?) → ∃ y, All2 (RepD w (· < w.heap.size)) (f y) (cs.drop off) ∧ ok y
theorem FRdB.last {α : Type} {P : Program} {off sz : Nat} {f : Field} {d : α → List D} {ok : α → Prop} (ho : f.offset = off) (hc : P.cellsOf f.type = sz) (hd : RdB P f.type d ok) : FRdB P off [f] sz d ok := by
  refine ⟨fun {H enc w base spare held n cs} ys hl hy h => ?_⟩
  have h0 := h 0 f rfl
  rw [ho, hc, List.take_of_length_le (by rw [List.length_drop]; omega)] at h0
  have h1 : 0 < ys.length := by rw [hy]; simp
  rw [List.getElem?_eq_getElem h1] at h0
  exact hd.down h0
theorem FRdB.cons {α β : Type} {P : Program} {off sa sb : Nat} {f : Field} {fs : List Field} {a : α → List D} {b : β → List D} {oka : α → Prop} {okb : β → Prop} (ho : f.offset = off) (hc : P.cellsOf f.type = sa) (ha : RdB P f.type a oka) (hb : FRdB P (off + sa) fs sb b okb) :
    FRdB P off (f :: fs) (sa + sb) (fun y : α × β => a y.1 ++ b y.2) (fun y => oka y.1 ∧ okb y.2) := by
  refine ⟨fun {H enc w base spare held n cs} ys hl hy h => ?_⟩
  have h0 := h 0 f rfl
  rw [ho, hc] at h0
  match ys, hy with
  | [], hy => simp at hy
  | y0 :: ys, hy =>
    obtain ⟨x, h1, h2⟩ := ha.down (x := y0) h0
    obtain ⟨z, h3, h4⟩ := hb.down (cs := cs) ys (by omega) (by simpa using hy) (fun i g hg => by simpa using h (i + 1) g (by simpa using hg))
    refine ⟨(x, z), ?_, h2, h4⟩
    have := h1.app h3
    rw [← List.drop_drop, List.take_append_drop] at this
    exact this
theorem RdB.struct {α : Type} {P : Program} {t sz : Nat} {fs : Array Field} {d : α → List D} {ok : α → Prop} (ht : P.underlying t = some (.struct fs)) (hc : P.cellsOf t = sz) (hf : FRdB P 0 fs.toList sz d ok) : RdB P t d ok := by
  refine ⟨fun {H enc w base spare held fuel cs x} h => ?_⟩
  obtain ⟨xs, n, _, _, hl, hx, hi⟩ := DataW.trod_struct ht h
  have := hf.down (cs := cs) xs (by omega) (by simpa using hx) (fun i f hf => hi i f (by simpa using hf))
  simpa using this
theorem RdB.iso {α β : Type} {P : Program} {t : TypeId} {d : α → List D} {d' : β → List D} {ok : α → Prop} {ok' : β → Prop} (g : α → β) (hd : RdB P t d ok) (hg : ∀ x, d' (g x) = d x) (hk : ∀ x, ok x → ok' (g x)) : RdB P t d' ok' :=
  ⟨fun h => by
    obtain ⟨x, h1, h2⟩ := hd.down h
    exact ⟨g x, by rw [hg]; exact h1, hk x h2⟩⟩
/-- An argument that is a struct; one that is a slice. -/
theorem RdB.argS {α H : Type} {enc : TypeId × Value → H} {P : Program} {w : World} {base : Nat} {spare : Nat → Bool} {held : Bool} {t : TypeId} {d : α → List D} {ok : α → Prop} {cs : Array Value} {x : DataW H} {p : List MemPlace}
    (hd : RdB P t d ok) (h : DataW.Trod enc P w base spare held t (.agg cs) x p) : ∃ y : α, All2 (RepD w (· < w.heap.size)) (d y) cs.toList ∧ ok y := by
  obtain ⟨fuel, hf⟩ := h
  exact hd.down hf
/-- A law's contract, of data alone: it gives its value, and leaves what was there. -/
theorem AC.run {P : Program} {f : FuncId} {args : List TV} {b : Bool} {n : Nat} (h : AC P f args noHp 0 ⟨.t (bT b), noHp, n⟩) {W : World} {vs : List Value} (hv : All2 (RepT ⟨W, fun _ => 0, fun _ => .bool false, fun _ => 0, (· < W.heap.size), fun _ => False⟩) args vs) :
    Calls P f vs.toArray W fun e W' => e = .returned (.bool b) ∧ Below W.heap.size W W' := by
  have g : Good ⟨W, fun _ => 0, fun _ => .bool false, fun _ => 0, (· < W.heap.size), fun _ => False⟩ noHp := by
    refine ⟨fun m o hm => ?_, fun m o hm => ?_, fun b hb => ?_, fun m o m' o' b hm => ?_, fun b hb => hb⟩
    · simp [noHp] at hm
    · simp [noHp] at hm
    · obtain ⟨m, o, hm, _⟩ := hb; simp [noHp] at hm
    · simp [noHp] at hm
  refine Calls.mono (h.2 _ vs g (fun m hm => hm.elim) hv) fun e w' => ?_
  rintro ⟨v, c', rfl, rfl, t, _, r, _⟩
  refine ⟨by rw [show v = .bool b by cases r; rfl], t.os, t.tape, t.output, t.size, fun k hk => t.keep k hk ?_⟩
  rintro ⟨m, o, hm, _⟩
  simp [noHp] at hm
theorem rep_agg {W : World} {c : Cx} {cs : List D} {vs : Array Value} (hc : c.w = W) (hS : c.S = (· < W.heap.size)) (h : All2 (RepD W (· < W.heap.size)) cs vs.toList) : RepT c (.agg (cs.map .d)) (.agg vs) :=
  ⟨vs.toList, by simp, All2.map_left (h.imp fun a b hab => by subst hc; rw [← hS] at hab; exact hab)⟩
set_option maxRecDepth 100000
def w64 (n : Int) : Prop := (Lit.int .i64 n).wf = true
structure okE (e : Ent) : Prop where
  key : big e.key.size
  val : w64 e.val
  time : w64 e.time
def okR (r : List Ent) : Prop := big r.length ∧ ∀ e ∈ r, okE e
def okS (s : Sve) : Prop := bigS s ∧ w64 s.keep
structure okT (s : Sto) : Prop where
  top : okR s.top
  ll : big s.levels.length
  levels : ∀ e ∈ s.levels, okR e
  sl : big s.sieves.length
  sieves : ∀ e ∈ s.sieves, okS e
  times : big s.times.length
  keep : w64 s.keep
  time : w64 s.time
  tw : ∀ t ∈ s.times, w64 t
theorem okR.big {r : List Ent} (h : okR r) : bigR r := ⟨h.1, fun e he => (h.2 e he).key⟩
theorem okT.big {s : Sto} (h : okT s) : bigT s := ⟨h.top.big, h.ll, fun e he => (h.levels e he).big, h.sl, fun e he => (h.sieves e he).1, h.times⟩
theorem rdEnt : RdB Tryz.prog 92 entD okE :=
  RdB.iso (fun x : ByteArray × Int × Bool × Int => (⟨x.1, x.2.1, x.2.2.1, x.2.2.2⟩ : Ent)) (RdB.struct Tryz.underlying92 (by kernel_rfl) (FRdB.cons (sa := 1) rfl (by kernel_rfl) (RdB.str Tryz.underlying9) (FRdB.cons (sa := 1) rfl (by kernel_rfl) (RdB.int Tryz.underlying3) (FRdB.cons (sa := 1) rfl (by kernel_rfl) (RdB.bool Tryz.underlying4) (FRdB.last (sz := 1) rfl (by kernel_rfl) (RdB.int Tryz.underlying3)))))) (fun _ => rfl) (fun x h => ⟨h.1, h.2.1, h.2.2.2⟩)
theorem rdRun : RdB Tryz.prog 22 (fun r => [.rs 4 (r.map entD)]) okR := RdB.slice Tryz.underlying22 (by kernel_rfl) rdEnt
theorem rdSve : RdB Tryz.prog 94 sveD okS :=
  RdB.iso (fun x : ByteArray × ByteArray × ByteArray × List ByteArray × Int => (⟨x.1, x.2.1, x.2.2.1, x.2.2.2.1, x.2.2.2.2⟩ : Sve)) (RdB.struct Tryz.underlying94 (by kernel_rfl) (FRdB.cons (sa := 1) rfl (by kernel_rfl) (RdB.str Tryz.underlying9) (FRdB.cons (sa := 1) rfl (by kernel_rfl) (RdB.str Tryz.underlying9) (FRdB.cons (sa := 1) rfl (by kernel_rfl) (RdB.str Tryz.underlying9) (FRdB.cons (sa := 1) rfl (by kernel_rfl) (RdB.slice Tryz.underlying78 (by kernel_rfl) (RdB.str Tryz.underlying9)) (FRdB.last (sz := 1) rfl (by kernel_rfl) (RdB.int Tryz.underlying3))))))) (fun _ => rfl) (fun x h => ⟨⟨h.1, h.2.1, h.2.2.1, h.2.2.2.1.1, h.2.2.2.1.2⟩, h.2.2.2.2⟩)
def stC (s : Sto) : List D := [.rs 4 (s.top.map entD), .rs 1 (s.levels.map lvD), .rs 5 (s.sieves.map sveD), .s (.int .i64 s.keep), .s (.int .i64 s.time), .rs 1 (s.times.map intD)]
theorem rdSto : RdB Tryz.prog 27 stC okT :=
  RdB.iso (fun x : List Ent × List (List Ent) × List Sve × Int × Int × List Int => (⟨x.1, x.2.1, x.2.2.1, x.2.2.2.1, x.2.2.2.2.1, x.2.2.2.2.2⟩ : Sto)) (RdB.struct Tryz.underlying27 (by kernel_rfl) (FRdB.cons (sa := 1) rfl (by kernel_rfl) rdRun (FRdB.cons (sa := 1) rfl (by kernel_rfl) (RdB.slice Tryz.underlying23 (by kernel_rfl) rdRun) (FRdB.cons (sa := 1) rfl (by kernel_rfl) (RdB.slice Tryz.underlying24 (by kernel_rfl) rdSve) (FRdB.cons (sa := 1) rfl (by kernel_rfl) (RdB.int Tryz.underlying3) (FRdB.cons (sa := 1) rfl (by kernel_rfl) (RdB.int Tryz.underlying3) (FRdB.last (sz := 1) rfl (by kernel_rfl) (RdB.slice Tryz.underlying25 (by kernel_rfl) (RdB.int Tryz.underlying3)))))))))
    (fun _ => rfl) (fun x h => ⟨h.1, h.2.1.1, h.2.1.2, h.2.2.1.1, h.2.2.1.2, h.2.2.2.2.2.1, h.2.2.2.1, h.2.2.2.2.1, h.2.2.2.2.2.2⟩)
theorem rep_st {W : World} {c : Cx} {s : Sto} {vs : Array Value} (hc : c.w = W) (hS : c.S = (· < W.heap.size)) (h : All2 (RepD W (· < W.heap.size)) (stC s) vs.toList) : RepT c (stT s) (.agg vs) := rep_agg hc hS h
set_option maxRecDepth 10000
theorem markSieveE_ac (k : Nat) : AC Tryz.prog 42 [svsT [], iT k] noHp 0 ⟨.t (iT k), noHp, 0⟩ := by
  refine AC_of Tryz.func42 rfl Tryz.ntmps42 Tryz.results42 (by kernel_rfl) rfl ?_
  simp only [List.zipIdx, List.map, Nat.zero_add, Nat.reduceAdd]
  repeat (first | apply Aw_seq | apply Aw_block | apply Aw_skip | apply Aw_exit | refine Aw_condt rfl ?_ | refine Aw_condf rfl ?_ | ((first | refine qr ?_ | refine qd (by kernel_rfl) (by kernel_rfl) ?_); simp only [go_sem, jE, reduceIte, jA, jM, jS, jL, jD, jB]) | refine dk (by kernel_rfl) ?_)
  refine Aw_rounds 1 ?_
  refine AwR_succ ?_
  repeat (first | apply Aw_seq | apply Aw_block | apply Aw_skip | apply Aw_exit | refine Aw_condt rfl ?_ | refine Aw_condf rfl ?_ | ((first | refine qr ?_ | refine qd (by kernel_rfl) (by kernel_rfl) ?_); simp only [go_sem, jE, reduceIte, jA, jM, jS, jL, jD, jB, lt00]) | refine dk (by kernel_rfl) ?_)
  exact Aw_ret (ret0 (.inl rfl) (by simp only [go_sem, jE, reduceIte, jA, jM, jS, jL, jD, jB]; rfl) (by rfl) rfl)
theorem zSto_far : farT zSto := ⟨by simp [zSto], by simp [zSto], by simp [zSto], by simp [zSto], by simp [zSto], by simp [zSto]⟩
theorem markStoreZ_ac (k : Nat) : AC Tryz.prog 13 [stT zSto, iT k] noHp 0 ⟨.t (iT k), noHp, 0⟩ := by
  unfold zSto
  refine AC_of Tryz.func13 rfl Tryz.ntmps13 Tryz.results13 (by kernel_rfl) rfl ?_
  simp only [List.zipIdx, List.map, Nat.zero_add, Nat.reduceAdd]
  repeat (first | apply Aw_seq | apply Aw_block | apply Aw_skip | apply Aw_exit | refine Aw_condt rfl ?_ | refine Aw_condf rfl ?_ | ((first | refine qr ?_ | refine qd (by kernel_rfl) (by kernel_rfl) ?_); simp only [go_sem, jE, reduceIte, jA, jM, jS, jL, jD, jB]) | refine dk (by kernel_rfl) ?_ | (refine qp (markEntry0_ac k) (by simp only [go_sem, jE, reduceIte, jA, jM, jS, jL, jD, jB]; first | done | rfl) rfl (by simp only [go_sem, Nat.reduceLT]) rfl rfl ?_; simp only [go_sem, jE, reduceIte, jA, jM, jS, jL, jD, jB]) | (refine qp (markEntrySS0_ac [] k (by simp) (by simp)) (by simp only [go_sem, jE, reduceIte, jA, jM, jS, jL, jD, jB]; first | done | rfl) rfl (by simp only [go_sem, Nat.reduceLT]) rfl rfl ?_; simp only [go_sem, jE, reduceIte, jA, jM, jS, jL, jD, jB]) | (refine qp (markSieveE_ac k) (by simp only [go_sem, jE, reduceIte, jA, jM, jS, jL, jD, jB]; first | done | rfl) rfl (by simp only [go_sem, Nat.reduceLT]) rfl rfl ?_; simp only [go_sem, jE, reduceIte, jA, jM, jS, jL, jD, jB]) | (refine qp (markInt0_ac k) (by simp only [go_sem, jE, reduceIte, jA, jM, jS, jL, jD, jB]; first | done | rfl) rfl (by simp only [go_sem, Nat.reduceLT]) rfl rfl ?_; simp only [go_sem, jE, reduceIte, jA, jM, jS, jL, jD, jB]))
  exact Aw_ret (ret0 (.inl rfl) (by simp only [go_sem, jE, reduceIte, jA, jM, jS, jL, jD, jB]; rfl) (by rfl) rfl)
theorem heldStoreZ_ac (k : Nat) (hk : k ≤ 1099511627776) : AC Tryz.prog 14 [stT zSto, iT k] noHp 0 ⟨.t (iT k), noHp, 0⟩ := by
  unfold zSto
  refine AC_of Tryz.func14 rfl Tryz.ntmps14 Tryz.results14 (by kernel_rfl) rfl ?_
  simp only [List.zipIdx, List.map, Nat.zero_add, Nat.reduceAdd]
  have hn := nneg k
  have hs := heldSieve0_ac k 0 hk
  repeat (first | apply Aw_seq | apply Aw_block | apply Aw_skip | apply Aw_exit | refine Aw_condt rfl ?_ | refine Aw_condf rfl ?_ | ((first | refine qr ?_ | refine qd (by kernel_rfl) (by kernel_rfl) ?_); simp only [go_sem, jE, reduceIte, jA, jM, jS, jL, jD, jB, hn]) | refine dk (by kernel_rfl) ?_ | (refine qp (heldEntry0_ac k hk) (by simp only [go_sem, jE, reduceIte, jA, jM, jS, jL, jD, jB, hn]; first | done | rfl) rfl (by simp only [go_sem, Nat.reduceLT]) rfl rfl ?_; simp only [go_sem, jE, reduceIte, jA, jM, jS, jL, jD, jB, hn]) | (refine qp (heldEntrySS0_ac [] k hk (by simp) (by simp)) (by simp only [go_sem, jE, reduceIte, jA, jM, jS, jL, jD, jB, hn]; first | done | rfl) rfl (by simp only [go_sem, Nat.reduceLT]) rfl rfl ?_; simp only [go_sem, jE, reduceIte, jA, jM, jS, jL, jD, jB, hn]) | (refine qp (hs) (by simp only [go_sem, jE, reduceIte, jA, jM, jS, jL, jD, jB, hn]; first | done | rfl) rfl (by simp only [go_sem, Nat.reduceLT]) rfl rfl ?_; simp only [go_sem, jE, reduceIte, jA, jM, jS, jL, jD, jB, hn]) | (refine qp (heldInt0_ac k hk) (by simp only [go_sem, jE, reduceIte, jA, jM, jS, jL, jD, jB, hn]; first | done | rfl) rfl (by simp only [go_sem, Nat.reduceLT]) rfl rfl ?_; simp only [go_sem, jE, reduceIte, jA, jM, jS, jL, jD, jB, hn]))
  exact Aw_ret (ret0 (.inl rfl) (by simp only [go_sem, jE, reduceIte, jA, jM, jS, jL, jD, jB]; rfl) (by rfl) rfl)
/-- The forks, one behind the other. -/
def fks (keep : Nat) : Nat → List (List ByteArray × Nat) → List (List ByteArray × Nat)
  | 0, _ => []
  | _ + 1, [] => []
  | n + 1, f :: q => f :: fks keep n (q ++ (node keep f).kids)
theorem fks_bfs (keep : Nat) : ∀ (n : Nat) (q : List (List ByteArray × Nat)), (bfs keep n q).letters = (fks keep n q).flatMap (fun f => (node keep f).letters) ∧ (bfs keep n q).more = (fks keep n q).flatMap (fun f => (node keep f).more) ∧ (bfs keep n q).first = (fks keep n q).flatMap (fun f => (node keep f).first) ∧ (bfs keep n q).rests = (fks keep n q).flatMap (fun f => (node keep f).rests)
  | 0, q => by simp [bfs, fks, zPut]
  | n + 1, [] => by simp [bfs, fks, zPut]
  | n + 1, f :: q => by
    obtain ⟨h1, h2, h3, h4⟩ := fks_bfs keep n (q ++ (node keep f).kids)
    simp only [bfs, fks, Put.add, List.flatMap_cons, h1, h2, h3, h4, and_self]
theorem fks_kids (keep : Nat) : ∀ (n : Nat) (q : List (List ByteArray × Nat)), wts q ≤ n → (∀ f ∈ q, Fork f) → fks keep n q = q ++ (fks keep n q).flatMap (fun f => (node keep f).kids)
  | 0, [], _, _ => rfl
  | 0, f :: q, h, _ => by have := wt_pos f; rw [wts_cons] at h; omega
  | n + 1, [], _, _ => rfl
  | n + 1, f :: q, h, hf => by
    have hff := hf f (by simp)
    have hk := kids_wt (keep := keep) hff.dep
    rw [wts_cons] at h
    have ih := fks_kids keep n (q ++ (node keep f).kids) (by rw [wts_app]; omega) fun g hg => by
      rcases List.mem_append.1 hg with hg | hg
      · exact hf g (List.mem_cons_of_mem _ hg)
      · exact node_fork hff g hg
    simp only [fks, List.flatMap_cons, List.cons_append, List.cons.injEq, true_and]
    conv => lhs; rw [ih]
    rw [List.append_assoc]
/-- The place of the n-th one. -/
def posOne : List UInt8 → Nat → Option Nat
  | [], _ => none
  | b :: l, n => if b = 49 then (match n with
      | 0 => some 0
      | m + 1 => (posOne l m).map (· + 1)) else (posOne l n).map (· + 1)
/-- A branch: the keys behind it, and its depth. -/
abbrev Br := List ByteArray × Nat
def brs (f : List ByteArray × Nat) : List Br := (spl f.2 f.1).map fun g => (g, f.2)
def bLet (b : Br) : UInt8 := lab (b.1.headD zs) b.2
def bMul (b : Br) : Bool := decide (1 < b.1.length)
def bMore (b : Br) : UInt8 := if bMul b = true then 49 else 48
def bCut (keep : Nat) (b : Br) : ByteArray := cutT (b.1.headD zs) b.2 keep
def bKid (b : Br) : List ByteArray × Nat := (b.1, b.2 + 1)
def bFirst : List Br → List UInt8
  | [] => []
  | _ :: r => 49 :: r.map fun _ => 48
theorem runs_all (keep d : Nat) : ∀ (m : UInt8) (gs : List (List ByteArray)), (∀ g ∈ gs, g ≠ []) →
    (runs keep d m gs).letters = (gs.map fun g => (g, d)).map bLet ∧ (runs keep d m gs).more = (gs.map fun g => (g, d)).map bMore ∧ (runs keep d m gs).first = (match gs with | [] => [] | _ :: r => m :: r.map fun _ => 48) ∧
    (runs keep d m gs).rests = ((gs.map fun g => (g, d)).filter fun b => !bMul b).map (bCut keep) ∧ (runs keep d m gs).kids = ((gs.map fun g => (g, d)).filter bMul).map bKid
  | m, [], _ => by simp [runs, zPut]
  | m, g :: gs, h => by
    obtain ⟨h1, h2, h3, h4, h5⟩ := runs_all keep d 48 gs fun x hx => h x (List.mem_cons_of_mem _ hx)
    have h3' : (runs keep d 48 gs).first = gs.map fun _ => 48 := by rw [h3]; cases gs <;> rfl
    match g, h g (by simp) with
    | [], hg => exact absurd rfl hg
    | [k], _ => simp [runs, run1, Put.add, h1, h2, h3', h4, h5, bLet, bMore, bMul, bCut]
    | k :: k2 :: r, _ => simp [runs, run1, Put.add, h1, h2, h3', h4, h5, bLet, bMore, bMul, bCut, bKid]
theorem node_all (keep : Nat) (f : List ByteArray × Nat) : (node keep f).letters = (brs f).map bLet ∧ (node keep f).more = (brs f).map bMore ∧ (node keep f).first = bFirst (brs f) ∧ (node keep f).rests = ((brs f).filter fun b => !bMul b).map (bCut keep) ∧ (node keep f).kids = ((brs f).filter bMul).map bKid := by
  obtain ⟨h1, h2, h3, h4, h5⟩ := runs_all keep f.2 49 (spl f.2 f.1) fun g hg => by
    obtain ⟨k, r, e, _⟩ := spl_ne f.2 f.1.length f.1 (Nat.le_refl _) g hg
    rw [e]; simp
  refine ⟨h1, h2, ?_, h4, h5⟩
  show (runs keep f.2 49 (spl f.2 f.1)).first = _
  rw [h3]; unfold bFirst brs
  cases spl f.2 f.1 with
  | nil => rfl
  | cons g gs => simp
/-- All branches of a key list. -/
def allF (keep : Nat) (ks : List ByteArray) : List (List ByteArray × Nat) := fks keep (wts [(ks, 0)]) [(ks, 0)]
def allB (keep : Nat) (ks : List ByteArray) : List Br := (allF keep ks).flatMap brs
theorem flatMap_map' {α β γ : Type} (g : α → List β) (h : β → γ) : ∀ F : List α, F.flatMap (fun f => (g f).map h) = (F.flatMap g).map h
  | [] => rfl
  | a :: F => by simp only [List.flatMap_cons, List.map_append, flatMap_map' g h F]
theorem flatMap_filter' {α β γ : Type} (g : α → List β) (p : β → Bool) (h : β → γ) : ∀ F : List α, F.flatMap (fun f => ((g f).filter p).map h) = ((F.flatMap g).filter p).map h
  | [] => rfl
  | a :: F => by simp only [List.flatMap_cons, List.filter_append, List.map_append, flatMap_filter' g p h F]
theorem sieve_br {keep : Nat} {ks : List ByteArray} (hf : Fork (ks, 0)) : (bfsF keep [(ks, 0)]).letters = (allB keep ks).map bLet ∧ (bfsF keep [(ks, 0)]).more = (allB keep ks).map bMore ∧ (bfsF keep [(ks, 0)]).first = (allF keep ks).flatMap (fun f => bFirst (brs f)) ∧ (bfsF keep [(ks, 0)]).rests = ((allB keep ks).filter fun b => !bMul b).map (bCut keep) ∧
    allF keep ks = (ks, 0) :: ((allB keep ks).filter bMul).map bKid := by
  obtain ⟨h1, h2, h3, h4⟩ := fks_bfs keep (wts [(ks, 0)]) [(ks, 0)]
  have h5 := fks_kids keep (wts [(ks, 0)]) [(ks, 0)] (Nat.le_refl _) (by simpa using hf)
  have e1 : ∀ f, (node keep f).letters = (brs f).map bLet := fun f => (node_all keep f).1
  have e2 : ∀ f, (node keep f).more = (brs f).map bMore := fun f => (node_all keep f).2.1
  have e3 : ∀ f, (node keep f).first = bFirst (brs f) := fun f => (node_all keep f).2.2.1
  have e4 : ∀ f, (node keep f).rests = ((brs f).filter fun b => !bMul b).map (bCut keep) := fun f => (node_all keep f).2.2.2.1
  have e5 : ∀ f, (node keep f).kids = ((brs f).filter bMul).map bKid := fun f => (node_all keep f).2.2.2.2
  simp only [e1, e2, e3, e4, e5] at h1 h2 h3 h4 h5
  unfold bfsF allB
  refine ⟨by rw [h1, flatMap_map']; rfl, by rw [h2, flatMap_map']; rfl, h3, by rw [h4, flatMap_filter']; rfl, ?_⟩
  unfold allF
  conv => lhs; rw [h5]
  rw [flatMap_filter']; rfl
theorem wn {x : Int} {m : Nat} (e : x = (m : Int)) (h : m ≤ 1099511627776) : IntKind.i64.wrap x = (m : Int) := by rw [e]; exact wrap_nat h
open Go Go.Proofs Go.Shelf
/-- A text begins with another one. -/
def begB (s h : ByteArray) : Bool := decide (h.size ≤ s.size) && decide (s.extract 0 h.size = h)
structure OneI (l : List UInt8) (R : Option Nat) where
  i : Nat
  n : Nat
  hi : i ≤ l.length
  hn : n ≤ 1000000
  h : (posOne (l.drop i) n).map (· + i) = R
theorem bFirst_len (l : List Br) : (bFirst l).length = l.length := by cases l <;> simp [bFirst]
def firstL (keep : Nat) (ks : List ByteArray) : List UInt8 := (allF keep ks).flatMap fun f => bFirst (brs f)
theorem firstL_len (keep : Nat) (ks : List ByteArray) : (firstL keep ks).length = (allB keep ks).length := by
  unfold firstL allB
  rw [List.length_flatMap, List.length_flatMap]
  congr 1
  exact List.map_congr_left fun f _ => bFirst_len _
theorem bfs_letters {keep : Nat} : ∀ (n : Nat) (q : List (List ByteArray × Nat)), (∀ f ∈ q, Fork f) → (bfs keep n q).letters.length ≤ wts q
  | 0, q, _ => by simp [bfs, zPut]
  | n + 1, [], _ => by simp [bfs, zPut]
  | n + 1, f :: q, h => by
    have hff := h f (by simp)
    have ih := bfs_letters (keep := keep) n (q ++ (node keep f).kids) fun g hg => by
      rcases List.mem_append.1 hg with hg | hg
      · exact h g (List.mem_cons_of_mem _ hg)
      · exact node_fork hff g hg
    have hb := runs_b keep f.2 hff.dep 49 (spl f.2 f.1)
    rw [spl_flat f.2 _ f.1 (Nat.le_refl _)] at hb
    have e : (node keep f).letters.length + wts (node keep f).kids ≤ f.1.length * (8 - f.2) := hb
    rw [wts_app] at ih
    rw [wts_cons]
    simp only [bfs, Put.add, List.length_append]
    unfold wt
    omega
structure SvIs (keep : Nat) (ks : List ByteArray) (s : Sve) : Prop where
  hf : Fork (ks, 0)
  hl : s.letters.data.toList = (allB keep ks).map bLet
  hm : s.more.data.toList = (allB keep ks).map bMore
  h1 : s.first.data.toList = firstL keep ks
  hr : s.rests = ((allB keep ks).filter fun b => !bMul b).map (bCut keep)
  hk : s.keep = (keep : Int)
  hb : (allB keep ks).length ≤ 400
  kp : keep ≤ 5
theorem svIs_of {ks : List ByteArray} {keep : Int} {s : Sve} (h : sieveM ks keep = some s) : SvIs keep.toNat ks s := by
  unfold sieveM at h
  by_cases c : keysOkM ks = true ∧ inB 0 keep 5 = true
  · rw [if_pos c, Option.some.injEq] at h
    subst h
    obtain ⟨hl, hf, _⟩ := ksOk_iff c.1
    obtain ⟨h1, h2, h3, h4, _⟩ := sieve_br (keep := keep.toNat) hf
    have h0 : 0 ≤ keep ∧ keep ≤ 5 := by have := c.2; unfold inB at this; simp at this; exact this
    have hb := bfs_letters (keep := keep.toNat) (wts [(ks, 0)]) [(ks, 0)] (by simpa using hf)
    refine ⟨hf, h1, h2, h3, h4, by show keep = _; omega, ?_, by omega⟩
    have e : (bfsF keep.toNat [(ks, 0)]).letters.length = (allB keep.toNat ks).length := by rw [h1, List.length_map]
    rw [← e]
    refine Nat.le_trans hb ?_
    rw [wts_one]; unfold wt; show 1 + ks.length * 8 ≤ 400; omega
  · rw [if_neg c] at h; cases h
theorem SvIs.sizes {keep : Nat} {ks : List ByteArray} {s : Sve} (h : SvIs keep ks s) : s.letters.size = (allB keep ks).length ∧ s.more.size = (allB keep ks).length ∧ s.first.size = (allB keep ks).length := by
  refine ⟨?_, ?_, ?_⟩
  · have e : s.letters.size = s.letters.data.toList.length := Array.length_toList.symm
    rw [e, h.hl, List.length_map]
  · have e : s.more.size = s.more.data.toList.length := Array.length_toList.symm
    rw [e, h.hm, List.length_map]
  · have e : s.first.size = s.first.data.toList.length := Array.length_toList.symm
    rw [e, h.h1, firstL_len]
def whole (keep : Nat) (b : Br) : Bool := decide (bLet b = 45) || decide ((bCut keep b).size < keep)
structure WayOk (way : ByteArray) (f : List ByteArray × Nat) : Prop where
  len : way.data.toList.length = f.2
  pre : ∀ k ∈ f.1, k.data.toList.take f.2 = way.data.toList
structure BrI (m : Nat) where
  a : Nat
  h1 : 1 ≤ a
  h2 : a ≤ m
def svObj (s : Sve) : Obj := ⟨82, 5, false, [[.d (.s (.string s.letters)), .d (.s (.string s.more)), .d (.s (.string s.first)), .d (.rs 1 (s.rests.map strD)), .d (.s (.int .i64 s.keep))]]⟩
@[go_sem] theorem r_svObj (s : Sve) : svObj s = ⟨82, 5, false, [[.d (.s (.string s.letters)), .d (.s (.string s.more)), .d (.s (.string s.first)), .d (.rs 1 (s.rests.map strD)), .d (.s (.int .i64 s.keep))]]⟩ := rfl
def hitB (k : ByteArray) (d : Nat) (b : Br) : Bool := decide (bLet b = lab k d)
/-- The branch to which a key leads. -/
def walkT (k : ByteArray) : Nat → List ByteArray × Nat → Option Br
  | 0, _ => none
  | n + 1, f => match (brs f).find? (hitB k f.2) with
    | none => none
    | some b => if bMul b = true then walkT k n (bKid b) else some b
def tailT (k : ByteArray) (d : Nat) : ByteArray := k.extract (min (d + 1) k.size) k.size
def fits (keep : Nat) (k : ByteArray) (b : Br) : Bool := if whole keep b = true then decide (tailT k b.2 = bCut keep b) else begB (tailT k b.2) (bCut keep b)
def hasM (keep : Nat) (ks : List ByteArray) (k : ByteArray) : Bool := match walkT k 6 (ks, 0) with
  | none => false
  | some b => fits keep k b
structure HasI (keep : Nat) (ks : List ByteArray) (k : ByteArray) (R : Option Br) where
  j : Nat
  f : List ByteArray × Nat
  n : Nat
  hj : (allF keep ks)[j]? = some f
  hd : f.2 ≤ k.size
  hn : f.2 + n = 6
  hw : walkT k n f = R
structure BrJ (k : ByteArray) (f : List ByteArray × Nat) where
  a : Nat
  h1 : a ≤ (brs f).length
  h2 : ∀ t, t < a → ∀ x, (brs f)[t]? = some x → hitB k f.2 x = false
/-- A store that is one, by its levels and sieves. -/
structure VSt (s : Sto) : Prop where
  ll : s.levels.length = 3
  sl : s.sieves.length = 3
  sv : ∀ (i : Nat) (r : List Ent) (x : Sve), s.levels[i]? = some r → s.sieves[i]? = some x → SvIs s.keep.toNat (keysM r) x ∧ sieveM (keysM r) s.keep = some x ∧ runOk r = true
  kp : 0 ≤ s.keep ∧ s.keep ≤ 5
  tl : s.times.length ≤ 3
theorem vst_of {s : Sto} (h : storeS s = true) : VSt s := by
  unfold storeS headS at h
  simp only [Bool.and_eq_true] at h
  obtain ⟨⟨⟨⟨⟨⟨⟨h1, h2⟩, h3⟩, h4⟩, h5⟩, h6⟩, h7⟩, h8⟩ := h
  have hl := of_decide_eq_true h1
  have hsl := of_decide_eq_true h2
  unfold inB at h3
  simp only [Bool.and_eq_true, decide_eq_true_eq] at h3
  refine ⟨hl, hsl, fun i r x hr hx => ?_, h3, by unfold timesM at h5; rw [Bool.and_eq_true] at h5; exact of_decide_eq_true h5.2⟩
  have := allI_iff.1 h8 i (by have := (List.getElem?_eq_some_iff.1 hr).1; omega)
  unfold sAt at this
  rw [hr, hx] at this
  simp only [Bool.and_eq_true] at this
  have hlv := this.1.1
  unfold lvM at hlv
  simp only [Bool.and_eq_true] at hlv
  obtain ⟨⟨⟨hv1, _⟩, hv3⟩, hv4⟩ := hlv
  cases hs : sieveM (keysM r) s.keep with
  | none => rw [hs] at hv3; cases hv3
  | some y =>
    rw [hs] at hv4
    have : y = x := sveEq_iff.1 hv4
    subst this
    exact ⟨svIs_of hs, rfl, hv1⟩
def findL (keep : Nat) (k : ByteArray) (t : Int) : List (List Ent) → Option Ent
  | [] => none
  | r :: rs => match (if hasM keep (keysM r) k = true then atM r k t else none) with
    | some e => some e
    | none => findL keep k t rs
structure FnI (s : Sto) (k : ByteArray) (t : Int) (R : Option Ent) where
  i : Nat
  hi : i ≤ 3
  hf : findL s.keep.toNat k t (s.levels.drop i) = R
def ksO (k : ByteArray) : Obj := ⟨9, 1, false, [[.d (.s (.string k))]]⟩
@[go_sem] theorem r_ksO (k : ByteArray) : ksO k = ⟨9, 1, false, [[.d (.s (.string k))]]⟩ := rfl
theorem storeOkI_ac (s : Sto) (hs : SmSt s) : AC Tryz.prog 65 [stT s] noHp 0 ⟨.t (bT (storeS s)), noHp, 0⟩ := by
  have k := storeOk_ac s hs
  rw [store_eq] at k
  exact k
def inO (v : Int) : Obj := ⟨3, 1, false, [[.d (.s (.int .i64 v))]]⟩
@[go_sem] theorem r_inO (v : Int) : inO v = ⟨3, 1, false, [[.d (.s (.int .i64 v))]]⟩ := rfl
@[simp] theorem flat_mk (e k : Nat) (r : Bool) (els : List (List CV)) : (⟨e, k, r, els⟩ : Obj).flat = els.all (·.all CV.flat) := rfl
@[simp] theorem flat_h (j : Nat) : CV.flat (.h j) = true := rfl
@[simp] theorem flat_s (v : Value) : CV.flat (.d (.s v)) = true := rfl
@[simp] theorem flat_tmRow (r : List Int) : (tmRow r).flat = true := by
  unfold tmRow
  rw [show r.map intD = (r.map fun n => [Value.int .i64 n]).map (·.map D.s) by rw [List.map_map]; rfl]
  exact dRow_flat _ _ _
def newG (p : Nat) (s : Sto) : Hp := updL noHp (List.range' p (gK s)) ((gOs s).map (·.map (Obj.ren (pout [] p))))
theorem pout_nil (p : Nat) : pout [] p = (p + ·) := funext fun j => q_n p j
theorem gst_upL (hp : Hp) (p : Nat) (s : Sto) : GSt (updL hp (List.range' p (gK s)) ((gOs s).map (·.map (Obj.ren (pout [] p))))) p s := fun m o hm => by
  have hl := hpL_lt hm
  rw [gOs_len] at hl
  rw [updL_get List.nodup_range' (i := m) (by rw [List.getElem?_range' hl]; simp) (by rw [List.length_map, gOs_len]; exact hl), hpL_map, hm, pout_nil]
  rfl
theorem gst_new (p : Nat) (s : Sto) : GSt (newG p s) p s := gst_upL noHp p s
theorem GSt.upd {hp : Hp} {p q : Nat} {s : Sto} {x : Option Obj} (h : GSt hp p s) (hq : q < p ∨ p + gK s ≤ q) : GSt (upd hp q x) p s := fun m o hm => by
  have hl := hpL_lt hm
  rw [gOs_len] at hl
  rw [upd_ne _ _ (by omega)]; exact h m o hm
theorem newG_cases {p m : Nat} {s : Sto} {o : Obj} (hm : newG p s m = some o) : ∃ j o', m = p + j ∧ j < gK s ∧ hpL (gOs s) j = some o' ∧ o = o'.ren (p + ·) := by
  by_cases hn : m ∈ List.range' p (gK s)
  · obtain ⟨h1, h2⟩ := List.mem_range'_1.1 hn
    obtain ⟨j, rfl⟩ : ∃ j, m = p + j := ⟨m - p, by omega⟩
    have hj : j < gK s := by omega
    unfold newG at hm
    rw [updL_get List.nodup_range' (i := j) (by rw [List.getElem?_range' hj]; simp) (by rw [List.length_map, gOs_len]; exact hj), hpL_map, pout_nil] at hm
    obtain ⟨o', h3, h4⟩ := Option.map_eq_some_iff.1 hm
    exact ⟨j, o', rfl, hj, h3, h4.symm⟩
  · unfold newG at hm
    rw [updL_not hn] at hm
    cases hm
-- states under new names: some objects, and the block behind them
def ChkB (M : List Nat) (b : Nat) (l : List (Nat × AV)) : List (Nat × AV) → Prop
  | [] => True
  | (t, v) :: r => look l t = v.ren (pin M) ∧ v.bd b = true ∧ ChkB M b l r
theorem chkB {M : List Nat} {b : Nat} (hb : b ≤ M.length) : ∀ {l l' : List (Nat × AV)}, ChkB M b l l' → ChkM M l l'
  | _, [], _ => trivial
  | _, (_, _) :: _, h => ⟨h.1, bdA_mono hb h.2.1, chkB hb h.2.2⟩
theorem selBase {hp : Hp} {p : Nat} {s : Sto} {A : List Nat} (hG : GSt hp p s) (hn : (A ++ List.range' p (gK s)).Nodup) : HpSel (A ++ List.range' p (gK s)) hp (newG A.length s) := by
  have hl : (A ++ List.range' p (gK s)).length = A.length + gK s := by simp
  have hr : ∀ j, j < gK s → pin (A ++ List.range' p (gK s)) (A.length + j) = p + j := fun j hj => by rw [pin_r rfl, pin_g hj]
  constructor
  · intro m m' o o' h1 h2 e
    obtain ⟨j, _, rfl, hj, _⟩ := newG_cases h1
    obtain ⟨j', _, rfl, hj', _⟩ := newG_cases h2
    exact pin_inj hn (by omega) (by omega) e
  · intro m o h1
    obtain ⟨j, o', rfl, hj, h2, rfl⟩ := newG_cases h1
    have hb := gOs_bd s j o' h2
    refine ⟨by omega, ?_, by rw [hl]; exact Obj.bd_ren (fun i hi => by omega) hb⟩
    rw [hr j hj, hG j o' h2, Obj.ren_cm (fun i hi => hr i hi) hb]
theorem selPut {hp hp1 : Hp} {M : List Nat} {m : Nat} {o : Obj} (h : HpSel M hp hp1) (hn : M.Nodup) (hm : m < M.length) (ho : hp (pin M m) = some (o.ren (pin M))) (hb : o.bd M.length = true) : HpSel M hp (upd hp1 m (some o)) := by
  have key : ∀ q x, upd hp1 m (some o) q = some x → q = m ∧ x = o ∨ q ≠ m ∧ hp1 q = some x := fun q x hq => by
    by_cases e : q = m
    · subst e; rw [upd_same] at hq; exact .inl ⟨rfl, (Option.some.inj hq).symm⟩
    · rw [upd_ne _ _ e] at hq; exact .inr ⟨e, hq⟩
  have hlt : ∀ q x, upd hp1 m (some o) q = some x → q < M.length := fun q x hq => by
    rcases key q x hq with ⟨rfl, _⟩ | ⟨_, h1⟩
    · exact hm
    · exact (h.obj q x h1).1
  constructor
  · intro q q' x x' h1 h2 e
    exact pin_inj hn (hlt q x h1) (hlt q' x' h2) e
  · intro q x hq
    rcases key q x hq with ⟨rfl, rfl⟩ | ⟨_, h1⟩
    · exact ⟨hm, ho, hb⟩
    · exact h.obj q x h1
def gC (p : Nat) (s : Sto) : List CV := [.h p, .h (p + 1), .h (p + (s.levels.length + 2)), .d (.s (.int .i64 s.keep)), .d (.s (.int .i64 s.time)), .h (p + (s.levels.length + s.sieves.length + 3))]
@[go_sem] theorem r_gC (p : Nat) (s : Sto) : gC p s = [.h p, .h (p + 1), .h (p + (s.levels.length + 2)), .d (.s (.int .i64 s.keep)), .d (.s (.int .i64 s.time)), .h (p + (s.levels.length + s.sieves.length + 3))] := rfl
def sO (e : Nat) (s : Sto) : Obj := ⟨e, 6, false, [[.d (.rs 4 (s.top.map entD)), .d (.rs 1 (s.levels.map lvD)), .d (.rs 5 (s.sieves.map sveD)), .d (.s (.int .i64 s.keep)), .d (.s (.int .i64 s.time)), .d (.rs 1 (s.times.map intD))]]⟩
@[go_sem] theorem r_sO (e : Nat) (s : Sto) : sO e s = ⟨e, 6, false, [[.d (.rs 4 (s.top.map entD)), .d (.rs 1 (s.levels.map lvD)), .d (.rs 5 (s.sieves.map sveD)), .d (.s (.int .i64 s.keep)), .d (.s (.int .i64 s.time)), .d (.rs 1 (s.times.map intD))]]⟩ := rfl
/-- Behind the law's own store: its argument, what the reference gave, and the store, under the first names. -/
theorem rwLaw {l l' : List (Nat × AV)} {hp : Hp} {n a b p : Nat} {s w : Sto} {e1 e2 : Nat} (hab : a < b) (hbp : b < p) (hA : hp a = some (sO e1 s)) (hB : hp b = some (sO e2 w)) (hC : hp (p + gK s) = some ⟨e2, 6, false, [gC p s]⟩) (hG : GSt hp p s) (hk : 3 + gK s ≤ 10000000)
    (h : ChkB ([a, b, p + gK s] ++ List.range' p (gK s)) 3 l l') : Rw 0 ([a, b, p + gK s] ++ List.range' p (gK s)) (S l hp n) (S l' (upd (upd (upd (newG 3 s) 0 (some (sO e1 s))) 1 (some (sO e2 w))) 2 (some ⟨e2, 6, false, [gC 3 s]⟩)) 10000000) := by
  have hl : ([a, b, p + gK s] ++ List.range' p (gK s)).length = 3 + gK s := by simp; omega
  have hn : ([a, b, p + gK s] ++ List.range' p (gK s)).Nodup := by
    rw [List.nodup_append]
    refine ⟨by simp; omega, List.nodup_range', fun x hx y hy e => ?_⟩
    have := List.mem_range'_1.1 hy
    simp at hx
    omega
  have hr : ∀ j, j < gK s → pin ([a, b, p + gK s] ++ List.range' p (gK s)) (3 + j) = p + j := fun j hj => by rw [pin_r (a := [a, b, p + gK s]) (n := 3) rfl, pin_g hj]
  have hK : gK s = s.levels.length + s.sieves.length + 4 := rfl
  refine rwM (chkB (by omega) h) (selPut (selPut (selPut (selBase hG hn) hn (by omega) hA ?_) hn (by omega) hB ?_) hn (by omega) ?_ ?_) (by omega) fun m hm => absurd hm (by omega)
  · rfl
  · rfl
  · have : (⟨e2, 6, false, [gC 3 s]⟩ : Obj).ren (pin ([a, b, p + gK s] ++ List.range' p (gK s))) = ⟨e2, 6, false, [gC p s]⟩ := by
      simp only [Obj.ren, gC, List.map, CV.ren]
      rw [hr 1 (by omega), hr (s.levels.length + 2) (by omega), hr (s.levels.length + s.sieves.length + 3) (by omega), show pin ([a, b, p + gK s] ++ List.range' p (gK s)) 3 = p from hr 0 (by omega)]
    rw [this]; exact hC
  · rw [hl]
    simp only [Obj.bd, gC, List.all_cons, List.all_nil, CV.bd, Bool.and_eq_true, decide_eq_true_eq, Bool.and_true]
    refine ⟨?_, ?_, ?_, ?_, ?_, ?_⟩ <;> first | omega | trivial
theorem some_one {o : Obj} {j : Nat} (h : j < [some o].length) : ∃ q, [some o][j]? = some (some q) := by
  obtain rfl : j = 0 := by simp at h; exact h
  exact ⟨o, rfl⟩
theorem some_app {a b : List (Option Obj)} (h1 : ∀ j, j < a.length → ∃ q, a[j]? = some (some q)) (h2 : ∀ j, j < b.length → ∃ q, b[j]? = some (some q)) : ∀ j, j < (a ++ b).length → ∃ q, (a ++ b)[j]? = some (some q) := fun j hj => by
  rcases Nat.lt_or_ge j a.length with c | c
  · rw [List.getElem?_append_left c]; exact h1 j c
  · rw [List.getElem?_append_right c]; exact h2 _ (by rw [List.length_append] at hj; omega)
theorem some_sh {b : Nat} {a : List (Option Obj)} (h1 : ∀ j, j < a.length → ∃ q, a[j]? = some (some q)) : ∀ j, j < (shO b a).length → ∃ q, (shO b a)[j]? = some (some q) := fun j hj => by
  rw [shO_len] at hj
  obtain ⟨q, hq⟩ := h1 j hj
  exact ⟨q.ren (b + ·), by simp [shO, hq]⟩
theorem gOs_all (s : Sto) : ∀ j, j < (gOs s).length → ∃ q, (gOs s)[j]? = some (some q) :=
  some_app (some_app (some_app (fun _ h => some_one h) (some_sh fun j hj => by obtain ⟨o, h, _⟩ := lvF_blk s.levels j hj; exact ⟨o, h⟩)) (some_sh fun j hj => by obtain ⟨o, h, _⟩ := svF_blk s.sieves j hj; exact ⟨o, h⟩)) (fun _ h => some_one h)
theorem blk_gs {hp : Hp} {p : Nat} {s : Sto} (h : GSt hp p s) : BlkO hp p (gOs s) := fun j hj => by
  obtain ⟨o, ho⟩ := gOs_all s j hj
  have hm : hpL (gOs s) j = some o := by simp [hpL, ho]
  refine ⟨o, ho, h j o hm, ?_⟩
  rw [gOs_len]; exact gOs_bd s j o hm
theorem arg_gN {hp : Hp} {p : Nat} {s : Sto} {L : List Nat} : Arg hp (List.range' p (gK s)) L (gT p s) (gT 0 s) := by
  have hb : (gT 0 s).bd (List.range' p (gK s)).length = true := by
    rw [List.length_range']
    simp only [gT, TV.bd, List.all_cons, List.all_nil, CV.bd, gK]
    simp only [Bool.and_eq_true, decide_eq_true_eq, Bool.and_true]
    refine ⟨?_, ?_, ?_, ?_, ?_, ?_⟩ <;> first | omega | trivial
  have := Arg.nm (hp := hp) (N := List.range' p (gK s)) (L := L) hb
  rw [show (gT 0 s).ren (pin (List.range' p (gK s))) = gT p s by
    have e := fun j (h : j < gK s) => pin_g (p := p) h
    unfold gK at e
    simp only [gT, TV.ren, List.map, CV.ren, gK]
    rw [e 0 (by omega), e (0 + 1) (by omega), e (0 + (s.levels.length + 2)) (by omega), e (0 + (s.levels.length + s.sieves.length + 3)) (by omega)]
    simp only [Nat.zero_add, Nat.add_zero]] at this
  exact this
-- the store of three levels, told cell by cell
theorem arg_oT {hp : Hp} {N' L : List Nat} {p0 p1 p2 p3 pa pb pc px py pz : Nat} {top a b c : List Ent} {x y z : Sve} {keep time : Int} {ts : List Int}
    (h0 : hp p0 = some (eRow top)) (h1 : hp p1 = some ⟨29, 1, true, [[.h pa], [.h pb], [.h pc]]⟩) (h2 : hp p2 = some ⟨82, 5, true, [svN x px, svN y py, svN z pz]⟩) (h3 : hp p3 = some (tmRow ts))
    (ha : hp pa = some (eRow a)) (hb : hp pb = some (eRow b)) (hc : hp pc = some (eRow c)) (hx : hp px = some (kRow x.rests)) (hy : hp py = some (kRow y.rests)) (hz : hp pz = some (kRow z.rests))
    (hL : [p0, p1, p2, p3, pa, pb, pc, px, py, pz].all L.contains = true) :
    Arg hp N' L (.agg [.h p0, .h p1, .h p2, .d (.s (.int .i64 keep)), .d (.s (.int .i64 time)), .h p3]) (stT ⟨top, [a, b, c], [x, y, z], keep, time, ts⟩) := by
  have e1 : lendC hp 3 (.h p1) = some (.rs 1 [lvD a, lvD b, lvD c]) := by
    show (match hp p1 with | some o => _ | none => none) = _
    rw [h1]
    show (List.mapM (fun cs : List CV => cs.mapM (lendC hp 2)) [[.h pa], [.h pb], [.h pc]]).map (D.rs 1) = _
    simp only [List.mapM_cons, List.mapM_nil, lend_dRow ha, lend_dRow hb, lend_dRow hc]
    rfl
  have e2 : lendC hp 3 (.h p2) = some (.rs 5 [sveD x, sveD y, sveD z]) := by
    show (match hp p2 with | some o => _ | none => none) = _
    rw [h2]
    show (List.mapM (fun cs : List CV => cs.mapM (lendC hp 2)) [svN x px, svN y py, svN z pz]).map (D.rs 5) = _
    simp only [svN, List.mapM_cons, List.mapM_nil, lend_dRow hx, lend_dRow hy, lend_dRow hz]
    rfl
  simp only [List.all_cons, List.all_nil, Bool.and_true, Bool.and_eq_true, List.contains_iff_mem] at hL
  obtain ⟨q0, q1, q2, q3, qa, qb, qc, qx, qy, qz⟩ := hL
  refine .ln (n := 3) ?_ fun w hw m hm => ?_
  · simp only [TV.lend, List.mapM_cons, List.mapM_nil, lend_dRow h0, e1, e2, lend_dRow h3]
    rfl
  · have hd : ∀ (i : Int) (n : Nat), lendN hp n (.d (.s (.int .i64 i))) = [] := fun i n => by cases n <;> rfl
    have hdS : ∀ (i : ByteArray) (n : Nat), lendN hp n (.d (.s (.string i))) = [] := fun i n => by cases n <;> rfl
    simp only [TV.cells, List.mem_cons, List.not_mem_nil, or_false] at hw
    rcases hw with rfl | rfl | rfl | rfl | rfl | rfl
    · rw [lendN_dRow h0 2 m hm]; exact q0
    · have e : lendN hp 3 (.h p1) = p1 :: ([[CV.h pa], [.h pb], [.h pc]].flatMap fun cs => cs.flatMap (lendN hp 2)) := by
        show (match hp p1 with | some o => _ | none => []) = _
        rw [h1]
      rw [e] at hm
      simp only [List.flatMap_cons, List.flatMap_nil, List.append_nil, List.mem_cons, List.mem_append] at hm
      rcases hm with rfl | hm | hm | hm
      · exact q1
      · rw [lendN_dRow ha 1 m hm]; exact qa
      · rw [lendN_dRow hb 1 m hm]; exact qb
      · rw [lendN_dRow hc 1 m hm]; exact qc
    · have e : lendN hp 3 (.h p2) = p2 :: ([svN x px, svN y py, svN z pz].flatMap fun cs => cs.flatMap (lendN hp 2)) := by
        show (match hp p2 with | some o => _ | none => []) = _
        rw [h2]
      rw [e] at hm
      simp only [svN, List.flatMap_cons, List.flatMap_nil, List.append_nil, List.nil_append, List.mem_cons, List.mem_append, hd, hdS] at hm
      rcases hm with rfl | hm | hm | hm
      · exact q2
      · rw [lendN_dRow hx 1 m hm]; exact qx
      · rw [lendN_dRow hy 1 m hm]; exact qy
      · rw [lendN_dRow hz 1 m hm]; exact qz
    · rw [hd] at hm; cases hm
    · rw [hd] at hm; cases hm
    · rw [lendN_dRow h3 2 m hm]; exact q3
theorem wS_cons {α : Type} (f : α → Nat) (x : α) (l : List α) : wS f (x :: l) = f x + wS f l + 1 := by unfold wS; simp; omega
theorem kR_w : ∀ (l : List (List Ent)) (q : Nat), kR q l ≤ q + 4 * wS wRun l
  | [], q => by simp [kR]
  | x :: l, q => by
    have h := kR_w l (q + 4 * x.length)
    have h1 : x.length ≤ wRun x := wS_len (f := wEnt) (xs := x)
    have e := wS_cons wRun x l
    show kR (q + 4 * x.length) l ≤ _
    omega
theorem kS_w : ∀ (l : List Sve) (q : Nat), kS q l ≤ q + 4 * wS wSve l
  | [], q => by simp [kS]
  | x :: l, q => by
    have h := kS_w l (q + 4 + x.rests.length)
    have h1 : x.rests.length ≤ wS ByteArray.size x.rests := wS_len
    have h2 : wS ByteArray.size x.rests ≤ wSve x := by unfold wSve; omega
    have e := wS_cons wSve x l
    show kS (q + 4 + x.rests.length) l ≤ _
    omega
theorem cntS_le {s : Sto} (h : wSto s ≤ 1048576) : cntS 1 s ≤ 1099511627776 := by
  unfold wSto at h
  unfold cntS
  have h1 : s.top.length ≤ wRun s.top := wS_len (f := wEnt) (xs := s.top)
  have h2 := kR_w s.levels (1 + 4 * s.top.length)
  have h3 := kS_w s.sieves (kR (1 + 4 * s.top.length) s.levels)
  omega
-- a store of none
theorem eqStoreA_ac : AC Tryz.prog 12 [zA, stT zSto] noHp 0 ⟨.t (bT true), noHp, 0⟩ :=
  AC.nilL (eqStore_ac zSto zSto_far) (.cons (.cons (NilC.nil _) (.cons (NilC.nil _) (.cons (NilC.nil _) (.cons (.inl rfl) (.cons (.inl rfl) (.cons (NilC.nil _) .nil)))))) (.cons (NilT.refl _) .nil))
theorem markStoreA_ac (k : Nat) : AC Tryz.prog 13 [zA, iT k] noHp 0 ⟨.t (iT k), noHp, 0⟩ :=
  AC.nilL (markStoreZ_ac k) (.cons (.cons (NilC.nil _) (.cons (NilC.nil _) (.cons (NilC.nil _) (.cons (.inl rfl) (.cons (.inl rfl) (.cons (NilC.nil _) .nil)))))) (.cons (NilT.refl _) .nil))
theorem heldStoreA_ac (k : Nat) (hk : k ≤ 1099511627776) : AC Tryz.prog 14 [zA, iT k] noHp 0 ⟨.t (iT k), noHp, 0⟩ :=
  AC.nilL (heldStoreZ_ac k hk) (.cons (.cons (NilC.nil _) (.cons (NilC.nil _) (.cons (NilC.nil _) (.cons (.inl rfl) (.cons (.inl rfl) (.cons (NilC.nil _) .nil)))))) (.cons (NilT.refl _) .nil))
end Go.Proofs.YtimkdclalajadaaGreat.Ab
