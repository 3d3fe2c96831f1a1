/-
  Contracts: what is found in a store, and how many sieves may have a key, the program's. No condition.
  Contracts: what a store has of a key, how many sieves may have it, the program's. No condition.
  Contracts: what is put, what is taken away, the top that goes down, the program's. No condition.
  Contract: numbers that are struck out of a row. No condition.
  Contract: the top that goes down, the program's. No condition.
  Contract: the time that is held, the program's. No condition.
  Contract: the present time that is held, the program's. No condition.
  Contract: a held time that is let go, the program's. No condition.
  Contract: a level that is pushed into the next one, the program's. No condition.
  Contracts: what deeds write, the reference's. No condition.
  Contracts: deeds, one behind the other, the program's. No condition.
  Contract: deeds, one behind the other, that leave a store of its own, the reference's. No condition.
-/
import Derived.Test.YtjolcfkepcmjnaaGreatZe
import Derived.Test.YtjolcfkepcmjnaaGreatZc
import Derived.Shelf.SlicesE.DeleteFunc
import Derived.Ground.SlgfProg
import Derived.Lib.OwnBridge
import Derived.Lib.RowBridge
import Derived.Sort.OwnSorted
namespace Go.Proofs.YtjolcfkepcmjnaaGreat.Ab
open Nat renaming reduceEqDiff → jE, reduceAdd → jA, reduceMul → jM, reduceSub → jS, reduceLT → jL, reduceLeDiff → jD, reduceBEq → jB
set_option linter.deprecated false
set_option linter.unusedVariables false
set_option linter.unusedSimpArgs false
open Go Go.Proofs
set_option maxRecDepth 10000
set_option maxHeartbeats 8000000
structure VSt (s : Sto) : Prop where
  ll : s.levels.length = 3
  sl : s.sieves.length = 3
  sv : ∀ (i : Nat) (r : List Ent) (x : Sve), s.levels[i]? = some r → s.sieves[i]? = some x → SvIs s.keep.toNat (keysM r) x ∧ sieveM (keysM r) s.keep = some x ∧ runOk r = true
  kp : 0 ≤ s.keep ∧ s.keep ≤ 5
  tl : s.times.length ≤ 3
def findL (keep : Nat) (k : ByteArray) (t : Int) : List (List Ent) → Option Ent
  | [] => none
  | r :: rs => match (if hasM keep (keysM r) k = true then atM r k t else none) with
    | some e => some e
    | none => findL keep k t rs
structure FnI (s : Sto) (k : ByteArray) (t : Int) (R : Option Ent) where
  i : Nat
  hi : i ≤ 3
  hf : findL s.keep.toNat k t (s.levels.drop i) = R
def idxI (ts : List Int) (t : Int) : Int := match ts.findIdx? (fun x => decide (t = x)) with
  | some i => (i : Int)
  | none => -1
theorem index_ac (ts : List Int) (t : Int) (hl : ts.length ≤ 1000) : AC Tryz.prog 151 [intsT ts, iT t] noHp 0 ⟨.t (iT (idxI ts t)), noHp, 0⟩ := by
  refine AC_of Tryz.func151 rfl Tryz.ntmps151 Tryz.results151 (by kernel_rfl) rfl ?_
  simp only [List.zipIdx, List.map, Nat.zero_add, Nat.reduceAdd]
  repeat (first | apply Aw_seq | apply Aw_block | apply Aw_skip | apply Aw_exit | refine Aw_condt rfl ?_ | refine Aw_condf rfl ?_ | ((first | refine qr ?_ | refine qd (by kernel_rfl) (by kernel_rfl) ?_); simp only [go_sem, jE, reduceIte, jA, jM, jS, jL, jD, jB]) | refine dk (by kernel_rfl) ?_)
  refine Aw.rw (rwL (l' := [(8, .t (iT (0 : Nat))), (7, .t (iT ts.length)), (0, .t (intsT ts)), (1, .t (iT t))]) (os := []) (M := []) (n' := 0) (by repeat (first | exact trivial | refine ⟨rfl, rfl, ?_⟩)) (by rfl) (by simp only [go_sem, jE, reduceIte, jA, jM, jS, jL, jD, jB]; first | done | rfl) (by decide) (by unfold idM; decide)) ?_
  refine Aw_loop_rw (ι := { j : Nat // j ≤ ts.length ∧ ∀ q, q < j → ∀ y, ts[q]? = some y → decide (t = y) = false }) (fun q => S [(8, .t (iT (q.1 : Nat))), (7, .t (iT ts.length)), (0, .t (intsT ts)), (1, .t (iT t))] (hpL []) 0) (fun q => ts.length - q.1) ⟨0, Nat.zero_le _, fun j hj => absurd hj (by omega)⟩ ?_
  rintro ⟨j, hj, hq⟩
  dsimp only
  by_cases hjl : j < ts.length
  · have g1 : decide ((j : Int) < (ts.length : Int)) = true := decide_eq_true (by omega)
    have g2 := wrap_succ hjl (by omega)
    obtain ⟨y, hy⟩ : ∃ e, ts[j]? = some e := ⟨_, List.getElem?_eq_getElem hjl⟩
    cases c1 : decide (t = y)
    · have nx : ∀ q, q < j + 1 → ∀ z, ts[q]? = some z → decide (t = z) = false := fun q hqj z hz => by
        rcases Nat.lt_succ_iff_lt_or_eq.1 hqj with h | rfl
        · exact hq q h z hz
        · rw [hy] at hz; rw [← Option.some.inj hz]; exact c1
      repeat (first | apply Aw_seq | apply Aw_block | apply Aw_skip | apply Aw_exit | refine Aw_condt rfl ?_ | refine Aw_condf rfl ?_ | ((first | refine qr ?_ | refine qd (by kernel_rfl) (by kernel_rfl) ?_); simp only [go_sem, jE, reduceIte, jA, jM, jS, jL, jD, jB, g1, hy, g2, c1]) | refine dk (by kernel_rfl) ?_)
      refine ⟨⟨j + 1, by omega, nx⟩, [], ?_, rwL (by repeat (first | exact trivial | refine ⟨rfl, rfl, ?_⟩)) (by rfl) (by simp only [go_sem, jE, reduceIte, jA, jM, jS, jL, jD, jB]; first | done | rfl) (by decide) (by unfold idM; decide)⟩
      show ts.length - (j + 1) < ts.length - j; omega
    · have e : idxI ts t = (j : Nat) := by
        have : ts.findIdx? (fun x => decide (t = x)) = some j := by
          rw [List.findIdx?_eq_some_iff_getElem]
          refine ⟨hjl, ?_, fun q hqj => ?_⟩
          · rw [List.getElem?_eq_getElem hjl] at hy; rw [Option.some.inj hy]; exact c1
          · have := hq q hqj _ (List.getElem?_eq_getElem (by omega)); simp only [this]; decide
        unfold idxI; rw [this]
      rw [e]
      repeat (first | apply Aw_seq | apply Aw_block | apply Aw_skip | apply Aw_exit | refine Aw_condt rfl ?_ | refine Aw_condf rfl ?_ | ((first | refine qr ?_ | refine qd (by kernel_rfl) (by kernel_rfl) ?_); simp only [go_sem, jE, reduceIte, jA, jM, jS, jL, jD, jB, g1, hy, g2, c1]) | refine dk (by kernel_rfl) ?_)
      exact Aw_ret (ret0 (.inl rfl) (by simp only [go_sem, jE, reduceIte, jA, jM, jS, jL, jD, jB]; rfl) (by rfl) rfl)
  · have g1 : decide ((j : Int) < (ts.length : Int)) = false := decide_eq_false (by omega)
    have e : idxI ts t = -1 := by
      have : ts.findIdx? (fun x => decide (t = x)) = none := by
        rw [List.findIdx?_eq_none_iff]
        intro x hx
        obtain ⟨i, hi⟩ := List.mem_iff_getElem?.1 hx
        exact hq i (by have := (List.getElem?_eq_some_iff.1 hi).1; omega) x hi
      unfold idxI; rw [this]
    rw [e]
    repeat (first | apply Aw_seq | apply Aw_block | apply Aw_skip | apply Aw_exit | refine Aw_condt rfl ?_ | refine Aw_condf rfl ?_ | ((first | refine qr ?_ | refine qd (by kernel_rfl) (by kernel_rfl) ?_); simp only [go_sem, jE, reduceIte, jA, jM, jS, jL, jD, jB, g1]) | refine dk (by kernel_rfl) ?_)
    exact Aw_ret (ret0 (.inl rfl) (by simp only [go_sem, jE, reduceIte, jA, jM, jS, jL, jD, jB]; rfl) (by rfl) rfl)
theorem contains_ac (ts : List Int) (t : Int) (hl : ts.length ≤ 1000) : AC Tryz.prog 104 [intsT ts, iT t] noHp 0 ⟨.t (bT (ts.any fun x => decide (t = x))), noHp, 0⟩ := by
  have k := index_ac ts t hl
  have e : decide ((0 : Int) ≤ idxI ts t) = ts.any fun x => decide (t = x) := by
    unfold idxI
    cases h : ts.findIdx? (fun x => decide (t = x)) with
    | none =>
      rw [List.findIdx?_eq_none_iff] at h
      rw [show ts.any (fun x => decide (t = x)) = false from List.any_eq_false.2 fun x hx => by rw [h x hx]; simp]; rfl
    | some i =>
      rw [List.findIdx?_eq_some_iff_getElem] at h
      obtain ⟨h1, h2, _⟩ := h
      rw [show ts.any (fun x => decide (t = x)) = true from List.any_eq_true.2 ⟨_, List.getElem_mem h1, h2⟩]
      exact decide_eq_true (Int.natCast_nonneg i)
  rw [← e]
  refine AC_of Tryz.func104 rfl Tryz.ntmps104 Tryz.results104 (by kernel_rfl) rfl ?_
  simp only [List.zipIdx, List.map, Nat.zero_add, Nat.reduceAdd]
  repeat (first | apply Aw_seq | apply Aw_block | apply Aw_skip | apply Aw_exit | refine Aw_condt rfl ?_ | refine Aw_condf rfl ?_ | ((first | refine qr ?_ | refine qd (by kernel_rfl) (by kernel_rfl) ?_); simp only [go_sem, jE, reduceIte, jA, jM, jS, jL, jD, jB]) | refine dk (by kernel_rfl) ?_ | (refine qp (k) (by simp only [go_sem, jE, reduceIte, jA, jM, jS, jL, jD, jB]; first | done | rfl) rfl (by simp only [go_sem, Nat.reduceLT]) rfl rfl ?_; simp only [go_sem, jE, reduceIte, jA, jM, jS, jL, jD, jB]))
  exact Aw_ret (ret0 (.inl rfl) (by simp only [go_sem, jE, reduceIte, jA, jM, jS, jL, jD, jB]; rfl) (by rfl) rfl)
def ksO (k : ByteArray) : Obj := ⟨9, 1, false, [[.d (.s (.string k))]]⟩
@[go_sem] theorem r_ksO (k : ByteArray) : ksO k = ⟨9, 1, false, [[.d (.s (.string k))]]⟩ := rfl
theorem storeOkI_ac (s : Sto) (hs : SmSt s) : AC Tryz.prog 25 [stT s] noHp 0 ⟨.t (bT (storeS s)), noHp, 0⟩ := by
  have k := storeOk_ac s hs
  rw [store_eq] at k
  exact k
def inO (v : Int) : Obj := ⟨3, 1, false, [[.d (.s (.int .i64 v))]]⟩
@[go_sem] theorem r_inO (v : Int) : inO v = ⟨3, 1, false, [[.d (.s (.int .i64 v))]]⟩ := rfl
@[simp] theorem flat_mk (e k : Nat) (r : Bool) (els : List (List CV)) : (⟨e, k, r, els⟩ : Obj).flat = els.all (·.all CV.flat) := rfl
@[simp] theorem flat_h (j : Nat) : CV.flat (.h j) = true := rfl
@[simp] theorem flat_s (v : Value) : CV.flat (.d (.s v)) = true := rfl
@[simp] theorem flat_tmRow (r : List Int) : (tmRow r).flat = true := by
  unfold tmRow
  rw [show r.map intD = (r.map fun n => [Value.int .i64 n]).map (·.map D.s) by rw [List.map_map]; rfl]
  exact dRow_flat _ _ _
theorem nx_eq {s : Sto} (hv : storeS s = true) (k : ByteArray) (v : Int) (g : Bool) : nxE s ⟨k, v, g, 0⟩ = ⟨k, v, g, nextT s⟩ := by
  obtain ⟨_, _, _, _, _, h6, _⟩ := storeS_facts hv
  unfold inB at h6
  rw [Bool.and_eq_true] at h6
  have t0 := of_decide_eq_true h6.1; have t1 := of_decide_eq_true h6.2
  unfold nxE nextT
  rw [wrap_in (by omega) (by omega)]
theorem downM_sm {s s' : Sto} (hs : SmSt s) (hv : storeS s = true) (h : downM s = some s') : SmH s' := by
  obtain ⟨_, _, h3, _⟩ := storeS_facts hv
  have sm := valid_sm hs hv
  exact (intoM_sm 2 (s := noTop s) (i := 0) rfl ⟨sm.ll, sm.sl, sm.lev, sm.tl⟩ hs.top (by omega) h).1
theorem addM_smH {s s' : Sto} {e : Ent} (hs : SmSt s) (h : addM s e = some s') : SmH s' ∧ s'.top.length ≤ 5 := by
  unfold addM at h
  split at h
  · rename_i hc
    rw [Bool.and_eq_true] at hc
    obtain ⟨_, _, h3, _⟩ := storeS_facts hc.1
    have sm := valid_sm hs hc.1
    split at h
    · obtain ⟨x, hx, rfl⟩ := Option.map_eq_some_iff.1 h
      have g := downM_sm hs hc.1 hx
      have gt := (downM_st hs hc.1 hx).2
      exact ⟨⟨g.ll, g.sl, g.lev, g.tl⟩, by show (joinM [e] x.top).length ≤ 5; rw [joinM_len, gt]; simp⟩
    · obtain rfl := Option.some.inj h
      exact ⟨⟨sm.ll, sm.sl, sm.lev, sm.tl⟩, by show (joinM [e] s.top).length ≤ 5; rw [joinM_len]; simp; omega⟩
  · cases h
theorem cloPut_ok (s s' : Sto) (k : ByteArray) (v : Int) (hs : SmSt s) (hv : storeS s = true) (hk : smK k) (h : putM s k v = some s') : AC Tryz.prog 39 [.c (.ph 0 0 0), .c (.ph 3 0 0), .c (.ph 4 0 0)] (hpL [some (pO s), some (lvRow s.levels), some (svRow s.sieves), some (ksO k), some (inO v)]) 5 ⟨.t (bT true), hpL [some (pO s'), some (lvRow s'.levels), some (svRow s'.sieves), some (ksO k), some (inO v)], 5⟩ := by
  have k := write_ok s s' ⟨k, v, false, 0⟩ hs hv hk (by rw [nx_eq hv]; exact h)
  refine AC_of Tryz.func39 rfl Tryz.ntmps39 Tryz.results39 (by kernel_rfl) rfl ?_
  simp only [List.zipIdx, List.map, Nat.zero_add, Nat.reduceAdd]
  repeat (first | apply Aw_seq | apply Aw_block | apply Aw_skip | apply Aw_exit | refine Aw_condt rfl ?_ | refine Aw_condf rfl ?_ | ((first | refine qr ?_ | refine qd (by kernel_rfl) (by kernel_rfl) ?_); simp only [go_sem, jE, reduceIte, jA, jM, jS, jL, jD, jB]) | refine dk (by kernel_rfl) ?_ | (refine qx (call_L (N' := [0, 1, 2]) (L := []) (k) rfl (.cons (.nm rfl) (.cons (.nm rfl) (.nil))) (by decide) (by decide) (by decide) (by simp only [go_sem, jE, reduceIte, jA, jM, jS, jL, jD, jB]; first | done | rfl) (.inl rfl) rfl (by decide)) (by simp only [go_sem, jE, reduceIte, jA, jM, jS, jL, jD, jB]; first | done | rfl) rfl (by simp only [go_sem, Nat.reduceLT]) ?_; simp only [go_sem, jE, reduceIte, jA, jM, jS, jL, jD, jB]))
  exact Aw_ret (retL (M := [0, 1, 2, 3, 4]) (.inl rfl) (by simp only [go_sem, jE, reduceIte, jA, jM, jS, jL, jD, jB]; first | done | rfl) rfl rfl (by rfl) (by simp only [go_sem, jE, reduceIte, jA, jM, jS, jL, jD, jB]; first | done | rfl | (and_intros <;> rfl)) (by decide) (by unfold idM; decide))
theorem cloPut_no (s : Sto) (k : ByteArray) (v : Int) (hs : SmSt s) (hv : storeS s = true) (hk : smK k) (h : putM s k v = none) : AC Tryz.prog 39 [.c (.ph 0 0 0), .c (.ph 3 0 0), .c (.ph 4 0 0)] (hpL [some (pO s), some (lvRow s.levels), some (svRow s.sieves), some (ksO k), some (inO v)]) 5 ⟨.t (bT false), hpL [none, none, none, none, none], 5⟩ := by
  have k := write_no s ⟨k, v, false, 0⟩ hs hv hk (by rw [nx_eq hv]; exact h)
  refine AC_of Tryz.func39 rfl Tryz.ntmps39 Tryz.results39 (by kernel_rfl) rfl ?_
  simp only [List.zipIdx, List.map, Nat.zero_add, Nat.reduceAdd]
  repeat (first | apply Aw_seq | apply Aw_block | apply Aw_skip | apply Aw_exit | refine Aw_condt rfl ?_ | refine Aw_condf rfl ?_ | ((first | refine qr ?_ | refine qd (by kernel_rfl) (by kernel_rfl) ?_); simp only [go_sem, jE, reduceIte, jA, jM, jS, jL, jD, jB]) | refine dk (by kernel_rfl) ?_ | (refine qx (call_L (N' := [0, 1, 2]) (L := []) (k) rfl (.cons (.nm rfl) (.cons (.nm rfl) (.nil))) (by decide) (by decide) (by decide) (by simp only [go_sem, jE, reduceIte, jA, jM, jS, jL, jD, jB]; first | done | rfl) (.inl rfl) rfl (by decide)) (by simp only [go_sem, jE, reduceIte, jA, jM, jS, jL, jD, jB]; first | done | rfl) rfl (by simp only [go_sem, Nat.reduceLT]) ?_; simp only [go_sem, jE, reduceIte, jA, jM, jS, jL, jD, jB]))
  exact Aw_ret (retL (M := [0, 1, 2, 3, 4]) (.inl rfl) (by simp only [go_sem, jE, reduceIte, jA, jM, jS, jL, jD, jB]; first | done | rfl) rfl rfl (by rfl) (by simp only [go_sem, jE, reduceIte, jA, jM, jS, jL, jD, jB]; first | done | rfl | (and_intros <;> rfl)) (by decide) (by unfold idM; decide))
theorem cloTake_ok (s s' : Sto) (k : ByteArray) (hs : SmSt s) (hv : storeS s = true) (hk : smK k) (h : takeM s k = some s') : AC Tryz.prog 48 [.c (.ph 0 0 0), .c (.ph 3 0 0)] (hpL [some (pO s), some (lvRow s.levels), some (svRow s.sieves), some (ksO k)]) 4 ⟨.t (bT true), hpL [some (pO s'), some (lvRow s'.levels), some (svRow s'.sieves), some (ksO k)], 4⟩ := by
  have k := write_ok s s' ⟨k, 0, true, 0⟩ hs hv hk (by rw [nx_eq hv]; exact h)
  refine AC_of Tryz.func48 rfl Tryz.ntmps48 Tryz.results48 (by kernel_rfl) rfl ?_
  simp only [List.zipIdx, List.map, Nat.zero_add, Nat.reduceAdd]
  repeat (first | apply Aw_seq | apply Aw_block | apply Aw_skip | apply Aw_exit | refine Aw_condt rfl ?_ | refine Aw_condf rfl ?_ | ((first | refine qr ?_ | refine qd (by kernel_rfl) (by kernel_rfl) ?_); simp only [go_sem, jE, reduceIte, jA, jM, jS, jL, jD, jB]) | refine dk (by kernel_rfl) ?_ | (refine qx (call_L (N' := [0, 1, 2]) (L := []) (k) rfl (.cons (.nm rfl) (.cons (.nm rfl) (.nil))) (by decide) (by decide) (by decide) (by simp only [go_sem, jE, reduceIte, jA, jM, jS, jL, jD, jB]; first | done | rfl) (.inl rfl) rfl (by decide)) (by simp only [go_sem, jE, reduceIte, jA, jM, jS, jL, jD, jB]; first | done | rfl) rfl (by simp only [go_sem, Nat.reduceLT]) ?_; simp only [go_sem, jE, reduceIte, jA, jM, jS, jL, jD, jB]))
  exact Aw_ret (retL (M := [0, 1, 2, 3]) (.inl rfl) (by simp only [go_sem, jE, reduceIte, jA, jM, jS, jL, jD, jB]; first | done | rfl) rfl rfl (by rfl) (by simp only [go_sem, jE, reduceIte, jA, jM, jS, jL, jD, jB]; first | done | rfl | (and_intros <;> rfl)) (by decide) (by unfold idM; decide))
theorem cloTake_no (s : Sto) (k : ByteArray) (hs : SmSt s) (hv : storeS s = true) (hk : smK k) (h : takeM s k = none) : AC Tryz.prog 48 [.c (.ph 0 0 0), .c (.ph 3 0 0)] (hpL [some (pO s), some (lvRow s.levels), some (svRow s.sieves), some (ksO k)]) 4 ⟨.t (bT false), hpL [none, none, none, none], 4⟩ := by
  have k := write_no s ⟨k, 0, true, 0⟩ hs hv hk (by rw [nx_eq hv]; exact h)
  refine AC_of Tryz.func48 rfl Tryz.ntmps48 Tryz.results48 (by kernel_rfl) rfl ?_
  simp only [List.zipIdx, List.map, Nat.zero_add, Nat.reduceAdd]
  repeat (first | apply Aw_seq | apply Aw_block | apply Aw_skip | apply Aw_exit | refine Aw_condt rfl ?_ | refine Aw_condf rfl ?_ | ((first | refine qr ?_ | refine qd (by kernel_rfl) (by kernel_rfl) ?_); simp only [go_sem, jE, reduceIte, jA, jM, jS, jL, jD, jB]) | refine dk (by kernel_rfl) ?_ | (refine qx (call_L (N' := [0, 1, 2]) (L := []) (k) rfl (.cons (.nm rfl) (.cons (.nm rfl) (.nil))) (by decide) (by decide) (by decide) (by simp only [go_sem, jE, reduceIte, jA, jM, jS, jL, jD, jB]; first | done | rfl) (.inl rfl) rfl (by decide)) (by simp only [go_sem, jE, reduceIte, jA, jM, jS, jL, jD, jB]; first | done | rfl) rfl (by simp only [go_sem, Nat.reduceLT]) ?_; simp only [go_sem, jE, reduceIte, jA, jM, jS, jL, jD, jB]))
  exact Aw_ret (retL (M := [0, 1, 2, 3]) (.inl rfl) (by simp only [go_sem, jE, reduceIte, jA, jM, jS, jL, jD, jB]; first | done | rfl) rfl rfl (by rfl) (by simp only [go_sem, jE, reduceIte, jA, jM, jS, jL, jD, jB]; first | done | rfl | (and_intros <;> rfl)) (by decide) (by unfold idM; decide))
theorem chgPut_own (s : Sto) (k : ByteArray) (v : Int) (hs : SmSt s) (hv : storeS s = true) (hk : smK k) (top a b c : List Ent) (x y z : Sve) (keep time : Int) (ts : List Int) (h : putM s k v = some ⟨top, [a, b, c], [x, y, z], keep, time, ts⟩) : AC Tryz.prog 38 [stT s, .c (.fn 39 [.ph 0 0 0, .ph 1 0 0])] (hpL [some (ksO k), some (inO v)]) 2 ⟨.tup [.agg [.h 2, .h 3, .h 4, .d (.s (.int .i64 keep)), .d (.s (.int .i64 time)), .h 5], bT true], hpL [none, none, some (eRow top), some ⟨23, 1, true, [[.h 6], [.h 7], [.h 8]]⟩, some ⟨76, 5, true, [svN x 9, svN y 10, svN z 11]⟩, some (tmRow ts), some (eRow a), some (eRow b), some (eRow c), some (kRow x.rests), some (kRow y.rests), some (kRow z.rests)], 12⟩ := by
  have k1 := storeOkI_ac s hs
  rw [hv] at k1
  have kc := cloneP_ac s hs hv
  have kv := cloPut_ok s ⟨top, [a, b, c], [x, y, z], keep, time, ts⟩ k v hs hv hk h
  obtain ⟨g, gt⟩ := addM_smH hs h
  have st := addM_st (e := ⟨k, v, false, nextT s⟩) hs hk h
  have hrl := st.rl
  have hlv := g.lev
  have htl := g.tl
  dsimp only at hrl hlv htl gt
  have kf := storeClone_ac top a b c x y z keep time ts (by omega) (by have := (hlv a (by simp)).2; omega) (by have := (hlv b (by simp)).2; omega) (by have := (hlv c (by simp)).2; omega) (hrl x (by simp)) (hrl y (by simp)) (hrl z (by simp)) (by omega)
  unfold cloS svN at kf
  unfold svN
  have arS : ∀ {hp : Hp} {N' L : List Nat} (p q : Nat), hp p = some (lvRow [a, b, c]) → hp q = some (svRow [x, y, z]) → p ∈ L ∧ q ∈ L → Arg hp N' L (.agg [.d (.rs 4 (top.map entD)), .h p, .h q, .d (.s (.int .i64 keep)), .d (.s (.int .i64 time)), .d (.rs 1 (ts.map intD))]) (stT ⟨top, [a, b, c], [x, y, z], keep, time, ts⟩) := fun p q h1 h2 h3 => arg_pS (s := ⟨top, [a, b, c], [x, y, z], keep, time, ts⟩) h1 h2 h3
  refine AC_of Tryz.func38 rfl Tryz.ntmps38 Tryz.results38 (by kernel_rfl) rfl ?_
  simp only [List.zipIdx, List.map, Nat.zero_add, Nat.reduceAdd]
  repeat (first | apply Aw_seq | apply Aw_block | apply Aw_skip | apply Aw_exit | refine Aw_condt rfl ?_ | refine Aw_condf rfl ?_ | ((first | refine qr ?_ | refine qd (by kernel_rfl) (by kernel_rfl) ?_); simp only [go_sem, jE, reduceIte, jA, jM, jS, jL, jD, jB]) | refine dk (by kernel_rfl) ?_ | (refine qp (k1) (by simp only [go_sem, jE, reduceIte, jA, jM, jS, jL, jD, jB]; first | done | rfl) rfl (by simp only [go_sem, Nat.reduceLT]) rfl rfl ?_; simp only [go_sem, jE, reduceIte, jA, jM, jS, jL, jD, jB]) | (refine qx (call_N (L := []) (kc) rfl (.cons (.nm rfl) (.nil)) (.inl rfl) rfl) (by simp only [go_sem, jE, reduceIte, jA, jM, jS, jL, jD, jB]; first | done | rfl) rfl (by simp only [go_sem, Nat.reduceLT]) ?_; simp only [go_sem, jE, reduceIte, jA, jM, jS, jL, jD, jB]) | (refine qx (call_N (L := [8, 9]) (kf) rfl (.cons (arS 8 9 rfl rfl (by simp)) (.nil)) (.inr ⟨rfl, by simp⟩) rfl) (by simp only [go_sem, jE, reduceIte, jA, jM, jS, jL, jD, jB]; first | done | rfl) rfl (by simp only [go_sem, Nat.reduceLT]) ?_; simp only [go_sem, jE, reduceIte, jA, jM, jS, jL, jD, jB]) | (refine ex_callv (by simp only [go_sem, jE, reduceIte, jA, jM, jS, jL, jD, jB]; first | done | rfl) (call_V (N' := [10, 8, 9, 0, 1]) (L := []) 1 (kv) rfl (.cons (.nm rfl) (.nil)) (by first | exact .cons (arg_nm rfl rfl) (.cons (arg_nm rfl rfl) (.nil)) | (simp only [capT, List.map]; exact .cons (arg_nm rfl rfl) (.cons (arg_nm rfl rfl) (.nil)))) (by decide) (by decide) (by decide) (by simp only [go_sem, jE, reduceIte, jA, jM, jS, jL, jD, jB]; first | done | rfl) (.inl rfl) rfl (by decide)) (by simp only [go_sem, jE, reduceIte, jA, jM, jS, jL, jD, jB]; first | done | rfl) rfl (by simp only [go_sem, Nat.reduceLT]) ?_; simp only [go_sem, jE, reduceIte, jA, jM, jS, jL, jD, jB]))
  exact Aw_ret (retL (M := [0, 1, 15, 16, 17, 18, 19, 20, 21, 22, 23, 24]) (.inl rfl) (by simp only [go_sem, jE, reduceIte, jA, jM, jS, jL, jD, jB]; first | done | rfl) rfl rfl (by rfl) (by simp only [go_sem, jE, reduceIte, jA, jM, jS, jL, jD, jB]; first | done | rfl | (and_intros <;> rfl)) (by decide) (by unfold idM; decide))
theorem chgPut_ok (s s' : Sto) (k : ByteArray) (v : Int) (hs : SmSt s) (hv : storeS s = true) (hk : smK k) (h : putM s k v = some s') : AC Tryz.prog 38 [stT s, .c (.fn 39 [.ph 0 0 0, .ph 1 0 0])] (hpL [some (ksO k), some (inO v)]) 2 ⟨.tup [stT s', bT true], hpL [none, none], 2⟩ := by
  obtain ⟨g, gt⟩ := addM_smH hs h
  have st := addM_st (e := ⟨k, v, false, nextT s⟩) hs hk h
  obtain ⟨top, levels, sieves, keep, time, ts⟩ := s'
  obtain ⟨a, b, c, rfl⟩ := len3 g.ll
  obtain ⟨x, y, z, rfl⟩ := len3 g.sl
  have kk := chgPut_own s k v hs hv hk top a b c x y z keep time ts h
  unfold svN at kk
  have h1 := AC.setS [6, 7, 8, 9, 10, 11] kk (y := .tup [.agg [.h 2, .h 3, .h 4, .d (.s (.int .i64 keep)), .d (.s (.int .i64 time)), .h 5], bT true]) (os' := [none, none, some (eRow top), some (lvRow [a, b, c]), some (svRow [x, y, z]), some (tmRow ts)])
    (.cons (.cons (.inl rfl) (.cons (.inl rfl) (.cons (.inl rfl) (.cons (.inl rfl) (.cons (.inl rfl) (.cons (.inl rfl) .nil)))))) (.cons (.inl rfl) .nil))
    ⟨.inl rfl, rfl, .inr ⟨rfl, rfl, rfl, .cons (.cons (SetC.row0 rfl rfl) .nil) (.cons (.cons (SetC.row0 rfl rfl) .nil) (.cons (.cons (SetC.row0 rfl rfl) .nil) .nil))⟩, rfl,
      .inr ⟨rfl, rfl, rfl, .cons (.cons (.inl rfl) (.cons (.inl rfl) (.cons (.inl rfl) (.cons (SetC.row0 rfl rfl) (.cons (.inl rfl) .nil))))) (.cons (.cons (.inl rfl) (.cons (.inl rfl) (.cons (.inl rfl) (.cons (SetC.row0 rfl rfl) (.cons (.inl rfl) .nil))))) (.cons (.cons (.inl rfl) (.cons (.inl rfl) (.cons (.inl rfl) (.cons (SetC.row0 rfl rfl) (.cons (.inl rfl) .nil))))) .nil))⟩, rfl, .inl rfl, rfl, trivial⟩
  have h2 := AC.setS [2, 3, 4, 5] h1 (y := .tup [stT ⟨top, [a, b, c], [x, y, z], keep, time, ts⟩, bT true]) (os' := [none, none])
    (.cons (.cons (SetC.row0 rfl rfl) (.cons (SetC.row0 rfl rfl) (.cons (SetC.row0 rfl rfl) (.cons (.inl rfl) (.cons (.inl rfl) (.cons (SetC.row0 rfl rfl) .nil)))))) (.cons (.inl rfl) .nil)) trivial
  refine AC.sel (M := [0, 1]) h2 rfl rfl (selL rfl ?_) (by decide) fun m hm => ?_
  · simp only [go_sem, LeftL]
  · rcases m with _ | _ | m <;> first | exact ⟨by decide, rfl⟩ | omega
theorem chgPut_no (s : Sto) (k : ByteArray) (v : Int) (hs : SmSt s) (hk : smK k) (h : putM s k v = none) : AC Tryz.prog 38 [stT s, .c (.fn 39 [.ph 0 0 0, .ph 1 0 0])] (hpL [some (ksO k), some (inO v)]) 2 ⟨.tup [zA, bT false], hpL [none, none], 2⟩ := by
  have k1 := storeOkI_ac s hs
  cases hv : storeS s
  · rw [hv] at k1
    refine AC_of Tryz.func38 rfl Tryz.ntmps38 Tryz.results38 (by kernel_rfl) rfl ?_
    simp only [List.zipIdx, List.map, Nat.zero_add, Nat.reduceAdd]
    repeat (first | apply Aw_seq | apply Aw_block | apply Aw_skip | apply Aw_exit | refine Aw_condt rfl ?_ | refine Aw_condf rfl ?_ | ((first | refine qr ?_ | refine qd (by kernel_rfl) (by kernel_rfl) ?_); simp only [go_sem, jE, reduceIte, jA, jM, jS, jL, jD, jB]) | refine dk (by kernel_rfl) ?_ | (refine qp (k1) (by simp only [go_sem, jE, reduceIte, jA, jM, jS, jL, jD, jB]; first | done | rfl) rfl (by simp only [go_sem, Nat.reduceLT]) rfl rfl ?_; simp only [go_sem, jE, reduceIte, jA, jM, jS, jL, jD, jB]))
    exact Aw_ret (retL (M := [0, 1]) (.inl rfl) (by simp only [go_sem, jE, reduceIte, jA, jM, jS, jL, jD, jB]; first | done | rfl) rfl rfl (by rfl) (by simp only [go_sem, jE, reduceIte, jA, jM, jS, jL, jD, jB]; first | done | rfl | (and_intros <;> rfl)) (by decide) (by unfold idM; decide))
  rw [hv] at k1
  have kc := cloneP_ac s hs hv
  have kv := cloPut_no s k v hs hv hk h
  refine AC_of Tryz.func38 rfl Tryz.ntmps38 Tryz.results38 (by kernel_rfl) rfl ?_
  simp only [List.zipIdx, List.map, Nat.zero_add, Nat.reduceAdd]
  repeat (first | apply Aw_seq | apply Aw_block | apply Aw_skip | apply Aw_exit | refine Aw_condt rfl ?_ | refine Aw_condf rfl ?_ | ((first | refine qr ?_ | refine qd (by kernel_rfl) (by kernel_rfl) ?_); simp only [go_sem, jE, reduceIte, jA, jM, jS, jL, jD, jB]) | refine dk (by kernel_rfl) ?_ | (refine qp (k1) (by simp only [go_sem, jE, reduceIte, jA, jM, jS, jL, jD, jB]; first | done | rfl) rfl (by simp only [go_sem, Nat.reduceLT]) rfl rfl ?_; simp only [go_sem, jE, reduceIte, jA, jM, jS, jL, jD, jB]) | (refine qx (call_N (L := []) (kc) rfl (.cons (.nm rfl) (.nil)) (.inl rfl) rfl) (by simp only [go_sem, jE, reduceIte, jA, jM, jS, jL, jD, jB]; first | done | rfl) rfl (by simp only [go_sem, Nat.reduceLT]) ?_; simp only [go_sem, jE, reduceIte, jA, jM, jS, jL, jD, jB]) | (refine ex_callv (by simp only [go_sem, jE, reduceIte, jA, jM, jS, jL, jD, jB]; first | done | rfl) (call_V (N' := [10, 8, 9, 0, 1]) (L := []) 1 (kv) rfl (.cons (.nm rfl) (.nil)) (by first | exact .cons (arg_nm rfl rfl) (.cons (arg_nm rfl rfl) (.nil)) | (simp only [capT, List.map]; exact .cons (arg_nm rfl rfl) (.cons (arg_nm rfl rfl) (.nil)))) (by decide) (by decide) (by decide) (by simp only [go_sem, jE, reduceIte, jA, jM, jS, jL, jD, jB]; first | done | rfl) (.inl rfl) rfl (by decide)) (by simp only [go_sem, jE, reduceIte, jA, jM, jS, jL, jD, jB]; first | done | rfl) rfl (by simp only [go_sem, Nat.reduceLT]) ?_; simp only [go_sem, jE, reduceIte, jA, jM, jS, jL, jD, jB]))
  exact Aw_ret (retL (M := [0, 1]) (.inl rfl) (by simp only [go_sem, jE, reduceIte, jA, jM, jS, jL, jD, jB]; first | done | rfl) rfl rfl (by rfl) (by simp only [go_sem, jE, reduceIte, jA, jM, jS, jL, jD, jB]; first | done | rfl | (and_intros <;> rfl)) (by decide) (by unfold idM; decide))
theorem storePut_ac (s : Sto) (k : ByteArray) (v : Int) (hs : SmSt s) (hk : smK k) : AC Tryz.prog 11 [stT s, sT k, iT v] noHp 0 ⟨resO (putM s k v), noHp, 0⟩ := by
  cases h : putM s k v with
  | none =>
    refine AC.nilR (x := .tup [zA, bT false]) ?_ zA_nil
    have kk := chgPut_no s k v hs hk h
    unfold ksO inO at kk
    refine AC_of Tryz.func11 rfl Tryz.ntmps11 Tryz.results11 (by kernel_rfl) rfl ?_
    simp only [List.zipIdx, List.map, Nat.zero_add, Nat.reduceAdd]
    repeat (first | apply Aw_seq | apply Aw_block | apply Aw_skip | apply Aw_exit | refine Aw_condt rfl ?_ | refine Aw_condf rfl ?_ | ((first | refine qr ?_ | refine qd (by kernel_rfl) (by kernel_rfl) ?_); simp only [go_sem, jE, reduceIte, jA, jM, jS, jL, jD, jB]) | refine dk (by kernel_rfl) ?_ | (refine qx (call_L (N' := [1, 2]) (L := []) (kk) rfl (.cons (.nm rfl) (.cons (.nm rfl) (.nil))) (by decide) (by decide) (by decide) (by simp only [go_sem, jE, reduceIte, jA, jM, jS, jL, jD, jB]; first | done | rfl) (.inl rfl) rfl (by decide)) (by simp only [go_sem, jE, reduceIte, jA, jM, jS, jL, jD, jB]; first | done | rfl) rfl (by simp only [go_sem, Nat.reduceLT]) ?_; simp only [go_sem, jE, reduceIte, jA, jM, jS, jL, jD, jB]))
    exact Aw_ret (ret0 (.inl rfl) (by simp only [go_sem, jE, reduceIte, jA, jM, jS, jL, jD, jB]; rfl) (by rfl) rfl)
  | some s' =>
    have hv : storeS s = true := by
      unfold putM addM at h
      split at h
      · rename_i hc; rw [Bool.and_eq_true] at hc; exact hc.1
      · cases h
    have kk := chgPut_ok s s' k v hs hv hk h
    unfold ksO inO at kk
    refine AC_of Tryz.func11 rfl Tryz.ntmps11 Tryz.results11 (by kernel_rfl) rfl ?_
    simp only [List.zipIdx, List.map, Nat.zero_add, Nat.reduceAdd]
    repeat (first | apply Aw_seq | apply Aw_block | apply Aw_skip | apply Aw_exit | refine Aw_condt rfl ?_ | refine Aw_condf rfl ?_ | ((first | refine qr ?_ | refine qd (by kernel_rfl) (by kernel_rfl) ?_); simp only [go_sem, jE, reduceIte, jA, jM, jS, jL, jD, jB]) | refine dk (by kernel_rfl) ?_ | (refine qx (call_L (N' := [1, 2]) (L := []) (kk) rfl (.cons (.nm rfl) (.cons (.nm rfl) (.nil))) (by decide) (by decide) (by decide) (by simp only [go_sem, jE, reduceIte, jA, jM, jS, jL, jD, jB]; first | done | rfl) (.inl rfl) rfl (by decide)) (by simp only [go_sem, jE, reduceIte, jA, jM, jS, jL, jD, jB]; first | done | rfl) rfl (by simp only [go_sem, Nat.reduceLT]) ?_; simp only [go_sem, jE, reduceIte, jA, jM, jS, jL, jD, jB]))
    exact Aw_ret (ret0 (.inl rfl) (by simp only [go_sem, jE, reduceIte, jA, jM, jS, jL, jD, jB]; rfl) (by rfl) rfl)
theorem chgTake_own (s : Sto) (k : ByteArray) (hs : SmSt s) (hv : storeS s = true) (hk : smK k) (top a b c : List Ent) (x y z : Sve) (keep time : Int) (ts : List Int) (h : takeM s k = some ⟨top, [a, b, c], [x, y, z], keep, time, ts⟩) : AC Tryz.prog 38 [stT s, .c (.fn 48 [.ph 0 0 0])] (hpL [some (ksO k)]) 1 ⟨.tup [.agg [.h 1, .h 2, .h 3, .d (.s (.int .i64 keep)), .d (.s (.int .i64 time)), .h 4], bT true], hpL [none, some (eRow top), some ⟨23, 1, true, [[.h 5], [.h 6], [.h 7]]⟩, some ⟨76, 5, true, [svN x 8, svN y 9, svN z 10]⟩, some (tmRow ts), some (eRow a), some (eRow b), some (eRow c), some (kRow x.rests), some (kRow y.rests), some (kRow z.rests)], 11⟩ := by
  have k1 := storeOkI_ac s hs
  rw [hv] at k1
  have kc := cloneP_ac s hs hv
  have kv := cloTake_ok s ⟨top, [a, b, c], [x, y, z], keep, time, ts⟩ k hs hv hk h
  obtain ⟨g, gt⟩ := addM_smH hs h
  have st := addM_st (e := ⟨k, 0, true, nextT s⟩) hs hk h
  have hrl := st.rl
  have hlv := g.lev
  have htl := g.tl
  dsimp only at hrl hlv htl gt
  have kf := storeClone_ac top a b c x y z keep time ts (by omega) (by have := (hlv a (by simp)).2; omega) (by have := (hlv b (by simp)).2; omega) (by have := (hlv c (by simp)).2; omega) (hrl x (by simp)) (hrl y (by simp)) (hrl z (by simp)) (by omega)
  unfold cloS svN at kf
  unfold svN
  have arS : ∀ {hp : Hp} {N' L : List Nat} (p q : Nat), hp p = some (lvRow [a, b, c]) → hp q = some (svRow [x, y, z]) → p ∈ L ∧ q ∈ L → Arg hp N' L (.agg [.d (.rs 4 (top.map entD)), .h p, .h q, .d (.s (.int .i64 keep)), .d (.s (.int .i64 time)), .d (.rs 1 (ts.map intD))]) (stT ⟨top, [a, b, c], [x, y, z], keep, time, ts⟩) := fun p q h1 h2 h3 => arg_pS (s := ⟨top, [a, b, c], [x, y, z], keep, time, ts⟩) h1 h2 h3
  refine AC_of Tryz.func38 rfl Tryz.ntmps38 Tryz.results38 (by kernel_rfl) rfl ?_
  simp only [List.zipIdx, List.map, Nat.zero_add, Nat.reduceAdd]
  repeat (first | apply Aw_seq | apply Aw_block | apply Aw_skip | apply Aw_exit | refine Aw_condt rfl ?_ | refine Aw_condf rfl ?_ | ((first | refine qr ?_ | refine qd (by kernel_rfl) (by kernel_rfl) ?_); simp only [go_sem, jE, reduceIte, jA, jM, jS, jL, jD, jB]) | refine dk (by kernel_rfl) ?_ | (refine qp (k1) (by simp only [go_sem, jE, reduceIte, jA, jM, jS, jL, jD, jB]; first | done | rfl) rfl (by simp only [go_sem, Nat.reduceLT]) rfl rfl ?_; simp only [go_sem, jE, reduceIte, jA, jM, jS, jL, jD, jB]) | (refine qx (call_N (L := []) (kc) rfl (.cons (.nm rfl) (.nil)) (.inl rfl) rfl) (by simp only [go_sem, jE, reduceIte, jA, jM, jS, jL, jD, jB]; first | done | rfl) rfl (by simp only [go_sem, Nat.reduceLT]) ?_; simp only [go_sem, jE, reduceIte, jA, jM, jS, jL, jD, jB]) | (refine qx (call_N (L := [7, 8]) (kf) rfl (.cons (arS 7 8 rfl rfl (by simp)) (.nil)) (.inr ⟨rfl, by simp⟩) rfl) (by simp only [go_sem, jE, reduceIte, jA, jM, jS, jL, jD, jB]; first | done | rfl) rfl (by simp only [go_sem, Nat.reduceLT]) ?_; simp only [go_sem, jE, reduceIte, jA, jM, jS, jL, jD, jB]) | (refine ex_callv (by simp only [go_sem, jE, reduceIte, jA, jM, jS, jL, jD, jB]; first | done | rfl) (call_V (N' := [9, 7, 8, 0]) (L := []) 1 (kv) rfl (.cons (.nm rfl) (.nil)) (by first | exact .cons (arg_nm rfl rfl) (.nil) | (simp only [capT, List.map]; exact .cons (arg_nm rfl rfl) (.nil))) (by decide) (by decide) (by decide) (by simp only [go_sem, jE, reduceIte, jA, jM, jS, jL, jD, jB]; first | done | rfl) (.inl rfl) rfl (by decide)) (by simp only [go_sem, jE, reduceIte, jA, jM, jS, jL, jD, jB]; first | done | rfl) rfl (by simp only [go_sem, Nat.reduceLT]) ?_; simp only [go_sem, jE, reduceIte, jA, jM, jS, jL, jD, jB]))
  exact Aw_ret (retL (M := [0, 14, 15, 16, 17, 18, 19, 20, 21, 22, 23]) (.inl rfl) (by simp only [go_sem, jE, reduceIte, jA, jM, jS, jL, jD, jB]; first | done | rfl) rfl rfl (by rfl) (by simp only [go_sem, jE, reduceIte, jA, jM, jS, jL, jD, jB]; first | done | rfl | (and_intros <;> rfl)) (by decide) (by unfold idM; decide))
theorem chgTake_ok (s s' : Sto) (k : ByteArray) (hs : SmSt s) (hv : storeS s = true) (hk : smK k) (h : takeM s k = some s') : AC Tryz.prog 38 [stT s, .c (.fn 48 [.ph 0 0 0])] (hpL [some (ksO k)]) 1 ⟨.tup [stT s', bT true], hpL [none], 1⟩ := by
  obtain ⟨g, gt⟩ := addM_smH hs h
  have st := addM_st (e := ⟨k, 0, true, nextT s⟩) hs hk h
  obtain ⟨top, levels, sieves, keep, time, ts⟩ := s'
  obtain ⟨a, b, c, rfl⟩ := len3 g.ll
  obtain ⟨x, y, z, rfl⟩ := len3 g.sl
  have kk := chgTake_own s k hs hv hk top a b c x y z keep time ts h
  unfold svN at kk
  have h1 := AC.setS [5, 6, 7, 8, 9, 10] kk (y := .tup [.agg [.h 1, .h 2, .h 3, .d (.s (.int .i64 keep)), .d (.s (.int .i64 time)), .h 4], bT true]) (os' := [none, some (eRow top), some (lvRow [a, b, c]), some (svRow [x, y, z]), some (tmRow ts)])
    (.cons (.cons (.inl rfl) (.cons (.inl rfl) (.cons (.inl rfl) (.cons (.inl rfl) (.cons (.inl rfl) (.cons (.inl rfl) .nil)))))) (.cons (.inl rfl) .nil))
    ⟨.inl rfl, rfl, .inr ⟨rfl, rfl, rfl, .cons (.cons (SetC.row0 rfl rfl) .nil) (.cons (.cons (SetC.row0 rfl rfl) .nil) (.cons (.cons (SetC.row0 rfl rfl) .nil) .nil))⟩, rfl,
      .inr ⟨rfl, rfl, rfl, .cons (.cons (.inl rfl) (.cons (.inl rfl) (.cons (.inl rfl) (.cons (SetC.row0 rfl rfl) (.cons (.inl rfl) .nil))))) (.cons (.cons (.inl rfl) (.cons (.inl rfl) (.cons (.inl rfl) (.cons (SetC.row0 rfl rfl) (.cons (.inl rfl) .nil))))) (.cons (.cons (.inl rfl) (.cons (.inl rfl) (.cons (.inl rfl) (.cons (SetC.row0 rfl rfl) (.cons (.inl rfl) .nil))))) .nil))⟩, rfl, .inl rfl, rfl, trivial⟩
  have h2 := AC.setS [1, 2, 3, 4] h1 (y := .tup [stT ⟨top, [a, b, c], [x, y, z], keep, time, ts⟩, bT true]) (os' := [none])
    (.cons (.cons (SetC.row0 rfl rfl) (.cons (SetC.row0 rfl rfl) (.cons (SetC.row0 rfl rfl) (.cons (.inl rfl) (.cons (.inl rfl) (.cons (SetC.row0 rfl rfl) .nil)))))) (.cons (.inl rfl) .nil)) trivial
  refine AC.sel (M := [0]) h2 rfl rfl (selL rfl ?_) (by decide) fun m hm => ?_
  · simp only [go_sem, LeftL]
  · rcases m with _ | _ | m <;> first | exact ⟨by decide, rfl⟩ | omega
theorem chgTake_no (s : Sto) (k : ByteArray) (hs : SmSt s) (hk : smK k) (h : takeM s k = none) : AC Tryz.prog 38 [stT s, .c (.fn 48 [.ph 0 0 0])] (hpL [some (ksO k)]) 1 ⟨.tup [zA, bT false], hpL [none], 1⟩ := by
  have k1 := storeOkI_ac s hs
  cases hv : storeS s
  · rw [hv] at k1
    refine AC_of Tryz.func38 rfl Tryz.ntmps38 Tryz.results38 (by kernel_rfl) rfl ?_
    simp only [List.zipIdx, List.map, Nat.zero_add, Nat.reduceAdd]
    repeat (first | apply Aw_seq | apply Aw_block | apply Aw_skip | apply Aw_exit | refine Aw_condt rfl ?_ | refine Aw_condf rfl ?_ | ((first | refine qr ?_ | refine qd (by kernel_rfl) (by kernel_rfl) ?_); simp only [go_sem, jE, reduceIte, jA, jM, jS, jL, jD, jB]) | refine dk (by kernel_rfl) ?_ | (refine qp (k1) (by simp only [go_sem, jE, reduceIte, jA, jM, jS, jL, jD, jB]; first | done | rfl) rfl (by simp only [go_sem, Nat.reduceLT]) rfl rfl ?_; simp only [go_sem, jE, reduceIte, jA, jM, jS, jL, jD, jB]))
    exact Aw_ret (retL (M := [0]) (.inl rfl) (by simp only [go_sem, jE, reduceIte, jA, jM, jS, jL, jD, jB]; first | done | rfl) rfl rfl (by rfl) (by simp only [go_sem, jE, reduceIte, jA, jM, jS, jL, jD, jB]; first | done | rfl | (and_intros <;> rfl)) (by decide) (by unfold idM; decide))
  rw [hv] at k1
  have kc := cloneP_ac s hs hv
  have kv := cloTake_no s k hs hv hk h
  refine AC_of Tryz.func38 rfl Tryz.ntmps38 Tryz.results38 (by kernel_rfl) rfl ?_
  simp only [List.zipIdx, List.map, Nat.zero_add, Nat.reduceAdd]
  repeat (first | apply Aw_seq | apply Aw_block | apply Aw_skip | apply Aw_exit | refine Aw_condt rfl ?_ | refine Aw_condf rfl ?_ | ((first | refine qr ?_ | refine qd (by kernel_rfl) (by kernel_rfl) ?_); simp only [go_sem, jE, reduceIte, jA, jM, jS, jL, jD, jB]) | refine dk (by kernel_rfl) ?_ | (refine qp (k1) (by simp only [go_sem, jE, reduceIte, jA, jM, jS, jL, jD, jB]; first | done | rfl) rfl (by simp only [go_sem, Nat.reduceLT]) rfl rfl ?_; simp only [go_sem, jE, reduceIte, jA, jM, jS, jL, jD, jB]) | (refine qx (call_N (L := []) (kc) rfl (.cons (.nm rfl) (.nil)) (.inl rfl) rfl) (by simp only [go_sem, jE, reduceIte, jA, jM, jS, jL, jD, jB]; first | done | rfl) rfl (by simp only [go_sem, Nat.reduceLT]) ?_; simp only [go_sem, jE, reduceIte, jA, jM, jS, jL, jD, jB]) | (refine ex_callv (by simp only [go_sem, jE, reduceIte, jA, jM, jS, jL, jD, jB]; first | done | rfl) (call_V (N' := [9, 7, 8, 0]) (L := []) 1 (kv) rfl (.cons (.nm rfl) (.nil)) (by first | exact .cons (arg_nm rfl rfl) (.nil) | (simp only [capT, List.map]; exact .cons (arg_nm rfl rfl) (.nil))) (by decide) (by decide) (by decide) (by simp only [go_sem, jE, reduceIte, jA, jM, jS, jL, jD, jB]; first | done | rfl) (.inl rfl) rfl (by decide)) (by simp only [go_sem, jE, reduceIte, jA, jM, jS, jL, jD, jB]; first | done | rfl) rfl (by simp only [go_sem, Nat.reduceLT]) ?_; simp only [go_sem, jE, reduceIte, jA, jM, jS, jL, jD, jB]))
  exact Aw_ret (retL (M := [0]) (.inl rfl) (by simp only [go_sem, jE, reduceIte, jA, jM, jS, jL, jD, jB]; first | done | rfl) rfl rfl (by rfl) (by simp only [go_sem, jE, reduceIte, jA, jM, jS, jL, jD, jB]; first | done | rfl | (and_intros <;> rfl)) (by decide) (by unfold idM; decide))
theorem storeTake_ac (s : Sto) (k : ByteArray) (hs : SmSt s) (hk : smK k) : AC Tryz.prog 15 [stT s, sT k] noHp 0 ⟨resO (takeM s k), noHp, 0⟩ := by
  cases h : takeM s k with
  | none =>
    refine AC.nilR (x := .tup [zA, bT false]) ?_ zA_nil
    have kk := chgTake_no s k hs hk h
    unfold ksO at kk
    refine AC_of Tryz.func15 rfl Tryz.ntmps15 Tryz.results15 (by kernel_rfl) rfl ?_
    simp only [List.zipIdx, List.map, Nat.zero_add, Nat.reduceAdd]
    repeat (first | apply Aw_seq | apply Aw_block | apply Aw_skip | apply Aw_exit | refine Aw_condt rfl ?_ | refine Aw_condf rfl ?_ | ((first | refine qr ?_ | refine qd (by kernel_rfl) (by kernel_rfl) ?_); simp only [go_sem, jE, reduceIte, jA, jM, jS, jL, jD, jB]) | refine dk (by kernel_rfl) ?_ | (refine qx (call_L (N' := [1]) (L := []) (kk) rfl (.cons (.nm rfl) (.cons (.nm rfl) (.nil))) (by decide) (by decide) (by decide) (by simp only [go_sem, jE, reduceIte, jA, jM, jS, jL, jD, jB]; first | done | rfl) (.inl rfl) rfl (by decide)) (by simp only [go_sem, jE, reduceIte, jA, jM, jS, jL, jD, jB]; first | done | rfl) rfl (by simp only [go_sem, Nat.reduceLT]) ?_; simp only [go_sem, jE, reduceIte, jA, jM, jS, jL, jD, jB]))
    exact Aw_ret (ret0 (.inl rfl) (by simp only [go_sem, jE, reduceIte, jA, jM, jS, jL, jD, jB]; rfl) (by rfl) rfl)
  | some s' =>
    have hv : storeS s = true := by
      unfold takeM addM at h
      split at h
      · rename_i hc; rw [Bool.and_eq_true] at hc; exact hc.1
      · cases h
    have kk := chgTake_ok s s' k hs hv hk h
    unfold ksO at kk
    refine AC_of Tryz.func15 rfl Tryz.ntmps15 Tryz.results15 (by kernel_rfl) rfl ?_
    simp only [List.zipIdx, List.map, Nat.zero_add, Nat.reduceAdd]
    repeat (first | apply Aw_seq | apply Aw_block | apply Aw_skip | apply Aw_exit | refine Aw_condt rfl ?_ | refine Aw_condf rfl ?_ | ((first | refine qr ?_ | refine qd (by kernel_rfl) (by kernel_rfl) ?_); simp only [go_sem, jE, reduceIte, jA, jM, jS, jL, jD, jB]) | refine dk (by kernel_rfl) ?_ | (refine qx (call_L (N' := [1]) (L := []) (kk) rfl (.cons (.nm rfl) (.cons (.nm rfl) (.nil))) (by decide) (by decide) (by decide) (by simp only [go_sem, jE, reduceIte, jA, jM, jS, jL, jD, jB]; first | done | rfl) (.inl rfl) rfl (by decide)) (by simp only [go_sem, jE, reduceIte, jA, jM, jS, jL, jD, jB]; first | done | rfl) rfl (by simp only [go_sem, Nat.reduceLT]) ?_; simp only [go_sem, jE, reduceIte, jA, jM, jS, jL, jD, jB]))
    exact Aw_ret (ret0 (.inl rfl) (by simp only [go_sem, jE, reduceIte, jA, jM, jS, jL, jD, jB]; rfl) (by rfl) rfl)
open Go Go.Proofs Go.Shelf Go.Sort
def Tryz.lDel_ren : Go.Shelf.Ren := ⟨fun | 10 => 175 | 6 => 190 | n => n, fun | 22 => 26 | 23 => 3 | 25 => 107 | 3 => 3 | 4 => 4 | 0 => 0 | n => n, fun | n => n⟩
theorem Tryz.lDel : Go.Proofs.SlLaysH.n10 Tryz.prog Tryz.lDel_ren := {
  mixed := by kernel_rfl
  f6 := ⟨Tryz.f190.name, by decide, Tryz.func190.trans (congrArg some (by kernel_rfl))⟩
  f10 := ⟨Tryz.f175.name, by decide, Tryz.func175.trans (congrArg some (by kernel_rfl))⟩
  t0 := Tryz.underlying0
  a0 := Tryz.isAgg0
  z0 := Tryz.sizeOf0
  v0 := Tryz.zeroValue0
  t3 := Tryz.underlying3
  a3 := Tryz.isAgg3
  z3 := Tryz.sizeOf3
  v3 := Tryz.zeroValue3
  t4 := Tryz.underlying4
  a4 := Tryz.isAgg4
  z4 := Tryz.sizeOf4
  v4 := Tryz.zeroValue4
  t22 := Tryz.underlying26
  a22 := Tryz.isAgg26
  z22 := Tryz.sizeOf26
  v22 := Tryz.zeroValue26
  a23 := Tryz.isAgg3
  z23 := Tryz.sizeOf3
  t25 := Tryz.underlying107
  a25 := Tryz.isAgg107
  z25 := Tryz.sizeOf107
  v25 := Tryz.zeroValue107 }
theorem del_gives (t x : Int) (B : Nat) (W : World) (hc : W.cell? ⟨B, 0, none⟩ = some (.int .i64 t)) :
    FnGives Tryz.prog 176 #[.pointer (some ⟨B, 0, none⟩)] #[.int .i64 x] (.bool (decide (x = t))) W := by
  show Calls Tryz.prog 176 #[.int .i64 x, .pointer (some ⟨B, 0, none⟩)] W _
  go_enter Tryz.func176, Tryz.ntmps176
  go_wp2
  all_goals (go_ret; exact ⟨by simp_all <;> rfl, 0, rfl⟩)
theorem del_pred (t : Int) (B : Nat) (w : World) (hB : B < w.heap.size) (hcell : w.cell? ⟨B, 0, none⟩ = some (.int .i64 t)) :
    PredAt Tryz.prog 176 #[.pointer (some ⟨B, 0, none⟩)] (Value.int .i64) (fun x => decide (x = t)) w :=
  fun W x hb => del_gives t x B W ((hb.cell (p := ⟨B, 0, none⟩) hB).trans hcell)
theorem del_over (t : Int) (B blk off size : Nat) (w : World) (hB : B < w.heap.size) (hne : B ≠ blk) (hcell : w.cell? ⟨B, 0, none⟩ = some (.int .i64 t)) :
    PredOver Tryz.prog 176 #[.pointer (some ⟨B, 0, none⟩)] (Value.int .i64) (fun x => decide (x = t)) blk off size w :=
  fun n os dk x _ => del_gives t x B _ (by
    unfold sortWorld
    rw [cell?_grow _ _ _ (by show B < (putRow _ _ _ _ _).heap.size; rw [size_putRow]; exact hB), cell?_putRow_other _ _ blk off _ _ (Or.inl hne)]
    exact hcell)
def keepT (xs : List Int) (t : Int) : List Int := xs.filter fun x => !decide (x = t)
theorem ownI_nil {w : World} {e : Nat} {n : Nat} {vs : List Value} (h : w.ownsRow 0 e 1 (.slice none 0 0) n vs) : n = 0 := by
  rcases h.2 with ⟨_, h⟩ | ⟨_, _, _, h, _⟩
  · exact h
  · cases h
theorem del_calls (v : Value) (xs : List Int) (t : Int) (B : Nat) (w : World) (hrow : w.ownsRow 0 3 1 v xs.length (xs.map (Value.int .i64))) (hn : xs.length ≤ 1000000) (hx : xs ≠ []) (hB : B < w.heap.size) (hcell : w.cell? ⟨B, 0, none⟩ = some (.int .i64 t)) (hne : v.ownBlock ≠ some B) :
    Calls Tryz.prog 175 #[v, .func (.func 176) #[] #[.pointer (some ⟨B, 0, none⟩)]] w fun e w' => ∃ v', e = .returned v' ∧ v'.ownBlock = v.ownBlock ∧ w'.ownsRow 0 3 1 v' (keepT xs t).length ((keepT xs t).map (Value.int .i64)) ∧ w.grownBy w' v.ownBlock := by
  have hv : v ≠ .slice none 0 0 := fun hv => by
    subst hv
    exact hx (List.eq_nil_of_length_eq_zero (ownI_nil hrow))
  obtain ⟨g, cap, rfl, hbg, hgl, hncap, hcm, hlen, hH⟩ := Lib.holds_of_ownsRow hrow hv
  have hbg2 : B ≠ g := fun e => hne (by simp [Value.ownBlock, e])
  have eg : ∀ args w, (callFunc 176 args).run Tryz.prog w = .ok (.enter 176 args) w := enters_of Tryz.func176 (by kernel_rfl) rfl
  have hs := AnyE.slices_DeleteFunc Tryz.lDel (Value.int .i64) (fun _ => rfl) (fun x => decide (x = t)) 176 #[.pointer (some ⟨B, 0, none⟩)] eg 0 Tryz.zeroValue3 g 0 cap xs.toArray w
    (del_pred t B w hB hcell) (del_over t B g 0 _ w hB hbg2 hcell) hH (by simp; omega) (by simpa using hncap)
  change Calls Tryz.prog 175 _ _ _ at hs
  rw [List.size_toArray] at hs
  refine hs.mono ?_
  rintro e w' ⟨rfl, q, rfl⟩
  simp only [List.toList_toArray]
  have hle : (keepT xs t).length ≤ xs.length := List.length_filter_le _ _
  refine ⟨_, rfl, rfl, ?_, rfl, rfl, rfl, ?_, ?_⟩
  · have := Lib.ownsRow_putRow (q := q) (k := (keepT xs t).length) (ys := keepT xs t ++ List.replicate (xs.length - (keepT xs t).length) 0) hrow (by simp; omega) (by omega)
    rw [List.take_left] at this
    exact this
  · simp [putRow, mapBlock, Sort.ahead]
  · intro k hk hne
    have : g ≠ k := fun e => hne (by simp [Value.ownBlock, e])
    simp [putRow, mapBlock, Sort.ahead, Array.getElem?_modify, this]
theorem repE_ints (c : Cx) (xs : List Int) : RepE c 1 (tmRow xs).els (xs.map (Value.int .i64)) := by
  refine ⟨by simp [tmRow, dRow], fun cs h => ?_, fun i j cs x h1 h2 => ?_⟩
  · simp [tmRow, dRow] at h; obtain ⟨a, _, rfl⟩ := h; rfl
  · simp [tmRow, dRow] at h1
    obtain ⟨a, h3, rfl⟩ := h1
    cases j with
    | succ j => simp [intD] at h2
    | zero =>
      simp [intD] at h2; subst h2
      exact ⟨.int .i64 a, by simp [h3], .s rfl⟩
theorem ints_of (c : Cx) (xs : List Int) (vs : List Value) (h : RepE c 1 (tmRow xs).els vs) : vs = xs.map (Value.int .i64) := by
  obtain ⟨h1, _, h3⟩ := h
  refine List.ext_getElem? fun i => ?_
  have hl : vs.length = xs.length := by simpa [tmRow, dRow] using h1
  by_cases hi : i < xs.length
  · obtain ⟨u, h4, h5⟩ := h3 i 0 [.d (.s (.int .i64 xs[i]))] (.d (.s (.int .i64 xs[i]))) (by simp [tmRow, dRow, intD, hi]) rfl
    rw [Nat.mul_one, Nat.add_zero] at h4
    rw [h4, repD_s h5]; simp [hi]
  · rw [List.getElem?_eq_none (by omega), List.getElem?_eq_none (by simp; omega)]
theorem own_ints {c : Cx} {hp : Hp} (g : Good c hp) {m : Nat} {xs : List Int} (hq : hp m = some (tmRow xs)) : c.w.ownsRow 0 3 1 (c.hd m) xs.length (xs.map (Value.int .i64)) := by
  obtain ⟨_, _, vs, hE, ⟨_, h, _⟩ | ⟨h, _⟩⟩ := g.obj m _ hq
  · have hh : c.w.ownsRow 0 3 1 (c.hd m) (tmRow xs).els.length vs := h
    rw [ints_of c xs vs hE] at hh
    have hl : (tmRow xs).els.length = xs.length := by simp [tmRow, dRow]
    rw [hl] at hh; exact hh
  · cases h
theorem inO_cell {c : Cx} {hp : Hp} (g : Good c hp) {m : Nat} {t : Int} (hq : hp m = some (inO t)) : c.ρ m < c.w.heap.size ∧ c.w.cell? ⟨c.ρ m, 0, none⟩ = some (.int .i64 t) ∧ c.kk m = 1 := by
  obtain ⟨k1, _, vs, hE, ⟨h, _⟩ | ⟨_, h, _⟩⟩ := g.obj m _ hq
  · cases h
  · obtain ⟨e1, _, e3⟩ := hE
    obtain ⟨u, h4, h5⟩ := e3 0 0 [.d (.s (.int .i64 t))] (.d (.s (.int .i64 t))) rfl rfl
    have hlt : c.ρ m < c.w.heap.size := by
      rcases Nat.lt_or_ge (c.ρ m) c.w.heap.size with q | q
      · exact q
      · rw [Array.getElem?_eq_none q] at h; cases h
    refine ⟨hlt, ?_, k1⟩
    have hu := repD_s h5
    subst hu
    unfold World.cell?
    simp only [h]
    simpa using h4
theorem delIx_ac (t : Int) : AC Tryz.prog 190 [intsT [], .c (.fn 176 [.ph 0 0 0])] (hpL [some (inO t)]) 1 ⟨.t (iT (-1)), hpL [some (inO t)], 1⟩ := by
  have g : decide ((0 : Int) < 0) = false := rfl
  refine AC_of Tryz.func190 rfl Tryz.ntmps190 Tryz.results190 (by kernel_rfl) rfl ?_
  simp only [List.zipIdx, List.map, Nat.zero_add, Nat.reduceAdd]
  repeat (first | apply Aw_seq | apply Aw_block | apply Aw_skip | apply Aw_exit | refine Aw_condt rfl ?_ | refine Aw_condf rfl ?_ | ((first | refine qr ?_ | refine qd (by kernel_rfl) (by kernel_rfl) ?_); simp only [go_sem, jE, reduceIte, jA, jM, jS, jL, jD, jB]) | refine dk (by kernel_rfl) ?_)
  refine Aw_rounds 1 ?_
  refine AwR_succ ?_
  repeat (first | apply Aw_seq | apply Aw_block | apply Aw_skip | apply Aw_exit | refine Aw_condt rfl ?_ | refine Aw_condf rfl ?_ | ((first | refine qr ?_ | refine qd (by kernel_rfl) (by kernel_rfl) ?_); simp only [go_sem, jE, reduceIte, jA, jM, jS, jL, jD, jB, g]) | refine dk (by kernel_rfl) ?_)
  exact Aw_ret (retL (M := [0]) (.inl rfl) (by simp only [go_sem, jE, reduceIte, jA, jM, jS, jL, jD, jB]; first | done | rfl) rfl rfl (by rfl) (by simp only [go_sem, jE, reduceIte, jA, jM, jS, jL, jD, jB]; first | done | rfl | (and_intros <;> rfl)) (by decide) (by unfold idM; decide))
@[simp] theorem flat_inO (t : Int) : (inO t).flat = true := rfl
theorem del_ac (xs : List Int) (t : Int) (hn : xs.length ≤ 1000000) : AC Tryz.prog 175 [.c (.h 0), .c (.fn 176 [.ph 1 0 0])] (hpL [some (tmRow xs), some (inO t)]) 2 ⟨.t (.c (.h 2)), hpL [none, some (inO t), some (tmRow (keepT xs t))], 3⟩ := by
  by_cases hx : xs = []
  · subst hx
    have k := delIx_ac t
    have g : decide ((-1 : Int) = -1) = true := rfl
    have e : keepT [] t = [] := rfl
    rw [e]
    refine AC_of Tryz.func175 rfl Tryz.ntmps175 Tryz.results175 (by kernel_rfl) rfl ?_
    simp only [List.zipIdx, List.map, Nat.zero_add, Nat.reduceAdd]
    repeat (first | apply Aw_seq | apply Aw_block | apply Aw_skip | apply Aw_exit | refine Aw_condt rfl ?_ | refine Aw_condf rfl ?_ | ((first | refine qr ?_ | refine qd (by kernel_rfl) (by kernel_rfl) ?_); simp only [go_sem, jE, reduceIte, jA, jM, jS, jL, jD, jB, g]) | refine dk (by kernel_rfl) ?_ | (refine qx (call_L (N' := [1]) (L := [0]) (k) rfl (.cons (arg_lend (m := 0) rfl (by simp)) (.cons (.nm rfl) (.nil))) (by decide) (by decide) (by decide) (by simp only [go_sem, jE, reduceIte, jA, jM, jS, jL, jD, jB, g]; first | done | rfl) (.inr ⟨rfl, by simp⟩) rfl (by decide)) (by simp only [go_sem, jE, reduceIte, jA, jM, jS, jL, jD, jB, g]; first | done | rfl) rfl (by simp only [go_sem, Nat.reduceLT]) ?_; simp only [go_sem, jE, reduceIte, jA, jM, jS, jL, jD, jB, g]))
    exact Aw_ret (retL (M := [0, 1, 0]) (.inl rfl) (by simp only [go_sem, jE, reduceIte, jA, jM, jS, jL, jD, jB]; first | done | rfl) rfl rfl (by rfl) (by simp only [go_sem, jE, reduceIte, jA, jM, jS, jL, jD, jB]; first | done | rfl | (and_intros <;> rfl)) (by decide) (by unfold idM; decide))
  refine ⟨by exact ⟨_, Tryz.func175, rfl, rfl⟩, fun c vs g hU hA => ?_⟩
  obtain ⟨hlt, hcell, hkk⟩ := inO_cell g (m := 1) (t := t) rfl
  obtain ⟨v, rfl, rfl⟩ : ∃ v, vs = [v, .func (.func 176) #[] #[.pointer (some ⟨c.ρ 1, 0, none⟩)]] ∧ v = c.hd 0 := by
    cases hA with
    | cons h1 h2 => cases h2 with
      | cons h2 h3 =>
        cases h3
        obtain ⟨ps, rfl, hp⟩ := h2
        cases hp with
        | cons q1 q2 =>
          cases q2
          obtain ⟨_, rfl⟩ := q1
          rw [hkk]
          exact ⟨_, rfl, h1.2.1⟩
  have hne : (c.hd 0).ownBlock ≠ some (c.ρ 1) := fun e => by
    have := g.inj 0 (tmRow xs) 1 (inO t) (c.ρ 1) rfl rfl e rfl
    cases this
  refine (del_calls _ xs t (c.ρ 1) c.w (own_ints g rfl) hn hx hlt hcell hne).mono ?_
  rintro e w' ⟨v', rfl, hb, hown, hg⟩
  obtain ⟨c', hw, tr, g2, hr, hU2⟩ := renew (nm := 2) g (fun h => by have := hU 2 h; omega) (m := 0) (q := tmRow xs) rfl rfl hg (u := v') (els := (tmRow (keepT xs t)).els) (repE_ints c _) (by simpa [tmRow, dRow] using hown) (fun b hb' => .inl (by rw [← hb]; exact hb'))
  have hh : upd (upd (hpL [some (tmRow xs), some (inO t)]) 0 none) 2 (some { tmRow xs with els := (tmRow (keepT xs t)).els }) = hpL [none, some (inO t), some (tmRow (keepT xs t))] := by
    funext j; rcases j with _ | _ | _ | j <;> simp [upd, hpL, tmRow, dRow]
  rw [hh] at tr g2
  exact ⟨_, c', rfl, hw, tr, g2, hr, fun m hm => (hU2 m hm).elim (fun h => by have := hU m h; show m < 3; omega) (fun h => by subst h; show 2 < 3; omega)⟩
theorem chgDown_own (s : Sto) (hs : SmSt s) (hv : storeS s = true) (top a b c : List Ent) (x y z : Sve) (keep time : Int) (ts : List Int) (h : downM s = some ⟨top, [a, b, c], [x, y, z], keep, time, ts⟩) : AC Tryz.prog 38 [stT s, .c (.fn 49 [])] noHp 0 ⟨.tup [.agg [.h 0, .h 1, .h 2, .d (.s (.int .i64 keep)), .d (.s (.int .i64 time)), .h 3], bT true], hpL [some (eRow top), some ⟨23, 1, true, [[.h 4], [.h 5], [.h 6]]⟩, some ⟨76, 5, true, [svN x 7, svN y 8, svN z 9]⟩, some (tmRow ts), some (eRow a), some (eRow b), some (eRow c), some (kRow x.rests), some (kRow y.rests), some (kRow z.rests)], 10⟩ := by
  have k1 := storeOkI_ac s hs
  rw [hv] at k1
  have kc := cloneP_ac s hs hv
  have kv := down_ok s ⟨top, [a, b, c], [x, y, z], keep, time, ts⟩ hs hv h
  have g := downM_sm hs hv h
  obtain ⟨st, gt0⟩ := downM_st hs hv h
  have gt := congrArg List.length gt0
  rw [List.length_nil] at gt
  have hrl := st.rl
  have hlv := g.lev
  have htl := g.tl
  dsimp only at hrl hlv htl gt
  have kf := storeClone_ac top a b c x y z keep time ts (by omega) (by have := (hlv a (by simp)).2; omega) (by have := (hlv b (by simp)).2; omega) (by have := (hlv c (by simp)).2; omega) (hrl x (by simp)) (hrl y (by simp)) (hrl z (by simp)) (by omega)
  unfold cloS svN at kf
  unfold svN
  have arS : ∀ {hp : Hp} {N' L : List Nat} (p q : Nat), hp p = some (lvRow [a, b, c]) → hp q = some (svRow [x, y, z]) → p ∈ L ∧ q ∈ L → Arg hp N' L (.agg [.d (.rs 4 (top.map entD)), .h p, .h q, .d (.s (.int .i64 keep)), .d (.s (.int .i64 time)), .d (.rs 1 (ts.map intD))]) (stT ⟨top, [a, b, c], [x, y, z], keep, time, ts⟩) := fun p q h1 h2 h3 => arg_pS (s := ⟨top, [a, b, c], [x, y, z], keep, time, ts⟩) h1 h2 h3
  refine AC_of Tryz.func38 rfl Tryz.ntmps38 Tryz.results38 (by kernel_rfl) rfl ?_
  simp only [List.zipIdx, List.map, Nat.zero_add, Nat.reduceAdd]
  repeat (first | apply Aw_seq | apply Aw_block | apply Aw_skip | apply Aw_exit | refine Aw_condt rfl ?_ | refine Aw_condf rfl ?_ | ((first | refine qr ?_ | refine qd (by kernel_rfl) (by kernel_rfl) ?_); simp only [go_sem, jE, reduceIte, jA, jM, jS, jL, jD, jB]) | refine dk (by kernel_rfl) ?_ | (refine qp (k1) (by simp only [go_sem, jE, reduceIte, jA, jM, jS, jL, jD, jB]; first | done | rfl) rfl (by simp only [go_sem, Nat.reduceLT]) rfl rfl ?_; simp only [go_sem, jE, reduceIte, jA, jM, jS, jL, jD, jB]) | (refine qx (call_N (L := []) (kc) rfl (.cons (.nm rfl) (.nil)) (.inl rfl) rfl) (by simp only [go_sem, jE, reduceIte, jA, jM, jS, jL, jD, jB]; first | done | rfl) rfl (by simp only [go_sem, Nat.reduceLT]) ?_; simp only [go_sem, jE, reduceIte, jA, jM, jS, jL, jD, jB]) | (refine qx (call_N (L := [6, 7]) (kf) rfl (.cons (arS 6 7 rfl rfl (by simp)) (.nil)) (.inr ⟨rfl, by simp⟩) rfl) (by simp only [go_sem, jE, reduceIte, jA, jM, jS, jL, jD, jB]; first | done | rfl) rfl (by simp only [go_sem, Nat.reduceLT]) ?_; simp only [go_sem, jE, reduceIte, jA, jM, jS, jL, jD, jB]) | (refine ex_callv (by simp only [go_sem, jE, reduceIte, jA, jM, jS, jL, jD, jB]; first | done | rfl) (call_V (N' := [8, 6, 7]) (L := []) 1 (kv) rfl (.cons (.nm rfl) (.nil)) (by first | exact .nil | (simp only [capT, List.map]; exact .nil)) (by decide) (by decide) (by decide) (by simp only [go_sem, jE, reduceIte, jA, jM, jS, jL, jD, jB]; first | done | rfl) (.inl rfl) rfl (by decide)) (by simp only [go_sem, jE, reduceIte, jA, jM, jS, jL, jD, jB]; first | done | rfl) rfl (by simp only [go_sem, Nat.reduceLT]) ?_; simp only [go_sem, jE, reduceIte, jA, jM, jS, jL, jD, jB]))
  exact Aw_ret (retL (M := [13, 14, 15, 16, 17, 18, 19, 20, 21, 22]) (.inl rfl) (by simp only [go_sem, jE, reduceIte, jA, jM, jS, jL, jD, jB]; first | done | rfl) rfl rfl (by rfl) (by simp only [go_sem, jE, reduceIte, jA, jM, jS, jL, jD, jB]; first | done | rfl | (and_intros <;> rfl)) (by decide) (by unfold idM; decide))
theorem chgDown_ok (s s' : Sto) (hs : SmSt s) (hv : storeS s = true) (h : downM s = some s') : AC Tryz.prog 38 [stT s, .c (.fn 49 [])] noHp 0 ⟨.tup [stT s', bT true], noHp, 0⟩ := by
  have g := downM_sm hs hv h
  obtain ⟨st, gt0⟩ := downM_st hs hv h
  have gt := congrArg List.length gt0
  rw [List.length_nil] at gt
  obtain ⟨top, levels, sieves, keep, time, ts⟩ := s'
  obtain ⟨a, b, c, rfl⟩ := len3 g.ll
  obtain ⟨x, y, z, rfl⟩ := len3 g.sl
  have kk := chgDown_own s hs hv top a b c x y z keep time ts h
  unfold svN at kk
  have h1 := AC.setS [4, 5, 6, 7, 8, 9] kk (y := .tup [.agg [.h 0, .h 1, .h 2, .d (.s (.int .i64 keep)), .d (.s (.int .i64 time)), .h 3], bT true]) (os' := [some (eRow top), some (lvRow [a, b, c]), some (svRow [x, y, z]), some (tmRow ts)])
    (.cons (.cons (.inl rfl) (.cons (.inl rfl) (.cons (.inl rfl) (.cons (.inl rfl) (.cons (.inl rfl) (.cons (.inl rfl) .nil)))))) (.cons (.inl rfl) .nil))
    ⟨.inl rfl, rfl, .inr ⟨rfl, rfl, rfl, .cons (.cons (SetC.row0 rfl rfl) .nil) (.cons (.cons (SetC.row0 rfl rfl) .nil) (.cons (.cons (SetC.row0 rfl rfl) .nil) .nil))⟩, rfl,
      .inr ⟨rfl, rfl, rfl, .cons (.cons (.inl rfl) (.cons (.inl rfl) (.cons (.inl rfl) (.cons (SetC.row0 rfl rfl) (.cons (.inl rfl) .nil))))) (.cons (.cons (.inl rfl) (.cons (.inl rfl) (.cons (.inl rfl) (.cons (SetC.row0 rfl rfl) (.cons (.inl rfl) .nil))))) (.cons (.cons (.inl rfl) (.cons (.inl rfl) (.cons (.inl rfl) (.cons (SetC.row0 rfl rfl) (.cons (.inl rfl) .nil))))) .nil))⟩, rfl, .inl rfl, rfl, trivial⟩
  exact AC.settle0 [0, 1, 2, 3] h1
    (.cons (.cons (SetC.row0 rfl rfl) (.cons (SetC.row0 rfl rfl) (.cons (SetC.row0 rfl rfl) (.cons (.inl rfl) (.cons (.inl rfl) (.cons (SetC.row0 rfl rfl) .nil)))))) (.cons (.inl rfl) .nil)) rfl
theorem chgDown_no (s : Sto) (hs : SmSt s) (h : sDownM s = none) : AC Tryz.prog 38 [stT s, .c (.fn 49 [])] noHp 0 ⟨.tup [zA, bT false], noHp, 0⟩ := by
  have k1 := storeOkI_ac s hs
  cases hv : storeS s
  · rw [hv] at k1
    refine AC_of Tryz.func38 rfl Tryz.ntmps38 Tryz.results38 (by kernel_rfl) rfl ?_
    simp only [List.zipIdx, List.map, Nat.zero_add, Nat.reduceAdd]
    repeat (first | apply Aw_seq | apply Aw_block | apply Aw_skip | apply Aw_exit | refine Aw_condt rfl ?_ | refine Aw_condf rfl ?_ | ((first | refine qr ?_ | refine qd (by kernel_rfl) (by kernel_rfl) ?_); simp only [go_sem, jE, reduceIte, jA, jM, jS, jL, jD, jB]) | refine dk (by kernel_rfl) ?_ | (refine qp (k1) (by simp only [go_sem, jE, reduceIte, jA, jM, jS, jL, jD, jB]; first | done | rfl) rfl (by simp only [go_sem, Nat.reduceLT]) rfl rfl ?_; simp only [go_sem, jE, reduceIte, jA, jM, jS, jL, jD, jB]))
    exact Aw_ret (ret0 (.inl rfl) (by simp only [go_sem, jE, reduceIte, jA, jM, jS, jL, jD, jB]; rfl) (by rfl) rfl)
  rw [hv] at k1
  unfold sDownM at h
  rw [hv, if_pos rfl] at h
  have kc := cloneP_ac s hs hv
  have kv := down_no s hs hv h
  refine AC_of Tryz.func38 rfl Tryz.ntmps38 Tryz.results38 (by kernel_rfl) rfl ?_
  simp only [List.zipIdx, List.map, Nat.zero_add, Nat.reduceAdd]
  repeat (first | apply Aw_seq | apply Aw_block | apply Aw_skip | apply Aw_exit | refine Aw_condt rfl ?_ | refine Aw_condf rfl ?_ | ((first | refine qr ?_ | refine qd (by kernel_rfl) (by kernel_rfl) ?_); simp only [go_sem, jE, reduceIte, jA, jM, jS, jL, jD, jB]) | refine dk (by kernel_rfl) ?_ | (refine qp (k1) (by simp only [go_sem, jE, reduceIte, jA, jM, jS, jL, jD, jB]; first | done | rfl) rfl (by simp only [go_sem, Nat.reduceLT]) rfl rfl ?_; simp only [go_sem, jE, reduceIte, jA, jM, jS, jL, jD, jB]) | (refine qx (call_N (L := []) (kc) rfl (.cons (.nm rfl) (.nil)) (.inl rfl) rfl) (by simp only [go_sem, jE, reduceIte, jA, jM, jS, jL, jD, jB]; first | done | rfl) rfl (by simp only [go_sem, Nat.reduceLT]) ?_; simp only [go_sem, jE, reduceIte, jA, jM, jS, jL, jD, jB]) | (refine ex_callv (by simp only [go_sem, jE, reduceIte, jA, jM, jS, jL, jD, jB]; first | done | rfl) (call_V (N' := [8, 6, 7]) (L := []) 1 (kv) rfl (.cons (.nm rfl) (.nil)) (by first | exact .nil | (simp only [capT, List.map]; exact .nil)) (by decide) (by decide) (by decide) (by simp only [go_sem, jE, reduceIte, jA, jM, jS, jL, jD, jB]; first | done | rfl) (.inl rfl) rfl (by decide)) (by simp only [go_sem, jE, reduceIte, jA, jM, jS, jL, jD, jB]; first | done | rfl) rfl (by simp only [go_sem, Nat.reduceLT]) ?_; simp only [go_sem, jE, reduceIte, jA, jM, jS, jL, jD, jB]))
  exact Aw_ret (ret0 (.inl rfl) (by simp only [go_sem, jE, reduceIte, jA, jM, jS, jL, jD, jB]; rfl) (by rfl) rfl)
theorem storeDown_ac (s : Sto) (hs : SmSt s) : AC Tryz.prog 16 [stT s] noHp 0 ⟨resO (sDownM s), noHp, 0⟩ := by
  cases h : sDownM s with
  | none =>
    refine AC.nilR (x := .tup [zA, bT false]) ?_ zA_nil
    have kk := chgDown_no s hs h
    refine AC_of Tryz.func16 rfl Tryz.ntmps16 Tryz.results16 (by kernel_rfl) rfl ?_
    simp only [List.zipIdx, List.map, Nat.zero_add, Nat.reduceAdd]
    repeat (first | apply Aw_seq | apply Aw_block | apply Aw_skip | apply Aw_exit | refine Aw_condt rfl ?_ | refine Aw_condf rfl ?_ | ((first | refine qr ?_ | refine qd (by kernel_rfl) (by kernel_rfl) ?_); simp only [go_sem, jE, reduceIte, jA, jM, jS, jL, jD, jB]) | refine dk (by kernel_rfl) ?_ | (refine qp (kk) (by simp only [go_sem, jE, reduceIte, jA, jM, jS, jL, jD, jB]; first | done | rfl) rfl (by simp only [go_sem, Nat.reduceLT]) rfl rfl ?_; simp only [go_sem, jE, reduceIte, jA, jM, jS, jL, jD, jB]))
    exact Aw_ret (ret0 (.inl rfl) (by simp only [go_sem, jE, reduceIte, jA, jM, jS, jL, jD, jB]; rfl) (by rfl) rfl)
  | some s' =>
    have hv : storeS s = true := by
      unfold sDownM at h
      split at h
      · assumption
      · cases h
    have kk := chgDown_ok s s' hs hv (by unfold sDownM at h; rw [hv, if_pos rfl] at h; exact h)
    refine AC_of Tryz.func16 rfl Tryz.ntmps16 Tryz.results16 (by kernel_rfl) rfl ?_
    simp only [List.zipIdx, List.map, Nat.zero_add, Nat.reduceAdd]
    repeat (first | apply Aw_seq | apply Aw_block | apply Aw_skip | apply Aw_exit | refine Aw_condt rfl ?_ | refine Aw_condf rfl ?_ | ((first | refine qr ?_ | refine qd (by kernel_rfl) (by kernel_rfl) ?_); simp only [go_sem, jE, reduceIte, jA, jM, jS, jL, jD, jB]) | refine dk (by kernel_rfl) ?_ | (refine qp (kk) (by simp only [go_sem, jE, reduceIte, jA, jM, jS, jL, jD, jB]; first | done | rfl) rfl (by simp only [go_sem, Nat.reduceLT]) rfl rfl ?_; simp only [go_sem, jE, reduceIte, jA, jM, jS, jL, jD, jB]))
    exact Aw_ret (ret0 (.inl rfl) (by simp only [go_sem, jE, reduceIte, jA, jM, jS, jL, jD, jB]; rfl) (by rfl) rfl)
theorem tm_at {ts : List Int} {now : Int} (h : timesM ts now = true) : ts.length ≤ 3 ∧ (∀ t ∈ ts, 0 ≤ t ∧ t ≤ now) ∧ ∀ i, (hi : i + 1 < ts.length) → ts[i] < ts[i + 1] := by
  unfold timesM at h
  rw [Bool.and_eq_true] at h
  have h1 := allI_iff.1 h.1
  refine ⟨of_decide_eq_true h.2, fun t ht => ?_, fun i hi => ?_⟩
  · obtain ⟨i, hi, rfl⟩ := List.getElem_of_mem ht
    have := h1 i hi
    unfold tmAt at this
    rw [List.getElem?_eq_getElem hi] at this
    simp only [Bool.and_eq_true] at this
    have := this.1
    unfold inB at this
    rw [Bool.and_eq_true] at this
    exact ⟨of_decide_eq_true this.1, of_decide_eq_true this.2⟩
  · have := h1 (i + 1) hi
    unfold tmAt at this
    rw [List.getElem?_eq_getElem hi] at this
    simp only [Bool.and_eq_true] at this
    have := this.2
    rw [List.getElem?_eq_getElem (show i < ts.length by omega)] at this
    simp at this
    exact this
theorem tm_lt {ts : List Int} {now : Int} (h : timesM ts now = true) : ∀ (j i : Nat) (hij : i < j) (hj : j < ts.length), ts[i] < ts[j]
  | 0, i, hij, _ => by omega
  | j + 1, i, hij, hj => by
    have h1 := (tm_at h).2.2 j hj
    rcases Nat.lt_succ_iff_lt_or_eq.1 hij with c | rfl
    · have := tm_lt h j i c (by omega); omega
    · exact h1
def holdI (s : Sto) : Option Sto := if (s.times.any fun x => decide (s.time = x)) = true then some s else if s.times.length + 1 ≤ 3 then some { s with times := s.times ++ [s.time] } else none
theorem hold_eq {s : Sto} (hv : storeS s = true) : holdM s = holdI s := by
  obtain ⟨_, _, _, _, _, h6, _⟩ := storeS_facts hv
  unfold inB at h6
  rw [Bool.and_eq_true] at h6
  have t0 := of_decide_eq_true h6.1
  have ht : timesM s.times s.time = true := by
    unfold storeS headS at hv
    simp only [Bool.and_eq_true] at hv
    exact hv.1.1.1.2
  obtain ⟨a1, a2, a3⟩ := tm_at ht
  unfold holdM holdI
  rw [if_pos hv]
  by_cases c : (s.times.any fun x => decide (s.time = x)) = true
  · rw [if_pos c]
    obtain ⟨x, hx, e⟩ := List.any_eq_true.1 c
    have e := of_decide_eq_true e
    subst e
    obtain ⟨i, hi, hxi⟩ := List.getElem_of_mem hx
    have hl : s.times.getLast? = some s.time := by
      rw [List.getLast?_eq_getElem?, List.getElem?_eq_getElem (by omega)]
      congr 1
      rcases Nat.lt_or_ge i (s.times.length - 1) with q | q
      · have := tm_lt ht (s.times.length - 1) i q (by omega)
        have := (a2 _ (List.getElem_mem (show s.times.length - 1 < s.times.length by omega))).2
        omega
      · have : i = s.times.length - 1 := by omega
        subst this; exact hxi
    have e2 : heldTs s = s.times := by unfold heldTs; rw [if_pos hl]
    rw [e2, if_pos ht]
  · rw [if_neg c]
    have hne : ∀ t ∈ s.times, t ≠ s.time := fun t htm e => c (List.any_eq_true.2 ⟨t, htm, decide_eq_true e.symm⟩)
    have hl : ¬ s.times.getLast? = some s.time := fun e => hne _ (List.mem_of_getLast? e) rfl
    have e2 : heldTs s = s.times ++ [s.time] := by unfold heldTs; rw [if_neg hl]
    rw [e2]
    have e3 : timesM (s.times ++ [s.time]) s.time = decide (s.times.length + 1 ≤ 3) := by
      rw [tm_end]
      · rw [List.length_append, List.length_singleton]; exact decide_eq_decide.2 (by omega)
      · intro j hj
        rw [List.length_append, List.length_singleton] at hj
        unfold tmAt
        have hget : ∀ q, (hq : q < s.times.length) → (s.times ++ [s.time])[q]? = some s.times[q] := fun q hq => by rw [List.getElem?_append_left hq, List.getElem?_eq_getElem hq]
        rcases Nat.lt_or_ge j s.times.length with q | q
        · rw [hget j q]
          simp only [Bool.and_eq_true]
          have := a2 _ (List.getElem_mem q)
          refine ⟨by unfold inB; simp; omega, ?_⟩
          cases j with
          | zero => rfl
          | succ j =>
            simp only
            rw [hget j (by omega)]
            have := a3 j q
            simp; omega
        · obtain rfl : j = s.times.length := by omega
          rw [List.getElem?_append_right (Nat.le_refl _), Nat.sub_self]
          simp only [List.getElem?_cons_zero, Bool.and_eq_true]
          refine ⟨by unfold inB; simp; omega, ?_⟩
          cases hn : s.times.length with
          | zero => rfl
          | succ n =>
            simp only
            rw [hget n (by omega)]
            have hm := List.getElem_mem (show n < s.times.length by omega)
            have := a2 _ hm
            have := hne _ hm
            simp; omega
    rw [e3]
    by_cases q : s.times.length + 1 ≤ 3
    · rw [decide_eq_true q, if_pos rfl, if_pos q]
    · rw [decide_eq_false q, if_neg (by simp), if_neg q]
theorem cloneT_ac (s : Sto) (hs : SmSt s) (hv : storeS s = true) : AC Tryz.prog 94 [stT s] noHp 0 ⟨.t (.agg [.d (.rs 4 (s.top.map entD)), .d (.rs 1 (s.levels.map lvD)), .d (.rs 5 (s.sieves.map sveD)), .d (.s (.int .i64 s.keep)), .d (.s (.int .i64 s.time)), .h 0]), hpL [some (tmRow s.times)], 1⟩ := by
  obtain ⟨l1, l2, l3, l4, l5, _⟩ := storeS_facts hv
  have hrl := hs.rl
  obtain ⟨top, levels, sieves, keep, time, ts⟩ := s
  obtain ⟨a, b, c, rfl⟩ := len3 l1
  obtain ⟨x, y, z, rfl⟩ := len3 l2
  have ha := l5 a (by simp)
  have hb := l5 b (by simp)
  have hc := l5 c (by simp)
  dsimp only at l3 l4
  have k := storeClone_ac top a b c x y z keep time ts (by omega) (by omega) (by omega) (by omega) (hrl x (by simp)) (hrl y (by simp)) (hrl z (by simp)) (by omega)
  unfold cloS svN at k
  have h := AC.setS [4, 5, 6, 7, 8, 9] k (y := .t (.agg [.h 0, .h 1, .h 2, .d (.s (.int .i64 keep)), .d (.s (.int .i64 time)), .h 3])) (os' := [some (eRow top), some (lvRow [a, b, c]), some (svRow [x, y, z]), some (tmRow ts)])
    (.cons (.inl rfl) (.cons (.inl rfl) (.cons (.inl rfl) (.cons (.inl rfl) (.cons (.inl rfl) (.cons (.inl rfl) .nil))))))
    ⟨.inl rfl, rfl, .inr ⟨rfl, rfl, rfl, .cons (.cons (SetC.row0 rfl rfl) .nil) (.cons (.cons (SetC.row0 rfl rfl) .nil) (.cons (.cons (SetC.row0 rfl rfl) .nil) .nil))⟩, rfl,
      .inr ⟨rfl, rfl, rfl, .cons (.cons (.inl rfl) (.cons (.inl rfl) (.cons (.inl rfl) (.cons (SetC.row0 rfl rfl) (.cons (.inl rfl) .nil))))) (.cons (.cons (.inl rfl) (.cons (.inl rfl) (.cons (.inl rfl) (.cons (SetC.row0 rfl rfl) (.cons (.inl rfl) .nil))))) (.cons (.cons (.inl rfl) (.cons (.inl rfl) (.cons (.inl rfl) (.cons (SetC.row0 rfl rfl) (.cons (.inl rfl) .nil))))) .nil))⟩, rfl, .inl rfl, rfl, trivial⟩
  have h2 := AC.setS [0, 1, 2] h (y := .t (.agg [.d (.rs 4 (top.map entD)), .d (.rs 1 ([a, b, c].map lvD)), .d (.rs 5 ([x, y, z].map sveD)), .d (.s (.int .i64 keep)), .d (.s (.int .i64 time)), .h 3])) (os' := [none, none, none, some (tmRow ts)])
    (.cons (SetC.row0 rfl rfl) (.cons (SetC.row0 rfl rfl) (.cons (SetC.row0 rfl rfl) (.cons (.inl rfl) (.cons (.inl rfl) (.cons (.inl rfl) .nil)))))) ⟨.inl rfl, rfl, trivial⟩
  refine AC.sel (M := [3]) h2 rfl rfl (selL rfl ?_) (by decide) fun m hm => absurd hm (by omega)
  simp only [go_sem, LeftL]
theorem arg_qS {hp : Hp} {N' L : List Nat} {a : Nat} {s : Sto} (ha : hp a = some (tmRow s.times)) (hL : a ∈ L) :
    Arg hp N' L (.agg [.d (.rs 4 (s.top.map entD)), .d (.rs 1 (s.levels.map lvD)), .d (.rs 5 (s.sieves.map sveD)), .d (.s (.int .i64 s.keep)), .d (.s (.int .i64 s.time)), .h a]) (stT s) := by
  refine .ln (n := 1) ?_ ?_
  · have e1 := lend_dRow (hp := hp) ha 0
    have e5 : ∀ x, lendC hp (0 + 1) (.d x) = some x := fun _ => rfl
    show (([.d (.rs 4 (s.top.map entD)), .d (.rs 1 (s.levels.map lvD)), .d (.rs 5 (s.sieves.map sveD)), .d (.s (.int .i64 s.keep)), .d (.s (.int .i64 s.time)), .h a] : List CV).mapM (lendC hp (0 + 1))).map _ = _
    simp only [List.mapM_cons, List.mapM_nil, e1, e5]
    rfl
  · intro z hz m hm
    simp only [TV.cells, List.mem_cons, List.not_mem_nil, or_false] at hz
    rcases hz with rfl | rfl | rfl | rfl | rfl | rfl
    · simp [lendN] at hm
    · simp [lendN] at hm
    · simp [lendN] at hm
    · simp [lendN] at hm
    · simp [lendN] at hm
    · rw [lendN_dRow ha 0 m hm]; exact hL
def qO (s : Sto) : Obj := ⟨28, 6, false, [[.d (.rs 4 (s.top.map entD)), .d (.rs 1 (s.levels.map lvD)), .d (.rs 5 (s.sieves.map sveD)), .d (.s (.int .i64 s.keep)), .d (.s (.int .i64 s.time)), .h 1]]⟩
@[go_sem] theorem r_qO (s : Sto) : qO s = ⟨28, 6, false, [[.d (.rs 4 (s.top.map entD)), .d (.rs 1 (s.levels.map lvD)), .d (.rs 5 (s.sieves.map sveD)), .d (.s (.int .i64 s.keep)), .d (.s (.int .i64 s.time)), .h 1]]⟩ := rfl
def qO2 (s : Sto) : Obj := ⟨28, 6, false, [[.d (.rs 4 (s.top.map entD)), .d (.rs 1 (s.levels.map lvD)), .d (.rs 5 (s.sieves.map sveD)), .d (.s (.int .i64 s.keep)), .d (.s (.int .i64 s.time)), .h 2]]⟩
@[go_sem] theorem r_qO2 (s : Sto) : qO2 s = ⟨28, 6, false, [[.d (.rs 4 (s.top.map entD)), .d (.rs 1 (s.levels.map lvD)), .d (.rs 5 (s.sieves.map sveD)), .d (.s (.int .i64 s.keep)), .d (.s (.int .i64 s.time)), .h 2]]⟩ := rfl
theorem hold_ok (s s' : Sto) (hl : s.times.length ≤ 3) (h : holdI s = some s') : AC Tryz.prog 50 [.c (.ph 0 0 0)] (hpL [some (qO s), some (tmRow s.times)]) 2 ⟨.t (bT true), hpL [some (qO2 s'), none, some (tmRow s'.times)], 3⟩ := by
  have k := (contains_ac s.times s.time (by omega)).toL0
  unfold holdI at h
  by_cases c : (s.times.any fun x => decide (s.time = x)) = true
  · rw [if_pos c, Option.some.injEq] at h
    subst h
    rw [c] at k
    refine AC_of Tryz.func50 rfl Tryz.ntmps50 Tryz.results50 (by kernel_rfl) rfl ?_
    simp only [List.zipIdx, List.map, Nat.zero_add, Nat.reduceAdd]
    repeat (first | apply Aw_seq | apply Aw_block | apply Aw_skip | apply Aw_exit | refine Aw_condt rfl ?_ | refine Aw_condf rfl ?_ | ((first | refine qr ?_ | refine qd (by kernel_rfl) (by kernel_rfl) ?_); simp only [go_sem, jE, reduceIte, jA, jM, jS, jL, jD, jB]) | refine dk (by kernel_rfl) ?_ | (refine qx (call_N (L := [1]) (k) rfl (.cons (arg_lend (m := 1) rfl (by simp)) (.cons (.nm rfl) (.nil))) (.inr ⟨rfl, by simp⟩) rfl) (by simp only [go_sem, jE, reduceIte, jA, jM, jS, jL, jD, jB]; first | done | rfl) rfl (by simp only [go_sem, Nat.reduceLT]) ?_; simp only [go_sem, jE, reduceIte, jA, jM, jS, jL, jD, jB]))
    exact Aw_ret (retL (M := [0, 1, 1]) (.inl rfl) (by simp only [go_sem, jE, reduceIte, jA, jM, jS, jL, jD, jB]; first | done | rfl) rfl rfl (by rfl) (by simp only [go_sem, jE, reduceIte, jA, jM, jS, jL, jD, jB]; first | done | rfl | (and_intros <;> rfl)) (by decide) (by unfold idM; decide))
  · rw [if_neg c] at h
    rw [Bool.not_eq_true] at c
    rw [c] at k
    split at h
    · rename_i q
      obtain rfl := Option.some.inj h
      have hq : (s.times.length + 1) * 8 ≤ 140737488355328 := by omega
      have g : decide (((s.times.length + 1 : Nat) : Int) ≤ 3) = true := decide_eq_true (by omega)
      refine AC_of Tryz.func50 rfl Tryz.ntmps50 Tryz.results50 (by kernel_rfl) rfl ?_
      simp only [List.zipIdx, List.map, Nat.zero_add, Nat.reduceAdd]
      repeat (first | apply Aw_seq | apply Aw_block | apply Aw_skip | apply Aw_exit | refine Aw_condt rfl ?_ | refine Aw_condf rfl ?_ | ((first | refine qr ?_ | refine qd (by kernel_rfl) (by kernel_rfl) ?_); simp only [go_sem, jE, reduceIte, jA, jM, jS, jL, jD, jB, hq, g]) | refine dk (by kernel_rfl) ?_ | (refine qx (call_N (L := [1]) (k) rfl (.cons (arg_lend (m := 1) rfl (by simp)) (.cons (.nm rfl) (.nil))) (.inr ⟨rfl, by simp⟩) rfl) (by simp only [go_sem, jE, reduceIte, jA, jM, jS, jL, jD, jB, hq, g]; first | done | rfl) rfl (by simp only [go_sem, Nat.reduceLT]) ?_; simp only [go_sem, jE, reduceIte, jA, jM, jS, jL, jD, jB, hq, g]))
      exact Aw_ret (retL (M := [0, 1, 21]) (.inl rfl) (by simp only [go_sem, jE, reduceIte, jA, jM, jS, jL, jD, jB]; first | done | rfl) rfl rfl (by rfl) (by simp only [go_sem, jE, reduceIte, jA, jM, jS, jL, jD, jB, List.map_append, List.map_cons, List.map_nil]; first | done | rfl | (and_intros <;> rfl)) (by decide) (by unfold idM; decide))
    · cases h
theorem hold_no (s : Sto) (hl : s.times.length ≤ 3) (h : holdI s = none) : AC Tryz.prog 50 [.c (.ph 0 0 0)] (hpL [some (qO s), some (tmRow s.times)]) 2 ⟨.t (bT false), hpL [none, none], 2⟩ := by
  have k := (contains_ac s.times s.time (by omega)).toL0
  unfold holdI at h
  by_cases c : (s.times.any fun x => decide (s.time = x)) = true
  · rw [if_pos c] at h; cases h
  · rw [if_neg c] at h
    rw [Bool.not_eq_true] at c
    rw [c] at k
    split at h
    · cases h
    · rename_i q
      have hq : (s.times.length + 1) * 8 ≤ 140737488355328 := by omega
      have g : decide (((s.times.length + 1 : Nat) : Int) ≤ 3) = false := decide_eq_false (by omega)
      refine AC_of Tryz.func50 rfl Tryz.ntmps50 Tryz.results50 (by kernel_rfl) rfl ?_
      simp only [List.zipIdx, List.map, Nat.zero_add, Nat.reduceAdd]
      repeat (first | apply Aw_seq | apply Aw_block | apply Aw_skip | apply Aw_exit | refine Aw_condt rfl ?_ | refine Aw_condf rfl ?_ | ((first | refine qr ?_ | refine qd (by kernel_rfl) (by kernel_rfl) ?_); simp only [go_sem, jE, reduceIte, jA, jM, jS, jL, jD, jB, hq, g]) | refine dk (by kernel_rfl) ?_ | (refine qx (call_N (L := [1]) (k) rfl (.cons (arg_lend (m := 1) rfl (by simp)) (.cons (.nm rfl) (.nil))) (.inr ⟨rfl, by simp⟩) rfl) (by simp only [go_sem, jE, reduceIte, jA, jM, jS, jL, jD, jB, hq, g]; first | done | rfl) rfl (by simp only [go_sem, Nat.reduceLT]) ?_; simp only [go_sem, jE, reduceIte, jA, jM, jS, jL, jD, jB, hq, g]))
      exact Aw_ret (retL (M := [0, 1]) (.inl rfl) (by simp only [go_sem, jE, reduceIte, jA, jM, jS, jL, jD, jB]; first | done | rfl) rfl rfl (by rfl) (by simp only [go_sem, jE, reduceIte, jA, jM, jS, jL, jD, jB]; first | done | rfl | (and_intros <;> rfl)) (by decide) (by unfold idM; decide))
theorem holdI_sm {s s' : Sto} (hs : SmSt s) (hv : storeS s = true) (h : holdI s = some s') : SmSt s' ∧ SmH s' ∧ s'.top.length ≤ 5 := by
  obtain ⟨_, _, l3, l4, _⟩ := storeS_facts hv
  have sm := valid_sm hs hv
  unfold holdI at h
  split at h
  · obtain rfl := Option.some.inj h
    exact ⟨hs, sm, by omega⟩
  · split at h
    · obtain rfl := Option.some.inj h
      have hl : (s.times ++ [s.time]).length ≤ 1000 := by rw [List.length_append]; simp; omega
      exact ⟨⟨hs.top, hs.lev, hs.ll, hs.sl, hs.rl, by show (s.times ++ [s.time]).length ≤ _; omega⟩, ⟨sm.ll, sm.sl, sm.lev, hl⟩, by show s.top.length ≤ 5; omega⟩
    · cases h
theorem chgHold_own (s : Sto) (hs : SmSt s) (hv : storeS s = true) (top a b c : List Ent) (x y z : Sve) (keep time : Int) (ts : List Int) (h : holdI s = some ⟨top, [a, b, c], [x, y, z], keep, time, ts⟩) : AC Tryz.prog 38 [stT s, .c (.fn 50 [])] noHp 0 ⟨.tup [.agg [.h 0, .h 1, .h 2, .d (.s (.int .i64 keep)), .d (.s (.int .i64 time)), .h 3], bT true], hpL (cloS top a b c x y z ts), 10⟩ := by
  have k1 := storeOkI_ac s hs
  rw [hv] at k1
  have kc := cloneT_ac s hs hv
  have kv := hold_ok s ⟨top, [a, b, c], [x, y, z], keep, time, ts⟩ (by have := storeS_facts hv; omega) h
  obtain ⟨st, g, gt⟩ := holdI_sm hs hv h
  have hrl := st.rl
  have hlv := g.lev
  have htl := g.tl
  dsimp only at hrl hlv htl gt
  have kf := storeClone_ac top a b c x y z keep time ts (by omega) (by have := (hlv a (by simp)).2; omega) (by have := (hlv b (by simp)).2; omega) (by have := (hlv c (by simp)).2; omega) (hrl x (by simp)) (hrl y (by simp)) (hrl z (by simp)) (by omega)
  unfold cloS svN at kf
  unfold cloS svN
  have arS : ∀ {hp : Hp} {N' L : List Nat} (p : Nat), hp p = some (tmRow ts) → p ∈ L → Arg hp N' L (.agg [.d (.rs 4 (top.map entD)), .d (.rs 1 ([a, b, c].map lvD)), .d (.rs 5 ([x, y, z].map sveD)), .d (.s (.int .i64 keep)), .d (.s (.int .i64 time)), .h p]) (stT ⟨top, [a, b, c], [x, y, z], keep, time, ts⟩) := fun p h1 h3 => arg_qS (s := ⟨top, [a, b, c], [x, y, z], keep, time, ts⟩) h1 h3
  refine AC_of Tryz.func38 rfl Tryz.ntmps38 Tryz.results38 (by kernel_rfl) rfl ?_
  simp only [List.zipIdx, List.map, Nat.zero_add, Nat.reduceAdd]
  repeat (first | apply Aw_seq | apply Aw_block | apply Aw_skip | apply Aw_exit | refine Aw_condt rfl ?_ | refine Aw_condf rfl ?_ | ((first | refine qr ?_ | refine qd (by kernel_rfl) (by kernel_rfl) ?_); simp only [go_sem, jE, reduceIte, jA, jM, jS, jL, jD, jB]) | refine dk (by kernel_rfl) ?_ | (refine qp (k1) (by simp only [go_sem, jE, reduceIte, jA, jM, jS, jL, jD, jB]; first | done | rfl) rfl (by simp only [go_sem, Nat.reduceLT]) rfl rfl ?_; simp only [go_sem, jE, reduceIte, jA, jM, jS, jL, jD, jB]) | (refine qx (call_N (L := []) (kc) rfl (.cons (.nm rfl) (.nil)) (.inl rfl) rfl) (by simp only [go_sem, jE, reduceIte, jA, jM, jS, jL, jD, jB]; first | done | rfl) rfl (by simp only [go_sem, Nat.reduceLT]) ?_; simp only [go_sem, jE, reduceIte, jA, jM, jS, jL, jD, jB]) | (refine qx (call_N (L := [10]) (kf) rfl (.cons (arS 10 rfl (by simp)) (.nil)) (.inr ⟨rfl, by simp⟩) rfl) (by simp only [go_sem, jE, reduceIte, jA, jM, jS, jL, jD, jB]; first | done | rfl) rfl (by simp only [go_sem, Nat.reduceLT]) ?_; simp only [go_sem, jE, reduceIte, jA, jM, jS, jL, jD, jB]) | (refine ex_callv (by simp only [go_sem, jE, reduceIte, jA, jM, jS, jL, jD, jB]; first | done | rfl) (call_V (N' := [7, 6]) (L := []) 1 (kv) rfl (.cons (.nm rfl) (.nil)) (by first | exact .nil | (simp only [capT, List.map]; exact .nil)) (by decide) (by decide) (by decide) (by simp only [go_sem, jE, reduceIte, jA, jM, jS, jL, jD, jB]; first | done | rfl) (.inl rfl) rfl (by decide)) (by simp only [go_sem, jE, reduceIte, jA, jM, jS, jL, jD, jB]; first | done | rfl) rfl (by simp only [go_sem, Nat.reduceLT]) ?_; simp only [go_sem, jE, reduceIte, jA, jM, jS, jL, jD, jB]))
  exact Aw_ret (retL (M := [13, 14, 15, 16, 17, 18, 19, 20, 21, 22]) (.inl rfl) (by simp only [go_sem, jE, reduceIte, jA, jM, jS, jL, jD, jB]; first | done | rfl) rfl rfl (by rfl) (by simp only [go_sem, jE, reduceIte, jA, jM, jS, jL, jD, jB]; first | done | rfl | (and_intros <;> rfl)) (by decide) (by unfold idM; decide))
theorem chgHold_ok (s s' : Sto) (hs : SmSt s) (hv : storeS s = true) (h : holdI s = some s') : AC Tryz.prog 38 [stT s, .c (.fn 50 [])] noHp 0 ⟨.tup [stT s', bT true], noHp, 0⟩ := by
  obtain ⟨st, g, gt⟩ := holdI_sm hs hv h
  obtain ⟨top, levels, sieves, keep, time, ts⟩ := s'
  obtain ⟨a, b, c, rfl⟩ := len3 g.ll
  obtain ⟨x, y, z, rfl⟩ := len3 g.sl
  have kk := chgHold_own s hs hv top a b c x y z keep time ts h
  unfold cloS svN at kk
  have h1 := AC.setS [4, 5, 6, 7, 8, 9] kk (y := .tup [.agg [.h 0, .h 1, .h 2, .d (.s (.int .i64 keep)), .d (.s (.int .i64 time)), .h 3], bT true]) (os' := [some (eRow top), some (lvRow [a, b, c]), some (svRow [x, y, z]), some (tmRow ts)])
    (.cons (.cons (.inl rfl) (.cons (.inl rfl) (.cons (.inl rfl) (.cons (.inl rfl) (.cons (.inl rfl) (.cons (.inl rfl) .nil)))))) (.cons (.inl rfl) .nil))
    ⟨.inl rfl, rfl, .inr ⟨rfl, rfl, rfl, .cons (.cons (SetC.row0 rfl rfl) .nil) (.cons (.cons (SetC.row0 rfl rfl) .nil) (.cons (.cons (SetC.row0 rfl rfl) .nil) .nil))⟩, rfl,
      .inr ⟨rfl, rfl, rfl, .cons (.cons (.inl rfl) (.cons (.inl rfl) (.cons (.inl rfl) (.cons (SetC.row0 rfl rfl) (.cons (.inl rfl) .nil))))) (.cons (.cons (.inl rfl) (.cons (.inl rfl) (.cons (.inl rfl) (.cons (SetC.row0 rfl rfl) (.cons (.inl rfl) .nil))))) (.cons (.cons (.inl rfl) (.cons (.inl rfl) (.cons (.inl rfl) (.cons (SetC.row0 rfl rfl) (.cons (.inl rfl) .nil))))) .nil))⟩, rfl, .inl rfl, rfl, trivial⟩
  exact AC.settle0 [0, 1, 2, 3] h1
    (.cons (.cons (SetC.row0 rfl rfl) (.cons (SetC.row0 rfl rfl) (.cons (SetC.row0 rfl rfl) (.cons (.inl rfl) (.cons (.inl rfl) (.cons (SetC.row0 rfl rfl) .nil)))))) (.cons (.inl rfl) .nil)) rfl
theorem chgHold_no (s : Sto) (hs : SmSt s) (h : holdM s = none) : AC Tryz.prog 38 [stT s, .c (.fn 50 [])] noHp 0 ⟨.tup [zA, bT false], noHp, 0⟩ := by
  have k1 := storeOkI_ac s hs
  cases hv : storeS s
  · rw [hv] at k1
    refine AC_of Tryz.func38 rfl Tryz.ntmps38 Tryz.results38 (by kernel_rfl) rfl ?_
    simp only [List.zipIdx, List.map, Nat.zero_add, Nat.reduceAdd]
    repeat (first | apply Aw_seq | apply Aw_block | apply Aw_skip | apply Aw_exit | refine Aw_condt rfl ?_ | refine Aw_condf rfl ?_ | ((first | refine qr ?_ | refine qd (by kernel_rfl) (by kernel_rfl) ?_); simp only [go_sem, jE, reduceIte, jA, jM, jS, jL, jD, jB]) | refine dk (by kernel_rfl) ?_ | (refine qp (k1) (by simp only [go_sem, jE, reduceIte, jA, jM, jS, jL, jD, jB]; first | done | rfl) rfl (by simp only [go_sem, Nat.reduceLT]) rfl rfl ?_; simp only [go_sem, jE, reduceIte, jA, jM, jS, jL, jD, jB]))
    exact Aw_ret (ret0 (.inl rfl) (by simp only [go_sem, jE, reduceIte, jA, jM, jS, jL, jD, jB]; rfl) (by rfl) rfl)
  rw [hv] at k1
  rw [hold_eq hv] at h
  have kc := cloneT_ac s hs hv
  have kv := hold_no s (by have := storeS_facts hv; omega) h
  refine AC_of Tryz.func38 rfl Tryz.ntmps38 Tryz.results38 (by kernel_rfl) rfl ?_
  simp only [List.zipIdx, List.map, Nat.zero_add, Nat.reduceAdd]
  repeat (first | apply Aw_seq | apply Aw_block | apply Aw_skip | apply Aw_exit | refine Aw_condt rfl ?_ | refine Aw_condf rfl ?_ | ((first | refine qr ?_ | refine qd (by kernel_rfl) (by kernel_rfl) ?_); simp only [go_sem, jE, reduceIte, jA, jM, jS, jL, jD, jB]) | refine dk (by kernel_rfl) ?_ | (refine qp (k1) (by simp only [go_sem, jE, reduceIte, jA, jM, jS, jL, jD, jB]; first | done | rfl) rfl (by simp only [go_sem, Nat.reduceLT]) rfl rfl ?_; simp only [go_sem, jE, reduceIte, jA, jM, jS, jL, jD, jB]) | (refine qx (call_N (L := []) (kc) rfl (.cons (.nm rfl) (.nil)) (.inl rfl) rfl) (by simp only [go_sem, jE, reduceIte, jA, jM, jS, jL, jD, jB]; first | done | rfl) rfl (by simp only [go_sem, Nat.reduceLT]) ?_; simp only [go_sem, jE, reduceIte, jA, jM, jS, jL, jD, jB]) | (refine ex_callv (by simp only [go_sem, jE, reduceIte, jA, jM, jS, jL, jD, jB]; first | done | rfl) (call_V (N' := [7, 6]) (L := []) 1 (kv) rfl (.cons (.nm rfl) (.nil)) (by first | exact .nil | (simp only [capT, List.map]; exact .nil)) (by decide) (by decide) (by decide) (by simp only [go_sem, jE, reduceIte, jA, jM, jS, jL, jD, jB]; first | done | rfl) (.inl rfl) rfl (by decide)) (by simp only [go_sem, jE, reduceIte, jA, jM, jS, jL, jD, jB]; first | done | rfl) rfl (by simp only [go_sem, Nat.reduceLT]) ?_; simp only [go_sem, jE, reduceIte, jA, jM, jS, jL, jD, jB]))
  exact Aw_ret (ret0 (.inl rfl) (by simp only [go_sem, jE, reduceIte, jA, jM, jS, jL, jD, jB]; rfl) (by rfl) rfl)
theorem storeHold_ac (s : Sto) (hs : SmSt s) : AC Tryz.prog 17 [stT s] noHp 0 ⟨resH (holdM s), noHp, 0⟩ := by
  cases h : holdM s with
  | none =>
    refine AC.nilR (x := zH) ?_ zH_nil
    have kk := chgHold_no s hs h
    refine AC_of Tryz.func17 rfl Tryz.ntmps17 Tryz.results17 (by kernel_rfl) rfl ?_
    simp only [List.zipIdx, List.map, Nat.zero_add, Nat.reduceAdd]
    repeat (first | apply Aw_seq | apply Aw_block | apply Aw_skip | apply Aw_exit | refine Aw_condt rfl ?_ | refine Aw_condf rfl ?_ | ((first | refine qr ?_ | refine qd (by kernel_rfl) (by kernel_rfl) ?_); simp only [go_sem, jE, reduceIte, jA, jM, jS, jL, jD, jB]) | refine dk (by kernel_rfl) ?_ | (refine qp (kk) (by simp only [go_sem, jE, reduceIte, jA, jM, jS, jL, jD, jB]; first | done | rfl) rfl (by simp only [go_sem, Nat.reduceLT]) rfl rfl ?_; simp only [go_sem, jE, reduceIte, jA, jM, jS, jL, jD, jB]))
    exact Aw_ret (ret0 (.inl rfl) (by simp only [go_sem, jE, reduceIte, jA, jM, jS, jL, jD, jB]; rfl) (by rfl) rfl)
  | some s' =>
    have hv : storeS s = true := by
      unfold holdM at h
      split at h
      · assumption
      · cases h
    have kk := chgHold_ok s s' hs hv (by rw [← hold_eq hv]; exact h)
    refine AC_of Tryz.func17 rfl Tryz.ntmps17 Tryz.results17 (by kernel_rfl) rfl ?_
    simp only [List.zipIdx, List.map, Nat.zero_add, Nat.reduceAdd]
    repeat (first | apply Aw_seq | apply Aw_block | apply Aw_skip | apply Aw_exit | refine Aw_condt rfl ?_ | refine Aw_condf rfl ?_ | ((first | refine qr ?_ | refine qd (by kernel_rfl) (by kernel_rfl) ?_); simp only [go_sem, jE, reduceIte, jA, jM, jS, jL, jD, jB]) | refine dk (by kernel_rfl) ?_ | (refine qp (kk) (by simp only [go_sem, jE, reduceIte, jA, jM, jS, jL, jD, jB]; first | done | rfl) rfl (by simp only [go_sem, Nat.reduceLT]) rfl rfl ?_; simp only [go_sem, jE, reduceIte, jA, jM, jS, jL, jD, jB]))
    exact Aw_ret (ret0 (.inl rfl) (by simp only [go_sem, jE, reduceIte, jA, jM, jS, jL, jD, jB]; rfl) (by rfl) rfl)
theorem free_keep (ts : List Int) (t : Int) : freeTs ts t = keepT ts t := by
  unfold freeTs keepT
  have key : ∀ n, n ≤ ts.length → colI n (freeAt ts t) = (ts.take n).filter fun x => !decide (x = t) := by
    intro n
    induction n with
    | zero => intro _; rfl
    | succ n ih =>
      intro h
      have hx := List.getElem?_eq_getElem (show n < ts.length by omega)
      rw [colI_succ, ih (by omega), List.take_add_one, hx, List.filter_append]
      congr 1
      unfold freeAt
      rw [hx]
      by_cases c : ts[n] = t <;> simp [c]
  rw [key _ (Nat.le_refl _), List.take_length]
def freeI (s : Sto) (t : Int) : Option Sto := if (keepT s.times t).length < s.times.length then some { s with times := keepT s.times t } else none
theorem free_eq {s : Sto} (hv : storeS s = true) (t : Int) : freeM s t = freeI s t := by
  have hle : (keepT s.times t).length ≤ s.times.length := List.length_filter_le _ _
  unfold freeM freeI
  rw [if_pos hv, free_keep]
  by_cases c : (keepT s.times t).length = s.times.length
  · rw [if_pos c, if_neg (by omega)]
  · rw [if_neg c, if_pos (by omega)]
def qO3 (s : Sto) : Obj := ⟨28, 6, false, [[.d (.rs 4 (s.top.map entD)), .d (.rs 1 (s.levels.map lvD)), .d (.rs 5 (s.sieves.map sveD)), .d (.s (.int .i64 s.keep)), .d (.s (.int .i64 s.time)), .h 3]]⟩
@[go_sem] theorem r_qO3 (s : Sto) : qO3 s = ⟨28, 6, false, [[.d (.rs 4 (s.top.map entD)), .d (.rs 1 (s.levels.map lvD)), .d (.rs 5 (s.sieves.map sveD)), .d (.s (.int .i64 s.keep)), .d (.s (.int .i64 s.time)), .h 3]]⟩ := rfl
theorem cloFree_ok (s s' : Sto) (t : Int) (hl : s.times.length ≤ 3) (h : freeI s t = some s') : AC Tryz.prog 174 [.c (.ph 0 0 0), .c (.ph 2 0 0)] (hpL [some (qO s), some (tmRow s.times), some (inO t)]) 3 ⟨.t (bT true), hpL [some (qO3 s'), none, some (inO t), some (tmRow s'.times)], 4⟩ := by
  have k := del_ac s.times t (by omega)
  unfold freeI at h
  split at h
  · rename_i q
    obtain rfl := Option.some.inj h
    have g : decide (((keepT s.times t).length : Int) < (s.times.length : Int)) = true := decide_eq_true (by omega)
    generalize keepT s.times t = ys at k g ⊢
    refine AC_of Tryz.func174 rfl Tryz.ntmps174 Tryz.results174 (by kernel_rfl) rfl ?_
    simp only [List.zipIdx, List.map, Nat.zero_add, Nat.reduceAdd]
    repeat (first | apply Aw_seq | apply Aw_block | apply Aw_skip | apply Aw_exit | refine Aw_condt rfl ?_ | refine Aw_condf rfl ?_ | ((first | refine qr ?_ | refine qd (by kernel_rfl) (by kernel_rfl) ?_); simp only [go_sem, jE, reduceIte, jA, jM, jS, jL, jD, jB, g]) | refine dk (by kernel_rfl) ?_ | (refine qx (call_L (N' := [1, 2]) (L := []) (k) rfl (.cons (.nm rfl) (.cons (.nm rfl) (.nil))) (by decide) (by decide) (by decide) (by simp only [go_sem, jE, reduceIte, jA, jM, jS, jL, jD, jB, g]; first | done | rfl) (.inl rfl) rfl (by decide)) (by simp only [go_sem, jE, reduceIte, jA, jM, jS, jL, jD, jB, g]; first | done | rfl) rfl (by simp only [go_sem, Nat.reduceLT]) ?_; simp only [go_sem, jE, reduceIte, jA, jM, jS, jL, jD, jB, g]))
    exact Aw_ret (retL (M := [0, 1, 2, 16]) (.inl rfl) (by simp only [go_sem, jE, reduceIte, jA, jM, jS, jL, jD, jB]; first | done | rfl) rfl rfl (by rfl) (by simp only [go_sem, jE, reduceIte, jA, jM, jS, jL, jD, jB]; first | done | rfl | (and_intros <;> rfl)) (by decide) (by unfold idM; decide))
  · cases h
theorem cloFree_no (s : Sto) (t : Int) (hl : s.times.length ≤ 3) (h : freeI s t = none) : AC Tryz.prog 174 [.c (.ph 0 0 0), .c (.ph 2 0 0)] (hpL [some (qO s), some (tmRow s.times), some (inO t)]) 3 ⟨.t (bT false), hpL [none, none, none], 3⟩ := by
  have k := del_ac s.times t (by omega)
  unfold freeI at h
  split at h
  · cases h
  · rename_i q
    have g : decide (((keepT s.times t).length : Int) < (s.times.length : Int)) = false := decide_eq_false (by omega)
    generalize keepT s.times t = ys at k g ⊢
    refine AC_of Tryz.func174 rfl Tryz.ntmps174 Tryz.results174 (by kernel_rfl) rfl ?_
    simp only [List.zipIdx, List.map, Nat.zero_add, Nat.reduceAdd]
    repeat (first | apply Aw_seq | apply Aw_block | apply Aw_skip | apply Aw_exit | refine Aw_condt rfl ?_ | refine Aw_condf rfl ?_ | ((first | refine qr ?_ | refine qd (by kernel_rfl) (by kernel_rfl) ?_); simp only [go_sem, jE, reduceIte, jA, jM, jS, jL, jD, jB, g]) | refine dk (by kernel_rfl) ?_ | (refine qx (call_L (N' := [1, 2]) (L := []) (k) rfl (.cons (.nm rfl) (.cons (.nm rfl) (.nil))) (by decide) (by decide) (by decide) (by simp only [go_sem, jE, reduceIte, jA, jM, jS, jL, jD, jB, g]; first | done | rfl) (.inl rfl) rfl (by decide)) (by simp only [go_sem, jE, reduceIte, jA, jM, jS, jL, jD, jB, g]; first | done | rfl) rfl (by simp only [go_sem, Nat.reduceLT]) ?_; simp only [go_sem, jE, reduceIte, jA, jM, jS, jL, jD, jB, g]))
    exact Aw_ret (retL (M := [0, 1, 2]) (.inl rfl) (by simp only [go_sem, jE, reduceIte, jA, jM, jS, jL, jD, jB]; first | done | rfl) rfl rfl (by rfl) (by simp only [go_sem, jE, reduceIte, jA, jM, jS, jL, jD, jB]; first | done | rfl | (and_intros <;> rfl)) (by decide) (by unfold idM; decide))
theorem freeI_sm {s s' : Sto} {t : Int} (hs : SmSt s) (hv : storeS s = true) (h : freeI s t = some s') : SmSt s' ∧ SmH s' ∧ s'.top.length ≤ 5 := by
  obtain ⟨_, _, l3, l4, _⟩ := storeS_facts hv
  have sm := valid_sm hs hv
  unfold freeI at h
  split at h
  · obtain rfl := Option.some.inj h
    have hl : (keepT s.times t).length ≤ 1000 := by omega
    exact ⟨⟨hs.top, hs.lev, hs.ll, hs.sl, hs.rl, by show (keepT s.times t).length ≤ _; omega⟩, ⟨sm.ll, sm.sl, sm.lev, hl⟩, by show s.top.length ≤ 5; omega⟩
  · cases h
theorem chgFree_own (s : Sto) (t : Int) (hs : SmSt s) (hv : storeS s = true) (top a b c : List Ent) (x y z : Sve) (keep time : Int) (ts : List Int) (h : freeI s t = some ⟨top, [a, b, c], [x, y, z], keep, time, ts⟩) : AC Tryz.prog 38 [stT s, .c (.fn 174 [.ph 0 0 0])] (hpL [some (inO t)]) 1 ⟨.tup [.agg [.h 1, .h 2, .h 3, .d (.s (.int .i64 keep)), .d (.s (.int .i64 time)), .h 4], bT true], hpL [none, some (eRow top), some ⟨23, 1, true, [[.h 5], [.h 6], [.h 7]]⟩, some ⟨76, 5, true, [svN x 8, svN y 9, svN z 10]⟩, some (tmRow ts), some (eRow a), some (eRow b), some (eRow c), some (kRow x.rests), some (kRow y.rests), some (kRow z.rests)], 11⟩ := by
  have k1 := storeOkI_ac s hs
  rw [hv] at k1
  have kc := cloneT_ac s hs hv
  have kv := cloFree_ok s ⟨top, [a, b, c], [x, y, z], keep, time, ts⟩ t (by have := storeS_facts hv; omega) h
  obtain ⟨st, g, gt⟩ := freeI_sm hs hv h
  have hrl := st.rl
  have hlv := g.lev
  have htl := g.tl
  dsimp only at hrl hlv htl gt
  have kf := storeClone_ac top a b c x y z keep time ts (by omega) (by have := (hlv a (by simp)).2; omega) (by have := (hlv b (by simp)).2; omega) (by have := (hlv c (by simp)).2; omega) (hrl x (by simp)) (hrl y (by simp)) (hrl z (by simp)) (by omega)
  unfold cloS svN at kf
  unfold svN
  have arS : ∀ {hp : Hp} {N' L : List Nat} (p : Nat), hp p = some (tmRow ts) → p ∈ L → Arg hp N' L (.agg [.d (.rs 4 (top.map entD)), .d (.rs 1 ([a, b, c].map lvD)), .d (.rs 5 ([x, y, z].map sveD)), .d (.s (.int .i64 keep)), .d (.s (.int .i64 time)), .h p]) (stT ⟨top, [a, b, c], [x, y, z], keep, time, ts⟩) := fun p h1 h3 => arg_qS (s := ⟨top, [a, b, c], [x, y, z], keep, time, ts⟩) h1 h3
  refine AC_of Tryz.func38 rfl Tryz.ntmps38 Tryz.results38 (by kernel_rfl) rfl ?_
  simp only [List.zipIdx, List.map, Nat.zero_add, Nat.reduceAdd]
  repeat (first | apply Aw_seq | apply Aw_block | apply Aw_skip | apply Aw_exit | refine Aw_condt rfl ?_ | refine Aw_condf rfl ?_ | ((first | refine qr ?_ | refine qd (by kernel_rfl) (by kernel_rfl) ?_); simp only [go_sem, jE, reduceIte, jA, jM, jS, jL, jD, jB]) | refine dk (by kernel_rfl) ?_ | (refine qp (k1) (by simp only [go_sem, jE, reduceIte, jA, jM, jS, jL, jD, jB]; first | done | rfl) rfl (by simp only [go_sem, Nat.reduceLT]) rfl rfl ?_; simp only [go_sem, jE, reduceIte, jA, jM, jS, jL, jD, jB]) | (refine qx (call_N (L := []) (kc) rfl (.cons (.nm rfl) (.nil)) (.inl rfl) rfl) (by simp only [go_sem, jE, reduceIte, jA, jM, jS, jL, jD, jB]; first | done | rfl) rfl (by simp only [go_sem, Nat.reduceLT]) ?_; simp only [go_sem, jE, reduceIte, jA, jM, jS, jL, jD, jB]) | (refine qx (call_N (L := [11]) (kf) rfl (.cons (arS 11 rfl (by simp)) (.nil)) (.inr ⟨rfl, by simp⟩) rfl) (by simp only [go_sem, jE, reduceIte, jA, jM, jS, jL, jD, jB]; first | done | rfl) rfl (by simp only [go_sem, Nat.reduceLT]) ?_; simp only [go_sem, jE, reduceIte, jA, jM, jS, jL, jD, jB]) | (refine ex_callv (by simp only [go_sem, jE, reduceIte, jA, jM, jS, jL, jD, jB]; first | done | rfl) (call_V (N' := [8, 7, 0]) (L := []) 1 (kv) rfl (.cons (.nm rfl) (.nil)) (by first | exact .cons (arg_nm rfl rfl) (.nil) | (simp only [capT, List.map]; exact .cons (arg_nm rfl rfl) (.nil))) (by decide) (by decide) (by decide) (by simp only [go_sem, jE, reduceIte, jA, jM, jS, jL, jD, jB]; first | done | rfl) (.inl rfl) rfl (by decide)) (by simp only [go_sem, jE, reduceIte, jA, jM, jS, jL, jD, jB]; first | done | rfl) rfl (by simp only [go_sem, Nat.reduceLT]) ?_; simp only [go_sem, jE, reduceIte, jA, jM, jS, jL, jD, jB]))
  exact Aw_ret (retL (M := [0, 14, 15, 16, 17, 18, 19, 20, 21, 22, 23]) (.inl rfl) (by simp only [go_sem, jE, reduceIte, jA, jM, jS, jL, jD, jB]; first | done | rfl) rfl rfl (by rfl) (by simp only [go_sem, jE, reduceIte, jA, jM, jS, jL, jD, jB]; first | done | rfl | (and_intros <;> rfl)) (by decide) (by unfold idM; decide))
theorem chgFree_ok (s s' : Sto) (t : Int) (hs : SmSt s) (hv : storeS s = true) (h : freeI s t = some s') : AC Tryz.prog 38 [stT s, .c (.fn 174 [.ph 0 0 0])] (hpL [some (inO t)]) 1 ⟨.tup [stT s', bT true], hpL [none], 1⟩ := by
  obtain ⟨st, g, gt⟩ := freeI_sm hs hv h
  obtain ⟨top, levels, sieves, keep, time, ts⟩ := s'
  obtain ⟨a, b, c, rfl⟩ := len3 g.ll
  obtain ⟨x, y, z, rfl⟩ := len3 g.sl
  have kk := chgFree_own s t hs hv top a b c x y z keep time ts h
  unfold svN at kk
  have h1 := AC.setS [5, 6, 7, 8, 9, 10] kk (y := .tup [.agg [.h 1, .h 2, .h 3, .d (.s (.int .i64 keep)), .d (.s (.int .i64 time)), .h 4], bT true]) (os' := [none, some (eRow top), some (lvRow [a, b, c]), some (svRow [x, y, z]), some (tmRow ts)])
    (.cons (.cons (.inl rfl) (.cons (.inl rfl) (.cons (.inl rfl) (.cons (.inl rfl) (.cons (.inl rfl) (.cons (.inl rfl) .nil)))))) (.cons (.inl rfl) .nil))
    ⟨.inl rfl, rfl, .inr ⟨rfl, rfl, rfl, .cons (.cons (SetC.row0 rfl rfl) .nil) (.cons (.cons (SetC.row0 rfl rfl) .nil) (.cons (.cons (SetC.row0 rfl rfl) .nil) .nil))⟩, rfl,
      .inr ⟨rfl, rfl, rfl, .cons (.cons (.inl rfl) (.cons (.inl rfl) (.cons (.inl rfl) (.cons (SetC.row0 rfl rfl) (.cons (.inl rfl) .nil))))) (.cons (.cons (.inl rfl) (.cons (.inl rfl) (.cons (.inl rfl) (.cons (SetC.row0 rfl rfl) (.cons (.inl rfl) .nil))))) (.cons (.cons (.inl rfl) (.cons (.inl rfl) (.cons (.inl rfl) (.cons (SetC.row0 rfl rfl) (.cons (.inl rfl) .nil))))) .nil))⟩, rfl, .inl rfl, rfl, trivial⟩
  have h2 := AC.setS [1, 2, 3, 4] h1 (y := .tup [stT ⟨top, [a, b, c], [x, y, z], keep, time, ts⟩, bT true]) (os' := [none])
    (.cons (.cons (SetC.row0 rfl rfl) (.cons (SetC.row0 rfl rfl) (.cons (SetC.row0 rfl rfl) (.cons (.inl rfl) (.cons (.inl rfl) (.cons (SetC.row0 rfl rfl) .nil)))))) (.cons (.inl rfl) .nil)) trivial
  refine AC.sel (M := [0]) h2 rfl rfl (selL rfl ?_) (by decide) fun m hm => ?_
  · simp only [go_sem, LeftL]
  · obtain rfl : m = 0 := by omega
    exact ⟨by decide, rfl⟩
theorem chgFree_no (s : Sto) (t : Int) (hs : SmSt s) (h : freeM s t = none) : AC Tryz.prog 38 [stT s, .c (.fn 174 [.ph 0 0 0])] (hpL [some (inO t)]) 1 ⟨.tup [zA, bT false], hpL [none], 1⟩ := by
  have k1 := storeOkI_ac s hs
  cases hv : storeS s
  · rw [hv] at k1
    refine AC_of Tryz.func38 rfl Tryz.ntmps38 Tryz.results38 (by kernel_rfl) rfl ?_
    simp only [List.zipIdx, List.map, Nat.zero_add, Nat.reduceAdd]
    repeat (first | apply Aw_seq | apply Aw_block | apply Aw_skip | apply Aw_exit | refine Aw_condt rfl ?_ | refine Aw_condf rfl ?_ | ((first | refine qr ?_ | refine qd (by kernel_rfl) (by kernel_rfl) ?_); simp only [go_sem, jE, reduceIte, jA, jM, jS, jL, jD, jB]) | refine dk (by kernel_rfl) ?_ | (refine qp (k1) (by simp only [go_sem, jE, reduceIte, jA, jM, jS, jL, jD, jB]; first | done | rfl) rfl (by simp only [go_sem, Nat.reduceLT]) rfl rfl ?_; simp only [go_sem, jE, reduceIte, jA, jM, jS, jL, jD, jB]))
    exact Aw_ret (retL (M := [0]) (.inl rfl) (by simp only [go_sem, jE, reduceIte, jA, jM, jS, jL, jD, jB]; first | done | rfl) rfl rfl (by rfl) (by simp only [go_sem, jE, reduceIte, jA, jM, jS, jL, jD, jB]; first | done | rfl | (and_intros <;> rfl)) (by decide) (by unfold idM; decide))
  rw [hv] at k1
  rw [free_eq hv] at h
  have kc := cloneT_ac s hs hv
  have kv := cloFree_no s t (by have := storeS_facts hv; omega) h
  refine AC_of Tryz.func38 rfl Tryz.ntmps38 Tryz.results38 (by kernel_rfl) rfl ?_
  simp only [List.zipIdx, List.map, Nat.zero_add, Nat.reduceAdd]
  repeat (first | apply Aw_seq | apply Aw_block | apply Aw_skip | apply Aw_exit | refine Aw_condt rfl ?_ | refine Aw_condf rfl ?_ | ((first | refine qr ?_ | refine qd (by kernel_rfl) (by kernel_rfl) ?_); simp only [go_sem, jE, reduceIte, jA, jM, jS, jL, jD, jB]) | refine dk (by kernel_rfl) ?_ | (refine qp (k1) (by simp only [go_sem, jE, reduceIte, jA, jM, jS, jL, jD, jB]; first | done | rfl) rfl (by simp only [go_sem, Nat.reduceLT]) rfl rfl ?_; simp only [go_sem, jE, reduceIte, jA, jM, jS, jL, jD, jB]) | (refine qx (call_N (L := []) (kc) rfl (.cons (.nm rfl) (.nil)) (.inl rfl) rfl) (by simp only [go_sem, jE, reduceIte, jA, jM, jS, jL, jD, jB]; first | done | rfl) rfl (by simp only [go_sem, Nat.reduceLT]) ?_; simp only [go_sem, jE, reduceIte, jA, jM, jS, jL, jD, jB]) | (refine ex_callv (by simp only [go_sem, jE, reduceIte, jA, jM, jS, jL, jD, jB]; first | done | rfl) (call_V (N' := [8, 7, 0]) (L := []) 1 (kv) rfl (.cons (.nm rfl) (.nil)) (by first | exact .cons (arg_nm rfl rfl) (.nil) | (simp only [capT, List.map]; exact .cons (arg_nm rfl rfl) (.nil))) (by decide) (by decide) (by decide) (by simp only [go_sem, jE, reduceIte, jA, jM, jS, jL, jD, jB]; first | done | rfl) (.inl rfl) rfl (by decide)) (by simp only [go_sem, jE, reduceIte, jA, jM, jS, jL, jD, jB]; first | done | rfl) rfl (by simp only [go_sem, Nat.reduceLT]) ?_; simp only [go_sem, jE, reduceIte, jA, jM, jS, jL, jD, jB]))
  exact Aw_ret (retL (M := [0]) (.inl rfl) (by simp only [go_sem, jE, reduceIte, jA, jM, jS, jL, jD, jB]; first | done | rfl) rfl rfl (by rfl) (by simp only [go_sem, jE, reduceIte, jA, jM, jS, jL, jD, jB]; first | done | rfl | (and_intros <;> rfl)) (by decide) (by unfold idM; decide))
theorem storeFree_ac (s : Sto) (t : Int) (hs : SmSt s) : AC Tryz.prog 153 [stT s, iT t] noHp 0 ⟨resO (freeM s t), noHp, 0⟩ := by
  cases h : freeM s t with
  | none =>
    refine AC.nilR (x := .tup [zA, bT false]) ?_ zA_nil
    have kk := chgFree_no s t hs h
    unfold inO at kk
    refine AC_of Tryz.func153 rfl Tryz.ntmps153 Tryz.results153 (by kernel_rfl) rfl ?_
    simp only [List.zipIdx, List.map, Nat.zero_add, Nat.reduceAdd]
    repeat (first | apply Aw_seq | apply Aw_block | apply Aw_skip | apply Aw_exit | refine Aw_condt rfl ?_ | refine Aw_condf rfl ?_ | ((first | refine qr ?_ | refine qd (by kernel_rfl) (by kernel_rfl) ?_); simp only [go_sem, jE, reduceIte, jA, jM, jS, jL, jD, jB]) | refine dk (by kernel_rfl) ?_ | (refine qx (call_L (N' := [1]) (L := []) (kk) rfl (.cons (.nm rfl) (.cons (.nm rfl) (.nil))) (by decide) (by decide) (by decide) (by simp only [go_sem, jE, reduceIte, jA, jM, jS, jL, jD, jB]; first | done | rfl) (.inl rfl) rfl (by decide)) (by simp only [go_sem, jE, reduceIte, jA, jM, jS, jL, jD, jB]; first | done | rfl) rfl (by simp only [go_sem, Nat.reduceLT]) ?_; simp only [go_sem, jE, reduceIte, jA, jM, jS, jL, jD, jB]))
    exact Aw_ret (ret0 (.inl rfl) (by simp only [go_sem, jE, reduceIte, jA, jM, jS, jL, jD, jB]; rfl) (by rfl) rfl)
  | some s' =>
    have hv : storeS s = true := by
      unfold freeM at h
      split at h
      · assumption
      · cases h
    have kk := chgFree_ok s s' t hs hv (by rw [← free_eq hv]; exact h)
    unfold inO at kk
    refine AC_of Tryz.func153 rfl Tryz.ntmps153 Tryz.results153 (by kernel_rfl) rfl ?_
    simp only [List.zipIdx, List.map, Nat.zero_add, Nat.reduceAdd]
    repeat (first | apply Aw_seq | apply Aw_block | apply Aw_skip | apply Aw_exit | refine Aw_condt rfl ?_ | refine Aw_condf rfl ?_ | ((first | refine qr ?_ | refine qd (by kernel_rfl) (by kernel_rfl) ?_); simp only [go_sem, jE, reduceIte, jA, jM, jS, jL, jD, jB]) | refine dk (by kernel_rfl) ?_ | (refine qx (call_L (N' := [1]) (L := []) (kk) rfl (.cons (.nm rfl) (.cons (.nm rfl) (.nil))) (by decide) (by decide) (by decide) (by simp only [go_sem, jE, reduceIte, jA, jM, jS, jL, jD, jB]; first | done | rfl) (.inl rfl) rfl (by decide)) (by simp only [go_sem, jE, reduceIte, jA, jM, jS, jL, jD, jB]; first | done | rfl) rfl (by simp only [go_sem, Nat.reduceLT]) ?_; simp only [go_sem, jE, reduceIte, jA, jM, jS, jL, jD, jB]))
    exact Aw_ret (ret0 (.inl rfl) (by simp only [go_sem, jE, reduceIte, jA, jM, jS, jL, jD, jB]; rfl) (by rfl) rfl)
def emp (l : Nat) (s : Sto) : Sto := { s with levels := s.levels.set l [], sieves := s.sieves.set l (eSve s.keep.toNat) }
theorem setM_emp {l i : Nat} (h : i ≠ l) (s : Sto) (r : List Ent) : setM (emp l s) i r = (setM s i r).map (emp l) := by
  unfold setM emp
  simp only
  cases sieveM (keysM r) s.keep with
  | none => rfl
  | some x =>
    simp only
    by_cases c : r.length ≤ 8 * (i + 1)
    · rw [if_pos c, if_pos c, Option.map_some]
      simp only [Option.some.injEq, Sto.mk.injEq, true_and, and_true]
      exact ⟨List.set_comm _ _ (Ne.symm h), List.set_comm _ _ (Ne.symm h)⟩
    · rw [if_neg c, if_neg c]; rfl
theorem getD_emp {l i : Nat} (h : i ≠ l) (s : Sto) : (emp l s).levels.getD i [] = s.levels.getD i [] := by
  unfold emp
  simp only [List.getD_eq_getElem?_getD]
  rw [List.getElem?_set_ne (Ne.symm h)]
theorem into_emp {l : Nat} : ∀ (d : Nat) (s : Sto) (i : Nat) (r : List Ent), l < i → intoM d (emp l s) i r = (intoM d s i r).map (emp l)
  | 0, s, i, r, h => by
    have e2 : (emp l s).times = s.times := rfl
    simp only [intoM]
    rw [getD_emp (by omega), e2, setM_emp (by omega)]
  | d + 1, s, i, r, h => by
    have e2 : (emp l s).times = s.times := rfl
    simp only [intoM]
    rw [getD_emp (by omega), e2, setM_emp (by omega), into_emp d s (i + 1) _ (by omega)]
    cases setM s i (trimM (joinM r (s.levels.getD i [])) s.times false) with
    | some x => rfl
    | none =>
      simp only [Option.map_none]
      cases intoM d s (i + 1) (s.levels.getD i []) with
      | none => rfl
      | some x =>
        simp only [Option.map_some, Option.bind_some]
        exact setM_emp (by omega) x _
theorem setM_nil {s : Sto} (h0 : 0 ≤ s.keep) (h5 : s.keep ≤ 5) (l : Nat) : setM s l [] = some (emp l s) := by
  have e : s.keep = (s.keep.toNat : Int) := by omega
  have hs : sieveM (keysM []) s.keep = some (eSve s.keep.toNat) := by
    rw [keysM_nil, e, sieve_nil (by omega)]
    rfl
  unfold setM emp
  rw [hs]
  simp
theorem intoM_keep : ∀ (d : Nat) {s s' : Sto} {i : Nat} {r : List Ent}, intoM d s i r = some s' → s'.keep = s.keep
  | 0, s, s', i, r, h => (setM_times h).2.2.2
  | d + 1, s, s', i, r, h => by
    simp only [intoM] at h
    split at h
    · rename_i x hx
      obtain rfl := Option.some.inj h
      exact (setM_times hx).2.2.2
    · obtain ⟨s1, h1, h2⟩ := Option.bind_eq_some_iff.1 h
      rw [(setM_times h2).2.2.2, intoM_keep d h1]
def joinP (s : Sto) (l : Nat) : Option Sto := (intoM (1 - l) s (l + 1) (s.levels.getD l [])).bind fun y => setM y l []
theorem join_eq {s : Sto} (hv : storeS s = true) {l : Int} (hl : inB 0 l 1 = true) : sJoinM s l = joinP s l.toNat := by
  obtain ⟨_, _, _, _, _, _, h7⟩ := storeS_facts hv
  unfold inB at h7
  rw [Bool.and_eq_true] at h7
  have k0 := of_decide_eq_true h7.1; have k1 := of_decide_eq_true h7.2
  unfold sJoinM joinP
  rw [hv, hl]
  simp only [Bool.and_self, if_true]
  rw [setM_nil k0 k1, Option.bind_some, into_emp _ _ _ _ (by omega)]
  cases h : intoM (1 - l.toNat) s (l.toNat + 1) (s.levels.getD l.toNat []) with
  | none => rfl
  | some y =>
    have hk : y.keep = s.keep := by
      have := intoM_keep _ h
      exact this
    rw [Option.map_some, Option.bind_some, setM_nil (by omega) (by omega)]
theorem joinP_sm {s s' : Sto} {l : Nat} (hs : SmSt s) (hv : storeS s = true) (hl : l ≤ 1) (h : joinP s l = some s') : SmSt s' ∧ SmH s' ∧ s'.top.length ≤ 5 := by
  obtain ⟨_, _, l3, _⟩ := storeS_facts hv
  have sm := valid_sm hs hv
  unfold joinP at h
  obtain ⟨y, hy, h2⟩ := Option.bind_eq_some_iff.1 h
  have hq : SmR (s.levels.getD l []) ∧ (s.levels.getD l []).length ≤ 1000 := by
    rw [List.getD_eq_getElem?_getD, List.getElem?_eq_getElem (by rw [sm.ll]; omega)]; exact sm.lev _ (List.getElem_mem _)
  obtain ⟨k1, k2, k3, k4, k5⟩ := intoM_sm _ (by omega) sm hq.1 hq.2 hy
  have st := intoM_st _ (by omega) sm hs hq.1 hq.2 hy
  have g := setM_sm k1 (by omega) smR_nil h2
  refine ⟨setM_st st smR_nil h2, g, ?_⟩
  rw [(setM_times h2).2.1, k3]; omega
theorem cloJoin_ok (s s' : Sto) (l : Int) (hs : SmSt s) (hv : storeS s = true) (hl : inB 0 l 1 = true) (h : joinP s l.toNat = some s') : AC Tryz.prog 177 [.c (.ph 0 0 0), .c (.ph 3 0 0)] (hpL [some (pO s), some (lvRow s.levels), some (svRow s.sieves), some (inO l)]) 4 ⟨.t (bT true), hpL [some (pO s'), some (lvRow s'.levels), some (svRow s'.sieves), some (inO l)], 4⟩ := by
  obtain ⟨i, rfl, hi⟩ : ∃ i : Nat, l = i ∧ i ≤ 1 := by unfold inB at hl; simp at hl; exact ⟨l.toNat, by omega, by omega⟩
  rw [show ((i : Nat) : Int).toNat = i from rfl] at h
  have k1 := in_ac (i : Nat) 0 1
  rw [hl] at k1
  obtain ⟨q1, q2, q3, q4, q5⟩ := lv_of hv
  have sm := valid_sm hs hv
  obtain ⟨r1, r2⟩ := q1.run i (by omega)
  have r3 := q1.newer i (i + 1) (by omega) (by omega)
  unfold joinP at h
  obtain ⟨y, hy, h2⟩ := Option.bind_eq_some_iff.1 h
  obtain ⟨q, hq⟩ : ∃ q, s.levels[i]? = some q := ⟨_, List.getElem?_eq_getElem (by rw [sm.ll]; omega)⟩
  have hqd : s.levels.getD i [] = q := by simp [List.getD, hq]
  have hlt := (List.getElem?_eq_some_iff.1 hq).1
  obtain ⟨hq1, hq2⟩ := sm.lev q (List.mem_of_getElem? hq)
  rw [hqd] at r1 r2 r3 hy
  obtain ⟨g1, _⟩ := intoM_sm _ (by omega) sm hq1 hq2 hy
  have k2 := (push_ac (1 - i) s (i + 1) q (by omega) sm q1 hq1 r1 (by omega) r3).1 y hy
  have k3 := AC.nilL (args := [.c (.ph 0 0 0), iT i, .c (.d (.s (.slice none 0 0)))]) (put_ok y s' i [] (by omega) (by rw [g1.ll]; omega) (by rw [g1.sl]; omega) smR_nil h2) (.cons (NilT.refl _) (.cons (NilT.refl _) (.cons (NilC.nil _) .nil)))
  have w : IntKind.i64.wrap ((i : Int) + 1) = ((i + 1 : Nat) : Int) := wn (by omega) (by omega)
  refine AC_of Tryz.func177 rfl Tryz.ntmps177 Tryz.results177 (by kernel_rfl) rfl ?_
  simp only [List.zipIdx, List.map, Nat.zero_add, Nat.reduceAdd]
  repeat (first | apply Aw_seq | apply Aw_block | apply Aw_skip | apply Aw_exit | refine Aw_condt rfl ?_ | refine Aw_condf rfl ?_ | ((first | refine qr ?_ | refine qd (by kernel_rfl) (by kernel_rfl) ?_); simp only [go_sem, jE, reduceIte, jA, jM, jS, jL, jD, jB, hq, hlt, w]) | refine dk (by kernel_rfl) ?_ | (refine qp (k1) (by simp only [go_sem, jE, reduceIte, jA, jM, jS, jL, jD, jB, hq, hlt, w]; first | done | rfl) rfl (by simp only [go_sem, Nat.reduceLT]) rfl rfl ?_; simp only [go_sem, jE, reduceIte, jA, jM, jS, jL, jD, jB, hq, hlt, w]) | (refine qx (call_L (N' := [0, 1, 2]) (L := []) (k2) rfl (.cons (.nm rfl) (.cons (.nm rfl) (.cons (.nm rfl) (.nil)))) (by decide) (by decide) (by decide) (by simp only [go_sem, jE, reduceIte, jA, jM, jS, jL, jD, jB, hq, hlt, w]; first | done | rfl) (.inl rfl) rfl (by decide)) (by simp only [go_sem, jE, reduceIte, jA, jM, jS, jL, jD, jB, hq, hlt, w]; first | done | rfl) rfl (by simp only [go_sem, Nat.reduceLT]) ?_; simp only [go_sem, jE, reduceIte, jA, jM, jS, jL, jD, jB, hq, hlt, w]) | (refine qx (call_L (N' := [0, 1, 2]) (L := []) (k3) rfl (.cons (.nm rfl) (.cons (.nm rfl) (.cons (.nm rfl) (.nil)))) (by decide) (by decide) (by decide) (by simp only [go_sem, jE, reduceIte, jA, jM, jS, jL, jD, jB, hq, hlt, w]; first | done | rfl) (.inl rfl) rfl (by decide)) (by simp only [go_sem, jE, reduceIte, jA, jM, jS, jL, jD, jB, hq, hlt, w]; first | done | rfl) rfl (by simp only [go_sem, Nat.reduceLT]) ?_; simp only [go_sem, jE, reduceIte, jA, jM, jS, jL, jD, jB, hq, hlt, w]))
  exact Aw_ret (retL (M := [0, 1, 2, 3]) (.inl rfl) (by simp only [go_sem, jE, reduceIte, jA, jM, jS, jL, jD, jB]; first | done | rfl) rfl rfl (by rfl) (by simp only [go_sem, jE, reduceIte, jA, jM, jS, jL, jD, jB]; first | done | rfl | (and_intros <;> rfl)) (by decide) (by unfold idM; decide))
theorem cloJoin_no (s : Sto) (l : Int) (hs : SmSt s) (hv : storeS s = true) (h : sJoinM s l = none) : AC Tryz.prog 177 [.c (.ph 0 0 0), .c (.ph 3 0 0)] (hpL [some (pO s), some (lvRow s.levels), some (svRow s.sieves), some (inO l)]) 4 ⟨.t (bT false), hpL [none, none, none, none], 4⟩ := by
  have k1 := in_ac l 0 1
  cases hl : inB 0 l 1
  · rw [hl] at k1
    refine AC_of Tryz.func177 rfl Tryz.ntmps177 Tryz.results177 (by kernel_rfl) rfl ?_
    simp only [List.zipIdx, List.map, Nat.zero_add, Nat.reduceAdd]
    repeat (first | apply Aw_seq | apply Aw_block | apply Aw_skip | apply Aw_exit | refine Aw_condt rfl ?_ | refine Aw_condf rfl ?_ | ((first | refine qr ?_ | refine qd (by kernel_rfl) (by kernel_rfl) ?_); simp only [go_sem, jE, reduceIte, jA, jM, jS, jL, jD, jB]) | refine dk (by kernel_rfl) ?_ | (refine qp (k1) (by simp only [go_sem, jE, reduceIte, jA, jM, jS, jL, jD, jB]; first | done | rfl) rfl (by simp only [go_sem, Nat.reduceLT]) rfl rfl ?_; simp only [go_sem, jE, reduceIte, jA, jM, jS, jL, jD, jB]))
    exact Aw_ret (retL (M := [0, 1, 2, 3]) (.inl rfl) (by simp only [go_sem, jE, reduceIte, jA, jM, jS, jL, jD, jB]; first | done | rfl) rfl rfl (by rfl) (by simp only [go_sem, jE, reduceIte, jA, jM, jS, jL, jD, jB]; first | done | rfl | (and_intros <;> rfl)) (by decide) (by unfold idM; decide))
  rw [join_eq hv hl] at h
  obtain ⟨i, rfl, hi⟩ : ∃ i : Nat, l = i ∧ i ≤ 1 := by unfold inB at hl; simp at hl; exact ⟨l.toNat, by omega, by omega⟩
  rw [show ((i : Nat) : Int).toNat = i from rfl] at h
  rw [hl] at k1
  obtain ⟨q1, q2, q3, q4, q5⟩ := lv_of hv
  have sm := valid_sm hs hv
  obtain ⟨r1, r2⟩ := q1.run i (by omega)
  have r3 := q1.newer i (i + 1) (by omega) (by omega)
  obtain ⟨q, hq⟩ : ∃ q, s.levels[i]? = some q := ⟨_, List.getElem?_eq_getElem (by rw [sm.ll]; omega)⟩
  have hqd : s.levels.getD i [] = q := by simp [List.getD, hq]
  have hlt := (List.getElem?_eq_some_iff.1 hq).1
  obtain ⟨hq1, hq2⟩ := sm.lev q (List.mem_of_getElem? hq)
  rw [hqd] at r1 r2 r3
  unfold joinP at h
  rw [hqd] at h
  have hp := push_ac (1 - i) s (i + 1) q (by omega) sm q1 hq1 r1 (by omega) r3
  have w : IntKind.i64.wrap ((i : Int) + 1) = ((i + 1 : Nat) : Int) := wn (by omega) (by omega)
  cases hy : intoM (1 - i) s (i + 1) q with
  | none =>
    have k2 := hp.2 hy
    refine AC_of Tryz.func177 rfl Tryz.ntmps177 Tryz.results177 (by kernel_rfl) rfl ?_
    simp only [List.zipIdx, List.map, Nat.zero_add, Nat.reduceAdd]
    repeat (first | apply Aw_seq | apply Aw_block | apply Aw_skip | apply Aw_exit | refine Aw_condt rfl ?_ | refine Aw_condf rfl ?_ | ((first | refine qr ?_ | refine qd (by kernel_rfl) (by kernel_rfl) ?_); simp only [go_sem, jE, reduceIte, jA, jM, jS, jL, jD, jB, hq, hlt, w]) | refine dk (by kernel_rfl) ?_ | (refine qp (k1) (by simp only [go_sem, jE, reduceIte, jA, jM, jS, jL, jD, jB, hq, hlt, w]; first | done | rfl) rfl (by simp only [go_sem, Nat.reduceLT]) rfl rfl ?_; simp only [go_sem, jE, reduceIte, jA, jM, jS, jL, jD, jB, hq, hlt, w]) | (refine qx (call_L (N' := [0, 1, 2]) (L := []) (k2) rfl (.cons (.nm rfl) (.cons (.nm rfl) (.cons (.nm rfl) (.nil)))) (by decide) (by decide) (by decide) (by simp only [go_sem, jE, reduceIte, jA, jM, jS, jL, jD, jB, hq, hlt, w]; first | done | rfl) (.inl rfl) rfl (by decide)) (by simp only [go_sem, jE, reduceIte, jA, jM, jS, jL, jD, jB, hq, hlt, w]; first | done | rfl) rfl (by simp only [go_sem, Nat.reduceLT]) ?_; simp only [go_sem, jE, reduceIte, jA, jM, jS, jL, jD, jB, hq, hlt, w]))
    exact Aw_ret (retL (M := [0, 1, 2, 3]) (.inl rfl) (by simp only [go_sem, jE, reduceIte, jA, jM, jS, jL, jD, jB]; first | done | rfl) rfl rfl (by rfl) (by simp only [go_sem, jE, reduceIte, jA, jM, jS, jL, jD, jB]; first | done | rfl | (and_intros <;> rfl)) (by decide) (by unfold idM; decide))
  | some y =>
    rw [hy, Option.bind_some] at h
    have k2 := hp.1 y hy
    have k3 := AC.nilL (args := [.c (.ph 0 0 0), iT i, .c (.d (.s (.slice none 0 0)))]) (put_no y i [] (by omega) smR_nil h) (.cons (NilT.refl _) (.cons (NilT.refl _) (.cons (NilC.nil _) .nil)))
    refine AC_of Tryz.func177 rfl Tryz.ntmps177 Tryz.results177 (by kernel_rfl) rfl ?_
    simp only [List.zipIdx, List.map, Nat.zero_add, Nat.reduceAdd]
    repeat (first | apply Aw_seq | apply Aw_block | apply Aw_skip | apply Aw_exit | refine Aw_condt rfl ?_ | refine Aw_condf rfl ?_ | ((first | refine qr ?_ | refine qd (by kernel_rfl) (by kernel_rfl) ?_); simp only [go_sem, jE, reduceIte, jA, jM, jS, jL, jD, jB, hq, hlt, w]) | refine dk (by kernel_rfl) ?_ | (refine qp (k1) (by simp only [go_sem, jE, reduceIte, jA, jM, jS, jL, jD, jB, hq, hlt, w]; first | done | rfl) rfl (by simp only [go_sem, Nat.reduceLT]) rfl rfl ?_; simp only [go_sem, jE, reduceIte, jA, jM, jS, jL, jD, jB, hq, hlt, w]) | (refine qx (call_L (N' := [0, 1, 2]) (L := []) (k2) rfl (.cons (.nm rfl) (.cons (.nm rfl) (.cons (.nm rfl) (.nil)))) (by decide) (by decide) (by decide) (by simp only [go_sem, jE, reduceIte, jA, jM, jS, jL, jD, jB, hq, hlt, w]; first | done | rfl) (.inl rfl) rfl (by decide)) (by simp only [go_sem, jE, reduceIte, jA, jM, jS, jL, jD, jB, hq, hlt, w]; first | done | rfl) rfl (by simp only [go_sem, Nat.reduceLT]) ?_; simp only [go_sem, jE, reduceIte, jA, jM, jS, jL, jD, jB, hq, hlt, w]) | (refine qx (call_L (N' := [0, 1, 2]) (L := []) (k3) rfl (.cons (.nm rfl) (.cons (.nm rfl) (.cons (.nm rfl) (.nil)))) (by decide) (by decide) (by decide) (by simp only [go_sem, jE, reduceIte, jA, jM, jS, jL, jD, jB, hq, hlt, w]; first | done | rfl) (.inl rfl) rfl (by decide)) (by simp only [go_sem, jE, reduceIte, jA, jM, jS, jL, jD, jB, hq, hlt, w]; first | done | rfl) rfl (by simp only [go_sem, Nat.reduceLT]) ?_; simp only [go_sem, jE, reduceIte, jA, jM, jS, jL, jD, jB, hq, hlt, w]))
    exact Aw_ret (retL (M := [0, 1, 2, 3]) (.inl rfl) (by simp only [go_sem, jE, reduceIte, jA, jM, jS, jL, jD, jB]; first | done | rfl) rfl rfl (by rfl) (by simp only [go_sem, jE, reduceIte, jA, jM, jS, jL, jD, jB]; first | done | rfl | (and_intros <;> rfl)) (by decide) (by unfold idM; decide))
theorem chgJoin_own (s : Sto) (l : Int) (hs : SmSt s) (hv : storeS s = true) (hl : inB 0 l 1 = true) (top a b c : List Ent) (x y z : Sve) (keep time : Int) (ts : List Int) (h : joinP s l.toNat = some ⟨top, [a, b, c], [x, y, z], keep, time, ts⟩) : AC Tryz.prog 38 [stT s, .c (.fn 177 [.ph 0 0 0])] (hpL [some (inO l)]) 1 ⟨.tup [.agg [.h 1, .h 2, .h 3, .d (.s (.int .i64 keep)), .d (.s (.int .i64 time)), .h 4], bT true], hpL [none, some (eRow top), some ⟨23, 1, true, [[.h 5], [.h 6], [.h 7]]⟩, some ⟨76, 5, true, [svN x 8, svN y 9, svN z 10]⟩, some (tmRow ts), some (eRow a), some (eRow b), some (eRow c), some (kRow x.rests), some (kRow y.rests), some (kRow z.rests)], 11⟩ := by
  have k1 := storeOkI_ac s hs
  rw [hv] at k1
  have kc := cloneP_ac s hs hv
  have kv := cloJoin_ok s ⟨top, [a, b, c], [x, y, z], keep, time, ts⟩ l hs hv hl h
  obtain ⟨st, g, gt⟩ := joinP_sm hs hv (by unfold inB at hl; simp at hl; omega) h
  have hrl := st.rl
  have hlv := g.lev
  have htl := g.tl
  dsimp only at hrl hlv htl gt
  have kf := storeClone_ac top a b c x y z keep time ts (by omega) (by have := (hlv a (by simp)).2; omega) (by have := (hlv b (by simp)).2; omega) (by have := (hlv c (by simp)).2; omega) (hrl x (by simp)) (hrl y (by simp)) (hrl z (by simp)) (by omega)
  unfold cloS svN at kf
  unfold svN
  have arS : ∀ {hp : Hp} {N' L : List Nat} (p q : Nat), hp p = some (lvRow [a, b, c]) → hp q = some (svRow [x, y, z]) → p ∈ L ∧ q ∈ L → Arg hp N' L (.agg [.d (.rs 4 (top.map entD)), .h p, .h q, .d (.s (.int .i64 keep)), .d (.s (.int .i64 time)), .d (.rs 1 (ts.map intD))]) (stT ⟨top, [a, b, c], [x, y, z], keep, time, ts⟩) := fun p q h1 h2 h3 => arg_pS (s := ⟨top, [a, b, c], [x, y, z], keep, time, ts⟩) h1 h2 h3
  refine AC_of Tryz.func38 rfl Tryz.ntmps38 Tryz.results38 (by kernel_rfl) rfl ?_
  simp only [List.zipIdx, List.map, Nat.zero_add, Nat.reduceAdd]
  repeat (first | apply Aw_seq | apply Aw_block | apply Aw_skip | apply Aw_exit | refine Aw_condt rfl ?_ | refine Aw_condf rfl ?_ | ((first | refine qr ?_ | refine qd (by kernel_rfl) (by kernel_rfl) ?_); simp only [go_sem, jE, reduceIte, jA, jM, jS, jL, jD, jB]) | refine dk (by kernel_rfl) ?_ | (refine qp (k1) (by simp only [go_sem, jE, reduceIte, jA, jM, jS, jL, jD, jB]; first | done | rfl) rfl (by simp only [go_sem, Nat.reduceLT]) rfl rfl ?_; simp only [go_sem, jE, reduceIte, jA, jM, jS, jL, jD, jB]) | (refine qx (call_N (L := []) (kc) rfl (.cons (.nm rfl) (.nil)) (.inl rfl) rfl) (by simp only [go_sem, jE, reduceIte, jA, jM, jS, jL, jD, jB]; first | done | rfl) rfl (by simp only [go_sem, Nat.reduceLT]) ?_; simp only [go_sem, jE, reduceIte, jA, jM, jS, jL, jD, jB]) | (refine qx (call_N (L := [7, 8]) (kf) rfl (.cons (arS 7 8 rfl rfl (by simp)) (.nil)) (.inr ⟨rfl, by simp⟩) rfl) (by simp only [go_sem, jE, reduceIte, jA, jM, jS, jL, jD, jB]; first | done | rfl) rfl (by simp only [go_sem, Nat.reduceLT]) ?_; simp only [go_sem, jE, reduceIte, jA, jM, jS, jL, jD, jB]) | (refine ex_callv (by simp only [go_sem, jE, reduceIte, jA, jM, jS, jL, jD, jB]; first | done | rfl) (call_V (N' := [9, 7, 8, 0]) (L := []) 1 (kv) rfl (.cons (.nm rfl) (.nil)) (by first | exact .cons (arg_nm rfl rfl) (.nil) | (simp only [capT, List.map]; exact .cons (arg_nm rfl rfl) (.nil))) (by decide) (by decide) (by decide) (by simp only [go_sem, jE, reduceIte, jA, jM, jS, jL, jD, jB]; first | done | rfl) (.inl rfl) rfl (by decide)) (by simp only [go_sem, jE, reduceIte, jA, jM, jS, jL, jD, jB]; first | done | rfl) rfl (by simp only [go_sem, Nat.reduceLT]) ?_; simp only [go_sem, jE, reduceIte, jA, jM, jS, jL, jD, jB]))
  exact Aw_ret (retL (M := [0, 14, 15, 16, 17, 18, 19, 20, 21, 22, 23]) (.inl rfl) (by simp only [go_sem, jE, reduceIte, jA, jM, jS, jL, jD, jB]; first | done | rfl) rfl rfl (by rfl) (by simp only [go_sem, jE, reduceIte, jA, jM, jS, jL, jD, jB]; first | done | rfl | (and_intros <;> rfl)) (by decide) (by unfold idM; decide))
theorem chgJoin_ok (s s' : Sto) (l : Int) (hs : SmSt s) (hv : storeS s = true) (hl : inB 0 l 1 = true) (h : joinP s l.toNat = some s') : AC Tryz.prog 38 [stT s, .c (.fn 177 [.ph 0 0 0])] (hpL [some (inO l)]) 1 ⟨.tup [stT s', bT true], hpL [none], 1⟩ := by
  obtain ⟨st, g, gt⟩ := joinP_sm hs hv (by unfold inB at hl; simp at hl; omega) h
  obtain ⟨top, levels, sieves, keep, time, ts⟩ := s'
  obtain ⟨a, b, c, rfl⟩ := len3 g.ll
  obtain ⟨x, y, z, rfl⟩ := len3 g.sl
  have kk := chgJoin_own s l hs hv hl top a b c x y z keep time ts h
  unfold svN at kk
  have h1 := AC.setS [5, 6, 7, 8, 9, 10] kk (y := .tup [.agg [.h 1, .h 2, .h 3, .d (.s (.int .i64 keep)), .d (.s (.int .i64 time)), .h 4], bT true]) (os' := [none, some (eRow top), some (lvRow [a, b, c]), some (svRow [x, y, z]), some (tmRow ts)])
    (.cons (.cons (.inl rfl) (.cons (.inl rfl) (.cons (.inl rfl) (.cons (.inl rfl) (.cons (.inl rfl) (.cons (.inl rfl) .nil)))))) (.cons (.inl rfl) .nil))
    ⟨.inl rfl, rfl, .inr ⟨rfl, rfl, rfl, .cons (.cons (SetC.row0 rfl rfl) .nil) (.cons (.cons (SetC.row0 rfl rfl) .nil) (.cons (.cons (SetC.row0 rfl rfl) .nil) .nil))⟩, rfl,
      .inr ⟨rfl, rfl, rfl, .cons (.cons (.inl rfl) (.cons (.inl rfl) (.cons (.inl rfl) (.cons (SetC.row0 rfl rfl) (.cons (.inl rfl) .nil))))) (.cons (.cons (.inl rfl) (.cons (.inl rfl) (.cons (.inl rfl) (.cons (SetC.row0 rfl rfl) (.cons (.inl rfl) .nil))))) (.cons (.cons (.inl rfl) (.cons (.inl rfl) (.cons (.inl rfl) (.cons (SetC.row0 rfl rfl) (.cons (.inl rfl) .nil))))) .nil))⟩, rfl, .inl rfl, rfl, trivial⟩
  have h2 := AC.setS [1, 2, 3, 4] h1 (y := .tup [stT ⟨top, [a, b, c], [x, y, z], keep, time, ts⟩, bT true]) (os' := [none])
    (.cons (.cons (SetC.row0 rfl rfl) (.cons (SetC.row0 rfl rfl) (.cons (SetC.row0 rfl rfl) (.cons (.inl rfl) (.cons (.inl rfl) (.cons (SetC.row0 rfl rfl) .nil)))))) (.cons (.inl rfl) .nil)) trivial
  refine AC.sel (M := [0]) h2 rfl rfl (selL rfl ?_) (by decide) fun m hm => ?_
  · simp only [go_sem, LeftL]
  · rcases m with _ | _ | m <;> first | exact ⟨by decide, rfl⟩ | omega
theorem chgJoin_no (s : Sto) (l : Int) (hs : SmSt s) (h : sJoinM s l = none) : AC Tryz.prog 38 [stT s, .c (.fn 177 [.ph 0 0 0])] (hpL [some (inO l)]) 1 ⟨.tup [zA, bT false], hpL [none], 1⟩ := by
  have k1 := storeOkI_ac s hs
  cases hv : storeS s
  · rw [hv] at k1
    refine AC_of Tryz.func38 rfl Tryz.ntmps38 Tryz.results38 (by kernel_rfl) rfl ?_
    simp only [List.zipIdx, List.map, Nat.zero_add, Nat.reduceAdd]
    repeat (first | apply Aw_seq | apply Aw_block | apply Aw_skip | apply Aw_exit | refine Aw_condt rfl ?_ | refine Aw_condf rfl ?_ | ((first | refine qr ?_ | refine qd (by kernel_rfl) (by kernel_rfl) ?_); simp only [go_sem, jE, reduceIte, jA, jM, jS, jL, jD, jB]) | refine dk (by kernel_rfl) ?_ | (refine qp (k1) (by simp only [go_sem, jE, reduceIte, jA, jM, jS, jL, jD, jB]; first | done | rfl) rfl (by simp only [go_sem, Nat.reduceLT]) rfl rfl ?_; simp only [go_sem, jE, reduceIte, jA, jM, jS, jL, jD, jB]))
    exact Aw_ret (retL (M := [0]) (.inl rfl) (by simp only [go_sem, jE, reduceIte, jA, jM, jS, jL, jD, jB]; first | done | rfl) rfl rfl (by rfl) (by simp only [go_sem, jE, reduceIte, jA, jM, jS, jL, jD, jB]; first | done | rfl | (and_intros <;> rfl)) (by decide) (by unfold idM; decide))
  rw [hv] at k1
  have kc := cloneP_ac s hs hv
  have kv := cloJoin_no s l hs hv h
  refine AC_of Tryz.func38 rfl Tryz.ntmps38 Tryz.results38 (by kernel_rfl) rfl ?_
  simp only [List.zipIdx, List.map, Nat.zero_add, Nat.reduceAdd]
  repeat (first | apply Aw_seq | apply Aw_block | apply Aw_skip | apply Aw_exit | refine Aw_condt rfl ?_ | refine Aw_condf rfl ?_ | ((first | refine qr ?_ | refine qd (by kernel_rfl) (by kernel_rfl) ?_); simp only [go_sem, jE, reduceIte, jA, jM, jS, jL, jD, jB]) | refine dk (by kernel_rfl) ?_ | (refine qp (k1) (by simp only [go_sem, jE, reduceIte, jA, jM, jS, jL, jD, jB]; first | done | rfl) rfl (by simp only [go_sem, Nat.reduceLT]) rfl rfl ?_; simp only [go_sem, jE, reduceIte, jA, jM, jS, jL, jD, jB]) | (refine qx (call_N (L := []) (kc) rfl (.cons (.nm rfl) (.nil)) (.inl rfl) rfl) (by simp only [go_sem, jE, reduceIte, jA, jM, jS, jL, jD, jB]; first | done | rfl) rfl (by simp only [go_sem, Nat.reduceLT]) ?_; simp only [go_sem, jE, reduceIte, jA, jM, jS, jL, jD, jB]) | (refine ex_callv (by simp only [go_sem, jE, reduceIte, jA, jM, jS, jL, jD, jB]; first | done | rfl) (call_V (N' := [9, 7, 8, 0]) (L := []) 1 (kv) rfl (.cons (.nm rfl) (.nil)) (by first | exact .cons (arg_nm rfl rfl) (.nil) | (simp only [capT, List.map]; exact .cons (arg_nm rfl rfl) (.nil))) (by decide) (by decide) (by decide) (by simp only [go_sem, jE, reduceIte, jA, jM, jS, jL, jD, jB]; first | done | rfl) (.inl rfl) rfl (by decide)) (by simp only [go_sem, jE, reduceIte, jA, jM, jS, jL, jD, jB]; first | done | rfl) rfl (by simp only [go_sem, Nat.reduceLT]) ?_; simp only [go_sem, jE, reduceIte, jA, jM, jS, jL, jD, jB]))
  exact Aw_ret (retL (M := [0]) (.inl rfl) (by simp only [go_sem, jE, reduceIte, jA, jM, jS, jL, jD, jB]; first | done | rfl) rfl rfl (by rfl) (by simp only [go_sem, jE, reduceIte, jA, jM, jS, jL, jD, jB]; first | done | rfl | (and_intros <;> rfl)) (by decide) (by unfold idM; decide))
theorem storeJoin_ac (s : Sto) (l : Int) (hs : SmSt s) : AC Tryz.prog 154 [stT s, iT l] noHp 0 ⟨resO (sJoinM s l), noHp, 0⟩ := by
  cases h : sJoinM s l with
  | none =>
    refine AC.nilR (x := .tup [zA, bT false]) ?_ zA_nil
    have kk := chgJoin_no s l hs h
    unfold inO at kk
    refine AC_of Tryz.func154 rfl Tryz.ntmps154 Tryz.results154 (by kernel_rfl) rfl ?_
    simp only [List.zipIdx, List.map, Nat.zero_add, Nat.reduceAdd]
    repeat (first | apply Aw_seq | apply Aw_block | apply Aw_skip | apply Aw_exit | refine Aw_condt rfl ?_ | refine Aw_condf rfl ?_ | ((first | refine qr ?_ | refine qd (by kernel_rfl) (by kernel_rfl) ?_); simp only [go_sem, jE, reduceIte, jA, jM, jS, jL, jD, jB]) | refine dk (by kernel_rfl) ?_ | (refine qx (call_L (N' := [1]) (L := []) (kk) rfl (.cons (.nm rfl) (.cons (.nm rfl) (.nil))) (by decide) (by decide) (by decide) (by simp only [go_sem, jE, reduceIte, jA, jM, jS, jL, jD, jB]; first | done | rfl) (.inl rfl) rfl (by decide)) (by simp only [go_sem, jE, reduceIte, jA, jM, jS, jL, jD, jB]; first | done | rfl) rfl (by simp only [go_sem, Nat.reduceLT]) ?_; simp only [go_sem, jE, reduceIte, jA, jM, jS, jL, jD, jB]))
    exact Aw_ret (ret0 (.inl rfl) (by simp only [go_sem, jE, reduceIte, jA, jM, jS, jL, jD, jB]; rfl) (by rfl) rfl)
  | some s' =>
    have hc : storeS s = true ∧ inB 0 l 1 = true := by
      unfold sJoinM at h
      split at h
      · rename_i hc; rw [Bool.and_eq_true] at hc; exact hc
      · cases h
    have kk := chgJoin_ok s s' l hs hc.1 hc.2 (by rw [← join_eq hc.1 hc.2]; exact h)
    unfold inO at kk
    refine AC_of Tryz.func154 rfl Tryz.ntmps154 Tryz.results154 (by kernel_rfl) rfl ?_
    simp only [List.zipIdx, List.map, Nat.zero_add, Nat.reduceAdd]
    repeat (first | apply Aw_seq | apply Aw_block | apply Aw_skip | apply Aw_exit | refine Aw_condt rfl ?_ | refine Aw_condf rfl ?_ | ((first | refine qr ?_ | refine qd (by kernel_rfl) (by kernel_rfl) ?_); simp only [go_sem, jE, reduceIte, jA, jM, jS, jL, jD, jB]) | refine dk (by kernel_rfl) ?_ | (refine qx (call_L (N' := [1]) (L := []) (kk) rfl (.cons (.nm rfl) (.cons (.nm rfl) (.nil))) (by decide) (by decide) (by decide) (by simp only [go_sem, jE, reduceIte, jA, jM, jS, jL, jD, jB]; first | done | rfl) (.inl rfl) rfl (by decide)) (by simp only [go_sem, jE, reduceIte, jA, jM, jS, jL, jD, jB]; first | done | rfl) rfl (by simp only [go_sem, Nat.reduceLT]) ?_; simp only [go_sem, jE, reduceIte, jA, jM, jS, jL, jD, jB]))
    exact Aw_ret (ret0 (.inl rfl) (by simp only [go_sem, jE, reduceIte, jA, jM, jS, jL, jD, jB]; rfl) (by rfl) rfl)
def entOf (d : Deed) (x : Sto) : Ent := if d.kind = 2 then ⟨d.key, 0, true, x.time⟩ else ⟨d.key, d.num, false, x.time⟩
def pastStep (q : Sto × List Ent) (d : Deed) : Sto × List Ent := match doM q.1 d with
  | none => q
  | some x => (x, if q.1.time < x.time then q.2 ++ [entOf d x] else q.2)
def pastTo (s : Sto) (ds : List Deed) (i : Nat) : Sto × List Ent := (ds.take i).foldl pastStep (s, [])
def pastM (s : Sto) (ds : List Deed) : List Ent := if storeS s = true ∧ ds.length ≤ 40 then (pastTo s ds ds.length).2 else []
theorem pastTo_succ {s : Sto} {ds : List Deed} {i : Nat} {d : Deed} (h : ds[i]? = some d) : pastTo s ds (i + 1) = pastStep (pastTo s ds i) d := by
  unfold pastTo
  rw [List.take_add_one, h]
  simp [List.foldl_append]
structure SmD (ds : List Deed) : Prop where
  key : ∀ d ∈ ds, smK d.key
theorem pastTo_st {s : Sto} {ds : List Deed} (hs : SmSt s) (hd : SmD ds) : ∀ i, i ≤ ds.length → SmSt (pastTo s ds i).1 ∧ (pastTo s ds i).2.length ≤ i ∧ ∀ e ∈ (pastTo s ds i).2, smK e.key := by
  intro i
  induction i with
  | zero => intro _; exact ⟨hs, by simp [pastTo], by simp [pastTo]⟩
  | succ i ih =>
    intro hi
    obtain ⟨h1, h2, h3⟩ := ih (by omega)
    obtain ⟨d, hd2⟩ : ∃ d, ds[i]? = some d := ⟨_, List.getElem?_eq_getElem (by omega)⟩
    have hk := hd.key d (List.mem_of_getElem? hd2)
    rw [pastTo_succ hd2]
    unfold pastStep
    cases hm : doM (pastTo s ds i).1 d with
    | none => dsimp only; exact ⟨h1, by omega, h3⟩
    | some x =>
      refine ⟨doM_st h1 hk hm, ?_, ?_⟩
      · dsimp only; split
        · simp; omega
        · omega
      · dsimp only; split
        · intro e he
          rcases List.mem_append.1 he with he | he
          · exact h3 e he
          · obtain rfl : e = entOf d x := by simpa using he
            unfold entOf; split <;> exact hk
        · exact h3
theorem pastM_len {s : Sto} {ds : List Deed} (hs : SmSt s) (hd : SmD ds) : (pastM s ds).length ≤ 40 ∧ ∀ e ∈ pastM s ds, smK e.key := by
  unfold pastM
  split
  · rename_i h
    have := pastTo_st hs hd ds.length (Nat.le_refl _)
    exact ⟨by omega, this.2.2⟩
  · simp
theorem pastAll_ac (s : Sto) (ds : List Deed) (hs : SmSt s) (hd : SmD ds) (hl : ds.length ≤ 1099511627776) : AC Tryz.prog 21 [stT s, deedsT ds] noHp 0 ⟨.t (.c (.h 0)), hpL [some (eRow (pastM s ds))], 1⟩ := by
  refine AC_of Tryz.func21 rfl Tryz.ntmps21 Tryz.results21 (by kernel_rfl) rfl ?_
  simp only [List.zipIdx, List.map, Nat.zero_add, Nat.reduceAdd]
  have k1 := sstoreOk_ac s hs
  unfold pastM
  cases c1 : storeS s
  · rw [c1] at k1
    rw [if_neg (by simp)]
    repeat (first | apply Aw_seq | apply Aw_block | apply Aw_skip | apply Aw_exit | refine Aw_condt rfl ?_ | refine Aw_condf rfl ?_ | ((first | refine qr ?_ | refine qd (by kernel_rfl) (by kernel_rfl) ?_); simp only [go_sem, jE, reduceIte, jA, jM, jS, jL, jD, jB]) | refine dk (by kernel_rfl) ?_ | (refine qp (k1) (by simp only [go_sem, jE, reduceIte, jA, jM, jS, jL, jD, jB]; first | done | rfl) rfl (by simp only [go_sem, Nat.reduceLT]) rfl rfl ?_; simp only [go_sem, jE, reduceIte, jA, jM, jS, jL, jD, jB]))
    exact Aw_ret (retL (M := [2]) (.inl rfl) (by simp only [go_sem, jE, reduceIte, jA, jM, jS, jL, jD, jB]; first | done | rfl) rfl rfl (by rfl) (by simp only [go_sem, jE, reduceIte, jA, jM, jS, jL, jD, jB]; first | done | rfl | (and_intros <;> rfl)) (by decide) (by unfold idM; decide))
  rw [c1] at k1
  by_cases c2 : ds.length ≤ 40
  case neg =>
    have g2 : decide ((40 : Int) < (ds.length : Int)) = true := decide_eq_true (by omega)
    rw [if_neg (by simp [c2])]
    repeat (first | apply Aw_seq | apply Aw_block | apply Aw_skip | apply Aw_exit | refine Aw_condt rfl ?_ | refine Aw_condf rfl ?_ | ((first | refine qr ?_ | refine qd (by kernel_rfl) (by kernel_rfl) ?_); simp only [go_sem, jE, reduceIte, jA, jM, jS, jL, jD, jB, g2]) | refine dk (by kernel_rfl) ?_ | (refine qp (k1) (by simp only [go_sem, jE, reduceIte, jA, jM, jS, jL, jD, jB, g2]; first | done | rfl) rfl (by simp only [go_sem, Nat.reduceLT]) rfl rfl ?_; simp only [go_sem, jE, reduceIte, jA, jM, jS, jL, jD, jB, g2]))
    exact Aw_ret (retL (M := [2]) (.inl rfl) (by simp only [go_sem, jE, reduceIte, jA, jM, jS, jL, jD, jB]; first | done | rfl) rfl rfl (by rfl) (by simp only [go_sem, jE, reduceIte, jA, jM, jS, jL, jD, jB]; first | done | rfl | (and_intros <;> rfl)) (by decide) (by unfold idM; decide))
  have g2 : decide ((40 : Int) < (ds.length : Int)) = false := decide_eq_false (by omega)
  rw [if_pos ⟨rfl, c2⟩]
  have e0 : pastTo s ds 0 = (s, []) := rfl
  repeat (first | apply Aw_seq | apply Aw_block | apply Aw_skip | apply Aw_exit | refine Aw_condt rfl ?_ | refine Aw_condf rfl ?_ | ((first | refine qr ?_ | refine qd (by kernel_rfl) (by kernel_rfl) ?_); simp only [go_sem, jE, reduceIte, jA, jM, jS, jL, jD, jB, g2]) | refine dk (by kernel_rfl) ?_ | (refine qp (k1) (by simp only [go_sem, jE, reduceIte, jA, jM, jS, jL, jD, jB, g2]; first | done | rfl) rfl (by simp only [go_sem, Nat.reduceLT]) rfl rfl ?_; simp only [go_sem, jE, reduceIte, jA, jM, jS, jL, jD, jB, g2]))
  refine Aw.rw (rwL (l' := [(6, .t (iT (0 : Nat))), (5, .t (.c (.h 1))), (2, .t (.c (.ph 0 0 0))), (1, .t (deedsT ds))]) (os := [some (stO (pastTo s ds 0).1), some (eRow (pastTo s ds 0).2)]) (M := [0, 2]) (n' := 2) (by repeat (first | exact trivial | refine ⟨rfl, rfl, ?_⟩)) (by rfl) (by simp only [go_sem, jE, reduceIte, jA, jM, jS, jL, jD, jB, e0, List.map_nil]; first | done | rfl) (by decide) (by unfold idM; decide)) ?_
  refine Aw_loop_rw (ι := { i : Nat // i ≤ ds.length }) (fun q => S [(6, .t (iT (q.1 : Nat))), (5, .t (.c (.h 1))), (2, .t (.c (.ph 0 0 0))), (1, .t (deedsT ds))] (hpL [some (stO (pastTo s ds q.1).1), some (eRow (pastTo s ds q.1).2)]) 2) (fun q => ds.length - q.1) ⟨0, Nat.zero_le _⟩ ?_
  rintro ⟨i, hi⟩
  dsimp only
  by_cases hlt : i < ds.length
  · have g1 : (i : Int) < (ds.length : Int) := by omega
    have w1 := wrap_succ hlt (by omega)
    obtain ⟨d, hx⟩ : ∃ e, ds[i]? = some e := ⟨_, List.getElem?_eq_getElem hlt⟩
    have hk := hd.key d (List.mem_of_getElem? hx)
    obtain ⟨p1, p2, p3⟩ := pastTo_st hs hd i hi
    have e1 := pastTo_succ (s := s) hx
    generalize pastTo s ds i = q at p1 p2 p3 e1 ⊢
    obtain ⟨cs, out⟩ := q
    dsimp only at p1 p2 p3
    have hap : (out.length + 1) * 40 ≤ 140737488355328 := by omega
    have k2 := l13Do_ac cs d p1 hk
    dsimp only
    cases hm : doM cs d with
    | none =>
      rw [hm] at k2
      have e2 : pastTo s ds (i + 1) = (cs, out) := by rw [e1]; unfold pastStep; simp only [hm]
      repeat (first | apply Aw_seq | apply Aw_block | apply Aw_skip | apply Aw_exit | refine Aw_condt rfl ?_ | refine Aw_condf rfl ?_ | ((first | refine qr ?_ | refine qd (by kernel_rfl) (by kernel_rfl) ?_); simp only [go_sem, jE, reduceIte, jA, jM, jS, jL, jD, jB, g1, w1, hx]) | refine dk (by kernel_rfl) ?_ | (refine qp (k2) (by simp only [go_sem, jE, reduceIte, jA, jM, jS, jL, jD, jB, g1, w1, hx]; first | done | rfl) rfl (by simp only [go_sem, Nat.reduceLT]) rfl rfl ?_; simp only [go_sem, jE, reduceIte, jA, jM, jS, jL, jD, jB, g1, w1, hx]))
      refine ⟨⟨i + 1, hlt⟩, [0, 1], ?_, rwL (by repeat (first | exact trivial | refine ⟨rfl, rfl, ?_⟩)) (by rfl) (by simp only [go_sem, jE, reduceIte, jA, jM, jS, jL, jD, jB, e2]; first | done | rfl) (by decide) (by unfold idM; decide)⟩
      show ds.length - (i + 1) < ds.length - i; omega
    | some x =>
      rw [hm] at k2
      have k2 : AC Tryz.prog 54 [stT cs, deedT d] noHp 0 ⟨.tup [stT x, bT true], noHp, 0⟩ := k2
      cases c3 : decide (cs.time < x.time)
      · have e2 : pastTo s ds (i + 1) = (x, out) := by rw [e1]; unfold pastStep; simp only [hm]; rw [if_neg (of_decide_eq_false c3)]
        repeat (first | apply Aw_seq | apply Aw_block | apply Aw_skip | apply Aw_exit | refine Aw_condt rfl ?_ | refine Aw_condf rfl ?_ | ((first | refine qr ?_ | refine qd (by kernel_rfl) (by kernel_rfl) ?_); simp only [go_sem, jE, reduceIte, jA, jM, jS, jL, jD, jB, g1, w1, hx, c3]) | refine dk (by kernel_rfl) ?_ | (refine qp (k2) (by simp only [go_sem, jE, reduceIte, jA, jM, jS, jL, jD, jB, g1, w1, hx, c3]; first | done | rfl) rfl (by simp only [go_sem, Nat.reduceLT]) rfl rfl ?_; simp only [go_sem, jE, reduceIte, jA, jM, jS, jL, jD, jB, g1, w1, hx, c3]))
        refine ⟨⟨i + 1, hlt⟩, [0, 1], ?_, rwL (by repeat (first | exact trivial | refine ⟨rfl, rfl, ?_⟩)) (by rfl) (by simp only [go_sem, jE, reduceIte, jA, jM, jS, jL, jD, jB, e2]; first | done | rfl) (by decide) (by unfold idM; decide)⟩
        show ds.length - (i + 1) < ds.length - i; omega
      · cases c4 : decide (d.kind = 2)
        · have e2 : pastTo s ds (i + 1) = (x, out ++ [⟨d.key, d.num, false, x.time⟩]) := by rw [e1]; unfold pastStep entOf; simp only [hm]; rw [if_pos (of_decide_eq_true c3), if_neg (of_decide_eq_false c4)]
          repeat (first | apply Aw_seq | apply Aw_block | apply Aw_skip | apply Aw_exit | refine Aw_condt rfl ?_ | refine Aw_condf rfl ?_ | ((first | refine qr ?_ | refine qd (by kernel_rfl) (by kernel_rfl) ?_); simp only [go_sem, jE, reduceIte, jA, jM, jS, jL, jD, jB, g1, w1, hx, c3, c4, hap]) | refine dk (by kernel_rfl) ?_ | (refine qp (k2) (by simp only [go_sem, jE, reduceIte, jA, jM, jS, jL, jD, jB, g1, w1, hx, c3, c4, hap]; first | done | rfl) rfl (by simp only [go_sem, Nat.reduceLT]) rfl rfl ?_; simp only [go_sem, jE, reduceIte, jA, jM, jS, jL, jD, jB, g1, w1, hx, c3, c4, hap]))
          refine ⟨⟨i + 1, hlt⟩, [0, 48], ?_, rwL (by repeat (first | exact trivial | refine ⟨rfl, rfl, ?_⟩)) (by rfl) (by simp only [go_sem, jE, reduceIte, jA, jM, jS, jL, jD, jB, e2, List.map_append, List.map_cons, List.map_nil]; first | done | rfl) (by decide) (by unfold idM; decide)⟩
          show ds.length - (i + 1) < ds.length - i; omega
        · have e2 : pastTo s ds (i + 1) = (x, out ++ [⟨d.key, 0, true, x.time⟩]) := by rw [e1]; unfold pastStep entOf; simp only [hm]; rw [if_pos (of_decide_eq_true c3), if_pos (of_decide_eq_true c4)]
          repeat (first | apply Aw_seq | apply Aw_block | apply Aw_skip | apply Aw_exit | refine Aw_condt rfl ?_ | refine Aw_condf rfl ?_ | ((first | refine qr ?_ | refine qd (by kernel_rfl) (by kernel_rfl) ?_); simp only [go_sem, jE, reduceIte, jA, jM, jS, jL, jD, jB, g1, w1, hx, c3, c4, hap]) | refine dk (by kernel_rfl) ?_ | (refine qp (k2) (by simp only [go_sem, jE, reduceIte, jA, jM, jS, jL, jD, jB, g1, w1, hx, c3, c4, hap]; first | done | rfl) rfl (by simp only [go_sem, Nat.reduceLT]) rfl rfl ?_; simp only [go_sem, jE, reduceIte, jA, jM, jS, jL, jD, jB, g1, w1, hx, c3, c4, hap]))
          refine ⟨⟨i + 1, hlt⟩, [0, 57], ?_, rwL (by repeat (first | exact trivial | refine ⟨rfl, rfl, ?_⟩)) (by rfl) (by simp only [go_sem, jE, reduceIte, jA, jM, jS, jL, jD, jB, e2, List.map_append, List.map_cons, List.map_nil]; first | done | rfl) (by decide) (by unfold idM; decide)⟩
          show ds.length - (i + 1) < ds.length - i; omega
  · have g1 : ¬ (i : Int) < (ds.length : Int) := by omega
    obtain rfl : i = ds.length := by omega
    repeat (first | apply Aw_seq | apply Aw_block | apply Aw_skip | apply Aw_exit | refine Aw_condt rfl ?_ | refine Aw_condf rfl ?_ | ((first | refine qr ?_ | refine qd (by kernel_rfl) (by kernel_rfl) ?_); simp only [go_sem, jE, reduceIte, jA, jM, jS, jL, jD, jB, g1]) | refine dk (by kernel_rfl) ?_)
    exact Aw_ret (retL (M := [1]) (.inl rfl) (by simp only [go_sem, jE, reduceIte, jA, jM, jS, jL, jD, jB]; first | done | rfl) rfl rfl (by rfl) (by simp only [go_sem, jE, reduceIte, jA, jM, jS, jL, jD, jB]; first | done | rfl | (and_intros <;> rfl)) (by decide) (by unfold idM; decide))
theorem pastAllS_ac (s : Sto) (ds : List Deed) (hs : SmSt s) (hd : SmD ds) (hl : ds.length ≤ 1099511627776) : AC Tryz.prog 21 [stT s, deedsT ds] noHp 0 ⟨.t (runT (pastM s ds)), noHp, 0⟩ := AC.settle0 [0] (pastAll_ac s ds hs hd hl) (SetC.row0 rfl rfl) rfl
theorem do_ac (s : Sto) (d : Deed) (hs : SmSt s) (hk : smK d.key) : AC Tryz.prog 107 [deedT d, stT s] noHp 0 ⟨resO (doM s d), noHp, 0⟩ := by
  unfold doM
  cases c1 : decide (d.kind = 1)
  case true =>
    rw [if_pos (of_decide_eq_true c1)]
    have k := storePut_ac s d.key d.num hs hk
    generalize putM s d.key d.num = o at k ⊢
    refine AC_of Tryz.func107 rfl Tryz.ntmps107 Tryz.results107 (by kernel_rfl) rfl ?_
    simp only [List.zipIdx, List.map, Nat.zero_add, Nat.reduceAdd]
    repeat (first | apply Aw_seq | apply Aw_block | apply Aw_skip | apply Aw_exit | refine Aw_condt rfl ?_ | refine Aw_condf rfl ?_ | ((first | refine qr ?_ | refine qd (by kernel_rfl) (by kernel_rfl) ?_); simp only [go_sem, jE, reduceIte, jA, jM, jS, jL, jD, jB, c1]) | refine dk (by kernel_rfl) ?_ | (refine qp (k) (by simp only [go_sem, jE, reduceIte, jA, jM, jS, jL, jD, jB, c1]; first | done | rfl) rfl (by simp only [go_sem, Nat.reduceLT]) rfl rfl ?_; simp only [go_sem, jE, reduceIte, jA, jM, jS, jL, jD, jB, c1]))
    exact Aw_ret (ret0 (.inl rfl) (by simp only [go_sem, jE, reduceIte, jA, jM, jS, jL, jD, jB]; rfl) (by rfl) rfl)
  rw [if_neg (of_decide_eq_false c1)]
  cases c2 : decide (d.kind = 2)
  case true =>
    rw [if_pos (of_decide_eq_true c2)]
    have k := storeTake_ac s d.key hs hk
    generalize takeM s d.key = o at k ⊢
    refine AC_of Tryz.func107 rfl Tryz.ntmps107 Tryz.results107 (by kernel_rfl) rfl ?_
    simp only [List.zipIdx, List.map, Nat.zero_add, Nat.reduceAdd]
    repeat (first | apply Aw_seq | apply Aw_block | apply Aw_skip | apply Aw_exit | refine Aw_condt rfl ?_ | refine Aw_condf rfl ?_ | ((first | refine qr ?_ | refine qd (by kernel_rfl) (by kernel_rfl) ?_); simp only [go_sem, jE, reduceIte, jA, jM, jS, jL, jD, jB, c1, c2]) | refine dk (by kernel_rfl) ?_ | (refine qp (k) (by simp only [go_sem, jE, reduceIte, jA, jM, jS, jL, jD, jB, c1, c2]; first | done | rfl) rfl (by simp only [go_sem, Nat.reduceLT]) rfl rfl ?_; simp only [go_sem, jE, reduceIte, jA, jM, jS, jL, jD, jB, c1, c2]))
    exact Aw_ret (ret0 (.inl rfl) (by simp only [go_sem, jE, reduceIte, jA, jM, jS, jL, jD, jB]; rfl) (by rfl) rfl)
  rw [if_neg (of_decide_eq_false c2)]
  cases c3 : decide (d.kind = 3)
  case true =>
    rw [if_pos (of_decide_eq_true c3)]
    have k := storeHold_ac s hs
    generalize holdM s = o at k ⊢
    refine AC_of Tryz.func107 rfl Tryz.ntmps107 Tryz.results107 (by kernel_rfl) rfl ?_
    simp only [List.zipIdx, List.map, Nat.zero_add, Nat.reduceAdd]
    repeat (first | apply Aw_seq | apply Aw_block | apply Aw_skip | apply Aw_exit | refine Aw_condt rfl ?_ | refine Aw_condf rfl ?_ | ((first | refine qr ?_ | refine qd (by kernel_rfl) (by kernel_rfl) ?_); simp only [go_sem, jE, reduceIte, jA, jM, jS, jL, jD, jB, c1, c2, c3]) | refine dk (by kernel_rfl) ?_ | (refine qp (k) (by simp only [go_sem, jE, reduceIte, jA, jM, jS, jL, jD, jB, c1, c2, c3]; first | done | rfl) rfl (by simp only [go_sem, Nat.reduceLT]) rfl rfl ?_; simp only [go_sem, jE, reduceIte, jA, jM, jS, jL, jD, jB, c1, c2, c3]))
    exact Aw_ret (ret0 (.inl rfl) (by simp only [go_sem, jE, reduceIte, jA, jM, jS, jL, jD, jB]; rfl) (by rfl) rfl)
  rw [if_neg (of_decide_eq_false c3)]
  cases c4 : decide (d.kind = 4)
  case true =>
    rw [if_pos (of_decide_eq_true c4)]
    have k := storeFree_ac s d.num hs
    generalize freeM s d.num = o at k ⊢
    refine AC_of Tryz.func107 rfl Tryz.ntmps107 Tryz.results107 (by kernel_rfl) rfl ?_
    simp only [List.zipIdx, List.map, Nat.zero_add, Nat.reduceAdd]
    repeat (first | apply Aw_seq | apply Aw_block | apply Aw_skip | apply Aw_exit | refine Aw_condt rfl ?_ | refine Aw_condf rfl ?_ | ((first | refine qr ?_ | refine qd (by kernel_rfl) (by kernel_rfl) ?_); simp only [go_sem, jE, reduceIte, jA, jM, jS, jL, jD, jB, c1, c2, c3, c4]) | refine dk (by kernel_rfl) ?_ | (refine qp (k) (by simp only [go_sem, jE, reduceIte, jA, jM, jS, jL, jD, jB, c1, c2, c3, c4]; first | done | rfl) rfl (by simp only [go_sem, Nat.reduceLT]) rfl rfl ?_; simp only [go_sem, jE, reduceIte, jA, jM, jS, jL, jD, jB, c1, c2, c3, c4]))
    exact Aw_ret (ret0 (.inl rfl) (by simp only [go_sem, jE, reduceIte, jA, jM, jS, jL, jD, jB]; rfl) (by rfl) rfl)
  rw [if_neg (of_decide_eq_false c4)]
  cases c5 : decide (d.kind = 5)
  case true =>
    rw [if_pos (of_decide_eq_true c5)]
    have k := storeDown_ac s hs
    generalize sDownM s = o at k ⊢
    refine AC_of Tryz.func107 rfl Tryz.ntmps107 Tryz.results107 (by kernel_rfl) rfl ?_
    simp only [List.zipIdx, List.map, Nat.zero_add, Nat.reduceAdd]
    repeat (first | apply Aw_seq | apply Aw_block | apply Aw_skip | apply Aw_exit | refine Aw_condt rfl ?_ | refine Aw_condf rfl ?_ | ((first | refine qr ?_ | refine qd (by kernel_rfl) (by kernel_rfl) ?_); simp only [go_sem, jE, reduceIte, jA, jM, jS, jL, jD, jB, c1, c2, c3, c4, c5]) | refine dk (by kernel_rfl) ?_ | (refine qp (k) (by simp only [go_sem, jE, reduceIte, jA, jM, jS, jL, jD, jB, c1, c2, c3, c4, c5]; first | done | rfl) rfl (by simp only [go_sem, Nat.reduceLT]) rfl rfl ?_; simp only [go_sem, jE, reduceIte, jA, jM, jS, jL, jD, jB, c1, c2, c3, c4, c5]))
    exact Aw_ret (ret0 (.inl rfl) (by simp only [go_sem, jE, reduceIte, jA, jM, jS, jL, jD, jB]; rfl) (by rfl) rfl)
  rw [if_neg (of_decide_eq_false c5)]
  cases c6 : decide (d.kind = 6)
  case true =>
    rw [if_pos (of_decide_eq_true c6)]
    have k := storeJoin_ac s d.num hs
    generalize sJoinM s d.num = o at k ⊢
    refine AC_of Tryz.func107 rfl Tryz.ntmps107 Tryz.results107 (by kernel_rfl) rfl ?_
    simp only [List.zipIdx, List.map, Nat.zero_add, Nat.reduceAdd]
    repeat (first | apply Aw_seq | apply Aw_block | apply Aw_skip | apply Aw_exit | refine Aw_condt rfl ?_ | refine Aw_condf rfl ?_ | ((first | refine qr ?_ | refine qd (by kernel_rfl) (by kernel_rfl) ?_); simp only [go_sem, jE, reduceIte, jA, jM, jS, jL, jD, jB, c1, c2, c3, c4, c5, c6]) | refine dk (by kernel_rfl) ?_ | (refine qp (k) (by simp only [go_sem, jE, reduceIte, jA, jM, jS, jL, jD, jB, c1, c2, c3, c4, c5, c6]; first | done | rfl) rfl (by simp only [go_sem, Nat.reduceLT]) rfl rfl ?_; simp only [go_sem, jE, reduceIte, jA, jM, jS, jL, jD, jB, c1, c2, c3, c4, c5, c6]))
    exact Aw_ret (ret0 (.inl rfl) (by simp only [go_sem, jE, reduceIte, jA, jM, jS, jL, jD, jB]; rfl) (by rfl) rfl)
  rw [if_neg (of_decide_eq_false c6)]
  refine AC.nilR (x := .tup [zA, bT false]) ?_ zA_nil
  refine AC_of Tryz.func107 rfl Tryz.ntmps107 Tryz.results107 (by kernel_rfl) rfl ?_
  simp only [List.zipIdx, List.map, Nat.zero_add, Nat.reduceAdd]
  repeat (first | apply Aw_seq | apply Aw_block | apply Aw_skip | apply Aw_exit | refine Aw_condt rfl ?_ | refine Aw_condf rfl ?_ | ((first | refine qr ?_ | refine qd (by kernel_rfl) (by kernel_rfl) ?_); simp only [go_sem, jE, reduceIte, jA, jM, jS, jL, jD, jB, c1, c2, c3, c4, c5, c6]) | refine dk (by kernel_rfl) ?_)
  exact Aw_ret (ret0 (.inl rfl) (by simp only [go_sem, jE, reduceIte, jA, jM, jS, jL, jD, jB]; rfl) (by rfl) rfl)
theorem addM_time {s x : Sto} {e : Ent} (h : addM s e = some x) : storeS s = true ∧ x.time = e.time := by
  unfold addM at h
  split at h
  · rename_i hc
    rw [Bool.and_eq_true] at hc
    refine ⟨hc.1, ?_⟩
    split at h
    · obtain ⟨y, hy, rfl⟩ := Option.map_eq_some_iff.1 h; rfl
    · obtain rfl := Option.some.inj h; rfl
  · cases h
theorem into_time : ∀ (d : Nat) {s s' : Sto} {i : Nat} {r : List Ent}, intoM d s i r = some s' → s'.time = s.time
  | 0, s, s', i, r, h => (setM_times h).2.2.1
  | d + 1, s, s', i, r, h => by
    simp only [intoM] at h
    split at h
    · rename_i x hx
      obtain rfl := Option.some.inj h
      exact (setM_times hx).2.2.1
    · obtain ⟨s1, h1, h2⟩ := Option.bind_eq_some_iff.1 h
      rw [(setM_times h2).2.2.1, into_time d h1]
theorem do_time {s x : Sto} {d : Deed} (h : doM s d = some x) : decide (s.time < x.time) = (decide (d.kind = 1) || decide (d.kind = 2)) := by
  have nx : storeS s = true → nextT s = s.time + 1 := fun hv => by
    obtain ⟨_, _, _, _, _, h6, _⟩ := storeS_facts hv
    unfold inB at h6
    rw [Bool.and_eq_true] at h6
    have t0 := of_decide_eq_true h6.1; have t1 := of_decide_eq_true h6.2
    exact wrap_in (by omega) (by omega)
  have ir : x.time = s.time → decide (s.time < x.time) = false := fun e => by rw [e]; exact decide_eq_false (by omega)
  unfold doM at h
  by_cases c1 : d.kind = 1
  · rw [if_pos c1] at h
    obtain ⟨hv, ht⟩ := addM_time h
    have := nx hv
    rw [decide_eq_true c1, Bool.true_or]
    exact decide_eq_true (by rw [ht]; show s.time < nextT s; omega)
  rw [if_neg c1] at h
  by_cases c2 : d.kind = 2
  · rw [if_pos c2] at h
    obtain ⟨hv, ht⟩ := addM_time h
    have := nx hv
    rw [decide_eq_true c2, Bool.or_true]
    exact decide_eq_true (by rw [ht]; show s.time < nextT s; omega)
  rw [if_neg c2] at h
  rw [decide_eq_false c1, decide_eq_false c2]
  refine ir ?_
  split at h
  · unfold holdM at h
    split at h
    · split at h
      · obtain rfl := Option.some.inj h; rfl
      · cases h
    · cases h
  split at h
  · unfold freeM at h
    split at h
    · split at h
      · cases h
      · obtain rfl := Option.some.inj h; rfl
    · cases h
  split at h
  · unfold sDownM at h
    split at h
    · exact into_time 2 (s := { s with top := [] }) h
    · cases h
  split at h
  · unfold sJoinM at h
    split at h
    · obtain ⟨y, hy, h2⟩ := Option.bind_eq_some_iff.1 h
      rw [into_time _ h2, (setM_times hy).2.2.1]
    · cases h
  · cases h
theorem cloneS_ac (s : Sto) (hs : SmSt s) (hv : storeS s = true) : AC Tryz.prog 94 [stT s] noHp 0 ⟨.t (stT s), noHp, 0⟩ :=
  AC.settle0 [0, 1] (cloneP_ac s hs hv) (.cons (.inl rfl) (.cons (SetC.row0 rfl rfl) (.cons (SetC.row0 rfl rfl) (.cons (.inl rfl) (.cons (.inl rfl) (.cons (.inl rfl) .nil)))))) rfl
theorem past_ac (s : Sto) (ds : List Deed) (hs : SmSt s) (hd : SmD ds) (hv : storeS s = true) (hl : ds.length ≤ 40) : AC Tryz.prog 53 [stT s, deedsT ds] noHp 0 ⟨.tup [stT (pastTo s ds ds.length).1, .c (.h 0), bT true], hpL [some (eRow (pastTo s ds ds.length).2)], 1⟩ := by
  have k1 := storeOkI_ac s hs
  rw [hv] at k1
  have kc := cloneS_ac s hs hv
  have g2 : decide ((40 : Int) < (ds.length : Int)) = false := decide_eq_false (by omega)
  have e0 : pastTo s ds 0 = (s, []) := rfl
  refine AC_of Tryz.func53 rfl Tryz.ntmps53 Tryz.results53 (by kernel_rfl) rfl ?_
  simp only [List.zipIdx, List.map, Nat.zero_add, Nat.reduceAdd]
  repeat (first | apply Aw_seq | apply Aw_block | apply Aw_skip | apply Aw_exit | refine Aw_condt rfl ?_ | refine Aw_condf rfl ?_ | ((first | refine qr ?_ | refine qd (by kernel_rfl) (by kernel_rfl) ?_); simp only [go_sem, jE, reduceIte, jA, jM, jS, jL, jD, jB, g2]) | refine dk (by kernel_rfl) ?_ | (refine qp (k1) (by simp only [go_sem, jE, reduceIte, jA, jM, jS, jL, jD, jB, g2]; first | done | rfl) rfl (by simp only [go_sem, Nat.reduceLT]) rfl rfl ?_; simp only [go_sem, jE, reduceIte, jA, jM, jS, jL, jD, jB, g2]) | (refine qp (kc) (by simp only [go_sem, jE, reduceIte, jA, jM, jS, jL, jD, jB, g2]; first | done | rfl) rfl (by simp only [go_sem, Nat.reduceLT]) rfl rfl ?_; simp only [go_sem, jE, reduceIte, jA, jM, jS, jL, jD, jB, g2]))
  refine Aw.own (t := 8) (e := 48) (j := 4) rfl (by decide) (by simp only [Nat.reduceAdd]; rfl) ?_
  refine Aw.rw (rwL (l' := [(26, .t (iT (0 : Nat))), (25, .t (iT ds.length)), (24, .t (deedsT ds)), (8, .t (.c (.h 1))), (7, .t (.c (.ph 0 0 0))), (4, .t (.c (.ph 2 0 0)))]) (os := [some (stO (pastTo s ds 0).1), some (eRow (pastTo s ds 0).2), some zO]) (M := [12, 18, 1]) (n' := 3) (by repeat (first | exact trivial | refine ⟨rfl, rfl, ?_⟩)) (by rfl) (by simp only [go_sem, jE, reduceIte, jA, jM, jS, jL, jD, jB, e0, List.map_nil]; first | done | rfl) (by decide) (by unfold idM; decide)) ?_
  refine Aw_loop_rw (ι := { i : Nat // i ≤ ds.length }) (fun q => S [(26, .t (iT (q.1 : Nat))), (25, .t (iT ds.length)), (24, .t (deedsT ds)), (8, .t (.c (.h 1))), (7, .t (.c (.ph 0 0 0))), (4, .t (.c (.ph 2 0 0)))] (hpL [some (stO (pastTo s ds q.1).1), some (eRow (pastTo s ds q.1).2), some zO]) 3) (fun q => ds.length - q.1) ⟨0, Nat.zero_le _⟩ ?_
  rintro ⟨i, hi⟩
  dsimp only
  by_cases hlt : i < ds.length
  · have g1 : decide ((i : Int) < (ds.length : Int)) = true := decide_eq_true (by omega)
    have w1 := wrap_succ hlt (by omega)
    obtain ⟨d, hx⟩ : ∃ e, ds[i]? = some e := ⟨_, List.getElem?_eq_getElem hlt⟩
    have hk := hd.key d (List.mem_of_getElem? hx)
    obtain ⟨p1, p2, p3⟩ := pastTo_st hs hd i hi
    have e1 := pastTo_succ (s := s) hx
    generalize pastTo s ds i = q at p1 p2 p3 e1 ⊢
    obtain ⟨cs, out⟩ := q
    dsimp only at p1 p2 p3
    have hap : (out.length + 1) * 40 ≤ 140737488355328 := by omega
    have k2 := do_ac cs d p1 hk
    dsimp only
    cases hm : doM cs d with
    | none =>
      rw [hm] at k2
      have k2 : AC Tryz.prog 107 [deedT d, stT cs] noHp 0 ⟨.tup [stT zSto, bT false], noHp, 0⟩ := k2
      have e2 : pastTo s ds (i + 1) = (cs, out) := by rw [e1]; unfold pastStep; simp only [hm]
      repeat (first | apply Aw_seq | apply Aw_block | apply Aw_skip | apply Aw_exit | refine Aw_condt rfl ?_ | refine Aw_condf rfl ?_ | ((first | refine qr ?_ | refine qd (by kernel_rfl) (by kernel_rfl) ?_); simp only [go_sem, jE, reduceIte, jA, jM, jS, jL, jD, jB, g1, w1, hx]) | refine dk (by kernel_rfl) ?_ | (refine qp (k2) (by simp only [go_sem, jE, reduceIte, jA, jM, jS, jL, jD, jB, g1, w1, hx]; first | done | rfl) rfl (by simp only [go_sem, Nat.reduceLT]) rfl rfl ?_; simp only [go_sem, jE, reduceIte, jA, jM, jS, jL, jD, jB, g1, w1, hx]))
      refine ⟨⟨i + 1, hlt⟩, [0, 1, 2], ?_, rwL (by repeat (first | exact trivial | refine ⟨rfl, rfl, ?_⟩)) (by rfl) (by simp only [go_sem, jE, reduceIte, jA, jM, jS, jL, jD, jB, e2]; first | done | rfl) (by decide) (by unfold idM; decide)⟩
      show ds.length - (i + 1) < ds.length - i; omega
    | some x =>
      rw [hm] at k2
      have k2 : AC Tryz.prog 107 [deedT d, stT cs] noHp 0 ⟨.tup [stT x, bT true], noHp, 0⟩ := k2
      have ht := do_time hm
      cases c3 : decide (d.kind = 1)
      · cases c4 : decide (d.kind = 2)
        · rw [c3, c4] at ht
          have e2 : pastTo s ds (i + 1) = (x, out) := by rw [e1]; unfold pastStep; simp only [hm]; rw [if_neg (of_decide_eq_false ht)]
          repeat (first | apply Aw_seq | apply Aw_block | apply Aw_skip | apply Aw_exit | refine Aw_condt rfl ?_ | refine Aw_condf rfl ?_ | ((first | refine qr ?_ | refine qd (by kernel_rfl) (by kernel_rfl) ?_); simp only [go_sem, jE, reduceIte, jA, jM, jS, jL, jD, jB, g1, w1, hx, c3, c4]) | refine dk (by kernel_rfl) ?_ | (refine qp (k2) (by simp only [go_sem, jE, reduceIte, jA, jM, jS, jL, jD, jB, g1, w1, hx, c3, c4]; first | done | rfl) rfl (by simp only [go_sem, Nat.reduceLT]) rfl rfl ?_; simp only [go_sem, jE, reduceIte, jA, jM, jS, jL, jD, jB, g1, w1, hx, c3, c4]))
          refine ⟨⟨i + 1, hlt⟩, [0, 1, 2], ?_, rwL (by repeat (first | exact trivial | refine ⟨rfl, rfl, ?_⟩)) (by rfl) (by simp only [go_sem, jE, reduceIte, jA, jM, jS, jL, jD, jB, e2]; first | done | rfl) (by decide) (by unfold idM; decide)⟩
          show ds.length - (i + 1) < ds.length - i; omega
        · rw [c3, c4] at ht
          have e2 : pastTo s ds (i + 1) = (x, out ++ [⟨d.key, 0, true, x.time⟩]) := by rw [e1]; unfold pastStep entOf; simp only [hm]; rw [if_pos (of_decide_eq_true ht), if_pos (of_decide_eq_true c4)]
          repeat (first | apply Aw_seq | apply Aw_block | apply Aw_skip | apply Aw_exit | refine Aw_condt rfl ?_ | refine Aw_condf rfl ?_ | ((first | refine qr ?_ | refine qd (by kernel_rfl) (by kernel_rfl) ?_); simp only [go_sem, jE, reduceIte, jA, jM, jS, jL, jD, jB, g1, w1, hx, c3, c4, hap]) | refine dk (by kernel_rfl) ?_ | (refine qp (k2) (by simp only [go_sem, jE, reduceIte, jA, jM, jS, jL, jD, jB, g1, w1, hx, c3, c4, hap]; first | done | rfl) rfl (by simp only [go_sem, Nat.reduceLT]) rfl rfl ?_; simp only [go_sem, jE, reduceIte, jA, jM, jS, jL, jD, jB, g1, w1, hx, c3, c4, hap]))
          refine ⟨⟨i + 1, hlt⟩, [0, 33, 2], ?_, rwL (by repeat (first | exact trivial | refine ⟨rfl, rfl, ?_⟩)) (by rfl) (by simp only [go_sem, jE, reduceIte, jA, jM, jS, jL, jD, jB, e2, List.map_append, List.map_cons, List.map_nil]; first | done | rfl) (by decide) (by unfold idM; decide)⟩
          show ds.length - (i + 1) < ds.length - i; omega
      · have c4 : d.kind ≠ 2 := by have := of_decide_eq_true c3; omega
        rw [c3] at ht
        have e2 : pastTo s ds (i + 1) = (x, out ++ [⟨d.key, d.num, false, x.time⟩]) := by rw [e1]; unfold pastStep entOf; simp only [hm]; rw [if_pos (of_decide_eq_true ht), if_neg c4]
        repeat (first | apply Aw_seq | apply Aw_block | apply Aw_skip | apply Aw_exit | refine Aw_condt rfl ?_ | refine Aw_condf rfl ?_ | ((first | refine qr ?_ | refine qd (by kernel_rfl) (by kernel_rfl) ?_); simp only [go_sem, jE, reduceIte, jA, jM, jS, jL, jD, jB, g1, w1, hx, c3, hap]) | refine dk (by kernel_rfl) ?_ | (refine qp (k2) (by simp only [go_sem, jE, reduceIte, jA, jM, jS, jL, jD, jB, g1, w1, hx, c3, hap]; first | done | rfl) rfl (by simp only [go_sem, Nat.reduceLT]) rfl rfl ?_; simp only [go_sem, jE, reduceIte, jA, jM, jS, jL, jD, jB, g1, w1, hx, c3, hap]))
        refine ⟨⟨i + 1, hlt⟩, [0, 33, 2], ?_, rwL (by repeat (first | exact trivial | refine ⟨rfl, rfl, ?_⟩)) (by rfl) (by simp only [go_sem, jE, reduceIte, jA, jM, jS, jL, jD, jB, e2, List.map_append, List.map_cons, List.map_nil]; first | done | rfl) (by decide) (by unfold idM; decide)⟩
        show ds.length - (i + 1) < ds.length - i; omega
  · have g1 : decide ((i : Int) < (ds.length : Int)) = false := decide_eq_false (by omega)
    obtain rfl : i = ds.length := by omega
    repeat (first | apply Aw_seq | apply Aw_block | apply Aw_skip | apply Aw_exit | refine Aw_condt rfl ?_ | refine Aw_condf rfl ?_ | ((first | refine qr ?_ | refine qd (by kernel_rfl) (by kernel_rfl) ?_); simp only [go_sem, jE, reduceIte, jA, jM, jS, jL, jD, jB, g1]) | refine dk (by kernel_rfl) ?_)
    exact Aw_ret (retL (M := [1]) (.inl rfl) (by simp only [go_sem, jE, reduceIte, jA, jM, jS, jL, jD, jB]; first | done | rfl) rfl rfl (by rfl) (by simp only [go_sem, jE, reduceIte, jA, jM, jS, jL, jD, jB]; first | done | rfl | (and_intros <;> rfl)) (by decide) (by unfold idM; decide))
theorem arg_sto {hp : Hp} {N' L : List Nat} {a b c d : Nat} {s : Sto} (ha : hp a = some (lvRow s.levels)) (hb : hp b = some (svRow s.sieves)) (hc : hp c = some (eRow s.top)) (hd : hp d = some (tmRow s.times)) (hL : a ∈ L ∧ b ∈ L ∧ c ∈ L ∧ d ∈ L) :
    Arg hp N' L (.agg [.h c, .h a, .h b, .d (.s (.int .i64 s.keep)), .d (.s (.int .i64 s.time)), .h d]) (stT s) := by
  obtain ⟨h1, h2, h3, h4⟩ := hL
  refine .ln (n := 1) ?_ ?_
  · have e1 := lend_dRow (hp := hp) ha 0
    have e2 := lend_dRow (hp := hp) hb 0
    have e3 := lend_dRow (hp := hp) hc 0
    have e4 := lend_dRow (hp := hp) hd 0
    have e5 : ∀ x, lendC hp (0 + 1) (.d x) = some x := fun _ => rfl
    show (([.h c, .h a, .h b, .d (.s (.int .i64 s.keep)), .d (.s (.int .i64 s.time)), .h d] : List CV).mapM (lendC hp (0 + 1))).map _ = _
    simp only [List.mapM_cons, List.mapM_nil, e1, e2, e3, e4, e5]
    rfl
  · intro z hz m hm
    simp only [TV.cells, List.mem_cons, List.not_mem_nil, or_false] at hz
    rcases hz with rfl | rfl | rfl | rfl | rfl | rfl
    · rw [lendN_dRow hc 0 m hm]; exact h3
    · rw [lendN_dRow ha 0 m hm]; exact h1
    · rw [lendN_dRow hb 0 m hm]; exact h2
    · simp [lendN] at hm
    · simp [lendN] at hm
    · rw [lendN_dRow hd 0 m hm]; exact h4
def stHo (s : Sto) : Obj := ⟨28, 6, false, [[.h 2, .h 0, .h 1, .d (.s (.int .i64 s.keep)), .d (.s (.int .i64 s.time)), .h 3]]⟩
@[go_sem] theorem r_stHo (s : Sto) : stHo s = ⟨28, 6, false, [[.h 2, .h 0, .h 1, .d (.s (.int .i64 s.keep)), .d (.s (.int .i64 s.time)), .h 3]]⟩ := rfl
def ownO (s : Sto) : List (Option Obj) := [some (lvRow s.levels), some (svRow s.sieves), some (eRow s.top), some (tmRow s.times), some (stHo s), some zO]
@[go_sem] theorem r_ownO (s : Sto) : ownO s = [some (lvRow s.levels), some (svRow s.sieves), some (eRow s.top), some (tmRow s.times), some (stHo s), some zO] := rfl
def datO (s : Sto) : List (Option Obj) := [none, none, none, none, some (stO s), some zO]
@[go_sem] theorem r_datO (s : Sto) : datO s = [none, none, none, none, some (stO s), some zO] := rfl
def phO (J i : Nat) (s : Sto) : List (Option Obj) := if J ≤ i then ownO s else datO s
theorem phO_own {J i : Nat} (s : Sto) (h : J ≤ i) : phO J i s = ownO s := if_pos h
theorem phO_dat {J i : Nat} (s : Sto) (h : i < J) : phO J i s = datO s := if_neg (by omega)
theorem phW (s : Sto) : ownO s = [some (lvRow s.levels), some (svRow s.sieves), some (eRow s.top), some (tmRow s.times), some (stHo s), some zO] := rfl
theorem phD (s : Sto) : datO s = [none, none, none, none, some (stO s), some zO] := rfl
theorem lastF (F : Nat → Prop) : ∀ n, ∃ J, J ≤ n ∧ (∀ i, J ≤ i → i < n → F i) ∧ (∀ i, i + 1 = J → ¬ F i)
  | 0 => ⟨0, Nat.le_refl _, fun i _ h => absurd h (by omega), fun i h => absurd h (by omega)⟩
  | n + 1 => by
    obtain ⟨J, h1, h2, h3⟩ := lastF F n
    by_cases h : F n
    · refine ⟨J, by omega, fun i hi hn => ?_, h3⟩
      by_cases e : i = n
      · subst e; exact h
      · exact h2 i hi (by omega)
    · refine ⟨n + 1, by omega, fun i hi hn => by omega, fun i hi => ?_⟩
      obtain rfl : i = n := by omega
      exact h
abbrev pdS (ds : List Deed) (i : Nat) : List (Nat × AV) := [(6, .t (iT i)), (5, .t (bT false)), (4, .t (.c (.ph 5 0 0))), (2, .t (.c (.ph 4 0 0))), (1, .t (deedsT ds))]
theorem settle_own {P : Program} {N k : Nat} {x : Code} {Q : Exit → St → Prop} {s : Sto} {ds : List Deed} {i : Nat} (q : Aw P N k x Q (S (pdS ds i) (hpL (datO s)) 6)) : Aw P N k x Q (S (pdS ds i) (hpL (ownO s)) 6) :=
  Aw.setS (l := [(6, .t (iT i)), (5, .t (bT false)), (4, .t (.c (.ph 5 0 0))), (2, .t (.c (.ph 4 0 0))), (1, .t (deedsT ds))]) (l' := [(6, .t (iT i)), (5, .t (bT false)), (4, .t (.c (.ph 5 0 0))), (2, .t (.c (.ph 4 0 0))), (1, .t (deedsT ds))]) (os := [some (lvRow s.levels), some (svRow s.sieves), some (eRow s.top), some (tmRow s.times), some (stHo s), some zO]) (os' := [none, none, none, none, some (stO s), some zO]) [0, 1, 2, 3] ⟨SetA.same rfl, SetA.same rfl, SetA.same rfl, SetA.same rfl, SetA.same rfl, trivial⟩
    ⟨.inr ⟨rfl, rfl, rfl, .cons (.cons (SetC.row0 rfl rfl) (.cons (SetC.row0 rfl rfl) (.cons (SetC.row0 rfl rfl) (.cons (.inl rfl) (.cons (.inl rfl) (.cons (SetC.row0 rfl rfl) .nil)))))) .nil⟩, rfl, .inl rfl, rfl, trivial⟩ (Nat.le_refl _) q
theorem pastDo_ac (s : Sto) (ds : List Deed) (hs : SmSt s) (hv : storeS s = true) (hd : SmD ds) (hl : ds.length ≤ 40) : AC Tryz.prog 24 [stT s, deedsT ds] noHp 0 ⟨.tup [hT (pastTo s ds ds.length).1, bT true], hpL (hS (pastTo s ds ds.length).1), 4⟩ := by
  refine AC_of Tryz.func24 rfl Tryz.ntmps24 Tryz.results24 (by kernel_rfl) rfl ?_
  simp only [List.zipIdx, List.map, Nat.zero_add, Nat.reduceAdd]
  have k1 := sstoreOk_ac s hs
  rw [hv] at k1
  have k3 := copyV_ac s hs hv
  have g2 : decide ((40 : Int) < (ds.length : Int)) = false := decide_eq_false (by omega)
  have e0 : (pastTo s ds 0).1 = s := rfl
  obtain ⟨J, j1, j2, j3⟩ := lastF (fun i => ∀ d, ds[i]? = some d → doM (pastTo s ds i).1 d = none) ds.length
  repeat (first | apply Aw_seq | apply Aw_block | apply Aw_skip | apply Aw_exit | refine Aw_condt rfl ?_ | refine Aw_condf rfl ?_ | ((first | refine qr ?_ | refine qd (by kernel_rfl) (by kernel_rfl) ?_); simp only [go_sem, jE, reduceIte, jA, jM, jS, jL, jD, jB, g2]) | refine dk (by kernel_rfl) ?_ | (refine qp (k1) (by simp only [go_sem, jE, reduceIte, jA, jM, jS, jL, jD, jB, g2]; first | done | rfl) rfl (by simp only [go_sem, Nat.reduceLT]) rfl rfl ?_; simp only [go_sem, jE, reduceIte, jA, jM, jS, jL, jD, jB, g2]) | (refine qx (call_N (L := []) (k3) rfl (.cons (.nm rfl) (.nil)) (.inl rfl) rfl) (by simp only [go_sem, jE, reduceIte, jA, jM, jS, jL, jD, jB, g2]; first | done | rfl) rfl (by simp only [go_sem, Nat.reduceLT]) ?_; simp only [go_sem, jE, reduceIte, jA, jM, jS, jL, jD, jB, g2]))
  refine Aw.rw (rwL (l' := [(6, .t (iT (0 : Nat))), (5, .t (bT false)), (4, .t (.c (.ph 5 0 0))), (2, .t (.c (.ph 4 0 0))), (1, .t (deedsT ds))]) (os := [some (lvRow s.levels), some (svRow s.sieves), some (eRow s.top), some (tmRow s.times), some (stHo s), some zO]) (M := [11, 12, 13, 14, 0, 1]) (n' := 6) (by repeat (first | exact trivial | refine ⟨rfl, rfl, ?_⟩)) (by rfl) (by simp only [go_sem, jE, reduceIte, jA, jM, jS, jL, jD, jB]; first | done | rfl) (by decide) (by unfold idM; decide)) ?_
  change Aw _ _ _ _ _ (S (pdS ds 0) (hpL (ownO s)) 6)
  have start : ∀ {P : Program} {N k : Nat} {x : Code} {Q : Exit → St → Prop}, Aw P N k x Q (S (pdS ds 0) (hpL (phO J 0 (pastTo s ds 0).1)) 6) → Aw P N k x Q (S (pdS ds 0) (hpL (ownO s)) 6) := by
    intro P N k x Q h
    by_cases j0 : J ≤ 0
    · rw [phO_own _ j0] at h; exact h
    · rw [phO_dat _ (by omega)] at h; exact settle_own h
  refine start ?_
  refine Aw_loop_rw (ι := { i : Nat // i ≤ ds.length }) (fun q => S (pdS ds q.1) (hpL (phO J q.1 (pastTo s ds q.1).1)) 6) (fun q => ds.length - q.1) ⟨0, Nat.zero_le _⟩ ?_
  rintro ⟨i, hi⟩
  dsimp only
  by_cases hlt : i < ds.length
  · have g1 : (i : Int) < (ds.length : Int) := by omega
    have w1 := wrap_succ hlt (by omega)
    obtain ⟨d, hx⟩ : ∃ e, ds[i]? = some e := ⟨_, List.getElem?_eq_getElem hlt⟩
    have hk := hd.key d (List.mem_of_getElem? hx)
    obtain ⟨p1, p2, p3⟩ := pastTo_st hs hd i hi
    have e1 := pastTo_succ (s := s) hx
    have f1 := j2 i
    have f2 := j3 i
    simp only [hx, Option.some.injEq, forall_eq'] at f1 f2
    obtain ⟨a1, a2⟩ := l13Do_own (pastTo s ds i).1 d p1 hk
    generalize pastTo s ds i = q at p1 p2 p3 e1 f1 f2 a1 a2 ⊢
    obtain ⟨cs, out⟩ := q
    dsimp only at p1 p2 p3 f1 f2 a1 a2 ⊢
    cases hm : doM cs d with
    | none =>
      have e2 : (pastTo s ds (i + 1)).1 = cs := by rw [e1]; unfold pastStep; simp only [hm]
      by_cases hJ : J ≤ i
      · have k2 := (a2 hm).toL0
        have e3 : phO J (i + 1) (pastTo s ds (i + 1)).1 = ownO cs := by rw [e2, phO_own _ (by omega)]
        rw [phO_own _ hJ, phW]
        repeat (first | apply Aw_seq | apply Aw_block | apply Aw_skip | apply Aw_exit | refine Aw_condt rfl ?_ | refine Aw_condf rfl ?_ | ((first | refine qr ?_ | refine qd (by kernel_rfl) (by kernel_rfl) ?_); simp only [go_sem, jE, reduceIte, jA, jM, jS, jL, jD, jB, g1, w1, hx]) | refine dk (by kernel_rfl) ?_ | (refine qx (call_N (L := [0, 1, 2, 3]) (k2) rfl (.cons (arg_sto (a := 0) (b := 1) (c := 2) (d := 3) rfl rfl rfl rfl (by simp)) (.cons (.nm rfl) (.nil))) (.inr ⟨rfl, by simp⟩) rfl) (by simp only [go_sem, jE, reduceIte, jA, jM, jS, jL, jD, jB, g1, w1, hx]; first | done | rfl) rfl (by simp only [go_sem, Nat.reduceLT]) ?_; simp only [go_sem, jE, reduceIte, jA, jM, jS, jL, jD, jB, g1, w1, hx]))
        refine ⟨⟨i + 1, hlt⟩, [0, 1, 2, 3, 4, 5], ?_, ?_⟩
        rotate_left
        dsimp only
        rw [e3, phW]
        exact rwL (by repeat (first | exact trivial | refine ⟨rfl, rfl, ?_⟩)) (by rfl) (by simp only [go_sem, jE, reduceIte, jA, jM, jS, jL, jD, jB]; first | done | rfl) (by decide) (by unfold idM; decide)
        show ds.length - (i + 1) < ds.length - i; omega
      · have k2 := a2 hm
        have hJ2 : i + 1 < J := by
          rcases Nat.lt_or_ge (i + 1) J with h | h
          · exact h
          · exact absurd hm (f2 (by omega))
        have e3 : phO J (i + 1) (pastTo s ds (i + 1)).1 = datO cs := by rw [e2, phO_dat _ hJ2]
        rw [phO_dat _ (by omega)]
        unfold datO
        repeat (first | apply Aw_seq | apply Aw_block | apply Aw_skip | apply Aw_exit | refine Aw_condt rfl ?_ | refine Aw_condf rfl ?_ | ((first | refine qr ?_ | refine qd (by kernel_rfl) (by kernel_rfl) ?_); simp only [go_sem, jE, reduceIte, jA, jM, jS, jL, jD, jB, g1, w1, hx]) | refine dk (by kernel_rfl) ?_ | (refine qp (k2) (by simp only [go_sem, jE, reduceIte, jA, jM, jS, jL, jD, jB, g1, w1, hx]; first | done | rfl) rfl (by simp only [go_sem, Nat.reduceLT]) rfl rfl ?_; simp only [go_sem, jE, reduceIte, jA, jM, jS, jL, jD, jB, g1, w1, hx]))
        refine ⟨⟨i + 1, hlt⟩, [0, 1, 2, 3, 4, 5], ?_, ?_⟩
        rotate_left
        dsimp only
        rw [e3, phD]
        exact rwL (by repeat (first | exact trivial | refine ⟨rfl, rfl, ?_⟩)) (by rfl) (by simp only [go_sem, jE, reduceIte, jA, jM, jS, jL, jD, jB]; first | done | rfl) (by decide) (by unfold idM; decide)
        show ds.length - (i + 1) < ds.length - i; omega
    | some x =>
      have e2 : (pastTo s ds (i + 1)).1 = x := by rw [e1]; unfold pastStep; simp only [hm]
      have hJ : i < J := by
        rcases Nat.lt_or_ge i J with h | h
        · exact h
        · have := f1 h hlt; rw [hm] at this; cases this
      rw [phO_dat _ hJ]
      unfold datO
      by_cases hJ2 : i + 1 < J
      · have k2 : AC Tryz.prog 54 [stT cs, deedT d] noHp 0 ⟨.tup [stT x, bT true], noHp, 0⟩ := by
          have := l13Do_ac cs d p1 hk; rw [hm] at this; exact this
        have e3 : phO J (i + 1) (pastTo s ds (i + 1)).1 = datO x := by rw [e2, phO_dat _ hJ2]
        repeat (first | apply Aw_seq | apply Aw_block | apply Aw_skip | apply Aw_exit | refine Aw_condt rfl ?_ | refine Aw_condf rfl ?_ | ((first | refine qr ?_ | refine qd (by kernel_rfl) (by kernel_rfl) ?_); simp only [go_sem, jE, reduceIte, jA, jM, jS, jL, jD, jB, g1, w1, hx]) | refine dk (by kernel_rfl) ?_ | (refine qp (k2) (by simp only [go_sem, jE, reduceIte, jA, jM, jS, jL, jD, jB, g1, w1, hx]; first | done | rfl) rfl (by simp only [go_sem, Nat.reduceLT]) rfl rfl ?_; simp only [go_sem, jE, reduceIte, jA, jM, jS, jL, jD, jB, g1, w1, hx]))
        refine ⟨⟨i + 1, hlt⟩, [0, 1, 2, 3, 4, 5], ?_, ?_⟩
        rotate_left
        dsimp only
        rw [e3, phD]
        exact rwL (by repeat (first | exact trivial | refine ⟨rfl, rfl, ?_⟩)) (by rfl) (by simp only [go_sem, jE, reduceIte, jA, jM, jS, jL, jD, jB]; first | done | rfl) (by decide) (by unfold idM; decide)
        show ds.length - (i + 1) < ds.length - i; omega
      · have k2 := a1 x hm
        have e3 : phO J (i + 1) (pastTo s ds (i + 1)).1 = ownO x := by rw [e2, phO_own _ (by omega)]
        repeat (first | apply Aw_seq | apply Aw_block | apply Aw_skip | apply Aw_exit | refine Aw_condt rfl ?_ | refine Aw_condf rfl ?_ | ((first | refine qr ?_ | refine qd (by kernel_rfl) (by kernel_rfl) ?_); simp only [go_sem, jE, reduceIte, jA, jM, jS, jL, jD, jB, g1, w1, hx]) | refine dk (by kernel_rfl) ?_ | (refine qx (call_N (L := []) (k2) rfl (.cons (.nm rfl) (.cons (.nm rfl) (.nil))) (.inl rfl) rfl) (by simp only [go_sem, jE, reduceIte, jA, jM, jS, jL, jD, jB, g1, w1, hx]; first | done | rfl) rfl (by simp only [go_sem, Nat.reduceLT]) ?_; simp only [go_sem, jE, reduceIte, jA, jM, jS, jL, jD, jB, g1, w1, hx]))
        refine ⟨⟨i + 1, hlt⟩, [15, 16, 17, 18, 4, 5], ?_, ?_⟩
        rotate_left
        dsimp only
        rw [e3, phW]
        exact rwL (by repeat (first | exact trivial | refine ⟨rfl, rfl, ?_⟩)) (by rfl) (by simp only [go_sem, jE, reduceIte, jA, jM, jS, jL, jD, jB]; first | done | rfl) (by decide) (by unfold idM; decide)
        show ds.length - (i + 1) < ds.length - i; omega
  · have g1 : ¬ (i : Int) < (ds.length : Int) := by omega
    obtain rfl : i = ds.length := by omega
    rw [phO_own _ j1]
    unfold ownO
    generalize (pastTo s ds ds.length).1 = x
    repeat (first | apply Aw_seq | apply Aw_block | apply Aw_skip | apply Aw_exit | refine Aw_condt rfl ?_ | refine Aw_condf rfl ?_ | ((first | refine qr ?_ | refine qd (by kernel_rfl) (by kernel_rfl) ?_); simp only [go_sem, jE, reduceIte, jA, jM, jS, jL, jD, jB, g1]) | refine dk (by kernel_rfl) ?_)
    exact Aw_ret (retL (M := [0, 1, 2, 3]) (.inl rfl) (by simp only [go_sem, jE, reduceIte, jA, jM, jS, jL, jD, jB]; first | done | rfl) rfl rfl (by rfl) (by simp only [go_sem, jE, reduceIte, jA, jM, jS, jL, jD, jB]; first | done | rfl | (and_intros <;> rfl)) (by decide) (by unfold idM; decide))
end Go.Proofs.YtjolcfkepcmjnaaGreat.Ab
