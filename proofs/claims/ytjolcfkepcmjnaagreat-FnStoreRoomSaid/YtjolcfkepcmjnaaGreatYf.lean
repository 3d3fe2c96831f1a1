/-
  Contracts: what is found in a store, and how many sieves may have a key, the program's. No condition.
  Contracts: what a store has of a key, how many sieves may have it, the program's. No condition.
  Contracts: what is put, what is taken away, the top that goes down, the program's. No condition.
  Contract: the top that goes down, the program's. No condition.
  Contract: the time that is held, the program's. No condition.
  Contract: the present time that is held, the program's. No condition.
  Contracts: what deeds write, the reference's. No condition.
  Contract: deeds, one behind the other, that leave a store of its own, the reference's. No condition.
  Contracts: what reads a code, and draws a number from it. No condition.
  Contracts: a key that is put into its place, the reference's. No condition.
  The drawn number, and a key that is put into its place. No condition.
  Contracts: keys that are drawn, the reference's. No condition.
  Contracts: keys near others that are drawn, the reference's. No condition.
-/
import Derived.Test.YtjolcfkepcmjnaaGreatYe
import Derived.Test.YtjolcfkepcmjnaaGreatYc
namespace Go.Proofs.YtjolcfkepcmjnaaGreat.Ab
open Nat renaming reduceEqDiff → jE, reduceAdd → jA, reduceMul → jM, reduceSub → jS, reduceLT → jL, reduceLeDiff → jD, reduceBEq → jB
set_option linter.deprecated false
set_option linter.unusedVariables false
set_option linter.unusedSimpArgs false
open Go Go.Proofs
set_option maxRecDepth 10000
set_option maxHeartbeats 8000000
/-- A store that is one, by its levels and sieves. -/
structure VSt (s : Sto) : Prop where
  ll : s.levels.length = 3
  sl : s.sieves.length = 3
  sv : ∀ (i : Nat) (r : List Ent) (x : Sve), s.levels[i]? = some r → s.sieves[i]? = some x → SvIs s.keep.toNat (keysM r) x ∧ sieveM (keysM r) s.keep = some x ∧ runOk r = true
  kp : 0 ≤ s.keep ∧ s.keep ≤ 5
  tl : s.times.length ≤ 3
def findL (keep : Nat) (k : ByteArray) (t : Int) : List (List Ent) → Option Ent
  | [] => none
  | r :: rs => match (if hasM keep (keysM r) k = true then atM r k t else none) with
    | some e => some e
    | none => findL keep k t rs
structure FnI (s : Sto) (k : ByteArray) (t : Int) (R : Option Ent) where
  i : Nat
  hi : i ≤ 3
  hf : findL s.keep.toNat k t (s.levels.drop i) = R
def ksO (k : ByteArray) : Obj := ⟨9, 1, false, [[.d (.s (.string k))]]⟩
@[go_sem] theorem r_ksO (k : ByteArray) : ksO k = ⟨9, 1, false, [[.d (.s (.string k))]]⟩ := rfl
theorem storeOkI_ac (s : Sto) (hs : SmSt s) : AC Tryz.prog 25 [stT s] noHp 0 ⟨.t (bT (storeS s)), noHp, 0⟩ := by
  have k := storeOk_ac s hs
  rw [store_eq] at k
  exact k
def inO (v : Int) : Obj := ⟨3, 1, false, [[.d (.s (.int .i64 v))]]⟩
@[go_sem] theorem r_inO (v : Int) : inO v = ⟨3, 1, false, [[.d (.s (.int .i64 v))]]⟩ := rfl
@[simp] theorem flat_mk (e k : Nat) (r : Bool) (els : List (List CV)) : (⟨e, k, r, els⟩ : Obj).flat = els.all (·.all CV.flat) := rfl
@[simp] theorem flat_h (j : Nat) : CV.flat (.h j) = true := rfl
@[simp] theorem flat_s (v : Value) : CV.flat (.d (.s v)) = true := rfl
@[simp] theorem flat_tmRow (r : List Int) : (tmRow r).flat = true := by
  unfold tmRow
  rw [show r.map intD = (r.map fun n => [Value.int .i64 n]).map (·.map D.s) by rw [List.map_map]; rfl]
  exact dRow_flat _ _ _
theorem nx_eq {s : Sto} (hv : storeS s = true) (k : ByteArray) (v : Int) (g : Bool) : nxE s ⟨k, v, g, 0⟩ = ⟨k, v, g, nextT s⟩ := by
  obtain ⟨_, _, _, _, _, h6, _⟩ := storeS_facts hv
  unfold inB at h6
  rw [Bool.and_eq_true] at h6
  have t0 := of_decide_eq_true h6.1; have t1 := of_decide_eq_true h6.2
  unfold nxE nextT
  rw [wrap_in (by omega) (by omega)]
theorem downM_sm {s s' : Sto} (hs : SmSt s) (hv : storeS s = true) (h : downM s = some s') : SmH s' := by
  obtain ⟨_, _, h3, _⟩ := storeS_facts hv
  have sm := valid_sm hs hv
  exact (intoM_sm 2 (s := noTop s) (i := 0) rfl ⟨sm.ll, sm.sl, sm.lev, sm.tl⟩ hs.top (by omega) h).1
theorem addM_smH {s s' : Sto} {e : Ent} (hs : SmSt s) (h : addM s e = some s') : SmH s' ∧ s'.top.length ≤ 5 := by
  unfold addM at h
  split at h
  · rename_i hc
    rw [Bool.and_eq_true] at hc
    obtain ⟨_, _, h3, _⟩ := storeS_facts hc.1
    have sm := valid_sm hs hc.1
    split at h
    · obtain ⟨x, hx, rfl⟩ := Option.map_eq_some_iff.1 h
      have g := downM_sm hs hc.1 hx
      have gt := (downM_st hs hc.1 hx).2
      exact ⟨⟨g.ll, g.sl, g.lev, g.tl⟩, by show (joinM [e] x.top).length ≤ 5; rw [joinM_len, gt]; simp⟩
    · obtain rfl := Option.some.inj h
      exact ⟨⟨sm.ll, sm.sl, sm.lev, sm.tl⟩, by show (joinM [e] s.top).length ≤ 5; rw [joinM_len]; simp; omega⟩
  · cases h
theorem cloPut_ok (s s' : Sto) (k : ByteArray) (v : Int) (hs : SmSt s) (hv : storeS s = true) (hk : smK k) (h : putM s k v = some s') : AC Tryz.prog 39 [.c (.ph 0 0 0), .c (.ph 3 0 0), .c (.ph 4 0 0)] (hpL [some (pO s), some (lvRow s.levels), some (svRow s.sieves), some (ksO k), some (inO v)]) 5 ⟨.t (bT true), hpL [some (pO s'), some (lvRow s'.levels), some (svRow s'.sieves), some (ksO k), some (inO v)], 5⟩ := by
  have k := write_ok s s' ⟨k, v, false, 0⟩ hs hv hk (by rw [nx_eq hv]; exact h)
  refine AC_of Tryz.func39 rfl Tryz.ntmps39 Tryz.results39 (by kernel_rfl) rfl ?_
  simp only [List.zipIdx, List.map, Nat.zero_add, Nat.reduceAdd]
  repeat (first | apply Aw_seq | apply Aw_block | apply Aw_skip | apply Aw_exit | refine Aw_condt rfl ?_ | refine Aw_condf rfl ?_ | ((first | refine qr ?_ | refine qd (by kernel_rfl) (by kernel_rfl) ?_); simp only [go_sem, jE, reduceIte, jA, jM, jS, jL, jD, jB]) | refine dk (by kernel_rfl) ?_ | (refine qx (call_L (N' := [0, 1, 2]) (L := []) (k) rfl (.cons (.nm rfl) (.cons (.nm rfl) (.nil))) (by decide) (by decide) (by decide) (by simp only [go_sem, jE, reduceIte, jA, jM, jS, jL, jD, jB]; first | done | rfl) (.inl rfl) rfl (by decide)) (by simp only [go_sem, jE, reduceIte, jA, jM, jS, jL, jD, jB]; first | done | rfl) rfl (by simp only [go_sem, Nat.reduceLT]) ?_; simp only [go_sem, jE, reduceIte, jA, jM, jS, jL, jD, jB]))
  exact Aw_ret (retL (M := [0, 1, 2, 3, 4]) (.inl rfl) (by simp only [go_sem, jE, reduceIte, jA, jM, jS, jL, jD, jB]; first | done | rfl) rfl rfl (by rfl) (by simp only [go_sem, jE, reduceIte, jA, jM, jS, jL, jD, jB]; first | done | rfl | (and_intros <;> rfl)) (by decide) (by unfold idM; decide))
theorem cloPut_no (s : Sto) (k : ByteArray) (v : Int) (hs : SmSt s) (hv : storeS s = true) (hk : smK k) (h : putM s k v = none) : AC Tryz.prog 39 [.c (.ph 0 0 0), .c (.ph 3 0 0), .c (.ph 4 0 0)] (hpL [some (pO s), some (lvRow s.levels), some (svRow s.sieves), some (ksO k), some (inO v)]) 5 ⟨.t (bT false), hpL [none, none, none, none, none], 5⟩ := by
  have k := write_no s ⟨k, v, false, 0⟩ hs hv hk (by rw [nx_eq hv]; exact h)
  refine AC_of Tryz.func39 rfl Tryz.ntmps39 Tryz.results39 (by kernel_rfl) rfl ?_
  simp only [List.zipIdx, List.map, Nat.zero_add, Nat.reduceAdd]
  repeat (first | apply Aw_seq | apply Aw_block | apply Aw_skip | apply Aw_exit | refine Aw_condt rfl ?_ | refine Aw_condf rfl ?_ | ((first | refine qr ?_ | refine qd (by kernel_rfl) (by kernel_rfl) ?_); simp only [go_sem, jE, reduceIte, jA, jM, jS, jL, jD, jB]) | refine dk (by kernel_rfl) ?_ | (refine qx (call_L (N' := [0, 1, 2]) (L := []) (k) rfl (.cons (.nm rfl) (.cons (.nm rfl) (.nil))) (by decide) (by decide) (by decide) (by simp only [go_sem, jE, reduceIte, jA, jM, jS, jL, jD, jB]; first | done | rfl) (.inl rfl) rfl (by decide)) (by simp only [go_sem, jE, reduceIte, jA, jM, jS, jL, jD, jB]; first | done | rfl) rfl (by simp only [go_sem, Nat.reduceLT]) ?_; simp only [go_sem, jE, reduceIte, jA, jM, jS, jL, jD, jB]))
  exact Aw_ret (retL (M := [0, 1, 2, 3, 4]) (.inl rfl) (by simp only [go_sem, jE, reduceIte, jA, jM, jS, jL, jD, jB]; first | done | rfl) rfl rfl (by rfl) (by simp only [go_sem, jE, reduceIte, jA, jM, jS, jL, jD, jB]; first | done | rfl | (and_intros <;> rfl)) (by decide) (by unfold idM; decide))
theorem chgPut_own (s : Sto) (k : ByteArray) (v : Int) (hs : SmSt s) (hv : storeS s = true) (hk : smK k) (top a b c : List Ent) (x y z : Sve) (keep time : Int) (ts : List Int) (h : putM s k v = some ⟨top, [a, b, c], [x, y, z], keep, time, ts⟩) : AC Tryz.prog 38 [stT s, .c (.fn 39 [.ph 0 0 0, .ph 1 0 0])] (hpL [some (ksO k), some (inO v)]) 2 ⟨.tup [.agg [.h 2, .h 3, .h 4, .d (.s (.int .i64 keep)), .d (.s (.int .i64 time)), .h 5], bT true], hpL [none, none, some (eRow top), some ⟨23, 1, true, [[.h 6], [.h 7], [.h 8]]⟩, some ⟨76, 5, true, [svN x 9, svN y 10, svN z 11]⟩, some (tmRow ts), some (eRow a), some (eRow b), some (eRow c), some (kRow x.rests), some (kRow y.rests), some (kRow z.rests)], 12⟩ := by
  have k1 := storeOkI_ac s hs
  rw [hv] at k1
  have kc := cloneP_ac s hs hv
  have kv := cloPut_ok s ⟨top, [a, b, c], [x, y, z], keep, time, ts⟩ k v hs hv hk h
  obtain ⟨g, gt⟩ := addM_smH hs h
  have st := addM_st (e := ⟨k, v, false, nextT s⟩) hs hk h
  have hrl := st.rl
  have hlv := g.lev
  have htl := g.tl
  dsimp only at hrl hlv htl gt
  have kf := storeClone_ac top a b c x y z keep time ts (by omega) (by have := (hlv a (by simp)).2; omega) (by have := (hlv b (by simp)).2; omega) (by have := (hlv c (by simp)).2; omega) (hrl x (by simp)) (hrl y (by simp)) (hrl z (by simp)) (by omega)
  unfold cloS svN at kf
  unfold svN
  have arS : ∀ {hp : Hp} {N' L : List Nat} (p q : Nat), hp p = some (lvRow [a, b, c]) → hp q = some (svRow [x, y, z]) → p ∈ L ∧ q ∈ L → Arg hp N' L (.agg [.d (.rs 4 (top.map entD)), .h p, .h q, .d (.s (.int .i64 keep)), .d (.s (.int .i64 time)), .d (.rs 1 (ts.map intD))]) (stT ⟨top, [a, b, c], [x, y, z], keep, time, ts⟩) := fun p q h1 h2 h3 => arg_pS (s := ⟨top, [a, b, c], [x, y, z], keep, time, ts⟩) h1 h2 h3
  refine AC_of Tryz.func38 rfl Tryz.ntmps38 Tryz.results38 (by kernel_rfl) rfl ?_
  simp only [List.zipIdx, List.map, Nat.zero_add, Nat.reduceAdd]
  repeat (first | apply Aw_seq | apply Aw_block | apply Aw_skip | apply Aw_exit | refine Aw_condt rfl ?_ | refine Aw_condf rfl ?_ | ((first | refine qr ?_ | refine qd (by kernel_rfl) (by kernel_rfl) ?_); simp only [go_sem, jE, reduceIte, jA, jM, jS, jL, jD, jB]) | refine dk (by kernel_rfl) ?_ | (refine qp (k1) (by simp only [go_sem, jE, reduceIte, jA, jM, jS, jL, jD, jB]; first | done | rfl) rfl (by simp only [go_sem, Nat.reduceLT]) rfl rfl ?_; simp only [go_sem, jE, reduceIte, jA, jM, jS, jL, jD, jB]) | (refine qx (call_N (L := []) (kc) rfl (.cons (.nm rfl) (.nil)) (.inl rfl) rfl) (by simp only [go_sem, jE, reduceIte, jA, jM, jS, jL, jD, jB]; first | done | rfl) rfl (by simp only [go_sem, Nat.reduceLT]) ?_; simp only [go_sem, jE, reduceIte, jA, jM, jS, jL, jD, jB]) | (refine qx (call_N (L := [8, 9]) (kf) rfl (.cons (arS 8 9 rfl rfl (by simp)) (.nil)) (.inr ⟨rfl, by simp⟩) rfl) (by simp only [go_sem, jE, reduceIte, jA, jM, jS, jL, jD, jB]; first | done | rfl) rfl (by simp only [go_sem, Nat.reduceLT]) ?_; simp only [go_sem, jE, reduceIte, jA, jM, jS, jL, jD, jB]) | (refine ex_callv (by simp only [go_sem, jE, reduceIte, jA, jM, jS, jL, jD, jB]; first | done | rfl) (call_V (N' := [10, 8, 9, 0, 1]) (L := []) 1 (kv) rfl (.cons (.nm rfl) (.nil)) (by first | exact .cons (arg_nm rfl rfl) (.cons (arg_nm rfl rfl) (.nil)) | (simp only [capT, List.map]; exact .cons (arg_nm rfl rfl) (.cons (arg_nm rfl rfl) (.nil)))) (by decide) (by decide) (by decide) (by simp only [go_sem, jE, reduceIte, jA, jM, jS, jL, jD, jB]; first | done | rfl) (.inl rfl) rfl (by decide)) (by simp only [go_sem, jE, reduceIte, jA, jM, jS, jL, jD, jB]; first | done | rfl) rfl (by simp only [go_sem, Nat.reduceLT]) ?_; simp only [go_sem, jE, reduceIte, jA, jM, jS, jL, jD, jB]))
  exact Aw_ret (retL (M := [0, 1, 15, 16, 17, 18, 19, 20, 21, 22, 23, 24]) (.inl rfl) (by simp only [go_sem, jE, reduceIte, jA, jM, jS, jL, jD, jB]; first | done | rfl) rfl rfl (by rfl) (by simp only [go_sem, jE, reduceIte, jA, jM, jS, jL, jD, jB]; first | done | rfl | (and_intros <;> rfl)) (by decide) (by unfold idM; decide))
theorem chgPut_ok (s s' : Sto) (k : ByteArray) (v : Int) (hs : SmSt s) (hv : storeS s = true) (hk : smK k) (h : putM s k v = some s') : AC Tryz.prog 38 [stT s, .c (.fn 39 [.ph 0 0 0, .ph 1 0 0])] (hpL [some (ksO k), some (inO v)]) 2 ⟨.tup [stT s', bT true], hpL [none, none], 2⟩ := by
  obtain ⟨g, gt⟩ := addM_smH hs h
  have st := addM_st (e := ⟨k, v, false, nextT s⟩) hs hk h
  obtain ⟨top, levels, sieves, keep, time, ts⟩ := s'
  obtain ⟨a, b, c, rfl⟩ := len3 g.ll
  obtain ⟨x, y, z, rfl⟩ := len3 g.sl
  have kk := chgPut_own s k v hs hv hk top a b c x y z keep time ts h
  unfold svN at kk
  have h1 := AC.setS [6, 7, 8, 9, 10, 11] kk (y := .tup [.agg [.h 2, .h 3, .h 4, .d (.s (.int .i64 keep)), .d (.s (.int .i64 time)), .h 5], bT true]) (os' := [none, none, some (eRow top), some (lvRow [a, b, c]), some (svRow [x, y, z]), some (tmRow ts)])
    (.cons (.cons (.inl rfl) (.cons (.inl rfl) (.cons (.inl rfl) (.cons (.inl rfl) (.cons (.inl rfl) (.cons (.inl rfl) .nil)))))) (.cons (.inl rfl) .nil))
    ⟨.inl rfl, rfl, .inr ⟨rfl, rfl, rfl, .cons (.cons (SetC.row0 rfl rfl) .nil) (.cons (.cons (SetC.row0 rfl rfl) .nil) (.cons (.cons (SetC.row0 rfl rfl) .nil) .nil))⟩, rfl,
      .inr ⟨rfl, rfl, rfl, .cons (.cons (.inl rfl) (.cons (.inl rfl) (.cons (.inl rfl) (.cons (SetC.row0 rfl rfl) (.cons (.inl rfl) .nil))))) (.cons (.cons (.inl rfl) (.cons (.inl rfl) (.cons (.inl rfl) (.cons (SetC.row0 rfl rfl) (.cons (.inl rfl) .nil))))) (.cons (.cons (.inl rfl) (.cons (.inl rfl) (.cons (.inl rfl) (.cons (SetC.row0 rfl rfl) (.cons (.inl rfl) .nil))))) .nil))⟩, rfl, .inl rfl, rfl, trivial⟩
  have h2 := AC.setS [2, 3, 4, 5] h1 (y := .tup [stT ⟨top, [a, b, c], [x, y, z], keep, time, ts⟩, bT true]) (os' := [none, none])
    (.cons (.cons (SetC.row0 rfl rfl) (.cons (SetC.row0 rfl rfl) (.cons (SetC.row0 rfl rfl) (.cons (.inl rfl) (.cons (.inl rfl) (.cons (SetC.row0 rfl rfl) .nil)))))) (.cons (.inl rfl) .nil)) trivial
  refine AC.sel (M := [0, 1]) h2 rfl rfl (selL rfl ?_) (by decide) fun m hm => ?_
  · simp only [go_sem, LeftL]
  · rcases m with _ | _ | m <;> first | exact ⟨by decide, rfl⟩ | omega
theorem chgPut_no (s : Sto) (k : ByteArray) (v : Int) (hs : SmSt s) (hk : smK k) (h : putM s k v = none) : AC Tryz.prog 38 [stT s, .c (.fn 39 [.ph 0 0 0, .ph 1 0 0])] (hpL [some (ksO k), some (inO v)]) 2 ⟨.tup [zA, bT false], hpL [none, none], 2⟩ := by
  have k1 := storeOkI_ac s hs
  cases hv : storeS s
  · rw [hv] at k1
    refine AC_of Tryz.func38 rfl Tryz.ntmps38 Tryz.results38 (by kernel_rfl) rfl ?_
    simp only [List.zipIdx, List.map, Nat.zero_add, Nat.reduceAdd]
    repeat (first | apply Aw_seq | apply Aw_block | apply Aw_skip | apply Aw_exit | refine Aw_condt rfl ?_ | refine Aw_condf rfl ?_ | ((first | refine qr ?_ | refine qd (by kernel_rfl) (by kernel_rfl) ?_); simp only [go_sem, jE, reduceIte, jA, jM, jS, jL, jD, jB]) | refine dk (by kernel_rfl) ?_ | (refine qp (k1) (by simp only [go_sem, jE, reduceIte, jA, jM, jS, jL, jD, jB]; first | done | rfl) rfl (by simp only [go_sem, Nat.reduceLT]) rfl rfl ?_; simp only [go_sem, jE, reduceIte, jA, jM, jS, jL, jD, jB]))
    exact Aw_ret (retL (M := [0, 1]) (.inl rfl) (by simp only [go_sem, jE, reduceIte, jA, jM, jS, jL, jD, jB]; first | done | rfl) rfl rfl (by rfl) (by simp only [go_sem, jE, reduceIte, jA, jM, jS, jL, jD, jB]; first | done | rfl | (and_intros <;> rfl)) (by decide) (by unfold idM; decide))
  rw [hv] at k1
  have kc := cloneP_ac s hs hv
  have kv := cloPut_no s k v hs hv hk h
  refine AC_of Tryz.func38 rfl Tryz.ntmps38 Tryz.results38 (by kernel_rfl) rfl ?_
  simp only [List.zipIdx, List.map, Nat.zero_add, Nat.reduceAdd]
  repeat (first | apply Aw_seq | apply Aw_block | apply Aw_skip | apply Aw_exit | refine Aw_condt rfl ?_ | refine Aw_condf rfl ?_ | ((first | refine qr ?_ | refine qd (by kernel_rfl) (by kernel_rfl) ?_); simp only [go_sem, jE, reduceIte, jA, jM, jS, jL, jD, jB]) | refine dk (by kernel_rfl) ?_ | (refine qp (k1) (by simp only [go_sem, jE, reduceIte, jA, jM, jS, jL, jD, jB]; first | done | rfl) rfl (by simp only [go_sem, Nat.reduceLT]) rfl rfl ?_; simp only [go_sem, jE, reduceIte, jA, jM, jS, jL, jD, jB]) | (refine qx (call_N (L := []) (kc) rfl (.cons (.nm rfl) (.nil)) (.inl rfl) rfl) (by simp only [go_sem, jE, reduceIte, jA, jM, jS, jL, jD, jB]; first | done | rfl) rfl (by simp only [go_sem, Nat.reduceLT]) ?_; simp only [go_sem, jE, reduceIte, jA, jM, jS, jL, jD, jB]) | (refine ex_callv (by simp only [go_sem, jE, reduceIte, jA, jM, jS, jL, jD, jB]; first | done | rfl) (call_V (N' := [10, 8, 9, 0, 1]) (L := []) 1 (kv) rfl (.cons (.nm rfl) (.nil)) (by first | exact .cons (arg_nm rfl rfl) (.cons (arg_nm rfl rfl) (.nil)) | (simp only [capT, List.map]; exact .cons (arg_nm rfl rfl) (.cons (arg_nm rfl rfl) (.nil)))) (by decide) (by decide) (by decide) (by simp only [go_sem, jE, reduceIte, jA, jM, jS, jL, jD, jB]; first | done | rfl) (.inl rfl) rfl (by decide)) (by simp only [go_sem, jE, reduceIte, jA, jM, jS, jL, jD, jB]; first | done | rfl) rfl (by simp only [go_sem, Nat.reduceLT]) ?_; simp only [go_sem, jE, reduceIte, jA, jM, jS, jL, jD, jB]))
  exact Aw_ret (retL (M := [0, 1]) (.inl rfl) (by simp only [go_sem, jE, reduceIte, jA, jM, jS, jL, jD, jB]; first | done | rfl) rfl rfl (by rfl) (by simp only [go_sem, jE, reduceIte, jA, jM, jS, jL, jD, jB]; first | done | rfl | (and_intros <;> rfl)) (by decide) (by unfold idM; decide))
theorem storePut_ac (s : Sto) (k : ByteArray) (v : Int) (hs : SmSt s) (hk : smK k) : AC Tryz.prog 11 [stT s, sT k, iT v] noHp 0 ⟨resO (putM s k v), noHp, 0⟩ := by
  cases h : putM s k v with
  | none =>
    refine AC.nilR (x := .tup [zA, bT false]) ?_ zA_nil
    have kk := chgPut_no s k v hs hk h
    unfold ksO inO at kk
    refine AC_of Tryz.func11 rfl Tryz.ntmps11 Tryz.results11 (by kernel_rfl) rfl ?_
    simp only [List.zipIdx, List.map, Nat.zero_add, Nat.reduceAdd]
    repeat (first | apply Aw_seq | apply Aw_block | apply Aw_skip | apply Aw_exit | refine Aw_condt rfl ?_ | refine Aw_condf rfl ?_ | ((first | refine qr ?_ | refine qd (by kernel_rfl) (by kernel_rfl) ?_); simp only [go_sem, jE, reduceIte, jA, jM, jS, jL, jD, jB]) | refine dk (by kernel_rfl) ?_ | (refine qx (call_L (N' := [1, 2]) (L := []) (kk) rfl (.cons (.nm rfl) (.cons (.nm rfl) (.nil))) (by decide) (by decide) (by decide) (by simp only [go_sem, jE, reduceIte, jA, jM, jS, jL, jD, jB]; first | done | rfl) (.inl rfl) rfl (by decide)) (by simp only [go_sem, jE, reduceIte, jA, jM, jS, jL, jD, jB]; first | done | rfl) rfl (by simp only [go_sem, Nat.reduceLT]) ?_; simp only [go_sem, jE, reduceIte, jA, jM, jS, jL, jD, jB]))
    exact Aw_ret (ret0 (.inl rfl) (by simp only [go_sem, jE, reduceIte, jA, jM, jS, jL, jD, jB]; rfl) (by rfl) rfl)
  | some s' =>
    have hv : storeS s = true := by
      unfold putM addM at h
      split at h
      · rename_i hc; rw [Bool.and_eq_true] at hc; exact hc.1
      · cases h
    have kk := chgPut_ok s s' k v hs hv hk h
    unfold ksO inO at kk
    refine AC_of Tryz.func11 rfl Tryz.ntmps11 Tryz.results11 (by kernel_rfl) rfl ?_
    simp only [List.zipIdx, List.map, Nat.zero_add, Nat.reduceAdd]
    repeat (first | apply Aw_seq | apply Aw_block | apply Aw_skip | apply Aw_exit | refine Aw_condt rfl ?_ | refine Aw_condf rfl ?_ | ((first | refine qr ?_ | refine qd (by kernel_rfl) (by kernel_rfl) ?_); simp only [go_sem, jE, reduceIte, jA, jM, jS, jL, jD, jB]) | refine dk (by kernel_rfl) ?_ | (refine qx (call_L (N' := [1, 2]) (L := []) (kk) rfl (.cons (.nm rfl) (.cons (.nm rfl) (.nil))) (by decide) (by decide) (by decide) (by simp only [go_sem, jE, reduceIte, jA, jM, jS, jL, jD, jB]; first | done | rfl) (.inl rfl) rfl (by decide)) (by simp only [go_sem, jE, reduceIte, jA, jM, jS, jL, jD, jB]; first | done | rfl) rfl (by simp only [go_sem, Nat.reduceLT]) ?_; simp only [go_sem, jE, reduceIte, jA, jM, jS, jL, jD, jB]))
    exact Aw_ret (ret0 (.inl rfl) (by simp only [go_sem, jE, reduceIte, jA, jM, jS, jL, jD, jB]; rfl) (by rfl) rfl)
/-- A store in a variable: its times are a row of its own. -/
def qO (s : Sto) : Obj := ⟨28, 6, false, [[.d (.rs 4 (s.top.map entD)), .d (.rs 1 (s.levels.map lvD)), .d (.rs 5 (s.sieves.map sveD)), .d (.s (.int .i64 s.keep)), .d (.s (.int .i64 s.time)), .h 1]]⟩
@[go_sem] theorem r_qO (s : Sto) : qO s = ⟨28, 6, false, [[.d (.rs 4 (s.top.map entD)), .d (.rs 1 (s.levels.map lvD)), .d (.rs 5 (s.sieves.map sveD)), .d (.s (.int .i64 s.keep)), .d (.s (.int .i64 s.time)), .h 1]]⟩ := rfl
/-- And as it is handed back. -/
def qO2 (s : Sto) : Obj := ⟨28, 6, false, [[.d (.rs 4 (s.top.map entD)), .d (.rs 1 (s.levels.map lvD)), .d (.rs 5 (s.sieves.map sveD)), .d (.s (.int .i64 s.keep)), .d (.s (.int .i64 s.time)), .h 2]]⟩
@[go_sem] theorem r_qO2 (s : Sto) : qO2 s = ⟨28, 6, false, [[.d (.rs 4 (s.top.map entD)), .d (.rs 1 (s.levels.map lvD)), .d (.rs 5 (s.sieves.map sveD)), .d (.s (.int .i64 s.keep)), .d (.s (.int .i64 s.time)), .h 2]]⟩ := rfl
/-- The entry that a deed writes. -/
def entOf (d : Deed) (x : Sto) : Ent := if d.kind = 2 then ⟨d.key, 0, true, x.time⟩ else ⟨d.key, d.num, false, x.time⟩
def pastStep (q : Sto × List Ent) (d : Deed) : Sto × List Ent := match doM q.1 d with
  | none => q
  | some x => (x, if q.1.time < x.time then q.2 ++ [entOf d x] else q.2)
def pastTo (s : Sto) (ds : List Deed) (i : Nat) : Sto × List Ent := (ds.take i).foldl pastStep (s, [])
theorem pastTo_succ {s : Sto} {ds : List Deed} {i : Nat} {d : Deed} (h : ds[i]? = some d) : pastTo s ds (i + 1) = pastStep (pastTo s ds i) d := by
  unfold pastTo
  rw [List.take_add_one, h]
  simp [List.foldl_append]
structure SmD (ds : List Deed) : Prop where
  key : ∀ d ∈ ds, smK d.key
theorem pastTo_st {s : Sto} {ds : List Deed} (hs : SmSt s) (hd : SmD ds) : ∀ i, i ≤ ds.length → SmSt (pastTo s ds i).1 ∧ (pastTo s ds i).2.length ≤ i ∧ ∀ e ∈ (pastTo s ds i).2, smK e.key := by
  intro i
  induction i with
  | zero => intro _; exact ⟨hs, by simp [pastTo], by simp [pastTo]⟩
  | succ i ih =>
    intro hi
    obtain ⟨h1, h2, h3⟩ := ih (by omega)
    obtain ⟨d, hd2⟩ : ∃ d, ds[i]? = some d := ⟨_, List.getElem?_eq_getElem (by omega)⟩
    have hk := hd.key d (List.mem_of_getElem? hd2)
    rw [pastTo_succ hd2]
    unfold pastStep
    cases hm : doM (pastTo s ds i).1 d with
    | none => dsimp only; exact ⟨h1, by omega, h3⟩
    | some x =>
      refine ⟨doM_st h1 hk hm, ?_, ?_⟩
      · dsimp only; split
        · simp; omega
        · omega
      · dsimp only; split
        · intro e he
          rcases List.mem_append.1 he with he | he
          · exact h3 e he
          · obtain rfl : e = entOf d x := by simpa using he
            unfold entOf; split <;> exact hk
        · exact h3
theorem arg_sto {hp : Hp} {N' L : List Nat} {a b c d : Nat} {s : Sto} (ha : hp a = some (lvRow s.levels)) (hb : hp b = some (svRow s.sieves)) (hc : hp c = some (eRow s.top)) (hd : hp d = some (tmRow s.times)) (hL : a ∈ L ∧ b ∈ L ∧ c ∈ L ∧ d ∈ L) :
    Arg hp N' L (.agg [.h c, .h a, .h b, .d (.s (.int .i64 s.keep)), .d (.s (.int .i64 s.time)), .h d]) (stT s) := by
  obtain ⟨h1, h2, h3, h4⟩ := hL
  refine .ln (n := 1) ?_ ?_
  · have e1 := lend_dRow (hp := hp) ha 0
    have e2 := lend_dRow (hp := hp) hb 0
    have e3 := lend_dRow (hp := hp) hc 0
    have e4 := lend_dRow (hp := hp) hd 0
    have e5 : ∀ x, lendC hp (0 + 1) (.d x) = some x := fun _ => rfl
    show (([.h c, .h a, .h b, .d (.s (.int .i64 s.keep)), .d (.s (.int .i64 s.time)), .h d] : List CV).mapM (lendC hp (0 + 1))).map _ = _
    simp only [List.mapM_cons, List.mapM_nil, e1, e2, e3, e4, e5]
    rfl
  · intro z hz m hm
    simp only [TV.cells, List.mem_cons, List.not_mem_nil, or_false] at hz
    rcases hz with rfl | rfl | rfl | rfl | rfl | rfl
    · rw [lendN_dRow hc 0 m hm]; exact h3
    · rw [lendN_dRow ha 0 m hm]; exact h1
    · rw [lendN_dRow hb 0 m hm]; exact h2
    · simp [lendN] at hm
    · simp [lendN] at hm
    · rw [lendN_dRow hd 0 m hm]; exact h4
def stHo (s : Sto) : Obj := ⟨28, 6, false, [[.h 2, .h 0, .h 1, .d (.s (.int .i64 s.keep)), .d (.s (.int .i64 s.time)), .h 3]]⟩
@[go_sem] theorem r_stHo (s : Sto) : stHo s = ⟨28, 6, false, [[.h 2, .h 0, .h 1, .d (.s (.int .i64 s.keep)), .d (.s (.int .i64 s.time)), .h 3]]⟩ := rfl
def ownO (s : Sto) : List (Option Obj) := [some (lvRow s.levels), some (svRow s.sieves), some (eRow s.top), some (tmRow s.times), some (stHo s), some zO]
@[go_sem] theorem r_ownO (s : Sto) : ownO s = [some (lvRow s.levels), some (svRow s.sieves), some (eRow s.top), some (tmRow s.times), some (stHo s), some zO] := rfl
def datO (s : Sto) : List (Option Obj) := [none, none, none, none, some (stO s), some zO]
@[go_sem] theorem r_datO (s : Sto) : datO s = [none, none, none, none, some (stO s), some zO] := rfl
def phO (J i : Nat) (s : Sto) : List (Option Obj) := if J ≤ i then ownO s else datO s
theorem phO_own {J i : Nat} (s : Sto) (h : J ≤ i) : phO J i s = ownO s := if_pos h
theorem phO_dat {J i : Nat} (s : Sto) (h : i < J) : phO J i s = datO s := if_neg (by omega)
theorem phW (s : Sto) : ownO s = [some (lvRow s.levels), some (svRow s.sieves), some (eRow s.top), some (tmRow s.times), some (stHo s), some zO] := rfl
theorem phD (s : Sto) : datO s = [none, none, none, none, some (stO s), some zO] := rfl
/-- The last one for which it does not hold. -/
theorem lastF (F : Nat → Prop) : ∀ n, ∃ J, J ≤ n ∧ (∀ i, J ≤ i → i < n → F i) ∧ (∀ i, i + 1 = J → ¬ F i)
  | 0 => ⟨0, Nat.le_refl _, fun i _ h => absurd h (by omega), fun i h => absurd h (by omega)⟩
  | n + 1 => by
    obtain ⟨J, h1, h2, h3⟩ := lastF F n
    by_cases h : F n
    · refine ⟨J, by omega, fun i hi hn => ?_, h3⟩
      by_cases e : i = n
      · subst e; exact h
      · exact h2 i hi (by omega)
    · refine ⟨n + 1, by omega, fun i hi hn => by omega, fun i hi => ?_⟩
      obtain rfl : i = n := by omega
      exact h
abbrev pdS (ds : List Deed) (i : Nat) : List (Nat × AV) := [(6, .t (iT i)), (5, .t (bT false)), (4, .t (.c (.ph 5 0 0))), (2, .t (.c (.ph 4 0 0))), (1, .t (deedsT ds))]
theorem settle_own {P : Program} {N k : Nat} {x : Code} {Q : Exit → St → Prop} {s : Sto} {ds : List Deed} {i : Nat} (q : Aw P N k x Q (S (pdS ds i) (hpL (datO s)) 6)) : Aw P N k x Q (S (pdS ds i) (hpL (ownO s)) 6) :=
  Aw.setS (l := [(6, .t (iT i)), (5, .t (bT false)), (4, .t (.c (.ph 5 0 0))), (2, .t (.c (.ph 4 0 0))), (1, .t (deedsT ds))]) (l' := [(6, .t (iT i)), (5, .t (bT false)), (4, .t (.c (.ph 5 0 0))), (2, .t (.c (.ph 4 0 0))), (1, .t (deedsT ds))]) (os := [some (lvRow s.levels), some (svRow s.sieves), some (eRow s.top), some (tmRow s.times), some (stHo s), some zO]) (os' := [none, none, none, none, some (stO s), some zO]) [0, 1, 2, 3] ⟨SetA.same rfl, SetA.same rfl, SetA.same rfl, SetA.same rfl, SetA.same rfl, trivial⟩
    ⟨.inr ⟨rfl, rfl, rfl, .cons (.cons (SetC.row0 rfl rfl) (.cons (SetC.row0 rfl rfl) (.cons (SetC.row0 rfl rfl) (.cons (.inl rfl) (.cons (.inl rfl) (.cons (SetC.row0 rfl rfl) .nil)))))) .nil⟩, rfl, .inl rfl, rfl, trivial⟩ (Nat.le_refl _) q
theorem pastDo_ac (s : Sto) (ds : List Deed) (hs : SmSt s) (hv : storeS s = true) (hd : SmD ds) (hl : ds.length ≤ 40) : AC Tryz.prog 24 [stT s, deedsT ds] noHp 0 ⟨.tup [hT (pastTo s ds ds.length).1, bT true], hpL (hS (pastTo s ds ds.length).1), 4⟩ := by
  refine AC_of Tryz.func24 rfl Tryz.ntmps24 Tryz.results24 (by kernel_rfl) rfl ?_
  simp only [List.zipIdx, List.map, Nat.zero_add, Nat.reduceAdd]
  have k1 := sstoreOk_ac s hs
  rw [hv] at k1
  have k3 := copyV_ac s hs hv
  have g2 : decide ((40 : Int) < (ds.length : Int)) = false := decide_eq_false (by omega)
  have e0 : (pastTo s ds 0).1 = s := rfl
  obtain ⟨J, j1, j2, j3⟩ := lastF (fun i => ∀ d, ds[i]? = some d → doM (pastTo s ds i).1 d = none) ds.length
  repeat (first | apply Aw_seq | apply Aw_block | apply Aw_skip | apply Aw_exit | refine Aw_condt rfl ?_ | refine Aw_condf rfl ?_ | ((first | refine qr ?_ | refine qd (by kernel_rfl) (by kernel_rfl) ?_); simp only [go_sem, jE, reduceIte, jA, jM, jS, jL, jD, jB, g2]) | refine dk (by kernel_rfl) ?_ | (refine qp (k1) (by simp only [go_sem, jE, reduceIte, jA, jM, jS, jL, jD, jB, g2]; first | done | rfl) rfl (by simp only [go_sem, Nat.reduceLT]) rfl rfl ?_; simp only [go_sem, jE, reduceIte, jA, jM, jS, jL, jD, jB, g2]) | (refine qx (call_N (L := []) (k3) rfl (.cons (.nm rfl) (.nil)) (.inl rfl) rfl) (by simp only [go_sem, jE, reduceIte, jA, jM, jS, jL, jD, jB, g2]; first | done | rfl) rfl (by simp only [go_sem, Nat.reduceLT]) ?_; simp only [go_sem, jE, reduceIte, jA, jM, jS, jL, jD, jB, g2]))
  refine Aw.rw (rwL (l' := [(6, .t (iT (0 : Nat))), (5, .t (bT false)), (4, .t (.c (.ph 5 0 0))), (2, .t (.c (.ph 4 0 0))), (1, .t (deedsT ds))]) (os := [some (lvRow s.levels), some (svRow s.sieves), some (eRow s.top), some (tmRow s.times), some (stHo s), some zO]) (M := [11, 12, 13, 14, 0, 1]) (n' := 6) (by repeat (first | exact trivial | refine ⟨rfl, rfl, ?_⟩)) (by rfl) (by simp only [go_sem, jE, reduceIte, jA, jM, jS, jL, jD, jB]; first | done | rfl) (by decide) (by unfold idM; decide)) ?_
  change Aw _ _ _ _ _ (S (pdS ds 0) (hpL (ownO s)) 6)
  have start : ∀ {P : Program} {N k : Nat} {x : Code} {Q : Exit → St → Prop}, Aw P N k x Q (S (pdS ds 0) (hpL (phO J 0 (pastTo s ds 0).1)) 6) → Aw P N k x Q (S (pdS ds 0) (hpL (ownO s)) 6) := by
    intro P N k x Q h
    by_cases j0 : J ≤ 0
    · rw [phO_own _ j0] at h; exact h
    · rw [phO_dat _ (by omega)] at h; exact settle_own h
  refine start ?_
  refine Aw_loop_rw (ι := { i : Nat // i ≤ ds.length }) (fun q => S (pdS ds q.1) (hpL (phO J q.1 (pastTo s ds q.1).1)) 6) (fun q => ds.length - q.1) ⟨0, Nat.zero_le _⟩ ?_
  rintro ⟨i, hi⟩
  dsimp only
  by_cases hlt : i < ds.length
  · have g1 : (i : Int) < (ds.length : Int) := by omega
    have w1 := wrap_succ hlt (by omega)
    obtain ⟨d, hx⟩ : ∃ e, ds[i]? = some e := ⟨_, List.getElem?_eq_getElem hlt⟩
    have hk := hd.key d (List.mem_of_getElem? hx)
    obtain ⟨p1, p2, p3⟩ := pastTo_st hs hd i hi
    have e1 := pastTo_succ (s := s) hx
    have f1 := j2 i
    have f2 := j3 i
    simp only [hx, Option.some.injEq, forall_eq'] at f1 f2
    obtain ⟨a1, a2⟩ := l13Do_own (pastTo s ds i).1 d p1 hk
    generalize pastTo s ds i = q at p1 p2 p3 e1 f1 f2 a1 a2 ⊢
    obtain ⟨cs, out⟩ := q
    dsimp only at p1 p2 p3 f1 f2 a1 a2 ⊢
    cases hm : doM cs d with
    | none =>
      have e2 : (pastTo s ds (i + 1)).1 = cs := by rw [e1]; unfold pastStep; simp only [hm]
      by_cases hJ : J ≤ i
      · have k2 := (a2 hm).toL0
        have e3 : phO J (i + 1) (pastTo s ds (i + 1)).1 = ownO cs := by rw [e2, phO_own _ (by omega)]
        rw [phO_own _ hJ, phW]
        repeat (first | apply Aw_seq | apply Aw_block | apply Aw_skip | apply Aw_exit | refine Aw_condt rfl ?_ | refine Aw_condf rfl ?_ | ((first | refine qr ?_ | refine qd (by kernel_rfl) (by kernel_rfl) ?_); simp only [go_sem, jE, reduceIte, jA, jM, jS, jL, jD, jB, g1, w1, hx]) | refine dk (by kernel_rfl) ?_ | (refine qx (call_N (L := [0, 1, 2, 3]) (k2) rfl (.cons (arg_sto (a := 0) (b := 1) (c := 2) (d := 3) rfl rfl rfl rfl (by simp)) (.cons (.nm rfl) (.nil))) (.inr ⟨rfl, by simp⟩) rfl) (by simp only [go_sem, jE, reduceIte, jA, jM, jS, jL, jD, jB, g1, w1, hx]; first | done | rfl) rfl (by simp only [go_sem, Nat.reduceLT]) ?_; simp only [go_sem, jE, reduceIte, jA, jM, jS, jL, jD, jB, g1, w1, hx]))
        refine ⟨⟨i + 1, hlt⟩, [0, 1, 2, 3, 4, 5], ?_, ?_⟩
        rotate_left
        dsimp only
        rw [e3, phW]
        exact rwL (by repeat (first | exact trivial | refine ⟨rfl, rfl, ?_⟩)) (by rfl) (by simp only [go_sem, jE, reduceIte, jA, jM, jS, jL, jD, jB]; first | done | rfl) (by decide) (by unfold idM; decide)
        show ds.length - (i + 1) < ds.length - i; omega
      · have k2 := a2 hm
        have hJ2 : i + 1 < J := by
          rcases Nat.lt_or_ge (i + 1) J with h | h
          · exact h
          · exact absurd hm (f2 (by omega))
        have e3 : phO J (i + 1) (pastTo s ds (i + 1)).1 = datO cs := by rw [e2, phO_dat _ hJ2]
        rw [phO_dat _ (by omega)]
        unfold datO
        repeat (first | apply Aw_seq | apply Aw_block | apply Aw_skip | apply Aw_exit | refine Aw_condt rfl ?_ | refine Aw_condf rfl ?_ | ((first | refine qr ?_ | refine qd (by kernel_rfl) (by kernel_rfl) ?_); simp only [go_sem, jE, reduceIte, jA, jM, jS, jL, jD, jB, g1, w1, hx]) | refine dk (by kernel_rfl) ?_ | (refine qp (k2) (by simp only [go_sem, jE, reduceIte, jA, jM, jS, jL, jD, jB, g1, w1, hx]; first | done | rfl) rfl (by simp only [go_sem, Nat.reduceLT]) rfl rfl ?_; simp only [go_sem, jE, reduceIte, jA, jM, jS, jL, jD, jB, g1, w1, hx]))
        refine ⟨⟨i + 1, hlt⟩, [0, 1, 2, 3, 4, 5], ?_, ?_⟩
        rotate_left
        dsimp only
        rw [e3, phD]
        exact rwL (by repeat (first | exact trivial | refine ⟨rfl, rfl, ?_⟩)) (by rfl) (by simp only [go_sem, jE, reduceIte, jA, jM, jS, jL, jD, jB]; first | done | rfl) (by decide) (by unfold idM; decide)
        show ds.length - (i + 1) < ds.length - i; omega
    | some x =>
      have e2 : (pastTo s ds (i + 1)).1 = x := by rw [e1]; unfold pastStep; simp only [hm]
      have hJ : i < J := by
        rcases Nat.lt_or_ge i J with h | h
        · exact h
        · have := f1 h hlt; rw [hm] at this; cases this
      rw [phO_dat _ hJ]
      unfold datO
      by_cases hJ2 : i + 1 < J
      · have k2 : AC Tryz.prog 54 [stT cs, deedT d] noHp 0 ⟨.tup [stT x, bT true], noHp, 0⟩ := by
          have := l13Do_ac cs d p1 hk; rw [hm] at this; exact this
        have e3 : phO J (i + 1) (pastTo s ds (i + 1)).1 = datO x := by rw [e2, phO_dat _ hJ2]
        repeat (first | apply Aw_seq | apply Aw_block | apply Aw_skip | apply Aw_exit | refine Aw_condt rfl ?_ | refine Aw_condf rfl ?_ | ((first | refine qr ?_ | refine qd (by kernel_rfl) (by kernel_rfl) ?_); simp only [go_sem, jE, reduceIte, jA, jM, jS, jL, jD, jB, g1, w1, hx]) | refine dk (by kernel_rfl) ?_ | (refine qp (k2) (by simp only [go_sem, jE, reduceIte, jA, jM, jS, jL, jD, jB, g1, w1, hx]; first | done | rfl) rfl (by simp only [go_sem, Nat.reduceLT]) rfl rfl ?_; simp only [go_sem, jE, reduceIte, jA, jM, jS, jL, jD, jB, g1, w1, hx]))
        refine ⟨⟨i + 1, hlt⟩, [0, 1, 2, 3, 4, 5], ?_, ?_⟩
        rotate_left
        dsimp only
        rw [e3, phD]
        exact rwL (by repeat (first | exact trivial | refine ⟨rfl, rfl, ?_⟩)) (by rfl) (by simp only [go_sem, jE, reduceIte, jA, jM, jS, jL, jD, jB]; first | done | rfl) (by decide) (by unfold idM; decide)
        show ds.length - (i + 1) < ds.length - i; omega
      · have k2 := a1 x hm
        have e3 : phO J (i + 1) (pastTo s ds (i + 1)).1 = ownO x := by rw [e2, phO_own _ (by omega)]
        repeat (first | apply Aw_seq | apply Aw_block | apply Aw_skip | apply Aw_exit | refine Aw_condt rfl ?_ | refine Aw_condf rfl ?_ | ((first | refine qr ?_ | refine qd (by kernel_rfl) (by kernel_rfl) ?_); simp only [go_sem, jE, reduceIte, jA, jM, jS, jL, jD, jB, g1, w1, hx]) | refine dk (by kernel_rfl) ?_ | (refine qx (call_N (L := []) (k2) rfl (.cons (.nm rfl) (.cons (.nm rfl) (.nil))) (.inl rfl) rfl) (by simp only [go_sem, jE, reduceIte, jA, jM, jS, jL, jD, jB, g1, w1, hx]; first | done | rfl) rfl (by simp only [go_sem, Nat.reduceLT]) ?_; simp only [go_sem, jE, reduceIte, jA, jM, jS, jL, jD, jB, g1, w1, hx]))
        refine ⟨⟨i + 1, hlt⟩, [15, 16, 17, 18, 4, 5], ?_, ?_⟩
        rotate_left
        dsimp only
        rw [e3, phW]
        exact rwL (by repeat (first | exact trivial | refine ⟨rfl, rfl, ?_⟩)) (by rfl) (by simp only [go_sem, jE, reduceIte, jA, jM, jS, jL, jD, jB]; first | done | rfl) (by decide) (by unfold idM; decide)
        show ds.length - (i + 1) < ds.length - i; omega
  · have g1 : ¬ (i : Int) < (ds.length : Int) := by omega
    obtain rfl : i = ds.length := by omega
    rw [phO_own _ j1]
    unfold ownO
    generalize (pastTo s ds ds.length).1 = x
    repeat (first | apply Aw_seq | apply Aw_block | apply Aw_skip | apply Aw_exit | refine Aw_condt rfl ?_ | refine Aw_condf rfl ?_ | ((first | refine qr ?_ | refine qd (by kernel_rfl) (by kernel_rfl) ?_); simp only [go_sem, jE, reduceIte, jA, jM, jS, jL, jD, jB, g1]) | refine dk (by kernel_rfl) ?_)
    exact Aw_ret (retL (M := [0, 1, 2, 3]) (.inl rfl) (by simp only [go_sem, jE, reduceIte, jA, jM, jS, jL, jD, jB]; first | done | rfl) rfl rfl (by rfl) (by simp only [go_sem, jE, reduceIte, jA, jM, jS, jL, jD, jB]; first | done | rfl | (and_intros <;> rfl)) (by decide) (by unfold idM; decide))
def u8D (n : Int) : List D := [.s (.int .u8 n)]
@[go_sem] theorem r_u8D (n : Int) : u8D n = [.s (.int .u8 n)] := rfl
abbrev bytesT (b : List Int) : TV := .c (.d (.rs 1 (b.map u8D)))
def rdO (b : List Int) (p : Nat) : Obj := ⟨114, 2, false, [[.d (.rs 1 (b.map u8D)), .d (.s (.int .i64 p))]]⟩
@[go_sem] theorem r_rdO (b : List Int) (p : Nat) : rdO b p = ⟨114, 2, false, [[.d (.rs 1 (b.map u8D)), .d (.s (.int .i64 p))]]⟩ := rfl
def byteL (b : List Int) : Prop := b.length ≤ 2000 ∧ ∀ c ∈ b, 0 ≤ c ∧ c ≤ 255
theorem l6Open_ac (b : List Int) (hl : b.length ≤ 1099511627776) : AC Tryz.prog 33 [bytesT b] noHp 0 ⟨.t (.c (.ph 0 0 0)), hpL [some (rdO (b.take 2000) 0)], 1⟩ := by
  refine AC_of Tryz.func33 rfl Tryz.ntmps33 Tryz.results33 (by kernel_rfl) rfl ?_
  simp only [List.zipIdx, List.map, Nat.zero_add, Nat.reduceAdd]
  by_cases h : b.length ≤ 2000
  · have g1 : decide ((2000 : Int) < (b.length : Int)) = false := decide_eq_false (by omega)
    rw [List.take_of_length_le h]
    repeat (first | apply Aw_seq | apply Aw_block | apply Aw_skip | apply Aw_exit | refine Aw_condt rfl ?_ | refine Aw_condf rfl ?_ | ((first | refine qr ?_ | refine qd (by kernel_rfl) (by kernel_rfl) ?_); simp only [go_sem, jE, reduceIte, jA, jM, jS, jL, jD, jB, g1]) | refine dk (by kernel_rfl) ?_)
    exact Aw_ret (retL (M := [6]) (.inl rfl) (by simp only [go_sem, jE, reduceIte, jA, jM, jS, jL, jD, jB]; first | done | rfl) rfl rfl (by rfl) (by simp only [go_sem, jE, reduceIte, jA, jM, jS, jL, jD, jB]; first | done | rfl | (and_intros <;> rfl)) (by decide) (by unfold idM; decide))
  · have g1 : decide ((2000 : Int) < (b.length : Int)) = true := decide_eq_true (by omega)
    have g2 : ((2000 : Int) ≤ (b.length : Int)) = True := eq_true (by omega)
    have g3 : ((0 : Int) ≤ 2000) = True := eq_true (by omega)
    have g4 : Int.toNat 2000 = 2000 := rfl
    have g5 : (List.map u8D b).take 2000 = List.map u8D (b.take 2000) := by rw [List.map_take]
    repeat (first | apply Aw_seq | apply Aw_block | apply Aw_skip | apply Aw_exit | refine Aw_condt rfl ?_ | refine Aw_condf rfl ?_ | ((first | refine qr ?_ | refine qd (by kernel_rfl) (by kernel_rfl) ?_); simp only [go_sem, jE, reduceIte, jA, jM, jS, jL, jD, jB, g1, g2, g3, g4, g5]) | refine dk (by kernel_rfl) ?_)
    exact Aw_ret (retL (M := [9]) (.inl rfl) (by simp only [go_sem, jE, reduceIte, jA, jM, jS, jL, jD, jB]; first | done | rfl) rfl rfl (by rfl) (by simp only [go_sem, jE, reduceIte, jA, jM, jS, jL, jD, jB]; first | done | rfl | (and_intros <;> rfl)) (by decide) (by unfold idM; decide))
theorem xorN (X Y : Nat) (hX : X ≤ 1099511627776) (hY : Y ≤ 1099511627776) : ∃ v : Nat, IntKind.i64.wrap (((BitVec.ofInt IntKind.i64.bits (X : Int) ^^^ BitVec.ofInt IntKind.i64.bits (Y : Int)).toNat : Nat) : Int) = v := by
  have e62 : (2 : Nat) ^ 62 = 4611686018427387904 := by decide
  have e64 : (2 : Nat) ^ 64 = 18446744073709551616 := by decide
  have hx := Nat.xor_lt_two_pow (n := 62) (show X < 2 ^ 62 by omega) (show Y < 2 ^ 62 by omega)
  have hb : ∀ q : Nat, q < 2 ^ 62 → (BitVec.ofInt IntKind.i64.bits (q : Int)).toNat = q := fun q hq => by
    show (BitVec.ofInt 64 (q : Int)).toNat = q
    rw [BitVec.ofInt_natCast, BitVec.toNat_ofNat]; exact Nat.mod_eq_of_lt (by omega)
  refine ⟨X ^^^ Y, ?_⟩
  rw [BitVec.toNat_xor, hb X (by omega), hb Y (by omega)]
  simp only [IntKind.wrap, IntKind.bits, IntKind.signed]
  simp
  omega
theorem byte_at {b : List Int} (hb : byteL b) {i : Nat} (h : i < b.length) : ∃ n : Nat, n ≤ 255 ∧ b[i]? = some (n : Int) := by
  have := hb.2 b[i] (List.getElem_mem h)
  exact ⟨b[i].toNat, by omega, by rw [List.getElem?_eq_getElem h]; congr 1; omega⟩
theorem pick_ac (b : List Int) (p : Nat) (n : Int) (hb : byteL b) (hp : p ≤ 1000000) (hn : n ≤ 1099511627776) : ∃ v : Nat, (1 ≤ n → (v : Int) < n) ∧ (¬ 1 ≤ n → v = 0) ∧ AC Tryz.prog 36 [.c (.ph 0 0 0), iT n] (hpL [some (rdO b p)]) 1 ⟨.t (iT v), hpL [some (rdO b (p + 1))], 1⟩ := by
  have w1 : IntKind.i64.wrap ((p : Int) + 1) = ((p + 1 : Nat) : Int) := wn (by omega) (by omega)
  have w2 : IntKind.i64.wrap (((p + 1 : Nat) : Int) - 1) = (p : Int) := wn (by omega) (by omega)
  have z0 : ((0 : Nat) : Int) = 0 := rfl
  by_cases c1 : 1 ≤ n
  case neg =>
    refine ⟨0, fun h => absurd h c1, fun _ => rfl, ?_⟩
    have g1 : decide (n < 1) = true := decide_eq_true (by omega)
    refine AC_of Tryz.func36 rfl Tryz.ntmps36 Tryz.results36 (by kernel_rfl) rfl ?_
    simp only [List.zipIdx, List.map, Nat.zero_add, Nat.reduceAdd]
    repeat (first | apply Aw_seq | apply Aw_block | apply Aw_skip | apply Aw_exit | refine Aw_condt rfl ?_ | refine Aw_condf rfl ?_ | ((first | refine qr ?_ | refine qd (by kernel_rfl) (by kernel_rfl) ?_); simp only [go_sem, jE, reduceIte, jA, jM, jS, jL, jD, jB, w1, g1]) | refine dk (by kernel_rfl) ?_)
    exact Aw_ret (retL (M := [0]) (.inl rfl) (by simp only [go_sem, jE, reduceIte, jA, jM, jS, jL, jD, jB]; first | done | rfl) rfl rfl (by rfl) (by simp only [go_sem, jE, reduceIte, jA, jM, jS, jL, jD, jB]; first | done | rfl | (and_intros <;> rfl)) (by decide) (by unfold idM; decide))
  have g1 : decide (n < 1) = false := decide_eq_false (by omega)
  have gn : (n = 0) = False := eq_false (by omega)
  by_cases c2 : b.length = 0
  · refine ⟨0, fun _ => by omega, fun h => absurd c1 h, ?_⟩
    have g2 : decide (((b.length : Nat) : Int) = 0) = true := decide_eq_true (by omega)
    refine AC_of Tryz.func36 rfl Tryz.ntmps36 Tryz.results36 (by kernel_rfl) rfl ?_
    simp only [List.zipIdx, List.map, Nat.zero_add, Nat.reduceAdd]
    repeat (first | apply Aw_seq | apply Aw_block | apply Aw_skip | apply Aw_exit | refine Aw_condt rfl ?_ | refine Aw_condf rfl ?_ | ((first | refine qr ?_ | refine qd (by kernel_rfl) (by kernel_rfl) ?_); simp only [go_sem, jE, reduceIte, jA, jM, jS, jL, jD, jB, w1, g1, g2]) | refine dk (by kernel_rfl) ?_)
    exact Aw_ret (retL (M := [0]) (.inl rfl) (by simp only [go_sem, jE, reduceIte, jA, jM, jS, jL, jD, jB]; first | done | rfl) rfl rfl (by rfl) (by simp only [go_sem, jE, reduceIte, jA, jM, jS, jL, jD, jB]; first | done | rfl | (and_intros <;> rfl)) (by decide) (by unfold idM; decide))
  have g2 : decide (((b.length : Nat) : Int) = 0) = false := decide_eq_false (by omega)
  have gl : (((b.length : Nat) : Int) = 0) = False := eq_false (by omega)
  have hL := hb.1
  have tm : ∀ x : Nat, ∃ v : Nat, (x : Int).tmod n = v ∧ (v : Int) < n := fun x => by
    have h1 := Int.tmod_nonneg n (show (0 : Int) ≤ (x : Int) by omega)
    have h2 := Int.tmod_lt_of_pos (x : Int) (show (0 : Int) < n by omega)
    exact ⟨((x : Int).tmod n).toNat, by omega, by omega⟩
  by_cases c3 : p < b.length
  · obtain ⟨x, hx1, hx⟩ := byte_at hb c3
    obtain ⟨v, hv, hv2⟩ := tm x
    refine ⟨v, fun _ => hv2, fun h => absurd c1 h, ?_⟩
    have g3 : decide ((p : Int) < ((b.length : Nat) : Int)) = true := decide_eq_true (by omega)
    have wx : IntKind.i64.wrap (x : Int) = x := wrap_nat (by omega)
    refine AC_of Tryz.func36 rfl Tryz.ntmps36 Tryz.results36 (by kernel_rfl) rfl ?_
    simp only [List.zipIdx, List.map, Nat.zero_add, Nat.reduceAdd]
    repeat (first | apply Aw_seq | apply Aw_block | apply Aw_skip | apply Aw_exit | refine Aw_condt rfl ?_ | refine Aw_condf rfl ?_ | ((first | refine qr ?_ | refine qd (by kernel_rfl) (by kernel_rfl) ?_); simp only [go_sem, jE, reduceIte, jA, jM, jS, jL, jD, jB, w1, w2, g1, g2, g3, hx, wx, gn, hv]) | refine dk (by kernel_rfl) ?_)
    exact Aw_ret (retL (M := [0]) (.inl rfl) (by simp only [go_sem, jE, reduceIte, jA, jM, jS, jL, jD, jB]; first | done | rfl) rfl rfl (by rfl) (by simp only [go_sem, jE, reduceIte, jA, jM, jS, jL, jD, jB]; first | done | rfl | (and_intros <;> rfl)) (by decide) (by unfold idM; decide))
  · have g3 : decide ((p : Int) < ((b.length : Nat) : Int)) = false := decide_eq_false (by omega)
    have hi1 : p % b.length < b.length := Nat.mod_lt _ (by omega)
    have hi2 : (p * 7 + 3) % b.length < b.length := Nat.mod_lt _ (by omega)
    obtain ⟨x1, b1, hx1⟩ := byte_at hb hi1
    obtain ⟨x2, b2, hx2⟩ := byte_at hb hi2
    have hq : p / b.length ≤ p := Nat.div_le_self _ _
    have t1 : (p : Int).tmod ((b.length : Nat) : Int) = ((p % b.length : Nat) : Int) := rfl
    have e7 : IntKind.i64.wrap ((p : Int) * 7) = ((p * 7 : Nat) : Int) := wn (by omega) (by omega)
    have e73 : IntKind.i64.wrap (((p * 7 : Nat) : Int) + 3) = ((p * 7 + 3 : Nat) : Int) := wn (by omega) (by omega)
    have t2 : ((p * 7 + 3 : Nat) : Int).tmod ((b.length : Nat) : Int) = (((p * 7 + 3) % b.length : Nat) : Int) := rfl
    have t3 : (p : Int).tdiv ((b.length : Nat) : Int) = ((p / b.length : Nat) : Int) := rfl
    obtain ⟨q, hqe⟩ : ∃ q, q = p / b.length := ⟨_, rfl⟩
    rw [← hqe] at t3 hq
    have wq : IntKind.i64.wrap (q : Int) = q := wrap_nat (by omega)
    have wx1 : IntKind.i64.wrap (x1 : Int) = x1 := wrap_nat (by omega)
    have wx2 : IntKind.i64.wrap (x2 : Int) = x2 := wrap_nat (by omega)
    have m1 : IntKind.i64.wrap ((x1 : Int) * 131) = ((x1 * 131 : Nat) : Int) := wn (by omega) (by omega)
    have m2 : IntKind.i64.wrap ((x2 : Int) * 1117) = ((x2 * 1117 : Nat) : Int) := wn (by omega) (by omega)
    have m3 : IntKind.i64.wrap (((x1 * 131 : Nat) : Int) + ((x2 * 1117 : Nat) : Int)) = ((x1 * 131 + x2 * 1117 : Nat) : Int) := wn (by omega) (by omega)
    have m4 : IntKind.i64.wrap ((p : Int) * 29) = ((p * 29 : Nat) : Int) := wn (by omega) (by omega)
    have m5 : IntKind.i64.wrap (((x1 * 131 + x2 * 1117 : Nat) : Int) + ((p * 29 : Nat) : Int)) = ((x1 * 131 + x2 * 1117 + p * 29 : Nat) : Int) := wn (by omega) (by omega)
    have m6 : IntKind.i64.wrap ((q : Int) * 53) = ((q * 53 : Nat) : Int) := wn (by omega) (by omega)
    obtain ⟨X, hX⟩ : ∃ X, X = x1 * 131 + x2 * 1117 + p * 29 + q * 53 := ⟨_, rfl⟩
    have m7 : IntKind.i64.wrap (((x1 * 131 + x2 * 1117 + p * 29 : Nat) : Int) + ((q * 53 : Nat) : Int)) = (X : Int) := wn (by omega) (by omega)
    have t4 : (X : Int).tdiv 64 = ((X / 64 : Nat) : Int) := rfl
    have m8 : IntKind.i64.wrap ((X / 64 : Nat) : Int) = ((X / 64 : Nat) : Int) := wrap_nat (by omega)
    have s0 : ((64 : Int) = 0) = False := eq_false (by decide)
    obtain ⟨u, hu⟩ := xorN X (X / 64) (by omega) (by omega)
    obtain ⟨v, hv, hv2⟩ := tm u
    refine ⟨v, fun _ => hv2, fun h => absurd c1 h, ?_⟩
    refine AC_of Tryz.func36 rfl Tryz.ntmps36 Tryz.results36 (by kernel_rfl) rfl ?_
    simp only [List.zipIdx, List.map, Nat.zero_add, Nat.reduceAdd]
    repeat (first | apply Aw_seq | apply Aw_block | apply Aw_skip | apply Aw_exit | refine Aw_condt rfl ?_ | refine Aw_condf rfl ?_ | ((first | refine qr ?_ | refine qd (by kernel_rfl) (by kernel_rfl) ?_); simp only [go_sem, jE, reduceIte, jA, jM, jS, jL, jD, jB, w1, w2, g1, g2, gl, g3, t1, hx1, wx1, m1, e7, e73, t2, hx2, wx2, m2, m3, m4, m5, t3, wq, m6, m7, t4, m8, s0, gn]) | refine dk (by kernel_rfl) ?_)
    generalize hg : IntKind.i64.wrap ((BitVec.toNat _ : Nat) : Int) = w
    obtain rfl : w = (u : Int) := hg.symm.trans hu
    rw [hv]
    exact Aw_ret (retL (M := [0]) (.inl rfl) (by simp only [go_sem, jE, reduceIte, jA, jM, jS, jL, jD, jB]; first | done | rfl) rfl rfl (by rfl) (by simp only [go_sem, jE, reduceIte, jA, jM, jS, jL, jD, jB]; first | done | rfl | (and_intros <;> rfl)) (by decide) (by unfold idM; decide))
def putL (k : ByteArray) : List ByteArray → Bool → List ByteArray → Option (List ByteArray)
  | [], done, out => some (if done = true then out else out ++ [k])
  | x :: r, done, out => if x = k then none else putL k r (done || !klt x k) ((if (!done && !klt x k) = true then out ++ [k] else out) ++ [x])
def putK (ks : List ByteArray) (k : ByteArray) : List ByteArray := (putL k ks false []).getD ks
theorem putL_mem {k : ByteArray} : ∀ {xs : List ByteArray} {d : Bool} {out o : List ByteArray}, putL k xs d out = some o → (∀ y ∈ o, y ∈ out ∨ y ∈ xs ∨ y = k) ∧ o.length ≤ out.length + xs.length + (if d = true then 0 else 1)
  | [], d, out, o, h => by
    simp only [putL, Option.some.injEq] at h
    subst h
    cases d
    · exact ⟨fun y hy => by simp at hy; rcases hy with h | h; exact .inl h; exact .inr (.inr h), by simp⟩
    · exact ⟨fun y hy => .inl (by simpa using hy), by simp⟩
  | x :: r, d, out, o, h => by
    simp only [putL] at h
    split at h
    · cases h
    · obtain ⟨h1, h2⟩ := putL_mem h
      constructor
      · intro y hy
        rcases h1 y hy with h | h | h
        · rcases List.mem_append.1 h with h | h
          · split at h
            · rcases List.mem_append.1 h with h | h
              · exact .inl h
              · exact .inr (.inr (by simpa using h))
            · exact .inl h
          · exact .inr (.inl (by simp at h; simp [h]))
        · exact .inr (.inl (by simp [h]))
        · exact .inr (.inr h)
      · refine Nat.le_trans h2 ?_
        cases d <;> cases klt x k <;> simp <;> omega
@[go_sem] theorem d_ft2 (e k : Nat) (a : List (List D)) (x y : D) : (⟨e, k, true, List.map (fun x => List.map CV.d x) a ++ [[.d x], [.d y]]⟩ : Obj) = dRow e k (a ++ [[x], [y]]) := by simp [dRow]
theorem lenA {α : Type} {out : List α} {i : Nat} {k x : α} (h : out.length ≤ i + (if false = true then 1 else 0)) : (out ++ [k] ++ [x]).length ≤ i + 1 + (if true = true then 1 else 0) := by simp at h ⊢; omega
theorem lenB {α : Type} {out : List α} {i : Nat} {b : Bool} {x : α} (h : out.length ≤ i + (if b = true then 1 else 0)) : (out ++ [x]).length ≤ i + 1 + (if b = true then 1 else 0) := by cases b <;> simp at h ⊢ <;> omega
theorem lenC {α : Type} {out : List α} {i n : Nat} {b : Bool} (h : out.length ≤ i + (if b = true then 1 else 0)) (hi : i ≤ n) (hn : n ≤ 4000000) : (out.length + 1) * 16 ≤ 140737488355328 ∧ (out.length + 1 + 1) * 16 ≤ 140737488355328 := by cases b <;> simp at h <;> omega
structure PuI (ks : List ByteArray) (k : ByteArray) where
  i : Nat
  d : Bool
  out : List ByteArray
  hi : i ≤ ks.length
  hl : out.length ≤ i + (if d = true then 1 else 0)
  h : putL k (ks.drop i) d out = putL k ks false []
theorem l2Put_no (ks : List ByteArray) (k : ByteArray) (hl : ks.length ≤ 4000000) (h0 : putL k ks false [] = none) : AC Tryz.prog 152 [strsT ks, sT k] noHp 0 ⟨.t (strsT ks), noHp, 0⟩ := by
  refine AC_of Tryz.func152 rfl Tryz.ntmps152 Tryz.results152 (by kernel_rfl) rfl ?_
  simp only [List.zipIdx, List.map, Nat.zero_add, Nat.reduceAdd]
  repeat (first | apply Aw_seq | apply Aw_block | apply Aw_skip | apply Aw_exit | refine Aw_condt rfl ?_ | refine Aw_condf rfl ?_ | ((first | refine qr ?_ | refine qd (by kernel_rfl) (by kernel_rfl) ?_); simp only [go_sem, jE, reduceIte, jA, jM, jS, jL, jD, jB]) | refine dk (by kernel_rfl) ?_)
  refine Aw.rw (rwL (l' := [(7, .t (iT (0 : Nat))), (6, .t (bT false)), (5, .t (.c (.h 0))), (1, .t (sT k)), (0, .t (strsT ks))]) (os := [some (kRow [])]) (M := [1]) (n' := 1) (by repeat (first | exact trivial | refine ⟨rfl, rfl, ?_⟩)) (by rfl) (by simp only [go_sem, jE, reduceIte, jA, jM, jS, jL, jD, jB, List.map_nil]; first | done | rfl) (by decide) (by unfold idM; decide)) ?_
  refine Aw_loop_rw (ι := PuI ks k) (fun q => S [(7, .t (iT (q.i : Nat))), (6, .t (bT q.d)), (5, .t (.c (.h 0))), (1, .t (sT k)), (0, .t (strsT ks))] (hpL [some (kRow q.out)]) 1) (fun q => ks.length - q.i) ⟨0, false, [], Nat.zero_le _, by simp, rfl⟩ ?_
  rintro ⟨i, d, out, hi, hlo, h⟩
  dsimp only
  by_cases hlt : i < ks.length
  · have g1 : (i : Int) < (ks.length : Int) := by omega
    have w1 := wrap_succ hlt (by omega)
    obtain ⟨x, hx⟩ : ∃ e, ks[i]? = some e := ⟨_, List.getElem?_eq_getElem hlt⟩
    have hd : ks.drop i = x :: ks.drop (i + 1) := by rw [List.drop_eq_getElem_cons hlt]; congr 1; rw [List.getElem?_eq_getElem hlt] at hx; exact Option.some.inj hx
    obtain ⟨q1, q2⟩ := lenC hlo hi hl
    rw [hd] at h
    cases c1 : decide (x = k)
    · have hne := of_decide_eq_false c1
      simp only [putL, if_neg hne] at h
      cases d
      · cases c2 : klt x k
        · have h' : putL k (ks.drop (i + 1)) true (out ++ [k] ++ [x]) = putL k ks false [] := by rw [← h, c2]; rfl
          repeat (first | apply Aw_seq | apply Aw_block | apply Aw_skip | apply Aw_exit | refine Aw_condt rfl ?_ | refine Aw_condf rfl ?_ | ((first | refine qr ?_ | refine qd (by kernel_rfl) (by kernel_rfl) ?_); simp only [go_sem, jE, reduceIte, jA, jM, jS, jL, jD, jB, g1, w1, hx, c1, c2, q1, q2]) | refine dk (by kernel_rfl) ?_)
          refine ⟨⟨i + 1, true, out ++ [k] ++ [x], hlt, lenA hlo, h'⟩, [33], ?_, rwL (by repeat (first | exact trivial | refine ⟨rfl, rfl, ?_⟩)) (by rfl) (by simp only [go_sem, jE, reduceIte, jA, jM, jS, jL, jD, jB, List.map_append, List.map_cons, List.map_nil, List.append_assoc]; first | done | rfl) (by decide) (by unfold idM; decide)⟩
          show ks.length - (i + 1) < ks.length - i; omega
        · have h' : putL k (ks.drop (i + 1)) false (out ++ [x]) = putL k ks false [] := by rw [← h, c2]; rfl
          repeat (first | apply Aw_seq | apply Aw_block | apply Aw_skip | apply Aw_exit | refine Aw_condt rfl ?_ | refine Aw_condf rfl ?_ | ((first | refine qr ?_ | refine qd (by kernel_rfl) (by kernel_rfl) ?_); simp only [go_sem, jE, reduceIte, jA, jM, jS, jL, jD, jB, g1, w1, hx, c1, c2, q1]) | refine dk (by kernel_rfl) ?_)
          refine ⟨⟨i + 1, false, out ++ [x], hlt, lenB hlo, h'⟩, [27], ?_, rwL (by repeat (first | exact trivial | refine ⟨rfl, rfl, ?_⟩)) (by rfl) (by simp only [go_sem, jE, reduceIte, jA, jM, jS, jL, jD, jB, List.map_append, List.map_cons, List.map_nil]; first | done | rfl) (by decide) (by unfold idM; decide)⟩
          show ks.length - (i + 1) < ks.length - i; omega
      · have h' : putL k (ks.drop (i + 1)) true (out ++ [x]) = putL k ks false [] := by rw [← h]; cases klt x k <;> rfl
        repeat (first | apply Aw_seq | apply Aw_block | apply Aw_skip | apply Aw_exit | refine Aw_condt rfl ?_ | refine Aw_condf rfl ?_ | ((first | refine qr ?_ | refine qd (by kernel_rfl) (by kernel_rfl) ?_); simp only [go_sem, jE, reduceIte, jA, jM, jS, jL, jD, jB, g1, w1, hx, c1, q1]) | refine dk (by kernel_rfl) ?_)
        refine ⟨⟨i + 1, true, out ++ [x], hlt, lenB hlo, h'⟩, [21], ?_, rwL (by repeat (first | exact trivial | refine ⟨rfl, rfl, ?_⟩)) (by rfl) (by simp only [go_sem, jE, reduceIte, jA, jM, jS, jL, jD, jB, List.map_append, List.map_cons, List.map_nil]; first | done | rfl) (by decide) (by unfold idM; decide)⟩
        show ks.length - (i + 1) < ks.length - i; omega
    · repeat (first | apply Aw_seq | apply Aw_block | apply Aw_skip | apply Aw_exit | refine Aw_condt rfl ?_ | refine Aw_condf rfl ?_ | ((first | refine qr ?_ | refine qd (by kernel_rfl) (by kernel_rfl) ?_); simp only [go_sem, jE, reduceIte, jA, jM, jS, jL, jD, jB, g1, hx, c1]) | refine dk (by kernel_rfl) ?_)
      exact Aw_ret (ret0 (.inl rfl) (by simp only [go_sem, jE, reduceIte, jA, jM, jS, jL, jD, jB]; rfl) (by rfl) rfl)
  · have g1 : ¬ (i : Int) < (ks.length : Int) := by omega
    rw [List.drop_eq_nil_of_le (by omega), h0] at h
    simp [putL] at h
theorem l2Put_ok (ks o : List ByteArray) (k : ByteArray) (hl : ks.length ≤ 4000000) (h0 : putL k ks false [] = some o) : AC Tryz.prog 152 [strsT ks, sT k] noHp 0 ⟨.t (.c (.h 0)), hpL [some (kRow o)], 1⟩ := by
  refine AC_of Tryz.func152 rfl Tryz.ntmps152 Tryz.results152 (by kernel_rfl) rfl ?_
  simp only [List.zipIdx, List.map, Nat.zero_add, Nat.reduceAdd]
  repeat (first | apply Aw_seq | apply Aw_block | apply Aw_skip | apply Aw_exit | refine Aw_condt rfl ?_ | refine Aw_condf rfl ?_ | ((first | refine qr ?_ | refine qd (by kernel_rfl) (by kernel_rfl) ?_); simp only [go_sem, jE, reduceIte, jA, jM, jS, jL, jD, jB]) | refine dk (by kernel_rfl) ?_)
  refine Aw.rw (rwL (l' := [(7, .t (iT (0 : Nat))), (6, .t (bT false)), (5, .t (.c (.h 0))), (1, .t (sT k)), (0, .t (strsT ks))]) (os := [some (kRow [])]) (M := [1]) (n' := 1) (by repeat (first | exact trivial | refine ⟨rfl, rfl, ?_⟩)) (by rfl) (by simp only [go_sem, jE, reduceIte, jA, jM, jS, jL, jD, jB, List.map_nil]; first | done | rfl) (by decide) (by unfold idM; decide)) ?_
  refine Aw_loop_rw (ι := PuI ks k) (fun q => S [(7, .t (iT (q.i : Nat))), (6, .t (bT q.d)), (5, .t (.c (.h 0))), (1, .t (sT k)), (0, .t (strsT ks))] (hpL [some (kRow q.out)]) 1) (fun q => ks.length - q.i) ⟨0, false, [], Nat.zero_le _, by simp, rfl⟩ ?_
  rintro ⟨i, d, out, hi, hlo, h⟩
  dsimp only
  by_cases hlt : i < ks.length
  · have g1 : (i : Int) < (ks.length : Int) := by omega
    have w1 := wrap_succ hlt (by omega)
    obtain ⟨x, hx⟩ : ∃ e, ks[i]? = some e := ⟨_, List.getElem?_eq_getElem hlt⟩
    have hd : ks.drop i = x :: ks.drop (i + 1) := by rw [List.drop_eq_getElem_cons hlt]; congr 1; rw [List.getElem?_eq_getElem hlt] at hx; exact Option.some.inj hx
    obtain ⟨q1, q2⟩ := lenC hlo hi hl
    rw [hd] at h
    cases c1 : decide (x = k)
    · have hne := of_decide_eq_false c1
      simp only [putL, if_neg hne] at h
      cases d
      · cases c2 : klt x k
        · have h' : putL k (ks.drop (i + 1)) true (out ++ [k] ++ [x]) = putL k ks false [] := by rw [← h, c2]; rfl
          repeat (first | apply Aw_seq | apply Aw_block | apply Aw_skip | apply Aw_exit | refine Aw_condt rfl ?_ | refine Aw_condf rfl ?_ | ((first | refine qr ?_ | refine qd (by kernel_rfl) (by kernel_rfl) ?_); simp only [go_sem, jE, reduceIte, jA, jM, jS, jL, jD, jB, g1, w1, hx, c1, c2, q1, q2]) | refine dk (by kernel_rfl) ?_)
          refine ⟨⟨i + 1, true, out ++ [k] ++ [x], hlt, lenA hlo, h'⟩, [33], ?_, rwL (by repeat (first | exact trivial | refine ⟨rfl, rfl, ?_⟩)) (by rfl) (by simp only [go_sem, jE, reduceIte, jA, jM, jS, jL, jD, jB, List.map_append, List.map_cons, List.map_nil, List.append_assoc]; first | done | rfl) (by decide) (by unfold idM; decide)⟩
          show ks.length - (i + 1) < ks.length - i; omega
        · have h' : putL k (ks.drop (i + 1)) false (out ++ [x]) = putL k ks false [] := by rw [← h, c2]; rfl
          repeat (first | apply Aw_seq | apply Aw_block | apply Aw_skip | apply Aw_exit | refine Aw_condt rfl ?_ | refine Aw_condf rfl ?_ | ((first | refine qr ?_ | refine qd (by kernel_rfl) (by kernel_rfl) ?_); simp only [go_sem, jE, reduceIte, jA, jM, jS, jL, jD, jB, g1, w1, hx, c1, c2, q1]) | refine dk (by kernel_rfl) ?_)
          refine ⟨⟨i + 1, false, out ++ [x], hlt, lenB hlo, h'⟩, [27], ?_, rwL (by repeat (first | exact trivial | refine ⟨rfl, rfl, ?_⟩)) (by rfl) (by simp only [go_sem, jE, reduceIte, jA, jM, jS, jL, jD, jB, List.map_append, List.map_cons, List.map_nil]; first | done | rfl) (by decide) (by unfold idM; decide)⟩
          show ks.length - (i + 1) < ks.length - i; omega
      · have h' : putL k (ks.drop (i + 1)) true (out ++ [x]) = putL k ks false [] := by rw [← h]; cases klt x k <;> rfl
        repeat (first | apply Aw_seq | apply Aw_block | apply Aw_skip | apply Aw_exit | refine Aw_condt rfl ?_ | refine Aw_condf rfl ?_ | ((first | refine qr ?_ | refine qd (by kernel_rfl) (by kernel_rfl) ?_); simp only [go_sem, jE, reduceIte, jA, jM, jS, jL, jD, jB, g1, w1, hx, c1, q1]) | refine dk (by kernel_rfl) ?_)
        refine ⟨⟨i + 1, true, out ++ [x], hlt, lenB hlo, h'⟩, [21], ?_, rwL (by repeat (first | exact trivial | refine ⟨rfl, rfl, ?_⟩)) (by rfl) (by simp only [go_sem, jE, reduceIte, jA, jM, jS, jL, jD, jB, List.map_append, List.map_cons, List.map_nil]; first | done | rfl) (by decide) (by unfold idM; decide)⟩
        show ks.length - (i + 1) < ks.length - i; omega
    · rw [h0] at h
      simp [putL, of_decide_eq_true c1] at h
  · have g1 : ¬ (i : Int) < (ks.length : Int) := by omega
    obtain ⟨q1, q2⟩ := lenC hlo hi hl
    rw [List.drop_eq_nil_of_le (by omega), h0] at h
    cases d
    · have ho : o = out ++ [k] := by simpa [putL] using h.symm
      subst ho
      repeat (first | apply Aw_seq | apply Aw_block | apply Aw_skip | apply Aw_exit | refine Aw_condt rfl ?_ | refine Aw_condf rfl ?_ | ((first | refine qr ?_ | refine qd (by kernel_rfl) (by kernel_rfl) ?_); simp only [go_sem, jE, reduceIte, jA, jM, jS, jL, jD, jB, g1, q1]) | refine dk (by kernel_rfl) ?_)
      exact Aw_ret (retL (M := [10]) (.inl rfl) (by simp only [go_sem, jE, reduceIte, jA, jM, jS, jL, jD, jB]; first | done | rfl) rfl rfl (by rfl) (by simp only [go_sem, jE, reduceIte, jA, jM, jS, jL, jD, jB, List.map_append, List.map_cons, List.map_nil]; first | done | rfl | (and_intros <;> rfl)) (by decide) (by unfold idM; decide))
    · have ho : o = out := by simpa [putL] using h.symm
      subst ho
      repeat (first | apply Aw_seq | apply Aw_block | apply Aw_skip | apply Aw_exit | refine Aw_condt rfl ?_ | refine Aw_condf rfl ?_ | ((first | refine qr ?_ | refine qd (by kernel_rfl) (by kernel_rfl) ?_); simp only [go_sem, jE, reduceIte, jA, jM, jS, jL, jD, jB, g1]) | refine dk (by kernel_rfl) ?_)
      exact Aw_ret (retL (M := [0]) (.inl rfl) (by simp only [go_sem, jE, reduceIte, jA, jM, jS, jL, jD, jB]; first | done | rfl) rfl rfl (by rfl) (by simp only [go_sem, jE, reduceIte, jA, jM, jS, jL, jD, jB]; first | done | rfl | (and_intros <;> rfl)) (by decide) (by unfold idM; decide))
theorem l2Put_ac (ks : List ByteArray) (k : ByteArray) (hl : ks.length ≤ 4000000) : AC Tryz.prog 152 [strsT ks, sT k] noHp 0 ⟨.t (strsT (putK ks k)), noHp, 0⟩ := by
  unfold putK
  cases h : putL k ks false [] with
  | none => exact l2Put_no ks k hl h
  | some o => exact AC.settle0 [0] (l2Put_ok ks o k hl h) (SetC.row0 rfl rfl) rfl
theorem putK_mem {ks : List ByteArray} {k : ByteArray} : (∀ y ∈ putK ks k, y ∈ ks ∨ y = k) ∧ (putK ks k).length ≤ ks.length + 1 := by
  unfold putK
  cases h : putL k ks false [] with
  | none => exact ⟨fun y hy => .inl hy, by simp⟩
  | some o =>
    obtain ⟨h1, h2⟩ := putL_mem h
    exact ⟨fun y hy => by rcases h1 y hy with h | h | h; simp at h; exact .inl h; exact .inr h, by simpa using h2⟩

open Classical in
noncomputable def pickV (b : List Int) (p : Nat) (n : Int) : Nat := if h : byteL b ∧ p ≤ 1000000 ∧ n ≤ 1099511627776 then Classical.choose (pick_ac b p n h.1 h.2.1 h.2.2) else 0
theorem pickV_ac {b : List Int} {p : Nat} {n : Int} (hb : byteL b) (hp : p ≤ 1000000) (hn : n ≤ 1099511627776) : AC Tryz.prog 36 [.c (.ph 0 0 0), iT n] (hpL [some (rdO b p)]) 1 ⟨.t (iT (pickV b p n)), hpL [some (rdO b (p + 1))], 1⟩ := by
  unfold pickV
  rw [dif_pos ⟨hb, hp, hn⟩]
  exact (Classical.choose_spec (pick_ac b p n hb hp hn)).2.2
theorem pickV_lt {b : List Int} {p : Nat} {n : Int} (hb : byteL b) (hp : p ≤ 1000000) (hn : n ≤ 1099511627776) (h1 : 1 ≤ n) : (pickV b p n : Int) < n := by
  unfold pickV
  rw [dif_pos ⟨hb, hp, hn⟩]
  exact (Classical.choose_spec (pick_ac b p n hb hp hn)).1 h1
noncomputable def ofV (b : List Int) (p : Nat) (l : List ByteArray) : ByteArray := l.getD (pickV b p (l.length : Int)) zs
theorem ofV_at {b : List Int} {p : Nat} {l : List ByteArray} (hb : byteL b) (hp : p ≤ 1000000) (h0 : 0 < l.length) (h1 : l.length ≤ 10000) : l[pickV b p (l.length : Int)]? = some (ofV b p l) := by
  have := pickV_lt (n := (l.length : Int)) hb hp (by omega) (by omega)
  unfold ofV
  rw [List.getD_eq_getElem?_getD, List.getElem?_eq_getElem (by omega)]; rfl
theorem of_ac {b : List Int} {p : Nat} {l : List ByteArray} (hb : byteL b) (hp : p ≤ 1000000) (h0 : 0 < l.length) (h1 : l.length ≤ 10000) : AC Tryz.prog 140 [.c (.ph 0 0 0), .c (.h 1)] (hpL [some (rdO b p), some (kRow l)]) 2 ⟨.t (sT (ofV b p l)), hpL [some (rdO b (p + 1)), none], 2⟩ := by
  refine AC_of Tryz.func140 rfl Tryz.ntmps140 Tryz.results140 (by kernel_rfl) rfl ?_
  simp only [List.zipIdx, List.map, Nat.zero_add, Nat.reduceAdd]
  have k := pickV_ac (n := (l.length : Int)) hb hp (by omega)
  have hx := ofV_at hb hp h0 h1
  have hlt := (List.getElem?_eq_some_iff.1 hx).1
  repeat (first | apply Aw_seq | apply Aw_block | apply Aw_skip | apply Aw_exit | refine Aw_condt rfl ?_ | refine Aw_condf rfl ?_ | ((first | refine qr ?_ | refine qd (by kernel_rfl) (by kernel_rfl) ?_); simp only [go_sem, jE, reduceIte, jA, jM, jS, jL, jD, jB, hx, hlt]) | refine dk (by kernel_rfl) ?_ | (refine qx (call_L (N' := [0]) (L := []) (k) rfl (.cons (.nm rfl) (.cons (.nm rfl) (.nil))) (by decide) (by decide) (by decide) (by simp only [go_sem, jE, reduceIte, jA, jM, jS, jL, jD, jB, hx, hlt]; first | done | rfl) (.inl rfl) rfl (by decide)) (by simp only [go_sem, jE, reduceIte, jA, jM, jS, jL, jD, jB, hx, hlt]; first | done | rfl) rfl (by simp only [go_sem, Nat.reduceLT]) ?_; simp only [go_sem, jE, reduceIte, jA, jM, jS, jL, jD, jB, hx, hlt]))
  exact Aw_ret (retL (M := [0, 1]) (.inl rfl) (by simp only [go_sem, jE, reduceIte, jA, jM, jS, jL, jD, jB]; first | done | rfl) rfl rfl (by rfl) (by simp only [go_sem, jE, reduceIte, jA, jM, jS, jL, jD, jB]; first | done | rfl | (and_intros <;> rfl)) (by decide) (by unfold idM; decide))
@[go_sem] theorem d_five (e k : Nat) (a b c d f : D) : (⟨e, k, true, [[.d a], [.d b], [.d c], [.d d], [.d f]]⟩ : Obj) = dRow e k [[a], [b], [c], [d], [f]] := rfl
@[go_sem] theorem d_three (e k : Nat) (a b c : D) : (⟨e, k, true, [[.d a], [.d b], [.d c]]⟩ : Obj) = dRow e k [[a], [b], [c]] := rfl
def five : List ByteArray := [bs [97], bs [98], bs [97], bs [99], bs [100]]
def three : List ByteArray := [bs [97], bs [98], bs [100]]
theorem ofV_mem {b : List Int} {p : Nat} {l : List ByteArray} (hb : byteL b) (hp : p ≤ 1000000) (h0 : 0 < l.length) (h1 : l.length ≤ 10000) : ofV b p l ∈ l := List.mem_of_getElem? (ofV_at hb hp h0 h1)
theorem five_size {s : ByteArray} (h : s ∈ five) : s.size = 1 := by
  have : five.all (fun s => s.size == 1) = true := rfl
  simpa using List.all_eq_true.1 this s h
theorem three_size {s : ByteArray} (h : s ∈ three) : s.size = 1 := by
  have : three.all (fun s => s.size == 1) = true := rfl
  simpa using List.all_eq_true.1 this s h
noncomputable def keyL (b : List Int) : Nat → ByteArray → Nat → ByteArray × Nat
  | 0, s, p => (s, p)
  | n + 1, s, p => keyL b n (s ++ ofV b p five) (p + 1)
noncomputable def keyV (b : List Int) (p : Nat) : ByteArray × Nat := keyL b (pickV b p 6) zs (p + 1)
theorem keyL_fin {b : List Int} (hb : byteL b) : ∀ (n : Nat) (s : ByteArray) (p : Nat), p + n ≤ 1000000 → (keyL b n s p).1.size = s.size + n ∧ (keyL b n s p).2 = p + n
  | 0, s, p, _ => ⟨rfl, rfl⟩
  | n + 1, s, p, h => by
    have h1 := five_size (ofV_mem (l := five) hb (show p ≤ 1000000 by omega) (by decide) (by decide))
    obtain ⟨h2, h3⟩ := keyL_fin hb n (s ++ ofV b p five) (p + 1) (by omega)
    have e : (s ++ ofV b p five).size = s.size + 1 := by rw [ByteArray.size_append, h1]
    exact ⟨by simp only [keyL]; rw [h2, e]; omega, by simp only [keyL]; rw [h3]; omega⟩
theorem keyV_fin {b : List Int} (hb : byteL b) {p : Nat} (hp : p ≤ 900000) : (keyV b p).1.size ≤ 5 ∧ (keyV b p).2 ≤ p + 6 := by
  have h := pickV_lt (n := 6) hb (show p ≤ 1000000 by omega) (by omega) (by omega)
  obtain ⟨h1, h2⟩ := keyL_fin hb (pickV b p 6) zs (p + 1) (by omega)
  have z : zs.size = 0 := rfl
  unfold keyV
  rw [h1, h2, z]
  constructor <;> omega
structure KyI (b : List Int) (p0 : Nat) where
  n : Nat
  s : ByteArray
  p : Nat
  hn : n ≤ 5
  hs : s.size + n ≤ 100
  hp : p + n ≤ 1000000
  h : keyL b n s p = keyV b p0
theorem l71Key_ac {b : List Int} {p : Nat} (hb : byteL b) (hp : p ≤ 900000) : AC Tryz.prog 139 [.c (.ph 0 0 0)] (hpL [some (rdO b p)]) 1 ⟨.t (sT (keyV b p).1), hpL [some (rdO b (keyV b p).2)], 1⟩ := by
  refine AC_of Tryz.func139 rfl Tryz.ntmps139 Tryz.results139 (by kernel_rfl) rfl ?_
  simp only [List.zipIdx, List.map, Nat.zero_add, Nat.reduceAdd]
  have k := pickV_ac (n := 6) hb (show p ≤ 1000000 by omega) (by omega)
  have h6 := pickV_lt (n := 6) hb (show p ≤ 1000000 by omega) (by omega) (by omega)
  repeat (first | apply Aw_seq | apply Aw_block | apply Aw_skip | apply Aw_exit | refine Aw_condt rfl ?_ | refine Aw_condf rfl ?_ | ((first | refine qr ?_ | refine qd (by kernel_rfl) (by kernel_rfl) ?_); simp only [go_sem, jE, reduceIte, jA, jM, jS, jL, jD, jB]) | refine dk (by kernel_rfl) ?_ | (refine qx (call_L (N' := [0]) (L := []) (k) rfl (.cons (.nm rfl) (.cons (.nm rfl) (.nil))) (by decide) (by decide) (by decide) (by simp only [go_sem, jE, reduceIte, jA, jM, jS, jL, jD, jB]; first | done | rfl) (.inl rfl) rfl (by decide)) (by simp only [go_sem, jE, reduceIte, jA, jM, jS, jL, jD, jB]; first | done | rfl) rfl (by simp only [go_sem, Nat.reduceLT]) ?_; simp only [go_sem, jE, reduceIte, jA, jM, jS, jL, jD, jB]))
  refine Aw.rw (rwL (l' := [(4, .t (iT (pickV b p 6 : Nat))), (3, .t (sT zs)), (0, .t (.c (.ph 0 0 0)))]) (os := [some (rdO b (p + 1))]) (M := [0]) (n' := 1) (by repeat (first | exact trivial | refine ⟨rfl, rfl, ?_⟩)) (by rfl) (by simp only [go_sem, jE, reduceIte, jA, jM, jS, jL, jD, jB]; first | done | rfl) (by decide) (by unfold idM; decide)) ?_
  refine Aw_loop_rw (ι := KyI b p) (fun q => S [(4, .t (iT (q.n : Nat))), (3, .t (sT q.s)), (0, .t (.c (.ph 0 0 0)))] (hpL [some (rdO b q.p)]) 1) (fun q => q.n) ⟨pickV b p 6, zs, p + 1, by omega, by show 0 + _ ≤ _; omega, by omega, rfl⟩ ?_
  rintro ⟨n, s, q, hn, hs, hq, h⟩
  dsimp only
  rcases n with _ | n
  · have g1 : decide ((0 : Int) < ((0 : Nat) : Int)) = false := rfl
    rw [← h]
    repeat (first | apply Aw_seq | apply Aw_block | apply Aw_skip | apply Aw_exit | refine Aw_condt rfl ?_ | refine Aw_condf rfl ?_ | ((first | refine qr ?_ | refine qd (by kernel_rfl) (by kernel_rfl) ?_); simp only [go_sem, jE, reduceIte, jA, jM, jS, jL, jD, jB, g1]) | refine dk (by kernel_rfl) ?_)
    exact Aw_ret (retL (M := [0]) (.inl rfl) (by simp only [go_sem, jE, reduceIte, jA, jM, jS, jL, jD, jB]; first | done | rfl) rfl rfl (by rfl) (by simp only [go_sem, jE, reduceIte, jA, jM, jS, jL, jD, jB, keyL]; first | done | rfl | (and_intros <;> rfl)) (by decide) (by unfold idM; decide))
  · have g1 : decide ((0 : Int) < ((n + 1 : Nat) : Int)) = true := decide_eq_true (by omega)
    have w1 : IntKind.i64.wrap (((n + 1 : Nat) : Int) - 1) = (n : Int) := wn (by omega) (by omega)
    have ko : AC Tryz.prog 140 [.c (.ph 0 0 0), .c (.h 1)] (hpL [some (rdO b q), some (kRow [bs [97], bs [98], bs [97], bs [99], bs [100]])]) 2 ⟨.t (sT (ofV b q five)), hpL [some (rdO b (q + 1)), none], 2⟩ := of_ac (l := five) hb (show q ≤ 1000000 by omega) (by decide) (by decide)
    have e5 := five_size (ofV_mem (l := five) hb (show q ≤ 1000000 by omega) (by decide) (by decide))
    have gs : (s.size + (ofV b q five).size ≤ 9223372036854775807) = True := eq_true (by rw [e5]; omega)
    have hs2 : (s ++ ofV b q five).size = s.size + 1 := by rw [ByteArray.size_append, e5]
    repeat (first | apply Aw_seq | apply Aw_block | apply Aw_skip | apply Aw_exit | refine Aw_condt rfl ?_ | refine Aw_condf rfl ?_ | ((first | refine qr ?_ | refine qd (by kernel_rfl) (by kernel_rfl) ?_); simp only [go_sem, jE, reduceIte, jA, jM, jS, jL, jD, jB, g1, w1, gs]) | refine dk (by kernel_rfl) ?_ | (refine qx (call_L (N' := [0, 5]) (L := []) (ko) rfl (.cons (.nm rfl) (.cons (.nm rfl) (.nil))) (by decide) (by decide) (by decide) (by simp only [go_sem, jE, reduceIte, jA, jM, jS, jL, jD, jB, g1, w1, gs]; first | done | rfl) (.inl rfl) rfl (by decide)) (by simp only [go_sem, jE, reduceIte, jA, jM, jS, jL, jD, jB, g1, w1, gs]; first | done | rfl) rfl (by simp only [go_sem, Nat.reduceLT]) ?_; simp only [go_sem, jE, reduceIte, jA, jM, jS, jL, jD, jB, g1, w1, gs]))
    refine ⟨⟨n, s ++ ofV b q five, q + 1, by omega, by rw [hs2]; omega, by omega, h⟩, [0], ?_, rwL (by repeat (first | exact trivial | refine ⟨rfl, rfl, ?_⟩)) (by rfl) (by simp only [go_sem, jE, reduceIte, jA, jM, jS, jL, jD, jB]; first | done | rfl) (by decide) (by unfold idM; decide)⟩
    show n < n + 1; omega
noncomputable def nearV (b : List Int) (p : Nat) (l : List ByteArray) : ByteArray × Nat :=
  if l.length = 0 then keyV b p else if pickV b p 4 = 0 then keyV b (p + 1) else
    let k := ofV b (p + 1) l
    if pickV b (p + 2) 4 = 0 then (k.extract 0 (pickV b (p + 3) ((k.size + 1 : Nat) : Int)), p + 4)
    else if pickV b (p + 2) 4 = 1 then (if k.size < 5 then (k ++ ofV b (p + 3) three, p + 4) else (k, p + 3)) else (k, p + 3)
theorem nearV_fin {b : List Int} (hb : byteL b) {p K : Nat} {l : List ByteArray} (hp : p ≤ 800000) (hl : l.length ≤ 10000) (hK : 5 ≤ K) (hs : ∀ s ∈ l, s.size ≤ K) : (nearV b p l).1.size ≤ K ∧ (nearV b p l).2 ≤ p + 7 := by
  unfold nearV
  split
  · have := keyV_fin hb (show p ≤ 900000 by omega); omega
  split
  · have := keyV_fin hb (show p + 1 ≤ 900000 by omega); omega
  have hk := hs _ (ofV_mem (l := l) hb (show p + 1 ≤ 1000000 by omega) (by omega) hl)
  dsimp only
  split
  · exact ⟨by rw [ByteArray.size_extract]; omega, by dsimp only; omega⟩
  split
  · split
    · have h3 := three_size (ofV_mem (l := three) hb (show p + 3 ≤ 1000000 by omega) (by decide) (by decide))
      exact ⟨by rw [ByteArray.size_append, h3]; omega, by dsimp only; omega⟩
    · exact ⟨hk, by dsimp only; omega⟩
  · exact ⟨hk, by dsimp only; omega⟩
theorem l71Near_ac {b : List Int} {p : Nat} {l : List ByteArray} (hb : byteL b) (hp : p ≤ 800000) (hl : l.length ≤ 10000) (hs : ∀ s ∈ l, s.size ≤ 1000000) : AC Tryz.prog 90 [.c (.ph 0 0 0), strsT l] (hpL [some (rdO b p)]) 1 ⟨.t (sT (nearV b p l).1), hpL [some (rdO b (nearV b p l).2)], 1⟩ := by
  by_cases c0 : l.length = 0
  · have e : nearV b p l = keyV b p := by unfold nearV; rw [if_pos c0]
    have g0 : decide (((l.length : Nat) : Int) = 0) = true := decide_eq_true (by omega)
    have kk := l71Key_ac hb (show p ≤ 900000 by omega)
    rw [e]
    refine AC_of Tryz.func90 rfl Tryz.ntmps90 Tryz.results90 (by kernel_rfl) rfl ?_
    simp only [List.zipIdx, List.map, Nat.zero_add, Nat.reduceAdd]
    repeat (first | apply Aw_seq | apply Aw_block | apply Aw_skip | apply Aw_exit | refine Aw_condt rfl ?_ | refine Aw_condf rfl ?_ | ((first | refine qr ?_ | refine qd (by kernel_rfl) (by kernel_rfl) ?_); simp only [go_sem, jE, reduceIte, jA, jM, jS, jL, jD, jB, g0]) | refine dk (by kernel_rfl) ?_ | (refine qx (call_L (N' := [0]) (L := []) (kk) rfl (.cons (.nm rfl) (.nil)) (by decide) (by decide) (by decide) (by simp only [go_sem, jE, reduceIte, jA, jM, jS, jL, jD, jB, g0]; first | done | rfl) (.inl rfl) rfl (by decide)) (by simp only [go_sem, jE, reduceIte, jA, jM, jS, jL, jD, jB, g0]; first | done | rfl) rfl (by simp only [go_sem, Nat.reduceLT]) ?_; simp only [go_sem, jE, reduceIte, jA, jM, jS, jL, jD, jB, g0]))
    exact Aw_ret (retL (M := [0]) (.inl rfl) (by simp only [go_sem, jE, reduceIte, jA, jM, jS, jL, jD, jB]; first | done | rfl) rfl rfl (by rfl) (by simp only [go_sem, jE, reduceIte, jA, jM, jS, jL, jD, jB]; first | done | rfl | (and_intros <;> rfl)) (by decide) (by unfold idM; decide))
  have g0 : decide (((l.length : Nat) : Int) = 0) = false := decide_eq_false (by omega)
  have k1 := pickV_ac (n := 4) hb (show p ≤ 1000000 by omega) (by omega)
  by_cases c1 : pickV b p 4 = 0
  · have e : nearV b p l = keyV b (p + 1) := by unfold nearV; rw [if_neg c0, if_pos c1]
    have kk := l71Key_ac hb (show p + 1 ≤ 900000 by omega)
    have g1 : decide (((pickV b p 4 : Nat) : Int) = 0) = true := decide_eq_true (by omega)
    rw [e]
    refine AC_of Tryz.func90 rfl Tryz.ntmps90 Tryz.results90 (by kernel_rfl) rfl ?_
    simp only [List.zipIdx, List.map, Nat.zero_add, Nat.reduceAdd]
    repeat (first | apply Aw_seq | apply Aw_block | apply Aw_skip | apply Aw_exit | refine Aw_condt rfl ?_ | refine Aw_condf rfl ?_ | ((first | refine qr ?_ | refine qd (by kernel_rfl) (by kernel_rfl) ?_); simp only [go_sem, jE, reduceIte, jA, jM, jS, jL, jD, jB, g0, g1]) | refine dk (by kernel_rfl) ?_ | (refine qx (call_L (N' := [0]) (L := []) (k1) rfl (.cons (.nm rfl) (.cons (.nm rfl) (.nil))) (by decide) (by decide) (by decide) (by simp only [go_sem, jE, reduceIte, jA, jM, jS, jL, jD, jB, g0, g1]; first | done | rfl) (.inl rfl) rfl (by decide)) (by simp only [go_sem, jE, reduceIte, jA, jM, jS, jL, jD, jB, g0, g1]; first | done | rfl) rfl (by simp only [go_sem, Nat.reduceLT]) ?_; simp only [go_sem, jE, reduceIte, jA, jM, jS, jL, jD, jB, g0, g1]) | (refine qx (call_L (N' := [0]) (L := []) (kk) rfl (.cons (.nm rfl) (.nil)) (by decide) (by decide) (by decide) (by simp only [go_sem, jE, reduceIte, jA, jM, jS, jL, jD, jB, g0, g1]; first | done | rfl) (.inl rfl) rfl (by decide)) (by simp only [go_sem, jE, reduceIte, jA, jM, jS, jL, jD, jB, g0, g1]; first | done | rfl) rfl (by simp only [go_sem, Nat.reduceLT]) ?_; simp only [go_sem, jE, reduceIte, jA, jM, jS, jL, jD, jB, g0, g1]))
    exact Aw_ret (retL (M := [0]) (.inl rfl) (by simp only [go_sem, jE, reduceIte, jA, jM, jS, jL, jD, jB]; first | done | rfl) rfl rfl (by rfl) (by simp only [go_sem, jE, reduceIte, jA, jM, jS, jL, jD, jB]; first | done | rfl | (and_intros <;> rfl)) (by decide) (by unfold idM; decide))
  have g1 : decide (((pickV b p 4 : Nat) : Int) = 0) = false := decide_eq_false (by omega)
  have k2 := pickV_ac (n := (l.length : Int)) hb (show p + 1 ≤ 1000000 by omega) (by omega)
  have k3 := pickV_ac (n := 4) hb (show p + 1 + 1 ≤ 1000000 by omega) (by omega)
  have hx := ofV_at hb (show p + 1 ≤ 1000000 by omega) (show 0 < l.length by omega) hl
  obtain ⟨k, hk⟩ : ∃ k, k = ofV b (p + 1) l := ⟨_, rfl⟩
  rw [← hk] at hx
  have hks := hs k (List.mem_of_getElem? hx)
  by_cases c2 : pickV b (p + 1 + 1) 4 = 0
  · have e : nearV b p l = (k.extract 0 (pickV b (p + 1 + 1 + 1) ((k.size + 1 : Nat) : Int)), p + 4) := by unfold nearV; rw [if_neg c0, if_neg c1]; dsimp only; rw [if_pos c2, ← hk]
    have g2 : decide (((pickV b (p + 1 + 1) 4 : Nat) : Int) = 0) = true := decide_eq_true (by omega)
    have w1 : IntKind.i64.wrap ((k.size : Int) + 1) = ((k.size + 1 : Nat) : Int) := wn (by omega) (by omega)
    have k4 := pickV_ac (n := ((k.size + 1 : Nat) : Int)) hb (show p + 1 + 1 + 1 ≤ 1000000 by omega) (by omega)
    have h4 := pickV_lt (n := ((k.size + 1 : Nat) : Int)) hb (show p + 1 + 1 + 1 ≤ 1000000 by omega) (by omega) (by omega)
    have s1 : ((0 : Int) ≤ ((pickV b (p + 1 + 1 + 1) ((k.size + 1 : Nat) : Int) : Nat) : Int)) = True := eq_true (by omega)
    have s2 : (((pickV b (p + 1 + 1 + 1) ((k.size + 1 : Nat) : Int) : Nat) : Int) ≤ (k.size : Int)) = True := eq_true (by omega)
    have s3 : Int.toNat ((pickV b (p + 1 + 1 + 1) ((k.size + 1 : Nat) : Int) : Nat) : Int) = pickV b (p + 1 + 1 + 1) ((k.size + 1 : Nat) : Int) := rfl
    have s4 : Int.toNat 0 = 0 := rfl
    rw [e]
    refine AC_of Tryz.func90 rfl Tryz.ntmps90 Tryz.results90 (by kernel_rfl) rfl ?_
    simp only [List.zipIdx, List.map, Nat.zero_add, Nat.reduceAdd]
    repeat (first | apply Aw_seq | apply Aw_block | apply Aw_skip | apply Aw_exit | refine Aw_condt rfl ?_ | refine Aw_condf rfl ?_ | ((first | refine qr ?_ | refine qd (by kernel_rfl) (by kernel_rfl) ?_); simp only [go_sem, jE, reduceIte, jA, jM, jS, jL, jD, jB, g0, g1, hx, g2, w1, s1, s2, s3, s4]) | refine dk (by kernel_rfl) ?_ | (refine qx (call_L (N' := [0]) (L := []) (k1) rfl (.cons (.nm rfl) (.cons (.nm rfl) (.nil))) (by decide) (by decide) (by decide) (by simp only [go_sem, jE, reduceIte, jA, jM, jS, jL, jD, jB, g0, g1, hx, g2, w1, s1, s2, s3, s4]; first | done | rfl) (.inl rfl) rfl (by decide)) (by simp only [go_sem, jE, reduceIte, jA, jM, jS, jL, jD, jB, g0, g1, hx, g2, w1, s1, s2, s3, s4]; first | done | rfl) rfl (by simp only [go_sem, Nat.reduceLT]) ?_; simp only [go_sem, jE, reduceIte, jA, jM, jS, jL, jD, jB, g0, g1, hx, g2, w1, s1, s2, s3, s4]) | (refine qx (call_L (N' := [0]) (L := []) (k2) rfl (.cons (.nm rfl) (.cons (.nm rfl) (.nil))) (by decide) (by decide) (by decide) (by simp only [go_sem, jE, reduceIte, jA, jM, jS, jL, jD, jB, g0, g1, hx, g2, w1, s1, s2, s3, s4]; first | done | rfl) (.inl rfl) rfl (by decide)) (by simp only [go_sem, jE, reduceIte, jA, jM, jS, jL, jD, jB, g0, g1, hx, g2, w1, s1, s2, s3, s4]; first | done | rfl) rfl (by simp only [go_sem, Nat.reduceLT]) ?_; simp only [go_sem, jE, reduceIte, jA, jM, jS, jL, jD, jB, g0, g1, hx, g2, w1, s1, s2, s3, s4]) | (refine qx (call_L (N' := [0]) (L := []) (k3) rfl (.cons (.nm rfl) (.cons (.nm rfl) (.nil))) (by decide) (by decide) (by decide) (by simp only [go_sem, jE, reduceIte, jA, jM, jS, jL, jD, jB, g0, g1, hx, g2, w1, s1, s2, s3, s4]; first | done | rfl) (.inl rfl) rfl (by decide)) (by simp only [go_sem, jE, reduceIte, jA, jM, jS, jL, jD, jB, g0, g1, hx, g2, w1, s1, s2, s3, s4]; first | done | rfl) rfl (by simp only [go_sem, Nat.reduceLT]) ?_; simp only [go_sem, jE, reduceIte, jA, jM, jS, jL, jD, jB, g0, g1, hx, g2, w1, s1, s2, s3, s4]) | (refine qx (call_L (N' := [0]) (L := []) (k4) rfl (.cons (.nm rfl) (.cons (.nm rfl) (.nil))) (by decide) (by decide) (by decide) (by simp only [go_sem, jE, reduceIte, jA, jM, jS, jL, jD, jB, g0, g1, hx, g2, w1, s1, s2, s3, s4]; first | done | rfl) (.inl rfl) rfl (by decide)) (by simp only [go_sem, jE, reduceIte, jA, jM, jS, jL, jD, jB, g0, g1, hx, g2, w1, s1, s2, s3, s4]; first | done | rfl) rfl (by simp only [go_sem, Nat.reduceLT]) ?_; simp only [go_sem, jE, reduceIte, jA, jM, jS, jL, jD, jB, g0, g1, hx, g2, w1, s1, s2, s3, s4]))
    exact Aw_ret (retL (M := [0]) (.inl rfl) (by simp only [go_sem, jE, reduceIte, jA, jM, jS, jL, jD, jB]; first | done | rfl) rfl rfl (by rfl) (by simp only [go_sem, jE, reduceIte, jA, jM, jS, jL, jD, jB]; first | done | rfl | (and_intros <;> rfl)) (by decide) (by unfold idM; decide))
  have g2 : decide (((pickV b (p + 1 + 1) 4 : Nat) : Int) = 0) = false := decide_eq_false (by omega)
  by_cases c3 : pickV b (p + 1 + 1) 4 = 1
  · have g3 : decide (((pickV b (p + 1 + 1) 4 : Nat) : Int) = 1) = true := decide_eq_true (by omega)
    by_cases c4 : k.size < 5
    · have e : nearV b p l = (k ++ ofV b (p + 1 + 1 + 1) three, p + 4) := by unfold nearV; rw [if_neg c0, if_neg c1]; dsimp only; rw [if_neg c2, if_pos c3, ← hk, if_pos c4]
      have g4 : decide ((k.size : Int) < 5) = true := decide_eq_true (by omega)
      have e3 := three_size (ofV_mem (l := three) hb (show p + 1 + 1 + 1 ≤ 1000000 by omega) (by decide) (by decide))
      have gs : (k.size + (ofV b (p + 1 + 1 + 1) three).size ≤ 9223372036854775807) = True := eq_true (by rw [e3]; omega)
      have ko : AC Tryz.prog 140 [.c (.ph 0 0 0), .c (.h 1)] (hpL [some (rdO b (p + 1 + 1 + 1)), some (kRow [bs [97], bs [98], bs [100]])]) 2 ⟨.t (sT (ofV b (p + 1 + 1 + 1) three)), hpL [some (rdO b (p + 1 + 1 + 1 + 1)), none], 2⟩ := of_ac (l := three) hb (show p + 1 + 1 + 1 ≤ 1000000 by omega) (by decide) (by decide)
      rw [e]
      refine AC_of Tryz.func90 rfl Tryz.ntmps90 Tryz.results90 (by kernel_rfl) rfl ?_
      simp only [List.zipIdx, List.map, Nat.zero_add, Nat.reduceAdd]
      repeat (first | apply Aw_seq | apply Aw_block | apply Aw_skip | apply Aw_exit | refine Aw_condt rfl ?_ | refine Aw_condf rfl ?_ | ((first | refine qr ?_ | refine qd (by kernel_rfl) (by kernel_rfl) ?_); simp only [go_sem, jE, reduceIte, jA, jM, jS, jL, jD, jB, g0, g1, hx, g2, g3, g4, gs]) | refine dk (by kernel_rfl) ?_ | (refine qx (call_L (N' := [0]) (L := []) (k1) rfl (.cons (.nm rfl) (.cons (.nm rfl) (.nil))) (by decide) (by decide) (by decide) (by simp only [go_sem, jE, reduceIte, jA, jM, jS, jL, jD, jB, g0, g1, hx, g2, g3, g4, gs]; first | done | rfl) (.inl rfl) rfl (by decide)) (by simp only [go_sem, jE, reduceIte, jA, jM, jS, jL, jD, jB, g0, g1, hx, g2, g3, g4, gs]; first | done | rfl) rfl (by simp only [go_sem, Nat.reduceLT]) ?_; simp only [go_sem, jE, reduceIte, jA, jM, jS, jL, jD, jB, g0, g1, hx, g2, g3, g4, gs]) | (refine qx (call_L (N' := [0]) (L := []) (k2) rfl (.cons (.nm rfl) (.cons (.nm rfl) (.nil))) (by decide) (by decide) (by decide) (by simp only [go_sem, jE, reduceIte, jA, jM, jS, jL, jD, jB, g0, g1, hx, g2, g3, g4, gs]; first | done | rfl) (.inl rfl) rfl (by decide)) (by simp only [go_sem, jE, reduceIte, jA, jM, jS, jL, jD, jB, g0, g1, hx, g2, g3, g4, gs]; first | done | rfl) rfl (by simp only [go_sem, Nat.reduceLT]) ?_; simp only [go_sem, jE, reduceIte, jA, jM, jS, jL, jD, jB, g0, g1, hx, g2, g3, g4, gs]) | (refine qx (call_L (N' := [0]) (L := []) (k3) rfl (.cons (.nm rfl) (.cons (.nm rfl) (.nil))) (by decide) (by decide) (by decide) (by simp only [go_sem, jE, reduceIte, jA, jM, jS, jL, jD, jB, g0, g1, hx, g2, g3, g4, gs]; first | done | rfl) (.inl rfl) rfl (by decide)) (by simp only [go_sem, jE, reduceIte, jA, jM, jS, jL, jD, jB, g0, g1, hx, g2, g3, g4, gs]; first | done | rfl) rfl (by simp only [go_sem, Nat.reduceLT]) ?_; simp only [go_sem, jE, reduceIte, jA, jM, jS, jL, jD, jB, g0, g1, hx, g2, g3, g4, gs]) | (refine qx (call_L (N' := [0, 26]) (L := []) (ko) rfl (.cons (.nm rfl) (.cons (.nm rfl) (.nil))) (by decide) (by decide) (by decide) (by simp only [go_sem, jE, reduceIte, jA, jM, jS, jL, jD, jB, g0, g1, hx, g2, g3, g4, gs]; first | done | rfl) (.inl rfl) rfl (by decide)) (by simp only [go_sem, jE, reduceIte, jA, jM, jS, jL, jD, jB, g0, g1, hx, g2, g3, g4, gs]; first | done | rfl) rfl (by simp only [go_sem, Nat.reduceLT]) ?_; simp only [go_sem, jE, reduceIte, jA, jM, jS, jL, jD, jB, g0, g1, hx, g2, g3, g4, gs]))
      exact Aw_ret (retL (M := [0]) (.inl rfl) (by simp only [go_sem, jE, reduceIte, jA, jM, jS, jL, jD, jB]; first | done | rfl) rfl rfl (by rfl) (by simp only [go_sem, jE, reduceIte, jA, jM, jS, jL, jD, jB]; first | done | rfl | (and_intros <;> rfl)) (by decide) (by unfold idM; decide))
    · have e : nearV b p l = (k, p + 3) := by unfold nearV; rw [if_neg c0, if_neg c1]; dsimp only; rw [if_neg c2, if_pos c3, ← hk, if_neg c4]
      have g4 : decide ((k.size : Int) < 5) = false := decide_eq_false (by omega)
      rw [e]
      refine AC_of Tryz.func90 rfl Tryz.ntmps90 Tryz.results90 (by kernel_rfl) rfl ?_
      simp only [List.zipIdx, List.map, Nat.zero_add, Nat.reduceAdd]
      repeat (first | apply Aw_seq | apply Aw_block | apply Aw_skip | apply Aw_exit | refine Aw_condt rfl ?_ | refine Aw_condf rfl ?_ | ((first | refine qr ?_ | refine qd (by kernel_rfl) (by kernel_rfl) ?_); simp only [go_sem, jE, reduceIte, jA, jM, jS, jL, jD, jB, g0, g1, hx, g2, g3, g4]) | refine dk (by kernel_rfl) ?_ | (refine qx (call_L (N' := [0]) (L := []) (k1) rfl (.cons (.nm rfl) (.cons (.nm rfl) (.nil))) (by decide) (by decide) (by decide) (by simp only [go_sem, jE, reduceIte, jA, jM, jS, jL, jD, jB, g0, g1, hx, g2, g3, g4]; first | done | rfl) (.inl rfl) rfl (by decide)) (by simp only [go_sem, jE, reduceIte, jA, jM, jS, jL, jD, jB, g0, g1, hx, g2, g3, g4]; first | done | rfl) rfl (by simp only [go_sem, Nat.reduceLT]) ?_; simp only [go_sem, jE, reduceIte, jA, jM, jS, jL, jD, jB, g0, g1, hx, g2, g3, g4]) | (refine qx (call_L (N' := [0]) (L := []) (k2) rfl (.cons (.nm rfl) (.cons (.nm rfl) (.nil))) (by decide) (by decide) (by decide) (by simp only [go_sem, jE, reduceIte, jA, jM, jS, jL, jD, jB, g0, g1, hx, g2, g3, g4]; first | done | rfl) (.inl rfl) rfl (by decide)) (by simp only [go_sem, jE, reduceIte, jA, jM, jS, jL, jD, jB, g0, g1, hx, g2, g3, g4]; first | done | rfl) rfl (by simp only [go_sem, Nat.reduceLT]) ?_; simp only [go_sem, jE, reduceIte, jA, jM, jS, jL, jD, jB, g0, g1, hx, g2, g3, g4]) | (refine qx (call_L (N' := [0]) (L := []) (k3) rfl (.cons (.nm rfl) (.cons (.nm rfl) (.nil))) (by decide) (by decide) (by decide) (by simp only [go_sem, jE, reduceIte, jA, jM, jS, jL, jD, jB, g0, g1, hx, g2, g3, g4]; first | done | rfl) (.inl rfl) rfl (by decide)) (by simp only [go_sem, jE, reduceIte, jA, jM, jS, jL, jD, jB, g0, g1, hx, g2, g3, g4]; first | done | rfl) rfl (by simp only [go_sem, Nat.reduceLT]) ?_; simp only [go_sem, jE, reduceIte, jA, jM, jS, jL, jD, jB, g0, g1, hx, g2, g3, g4]))
      exact Aw_ret (retL (M := [0]) (.inl rfl) (by simp only [go_sem, jE, reduceIte, jA, jM, jS, jL, jD, jB]; first | done | rfl) rfl rfl (by rfl) (by simp only [go_sem, jE, reduceIte, jA, jM, jS, jL, jD, jB]; first | done | rfl | (and_intros <;> rfl)) (by decide) (by unfold idM; decide))
  · have g3 : decide (((pickV b (p + 1 + 1) 4 : Nat) : Int) = 1) = false := decide_eq_false (by omega)
    have e : nearV b p l = (k, p + 3) := by unfold nearV; rw [if_neg c0, if_neg c1]; dsimp only; rw [if_neg c2, if_neg c3, ← hk]
    rw [e]
    refine AC_of Tryz.func90 rfl Tryz.ntmps90 Tryz.results90 (by kernel_rfl) rfl ?_
    simp only [List.zipIdx, List.map, Nat.zero_add, Nat.reduceAdd]
    repeat (first | apply Aw_seq | apply Aw_block | apply Aw_skip | apply Aw_exit | refine Aw_condt rfl ?_ | refine Aw_condf rfl ?_ | ((first | refine qr ?_ | refine qd (by kernel_rfl) (by kernel_rfl) ?_); simp only [go_sem, jE, reduceIte, jA, jM, jS, jL, jD, jB, g0, g1, hx, g2, g3]) | refine dk (by kernel_rfl) ?_ | (refine qx (call_L (N' := [0]) (L := []) (k1) rfl (.cons (.nm rfl) (.cons (.nm rfl) (.nil))) (by decide) (by decide) (by decide) (by simp only [go_sem, jE, reduceIte, jA, jM, jS, jL, jD, jB, g0, g1, hx, g2, g3]; first | done | rfl) (.inl rfl) rfl (by decide)) (by simp only [go_sem, jE, reduceIte, jA, jM, jS, jL, jD, jB, g0, g1, hx, g2, g3]; first | done | rfl) rfl (by simp only [go_sem, Nat.reduceLT]) ?_; simp only [go_sem, jE, reduceIte, jA, jM, jS, jL, jD, jB, g0, g1, hx, g2, g3]) | (refine qx (call_L (N' := [0]) (L := []) (k2) rfl (.cons (.nm rfl) (.cons (.nm rfl) (.nil))) (by decide) (by decide) (by decide) (by simp only [go_sem, jE, reduceIte, jA, jM, jS, jL, jD, jB, g0, g1, hx, g2, g3]; first | done | rfl) (.inl rfl) rfl (by decide)) (by simp only [go_sem, jE, reduceIte, jA, jM, jS, jL, jD, jB, g0, g1, hx, g2, g3]; first | done | rfl) rfl (by simp only [go_sem, Nat.reduceLT]) ?_; simp only [go_sem, jE, reduceIte, jA, jM, jS, jL, jD, jB, g0, g1, hx, g2, g3]) | (refine qx (call_L (N' := [0]) (L := []) (k3) rfl (.cons (.nm rfl) (.cons (.nm rfl) (.nil))) (by decide) (by decide) (by decide) (by simp only [go_sem, jE, reduceIte, jA, jM, jS, jL, jD, jB, g0, g1, hx, g2, g3]; first | done | rfl) (.inl rfl) rfl (by decide)) (by simp only [go_sem, jE, reduceIte, jA, jM, jS, jL, jD, jB, g0, g1, hx, g2, g3]; first | done | rfl) rfl (by simp only [go_sem, Nat.reduceLT]) ?_; simp only [go_sem, jE, reduceIte, jA, jM, jS, jL, jD, jB, g0, g1, hx, g2, g3]))
    exact Aw_ret (retL (M := [0]) (.inl rfl) (by simp only [go_sem, jE, reduceIte, jA, jM, jS, jL, jD, jB]; first | done | rfl) rfl rfl (by rfl) (by simp only [go_sem, jE, reduceIte, jA, jM, jS, jL, jD, jB]; first | done | rfl | (and_intros <;> rfl)) (by decide) (by unfold idM; decide))
noncomputable def keysL (b : List Int) : Nat → List ByteArray → Nat → List ByteArray × Nat
  | 0, l, p => (l, p)
  | n + 1, l, p => keysL b n (putK l (nearV b p l).1) (nearV b p l).2
noncomputable def keysV (b : List Int) (p : Nat) (most : Nat) : List ByteArray × Nat := keysL b (pickV b p ((most + 1 : Nat) : Int)) [] (p + 1)
theorem keysL_fin {b : List Int} (hb : byteL b) : ∀ (n : Nat) (l : List ByteArray) (p : Nat), p + 7 * n ≤ 700000 → l.length + n ≤ 1000 → (∀ s ∈ l, s.size ≤ 5) → (keysL b n l p).1.length ≤ l.length + n ∧ (∀ s ∈ (keysL b n l p).1, s.size ≤ 5) ∧ (keysL b n l p).2 ≤ p + 7 * n
  | 0, l, p, _, _, h => ⟨by simp [keysL], h, by simp [keysL]⟩
  | n + 1, l, p, h1, h2, h3 => by
    obtain ⟨a1, a2⟩ := nearV_fin hb (p := p) (K := 5) (l := l) (by omega) (by omega) (by omega) h3
    obtain ⟨b1, b2⟩ := putK_mem (ks := l) (k := (nearV b p l).1)
    obtain ⟨c1, c2, c3⟩ := keysL_fin hb n (putK l (nearV b p l).1) (nearV b p l).2 (by omega) (by omega) (fun s hs => by
      rcases b1 s hs with h | h
      · exact h3 s h
      · rw [h]; exact a1)
    exact ⟨by simp only [keysL]; omega, by simp only [keysL]; exact c2, by simp only [keysL]; omega⟩
theorem keysV_fin {b : List Int} (hb : byteL b) {p most : Nat} (hp : p ≤ 600000) (hm : most ≤ 100) : (keysV b p most).1.length ≤ most ∧ (∀ s ∈ (keysV b p most).1, s.size ≤ 5) ∧ (keysV b p most).2 ≤ p + 1 + 7 * most := by
  have h := pickV_lt (n := ((most + 1 : Nat) : Int)) hb (show p ≤ 1000000 by omega) (by omega) (by omega)
  obtain ⟨h1, h2, h3⟩ := keysL_fin hb (pickV b p ((most + 1 : Nat) : Int)) [] (p + 1) (by omega) (by show 0 + _ ≤ _; omega) (by simp)
  unfold keysV
  rw [show ([] : List ByteArray).length = 0 from rfl] at h1
  exact ⟨by omega, h2, by omega⟩
structure KsI (b : List Int) (p0 most : Nat) where
  n : Nat
  l : List ByteArray
  p : Nat
  hn : l.length + n ≤ 1000
  hs : ∀ s ∈ l, s.size ≤ 5
  hp : p + 7 * n ≤ 700000
  h : keysL b n l p = keysV b p0 most
theorem l71Keys_ac {b : List Int} {p most : Nat} (hb : byteL b) (hp : p ≤ 600000) (hm : most ≤ 100) : AC Tryz.prog 105 [.c (.ph 0 0 0), iT most] (hpL [some (rdO b p)]) 1 ⟨.t (strsT (keysV b p most).1), hpL [some (rdO b (keysV b p most).2)], 1⟩ := by
  refine AC_of Tryz.func105 rfl Tryz.ntmps105 Tryz.results105 (by kernel_rfl) rfl ?_
  simp only [List.zipIdx, List.map, Nat.zero_add, Nat.reduceAdd]
  have w0 : IntKind.i64.wrap ((most : Int) + 1) = ((most + 1 : Nat) : Int) := wn (by omega) (by omega)
  have k := pickV_ac (n := ((most + 1 : Nat) : Int)) hb (show p ≤ 1000000 by omega) (by omega)
  have h6 := pickV_lt (n := ((most + 1 : Nat) : Int)) hb (show p ≤ 1000000 by omega) (by omega) (by omega)
  repeat (first | apply Aw_seq | apply Aw_block | apply Aw_skip | apply Aw_exit | refine Aw_condt rfl ?_ | refine Aw_condf rfl ?_ | ((first | refine qr ?_ | refine qd (by kernel_rfl) (by kernel_rfl) ?_); simp only [go_sem, jE, reduceIte, jA, jM, jS, jL, jD, jB, w0]) | refine dk (by kernel_rfl) ?_ | (refine qx (call_L (N' := [0]) (L := []) (k) rfl (.cons (.nm rfl) (.cons (.nm rfl) (.nil))) (by decide) (by decide) (by decide) (by simp only [go_sem, jE, reduceIte, jA, jM, jS, jL, jD, jB, w0]; first | done | rfl) (.inl rfl) rfl (by decide)) (by simp only [go_sem, jE, reduceIte, jA, jM, jS, jL, jD, jB, w0]; first | done | rfl) rfl (by simp only [go_sem, Nat.reduceLT]) ?_; simp only [go_sem, jE, reduceIte, jA, jM, jS, jL, jD, jB, w0]))
  refine Aw.rw (rwL (l' := [(6, .t (iT (pickV b p ((most + 1 : Nat) : Int) : Nat))), (5, .t (.c (.h 1))), (0, .t (.c (.ph 0 0 0)))]) (os := [some (rdO b (p + 1)), some (kRow [])]) (M := [0, 2]) (n' := 2) (by repeat (first | exact trivial | refine ⟨rfl, rfl, ?_⟩)) (by rfl) (by simp only [go_sem, jE, reduceIte, jA, jM, jS, jL, jD, jB, List.map_nil]; first | done | rfl) (by decide) (by unfold idM; decide)) ?_
  refine Aw.setL (l' := [(6, .t (iT (pickV b p ((most + 1 : Nat) : Int) : Nat))), (5, .t (strsT [])), (0, .t (.c (.ph 0 0 0)))]) (os' := [some (rdO b (p + 1))]) (n' := 2) [1] (by repeat (first | exact trivial | refine ⟨SetA.same rfl, ?_⟩ | refine ⟨SetA.row rfl rfl (by decide), ?_⟩)) (by repeat (first | exact trivial | refine ⟨rfl, rfl, ?_⟩ | show SubL _ _ _ _)) (by decide) ?_
  refine Aw_loop_rw (ι := KsI b p most) (fun q => S [(6, .t (iT (q.n : Nat))), (5, .t (strsT q.l)), (0, .t (.c (.ph 0 0 0)))] (hpL [some (rdO b q.p)]) 2) (fun q => q.n) ⟨pickV b p ((most + 1 : Nat) : Int), [], p + 1, by show 0 + _ ≤ _; omega, by simp, by omega, rfl⟩ ?_
  rintro ⟨n, l, q, hn, hs, hq, h⟩
  dsimp only
  rcases n with _ | n
  · have g1 : decide ((0 : Int) < ((0 : Nat) : Int)) = false := rfl
    rw [← h]
    repeat (first | apply Aw_seq | apply Aw_block | apply Aw_skip | apply Aw_exit | refine Aw_condt rfl ?_ | refine Aw_condf rfl ?_ | ((first | refine qr ?_ | refine qd (by kernel_rfl) (by kernel_rfl) ?_); simp only [go_sem, jE, reduceIte, jA, jM, jS, jL, jD, jB, g1]) | refine dk (by kernel_rfl) ?_)
    exact Aw_ret (retL (M := [0]) (.inl rfl) (by simp only [go_sem, jE, reduceIte, jA, jM, jS, jL, jD, jB]; first | done | rfl) rfl rfl (by rfl) (by simp only [go_sem, jE, reduceIte, jA, jM, jS, jL, jD, jB, keysL]; first | done | rfl | (and_intros <;> rfl)) (by decide) (by unfold idM; decide))
  · have g1 : decide ((0 : Int) < ((n + 1 : Nat) : Int)) = true := decide_eq_true (by omega)
    have w1 : IntKind.i64.wrap (((n + 1 : Nat) : Int) - 1) = (n : Int) := wn (by omega) (by omega)
    have kn := l71Near_ac (l := l) hb (show q ≤ 800000 by omega) (by omega) (fun s h => by have := hs s h; omega)
    have kp := l2Put_ac l (nearV b q l).1 (by omega)
    obtain ⟨a1, a2⟩ := nearV_fin hb (p := q) (K := 5) (l := l) (by omega) (by omega) (by omega) hs
    obtain ⟨b1, b2⟩ := putK_mem (ks := l) (k := (nearV b q l).1)
    repeat (first | apply Aw_seq | apply Aw_block | apply Aw_skip | apply Aw_exit | refine Aw_condt rfl ?_ | refine Aw_condf rfl ?_ | ((first | refine qr ?_ | refine qd (by kernel_rfl) (by kernel_rfl) ?_); simp only [go_sem, jE, reduceIte, jA, jM, jS, jL, jD, jB, g1, w1]) | refine dk (by kernel_rfl) ?_ | (refine qp (kp) (by simp only [go_sem, jE, reduceIte, jA, jM, jS, jL, jD, jB, g1, w1]; first | done | rfl) rfl (by simp only [go_sem, Nat.reduceLT]) rfl rfl ?_; simp only [go_sem, jE, reduceIte, jA, jM, jS, jL, jD, jB, g1, w1]) | (refine qx (call_L (N' := [0]) (L := []) (kn) rfl (.cons (.nm rfl) (.cons (.nm rfl) (.nil))) (by decide) (by decide) (by decide) (by simp only [go_sem, jE, reduceIte, jA, jM, jS, jL, jD, jB, g1, w1]; first | done | rfl) (.inl rfl) rfl (by decide)) (by simp only [go_sem, jE, reduceIte, jA, jM, jS, jL, jD, jB, g1, w1]; first | done | rfl) rfl (by simp only [go_sem, Nat.reduceLT]) ?_; simp only [go_sem, jE, reduceIte, jA, jM, jS, jL, jD, jB, g1, w1]))
    refine ⟨⟨n, putK l (nearV b q l).1, (nearV b q l).2, by omega, fun s hs2 => (b1 s hs2).elim (hs s) (fun e => by rw [e]; exact a1), by omega, h⟩, [0], ?_, rwL (by repeat (first | exact trivial | refine ⟨rfl, rfl, ?_⟩)) (by rfl) (by simp only [go_sem, jE, reduceIte, jA, jM, jS, jL, jD, jB]; first | done | rfl) (by decide) (by unfold idM; decide)⟩
    show n < n + 1; omega
end Go.Proofs.YtjolcfkepcmjnaaGreat.Ab
