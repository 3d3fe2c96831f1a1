/-
  Contracts: a new store. No condition.
  Contracts: the store's check, both. No condition.
  The two checks of a store are one, in plain Lean. No condition.
  Contracts: runs that are joined, and trimmed, the reference's. No condition.
  Contracts: a run that is trimmed, the reference's. No condition.
  Contracts: a store anew, a level that is set, the reference's. No condition.
  Contract: a store anew, the reference's. No condition.
  Contracts: a run that is let into a level, the reference's. No condition.
  Contracts: the top that goes down, an entry that is added, the reference's. No condition.
  Contracts: an entry that is put, or a key that is taken away, the reference's. No condition.
  Contracts: what can be done to a store, the reference's. No condition.
  Contracts: a time that is held, or freed, the reference's. No condition.
-/
import Derived.Test.YtcbhgglpgphimaaWc
namespace Go.Proofs.Ytcbhgglpgphimaa.Ab
set_option linter.deprecated false
set_option linter.unusedVariables false
set_option linter.unusedSimpArgs false
open Go Go.Proofs
set_option maxRecDepth 10000
set_option maxHeartbeats 8000000
set_option linter.unusedSimpArgs false
set_option linter.unusedVariables false
def eSve (keep : Int) : Sve := ⟨zs, zs, zs, [], keep⟩
def eSto (keep : Int) : Sto := ⟨[], [[], [], []], [eSve keep, eSve keep, eSve keep], keep, 0, []⟩
def zSto : Sto := ⟨[], [], [], 0, 0, []⟩
theorem fork0 : Fork ([], 0) := ⟨by omega, .nil, by simp, by simp⟩
theorem subB {l L : List Nat} (h : l.all L.contains = true) : ∀ m ∈ l, m ∈ L := fun m hm => by simpa using List.all_eq_true.1 h m hm
theorem bfs0 (keep : Nat) : bfsF keep [([], 0)] = ⟨[], [], [], [], []⟩ := by
  have hn : node keep ([], 0) = zPut := by unfold node; rw [spl_nil]; rfl
  rw [bfsF_cons (by intro g hg; obtain rfl : g = ([], 0) := by simpa using hg
                    exact fork0), hn]
  rfl
theorem sieve0_ac (keep : Nat) (hk : keep ≤ 5) : AC Try.prog 63 [.c (.d (.s (.slice none 0 0))), iT keep] noHp 0 ⟨.t (.agg [.d (.s (.string zs)), .d (.s (.string zs)), .d (.s (.string zs)), .d (.rs 1 []), .d (.s (.int .i64 keep))]), noHp, 0⟩ := by
  have h := sieveOf_ac [] keep fork0 (by simp) hk
  rw [bfs0] at h
  exact AC.nilL (AC.settle0 [0] h (.cons (.inl rfl) (.cons (.inl rfl) (.cons (.inl rfl) (.cons (SetC.row0 rfl rfl) (.cons (.inl rfl) .nil))))) rfl) (.cons (NilC.nil 1) (.cons (NilT.refl _) .nil))
theorem storeNew_no (keep : Int) (hk : inB 0 keep 5 = false) : AC Try.prog 21 [iT keep] noHp 0 ⟨.tup [stT zSto, bT false], noHp, 0⟩ := by
  refine AC.nilR (x := .tup [.agg [.d (.s (.slice none 0 0)), .d (.s (.slice none 0 0)), .d (.s (.slice none 0 0)), .d (.s (.int .i64 0)), .d (.s (.int .i64 0)), .d (.s (.slice none 0 0))], bT false]) ?_ (.cons (.cons (NilC.nil _) (.cons (NilC.nil _) (.cons (NilC.nil _) (.cons (.inl rfl) (.cons (.inl rfl) (.cons (NilC.nil _) .nil)))))) (.cons (NilT.refl _) .nil))
  refine AC_of Try.func21 rfl Try.ntmps21 Try.results21 (by kernel_rfl) rfl ?_
  simp only [List.zipIdx, List.map, Nat.zero_add, Nat.reduceAdd]
  repeat (first | apply Aw_seq | apply Aw_block | apply Aw_skip | apply Aw_exit | refine Aw_condt rfl ?_ | refine Aw_condf rfl ?_ | (refine qr ?_; simp only [go_sem, Nat.reduceEqDiff, reduceIte, Nat.reduceAdd, Nat.reduceMul, Nat.reduceSub, Nat.reduceLT, Nat.reduceLeDiff, Nat.reduceBEq, hk]) | (refine qd (by kernel_rfl) (by kernel_rfl) ?_; simp only [go_sem, Nat.reduceEqDiff, reduceIte, Nat.reduceAdd, Nat.reduceMul, Nat.reduceSub, Nat.reduceLT, Nat.reduceLeDiff, Nat.reduceBEq, hk]) | refine dk (by kernel_rfl) ?_ | (refine qp (isKeep_ac _) (by simp only [go_sem, Nat.reduceEqDiff, reduceIte, Nat.reduceAdd, Nat.reduceMul, Nat.reduceSub, Nat.reduceLT, Nat.reduceLeDiff, Nat.reduceBEq, hk]; first | done | rfl) rfl (by simp only [go_sem, Nat.reduceLT]) rfl rfl ?_; simp only [go_sem, Nat.reduceEqDiff, reduceIte, Nat.reduceAdd, Nat.reduceMul, Nat.reduceSub, Nat.reduceLT, Nat.reduceLeDiff, Nat.reduceBEq, hk]))
  exact Aw_ret (ret0 (.inl rfl) (by simp only [go_sem, Nat.reduceEqDiff, reduceIte, Nat.reduceAdd, Nat.reduceMul, Nat.reduceSub, Nat.reduceLT, Nat.reduceLeDiff, Nat.reduceBEq]; rfl) (by rfl) rfl)
theorem sstoreNew_no (keep : Int) (hk : inB 0 keep 5 = false) : AC Try.prog 20 [iT keep] noHp 0 ⟨.tup [stT zSto, bT false], noHp, 0⟩ := by
  refine AC.nilR (x := .tup [.agg [.d (.s (.slice none 0 0)), .d (.s (.slice none 0 0)), .d (.s (.slice none 0 0)), .d (.s (.int .i64 0)), .d (.s (.int .i64 0)), .d (.s (.slice none 0 0))], bT false]) ?_ (.cons (.cons (NilC.nil _) (.cons (NilC.nil _) (.cons (NilC.nil _) (.cons (.inl rfl) (.cons (.inl rfl) (.cons (NilC.nil _) .nil)))))) (.cons (NilT.refl _) .nil))
  refine AC_of Try.func20 rfl Try.ntmps20 Try.results20 (by kernel_rfl) rfl ?_
  simp only [List.zipIdx, List.map, Nat.zero_add, Nat.reduceAdd]
  repeat (first | apply Aw_seq | apply Aw_block | apply Aw_skip | apply Aw_exit | refine Aw_condt rfl ?_ | refine Aw_condf rfl ?_ | (refine qr ?_; simp only [go_sem, Nat.reduceEqDiff, reduceIte, Nat.reduceAdd, Nat.reduceMul, Nat.reduceSub, Nat.reduceLT, Nat.reduceLeDiff, Nat.reduceBEq, hk]) | (refine qd (by kernel_rfl) (by kernel_rfl) ?_; simp only [go_sem, Nat.reduceEqDiff, reduceIte, Nat.reduceAdd, Nat.reduceMul, Nat.reduceSub, Nat.reduceLT, Nat.reduceLeDiff, Nat.reduceBEq, hk]) | refine dk (by kernel_rfl) ?_ | (refine qp (l6In_ac _ _ _) (by simp only [go_sem, Nat.reduceEqDiff, reduceIte, Nat.reduceAdd, Nat.reduceMul, Nat.reduceSub, Nat.reduceLT, Nat.reduceLeDiff, Nat.reduceBEq, hk]; first | done | rfl) rfl (by simp only [go_sem, Nat.reduceLT]) rfl rfl ?_; simp only [go_sem, Nat.reduceEqDiff, reduceIte, Nat.reduceAdd, Nat.reduceMul, Nat.reduceSub, Nat.reduceLT, Nat.reduceLeDiff, Nat.reduceBEq, hk]))
  exact Aw_ret (ret0 (.inl rfl) (by simp only [go_sem, Nat.reduceEqDiff, reduceIte, Nat.reduceAdd, Nat.reduceMul, Nat.reduceSub, Nat.reduceLT, Nat.reduceLeDiff, Nat.reduceBEq]; rfl) (by rfl) rfl)
theorem t3 : Int.toNat 3 = 3 := rfl
theorem c03 : ((0 : Int) ≤ 3) = True := eq_true (by omega)
theorem c3b : ((3 : Int) ≤ 140737488355328) = True := eq_true (by omega)
theorem rep3 (x : List CV) : List.replicate 3 x = [x, x, x] := rfl
theorem e03 : decide ((0 : Int) < 3) = true := rfl
theorem e13 : decide ((1 : Int) < 3) = true := rfl
theorem e23 : decide ((2 : Int) < 3) = true := rfl
theorem e33 : decide ((3 : Int) < 3) = false := rfl
theorem w01 : IntKind.i64.wrap (0 + 1) = 1 := rfl
theorem w12 : IntKind.i64.wrap (1 + 1) = 2 := rfl
theorem w23 : IntKind.i64.wrap (2 + 1) = 3 := rfl
theorem AC.setL {P : Program} {f : FuncId} {args : List TV} {hp : Hp} {k : Nat} {x y : AV} {os os' : List (Option Obj)} {n : Nat} (L : List Nat) (h : AC P f args hp k ⟨x, hpL os, n⟩) (hr : SetA (hpL os) L x y) (hs : SubL L 0 os os') : AC P f args hp k ⟨y, hpL os', n⟩ :=
  AC.settle h hr (fun m o' hm => by
    obtain ⟨h1, h2⟩ := subL_get hs m o' hm
    exact ⟨by simpa using h1, o', h2, .inl rfl⟩) (Nat.le_refl n)
def svRow (l : List Sve) : Obj := dRow 67 5 (l.map sveD)
@[go_sem] theorem r_svRow (l : List Sve) : svRow l = dRow 67 5 (l.map sveD) := rfl
def lvNil : Obj := dRow 24 1 [[.s (.slice none 0 0)], [.s (.slice none 0 0)], [.s (.slice none 0 0)]]
theorem inKeep {keep : Nat} (hk : keep ≤ 5) : inB 0 keep 5 = true := by unfold inB; rw [decide_eq_true (by omega), decide_eq_true (by omega)]; rfl
theorem storeNewR_ac (keep : Nat) (hk : keep ≤ 5) : AC Try.prog 21 [iT keep] noHp 0 ⟨.tup [.agg [.d (.s (.slice none 0 0)), .h 0, .h 1, .d (.s (.int .i64 keep)), .d (.s (.int .i64 0)), .d (.s (.slice none 0 0))], bT true], hpL [some lvNil, some (svRow [eSve keep, eSve keep, eSve keep])], 2⟩ := by
  refine AC_of Try.func21 rfl Try.ntmps21 Try.results21 (by kernel_rfl) rfl ?_
  simp only [List.zipIdx, List.map, Nat.zero_add, Nat.reduceAdd]
  have h5 := inKeep hk
  have k := sieve0_ac keep hk
  repeat (first | apply Aw_seq | apply Aw_block | apply Aw_skip | apply Aw_exit | refine Aw_condt rfl ?_ | refine Aw_condf rfl ?_ | (refine qr ?_; simp only [go_sem, Nat.reduceEqDiff, reduceIte, Nat.reduceAdd, Nat.reduceMul, Nat.reduceSub, Nat.reduceLT, Nat.reduceLeDiff, Nat.reduceBEq, h5, t3, c03, c3b, rep3]) | (refine qd (by kernel_rfl) (by kernel_rfl) ?_; simp only [go_sem, Nat.reduceEqDiff, reduceIte, Nat.reduceAdd, Nat.reduceMul, Nat.reduceSub, Nat.reduceLT, Nat.reduceLeDiff, Nat.reduceBEq, h5, t3, c03, c3b, rep3]) | refine dk (by kernel_rfl) ?_ | (refine qp (isKeep_ac _) (by simp only [go_sem, Nat.reduceEqDiff, reduceIte, Nat.reduceAdd, Nat.reduceMul, Nat.reduceSub, Nat.reduceLT, Nat.reduceLeDiff, Nat.reduceBEq, h5, t3, c03, c3b, rep3]; first | done | rfl) rfl (by simp only [go_sem, Nat.reduceLT]) rfl rfl ?_; simp only [go_sem, Nat.reduceEqDiff, reduceIte, Nat.reduceAdd, Nat.reduceMul, Nat.reduceSub, Nat.reduceLT, Nat.reduceLeDiff, Nat.reduceBEq, h5, t3, c03, c3b, rep3]))
  refine Aw_rounds 4 ?_
  refine AwR_succ ?_
  repeat (first | apply Aw_seq | apply Aw_block | apply Aw_skip | apply Aw_exit | refine Aw_condt rfl ?_ | refine Aw_condf rfl ?_ | (refine qr ?_; simp only [go_sem, Nat.reduceEqDiff, reduceIte, Nat.reduceAdd, Nat.reduceMul, Nat.reduceSub, Nat.reduceLT, Nat.reduceLeDiff, Nat.reduceBEq, e03, w01]) | (refine qd (by kernel_rfl) (by kernel_rfl) ?_; simp only [go_sem, Nat.reduceEqDiff, reduceIte, Nat.reduceAdd, Nat.reduceMul, Nat.reduceSub, Nat.reduceLT, Nat.reduceLeDiff, Nat.reduceBEq, e03, w01]) | refine dk (by kernel_rfl) ?_ | (refine qp (k) (by simp only [go_sem, Nat.reduceEqDiff, reduceIte, Nat.reduceAdd, Nat.reduceMul, Nat.reduceSub, Nat.reduceLT, Nat.reduceLeDiff, Nat.reduceBEq, e03, w01]; first | done | rfl) rfl (by simp only [go_sem, Nat.reduceLT]) rfl rfl ?_; simp only [go_sem, Nat.reduceEqDiff, reduceIte, Nat.reduceAdd, Nat.reduceMul, Nat.reduceSub, Nat.reduceLT, Nat.reduceLeDiff, Nat.reduceBEq, e03, w01]))
  exact Aw_ret (retL (M := [5, 35]) (.inl rfl) (by simp only [go_sem, Nat.reduceEqDiff, reduceIte, Nat.reduceAdd, Nat.reduceMul, Nat.reduceSub, Nat.reduceLT, Nat.reduceLeDiff, Nat.reduceBEq]; first | done | rfl) rfl rfl (by rfl) (by simp only [go_sem, Nat.reduceEqDiff, reduceIte, Nat.reduceAdd, Nat.reduceMul, Nat.reduceSub, Nat.reduceLT, Nat.reduceLeDiff, Nat.reduceBEq, lvNil, svRow, eSve, List.map, dRow_ren]; first | done | rfl | (and_intros <;> rfl)) (by decide) (by intro m hm; first | omega | (rcases m with _ | _ | _ | _ | _ | _ | m <;> first | exact ⟨by decide, rfl⟩ | omega)))
theorem storeNew_ok (keep : Nat) (hk : keep ≤ 5) : AC Try.prog 21 [iT keep] noHp 0 ⟨.tup [.agg [.d (.rs 4 []), .d (.rs 1 [lvD [], lvD [], lvD []]), .h 1, .d (.s (.int .i64 keep)), .d (.s (.int .i64 0)), .d (.rs 1 [])], bT true], hpL [none, some (svRow [eSve keep, eSve keep, eSve keep])], 2⟩ := by
  have h1 : AC Try.prog 21 [iT keep] noHp 0 ⟨.tup [.agg [.d (.s (.slice none 0 0)), .d (.rs 1 [[.s (.slice none 0 0)], [.s (.slice none 0 0)], [.s (.slice none 0 0)]]), .h 1, .d (.s (.int .i64 keep)), .d (.s (.int .i64 0)), .d (.s (.slice none 0 0))], bT true], hpL [none, some (svRow [eSve keep, eSve keep, eSve keep])], 2⟩ :=
    AC.setL [0] (storeNewR_ac keep hk) (.cons (.cons (.inl rfl) (.cons (SetC.row0 rfl rfl) (.cons (.inl rfl) (.cons (.inl rfl) (.cons (.inl rfl) (.cons (.inl rfl) .nil)))))) (.cons (.inl rfl) .nil)) ⟨rfl, rfl, trivial⟩
  exact AC.nilR h1 (.cons (.cons (NilC.nil _) (.cons (nil3 4) (.cons (.inl rfl) (.cons (.inl rfl) (.cons (.inl rfl) (.cons (NilC.nil _) .nil)))))) (.cons (NilT.refl _) .nil))
theorem sstoreNewR_ac (keep : Nat) (hk : keep ≤ 5) : AC Try.prog 20 [iT keep] noHp 0 ⟨.tup [.agg [.h 0, .h 2, .h 3, .d (.s (.int .i64 keep)), .d (.s (.int .i64 0)), .h 1], bT true],
    hpL [some (eRow []), some (dRow 3 1 []), some ⟨24, 1, true, [[.h 4], [.h 5], [.h 6]]⟩, some ⟨67, 5, true, [[.d (.s (.string zs)), .d (.s (.string zs)), .d (.s (.string zs)), .h 7, .d (.s (.int .i64 keep))], [.d (.s (.string zs)), .d (.s (.string zs)), .d (.s (.string zs)), .h 8, .d (.s (.int .i64 keep))], [.d (.s (.string zs)), .d (.s (.string zs)), .d (.s (.string zs)), .h 9, .d (.s (.int .i64 keep))]]⟩,
      some (eRow []), some (eRow []), some (eRow []), some (kRow []), some (kRow []), some (kRow [])], 10⟩ := by
  refine AC_of Try.func20 rfl Try.ntmps20 Try.results20 (by kernel_rfl) rfl ?_
  simp only [List.zipIdx, List.map, Nat.zero_add, Nat.reduceAdd]
  have h5 := inKeep hk
  repeat (first | apply Aw_seq | apply Aw_block | apply Aw_skip | apply Aw_exit | refine Aw_condt rfl ?_ | refine Aw_condf rfl ?_ | (refine qr ?_; simp only [go_sem, Nat.reduceEqDiff, reduceIte, Nat.reduceAdd, Nat.reduceMul, Nat.reduceSub, Nat.reduceLT, Nat.reduceLeDiff, Nat.reduceBEq, h5, t3, c03, c3b, rep3]) | (refine qd (by kernel_rfl) (by kernel_rfl) ?_; simp only [go_sem, Nat.reduceEqDiff, reduceIte, Nat.reduceAdd, Nat.reduceMul, Nat.reduceSub, Nat.reduceLT, Nat.reduceLeDiff, Nat.reduceBEq, h5, t3, c03, c3b, rep3]) | refine dk (by kernel_rfl) ?_ | (refine qp (l6In_ac _ _ _) (by simp only [go_sem, Nat.reduceEqDiff, reduceIte, Nat.reduceAdd, Nat.reduceMul, Nat.reduceSub, Nat.reduceLT, Nat.reduceLeDiff, Nat.reduceBEq, h5, t3, c03, c3b, rep3]; first | done | rfl) rfl (by simp only [go_sem, Nat.reduceLT]) rfl rfl ?_; simp only [go_sem, Nat.reduceEqDiff, reduceIte, Nat.reduceAdd, Nat.reduceMul, Nat.reduceSub, Nat.reduceLT, Nat.reduceLeDiff, Nat.reduceBEq, h5, t3, c03, c3b, rep3]))
  refine Aw_rounds 4 ?_
  refine AwR_succ ?_
  repeat (first | apply Aw_seq | apply Aw_block | apply Aw_skip | apply Aw_exit | refine Aw_condt rfl ?_ | refine Aw_condf rfl ?_ | (refine qr ?_; simp only [go_sem, Nat.reduceEqDiff, reduceIte, Nat.reduceAdd, Nat.reduceMul, Nat.reduceSub, Nat.reduceLT, Nat.reduceLeDiff, Nat.reduceBEq, e03, w01]) | (refine qd (by kernel_rfl) (by kernel_rfl) ?_; simp only [go_sem, Nat.reduceEqDiff, reduceIte, Nat.reduceAdd, Nat.reduceMul, Nat.reduceSub, Nat.reduceLT, Nat.reduceLeDiff, Nat.reduceBEq, e03, w01]) | refine dk (by kernel_rfl) ?_)
  exact Aw_ret (retL (M := [4, 6, 59, 68, 15, 36, 57, 22, 43, 64]) (.inl rfl) (by simp only [go_sem, Nat.reduceEqDiff, reduceIte, Nat.reduceAdd, Nat.reduceMul, Nat.reduceSub, Nat.reduceLT, Nat.reduceLeDiff, Nat.reduceBEq]; first | done | rfl) rfl rfl (by rfl) (by simp only [go_sem, Nat.reduceEqDiff, reduceIte, Nat.reduceAdd, Nat.reduceMul, Nat.reduceSub, Nat.reduceLT, Nat.reduceLeDiff, Nat.reduceBEq]; first | done | rfl | (and_intros <;> rfl)) (by decide) (by intro m hm; first | omega | (rcases m with _ | _ | _ | _ | _ | _ | m <;> first | exact ⟨by decide, rfl⟩ | omega)))
theorem sstoreNew_ok (keep : Nat) (hk : keep ≤ 5) : AC Try.prog 20 [iT keep] noHp 0 ⟨.tup [stT (eSto keep), bT true], noHp, 0⟩ := by
  refine AC.settle0 [0, 1, 2, 3, 4, 5, 6, 7, 8, 9] (sstoreNewR_ac keep hk) (.cons (.cons (SetC.row0 rfl rfl) (.cons (.inr ⟨3, _, rfl, rfl, subB rfl⟩) (.cons (.inr ⟨3, _, rfl, rfl, subB rfl⟩) (.cons (.inl rfl) (.cons (.inl rfl) (.cons (SetC.row0 rfl rfl) .nil)))))) (.cons (.inl rfl) .nil)) rfl
end Go.Proofs.Ytcbhgglpgphimaa.Ab
namespace Go.Proofs.Ytcbhgglpgphimaa.Ab
set_option linter.deprecated false
set_option linter.unusedVariables false
set_option linter.unusedSimpArgs false
open Go Go.Proofs
set_option maxRecDepth 10000
set_option maxHeartbeats 8000000
set_option linter.unusedSimpArgs false
set_option linter.unusedVariables false
theorem runKeysS_ac (r : List Ent) (hs : SmR r) : AC Try.prog 31 [runT r] noHp 0 ⟨.t (strsT (if runOk r = true then keysM r else [])), noHp, 0⟩ := AC.settle0 [0] (runKeys_ac r hs) (SetC.row0 rfl rfl) rfl
def upTo (s : Sto) (i : Nat) : List Ent := s.top ++ (s.levels.take i).flatten
def iAt (s : Sto) (i : Nat) : Bool := match s.levels[i]?, s.sieves[i]? with
  | some r, some x => lvM s.keep i r x && newerM (upTo s i) r && !decide (0 ≤ lateI s (upTo s i))
  | _, _ => true
def storeI (s : Sto) : Bool := headM s && allI 3 (iAt s)
abbrev stSl (s : Sto) (i : Nat) (up : List Ent) : List (Nat × AV) := [(49, .t (iT (i : Nat))), (48, .t (iT s.levels.length)), (47, .t (.c (.d (.rs 1 (s.levels.map lvD))))), (3, .t (runT up)), (1, .t (.c (.ph 0 0 0)))]
structure StI (s : Sto) where
  i : Nat
  up : List Ent
  hi : i ≤ 3
  hu : up = upTo s i
  hl : up.length ≤ 4 + 24 * i
  hp : ∀ j, j < i → iAt s j = true
theorem storeOk_ac (s : Sto) (hs : SmSt s) : AC Try.prog 39 [stT s] noHp 0 ⟨.t (bT (storeI s)), noHp, 0⟩ := by
  refine AC_of Try.func39 rfl Try.ntmps39 Try.results39 (by kernel_rfl) rfl ?_
  simp only [List.zipIdx, List.map, Nat.zero_add, Nat.reduceAdd]
  cases c1 : decide ((s.levels.length : Int) = 3)
  · repeat (first | apply Aw_seq | apply Aw_block | apply Aw_skip | apply Aw_exit | refine Aw_condt rfl ?_ | refine Aw_condf rfl ?_ | (refine qr ?_; simp only [go_sem, Nat.reduceEqDiff, reduceIte, Nat.reduceAdd, Nat.reduceMul, Nat.reduceSub, Nat.reduceLT, Nat.reduceLeDiff, Nat.reduceBEq, c1]) | (refine qd (by kernel_rfl) (by kernel_rfl) ?_; simp only [go_sem, Nat.reduceEqDiff, reduceIte, Nat.reduceAdd, Nat.reduceMul, Nat.reduceSub, Nat.reduceLT, Nat.reduceLeDiff, Nat.reduceBEq, c1]) | refine dk (by kernel_rfl) ?_)
    exact Aw_ret (ret0 (.inl rfl) (by simp only [go_sem, Nat.reduceEqDiff, reduceIte, Nat.reduceAdd, Nat.reduceMul, Nat.reduceSub, Nat.reduceLT, Nat.reduceLeDiff, Nat.reduceBEq]; rfl) (by unfold storeI headM; rw [decide_eq_false (by have := of_decide_eq_false c1; omega : ¬ s.levels.length = 3)]; rfl) rfl)
  cases c2 : decide ((s.sieves.length : Int) = 3)
  · repeat (first | apply Aw_seq | apply Aw_block | apply Aw_skip | apply Aw_exit | refine Aw_condt rfl ?_ | refine Aw_condf rfl ?_ | (refine qr ?_; simp only [go_sem, Nat.reduceEqDiff, reduceIte, Nat.reduceAdd, Nat.reduceMul, Nat.reduceSub, Nat.reduceLT, Nat.reduceLeDiff, Nat.reduceBEq, c1, c2]) | (refine qd (by kernel_rfl) (by kernel_rfl) ?_; simp only [go_sem, Nat.reduceEqDiff, reduceIte, Nat.reduceAdd, Nat.reduceMul, Nat.reduceSub, Nat.reduceLT, Nat.reduceLeDiff, Nat.reduceBEq, c1, c2]) | refine dk (by kernel_rfl) ?_)
    exact Aw_ret (ret0 (.inl rfl) (by simp only [go_sem, Nat.reduceEqDiff, reduceIte, Nat.reduceAdd, Nat.reduceMul, Nat.reduceSub, Nat.reduceLT, Nat.reduceLeDiff, Nat.reduceBEq]; rfl) (by unfold storeI headM; rw [decide_eq_false (by have := of_decide_eq_false c2; omega : ¬ s.sieves.length = 3)]; simp) rfl)
  cases c3 : runOk s.top
  · repeat (first | apply Aw_seq | apply Aw_block | apply Aw_skip | apply Aw_exit | refine Aw_condt rfl ?_ | refine Aw_condf rfl ?_ | (refine qr ?_; simp only [go_sem, Nat.reduceEqDiff, reduceIte, Nat.reduceAdd, Nat.reduceMul, Nat.reduceSub, Nat.reduceLT, Nat.reduceLeDiff, Nat.reduceBEq, c1, c2, c3]) | (refine qd (by kernel_rfl) (by kernel_rfl) ?_; simp only [go_sem, Nat.reduceEqDiff, reduceIte, Nat.reduceAdd, Nat.reduceMul, Nat.reduceSub, Nat.reduceLT, Nat.reduceLeDiff, Nat.reduceBEq, c1, c2, c3]) | refine dk (by kernel_rfl) ?_ | (refine qp (runOk_ac _ hs.top) (by simp only [go_sem, Nat.reduceEqDiff, reduceIte, Nat.reduceAdd, Nat.reduceMul, Nat.reduceSub, Nat.reduceLT, Nat.reduceLeDiff, Nat.reduceBEq, c1, c2, c3]; first | done | rfl) rfl (by simp only [go_sem, Nat.reduceLT]) rfl rfl ?_; simp only [go_sem, Nat.reduceEqDiff, reduceIte, Nat.reduceAdd, Nat.reduceMul, Nat.reduceSub, Nat.reduceLT, Nat.reduceLeDiff, Nat.reduceBEq, c1, c2, c3]))
    exact Aw_ret (ret0 (.inl rfl) (by simp only [go_sem, Nat.reduceEqDiff, reduceIte, Nat.reduceAdd, Nat.reduceMul, Nat.reduceSub, Nat.reduceLT, Nat.reduceLeDiff, Nat.reduceBEq]; rfl) (by unfold storeI headM; simp [c3]) rfl)
  cases c4 : decide ((4 : Int) < (s.top.length : Int))
  case true =>
    repeat (first | apply Aw_seq | apply Aw_block | apply Aw_skip | apply Aw_exit | refine Aw_condt rfl ?_ | refine Aw_condf rfl ?_ | (refine qr ?_; simp only [go_sem, Nat.reduceEqDiff, reduceIte, Nat.reduceAdd, Nat.reduceMul, Nat.reduceSub, Nat.reduceLT, Nat.reduceLeDiff, Nat.reduceBEq, c1, c2, c3, c4]) | (refine qd (by kernel_rfl) (by kernel_rfl) ?_; simp only [go_sem, Nat.reduceEqDiff, reduceIte, Nat.reduceAdd, Nat.reduceMul, Nat.reduceSub, Nat.reduceLT, Nat.reduceLeDiff, Nat.reduceBEq, c1, c2, c3, c4]) | refine dk (by kernel_rfl) ?_ | (refine qp (runOk_ac _ hs.top) (by simp only [go_sem, Nat.reduceEqDiff, reduceIte, Nat.reduceAdd, Nat.reduceMul, Nat.reduceSub, Nat.reduceLT, Nat.reduceLeDiff, Nat.reduceBEq, c1, c2, c3, c4]; first | done | rfl) rfl (by simp only [go_sem, Nat.reduceLT]) rfl rfl ?_; simp only [go_sem, Nat.reduceEqDiff, reduceIte, Nat.reduceAdd, Nat.reduceMul, Nat.reduceSub, Nat.reduceLT, Nat.reduceLeDiff, Nat.reduceBEq, c1, c2, c3, c4]))
    exact Aw_ret (ret0 (.inl rfl) (by simp only [go_sem, Nat.reduceEqDiff, reduceIte, Nat.reduceAdd, Nat.reduceMul, Nat.reduceSub, Nat.reduceLT, Nat.reduceLeDiff, Nat.reduceBEq]; rfl) (by unfold storeI headM; rw [decide_eq_false (by have := of_decide_eq_true c4; omega : ¬ s.top.length ≤ 4)]; simp) rfl)
  cases c5 : inB 0 s.time 999
  · repeat (first | apply Aw_seq | apply Aw_block | apply Aw_skip | apply Aw_exit | refine Aw_condt rfl ?_ | refine Aw_condf rfl ?_ | (refine qr ?_; simp only [go_sem, Nat.reduceEqDiff, reduceIte, Nat.reduceAdd, Nat.reduceMul, Nat.reduceSub, Nat.reduceLT, Nat.reduceLeDiff, Nat.reduceBEq, c1, c2, c3, c4, c5]) | (refine qd (by kernel_rfl) (by kernel_rfl) ?_; simp only [go_sem, Nat.reduceEqDiff, reduceIte, Nat.reduceAdd, Nat.reduceMul, Nat.reduceSub, Nat.reduceLT, Nat.reduceLeDiff, Nat.reduceBEq, c1, c2, c3, c4, c5]) | refine dk (by kernel_rfl) ?_ | (refine qp (runOk_ac _ hs.top) (by simp only [go_sem, Nat.reduceEqDiff, reduceIte, Nat.reduceAdd, Nat.reduceMul, Nat.reduceSub, Nat.reduceLT, Nat.reduceLeDiff, Nat.reduceBEq, c1, c2, c3, c4, c5]; first | done | rfl) rfl (by simp only [go_sem, Nat.reduceLT]) rfl rfl ?_; simp only [go_sem, Nat.reduceEqDiff, reduceIte, Nat.reduceAdd, Nat.reduceMul, Nat.reduceSub, Nat.reduceLT, Nat.reduceLeDiff, Nat.reduceBEq, c1, c2, c3, c4, c5]) | (refine qp (in_ac _ _ _) (by simp only [go_sem, Nat.reduceEqDiff, reduceIte, Nat.reduceAdd, Nat.reduceMul, Nat.reduceSub, Nat.reduceLT, Nat.reduceLeDiff, Nat.reduceBEq, c1, c2, c3, c4, c5]; first | done | rfl) rfl (by simp only [go_sem, Nat.reduceLT]) rfl rfl ?_; simp only [go_sem, Nat.reduceEqDiff, reduceIte, Nat.reduceAdd, Nat.reduceMul, Nat.reduceSub, Nat.reduceLT, Nat.reduceLeDiff, Nat.reduceBEq, c1, c2, c3, c4, c5]))
    exact Aw_ret (ret0 (.inl rfl) (by simp only [go_sem, Nat.reduceEqDiff, reduceIte, Nat.reduceAdd, Nat.reduceMul, Nat.reduceSub, Nat.reduceLT, Nat.reduceLeDiff, Nat.reduceBEq]; rfl) (by unfold storeI headM; simp [c5]) rfl)
  cases c6 : timesM s.times s.time
  · repeat (first | apply Aw_seq | apply Aw_block | apply Aw_skip | apply Aw_exit | refine Aw_condt rfl ?_ | refine Aw_condf rfl ?_ | (refine qr ?_; simp only [go_sem, Nat.reduceEqDiff, reduceIte, Nat.reduceAdd, Nat.reduceMul, Nat.reduceSub, Nat.reduceLT, Nat.reduceLeDiff, Nat.reduceBEq, c1, c2, c3, c4, c5, c6]) | (refine qd (by kernel_rfl) (by kernel_rfl) ?_; simp only [go_sem, Nat.reduceEqDiff, reduceIte, Nat.reduceAdd, Nat.reduceMul, Nat.reduceSub, Nat.reduceLT, Nat.reduceLeDiff, Nat.reduceBEq, c1, c2, c3, c4, c5, c6]) | refine dk (by kernel_rfl) ?_ | (refine qp (runOk_ac _ hs.top) (by simp only [go_sem, Nat.reduceEqDiff, reduceIte, Nat.reduceAdd, Nat.reduceMul, Nat.reduceSub, Nat.reduceLT, Nat.reduceLeDiff, Nat.reduceBEq, c1, c2, c3, c4, c5, c6]; first | done | rfl) rfl (by simp only [go_sem, Nat.reduceLT]) rfl rfl ?_; simp only [go_sem, Nat.reduceEqDiff, reduceIte, Nat.reduceAdd, Nat.reduceMul, Nat.reduceSub, Nat.reduceLT, Nat.reduceLeDiff, Nat.reduceBEq, c1, c2, c3, c4, c5, c6]) | (refine qp (in_ac _ _ _) (by simp only [go_sem, Nat.reduceEqDiff, reduceIte, Nat.reduceAdd, Nat.reduceMul, Nat.reduceSub, Nat.reduceLT, Nat.reduceLeDiff, Nat.reduceBEq, c1, c2, c3, c4, c5, c6]; first | done | rfl) rfl (by simp only [go_sem, Nat.reduceLT]) rfl rfl ?_; simp only [go_sem, Nat.reduceEqDiff, reduceIte, Nat.reduceAdd, Nat.reduceMul, Nat.reduceSub, Nat.reduceLT, Nat.reduceLeDiff, Nat.reduceBEq, c1, c2, c3, c4, c5, c6]) | (refine qp (timesOk_ac _ _ hs.tl) (by simp only [go_sem, Nat.reduceEqDiff, reduceIte, Nat.reduceAdd, Nat.reduceMul, Nat.reduceSub, Nat.reduceLT, Nat.reduceLeDiff, Nat.reduceBEq, c1, c2, c3, c4, c5, c6]; first | done | rfl) rfl (by simp only [go_sem, Nat.reduceLT]) rfl rfl ?_; simp only [go_sem, Nat.reduceEqDiff, reduceIte, Nat.reduceAdd, Nat.reduceMul, Nat.reduceSub, Nat.reduceLT, Nat.reduceLeDiff, Nat.reduceBEq, c1, c2, c3, c4, c5, c6]))
    exact Aw_ret (ret0 (.inl rfl) (by simp only [go_sem, Nat.reduceEqDiff, reduceIte, Nat.reduceAdd, Nat.reduceMul, Nat.reduceSub, Nat.reduceLT, Nat.reduceLeDiff, Nat.reduceBEq]; rfl) (by unfold storeI headM; simp [c6]) rfl)
  have hh : headM s = true := by
    have d1 := of_decide_eq_true c1; have d2 := of_decide_eq_true c2; have d4 := of_decide_eq_false c4
    unfold headM
    rw [decide_eq_true (by omega : s.levels.length = 3), decide_eq_true (by omega : s.sieves.length = 3), decide_eq_true (by omega : s.top.length ≤ 4), c3, c5, c6]; rfl
  repeat (first | apply Aw_seq | apply Aw_block | apply Aw_skip | apply Aw_exit | refine Aw_condt rfl ?_ | refine Aw_condf rfl ?_ | (refine qr ?_; simp only [go_sem, Nat.reduceEqDiff, reduceIte, Nat.reduceAdd, Nat.reduceMul, Nat.reduceSub, Nat.reduceLT, Nat.reduceLeDiff, Nat.reduceBEq, c1, c2, c3, c4, c5, c6]) | (refine qd (by kernel_rfl) (by kernel_rfl) ?_; simp only [go_sem, Nat.reduceEqDiff, reduceIte, Nat.reduceAdd, Nat.reduceMul, Nat.reduceSub, Nat.reduceLT, Nat.reduceLeDiff, Nat.reduceBEq, c1, c2, c3, c4, c5, c6]) | refine dk (by kernel_rfl) ?_ | (refine qp (runOk_ac _ hs.top) (by simp only [go_sem, Nat.reduceEqDiff, reduceIte, Nat.reduceAdd, Nat.reduceMul, Nat.reduceSub, Nat.reduceLT, Nat.reduceLeDiff, Nat.reduceBEq, c1, c2, c3, c4, c5, c6]; first | done | rfl) rfl (by simp only [go_sem, Nat.reduceLT]) rfl rfl ?_; simp only [go_sem, Nat.reduceEqDiff, reduceIte, Nat.reduceAdd, Nat.reduceMul, Nat.reduceSub, Nat.reduceLT, Nat.reduceLeDiff, Nat.reduceBEq, c1, c2, c3, c4, c5, c6]) | (refine qp (in_ac _ _ _) (by simp only [go_sem, Nat.reduceEqDiff, reduceIte, Nat.reduceAdd, Nat.reduceMul, Nat.reduceSub, Nat.reduceLT, Nat.reduceLeDiff, Nat.reduceBEq, c1, c2, c3, c4, c5, c6]; first | done | rfl) rfl (by simp only [go_sem, Nat.reduceLT]) rfl rfl ?_; simp only [go_sem, Nat.reduceEqDiff, reduceIte, Nat.reduceAdd, Nat.reduceMul, Nat.reduceSub, Nat.reduceLT, Nat.reduceLeDiff, Nat.reduceBEq, c1, c2, c3, c4, c5, c6]) | (refine qp (timesOk_ac _ _ hs.tl) (by simp only [go_sem, Nat.reduceEqDiff, reduceIte, Nat.reduceAdd, Nat.reduceMul, Nat.reduceSub, Nat.reduceLT, Nat.reduceLeDiff, Nat.reduceBEq, c1, c2, c3, c4, c5, c6]; first | done | rfl) rfl (by simp only [go_sem, Nat.reduceLT]) rfl rfl ?_; simp only [go_sem, Nat.reduceEqDiff, reduceIte, Nat.reduceAdd, Nat.reduceMul, Nat.reduceSub, Nat.reduceLT, Nat.reduceLeDiff, Nat.reduceBEq, c1, c2, c3, c4, c5, c6]))
  have d1 : s.levels.length = 3 := by have := of_decide_eq_true c1; omega
  have d2 : s.sieves.length = 3 := by have := of_decide_eq_true c2; omega
  have d4 : s.top.length ≤ 4 := by have := of_decide_eq_false c4; omega
  refine Aw.rw (rwL (l' := stSl s 0 s.top) (os := [some (stO s)]) (M := [0]) (n' := 1) (by repeat (first | exact trivial | refine ⟨rfl, rfl, ?_⟩)) (by rfl) (by simp only [go_sem, Nat.reduceEqDiff, reduceIte, Nat.reduceAdd, Nat.reduceMul, Nat.reduceSub, Nat.reduceLT, Nat.reduceLeDiff, Nat.reduceBEq]; first | done | rfl) (by decide) (by intro m hm; first | omega | (rcases m with _ | _ | _ | _ | _ | _ | m <;> first | exact ⟨by decide, rfl⟩ | omega))) ?_
  refine Aw_loop_rw (ι := StI s) (fun p => S (stSl s p.i p.up) (hpL [some (stO s)]) 1) (fun p => 3 - p.i) ⟨0, s.top, by omega, by simp [upTo], by omega, fun j hj => absurd hj (by omega)⟩ ?_
  rintro ⟨i, up, hi, hu, hl, hp⟩
  dsimp only
  by_cases hlt : i < 3
  · have h1 : (i : Int) < (s.levels.length : Int) := by omega
    have h2 := wrap_succ (m := 3) hlt (by omega)
    obtain ⟨r, hr⟩ : ∃ r, s.levels[i]? = some r := ⟨_, List.getElem?_eq_getElem (by omega)⟩
    obtain ⟨x, hx⟩ : ∃ x, s.sieves[i]? = some x := ⟨_, List.getElem?_eq_getElem (by omega)⟩
    have hsr := hs.lev r (List.mem_of_getElem? hr)
    have hsx := hs.rl x (List.mem_of_getElem? hx)
    have hat : iAt s i = (lvM s.keep i r x && newerM up r && !decide (0 ≤ lateI s up)) := by unfold iAt; rw [hr, hx, ← hu]
    have bad : iAt s i = false → storeI s = false := fun h => by unfold storeI; rw [allI_f (i := i) hlt h, Bool.and_false]
    have k1 := runKeysS_ac r hsr
    have k3 := runOk_ac r hsr
    have k4 := room_ac i (by omega)
    cases a1 : runOk r
    · rw [a1] at k1 k3
      rw [if_neg (by decide)] at k1
      have k2 := sieveS_ac [] s.keep ⟨by simp, by simp⟩
      rw [bad (by rw [hat]; unfold lvM; rw [a1]; rfl)]
      repeat (first | apply Aw_seq | apply Aw_block | apply Aw_skip | apply Aw_exit | refine Aw_condt rfl ?_ | refine Aw_condf rfl ?_ | (refine qr ?_; simp only [go_sem, Nat.reduceEqDiff, reduceIte, Nat.reduceAdd, Nat.reduceMul, Nat.reduceSub, Nat.reduceLT, Nat.reduceLeDiff, Nat.reduceBEq, h1, hr]) | (refine qd (by kernel_rfl) (by kernel_rfl) ?_; simp only [go_sem, Nat.reduceEqDiff, reduceIte, Nat.reduceAdd, Nat.reduceMul, Nat.reduceSub, Nat.reduceLT, Nat.reduceLeDiff, Nat.reduceBEq, h1, hr]) | refine dk (by kernel_rfl) ?_ | (refine qp (k1) (by simp only [go_sem, Nat.reduceEqDiff, reduceIte, Nat.reduceAdd, Nat.reduceMul, Nat.reduceSub, Nat.reduceLT, Nat.reduceLeDiff, Nat.reduceBEq, h1, hr]; first | done | rfl) rfl (by simp only [go_sem, Nat.reduceLT]) rfl rfl ?_; simp only [go_sem, Nat.reduceEqDiff, reduceIte, Nat.reduceAdd, Nat.reduceMul, Nat.reduceSub, Nat.reduceLT, Nat.reduceLeDiff, Nat.reduceBEq, h1, hr]) | (refine qp (k2) (by simp only [go_sem, Nat.reduceEqDiff, reduceIte, Nat.reduceAdd, Nat.reduceMul, Nat.reduceSub, Nat.reduceLT, Nat.reduceLeDiff, Nat.reduceBEq, h1, hr]; first | done | rfl) rfl (by simp only [go_sem, Nat.reduceLT]) rfl rfl ?_; simp only [go_sem, Nat.reduceEqDiff, reduceIte, Nat.reduceAdd, Nat.reduceMul, Nat.reduceSub, Nat.reduceLT, Nat.reduceLeDiff, Nat.reduceBEq, h1, hr]) | (refine qp (k3) (by simp only [go_sem, Nat.reduceEqDiff, reduceIte, Nat.reduceAdd, Nat.reduceMul, Nat.reduceSub, Nat.reduceLT, Nat.reduceLeDiff, Nat.reduceBEq, h1, hr]; first | done | rfl) rfl (by simp only [go_sem, Nat.reduceLT]) rfl rfl ?_; simp only [go_sem, Nat.reduceEqDiff, reduceIte, Nat.reduceAdd, Nat.reduceMul, Nat.reduceSub, Nat.reduceLT, Nat.reduceLeDiff, Nat.reduceBEq, h1, hr]))
      exact Aw_ret (ret0 (.inl rfl) (by simp only [go_sem, Nat.reduceEqDiff, reduceIte, Nat.reduceAdd, Nat.reduceMul, Nat.reduceSub, Nat.reduceLT, Nat.reduceLeDiff, Nat.reduceBEq]; rfl) (by rfl) rfl)
    rw [a1] at k1 k3
    rw [if_pos rfl] at k1
    have k2 := sieveS_ac (keysM r) s.keep (smS_keys hsr)
    cases a2 : decide (((8 * (i + 1) : Nat) : Int) < (r.length : Int))
    case true =>
      rw [bad (by rw [hat]; unfold lvM; rw [decide_eq_false (by have := of_decide_eq_true a2; omega : ¬ r.length ≤ 8 * (i + 1))]; simp)]
      repeat (first | apply Aw_seq | apply Aw_block | apply Aw_skip | apply Aw_exit | refine Aw_condt rfl ?_ | refine Aw_condf rfl ?_ | (refine qr ?_; simp only [go_sem, Nat.reduceEqDiff, reduceIte, Nat.reduceAdd, Nat.reduceMul, Nat.reduceSub, Nat.reduceLT, Nat.reduceLeDiff, Nat.reduceBEq, h1, hr, a2]) | (refine qd (by kernel_rfl) (by kernel_rfl) ?_; simp only [go_sem, Nat.reduceEqDiff, reduceIte, Nat.reduceAdd, Nat.reduceMul, Nat.reduceSub, Nat.reduceLT, Nat.reduceLeDiff, Nat.reduceBEq, h1, hr, a2]) | refine dk (by kernel_rfl) ?_ | (refine qp (k1) (by simp only [go_sem, Nat.reduceEqDiff, reduceIte, Nat.reduceAdd, Nat.reduceMul, Nat.reduceSub, Nat.reduceLT, Nat.reduceLeDiff, Nat.reduceBEq, h1, hr, a2]; first | done | rfl) rfl (by simp only [go_sem, Nat.reduceLT]) rfl rfl ?_; simp only [go_sem, Nat.reduceEqDiff, reduceIte, Nat.reduceAdd, Nat.reduceMul, Nat.reduceSub, Nat.reduceLT, Nat.reduceLeDiff, Nat.reduceBEq, h1, hr, a2]) | (refine qp (k2) (by simp only [go_sem, Nat.reduceEqDiff, reduceIte, Nat.reduceAdd, Nat.reduceMul, Nat.reduceSub, Nat.reduceLT, Nat.reduceLeDiff, Nat.reduceBEq, h1, hr, a2]; first | done | rfl) rfl (by simp only [go_sem, Nat.reduceLT]) rfl rfl ?_; simp only [go_sem, Nat.reduceEqDiff, reduceIte, Nat.reduceAdd, Nat.reduceMul, Nat.reduceSub, Nat.reduceLT, Nat.reduceLeDiff, Nat.reduceBEq, h1, hr, a2]) | (refine qp (k3) (by simp only [go_sem, Nat.reduceEqDiff, reduceIte, Nat.reduceAdd, Nat.reduceMul, Nat.reduceSub, Nat.reduceLT, Nat.reduceLeDiff, Nat.reduceBEq, h1, hr, a2]; first | done | rfl) rfl (by simp only [go_sem, Nat.reduceLT]) rfl rfl ?_; simp only [go_sem, Nat.reduceEqDiff, reduceIte, Nat.reduceAdd, Nat.reduceMul, Nat.reduceSub, Nat.reduceLT, Nat.reduceLeDiff, Nat.reduceBEq, h1, hr, a2]) | (refine qp (k4) (by simp only [go_sem, Nat.reduceEqDiff, reduceIte, Nat.reduceAdd, Nat.reduceMul, Nat.reduceSub, Nat.reduceLT, Nat.reduceLeDiff, Nat.reduceBEq, h1, hr, a2]; first | done | rfl) rfl (by simp only [go_sem, Nat.reduceLT]) rfl rfl ?_; simp only [go_sem, Nat.reduceEqDiff, reduceIte, Nat.reduceAdd, Nat.reduceMul, Nat.reduceSub, Nat.reduceLT, Nat.reduceLeDiff, Nat.reduceBEq, h1, hr, a2]))
      exact Aw_ret (ret0 (.inl rfl) (by simp only [go_sem, Nat.reduceEqDiff, reduceIte, Nat.reduceAdd, Nat.reduceMul, Nat.reduceSub, Nat.reduceLT, Nat.reduceLeDiff, Nat.reduceBEq]; rfl) (by rfl) rfl)
    have hrl : r.length ≤ 8 * (i + 1) := by have := of_decide_eq_false a2; omega
    cases a3 : (sieveM (keysM r) s.keep).isSome
    · rw [a3] at k2
      rw [bad (by rw [hat]; unfold lvM; rw [a3]; simp)]
      repeat (first | apply Aw_seq | apply Aw_block | apply Aw_skip | apply Aw_exit | refine Aw_condt rfl ?_ | refine Aw_condf rfl ?_ | (refine qr ?_; simp only [go_sem, Nat.reduceEqDiff, reduceIte, Nat.reduceAdd, Nat.reduceMul, Nat.reduceSub, Nat.reduceLT, Nat.reduceLeDiff, Nat.reduceBEq, h1, hr, a2]) | (refine qd (by kernel_rfl) (by kernel_rfl) ?_; simp only [go_sem, Nat.reduceEqDiff, reduceIte, Nat.reduceAdd, Nat.reduceMul, Nat.reduceSub, Nat.reduceLT, Nat.reduceLeDiff, Nat.reduceBEq, h1, hr, a2]) | refine dk (by kernel_rfl) ?_ | (refine qp (k1) (by simp only [go_sem, Nat.reduceEqDiff, reduceIte, Nat.reduceAdd, Nat.reduceMul, Nat.reduceSub, Nat.reduceLT, Nat.reduceLeDiff, Nat.reduceBEq, h1, hr, a2]; first | done | rfl) rfl (by simp only [go_sem, Nat.reduceLT]) rfl rfl ?_; simp only [go_sem, Nat.reduceEqDiff, reduceIte, Nat.reduceAdd, Nat.reduceMul, Nat.reduceSub, Nat.reduceLT, Nat.reduceLeDiff, Nat.reduceBEq, h1, hr, a2]) | (refine qp (k2) (by simp only [go_sem, Nat.reduceEqDiff, reduceIte, Nat.reduceAdd, Nat.reduceMul, Nat.reduceSub, Nat.reduceLT, Nat.reduceLeDiff, Nat.reduceBEq, h1, hr, a2]; first | done | rfl) rfl (by simp only [go_sem, Nat.reduceLT]) rfl rfl ?_; simp only [go_sem, Nat.reduceEqDiff, reduceIte, Nat.reduceAdd, Nat.reduceMul, Nat.reduceSub, Nat.reduceLT, Nat.reduceLeDiff, Nat.reduceBEq, h1, hr, a2]) | (refine qp (k3) (by simp only [go_sem, Nat.reduceEqDiff, reduceIte, Nat.reduceAdd, Nat.reduceMul, Nat.reduceSub, Nat.reduceLT, Nat.reduceLeDiff, Nat.reduceBEq, h1, hr, a2]; first | done | rfl) rfl (by simp only [go_sem, Nat.reduceLT]) rfl rfl ?_; simp only [go_sem, Nat.reduceEqDiff, reduceIte, Nat.reduceAdd, Nat.reduceMul, Nat.reduceSub, Nat.reduceLT, Nat.reduceLeDiff, Nat.reduceBEq, h1, hr, a2]) | (refine qp (k4) (by simp only [go_sem, Nat.reduceEqDiff, reduceIte, Nat.reduceAdd, Nat.reduceMul, Nat.reduceSub, Nat.reduceLT, Nat.reduceLeDiff, Nat.reduceBEq, h1, hr, a2]; first | done | rfl) rfl (by simp only [go_sem, Nat.reduceLT]) rfl rfl ?_; simp only [go_sem, Nat.reduceEqDiff, reduceIte, Nat.reduceAdd, Nat.reduceMul, Nat.reduceSub, Nat.reduceLT, Nat.reduceLeDiff, Nat.reduceBEq, h1, hr, a2]))
      exact Aw_ret (ret0 (.inl rfl) (by simp only [go_sem, Nat.reduceEqDiff, reduceIte, Nat.reduceAdd, Nat.reduceMul, Nat.reduceSub, Nat.reduceLT, Nat.reduceLeDiff, Nat.reduceBEq]; rfl) (by rfl) rfl)
    rw [a3] at k2
    obtain ⟨y, hy⟩ : ∃ y, y = (sieveM (keysM r) s.keep).getD zSve := ⟨_, rfl⟩
    rw [← hy] at k2
    have k5 := same_ac y x (by
      rw [hy]
      cases hm : sieveM (keysM r) s.keep with
      | none => simp [zSve]
      | some z => exact sieveM_len hm)
    cases a4 : sveEq y x
    · rw [a4] at k5
      rw [bad (by rw [hat]; unfold lvM; rw [← hy, a4]; simp)]
      repeat (first | apply Aw_seq | apply Aw_block | apply Aw_skip | apply Aw_exit | refine Aw_condt rfl ?_ | refine Aw_condf rfl ?_ | (refine qr ?_; simp only [go_sem, Nat.reduceEqDiff, reduceIte, Nat.reduceAdd, Nat.reduceMul, Nat.reduceSub, Nat.reduceLT, Nat.reduceLeDiff, Nat.reduceBEq, h1, hr, hx, a2]) | (refine qd (by kernel_rfl) (by kernel_rfl) ?_; simp only [go_sem, Nat.reduceEqDiff, reduceIte, Nat.reduceAdd, Nat.reduceMul, Nat.reduceSub, Nat.reduceLT, Nat.reduceLeDiff, Nat.reduceBEq, h1, hr, hx, a2]) | refine dk (by kernel_rfl) ?_ | (refine qp (k1) (by simp only [go_sem, Nat.reduceEqDiff, reduceIte, Nat.reduceAdd, Nat.reduceMul, Nat.reduceSub, Nat.reduceLT, Nat.reduceLeDiff, Nat.reduceBEq, h1, hr, hx, a2]; first | done | rfl) rfl (by simp only [go_sem, Nat.reduceLT]) rfl rfl ?_; simp only [go_sem, Nat.reduceEqDiff, reduceIte, Nat.reduceAdd, Nat.reduceMul, Nat.reduceSub, Nat.reduceLT, Nat.reduceLeDiff, Nat.reduceBEq, h1, hr, hx, a2]) | (refine qp (k2) (by simp only [go_sem, Nat.reduceEqDiff, reduceIte, Nat.reduceAdd, Nat.reduceMul, Nat.reduceSub, Nat.reduceLT, Nat.reduceLeDiff, Nat.reduceBEq, h1, hr, hx, a2]; first | done | rfl) rfl (by simp only [go_sem, Nat.reduceLT]) rfl rfl ?_; simp only [go_sem, Nat.reduceEqDiff, reduceIte, Nat.reduceAdd, Nat.reduceMul, Nat.reduceSub, Nat.reduceLT, Nat.reduceLeDiff, Nat.reduceBEq, h1, hr, hx, a2]) | (refine qp (k3) (by simp only [go_sem, Nat.reduceEqDiff, reduceIte, Nat.reduceAdd, Nat.reduceMul, Nat.reduceSub, Nat.reduceLT, Nat.reduceLeDiff, Nat.reduceBEq, h1, hr, hx, a2]; first | done | rfl) rfl (by simp only [go_sem, Nat.reduceLT]) rfl rfl ?_; simp only [go_sem, Nat.reduceEqDiff, reduceIte, Nat.reduceAdd, Nat.reduceMul, Nat.reduceSub, Nat.reduceLT, Nat.reduceLeDiff, Nat.reduceBEq, h1, hr, hx, a2]) | (refine qp (k4) (by simp only [go_sem, Nat.reduceEqDiff, reduceIte, Nat.reduceAdd, Nat.reduceMul, Nat.reduceSub, Nat.reduceLT, Nat.reduceLeDiff, Nat.reduceBEq, h1, hr, hx, a2]; first | done | rfl) rfl (by simp only [go_sem, Nat.reduceLT]) rfl rfl ?_; simp only [go_sem, Nat.reduceEqDiff, reduceIte, Nat.reduceAdd, Nat.reduceMul, Nat.reduceSub, Nat.reduceLT, Nat.reduceLeDiff, Nat.reduceBEq, h1, hr, hx, a2]) | (refine qp (k5) (by simp only [go_sem, Nat.reduceEqDiff, reduceIte, Nat.reduceAdd, Nat.reduceMul, Nat.reduceSub, Nat.reduceLT, Nat.reduceLeDiff, Nat.reduceBEq, h1, hr, hx, a2]; first | done | rfl) rfl (by simp only [go_sem, Nat.reduceLT]) rfl rfl ?_; simp only [go_sem, Nat.reduceEqDiff, reduceIte, Nat.reduceAdd, Nat.reduceMul, Nat.reduceSub, Nat.reduceLT, Nat.reduceLeDiff, Nat.reduceBEq, h1, hr, hx, a2]))
      exact Aw_ret (ret0 (.inl rfl) (by simp only [go_sem, Nat.reduceEqDiff, reduceIte, Nat.reduceAdd, Nat.reduceMul, Nat.reduceSub, Nat.reduceLT, Nat.reduceLeDiff, Nat.reduceBEq]; rfl) (by rfl) rfl)
    rw [a4] at k5
    have hlv : lvM s.keep i r x = true := by unfold lvM; rw [← hy, a1, a3, a4, decide_eq_true hrl]; rfl
    have k6 := newer_ac up r (by omega) hsr.len
    cases a5 : newerM up r
    · rw [a5] at k6
      rw [bad (by rw [hat, a5]; simp)]
      repeat (first | apply Aw_seq | apply Aw_block | apply Aw_skip | apply Aw_exit | refine Aw_condt rfl ?_ | refine Aw_condf rfl ?_ | (refine qr ?_; simp only [go_sem, Nat.reduceEqDiff, reduceIte, Nat.reduceAdd, Nat.reduceMul, Nat.reduceSub, Nat.reduceLT, Nat.reduceLeDiff, Nat.reduceBEq, h1, hr, hx, a2]) | (refine qd (by kernel_rfl) (by kernel_rfl) ?_; simp only [go_sem, Nat.reduceEqDiff, reduceIte, Nat.reduceAdd, Nat.reduceMul, Nat.reduceSub, Nat.reduceLT, Nat.reduceLeDiff, Nat.reduceBEq, h1, hr, hx, a2]) | refine dk (by kernel_rfl) ?_ | (refine qp (k1) (by simp only [go_sem, Nat.reduceEqDiff, reduceIte, Nat.reduceAdd, Nat.reduceMul, Nat.reduceSub, Nat.reduceLT, Nat.reduceLeDiff, Nat.reduceBEq, h1, hr, hx, a2]; first | done | rfl) rfl (by simp only [go_sem, Nat.reduceLT]) rfl rfl ?_; simp only [go_sem, Nat.reduceEqDiff, reduceIte, Nat.reduceAdd, Nat.reduceMul, Nat.reduceSub, Nat.reduceLT, Nat.reduceLeDiff, Nat.reduceBEq, h1, hr, hx, a2]) | (refine qp (k2) (by simp only [go_sem, Nat.reduceEqDiff, reduceIte, Nat.reduceAdd, Nat.reduceMul, Nat.reduceSub, Nat.reduceLT, Nat.reduceLeDiff, Nat.reduceBEq, h1, hr, hx, a2]; first | done | rfl) rfl (by simp only [go_sem, Nat.reduceLT]) rfl rfl ?_; simp only [go_sem, Nat.reduceEqDiff, reduceIte, Nat.reduceAdd, Nat.reduceMul, Nat.reduceSub, Nat.reduceLT, Nat.reduceLeDiff, Nat.reduceBEq, h1, hr, hx, a2]) | (refine qp (k3) (by simp only [go_sem, Nat.reduceEqDiff, reduceIte, Nat.reduceAdd, Nat.reduceMul, Nat.reduceSub, Nat.reduceLT, Nat.reduceLeDiff, Nat.reduceBEq, h1, hr, hx, a2]; first | done | rfl) rfl (by simp only [go_sem, Nat.reduceLT]) rfl rfl ?_; simp only [go_sem, Nat.reduceEqDiff, reduceIte, Nat.reduceAdd, Nat.reduceMul, Nat.reduceSub, Nat.reduceLT, Nat.reduceLeDiff, Nat.reduceBEq, h1, hr, hx, a2]) | (refine qp (k4) (by simp only [go_sem, Nat.reduceEqDiff, reduceIte, Nat.reduceAdd, Nat.reduceMul, Nat.reduceSub, Nat.reduceLT, Nat.reduceLeDiff, Nat.reduceBEq, h1, hr, hx, a2]; first | done | rfl) rfl (by simp only [go_sem, Nat.reduceLT]) rfl rfl ?_; simp only [go_sem, Nat.reduceEqDiff, reduceIte, Nat.reduceAdd, Nat.reduceMul, Nat.reduceSub, Nat.reduceLT, Nat.reduceLeDiff, Nat.reduceBEq, h1, hr, hx, a2]) | (refine qp (k5) (by simp only [go_sem, Nat.reduceEqDiff, reduceIte, Nat.reduceAdd, Nat.reduceMul, Nat.reduceSub, Nat.reduceLT, Nat.reduceLeDiff, Nat.reduceBEq, h1, hr, hx, a2]; first | done | rfl) rfl (by simp only [go_sem, Nat.reduceLT]) rfl rfl ?_; simp only [go_sem, Nat.reduceEqDiff, reduceIte, Nat.reduceAdd, Nat.reduceMul, Nat.reduceSub, Nat.reduceLT, Nat.reduceLeDiff, Nat.reduceBEq, h1, hr, hx, a2]) | (refine qp (k6) (by simp only [go_sem, Nat.reduceEqDiff, reduceIte, Nat.reduceAdd, Nat.reduceMul, Nat.reduceSub, Nat.reduceLT, Nat.reduceLeDiff, Nat.reduceBEq, h1, hr, hx, a2]; first | done | rfl) rfl (by simp only [go_sem, Nat.reduceLT]) rfl rfl ?_; simp only [go_sem, Nat.reduceEqDiff, reduceIte, Nat.reduceAdd, Nat.reduceMul, Nat.reduceSub, Nat.reduceLT, Nat.reduceLeDiff, Nat.reduceBEq, h1, hr, hx, a2]))
      exact Aw_ret (ret0 (.inl rfl) (by simp only [go_sem, Nat.reduceEqDiff, reduceIte, Nat.reduceAdd, Nat.reduceMul, Nat.reduceSub, Nat.reduceLT, Nat.reduceLeDiff, Nat.reduceBEq]; rfl) (by rfl) rfl)
    rw [a5] at k6
    have k7 := hasLate_ac s up (by omega)
    cases a6 : decide (0 ≤ lateI s up)
    case true =>
      rw [a6] at k7
      rw [bad (by rw [hat, a6]; simp)]
      repeat (first | apply Aw_seq | apply Aw_block | apply Aw_skip | apply Aw_exit | refine Aw_condt rfl ?_ | refine Aw_condf rfl ?_ | (refine qr ?_; simp only [go_sem, Nat.reduceEqDiff, reduceIte, Nat.reduceAdd, Nat.reduceMul, Nat.reduceSub, Nat.reduceLT, Nat.reduceLeDiff, Nat.reduceBEq, h1, hr, hx, a2]) | (refine qd (by kernel_rfl) (by kernel_rfl) ?_; simp only [go_sem, Nat.reduceEqDiff, reduceIte, Nat.reduceAdd, Nat.reduceMul, Nat.reduceSub, Nat.reduceLT, Nat.reduceLeDiff, Nat.reduceBEq, h1, hr, hx, a2]) | refine dk (by kernel_rfl) ?_ | (refine qp (k1) (by simp only [go_sem, Nat.reduceEqDiff, reduceIte, Nat.reduceAdd, Nat.reduceMul, Nat.reduceSub, Nat.reduceLT, Nat.reduceLeDiff, Nat.reduceBEq, h1, hr, hx, a2]; first | done | rfl) rfl (by simp only [go_sem, Nat.reduceLT]) rfl rfl ?_; simp only [go_sem, Nat.reduceEqDiff, reduceIte, Nat.reduceAdd, Nat.reduceMul, Nat.reduceSub, Nat.reduceLT, Nat.reduceLeDiff, Nat.reduceBEq, h1, hr, hx, a2]) | (refine qp (k2) (by simp only [go_sem, Nat.reduceEqDiff, reduceIte, Nat.reduceAdd, Nat.reduceMul, Nat.reduceSub, Nat.reduceLT, Nat.reduceLeDiff, Nat.reduceBEq, h1, hr, hx, a2]; first | done | rfl) rfl (by simp only [go_sem, Nat.reduceLT]) rfl rfl ?_; simp only [go_sem, Nat.reduceEqDiff, reduceIte, Nat.reduceAdd, Nat.reduceMul, Nat.reduceSub, Nat.reduceLT, Nat.reduceLeDiff, Nat.reduceBEq, h1, hr, hx, a2]) | (refine qp (k3) (by simp only [go_sem, Nat.reduceEqDiff, reduceIte, Nat.reduceAdd, Nat.reduceMul, Nat.reduceSub, Nat.reduceLT, Nat.reduceLeDiff, Nat.reduceBEq, h1, hr, hx, a2]; first | done | rfl) rfl (by simp only [go_sem, Nat.reduceLT]) rfl rfl ?_; simp only [go_sem, Nat.reduceEqDiff, reduceIte, Nat.reduceAdd, Nat.reduceMul, Nat.reduceSub, Nat.reduceLT, Nat.reduceLeDiff, Nat.reduceBEq, h1, hr, hx, a2]) | (refine qp (k4) (by simp only [go_sem, Nat.reduceEqDiff, reduceIte, Nat.reduceAdd, Nat.reduceMul, Nat.reduceSub, Nat.reduceLT, Nat.reduceLeDiff, Nat.reduceBEq, h1, hr, hx, a2]; first | done | rfl) rfl (by simp only [go_sem, Nat.reduceLT]) rfl rfl ?_; simp only [go_sem, Nat.reduceEqDiff, reduceIte, Nat.reduceAdd, Nat.reduceMul, Nat.reduceSub, Nat.reduceLT, Nat.reduceLeDiff, Nat.reduceBEq, h1, hr, hx, a2]) | (refine qp (k5) (by simp only [go_sem, Nat.reduceEqDiff, reduceIte, Nat.reduceAdd, Nat.reduceMul, Nat.reduceSub, Nat.reduceLT, Nat.reduceLeDiff, Nat.reduceBEq, h1, hr, hx, a2]; first | done | rfl) rfl (by simp only [go_sem, Nat.reduceLT]) rfl rfl ?_; simp only [go_sem, Nat.reduceEqDiff, reduceIte, Nat.reduceAdd, Nat.reduceMul, Nat.reduceSub, Nat.reduceLT, Nat.reduceLeDiff, Nat.reduceBEq, h1, hr, hx, a2]) | (refine qp (k6) (by simp only [go_sem, Nat.reduceEqDiff, reduceIte, Nat.reduceAdd, Nat.reduceMul, Nat.reduceSub, Nat.reduceLT, Nat.reduceLeDiff, Nat.reduceBEq, h1, hr, hx, a2]; first | done | rfl) rfl (by simp only [go_sem, Nat.reduceLT]) rfl rfl ?_; simp only [go_sem, Nat.reduceEqDiff, reduceIte, Nat.reduceAdd, Nat.reduceMul, Nat.reduceSub, Nat.reduceLT, Nat.reduceLeDiff, Nat.reduceBEq, h1, hr, hx, a2]) | (refine qx (call_L (N' := [0]) (L := []) (k7) rfl (.cons (.nm rfl) (.cons (.nm rfl) (.nil))) (by decide) (by decide) (by decide) (by simp only [go_sem, Nat.reduceEqDiff, reduceIte, Nat.reduceAdd, Nat.reduceMul, Nat.reduceSub, Nat.reduceLT, Nat.reduceLeDiff, Nat.reduceBEq, h1, hr, hx, a2]; first | done | rfl) (.inl rfl) rfl (by decide)) (by simp only [go_sem, Nat.reduceEqDiff, reduceIte, Nat.reduceAdd, Nat.reduceMul, Nat.reduceSub, Nat.reduceLT, Nat.reduceLeDiff, Nat.reduceBEq, h1, hr, hx, a2]; first | done | rfl) rfl (by simp only [go_sem, Nat.reduceLT]) ?_; simp only [go_sem, Nat.reduceEqDiff, reduceIte, Nat.reduceAdd, Nat.reduceMul, Nat.reduceSub, Nat.reduceLT, Nat.reduceLeDiff, Nat.reduceBEq, h1, hr, hx, a2]))
      exact Aw_ret (ret0 (.inl rfl) (by simp only [go_sem, Nat.reduceEqDiff, reduceIte, Nat.reduceAdd, Nat.reduceMul, Nat.reduceSub, Nat.reduceLT, Nat.reduceLeDiff, Nat.reduceBEq]; rfl) (by rfl) rfl)
    rw [a6] at k7
    have hok : iAt s i = true := by rw [hat, hlv, a5, a6]; rfl
    have k8 := concatS_ac up r (by omega) (by omega)
    repeat (first | apply Aw_seq | apply Aw_block | apply Aw_skip | apply Aw_exit | refine Aw_condt rfl ?_ | refine Aw_condf rfl ?_ | (refine qr ?_; simp only [go_sem, Nat.reduceEqDiff, reduceIte, Nat.reduceAdd, Nat.reduceMul, Nat.reduceSub, Nat.reduceLT, Nat.reduceLeDiff, Nat.reduceBEq, h1, hr, hx, a2, h2]) | (refine qd (by kernel_rfl) (by kernel_rfl) ?_; simp only [go_sem, Nat.reduceEqDiff, reduceIte, Nat.reduceAdd, Nat.reduceMul, Nat.reduceSub, Nat.reduceLT, Nat.reduceLeDiff, Nat.reduceBEq, h1, hr, hx, a2, h2]) | refine dk (by kernel_rfl) ?_ | (refine qp (k1) (by simp only [go_sem, Nat.reduceEqDiff, reduceIte, Nat.reduceAdd, Nat.reduceMul, Nat.reduceSub, Nat.reduceLT, Nat.reduceLeDiff, Nat.reduceBEq, h1, hr, hx, a2, h2]; first | done | rfl) rfl (by simp only [go_sem, Nat.reduceLT]) rfl rfl ?_; simp only [go_sem, Nat.reduceEqDiff, reduceIte, Nat.reduceAdd, Nat.reduceMul, Nat.reduceSub, Nat.reduceLT, Nat.reduceLeDiff, Nat.reduceBEq, h1, hr, hx, a2, h2]) | (refine qp (k2) (by simp only [go_sem, Nat.reduceEqDiff, reduceIte, Nat.reduceAdd, Nat.reduceMul, Nat.reduceSub, Nat.reduceLT, Nat.reduceLeDiff, Nat.reduceBEq, h1, hr, hx, a2, h2]; first | done | rfl) rfl (by simp only [go_sem, Nat.reduceLT]) rfl rfl ?_; simp only [go_sem, Nat.reduceEqDiff, reduceIte, Nat.reduceAdd, Nat.reduceMul, Nat.reduceSub, Nat.reduceLT, Nat.reduceLeDiff, Nat.reduceBEq, h1, hr, hx, a2, h2]) | (refine qp (k3) (by simp only [go_sem, Nat.reduceEqDiff, reduceIte, Nat.reduceAdd, Nat.reduceMul, Nat.reduceSub, Nat.reduceLT, Nat.reduceLeDiff, Nat.reduceBEq, h1, hr, hx, a2, h2]; first | done | rfl) rfl (by simp only [go_sem, Nat.reduceLT]) rfl rfl ?_; simp only [go_sem, Nat.reduceEqDiff, reduceIte, Nat.reduceAdd, Nat.reduceMul, Nat.reduceSub, Nat.reduceLT, Nat.reduceLeDiff, Nat.reduceBEq, h1, hr, hx, a2, h2]) | (refine qp (k4) (by simp only [go_sem, Nat.reduceEqDiff, reduceIte, Nat.reduceAdd, Nat.reduceMul, Nat.reduceSub, Nat.reduceLT, Nat.reduceLeDiff, Nat.reduceBEq, h1, hr, hx, a2, h2]; first | done | rfl) rfl (by simp only [go_sem, Nat.reduceLT]) rfl rfl ?_; simp only [go_sem, Nat.reduceEqDiff, reduceIte, Nat.reduceAdd, Nat.reduceMul, Nat.reduceSub, Nat.reduceLT, Nat.reduceLeDiff, Nat.reduceBEq, h1, hr, hx, a2, h2]) | (refine qp (k5) (by simp only [go_sem, Nat.reduceEqDiff, reduceIte, Nat.reduceAdd, Nat.reduceMul, Nat.reduceSub, Nat.reduceLT, Nat.reduceLeDiff, Nat.reduceBEq, h1, hr, hx, a2, h2]; first | done | rfl) rfl (by simp only [go_sem, Nat.reduceLT]) rfl rfl ?_; simp only [go_sem, Nat.reduceEqDiff, reduceIte, Nat.reduceAdd, Nat.reduceMul, Nat.reduceSub, Nat.reduceLT, Nat.reduceLeDiff, Nat.reduceBEq, h1, hr, hx, a2, h2]) | (refine qp (k6) (by simp only [go_sem, Nat.reduceEqDiff, reduceIte, Nat.reduceAdd, Nat.reduceMul, Nat.reduceSub, Nat.reduceLT, Nat.reduceLeDiff, Nat.reduceBEq, h1, hr, hx, a2, h2]; first | done | rfl) rfl (by simp only [go_sem, Nat.reduceLT]) rfl rfl ?_; simp only [go_sem, Nat.reduceEqDiff, reduceIte, Nat.reduceAdd, Nat.reduceMul, Nat.reduceSub, Nat.reduceLT, Nat.reduceLeDiff, Nat.reduceBEq, h1, hr, hx, a2, h2]) | (refine qx (call_L (N' := [0]) (L := []) (k7) rfl (.cons (.nm rfl) (.cons (.nm rfl) (.nil))) (by decide) (by decide) (by decide) (by simp only [go_sem, Nat.reduceEqDiff, reduceIte, Nat.reduceAdd, Nat.reduceMul, Nat.reduceSub, Nat.reduceLT, Nat.reduceLeDiff, Nat.reduceBEq, h1, hr, hx, a2, h2]; first | done | rfl) (.inl rfl) rfl (by decide)) (by simp only [go_sem, Nat.reduceEqDiff, reduceIte, Nat.reduceAdd, Nat.reduceMul, Nat.reduceSub, Nat.reduceLT, Nat.reduceLeDiff, Nat.reduceBEq, h1, hr, hx, a2, h2]; first | done | rfl) rfl (by simp only [go_sem, Nat.reduceLT]) ?_; simp only [go_sem, Nat.reduceEqDiff, reduceIte, Nat.reduceAdd, Nat.reduceMul, Nat.reduceSub, Nat.reduceLT, Nat.reduceLeDiff, Nat.reduceBEq, h1, hr, hx, a2, h2]) | (refine qx (call_L (N' := [46]) (L := []) (k8) rfl (.cons (.nm rfl) (.nil)) (by decide) (by decide) (by decide) (by simp only [go_sem, Nat.reduceEqDiff, reduceIte, Nat.reduceAdd, Nat.reduceMul, Nat.reduceSub, Nat.reduceLT, Nat.reduceLeDiff, Nat.reduceBEq, h1, hr, hx, a2, h2]; first | done | rfl) (.inl rfl) rfl (by decide)) (by simp only [go_sem, Nat.reduceEqDiff, reduceIte, Nat.reduceAdd, Nat.reduceMul, Nat.reduceSub, Nat.reduceLT, Nat.reduceLeDiff, Nat.reduceBEq, h1, hr, hx, a2, h2]; first | done | rfl) rfl (by simp only [go_sem, Nat.reduceLT]) ?_; simp only [go_sem, Nat.reduceEqDiff, reduceIte, Nat.reduceAdd, Nat.reduceMul, Nat.reduceSub, Nat.reduceLT, Nat.reduceLeDiff, Nat.reduceBEq, h1, hr, hx, a2, h2]))
    simp only [← List.map_append]
    refine ⟨⟨i + 1, up ++ r, by omega, by rw [hu]; unfold upTo; rw [List.take_succ, hr, List.flatten_append, List.append_assoc]; simp, by rw [List.length_append]; omega, fun j hj => by rcases Nat.lt_succ_iff_lt_or_eq.1 hj with h | rfl; exact hp j h; exact hok⟩, [0], ?_, rwL (by repeat (first | exact trivial | refine ⟨rfl, rfl, ?_⟩)) (by rfl) (by simp only [go_sem, Nat.reduceEqDiff, reduceIte, Nat.reduceAdd, Nat.reduceMul, Nat.reduceSub, Nat.reduceLT, Nat.reduceLeDiff, Nat.reduceBEq]; first | done | rfl) (by decide) (by intro m hm; first | omega | (rcases m with _ | _ | _ | _ | _ | _ | m <;> first | exact ⟨by decide, rfl⟩ | omega))⟩
    show 3 - (i + 1) < 3 - i; omega
  · obtain rfl : i = 3 := by omega
    have h1 : ¬ ((3 : Nat) : Int) < (s.levels.length : Int) := by omega
    have hall : storeI s = true := by unfold storeI; rw [hh, allI_t hp]; rfl
    rw [hall]
    repeat (first | apply Aw_seq | apply Aw_block | apply Aw_skip | apply Aw_exit | refine Aw_condt rfl ?_ | refine Aw_condf rfl ?_ | (refine qr ?_; simp only [go_sem, Nat.reduceEqDiff, reduceIte, Nat.reduceAdd, Nat.reduceMul, Nat.reduceSub, Nat.reduceLT, Nat.reduceLeDiff, Nat.reduceBEq, h1]) | (refine qd (by kernel_rfl) (by kernel_rfl) ?_; simp only [go_sem, Nat.reduceEqDiff, reduceIte, Nat.reduceAdd, Nat.reduceMul, Nat.reduceSub, Nat.reduceLT, Nat.reduceLeDiff, Nat.reduceBEq, h1]) | refine dk (by kernel_rfl) ?_)
    exact Aw_ret (ret0 (.inl rfl) (by simp only [go_sem, Nat.reduceEqDiff, reduceIte, Nat.reduceAdd, Nat.reduceMul, Nat.reduceSub, Nat.reduceLT, Nat.reduceLeDiff, Nat.reduceBEq]; rfl) (by rfl) rfl)
end Go.Proofs.Ytcbhgglpgphimaa.Ab
namespace Go.Proofs.Ytcbhgglpgphimaa.Ab
set_option linter.deprecated false
set_option linter.unusedVariables false
set_option linter.unusedSimpArgs false
open Go
set_option linter.unusedVariables false
set_option linter.unusedSimpArgs false
theorem before_trans {a b c : Ent} (h : before a b = true) (k : before b c = true) : before a c = true := by
  unfold before at *
  simp only [Bool.or_eq_true, Bool.and_eq_true, decide_eq_true_eq] at *
  rcases h with h | ⟨h1, h2⟩ <;> rcases k with k | ⟨k1, k2⟩
  · exact .inl (klt_trans h k)
  · exact .inl (k1 ▸ h)
  · exact .inl (h1 ▸ k)
  · exact .inr ⟨h1.trans k1, by omega⟩
theorem run_pw {r : List Ent} (h : runOk r = true) : r.Pairwise (fun a b => before a b = true) ∧ (∀ e ∈ r, entOk e = true) ∧ r.length ≤ 40 := by
  unfold runOk at h
  rw [Bool.and_eq_true] at h
  have h1 := allI_iff.1 h.1
  have hk : ∀ e ∈ r, entOk e = true := fun e he => by
    obtain ⟨i, hi⟩ := List.mem_iff_getElem?.1 he
    have := h1 i (List.getElem?_eq_some_iff.1 hi).1
    unfold okAt at this; rw [hi] at this; simp only [Bool.and_eq_true] at this; exact this.1
  have hadj : ∀ j p k, r[j]? = some p → r[j + 1]? = some k → before p k = true := fun j p k hp hk => by
    have := h1 (j + 1) (List.getElem?_eq_some_iff.1 hk).1
    unfold okAt at this; rw [hk] at this; simp only [hp, Bool.and_eq_true] at this; exact this.2
  refine ⟨?_, hk, by simpa using h.2⟩
  rw [List.pairwise_iff_getElem]
  intro i j hi hj hij
  have key : ∀ d i (h1 : i < r.length) (h2 : i + d + 1 < r.length), before r[i] r[i + d + 1] = true := by
    intro d
    induction d with
    | zero => intro i h1 h2; exact hadj i _ _ (List.getElem?_eq_getElem h1) (List.getElem?_eq_getElem h2)
    | succ d ih =>
      intro i h1 h2
      exact before_trans (ih i h1 (by omega)) (hadj (i + d + 1) _ _ (List.getElem?_eq_getElem (by omega)) (List.getElem?_eq_getElem h2))
  have := key (j - i - 1) i hi (by omega)
  simpa [show i + (j - i - 1) + 1 = j by omega] using this
theorem entOk_time {e : Ent} (h : entOk e = true) : 1 ≤ e.time ∧ e.time ≤ 999 := by
  unfold entOk inB at h
  simp only [Bool.and_eq_true, decide_eq_true_eq] at h
  exact h.2
/-- What is found at the last time is the newest of its key. -/
theorem at_newest : ∀ {b : List Ent}, b.Pairwise (fun a b => before a b = true) → (∀ e ∈ b, e.time ≤ 999) → ∀ x : Ent, (match atM b x.key 999 with
    | some q => !decide (x.time ≤ q.time)
    | none => true) = b.all fun y => !older x y
  | [], _, _, x => rfl
  | y :: b, hp, ht, x => by
    rw [List.pairwise_cons] at hp
    have hy := ht y (by simp)
    unfold atM
    by_cases e : y.key = x.key
    · rw [List.find?_cons_of_pos (by simp [hit, e, hy])]
      simp only [List.all_cons]
      have h1 : older x y = decide (x.time ≤ y.time) := by unfold older; simp [e]
      rw [h1]
      cases hd : decide (x.time ≤ y.time) with
      | true => rfl
      | false =>
        have hgt := of_decide_eq_false hd
        have : (b.all fun z => !older x z) = true := by
          rw [List.all_eq_true]
          intro z hz
          have hb := hp.1 z hz
          unfold older
          unfold before at hb
          simp only [Bool.or_eq_true, Bool.and_eq_true, decide_eq_true_eq] at hb
          rcases hb with hb | ⟨_, hb⟩
          · have : x.key ≠ z.key := fun e2 => by rw [e, e2, klt_irrefl] at hb; cases hb
            simp [this]
          · have : ¬ x.time ≤ z.time := by omega
            simp [this]
        rw [this]; rfl
    · rw [List.find?_cons_of_neg (by simp [hit, e])]
      have ih := at_newest hp.2 (fun e he => ht e (by simp [he])) x
      unfold atM at ih
      rw [ih, List.all_cons]
      have h1 : older x y = false := by unfold older; rw [decide_eq_false (fun h : x.key = y.key => e h.symm)]; rfl
      rw [h1]; rfl
theorem nwAt_eq {b : List Ent} {now : Int} (hp : b.Pairwise (fun a b => before a b = true)) (ht : ∀ e ∈ b, e.time ≤ 999) (x : Ent) : nwAt b now x = (!decide (now < x.time) && b.all fun y => !older x y) := by
  have h := at_newest hp ht x
  unfold nwAt
  cases hA : atM b x.key 999 with
  | none => rw [hA] at h; simp only [] at h ⊢; rw [← h]
  | some q => rw [hA] at h; simp only [] at h ⊢; rw [← h]
theorem newest_iff {a b : List Ent} {now : Int} (hb : runOk b = true) : newestM a b now = true ↔ (∀ x ∈ a, x.time ≤ now) ∧ newerM a b = true := by
  obtain ⟨h1, h2, _⟩ := run_pw hb
  unfold newestM newerM
  rw [List.all_eq_true, List.all_eq_true]
  constructor
  · intro h
    refine ⟨fun x hx => ?_, fun x hx => ?_⟩
    · have := h x hx; rw [nwAt_eq h1 (fun e he => (entOk_time (h2 e he)).2) x] at this; simp only [Bool.and_eq_true, Bool.not_eq_true', decide_eq_false_iff_not] at this; omega
    · have := h x hx
      rw [nwAt_eq h1 (fun e he => (entOk_time (h2 e he)).2) x, Bool.and_eq_true] at this
      exact this.2
  · rintro ⟨h, k⟩ x hx
    rw [nwAt_eq h1 (fun e he => (entOk_time (h2 e he)).2) x, k x hx, Bool.and_true, Bool.not_eq_true', decide_eq_false_iff_not]
    have := h x hx; omega
theorem newer_app {a b c : List Ent} : newerM (a ++ b) c = (newerM a c && newerM b c) := by unfold newerM; rw [List.all_append]
theorem late_iff {s : Sto} {r : List Ent} : decide (0 ≤ lateI s r) = false ↔ ∀ x ∈ r, x.time ≤ s.time := by
  rw [decide_eq_false_iff_not]
  unfold lateI
  cases h : r.findIdx? (fun e => decide (s.time < e.time)) with
  | none =>
    rw [List.findIdx?_eq_none_iff] at h
    simp only []
    exact ⟨fun _ x hx => by have := h x hx; simp at this; omega, fun _ => by omega⟩
  | some i =>
    simp only []
    rw [List.findIdx?_eq_some_iff_getElem] at h
    obtain ⟨hi, h1, _⟩ := h
    constructor
    · intro h; omega
    · intro h2
      have := h2 _ (List.getElem_mem hi)
      simp at h1; omega
theorem lv_run {keep : Int} {i : Nat} {r : List Ent} {x : Sve} (h : lvM keep i r x = true) : runOk r = true ∧ inB 0 keep 5 = true := by
  unfold lvM at h
  simp only [Bool.and_eq_true] at h
  refine ⟨h.1.1.1, ?_⟩
  have := h.1.2
  unfold sieveM at this
  split at this
  · rename_i hc; exact hc.2
  · cases this
theorem allI3 (p : Nat → Bool) : allI 3 p = (p 0 && (p 1 && p 2)) := by
  unfold allI
  show (List.range 3).all p = _
  rw [show List.range 3 = [0, 1, 2] from rfl]
  simp
theorem store_eq (s : Sto) : storeI s = storeS s := by
  by_cases hl : s.levels.length = 3
  case neg => unfold storeI storeS headM headS; rw [decide_eq_false hl]; rfl
  by_cases hx : s.sieves.length = 3
  case neg => unfold storeI storeS headM headS; rw [decide_eq_false hx]; simp
  obtain ⟨a, b, c, ea⟩ := len3 hl
  obtain ⟨x, y, z, ex⟩ := len3 hx
  have u0 : upTo s 0 = s.top := by simp [upTo]
  have u1 : upTo s 1 = s.top ++ a := by simp [upTo, ea]
  have u2 : upTo s 2 = s.top ++ (a ++ b) := by simp [upTo, ea]
  have i0 : iAt s 0 = (lvM s.keep 0 a x && newerM s.top a && !decide (0 ≤ lateI s s.top)) := by unfold iAt; rw [u0, ea, ex]; rfl
  have i1 : iAt s 1 = (lvM s.keep 1 b y && newerM (s.top ++ a) b && !decide (0 ≤ lateI s (s.top ++ a))) := by unfold iAt; rw [u1, ea, ex]; rfl
  have i2 : iAt s 2 = (lvM s.keep 2 c z && newerM (s.top ++ (a ++ b)) c && !decide (0 ≤ lateI s (s.top ++ (a ++ b)))) := by unfold iAt; rw [u2, ea, ex]; rfl
  have p01 : sPair s 0 1 = newestM a b s.time := by unfold sPair; rw [ea]; rfl
  have p02 : sPair s 0 2 = newestM a c s.time := by unfold sPair; rw [ea]; rfl
  have p12 : sPair s 1 2 = newestM b c s.time := by unfold sPair; rw [ea]; rfl
  have s0 : sAt s 0 = (lvM s.keep 0 a x && newestM s.top a s.time && (newestM a b s.time && newestM a c s.time)) := by
    unfold sAt; rw [allI3, p01, p02, ea, ex]; rfl
  have s1 : sAt s 1 = (lvM s.keep 1 b y && newestM s.top b s.time && newestM b c s.time) := by
    unfold sAt; rw [allI3, p12, ea, ex]; rfl
  have s2 : sAt s 2 = (lvM s.keep 2 c z && newestM s.top c s.time) := by
    unfold sAt; rw [allI3, ea, ex]; simp
  rw [Bool.eq_iff_iff]
  unfold storeI storeS headM headS
  rw [allI3, allI3, i0, i1, i2, s0, s1, s2]
  simp only [Bool.and_eq_true, Bool.not_eq_true', late_iff, newer_app, List.mem_append]
  constructor
  · rintro ⟨⟨⟨⟨⟨⟨h1, h2⟩, h3⟩, h4⟩, h5⟩, h6⟩, ⟨⟨l0, n0⟩, t0⟩, ⟨⟨l1, n1, n1'⟩, t1⟩, ⟨⟨l2, n2, n2', n2''⟩, t2⟩⟩
    obtain ⟨ra, hk⟩ := lv_run l0
    have rb := (lv_run l1).1
    have rc := (lv_run l2).1
    exact ⟨⟨⟨⟨⟨⟨⟨h1, h2⟩, hk⟩, h5⟩, h6⟩, h3⟩, h4⟩, ⟨⟨l0, (newest_iff ra).2 ⟨t0, n0⟩⟩, (newest_iff rb).2 ⟨fun e he => t1 e (.inr he), n1'⟩, (newest_iff rc).2 ⟨fun e he => t1 e (.inr he), n2'⟩⟩, ⟨⟨l1, (newest_iff rb).2 ⟨t0, n1⟩⟩, (newest_iff rc).2 ⟨fun e he => t2 e (.inr (.inr he)), n2''⟩⟩, l2, (newest_iff rc).2 ⟨t0, n2⟩⟩
  · rintro ⟨⟨⟨⟨⟨⟨⟨h1, h2⟩, hk⟩, h5⟩, h6⟩, h3⟩, h4⟩, ⟨⟨l0, n0⟩, n01, n02⟩, ⟨⟨l1, n1⟩, n12⟩, l2, n2⟩
    have ra := (lv_run l0).1
    have rb := (lv_run l1).1
    have rc := (lv_run l2).1
    rw [newest_iff ra] at n0
    rw [newest_iff rb] at n01 n1
    rw [newest_iff rc] at n02 n12 n2
    refine ⟨⟨⟨⟨⟨⟨h1, h2⟩, h3⟩, h4⟩, h5⟩, h6⟩, ⟨⟨l0, n0.2⟩, n0.1⟩, ⟨⟨l1, n1.2, n01.2⟩, fun e he => he.elim (n0.1 e) (n01.1 e)⟩, ⟨⟨l2, n2.2, n02.2, n12.2⟩, fun e he => ?_⟩⟩
    rcases he with he | he | he
    · exact n0.1 e he
    · exact n01.1 e he
    · exact n12.1 e he
end Go.Proofs.Ytcbhgglpgphimaa.Ab
namespace Go.Proofs.Ytcbhgglpgphimaa.Ab
set_option linter.deprecated false
set_option linter.unusedVariables false
set_option linter.unusedSimpArgs false
open Go Go.Proofs
set_option maxRecDepth 10000
set_option maxHeartbeats 8000000
set_option linter.unusedSimpArgs false
set_option linter.unusedVariables false
def entV (e : Ent) : List Value := [.string e.key, .int .i64 e.val, .bool e.gone, .int .i64 e.time]
@[simp] theorem flat_eRow (r : List Ent) : (eRow r).flat = true := by
  unfold eRow
  rw [show r.map entD = (r.map entV).map (·.map D.s) by rw [List.map_map]; rfl]
  exact dRow_flat _ _ _
theorem lnBB {hp : Hp} {n : Nat} {a : TV} {L : List Nat} (h : (a.cells.all fun z => (lendN hp n z).all L.contains) = true) : ∀ z ∈ a.cells, ∀ m ∈ lendN hp n z, m ∈ L := fun z hz m hm => by
  have := List.all_eq_true.1 (List.all_eq_true.1 h z hz) m hm
  simpa using this
@[simp] theorem flat_kRow (r : List ByteArray) : (kRow r).flat = true := by
  unfold kRow
  rw [show r.map strD = (r.map fun s => [Value.string s]).map (·.map D.s) by rw [List.map_map]; rfl]
  exact dRow_flat _ _ _
theorem AC.toL0 {P : Program} {f : FuncId} {args : List TV} {x : AV} (h : AC P f args noHp 0 ⟨x, noHp, 0⟩) : AC P f args noHp 0 ⟨x, hpL [], 0⟩ := by rw [hpL_nil]; exact h
def joinM (a b : List Ent) : List Ent := List.merge a b before
theorem joinM_nil (a : List Ent) : joinM a [] = a := by unfold joinM; exact List.merge_right a
theorem joinM_cc (x y : Ent) (a b : List Ent) : joinM (x :: a) (y :: b) = if before x y = true then x :: joinM a (y :: b) else y :: joinM (x :: a) b := by
  unfold joinM; rw [List.cons_merge_cons]
theorem joinM_nc (y : Ent) (b : List Ent) : joinM [] (y :: b) = y :: joinM [] b := by
  unfold joinM; simp
theorem joinM_len (a b : List Ent) : (joinM a b).length = a.length + b.length := by unfold joinM; rw [List.length_merge]
theorem mem_joinM {a b : List Ent} {e : Ent} (h : e ∈ joinM a b) : e ∈ a ∨ e ∈ b := by unfold joinM at h; exact List.mem_merge.1 h
structure JnI (a b : List Ent) where
  P : List Ent
  i : Nat
  k : Nat
  hi : i ≤ a.length
  hk : k ≤ b.length
  hl : P.length = i + k
  h : P ++ joinM (a.drop i) (b.drop k) = joinM a b
theorem l11Join_ac (a b : List Ent) (ha : a.length ≤ 100000) (hb : b.length ≤ 100000) : AC Try.prog 52 [runT a, runT b] noHp 0 ⟨.t (.c (.h 0)), hpL [some (eRow (joinM a b))], 1⟩ := by
  refine AC_of Try.func52 rfl Try.ntmps52 Try.results52 (by kernel_rfl) rfl ?_
  simp only [List.zipIdx, List.map, Nat.zero_add, Nat.reduceAdd]
  repeat (first | apply Aw_seq | apply Aw_block | apply Aw_skip | apply Aw_exit | refine Aw_condt rfl ?_ | refine Aw_condf rfl ?_ | (refine qr ?_; simp only [go_sem, Nat.reduceEqDiff, reduceIte, Nat.reduceAdd, Nat.reduceMul, Nat.reduceSub, Nat.reduceLT, Nat.reduceLeDiff, Nat.reduceBEq]) | (refine qd (by kernel_rfl) (by kernel_rfl) ?_; simp only [go_sem, Nat.reduceEqDiff, reduceIte, Nat.reduceAdd, Nat.reduceMul, Nat.reduceSub, Nat.reduceLT, Nat.reduceLeDiff, Nat.reduceBEq]) | refine dk (by kernel_rfl) ?_)
  refine Aw.rw (rwL (l' := [(7, .t (iT (0 : Nat))), (6, .t (iT (0 : Nat))), (5, .t (.c (.h 0))), (1, .t (runT b)), (0, .t (runT a))]) (os := [some (eRow [])]) (M := [1]) (n' := 1) (by repeat (first | exact trivial | refine ⟨rfl, rfl, ?_⟩)) (by rfl) (by simp only [go_sem, Nat.reduceEqDiff, reduceIte, Nat.reduceAdd, Nat.reduceMul, Nat.reduceSub, Nat.reduceLT, Nat.reduceLeDiff, Nat.reduceBEq]; first | done | rfl) (by decide) (by intro m hm; first | omega | (rcases m with _ | _ | _ | _ | _ | _ | m <;> first | exact ⟨by decide, rfl⟩ | omega))) ?_
  refine Aw_loop_rw (ι := JnI a b) (fun q => S [(7, .t (iT (q.k : Nat))), (6, .t (iT (q.i : Nat))), (5, .t (.c (.h 0))), (1, .t (runT b)), (0, .t (runT a))] (hpL [some (eRow q.P)]) 1) (fun q => b.length - q.k) ⟨[], 0, 0, Nat.zero_le _, Nat.zero_le _, rfl, rfl⟩ ?_
  rintro ⟨P, i, k, hi, hk, hl, h⟩
  dsimp only
  by_cases hlt : k < b.length
  · have h1 : (k : Int) < (b.length : Int) := by omega
    have w1 := wrap_succ hlt (by omega)
    obtain ⟨y, hy⟩ : ∃ e, b[k]? = some e := ⟨_, List.getElem?_eq_getElem hlt⟩
    have hbd : b.drop k = y :: b.drop (k + 1) := by rw [List.drop_eq_getElem_cons hlt]; congr 1; rw [List.getElem?_eq_getElem hlt] at hy; exact Option.some.inj hy
    repeat (first | apply Aw_seq | apply Aw_block | apply Aw_skip | apply Aw_exit | refine Aw_condt rfl ?_ | refine Aw_condf rfl ?_ | (refine qr ?_; simp only [go_sem, Nat.reduceEqDiff, reduceIte, Nat.reduceAdd, Nat.reduceMul, Nat.reduceSub, Nat.reduceLT, Nat.reduceLeDiff, Nat.reduceBEq, h1]) | (refine qd (by kernel_rfl) (by kernel_rfl) ?_; simp only [go_sem, Nat.reduceEqDiff, reduceIte, Nat.reduceAdd, Nat.reduceMul, Nat.reduceSub, Nat.reduceLT, Nat.reduceLeDiff, Nat.reduceBEq, h1]) | refine dk (by kernel_rfl) ?_)
    refine Aw.rw (rwL (l' := [(7, .t (iT (k : Nat))), (6, .t (iT (i : Nat))), (5, .t (.c (.h 0))), (1, .t (runT b)), (0, .t (runT a))]) (os := [some (eRow P)]) (M := [0]) (n' := 1) (by repeat (first | exact trivial | refine ⟨rfl, rfl, ?_⟩)) (by rfl) (by simp only [go_sem, Nat.reduceEqDiff, reduceIte, Nat.reduceAdd, Nat.reduceMul, Nat.reduceSub, Nat.reduceLT, Nat.reduceLeDiff, Nat.reduceBEq]; first | done | rfl) (by decide) (by intro m hm; first | omega | (rcases m with _ | _ | _ | _ | _ | _ | m <;> first | exact ⟨by decide, rfl⟩ | omega))) ?_
    refine Aw_loop_rw (ι := { q : JnI a b // q.k = k }) (fun q => S [(7, .t (iT (k : Nat))), (6, .t (iT (q.1.i : Nat))), (5, .t (.c (.h 0))), (1, .t (runT b)), (0, .t (runT a))] (hpL [some (eRow q.1.P)]) 1) (fun q => a.length - q.1.i) ⟨⟨P, i, k, hi, hk, hl, h⟩, rfl⟩ ?_
    clear h hl hi P i
    rintro ⟨⟨P, i, k', hi, hk', hl, h⟩, hkk⟩
    dsimp only at hkk ⊢
    subst hkk
    have hap : (P.length + 1) * 40 ≤ 140737488355328 := by omega
    by_cases hia : i < a.length
    · have h2 : (i : Int) < (a.length : Int) := by omega
      have w2 := wrap_succ hia (by omega)
      obtain ⟨x, hx⟩ : ∃ e, a[i]? = some e := ⟨_, List.getElem?_eq_getElem hia⟩
      have had : a.drop i = x :: a.drop (i + 1) := by rw [List.drop_eq_getElem_cons hia]; congr 1; rw [List.getElem?_eq_getElem hia] at hx; exact Option.some.inj hx
      cases c : before x y
      · have hj : (P ++ [y]) ++ joinM (a.drop i) (b.drop (k' + 1)) = joinM a b := by
          rw [← h, hbd, had, joinM_cc, if_neg (by rw [c]; simp)]; simp
        repeat (first | apply Aw_seq | apply Aw_block | apply Aw_skip | apply Aw_exit | refine Aw_condt rfl ?_ | refine Aw_condf rfl ?_ | (refine qr ?_; simp only [go_sem, Nat.reduceEqDiff, reduceIte, Nat.reduceAdd, Nat.reduceMul, Nat.reduceSub, Nat.reduceLT, Nat.reduceLeDiff, Nat.reduceBEq, h2, hx, hy, c, w1, hap]) | (refine qd (by kernel_rfl) (by kernel_rfl) ?_; simp only [go_sem, Nat.reduceEqDiff, reduceIte, Nat.reduceAdd, Nat.reduceMul, Nat.reduceSub, Nat.reduceLT, Nat.reduceLeDiff, Nat.reduceBEq, h2, hx, hy, c, w1, hap]) | refine dk (by kernel_rfl) ?_ | (refine qp (sbefore_ac _ _) (by simp only [go_sem, Nat.reduceEqDiff, reduceIte, Nat.reduceAdd, Nat.reduceMul, Nat.reduceSub, Nat.reduceLT, Nat.reduceLeDiff, Nat.reduceBEq, h2, hx, hy, c, w1, hap]; first | done | rfl) rfl (by simp only [go_sem, Nat.reduceLT]) rfl rfl ?_; simp only [go_sem, Nat.reduceEqDiff, reduceIte, Nat.reduceAdd, Nat.reduceMul, Nat.reduceSub, Nat.reduceLT, Nat.reduceLeDiff, Nat.reduceBEq, h2, hx, hy, c, w1, hap]))
        refine ⟨⟨P ++ [y], i, k' + 1, hi, hlt, by simp; omega, hj⟩, [21], ?_, rwL (by repeat (first | exact trivial | refine ⟨rfl, rfl, ?_⟩)) (by rfl) (by simp only [go_sem, Nat.reduceEqDiff, reduceIte, Nat.reduceAdd, Nat.reduceMul, Nat.reduceSub, Nat.reduceLT, Nat.reduceLeDiff, Nat.reduceBEq, List.map_append, List.map_cons, List.map_nil]; first | done | rfl) (by decide) (by intro m hm; first | omega | (rcases m with _ | _ | _ | _ | _ | _ | m <;> first | exact ⟨by decide, rfl⟩ | omega))⟩
        show b.length - (k' + 1) < b.length - k'; omega
      · have hj : (P ++ [x]) ++ joinM (a.drop (i + 1)) (b.drop k') = joinM a b := by
          rw [← h, hbd, had, joinM_cc, if_pos c]; simp
        repeat (first | apply Aw_seq | apply Aw_block | apply Aw_skip | apply Aw_exit | refine Aw_condt rfl ?_ | refine Aw_condf rfl ?_ | (refine qr ?_; simp only [go_sem, Nat.reduceEqDiff, reduceIte, Nat.reduceAdd, Nat.reduceMul, Nat.reduceSub, Nat.reduceLT, Nat.reduceLeDiff, Nat.reduceBEq, h2, hx, hy, c, w2, hap]) | (refine qd (by kernel_rfl) (by kernel_rfl) ?_; simp only [go_sem, Nat.reduceEqDiff, reduceIte, Nat.reduceAdd, Nat.reduceMul, Nat.reduceSub, Nat.reduceLT, Nat.reduceLeDiff, Nat.reduceBEq, h2, hx, hy, c, w2, hap]) | refine dk (by kernel_rfl) ?_ | (refine qp (sbefore_ac _ _) (by simp only [go_sem, Nat.reduceEqDiff, reduceIte, Nat.reduceAdd, Nat.reduceMul, Nat.reduceSub, Nat.reduceLT, Nat.reduceLeDiff, Nat.reduceBEq, h2, hx, hy, c, w2, hap]; first | done | rfl) rfl (by simp only [go_sem, Nat.reduceLT]) rfl rfl ?_; simp only [go_sem, Nat.reduceEqDiff, reduceIte, Nat.reduceAdd, Nat.reduceMul, Nat.reduceSub, Nat.reduceLT, Nat.reduceLeDiff, Nat.reduceBEq, h2, hx, hy, c, w2, hap]))
        refine ⟨⟨⟨P ++ [x], i + 1, k', hia, hk, by simp; omega, hj⟩, rfl⟩, [21], ?_, rwL (by repeat (first | exact trivial | refine ⟨rfl, rfl, ?_⟩)) (by rfl) (by simp only [go_sem, Nat.reduceEqDiff, reduceIte, Nat.reduceAdd, Nat.reduceMul, Nat.reduceSub, Nat.reduceLT, Nat.reduceLeDiff, Nat.reduceBEq, List.map_append, List.map_cons, List.map_nil]; first | done | rfl) (by decide) (by intro m hm; first | omega | (rcases m with _ | _ | _ | _ | _ | _ | m <;> first | exact ⟨by decide, rfl⟩ | omega))⟩
        show a.length - (i + 1) < a.length - i; omega
    · have h2 : ¬ (i : Int) < (a.length : Int) := by omega
      have hj : (P ++ [y]) ++ joinM (a.drop i) (b.drop (k' + 1)) = joinM a b := by
        rw [← h, hbd, List.drop_eq_nil_of_le (by omega : a.length ≤ i), joinM_nc]; simp
      repeat (first | apply Aw_seq | apply Aw_block | apply Aw_skip | apply Aw_exit | refine Aw_condt rfl ?_ | refine Aw_condf rfl ?_ | (refine qr ?_; simp only [go_sem, Nat.reduceEqDiff, reduceIte, Nat.reduceAdd, Nat.reduceMul, Nat.reduceSub, Nat.reduceLT, Nat.reduceLeDiff, Nat.reduceBEq, h2, hy, w1, hap]) | (refine qd (by kernel_rfl) (by kernel_rfl) ?_; simp only [go_sem, Nat.reduceEqDiff, reduceIte, Nat.reduceAdd, Nat.reduceMul, Nat.reduceSub, Nat.reduceLT, Nat.reduceLeDiff, Nat.reduceBEq, h2, hy, w1, hap]) | refine dk (by kernel_rfl) ?_)
      refine ⟨⟨P ++ [y], i, k' + 1, hi, hlt, by simp; omega, hj⟩, [13], ?_, rwL (by repeat (first | exact trivial | refine ⟨rfl, rfl, ?_⟩)) (by rfl) (by simp only [go_sem, Nat.reduceEqDiff, reduceIte, Nat.reduceAdd, Nat.reduceMul, Nat.reduceSub, Nat.reduceLT, Nat.reduceLeDiff, Nat.reduceBEq, List.map_append, List.map_cons, List.map_nil]; first | done | rfl) (by decide) (by intro m hm; first | omega | (rcases m with _ | _ | _ | _ | _ | _ | m <;> first | exact ⟨by decide, rfl⟩ | omega))⟩
      show b.length - (k' + 1) < b.length - k'; omega
  · have h1 : ¬ (k : Int) < (b.length : Int) := by omega
    have hj : P ++ a.drop i = joinM a b := by rw [← h, List.drop_eq_nil_of_le (by omega : b.length ≤ k), joinM_nil]
    have hap : (P.length + (a.length - i)) * 40 ≤ 140737488355328 := by omega
    rw [← hj]
    have i0 : (0 : Int) ≤ (i : Int) := by omega
    have i1 : (i : Int) ≤ (a.length : Int) := by omega
    have tn : Int.toNat ((i : Nat) : Int) = i := rfl
    have tn2 : Int.toNat ((a.length : Nat) : Int) = a.length := rfl
    have tk : List.take a.length (List.map entD a) = List.map entD a := by rw [List.take_of_length_le (by simp)]
    have td : List.drop i (List.map entD a) = List.map entD (a.drop i) := by rw [List.map_drop]
    repeat (first | apply Aw_seq | apply Aw_block | apply Aw_skip | apply Aw_exit | refine Aw_condt rfl ?_ | refine Aw_condf rfl ?_ | (refine qr ?_; simp only [go_sem, Nat.reduceEqDiff, reduceIte, Nat.reduceAdd, Nat.reduceMul, Nat.reduceSub, Nat.reduceLT, Nat.reduceLeDiff, Nat.reduceBEq, h1, hap, i0, i1, tn, tn2, tk, td, List.length_drop]) | (refine qd (by kernel_rfl) (by kernel_rfl) ?_; simp only [go_sem, Nat.reduceEqDiff, reduceIte, Nat.reduceAdd, Nat.reduceMul, Nat.reduceSub, Nat.reduceLT, Nat.reduceLeDiff, Nat.reduceBEq, h1, hap, i0, i1, tn, tn2, tk, td, List.length_drop]) | refine dk (by kernel_rfl) ?_)
    exact Aw_ret (retL (M := [9]) (.inl rfl) (by simp only [go_sem, Nat.reduceEqDiff, reduceIte, Nat.reduceAdd, Nat.reduceMul, Nat.reduceSub, Nat.reduceLT, Nat.reduceLeDiff, Nat.reduceBEq]; first | done | rfl) rfl rfl (by rfl) (by simp only [go_sem, Nat.reduceEqDiff, reduceIte, Nat.reduceAdd, Nat.reduceMul, Nat.reduceSub, Nat.reduceLT, Nat.reduceLeDiff, Nat.reduceBEq, List.map_append, List.map_cons, List.map_nil]; first | done | rfl | (and_intros <;> rfl)) (by decide) (by intro m hm; first | omega | (rcases m with _ | _ | _ | _ | _ | _ | m <;> first | exact ⟨by decide, rfl⟩ | omega)))
theorem l11JoinS_ac (a b : List Ent) (ha : a.length ≤ 100000) (hb : b.length ≤ 100000) : AC Try.prog 52 [runT a, runT b] noHp 0 ⟨.t (runT (joinM a b)), noHp, 0⟩ := AC.settle0 [0] (l11Join_ac a b ha hb) (SetC.row0 rfl rfl) rfl
/-- Whether an entry is seen, though one of its key stands ahead of it. -/
def gapM (ts : List Int) (e p : Ent) : Bool := ts.any fun t => decide (e.time ≤ t) && decide (t < p.time)
def seenAt (r : List Ent) (ts : List Int) (i : Nat) : Bool := match r[i]? with
  | some e => (match i with
    | 0 => true
    | j + 1 => match r[j]? with
      | some p => !decide (p.key = e.key) || gapM ts e p
      | none => true)
  | none => true
theorem any_hit {α : Type} {p : α → Bool} {xs : List α} {i : Nat} {x : α} (h : xs[i]? = some x) (hp : p x = true) : xs.any p = true := List.any_eq_true.2 ⟨x, List.mem_of_getElem? h, hp⟩
theorem any_none {α : Type} {p : α → Bool} {xs : List α} (h : ∀ j, j < xs.length → ∀ y, xs[j]? = some y → p y = false) : xs.any p = false := by
  rw [List.any_eq_false]
  intro x hx
  obtain ⟨i, hi⟩ := List.mem_iff_getElem?.1 hx
  rw [h i (List.getElem?_eq_some_iff.1 hi).1 x hi]; simp
theorem l11Seen_ac (r : List Ent) (i : Nat) (ts : List Int) (e : Ent) (he : r[i]? = some e) (hr : r.length ≤ 1099511627776) (ht : ts.length ≤ 1099511627776) : AC Try.prog 212 [runT r, iT i, intsT ts] noHp 0 ⟨.t (bT (seenAt r ts i)), noHp, 0⟩ := by
  refine AC_of Try.func212 rfl Try.ntmps212 Try.results212 (by kernel_rfl) rfl ?_
  simp only [List.zipIdx, List.map, Nat.zero_add, Nat.reduceAdd]
  have hil := (List.getElem?_eq_some_iff.1 he).1
  rcases i with _ | j
  · have h5 : decide (((0 : Nat) : Int) = 0) = true := rfl
    have hs : seenAt r ts 0 = true := by unfold seenAt; rw [he]
    rw [hs]
    repeat (first | apply Aw_seq | apply Aw_block | apply Aw_skip | apply Aw_exit | refine Aw_condt rfl ?_ | refine Aw_condf rfl ?_ | (refine qr ?_; simp only [go_sem, Nat.reduceEqDiff, reduceIte, Nat.reduceAdd, Nat.reduceMul, Nat.reduceSub, Nat.reduceLT, Nat.reduceLeDiff, Nat.reduceBEq, h5]) | (refine qd (by kernel_rfl) (by kernel_rfl) ?_; simp only [go_sem, Nat.reduceEqDiff, reduceIte, Nat.reduceAdd, Nat.reduceMul, Nat.reduceSub, Nat.reduceLT, Nat.reduceLeDiff, Nat.reduceBEq, h5]) | refine dk (by kernel_rfl) ?_)
    exact Aw_ret (ret0 (.inl rfl) (by simp only [go_sem, Nat.reduceEqDiff, reduceIte, Nat.reduceAdd, Nat.reduceMul, Nat.reduceSub, Nat.reduceLT, Nat.reduceLeDiff, Nat.reduceBEq]; rfl) (by rfl) rfl)
  · have h5 : decide (((j + 1 : Nat) : Int) = 0) = false := decide_eq_false (by omega)
    have h6 := wrap_pred (i := j) (by omega) hr
    obtain ⟨p, hy⟩ : ∃ e, r[j]? = some e := ⟨_, List.getElem?_eq_getElem (by omega)⟩
    cases c : decide (p.key = e.key)
    · have hs : seenAt r ts (j + 1) = true := by unfold seenAt; rw [he]; simp only [hy, c]; rfl
      rw [hs]
      repeat (first | apply Aw_seq | apply Aw_block | apply Aw_skip | apply Aw_exit | refine Aw_condt rfl ?_ | refine Aw_condf rfl ?_ | (refine qr ?_; simp only [go_sem, Nat.reduceEqDiff, reduceIte, Nat.reduceAdd, Nat.reduceMul, Nat.reduceSub, Nat.reduceLT, Nat.reduceLeDiff, Nat.reduceBEq, h5, h6, he, hy, c]) | (refine qd (by kernel_rfl) (by kernel_rfl) ?_; simp only [go_sem, Nat.reduceEqDiff, reduceIte, Nat.reduceAdd, Nat.reduceMul, Nat.reduceSub, Nat.reduceLT, Nat.reduceLeDiff, Nat.reduceBEq, h5, h6, he, hy, c]) | refine dk (by kernel_rfl) ?_)
      exact Aw_ret (ret0 (.inl rfl) (by simp only [go_sem, Nat.reduceEqDiff, reduceIte, Nat.reduceAdd, Nat.reduceMul, Nat.reduceSub, Nat.reduceLT, Nat.reduceLeDiff, Nat.reduceBEq]; rfl) (by rfl) rfl)
    · have hs : seenAt r ts (j + 1) = gapM ts e p := by unfold seenAt; rw [he]; simp only [hy, c]; rfl
      rw [hs]
      repeat (first | apply Aw_seq | apply Aw_block | apply Aw_skip | apply Aw_exit | refine Aw_condt rfl ?_ | refine Aw_condf rfl ?_ | (refine qr ?_; simp only [go_sem, Nat.reduceEqDiff, reduceIte, Nat.reduceAdd, Nat.reduceMul, Nat.reduceSub, Nat.reduceLT, Nat.reduceLeDiff, Nat.reduceBEq, h5, h6, he, hy, c]) | (refine qd (by kernel_rfl) (by kernel_rfl) ?_; simp only [go_sem, Nat.reduceEqDiff, reduceIte, Nat.reduceAdd, Nat.reduceMul, Nat.reduceSub, Nat.reduceLT, Nat.reduceLeDiff, Nat.reduceBEq, h5, h6, he, hy, c]) | refine dk (by kernel_rfl) ?_)
      refine Aw.rw (rw0 (l' := [(7, .t (iT (0 : Nat))), (2, .t (intsT ts)), (1, .t (iT ((j + 1 : Nat) : Int))), (0, .t (runT r))]) (n' := 0) (by repeat (first | exact trivial | refine ⟨rfl, rfl, ?_⟩))) ?_
      refine Aw_loop0 (ι := { i : Nat // i ≤ ts.length ∧ (∀ q, q < i → ∀ t, ts[q]? = some t → (decide (e.time ≤ t) && decide (t < p.time)) = false) }) (fun q => [(7, .t (iT (q.1 : Nat))), (2, .t (intsT ts)), (1, .t (iT ((j + 1 : Nat) : Int))), (0, .t (runT r))]) (fun q => ts.length - q.1) ⟨0, Nat.zero_le _, fun q hq => absurd hq (by omega)⟩ ?_
      rintro ⟨i, hi, hp⟩
      dsimp only
      by_cases hlt : i < ts.length
      · have h1 : (i : Int) < (ts.length : Int) := by omega
        have h2 := wrap_succ hlt ht
        obtain ⟨t, hx⟩ : ∃ t, ts[i]? = some t := ⟨_, List.getElem?_eq_getElem hlt⟩
        cases c1 : decide (e.time ≤ t)
        · repeat (first | apply Aw_seq | apply Aw_block | apply Aw_skip | apply Aw_exit | refine Aw_condt rfl ?_ | refine Aw_condf rfl ?_ | (refine qr ?_; simp only [go_sem, Nat.reduceEqDiff, reduceIte, Nat.reduceAdd, Nat.reduceMul, Nat.reduceSub, Nat.reduceLT, Nat.reduceLeDiff, Nat.reduceBEq, h1, h2, hx, he, c1]) | (refine qd (by kernel_rfl) (by kernel_rfl) ?_; simp only [go_sem, Nat.reduceEqDiff, reduceIte, Nat.reduceAdd, Nat.reduceMul, Nat.reduceSub, Nat.reduceLT, Nat.reduceLeDiff, Nat.reduceBEq, h1, h2, hx, he, c1]) | refine dk (by kernel_rfl) ?_)
          exact ⟨⟨i + 1, by omega, no_succ hp hx (by rw [c1]; rfl)⟩, (by simp only []; omega), rw0 (by repeat (first | exact trivial | refine ⟨rfl, rfl, ?_⟩))⟩
        · cases c2 : decide (t < p.time)
          · repeat (first | apply Aw_seq | apply Aw_block | apply Aw_skip | apply Aw_exit | refine Aw_condt rfl ?_ | refine Aw_condf rfl ?_ | (refine qr ?_; simp only [go_sem, Nat.reduceEqDiff, reduceIte, Nat.reduceAdd, Nat.reduceMul, Nat.reduceSub, Nat.reduceLT, Nat.reduceLeDiff, Nat.reduceBEq, h1, h2, hx, he, hy, h6, c1, c2]) | (refine qd (by kernel_rfl) (by kernel_rfl) ?_; simp only [go_sem, Nat.reduceEqDiff, reduceIte, Nat.reduceAdd, Nat.reduceMul, Nat.reduceSub, Nat.reduceLT, Nat.reduceLeDiff, Nat.reduceBEq, h1, h2, hx, he, hy, h6, c1, c2]) | refine dk (by kernel_rfl) ?_)
            exact ⟨⟨i + 1, by omega, no_succ hp hx (by rw [c2]; simp)⟩, (by simp only []; omega), rw0 (by repeat (first | exact trivial | refine ⟨rfl, rfl, ?_⟩))⟩
          · have hg : gapM ts e p = true := any_hit hx (by rw [c1, c2]; rfl)
            rw [hg]
            repeat (first | apply Aw_seq | apply Aw_block | apply Aw_skip | apply Aw_exit | refine Aw_condt rfl ?_ | refine Aw_condf rfl ?_ | (refine qr ?_; simp only [go_sem, Nat.reduceEqDiff, reduceIte, Nat.reduceAdd, Nat.reduceMul, Nat.reduceSub, Nat.reduceLT, Nat.reduceLeDiff, Nat.reduceBEq, h1, h2, hx, he, hy, h6, c1, c2]) | (refine qd (by kernel_rfl) (by kernel_rfl) ?_; simp only [go_sem, Nat.reduceEqDiff, reduceIte, Nat.reduceAdd, Nat.reduceMul, Nat.reduceSub, Nat.reduceLT, Nat.reduceLeDiff, Nat.reduceBEq, h1, h2, hx, he, hy, h6, c1, c2]) | refine dk (by kernel_rfl) ?_)
            exact Aw_ret (ret0 (.inl rfl) (by simp only [go_sem, Nat.reduceEqDiff, reduceIte, Nat.reduceAdd, Nat.reduceMul, Nat.reduceSub, Nat.reduceLT, Nat.reduceLeDiff, Nat.reduceBEq]; rfl) (by rfl) rfl)
      · have h1 : ¬ (i : Int) < (ts.length : Int) := by omega
        obtain rfl : i = ts.length := by omega
        have hg : gapM ts e p = false := any_none hp
        rw [hg]
        repeat (first | apply Aw_seq | apply Aw_block | apply Aw_skip | apply Aw_exit | refine Aw_condt rfl ?_ | refine Aw_condf rfl ?_ | (refine qr ?_; simp only [go_sem, Nat.reduceEqDiff, reduceIte, Nat.reduceAdd, Nat.reduceMul, Nat.reduceSub, Nat.reduceLT, Nat.reduceLeDiff, Nat.reduceBEq, h1]) | (refine qd (by kernel_rfl) (by kernel_rfl) ?_; simp only [go_sem, Nat.reduceEqDiff, reduceIte, Nat.reduceAdd, Nat.reduceMul, Nat.reduceSub, Nat.reduceLT, Nat.reduceLeDiff, Nat.reduceBEq, h1]) | refine dk (by kernel_rfl) ?_)
        exact Aw_ret (ret0 (.inl rfl) (by simp only [go_sem, Nat.reduceEqDiff, reduceIte, Nat.reduceAdd, Nat.reduceMul, Nat.reduceSub, Nat.reduceLT, Nat.reduceLeDiff, Nat.reduceBEq]; rfl) (by rfl) rfl)
def trimAt (r : List Ent) (ts : List Int) (i : Nat) : List Ent := match r[i]? with
  | some e => if seenAt r ts i = true then [e] else []
  | none => []
def trim1 (r : List Ent) (ts : List Int) : List Ent := colI r.length (trimAt r ts)
def lastAt (r : List Ent) (e : Ent) (i : Nat) : Bool := match r[i + 1]? with
  | some q => !decide (q.key = e.key)
  | none => true
def lowAt (r : List Ent) (i : Nat) : List Ent := match r[i]? with
  | some e => if (!e.gone || !lastAt r e i) = true then [e] else []
  | none => []
def trim2 (r : List Ent) : List Ent := colI r.length (lowAt r)
def trimM (r : List Ent) (ts : List Int) (bottom : Bool) : List Ent := if bottom = true then trim2 (trim1 r ts) else trim1 r ts
theorem trimAt_len (r : List Ent) (ts : List Int) (i : Nat) : (trimAt r ts i).length ≤ 1 := by unfold trimAt; split <;> (try split) <;> simp
theorem lowAt_len (r : List Ent) (i : Nat) : (lowAt r i).length ≤ 1 := by unfold lowAt; split <;> (try split) <;> simp
theorem trim1_len (r : List Ent) (ts : List Int) : (trim1 r ts).length ≤ r.length := colI_len (trimAt_len r ts)
theorem trim2_len (r : List Ent) : (trim2 r).length ≤ r.length := colI_len (lowAt_len r)
theorem trimM_len (r : List Ent) (ts : List Int) (b : Bool) : (trimM r ts b).length ≤ r.length := by
  unfold trimM; split
  · exact Nat.le_trans (trim2_len _) (trim1_len r ts)
  · exact trim1_len r ts
theorem mem_colI {β : Type} {n : Nat} {f : Nat → List β} {x : β} (h : x ∈ colI n f) : ∃ i, i < n ∧ x ∈ f i := by
  unfold colI at h
  obtain ⟨i, hi, hx⟩ := List.mem_flatMap.1 h
  exact ⟨i, List.mem_range.1 hi, hx⟩
theorem mem_trim1 {r : List Ent} {ts : List Int} {e : Ent} (h : e ∈ trim1 r ts) : e ∈ r := by
  obtain ⟨i, _, hx⟩ := mem_colI h
  unfold trimAt at hx
  split at hx
  · rename_i e' he
    split at hx
    · obtain rfl : e = e' := by simpa using hx
      exact List.mem_of_getElem? he
    · simp at hx
  · simp at hx
theorem mem_trim2 {r : List Ent} {e : Ent} (h : e ∈ trim2 r) : e ∈ r := by
  obtain ⟨i, _, hx⟩ := mem_colI h
  unfold lowAt at hx
  split at hx
  · rename_i e' he
    split at hx
    · obtain rfl : e = e' := by simpa using hx
      exact List.mem_of_getElem? he
    · simp at hx
  · simp at hx
theorem mem_trimM {r : List Ent} {ts : List Int} {b : Bool} {e : Ent} (h : e ∈ trimM r ts b) : e ∈ r := by
  unfold trimM at h; split at h
  · exact mem_trim1 (mem_trim2 h)
  · exact mem_trim1 h
end Go.Proofs.Ytcbhgglpgphimaa.Ab
namespace Go.Proofs.Ytcbhgglpgphimaa.Ab
set_option linter.deprecated false
set_option linter.unusedVariables false
set_option linter.unusedSimpArgs false
open Go Go.Proofs
set_option maxRecDepth 10000
set_option maxHeartbeats 8000000
set_option linter.unusedSimpArgs false
set_option linter.unusedVariables false
theorem l11Trim_ac (r : List Ent) (ts : List Int) (b : Bool) (hr : r.length ≤ 100000) (ht : ts.length ≤ 100000) : AC Try.prog 207 [runT r, intsT ts, bT b] noHp 0 ⟨.t (.c (.h 0)), hpL [some (eRow (trimM r ts b))], 1⟩ := by
  refine AC_of Try.func207 rfl Try.ntmps207 Try.results207 (by kernel_rfl) rfl ?_
  simp only [List.zipIdx, List.map, Nat.zero_add, Nat.reduceAdd]
  repeat (first | apply Aw_seq | apply Aw_block | apply Aw_skip | apply Aw_exit | refine Aw_condt rfl ?_ | refine Aw_condf rfl ?_ | (refine qr ?_; simp only [go_sem, Nat.reduceEqDiff, reduceIte, Nat.reduceAdd, Nat.reduceMul, Nat.reduceSub, Nat.reduceLT, Nat.reduceLeDiff, Nat.reduceBEq]) | (refine qd (by kernel_rfl) (by kernel_rfl) ?_; simp only [go_sem, Nat.reduceEqDiff, reduceIte, Nat.reduceAdd, Nat.reduceMul, Nat.reduceSub, Nat.reduceLT, Nat.reduceLeDiff, Nat.reduceBEq]) | refine dk (by kernel_rfl) ?_)
  refine Aw.rw (rwL (l' := [(8, .t (iT (0 : Nat))), (7, .t (.c (.h 0))), (2, .t (bT b)), (1, .t (intsT ts)), (0, .t (runT r))]) (os := [some (eRow (colI 0 (trimAt r ts)))]) (M := [1]) (n' := 1) (by repeat (first | exact trivial | refine ⟨rfl, rfl, ?_⟩)) (by rfl) (by simp only [go_sem, Nat.reduceEqDiff, reduceIte, Nat.reduceAdd, Nat.reduceMul, Nat.reduceSub, Nat.reduceLT, Nat.reduceLeDiff, Nat.reduceBEq, colI_0, List.map_nil]; first | done | rfl) (by decide) (by intro m hm; first | omega | (rcases m with _ | _ | _ | _ | _ | _ | m <;> first | exact ⟨by decide, rfl⟩ | omega))) ?_
  refine Aw_loop_rw (ι := { i : Nat // i ≤ r.length }) (fun q => S [(8, .t (iT (q.1 : Nat))), (7, .t (.c (.h 0))), (2, .t (bT b)), (1, .t (intsT ts)), (0, .t (runT r))] (hpL [some (eRow (colI q.1 (trimAt r ts)))]) 1) (fun q => r.length - q.1) ⟨0, Nat.zero_le _⟩ ?_
  rintro ⟨i, hi⟩
  dsimp only
  by_cases hlt : i < r.length
  · have h1 : (i : Int) < (r.length : Int) := by omega
    have w1 := wrap_succ hlt (by omega)
    obtain ⟨e, hx⟩ : ∃ e, r[i]? = some e := ⟨_, List.getElem?_eq_getElem hlt⟩
    have hb : ((colI i (trimAt r ts)).length + 1) * 40 ≤ 140737488355328 := by have := colI_len (n := i) (trimAt_len r ts); omega
    have k1 := l11Seen_ac r i ts e hx (by omega) (by omega)
    cases c : seenAt r ts i
    · have hc : colI (i + 1) (trimAt r ts) = colI i (trimAt r ts) := by rw [colI_succ]; simp [trimAt, hx, c]
      rw [c] at k1
      repeat (first | apply Aw_seq | apply Aw_block | apply Aw_skip | apply Aw_exit | refine Aw_condt rfl ?_ | refine Aw_condf rfl ?_ | (refine qr ?_; simp only [go_sem, Nat.reduceEqDiff, reduceIte, Nat.reduceAdd, Nat.reduceMul, Nat.reduceSub, Nat.reduceLT, Nat.reduceLeDiff, Nat.reduceBEq, h1, w1, hx, c]) | (refine qd (by kernel_rfl) (by kernel_rfl) ?_; simp only [go_sem, Nat.reduceEqDiff, reduceIte, Nat.reduceAdd, Nat.reduceMul, Nat.reduceSub, Nat.reduceLT, Nat.reduceLeDiff, Nat.reduceBEq, h1, w1, hx, c]) | refine dk (by kernel_rfl) ?_ | (refine qp (k1) (by simp only [go_sem, Nat.reduceEqDiff, reduceIte, Nat.reduceAdd, Nat.reduceMul, Nat.reduceSub, Nat.reduceLT, Nat.reduceLeDiff, Nat.reduceBEq, h1, w1, hx, c]; first | done | rfl) rfl (by simp only [go_sem, Nat.reduceLT]) rfl rfl ?_; simp only [go_sem, Nat.reduceEqDiff, reduceIte, Nat.reduceAdd, Nat.reduceMul, Nat.reduceSub, Nat.reduceLT, Nat.reduceLeDiff, Nat.reduceBEq, h1, w1, hx, c]))
      refine ⟨⟨i + 1, hlt⟩, [0], ?_, rwL (by repeat (first | exact trivial | refine ⟨rfl, rfl, ?_⟩)) (by rfl) (by simp only [go_sem, Nat.reduceEqDiff, reduceIte, Nat.reduceAdd, Nat.reduceMul, Nat.reduceSub, Nat.reduceLT, Nat.reduceLeDiff, Nat.reduceBEq, hc]; first | done | rfl) (by decide) (by intro m hm; first | omega | (rcases m with _ | _ | _ | _ | _ | _ | m <;> first | exact ⟨by decide, rfl⟩ | omega))⟩
      show r.length - (i + 1) < r.length - i; omega
    · have hc : colI (i + 1) (trimAt r ts) = colI i (trimAt r ts) ++ [e] := by rw [colI_succ]; simp [trimAt, hx, c]
      rw [c] at k1
      repeat (first | apply Aw_seq | apply Aw_block | apply Aw_skip | apply Aw_exit | refine Aw_condt rfl ?_ | refine Aw_condf rfl ?_ | (refine qr ?_; simp only [go_sem, Nat.reduceEqDiff, reduceIte, Nat.reduceAdd, Nat.reduceMul, Nat.reduceSub, Nat.reduceLT, Nat.reduceLeDiff, Nat.reduceBEq, h1, w1, hx, c, hb]) | (refine qd (by kernel_rfl) (by kernel_rfl) ?_; simp only [go_sem, Nat.reduceEqDiff, reduceIte, Nat.reduceAdd, Nat.reduceMul, Nat.reduceSub, Nat.reduceLT, Nat.reduceLeDiff, Nat.reduceBEq, h1, w1, hx, c, hb]) | refine dk (by kernel_rfl) ?_ | (refine qp (k1) (by simp only [go_sem, Nat.reduceEqDiff, reduceIte, Nat.reduceAdd, Nat.reduceMul, Nat.reduceSub, Nat.reduceLT, Nat.reduceLeDiff, Nat.reduceBEq, h1, w1, hx, c, hb]; first | done | rfl) rfl (by simp only [go_sem, Nat.reduceLT]) rfl rfl ?_; simp only [go_sem, Nat.reduceEqDiff, reduceIte, Nat.reduceAdd, Nat.reduceMul, Nat.reduceSub, Nat.reduceLT, Nat.reduceLeDiff, Nat.reduceBEq, h1, w1, hx, c, hb]))
      refine ⟨⟨i + 1, hlt⟩, [14], ?_, rwL (by repeat (first | exact trivial | refine ⟨rfl, rfl, ?_⟩)) (by rfl) (by simp only [go_sem, Nat.reduceEqDiff, reduceIte, Nat.reduceAdd, Nat.reduceMul, Nat.reduceSub, Nat.reduceLT, Nat.reduceLeDiff, Nat.reduceBEq, hc, List.map_append, List.map_cons, List.map_nil]; first | done | rfl) (by decide) (by intro m hm; first | omega | (rcases m with _ | _ | _ | _ | _ | _ | m <;> first | exact ⟨by decide, rfl⟩ | omega))⟩
      show r.length - (i + 1) < r.length - i; omega
  · have h1 : ¬ (i : Int) < (r.length : Int) := by omega
    obtain rfl : i = r.length := by omega
    have e1 : colI r.length (trimAt r ts) = trim1 r ts := rfl
    rw [e1]
    obtain ⟨o, ho⟩ : ∃ o, o = trim1 r ts := ⟨_, rfl⟩
    have hol : o.length ≤ r.length := by rw [ho]; exact trim1_len r ts
    rw [← ho]
    cases b
    · have e2 : trimM r ts false = o := by rw [ho]; rfl
      rw [e2]
      repeat (first | apply Aw_seq | apply Aw_block | apply Aw_skip | apply Aw_exit | refine Aw_condt rfl ?_ | refine Aw_condf rfl ?_ | (refine qr ?_; simp only [go_sem, Nat.reduceEqDiff, reduceIte, Nat.reduceAdd, Nat.reduceMul, Nat.reduceSub, Nat.reduceLT, Nat.reduceLeDiff, Nat.reduceBEq, h1]) | (refine qd (by kernel_rfl) (by kernel_rfl) ?_; simp only [go_sem, Nat.reduceEqDiff, reduceIte, Nat.reduceAdd, Nat.reduceMul, Nat.reduceSub, Nat.reduceLT, Nat.reduceLeDiff, Nat.reduceBEq, h1]) | refine dk (by kernel_rfl) ?_)
      exact Aw_ret (retL (M := [0]) (.inl rfl) (by simp only [go_sem, Nat.reduceEqDiff, reduceIte, Nat.reduceAdd, Nat.reduceMul, Nat.reduceSub, Nat.reduceLT, Nat.reduceLeDiff, Nat.reduceBEq]; first | done | rfl) rfl rfl (by rfl) (by simp only [go_sem, Nat.reduceEqDiff, reduceIte, Nat.reduceAdd, Nat.reduceMul, Nat.reduceSub, Nat.reduceLT, Nat.reduceLeDiff, Nat.reduceBEq]; first | done | rfl | (and_intros <;> rfl)) (by decide) (by intro m hm; first | omega | (rcases m with _ | _ | _ | _ | _ | _ | m <;> first | exact ⟨by decide, rfl⟩ | omega)))
    · have e2 : trimM r ts true = trim2 o := by rw [ho]; rfl
      rw [e2]
      repeat (first | apply Aw_seq | apply Aw_block | apply Aw_skip | apply Aw_exit | refine Aw_condt rfl ?_ | refine Aw_condf rfl ?_ | (refine qr ?_; simp only [go_sem, Nat.reduceEqDiff, reduceIte, Nat.reduceAdd, Nat.reduceMul, Nat.reduceSub, Nat.reduceLT, Nat.reduceLeDiff, Nat.reduceBEq, h1]) | (refine qd (by kernel_rfl) (by kernel_rfl) ?_; simp only [go_sem, Nat.reduceEqDiff, reduceIte, Nat.reduceAdd, Nat.reduceMul, Nat.reduceSub, Nat.reduceLT, Nat.reduceLeDiff, Nat.reduceBEq, h1]) | refine dk (by kernel_rfl) ?_)
      refine Aw.rw (rwL (l' := [(10, .t (iT (0 : Nat))), (9, .t (.c (.h 1))), (7, .t (.c (.h 0)))]) (os := [some (eRow o), some (eRow (colI 0 (lowAt o)))]) (M := [0, 7]) (n' := 2) (by repeat (first | exact trivial | refine ⟨rfl, rfl, ?_⟩)) (by rfl) (by simp only [go_sem, Nat.reduceEqDiff, reduceIte, Nat.reduceAdd, Nat.reduceMul, Nat.reduceSub, Nat.reduceLT, Nat.reduceLeDiff, Nat.reduceBEq, colI_0, List.map_nil]; first | done | rfl) (by decide) (by intro m hm; first | omega | (rcases m with _ | _ | _ | _ | _ | _ | m <;> first | exact ⟨by decide, rfl⟩ | omega))) ?_
      refine Aw.setL (l' := [(10, .t (iT (0 : Nat))), (9, .t (.c (.h 1))), (7, .t (runT o))]) (os' := [none, some (eRow (colI 0 (lowAt o)))]) (n' := 2) [0] (by repeat (first | exact trivial | refine ⟨SetA.same rfl, ?_⟩ | refine ⟨SetA.row rfl rfl (by decide), ?_⟩)) (by repeat (first | exact trivial | refine ⟨rfl, rfl, ?_⟩ | show SubL _ _ _ _)) (by decide) ?_
      refine Aw_loop_rw (ι := { i : Nat // i ≤ o.length }) (fun q => S [(10, .t (iT (q.1 : Nat))), (9, .t (.c (.h 1))), (7, .t (runT o))] (hpL [none, some (eRow (colI q.1 (lowAt o)))]) 2) (fun q => o.length - q.1) ⟨0, Nat.zero_le _⟩ ?_
      rintro ⟨i, hi⟩
      dsimp only
      by_cases hlt : i < o.length
      · have h1 : (i : Int) < (o.length : Int) := by omega
        have w1 := wrap_succ hlt (by omega)
        obtain ⟨e, hx⟩ : ∃ e, o[i]? = some e := ⟨_, List.getElem?_eq_getElem hlt⟩
        have hb : ((colI i (lowAt o)).length + 1) * 40 ≤ 140737488355328 := by have := colI_len (n := i) (lowAt_len o); omega
        have w2 : IntKind.i64.wrap ((i : Int) + 1) = ((i + 1 : Nat) : Int) := w1
        have end_ : ∀ c : List Ent, lowAt o i = c → colI (i + 1) (lowAt o) = colI i (lowAt o) ++ c := fun c h => by rw [colI_succ, h]
        by_cases hn : i + 1 < o.length
        · have h2 : decide (((o.length : Nat) : Int) ≤ ((i + 1 : Nat) : Int)) = false := decide_eq_false (by omega)
          obtain ⟨q, hq⟩ : ∃ e, o[i + 1]? = some e := ⟨_, List.getElem?_eq_getElem hn⟩
          cases c1 : decide (q.key = e.key)
          · cases c2 : e.gone
            · have hc := end_ [e] (by unfold lowAt lastAt; rw [hx]; simp only [hq, c1, c2]; rfl)
              repeat (first | apply Aw_seq | apply Aw_block | apply Aw_skip | apply Aw_exit | refine Aw_condt rfl ?_ | refine Aw_condf rfl ?_ | (refine qr ?_; simp only [go_sem, Nat.reduceEqDiff, reduceIte, Nat.reduceAdd, Nat.reduceMul, Nat.reduceSub, Nat.reduceLT, Nat.reduceLeDiff, Nat.reduceBEq, h1, w1, hx, h2, hq, c1, c2, hb]) | (refine qd (by kernel_rfl) (by kernel_rfl) ?_; simp only [go_sem, Nat.reduceEqDiff, reduceIte, Nat.reduceAdd, Nat.reduceMul, Nat.reduceSub, Nat.reduceLT, Nat.reduceLeDiff, Nat.reduceBEq, h1, w1, hx, h2, hq, c1, c2, hb]) | refine dk (by kernel_rfl) ?_)
              refine ⟨⟨i + 1, hlt⟩, [0, 40], ?_, rwL (by repeat (first | exact trivial | refine ⟨rfl, rfl, ?_⟩)) (by rfl) (by simp only [go_sem, Nat.reduceEqDiff, reduceIte, Nat.reduceAdd, Nat.reduceMul, Nat.reduceSub, Nat.reduceLT, Nat.reduceLeDiff, Nat.reduceBEq, hc, List.map_append, List.map_cons, List.map_nil, c2]; first | done | rfl) (by decide) (by intro m hm; first | omega | (rcases m with _ | _ | _ | _ | _ | _ | m <;> first | exact ⟨by decide, rfl⟩ | omega))⟩
              show o.length - (i + 1) < o.length - i; omega
            · have hc := end_ [] (by unfold lowAt lastAt; rw [hx]; simp only [hq, c1, c2]; rfl)
              repeat (first | apply Aw_seq | apply Aw_block | apply Aw_skip | apply Aw_exit | refine Aw_condt rfl ?_ | refine Aw_condf rfl ?_ | (refine qr ?_; simp only [go_sem, Nat.reduceEqDiff, reduceIte, Nat.reduceAdd, Nat.reduceMul, Nat.reduceSub, Nat.reduceLT, Nat.reduceLeDiff, Nat.reduceBEq, h1, w1, hx, h2, hq, c1, c2, hb]) | (refine qd (by kernel_rfl) (by kernel_rfl) ?_; simp only [go_sem, Nat.reduceEqDiff, reduceIte, Nat.reduceAdd, Nat.reduceMul, Nat.reduceSub, Nat.reduceLT, Nat.reduceLeDiff, Nat.reduceBEq, h1, w1, hx, h2, hq, c1, c2, hb]) | refine dk (by kernel_rfl) ?_)
              refine ⟨⟨i + 1, hlt⟩, [0, 1], ?_, rwL (by repeat (first | exact trivial | refine ⟨rfl, rfl, ?_⟩)) (by rfl) (by simp only [go_sem, Nat.reduceEqDiff, reduceIte, Nat.reduceAdd, Nat.reduceMul, Nat.reduceSub, Nat.reduceLT, Nat.reduceLeDiff, Nat.reduceBEq, hc, List.append_nil]; first | done | rfl) (by decide) (by intro m hm; first | omega | (rcases m with _ | _ | _ | _ | _ | _ | m <;> first | exact ⟨by decide, rfl⟩ | omega))⟩
              show o.length - (i + 1) < o.length - i; omega
          · cases c2 : e.gone
            · have hc := end_ [e] (by unfold lowAt lastAt; rw [hx]; simp only [hq, c1, c2]; rfl)
              repeat (first | apply Aw_seq | apply Aw_block | apply Aw_skip | apply Aw_exit | refine Aw_condt rfl ?_ | refine Aw_condf rfl ?_ | (refine qr ?_; simp only [go_sem, Nat.reduceEqDiff, reduceIte, Nat.reduceAdd, Nat.reduceMul, Nat.reduceSub, Nat.reduceLT, Nat.reduceLeDiff, Nat.reduceBEq, h1, w1, hx, h2, hq, c1, c2, hb]) | (refine qd (by kernel_rfl) (by kernel_rfl) ?_; simp only [go_sem, Nat.reduceEqDiff, reduceIte, Nat.reduceAdd, Nat.reduceMul, Nat.reduceSub, Nat.reduceLT, Nat.reduceLeDiff, Nat.reduceBEq, h1, w1, hx, h2, hq, c1, c2, hb]) | refine dk (by kernel_rfl) ?_)
              refine ⟨⟨i + 1, hlt⟩, [0, 40], ?_, rwL (by repeat (first | exact trivial | refine ⟨rfl, rfl, ?_⟩)) (by rfl) (by simp only [go_sem, Nat.reduceEqDiff, reduceIte, Nat.reduceAdd, Nat.reduceMul, Nat.reduceSub, Nat.reduceLT, Nat.reduceLeDiff, Nat.reduceBEq, hc, List.map_append, List.map_cons, List.map_nil, c2]; first | done | rfl) (by decide) (by intro m hm; first | omega | (rcases m with _ | _ | _ | _ | _ | _ | m <;> first | exact ⟨by decide, rfl⟩ | omega))⟩
              show o.length - (i + 1) < o.length - i; omega
            · have hc := end_ [e] (by unfold lowAt lastAt; rw [hx]; simp only [hq, c1, c2]; rfl)
              repeat (first | apply Aw_seq | apply Aw_block | apply Aw_skip | apply Aw_exit | refine Aw_condt rfl ?_ | refine Aw_condf rfl ?_ | (refine qr ?_; simp only [go_sem, Nat.reduceEqDiff, reduceIte, Nat.reduceAdd, Nat.reduceMul, Nat.reduceSub, Nat.reduceLT, Nat.reduceLeDiff, Nat.reduceBEq, h1, w1, hx, h2, hq, c1, c2, hb]) | (refine qd (by kernel_rfl) (by kernel_rfl) ?_; simp only [go_sem, Nat.reduceEqDiff, reduceIte, Nat.reduceAdd, Nat.reduceMul, Nat.reduceSub, Nat.reduceLT, Nat.reduceLeDiff, Nat.reduceBEq, h1, w1, hx, h2, hq, c1, c2, hb]) | refine dk (by kernel_rfl) ?_)
              refine ⟨⟨i + 1, hlt⟩, [0, 42], ?_, rwL (by repeat (first | exact trivial | refine ⟨rfl, rfl, ?_⟩)) (by rfl) (by simp only [go_sem, Nat.reduceEqDiff, reduceIte, Nat.reduceAdd, Nat.reduceMul, Nat.reduceSub, Nat.reduceLT, Nat.reduceLeDiff, Nat.reduceBEq, hc, List.map_append, List.map_cons, List.map_nil, c2]; first | done | rfl) (by decide) (by intro m hm; first | omega | (rcases m with _ | _ | _ | _ | _ | _ | m <;> first | exact ⟨by decide, rfl⟩ | omega))⟩
              show o.length - (i + 1) < o.length - i; omega
        · have h2 : decide (((o.length : Nat) : Int) ≤ ((i + 1 : Nat) : Int)) = true := decide_eq_true (by omega)
          have hn2 : o[i + 1]? = none := List.getElem?_eq_none (by omega)
          cases c2 : e.gone
          · have hc := end_ [e] (by unfold lowAt lastAt; rw [hx]; simp only [hn2, c2]; rfl)
            repeat (first | apply Aw_seq | apply Aw_block | apply Aw_skip | apply Aw_exit | refine Aw_condt rfl ?_ | refine Aw_condf rfl ?_ | (refine qr ?_; simp only [go_sem, Nat.reduceEqDiff, reduceIte, Nat.reduceAdd, Nat.reduceMul, Nat.reduceSub, Nat.reduceLT, Nat.reduceLeDiff, Nat.reduceBEq, h1, w1, hx, h2, hn, c2, hb]) | (refine qd (by kernel_rfl) (by kernel_rfl) ?_; simp only [go_sem, Nat.reduceEqDiff, reduceIte, Nat.reduceAdd, Nat.reduceMul, Nat.reduceSub, Nat.reduceLT, Nat.reduceLeDiff, Nat.reduceBEq, h1, w1, hx, h2, hn, c2, hb]) | refine dk (by kernel_rfl) ?_)
            refine ⟨⟨i + 1, hlt⟩, [0, 28], ?_, rwL (by repeat (first | exact trivial | refine ⟨rfl, rfl, ?_⟩)) (by rfl) (by simp only [go_sem, Nat.reduceEqDiff, reduceIte, Nat.reduceAdd, Nat.reduceMul, Nat.reduceSub, Nat.reduceLT, Nat.reduceLeDiff, Nat.reduceBEq, hc, List.map_append, List.map_cons, List.map_nil, c2]; first | done | rfl) (by decide) (by intro m hm; first | omega | (rcases m with _ | _ | _ | _ | _ | _ | m <;> first | exact ⟨by decide, rfl⟩ | omega))⟩
            show o.length - (i + 1) < o.length - i; omega
          · have hc := end_ [] (by unfold lowAt lastAt; rw [hx]; simp only [hn2, c2]; rfl)
            repeat (first | apply Aw_seq | apply Aw_block | apply Aw_skip | apply Aw_exit | refine Aw_condt rfl ?_ | refine Aw_condf rfl ?_ | (refine qr ?_; simp only [go_sem, Nat.reduceEqDiff, reduceIte, Nat.reduceAdd, Nat.reduceMul, Nat.reduceSub, Nat.reduceLT, Nat.reduceLeDiff, Nat.reduceBEq, h1, w1, hx, h2, hn, c2, hb]) | (refine qd (by kernel_rfl) (by kernel_rfl) ?_; simp only [go_sem, Nat.reduceEqDiff, reduceIte, Nat.reduceAdd, Nat.reduceMul, Nat.reduceSub, Nat.reduceLT, Nat.reduceLeDiff, Nat.reduceBEq, h1, w1, hx, h2, hn, c2, hb]) | refine dk (by kernel_rfl) ?_)
            refine ⟨⟨i + 1, hlt⟩, [0, 1], ?_, rwL (by repeat (first | exact trivial | refine ⟨rfl, rfl, ?_⟩)) (by rfl) (by simp only [go_sem, Nat.reduceEqDiff, reduceIte, Nat.reduceAdd, Nat.reduceMul, Nat.reduceSub, Nat.reduceLT, Nat.reduceLeDiff, Nat.reduceBEq, hc, List.append_nil]; first | done | rfl) (by decide) (by intro m hm; first | omega | (rcases m with _ | _ | _ | _ | _ | _ | m <;> first | exact ⟨by decide, rfl⟩ | omega))⟩
            show o.length - (i + 1) < o.length - i; omega
      · have h1 : ¬ (i : Int) < (o.length : Int) := by omega
        obtain rfl : i = o.length := by omega
        repeat (first | apply Aw_seq | apply Aw_block | apply Aw_skip | apply Aw_exit | refine Aw_condt rfl ?_ | refine Aw_condf rfl ?_ | (refine qr ?_; simp only [go_sem, Nat.reduceEqDiff, reduceIte, Nat.reduceAdd, Nat.reduceMul, Nat.reduceSub, Nat.reduceLT, Nat.reduceLeDiff, Nat.reduceBEq, h1]) | (refine qd (by kernel_rfl) (by kernel_rfl) ?_; simp only [go_sem, Nat.reduceEqDiff, reduceIte, Nat.reduceAdd, Nat.reduceMul, Nat.reduceSub, Nat.reduceLT, Nat.reduceLeDiff, Nat.reduceBEq, h1]) | refine dk (by kernel_rfl) ?_)
        exact Aw_ret (retL (M := [1]) (.inl rfl) (by simp only [go_sem, Nat.reduceEqDiff, reduceIte, Nat.reduceAdd, Nat.reduceMul, Nat.reduceSub, Nat.reduceLT, Nat.reduceLeDiff, Nat.reduceBEq]; first | done | rfl) rfl rfl (by rfl) (by simp only [go_sem, Nat.reduceEqDiff, reduceIte, Nat.reduceAdd, Nat.reduceMul, Nat.reduceSub, Nat.reduceLT, Nat.reduceLeDiff, Nat.reduceBEq, trim2]; first | done | rfl | (and_intros <;> rfl)) (by decide) (by intro m hm; first | omega | (rcases m with _ | _ | _ | _ | _ | _ | m <;> first | exact ⟨by decide, rfl⟩ | omega)))
theorem l11TrimS_ac (r : List Ent) (ts : List Int) (b : Bool) (hr : r.length ≤ 100000) (ht : ts.length ≤ 100000) : AC Try.prog 207 [runT r, intsT ts, bT b] noHp 0 ⟨.t (runT (trimM r ts b)), noHp, 0⟩ := AC.settle0 [0] (l11Trim_ac r ts b hr ht) (SetC.row0 rfl rfl) rfl
end Go.Proofs.Ytcbhgglpgphimaa.Ab
namespace Go.Proofs.Ytcbhgglpgphimaa.Ab
set_option linter.deprecated false
set_option linter.unusedVariables false
set_option linter.unusedSimpArgs false
open Go Go.Proofs
set_option maxRecDepth 10000
set_option maxHeartbeats 8000000
set_option linter.unusedSimpArgs false
set_option linter.unusedVariables false
/-- What is left of a heap when some rows are settled; what held them holds their data. -/
def SubS (hp : Hp) (L : List Nat) (i : Nat) : List (Option Obj) → List (Option Obj) → Prop
  | some o :: s, some o' :: s' => (o' = o ∨ SetO hp L o o') ∧ L.contains i = false ∧ SubS hp L (i + 1) s s'
  | _ :: s, none :: s' => SubS hp L (i + 1) s s'
  | _, [] => True
  | _, _ => False
theorem subS_get {hp : Hp} {L : List Nat} : ∀ {i : Nat} {os os' : List (Option Obj)}, SubS hp L i os os' → ∀ m o', hpL os' m = some o' → L.contains (i + m) = false ∧ ∃ o, hpL os m = some o ∧ (o' = o ∨ SetO hp L o o')
  | i, some o :: s, some o' :: s', h, 0, q, hq => by
    rw [l_c0] at hq ⊢; obtain ⟨h1, h2, _⟩ := h; cases hq; exact ⟨h2, o, rfl, h1⟩
  | i, some o :: s, some o' :: s', h, m + 1, q, hq => by
    rw [l_c1] at hq ⊢; have := subS_get h.2.2 m q hq; rw [show i + (m + 1) = i + 1 + m by omega]; exact this
  | i, o :: s, none :: s', h, 0, q, hq => by rw [l_c0] at hq; cases hq
  | i, some o :: s, none :: s', h, m + 1, q, hq => by
    rw [l_c1] at hq ⊢; have := subS_get (os := s) (os' := s') h m q hq; rw [show i + (m + 1) = i + 1 + m by omega]; exact this
  | i, none :: s, none :: s', h, m + 1, q, hq => by
    rw [l_c1] at hq ⊢; have := subS_get (os := s) (os' := s') h m q hq; rw [show i + (m + 1) = i + 1 + m by omega]; exact this
  | _, _, [], _, m, q, hq => by rw [l_n] at hq; cases hq
  | _, [], none :: _, h, _, _, _ => h.elim
  | _, [], some _ :: _, h, _, _, _ => h.elim
  | _, none :: _, some _ :: _, h, _, _, _ => h.elim
theorem AC.setS {P : Program} {f : FuncId} {args : List TV} {hp : Hp} {k : Nat} {x y : AV} {os os' : List (Option Obj)} {n : Nat} (L : List Nat) (h : AC P f args hp k ⟨x, hpL os, n⟩) (hr : SetA (hpL os) L x y) (hs : SubS (hpL os) L 0 os os') : AC P f args hp k ⟨y, hpL os', n⟩ :=
  AC.settle h hr (fun m o' hm => by
    obtain ⟨h1, o, h2, h3⟩ := subS_get hs m o' hm
    exact ⟨by simpa using h1, o, h2, h3⟩) (Nat.le_refl n)
def lvRow (l : List (List Ent)) : Obj := dRow 24 1 (l.map lvD)
@[go_sem] theorem r_lvRow (l : List (List Ent)) : lvRow l = dRow 24 1 (l.map lvD) := rfl
abbrev hT (s : Sto) : TV := .agg [.h 2, .h 0, .h 1, .d (.s (.int .i64 s.keep)), .d (.s (.int .i64 s.time)), .h 3]
def tmRow (ts : List Int) : Obj := dRow 3 1 (ts.map intD)
@[go_sem] theorem r_tmRow (ts : List Int) : tmRow ts = dRow 3 1 (ts.map intD) := rfl
def hS (s : Sto) : List (Option Obj) := [some (lvRow s.levels), some (svRow s.sieves), some (eRow s.top), some (tmRow s.times)]
@[go_sem] theorem r_hS (s : Sto) : hS s = [some (dRow 24 1 (s.levels.map lvD)), some (dRow 67 5 (s.sieves.map sveD)), some (dRow 47 4 (s.top.map entD)), some (dRow 3 1 (s.times.map intD))] := rfl
/-- And a run. -/
def hR (s : Sto) (r : List Ent) : List (Option Obj) := [some (lvRow s.levels), some (svRow s.sieves), some (eRow s.top), some (tmRow s.times), some (eRow r)]
@[go_sem] theorem r_hR (s : Sto) (r : List Ent) : hR s r = [some (dRow 24 1 (s.levels.map lvD)), some (dRow 67 5 (s.sieves.map sveD)), some (dRow 47 4 (s.top.map entD)), some (dRow 3 1 (s.times.map intD)), some (dRow 47 4 (r.map entD))] := rfl
def hG (s : Sto) : List (Option Obj) := [some (lvRow s.levels), some (svRow s.sieves), some (eRow s.top), some (tmRow s.times), none]
@[go_sem] theorem r_hG (s : Sto) : hG s = [some (dRow 24 1 (s.levels.map lvD)), some (dRow 67 5 (s.sieves.map sveD)), some (dRow 47 4 (s.top.map entD)), some (dRow 3 1 (s.times.map intD)), none] := rfl
theorem Aw.setS {P : Program} {N k : Nat} {x : Code} {Q : Exit → St → Prop} {l l' : List (Nat × AV)} {os os' : List (Option Obj)} {n n' : Nat} (L : List Nat) (h : ChkS L (hpL os) l l') (hs : SubS (hpL os) L 0 os os') (hn : n ≤ n') (q : Aw P N k x Q (S l' (hpL os') n')) : Aw P N k x Q (S l (hpL os) n) :=
  Aw.settle (stl_look h (fun m o' hm => by
    obtain ⟨h1, o, h2, h3⟩ := subS_get hs m o' hm
    exact ⟨by simpa using h1, o, h2, h3⟩) hn) q
/-- A level that is set. -/
def setM (s : Sto) (i : Nat) (r : List Ent) : Option Sto := match sieveM (keysM r) s.keep with
  | some x => if r.length ≤ 8 * (i + 1) then some { s with levels := s.levels.set i r, sieves := s.sieves.set i x } else none
  | none => none
abbrev zA : TV := .agg [.d (.s (.slice none 0 0)), .d (.s (.slice none 0 0)), .d (.s (.slice none 0 0)), .d (.s (.int .i64 0)), .d (.s (.int .i64 0)), .d (.s (.slice none 0 0))]
theorem zA_nil : NilA (.tup [zA, bT false]) (.tup [stT zSto, bT false]) := .cons (.cons (NilC.nil _) (.cons (NilC.nil _) (.cons (NilC.nil _) (.cons (.inl rfl) (.cons (.inl rfl) (.cons (NilC.nil _) .nil)))))) (.cons (NilT.refl _) .nil)
theorem l12Set_no (s : Sto) (i : Nat) (r : List Ent) (hi : i ≤ 1000) (hr : SmR r) (h : setM s i r = none) : AC Try.prog 203 [hT s, iT i, .c (.h 4)] (hpL (hR s r)) 5 ⟨.tup [zA, bT false], hpL (hG s), 5⟩ := by
  refine AC_of Try.func203 rfl Try.ntmps203 Try.results203 (by kernel_rfl) rfl ?_
  simp only [List.zipIdx, List.map, Nat.zero_add, Nat.reduceAdd]
  refine Aw.setL (l' := [(0, .t (hT s)), (1, .t (iT i)), (2, .t (runT r))]) (os' := [some (lvRow s.levels), some (svRow s.sieves), some (eRow s.top), some (tmRow s.times), none]) (n' := 5) [4] (by repeat (first | exact trivial | refine ⟨SetA.same rfl, ?_⟩ | refine ⟨SetA.row rfl rfl (by decide), ?_⟩)) (by repeat (first | exact trivial | refine ⟨rfl, rfl, ?_⟩ | show SubL _ _ _ _)) (by decide) ?_
  have k1 := skeysOfS_ac r hr
  have k2 := ssieveS_ac (keysM r) s.keep (smS_keys hr)
  have k4 := l12Size_ac i hi
  cases hm : sieveM (keysM r) s.keep with
  | none =>
    rw [hm] at k2
    repeat (first | apply Aw_seq | apply Aw_block | apply Aw_skip | apply Aw_exit | refine Aw_condt rfl ?_ | refine Aw_condf rfl ?_ | (refine qr ?_; simp only [go_sem, Nat.reduceEqDiff, reduceIte, Nat.reduceAdd, Nat.reduceMul, Nat.reduceSub, Nat.reduceLT, Nat.reduceLeDiff, Nat.reduceBEq]) | (refine qd (by kernel_rfl) (by kernel_rfl) ?_; simp only [go_sem, Nat.reduceEqDiff, reduceIte, Nat.reduceAdd, Nat.reduceMul, Nat.reduceSub, Nat.reduceLT, Nat.reduceLeDiff, Nat.reduceBEq]) | refine dk (by kernel_rfl) ?_ | (refine qp (k1) (by simp only [go_sem, Nat.reduceEqDiff, reduceIte, Nat.reduceAdd, Nat.reduceMul, Nat.reduceSub, Nat.reduceLT, Nat.reduceLeDiff, Nat.reduceBEq]; first | done | rfl) rfl (by simp only [go_sem, Nat.reduceLT]) rfl rfl ?_; simp only [go_sem, Nat.reduceEqDiff, reduceIte, Nat.reduceAdd, Nat.reduceMul, Nat.reduceSub, Nat.reduceLT, Nat.reduceLeDiff, Nat.reduceBEq]) | (refine qp (k2) (by simp only [go_sem, Nat.reduceEqDiff, reduceIte, Nat.reduceAdd, Nat.reduceMul, Nat.reduceSub, Nat.reduceLT, Nat.reduceLeDiff, Nat.reduceBEq]; first | done | rfl) rfl (by simp only [go_sem, Nat.reduceLT]) rfl rfl ?_; simp only [go_sem, Nat.reduceEqDiff, reduceIte, Nat.reduceAdd, Nat.reduceMul, Nat.reduceSub, Nat.reduceLT, Nat.reduceLeDiff, Nat.reduceBEq]))
    exact Aw_ret (retL (M := [0, 1, 2, 3, 4]) (.inl rfl) (by simp only [go_sem, Nat.reduceEqDiff, reduceIte, Nat.reduceAdd, Nat.reduceMul, Nat.reduceSub, Nat.reduceLT, Nat.reduceLeDiff, Nat.reduceBEq]; first | done | rfl) rfl rfl (by rfl) (by simp only [go_sem, Nat.reduceEqDiff, reduceIte, Nat.reduceAdd, Nat.reduceMul, Nat.reduceSub, Nat.reduceLT, Nat.reduceLeDiff, Nat.reduceBEq]; first | done | rfl | (and_intros <;> rfl)) (by decide) (by intro m hm; first | omega | (rcases m with _ | _ | _ | _ | _ | _ | m <;> first | exact ⟨by decide, rfl⟩ | omega)))
  | some x =>
    rw [hm] at k2
    have h1 : decide (((8 * (i + 1) : Nat) : Int) < (r.length : Int)) = true := decide_eq_true (by unfold setM at h; rw [hm] at h; simp at h; omega)
    repeat (first | apply Aw_seq | apply Aw_block | apply Aw_skip | apply Aw_exit | refine Aw_condt rfl ?_ | refine Aw_condf rfl ?_ | (refine qr ?_; simp only [go_sem, Nat.reduceEqDiff, reduceIte, Nat.reduceAdd, Nat.reduceMul, Nat.reduceSub, Nat.reduceLT, Nat.reduceLeDiff, Nat.reduceBEq, h1]) | (refine qd (by kernel_rfl) (by kernel_rfl) ?_; simp only [go_sem, Nat.reduceEqDiff, reduceIte, Nat.reduceAdd, Nat.reduceMul, Nat.reduceSub, Nat.reduceLT, Nat.reduceLeDiff, Nat.reduceBEq, h1]) | refine dk (by kernel_rfl) ?_ | (refine qp (k1) (by simp only [go_sem, Nat.reduceEqDiff, reduceIte, Nat.reduceAdd, Nat.reduceMul, Nat.reduceSub, Nat.reduceLT, Nat.reduceLeDiff, Nat.reduceBEq, h1]; first | done | rfl) rfl (by simp only [go_sem, Nat.reduceLT]) rfl rfl ?_; simp only [go_sem, Nat.reduceEqDiff, reduceIte, Nat.reduceAdd, Nat.reduceMul, Nat.reduceSub, Nat.reduceLT, Nat.reduceLeDiff, Nat.reduceBEq, h1]) | (refine qp (k2) (by simp only [go_sem, Nat.reduceEqDiff, reduceIte, Nat.reduceAdd, Nat.reduceMul, Nat.reduceSub, Nat.reduceLT, Nat.reduceLeDiff, Nat.reduceBEq, h1]; first | done | rfl) rfl (by simp only [go_sem, Nat.reduceLT]) rfl rfl ?_; simp only [go_sem, Nat.reduceEqDiff, reduceIte, Nat.reduceAdd, Nat.reduceMul, Nat.reduceSub, Nat.reduceLT, Nat.reduceLeDiff, Nat.reduceBEq, h1]) | (refine qp (k4) (by simp only [go_sem, Nat.reduceEqDiff, reduceIte, Nat.reduceAdd, Nat.reduceMul, Nat.reduceSub, Nat.reduceLT, Nat.reduceLeDiff, Nat.reduceBEq, h1]; first | done | rfl) rfl (by simp only [go_sem, Nat.reduceLT]) rfl rfl ?_; simp only [go_sem, Nat.reduceEqDiff, reduceIte, Nat.reduceAdd, Nat.reduceMul, Nat.reduceSub, Nat.reduceLT, Nat.reduceLeDiff, Nat.reduceBEq, h1]))
    exact Aw_ret (retL (M := [0, 1, 2, 3, 4]) (.inl rfl) (by simp only [go_sem, Nat.reduceEqDiff, reduceIte, Nat.reduceAdd, Nat.reduceMul, Nat.reduceSub, Nat.reduceLT, Nat.reduceLeDiff, Nat.reduceBEq]; first | done | rfl) rfl rfl (by rfl) (by simp only [go_sem, Nat.reduceEqDiff, reduceIte, Nat.reduceAdd, Nat.reduceMul, Nat.reduceSub, Nat.reduceLT, Nat.reduceLeDiff, Nat.reduceBEq]; first | done | rfl | (and_intros <;> rfl)) (by decide) (by intro m hm; first | omega | (rcases m with _ | _ | _ | _ | _ | _ | m <;> first | exact ⟨by decide, rfl⟩ | omega)))
theorem set_lv (l : List (List Ent)) (i : Nat) (r : List Ent) : ((l.map lvD).map (·.map CV.d)).set i [.d (.rs 4 (r.map entD))] = ((l.set i r).map lvD).map (·.map CV.d) := by
  rw [List.map_set, List.map_set]; rfl
theorem set_sv (l : List Sve) (i : Nat) (x : Sve) : ((l.map sveD).map (·.map CV.d)).set i [.d (.s (.string x.letters)), .d (.s (.string x.more)), .d (.s (.string x.first)), .d (.rs 1 (x.rests.map strD)), .d (.s (.int .i64 x.keep))] = ((l.set i x).map sveD).map (·.map CV.d) := by
  rw [List.map_set, List.map_set]; rfl
theorem l12Set_ok (s s' : Sto) (i : Nat) (r : List Ent) (hi : i ≤ 1000) (hl : i < s.levels.length) (hv : i < s.sieves.length) (hr : SmR r) (h : setM s i r = some s') : AC Try.prog 203 [hT s, iT i, .c (.h 4)] (hpL (hR s r)) 5 ⟨.tup [hT s', bT true], hpL (hG s'), 5⟩ := by
  refine AC_of Try.func203 rfl Try.ntmps203 Try.results203 (by kernel_rfl) rfl ?_
  simp only [List.zipIdx, List.map, Nat.zero_add, Nat.reduceAdd]
  refine Aw.setL (l' := [(0, .t (hT s)), (1, .t (iT i)), (2, .t (runT r))]) (os' := [some (lvRow s.levels), some (svRow s.sieves), some (eRow s.top), some (tmRow s.times), none]) (n' := 5) [4] (by repeat (first | exact trivial | refine ⟨SetA.same rfl, ?_⟩ | refine ⟨SetA.row rfl rfl (by decide), ?_⟩)) (by repeat (first | exact trivial | refine ⟨rfl, rfl, ?_⟩ | show SubL _ _ _ _)) (by decide) ?_
  have k1 := skeysOfS_ac r hr
  have k2 := ssieveS_ac (keysM r) s.keep (smS_keys hr)
  have k4 := l12Size_ac i hi
  unfold setM at h
  cases hm : sieveM (keysM r) s.keep with
  | none => rw [hm] at h; cases h
  | some x =>
    rw [hm] at h k2
    have hx : (some x).getD zSve = x := rfl
    rw [hx] at k2
    by_cases hc : r.length ≤ 8 * (i + 1)
    · simp only [if_pos hc, Option.some.injEq] at h
      subst h
      have h1 : decide (((8 * (i + 1) : Nat) : Int) < (r.length : Int)) = false := decide_eq_false (by omega)
      obtain ⟨e1, he1⟩ : ∃ e, s.levels[i]? = some e := ⟨_, List.getElem?_eq_getElem hl⟩
      obtain ⟨e2, he2⟩ : ∃ e, s.sieves[i]? = some e := ⟨_, List.getElem?_eq_getElem hv⟩
      repeat (first | apply Aw_seq | apply Aw_block | apply Aw_skip | apply Aw_exit | refine Aw_condt rfl ?_ | refine Aw_condf rfl ?_ | (refine qr ?_; simp only [go_sem, Nat.reduceEqDiff, reduceIte, Nat.reduceAdd, Nat.reduceMul, Nat.reduceSub, Nat.reduceLT, Nat.reduceLeDiff, Nat.reduceBEq, h1, hl, hv, he1, he2]) | (refine qd (by kernel_rfl) (by kernel_rfl) ?_; simp only [go_sem, Nat.reduceEqDiff, reduceIte, Nat.reduceAdd, Nat.reduceMul, Nat.reduceSub, Nat.reduceLT, Nat.reduceLeDiff, Nat.reduceBEq, h1, hl, hv, he1, he2]) | refine dk (by kernel_rfl) ?_ | (refine qp (k1) (by simp only [go_sem, Nat.reduceEqDiff, reduceIte, Nat.reduceAdd, Nat.reduceMul, Nat.reduceSub, Nat.reduceLT, Nat.reduceLeDiff, Nat.reduceBEq, h1, hl, hv, he1, he2]; first | done | rfl) rfl (by simp only [go_sem, Nat.reduceLT]) rfl rfl ?_; simp only [go_sem, Nat.reduceEqDiff, reduceIte, Nat.reduceAdd, Nat.reduceMul, Nat.reduceSub, Nat.reduceLT, Nat.reduceLeDiff, Nat.reduceBEq, h1, hl, hv, he1, he2]) | (refine qp (k2) (by simp only [go_sem, Nat.reduceEqDiff, reduceIte, Nat.reduceAdd, Nat.reduceMul, Nat.reduceSub, Nat.reduceLT, Nat.reduceLeDiff, Nat.reduceBEq, h1, hl, hv, he1, he2]; first | done | rfl) rfl (by simp only [go_sem, Nat.reduceLT]) rfl rfl ?_; simp only [go_sem, Nat.reduceEqDiff, reduceIte, Nat.reduceAdd, Nat.reduceMul, Nat.reduceSub, Nat.reduceLT, Nat.reduceLeDiff, Nat.reduceBEq, h1, hl, hv, he1, he2]) | (refine qp (k4) (by simp only [go_sem, Nat.reduceEqDiff, reduceIte, Nat.reduceAdd, Nat.reduceMul, Nat.reduceSub, Nat.reduceLT, Nat.reduceLeDiff, Nat.reduceBEq, h1, hl, hv, he1, he2]; first | done | rfl) rfl (by simp only [go_sem, Nat.reduceLT]) rfl rfl ?_; simp only [go_sem, Nat.reduceEqDiff, reduceIte, Nat.reduceAdd, Nat.reduceMul, Nat.reduceSub, Nat.reduceLT, Nat.reduceLeDiff, Nat.reduceBEq, h1, hl, hv, he1, he2]))
      exact Aw_ret (retL (M := [0, 1, 2, 3, 4]) (.inl rfl) (by simp only [go_sem, Nat.reduceEqDiff, reduceIte, Nat.reduceAdd, Nat.reduceMul, Nat.reduceSub, Nat.reduceLT, Nat.reduceLeDiff, Nat.reduceBEq]; first | done | rfl) rfl rfl (by rfl) (by simp only [go_sem, Nat.reduceEqDiff, reduceIte, Nat.reduceAdd, Nat.reduceMul, Nat.reduceSub, Nat.reduceLT, Nat.reduceLeDiff, Nat.reduceBEq, set_lv, set_sv]; first | done | rfl | (and_intros <;> rfl)) (by decide) (by intro m hm; first | omega | (rcases m with _ | _ | _ | _ | _ | _ | m <;> first | exact ⟨by decide, rfl⟩ | omega)))
    · simp [hc] at h
end Go.Proofs.Ytcbhgglpgphimaa.Ab
namespace Go.Proofs.Ytcbhgglpgphimaa.Ab
set_option linter.deprecated false
set_option linter.unusedVariables false
set_option linter.unusedSimpArgs false
open Go Go.Proofs
set_option maxRecDepth 10000
set_option maxHeartbeats 8000000
set_option linter.unusedSimpArgs false
set_option linter.unusedVariables false
@[go_sem] theorem all_intD (q : List Int) : (List.map (fun x => List.map CV.d x) (List.map intD q)).all (fun cs => cs.length == 1) = true := by simp [intD]
@[go_sem] theorem r_ixR1 {P : Program} {hp : Hp} (e k : Nat) (els : List (List D)) : ixR P hp e k els 1 = match tiOf P e with
    | some E => if E.sz = k ∧ 0 < k then (els[1]?).map fun cs => (.t (.c (.pr cs)), hp) else none
    | none => none := r_ixR (hp := hp) e k els 1
@[go_sem] theorem r_ixR2 {P : Program} {hp : Hp} (e k : Nat) (els : List (List D)) : ixR P hp e k els 2 = match tiOf P e with
    | some E => if E.sz = k ∧ 0 < k then (els[2]?).map fun cs => (.t (.c (.pr cs)), hp) else none
    | none => none := r_ixR (hp := hp) e k els 2
theorem l12Copy_ac (top a b c : List Ent) (x y z : Sve) (keep time : Int) (ts : List Int) (h0 : top.length ≤ 100000) (h1 : a.length ≤ 100000) (h2 : b.length ≤ 100000) (h3 : c.length ≤ 100000) (h4 : x.rests.length ≤ 1099511627776) (h5 : y.rests.length ≤ 1099511627776) (h6 : z.rests.length ≤ 1099511627776) (h7 : ts.length ≤ 100000) :
    AC Try.prog 192 [stT ⟨top, [a, b, c], [x, y, z], keep, time, ts⟩] noHp 0 ⟨.t (.agg [.h 0, .h 1, .h 2, .d (.s (.int .i64 keep)), .d (.s (.int .i64 time)), .h 3]),
      hpL [some (eRow top), some ⟨24, 1, true, [[.h 4], [.h 5], [.h 6]]⟩, some ⟨67, 5, true, [[.d (.s (.string x.letters)), .d (.s (.string x.more)), .d (.s (.string x.first)), .h 7, .d (.s (.int .i64 x.keep))], [.d (.s (.string y.letters)), .d (.s (.string y.more)), .d (.s (.string y.first)), .h 8, .d (.s (.int .i64 y.keep))], [.d (.s (.string z.letters)), .d (.s (.string z.more)), .d (.s (.string z.first)), .h 9, .d (.s (.int .i64 z.keep))]]⟩,
        some (dRow 3 1 (ts.map intD)), some (eRow a), some (eRow b), some (eRow c), some (kRow x.rests), some (kRow y.rests), some (kRow z.rests)], 10⟩ := by
  refine AC_of Try.func192 rfl Try.ntmps192 Try.results192 (by kernel_rfl) rfl ?_
  simp only [List.zipIdx, List.map, Nat.zero_add, Nat.reduceAdd]
  have q0 : top.length * 40 ≤ 140737488355328 := by omega
  have q1 : a.length * 40 ≤ 140737488355328 := by omega
  have q2 : b.length * 40 ≤ 140737488355328 := by omega
  have q3 : c.length * 40 ≤ 140737488355328 := by omega
  have q4 : x.rests.length * 16 ≤ 140737488355328 := by omega
  have q5 : y.rests.length * 16 ≤ 140737488355328 := by omega
  have q6 : z.rests.length * 16 ≤ 140737488355328 := by omega
  have q7 : ts.length * 8 ≤ 140737488355328 := by omega
  repeat (first | apply Aw_seq | apply Aw_block | apply Aw_skip | apply Aw_exit | refine Aw_condt rfl ?_ | refine Aw_condf rfl ?_ | (refine qr ?_; simp only [go_sem, Nat.reduceEqDiff, reduceIte, Nat.reduceAdd, Nat.reduceMul, Nat.reduceSub, Nat.reduceLT, Nat.reduceLeDiff, Nat.reduceBEq, q0, q7]) | (refine qd (by kernel_rfl) (by kernel_rfl) ?_; simp only [go_sem, Nat.reduceEqDiff, reduceIte, Nat.reduceAdd, Nat.reduceMul, Nat.reduceSub, Nat.reduceLT, Nat.reduceLeDiff, Nat.reduceBEq, q0, q7]) | refine dk (by kernel_rfl) ?_)
  refine Aw_rounds 4 ?_
  refine AwR_succ ?_
  repeat (first | apply Aw_seq | apply Aw_block | apply Aw_skip | apply Aw_exit | refine Aw_condt rfl ?_ | refine Aw_condf rfl ?_ | (refine qr ?_; simp only [go_sem, Nat.reduceEqDiff, reduceIte, Nat.reduceAdd, Nat.reduceMul, Nat.reduceSub, Nat.reduceLT, Nat.reduceLeDiff, Nat.reduceBEq, e03, w01, w12, w23, e13, e23, e33, q1, q2, q3, q4, q5, q6]) | (refine qd (by kernel_rfl) (by kernel_rfl) ?_; simp only [go_sem, Nat.reduceEqDiff, reduceIte, Nat.reduceAdd, Nat.reduceMul, Nat.reduceSub, Nat.reduceLT, Nat.reduceLeDiff, Nat.reduceBEq, e03, w01, w12, w23, e13, e23, e33, q1, q2, q3, q4, q5, q6]) | refine dk (by kernel_rfl) ?_)
  exact Aw_ret (retL (M := [8, 121, 141, 14, 37, 78, 119, 52, 93, 134]) (.inl rfl) (by simp only [go_sem, Nat.reduceEqDiff, reduceIte, Nat.reduceAdd, Nat.reduceMul, Nat.reduceSub, Nat.reduceLT, Nat.reduceLeDiff, Nat.reduceBEq]; first | done | rfl) rfl rfl (by rfl) (by simp only [go_sem, Nat.reduceEqDiff, reduceIte, Nat.reduceAdd, Nat.reduceMul, Nat.reduceSub, Nat.reduceLT, Nat.reduceLeDiff, Nat.reduceBEq]; first | done | rfl | (and_intros <;> rfl)) (by decide) (by intro m hm; first | omega | (rcases m with _ | _ | _ | _ | _ | _ | m <;> first | exact ⟨by decide, rfl⟩ | omega)))
theorem l12CopyS_ac (top a b c : List Ent) (x y z : Sve) (keep time : Int) (ts : List Int) (h0 : top.length ≤ 100000) (h1 : a.length ≤ 100000) (h2 : b.length ≤ 100000) (h3 : c.length ≤ 100000) (h4 : x.rests.length ≤ 1099511627776) (h5 : y.rests.length ≤ 1099511627776) (h6 : z.rests.length ≤ 1099511627776) (h7 : ts.length ≤ 100000) :
    AC Try.prog 192 [stT ⟨top, [a, b, c], [x, y, z], keep, time, ts⟩] noHp 0 ⟨.t (hT ⟨top, [a, b, c], [x, y, z], keep, time, ts⟩), hpL (hS ⟨top, [a, b, c], [x, y, z], keep, time, ts⟩), 4⟩ := by
  have h := AC.setS [4, 5, 6, 7, 8, 9] (l12Copy_ac top a b c x y z keep time ts h0 h1 h2 h3 h4 h5 h6 h7) (y := .t (.agg [.h 0, .h 1, .h 2, .d (.s (.int .i64 keep)), .d (.s (.int .i64 time)), .h 3])) (os' := [some (eRow top), some (lvRow [a, b, c]), some (svRow [x, y, z]), some (tmRow ts)])
    (.cons (.inl rfl) (.cons (.inl rfl) (.cons (.inl rfl) (.cons (.inl rfl) (.cons (.inl rfl) (.cons (.inl rfl) .nil))))))
    ⟨.inl rfl, rfl, .inr ⟨rfl, rfl, rfl, .cons (.cons (SetC.row0 rfl rfl) .nil) (.cons (.cons (SetC.row0 rfl rfl) .nil) (.cons (.cons (SetC.row0 rfl rfl) .nil) .nil))⟩, rfl,
      .inr ⟨rfl, rfl, rfl, .cons (.cons (.inl rfl) (.cons (.inl rfl) (.cons (.inl rfl) (.cons (SetC.row0 rfl rfl) (.cons (.inl rfl) .nil))))) (.cons (.cons (.inl rfl) (.cons (.inl rfl) (.cons (.inl rfl) (.cons (SetC.row0 rfl rfl) (.cons (.inl rfl) .nil))))) (.cons (.cons (.inl rfl) (.cons (.inl rfl) (.cons (.inl rfl) (.cons (SetC.row0 rfl rfl) (.cons (.inl rfl) .nil))))) .nil))⟩, rfl, .inl rfl, rfl, trivial⟩
  refine AC.sel (M := [1, 2, 0, 3]) h rfl rfl (selL rfl ?_) (by decide) fun m hm => absurd hm (by omega)
  simp only [go_sem, LeftL]
end Go.Proofs.Ytcbhgglpgphimaa.Ab
namespace Go.Proofs.Ytcbhgglpgphimaa.Ab
set_option linter.deprecated false
set_option linter.unusedVariables false
set_option linter.unusedSimpArgs false
open Go Go.Proofs
set_option maxRecDepth 10000
set_option maxHeartbeats 8000000
set_option linter.unusedSimpArgs false
set_option linter.unusedVariables false
structure SmH (s : Sto) : Prop where
  ll : s.levels.length = 3
  sl : s.sieves.length = 3
  lev : ∀ r ∈ s.levels, SmR r ∧ r.length ≤ 1000
  tl : s.times.length ≤ 1000
def intoM : Nat → Sto → Nat → List Ent → Option Sto
  | 0, s, i, r => setM s i (trimM (joinM r (s.levels.getD i [])) s.times true)
  | d + 1, s, i, r => match setM s i (trimM (joinM r (s.levels.getD i [])) s.times false) with
    | some x => some x
    | none => (intoM d s (i + 1) (s.levels.getD i [])).bind fun s1 => setM s1 i (trimM r s1.times false)
theorem smR_join {a b : List Ent} (ha : SmR a) (hb : SmR b) (h1 : a.length ≤ 1000) (h2 : b.length ≤ 1000) : SmR (joinM a b) := ⟨by rw [joinM_len]; omega, fun e he => (mem_joinM he).elim (ha.key e) (hb.key e)⟩
theorem smR_trim {a : List Ent} (ha : SmR a) (ts : List Int) (b : Bool) : SmR (trimM a ts b) := ⟨Nat.le_trans (trimM_len a ts b) ha.len, fun e he => ha.key e (mem_trimM he)⟩
theorem setM_ok {s s' : Sto} {i : Nat} {r : List Ent} (h : setM s i r = some s') : ∃ x, s' = { s with levels := s.levels.set i r, sieves := s.sieves.set i x } ∧ sieveM (keysM r) s.keep = some x ∧ r.length ≤ 8 * (i + 1) := by
  unfold setM at h
  cases hm : sieveM (keysM r) s.keep with
  | none => rw [hm] at h; cases h
  | some x =>
    rw [hm] at h
    simp only at h
    split at h
    · exact ⟨x, (Option.some.inj h).symm, rfl, by assumption⟩
    · cases h
theorem setM_sm {s s' : Sto} {i : Nat} {r : List Ent} (hs : SmH s) (hi : i ≤ 2) (hr : SmR r) (h : setM s i r = some s') : SmH s' := by
  obtain ⟨x, rfl, _, hl⟩ := setM_ok h
  refine ⟨by simp [hs.ll], by simp [hs.sl], fun q hq => ?_, hs.tl⟩
  rcases List.mem_or_eq_of_mem_set hq with h | rfl
  · exact hs.lev q h
  · exact ⟨hr, by omega⟩
theorem setM_times {s s' : Sto} {i : Nat} {r : List Ent} (h : setM s i r = some s') : s'.times = s.times ∧ s'.top = s.top ∧ s'.time = s.time ∧ s'.keep = s.keep := by
  obtain ⟨x, rfl, _, hl⟩ := setM_ok h
  exact ⟨rfl, rfl, rfl, rfl⟩
theorem intoM_sm : ∀ (d : Nat) {s s' : Sto} {i : Nat} {r : List Ent}, i + d = 2 → SmH s → SmR r → r.length ≤ 1000 → intoM d s i r = some s' → SmH s' ∧ s'.times = s.times ∧ s'.top = s.top ∧ s'.time = s.time ∧ s'.keep = s.keep
  | 0, s, s', i, r, hi, hs, hr, hl, h => by
    have hq : SmR (s.levels.getD i []) ∧ (s.levels.getD i []).length ≤ 1000 := by
      rw [List.getD_eq_getElem?_getD, List.getElem?_eq_getElem (by rw [hs.ll]; omega)]; exact hs.lev _ (List.getElem_mem _)
    exact ⟨setM_sm hs (by omega) (smR_trim (smR_join hr hq.1 hl hq.2) _ _) h, setM_times h⟩
  | d + 1, s, s', i, r, hi, hs, hr, hl, h => by
    have hq : SmR (s.levels.getD i []) ∧ (s.levels.getD i []).length ≤ 1000 := by
      rw [List.getD_eq_getElem?_getD, List.getElem?_eq_getElem (by rw [hs.ll]; omega)]; exact hs.lev _ (List.getElem_mem _)
    simp only [intoM] at h
    split at h
    · rename_i x hx
      obtain rfl := Option.some.inj h
      exact ⟨setM_sm hs (by omega) (smR_trim (smR_join hr hq.1 hl hq.2) _ _) hx, setM_times hx⟩
    · obtain ⟨s1, h1, h2⟩ := Option.bind_eq_some_iff.1 h
      obtain ⟨g1, g2⟩ := intoM_sm d (by omega) hs hq.1 hq.2 h1
      have g3 := setM_times h2
      exact ⟨setM_sm g1 (by omega) (smR_trim hr _ _) h2, by rw [g3.1, g2.1], by rw [g3.2.1, g2.2.1], by rw [g3.2.2.1, g2.2.2.1], by rw [g3.2.2.2, g2.2.2.2]⟩
theorem into_ac : ∀ (d : Nat) (s : Sto) (i : Nat) (r : List Ent), i + d = 2 → SmH s → SmR r → r.length ≤ 1000 →
    (∀ s', intoM d s i r = some s' → AC Try.prog 204 [hT s, iT i, runT r] (hpL (hS s)) 4 ⟨.tup [hT s', bT true], hpL (hS s'), 4⟩) ∧
    (intoM d s i r = none → AC Try.prog 204 [hT s, iT i, runT r] (hpL (hS s)) 4 ⟨.tup [zA, bT false], hpL [none, none, none, none], 4⟩) := by
  intro d
  induction d with
  | zero =>
    intro s i r hi hs hr hl
    obtain rfl : i = 2 := by omega
    obtain ⟨q, hq⟩ : ∃ q, s.levels[2]? = some q := ⟨_, List.getElem?_eq_getElem (by rw [hs.ll]; omega)⟩
    have hqd : s.levels.getD 2 [] = q := by simp [List.getD, hq]
    obtain ⟨hq1, hq2⟩ := hs.lev q (List.mem_of_getElem? hq)
    have k1 := l11JoinS_ac r q (by omega) (by omega)
    have k2 := l11Trim_ac (joinM r q) s.times true (by rw [joinM_len]; omega) (by have := hs.tl; omega)
    have hsm : SmR (trimM (joinM r q) s.times true) := smR_trim (smR_join hr hq1 hl hq2) _ _
    have hlt := (List.getElem?_eq_some_iff.1 hq).1
    have b1 : decide (((2 : Nat) : Int) = 2) = true := rfl
    constructor
    · intro s' h
      simp only [intoM, hqd] at h
      have k3 := l12Set_ok s s' 2 _ (by omega) (by rw [hs.ll]; omega) (by rw [hs.sl]; omega) hsm h
      refine AC_of Try.func204 rfl Try.ntmps204 Try.results204 (by kernel_rfl) rfl ?_
      simp only [List.zipIdx, List.map, Nat.zero_add, Nat.reduceAdd]
      repeat (first | apply Aw_seq | apply Aw_block | apply Aw_skip | apply Aw_exit | refine Aw_condt rfl ?_ | refine Aw_condf rfl ?_ | (refine qr ?_; simp only [go_sem, Nat.reduceEqDiff, reduceIte, Nat.reduceAdd, Nat.reduceMul, Nat.reduceSub, Nat.reduceLT, Nat.reduceLeDiff, Nat.reduceBEq, b1, hq, hlt]) | (refine qd (by kernel_rfl) (by kernel_rfl) ?_; simp only [go_sem, Nat.reduceEqDiff, reduceIte, Nat.reduceAdd, Nat.reduceMul, Nat.reduceSub, Nat.reduceLT, Nat.reduceLeDiff, Nat.reduceBEq, b1, hq, hlt]) | refine dk (by kernel_rfl) ?_ | (refine qp (k1) (by simp only [go_sem, Nat.reduceEqDiff, reduceIte, Nat.reduceAdd, Nat.reduceMul, Nat.reduceSub, Nat.reduceLT, Nat.reduceLeDiff, Nat.reduceBEq, b1, hq, hlt]; first | done | rfl) rfl (by simp only [go_sem, Nat.reduceLT]) rfl rfl ?_; simp only [go_sem, Nat.reduceEqDiff, reduceIte, Nat.reduceAdd, Nat.reduceMul, Nat.reduceSub, Nat.reduceLT, Nat.reduceLeDiff, Nat.reduceBEq, b1, hq, hlt]) | (refine qx (call_N (L := [3]) (k2) rfl (.cons (.nm rfl) (.cons (arg_lend (m := 3) rfl (by simp)) (.cons (.nm rfl) (.nil)))) (.inr ⟨rfl, by simp⟩) rfl) (by simp only [go_sem, Nat.reduceEqDiff, reduceIte, Nat.reduceAdd, Nat.reduceMul, Nat.reduceSub, Nat.reduceLT, Nat.reduceLeDiff, Nat.reduceBEq, b1, hq, hlt]; first | done | rfl) rfl (by simp only [go_sem, Nat.reduceLT]) ?_; simp only [go_sem, Nat.reduceEqDiff, reduceIte, Nat.reduceAdd, Nat.reduceMul, Nat.reduceSub, Nat.reduceLT, Nat.reduceLeDiff, Nat.reduceBEq, b1, hq, hlt]) | (refine qx (call_L (N' := [0, 1, 2, 3, 19]) (L := []) (k3) rfl (.cons (.nm rfl) (.cons (.nm rfl) (.cons (.nm rfl) (.nil)))) (by decide) (by decide) (by decide) (by simp only [go_sem, Nat.reduceEqDiff, reduceIte, Nat.reduceAdd, Nat.reduceMul, Nat.reduceSub, Nat.reduceLT, Nat.reduceLeDiff, Nat.reduceBEq, b1, hq, hlt]; first | done | rfl) (.inl rfl) rfl (by decide)) (by simp only [go_sem, Nat.reduceEqDiff, reduceIte, Nat.reduceAdd, Nat.reduceMul, Nat.reduceSub, Nat.reduceLT, Nat.reduceLeDiff, Nat.reduceBEq, b1, hq, hlt]; first | done | rfl) rfl (by simp only [go_sem, Nat.reduceLT]) ?_; simp only [go_sem, Nat.reduceEqDiff, reduceIte, Nat.reduceAdd, Nat.reduceMul, Nat.reduceSub, Nat.reduceLT, Nat.reduceLeDiff, Nat.reduceBEq, b1, hq, hlt]))
      exact Aw_ret (retL (M := [0, 1, 2, 3]) (.inl rfl) (by simp only [go_sem, Nat.reduceEqDiff, reduceIte, Nat.reduceAdd, Nat.reduceMul, Nat.reduceSub, Nat.reduceLT, Nat.reduceLeDiff, Nat.reduceBEq]; first | done | rfl) rfl rfl (by rfl) (by simp only [go_sem, Nat.reduceEqDiff, reduceIte, Nat.reduceAdd, Nat.reduceMul, Nat.reduceSub, Nat.reduceLT, Nat.reduceLeDiff, Nat.reduceBEq]; first | done | rfl | (and_intros <;> rfl)) (by decide) (by intro m hm; first | omega | (rcases m with _ | _ | _ | _ | _ | _ | m <;> first | exact ⟨by decide, rfl⟩ | omega)))
    · intro h
      simp only [intoM, hqd] at h
      have k3 := l12Set_no s 2 _ (by omega) hsm h
      refine AC_of Try.func204 rfl Try.ntmps204 Try.results204 (by kernel_rfl) rfl ?_
      simp only [List.zipIdx, List.map, Nat.zero_add, Nat.reduceAdd]
      repeat (first | apply Aw_seq | apply Aw_block | apply Aw_skip | apply Aw_exit | refine Aw_condt rfl ?_ | refine Aw_condf rfl ?_ | (refine qr ?_; simp only [go_sem, Nat.reduceEqDiff, reduceIte, Nat.reduceAdd, Nat.reduceMul, Nat.reduceSub, Nat.reduceLT, Nat.reduceLeDiff, Nat.reduceBEq, b1, hq, hlt]) | (refine qd (by kernel_rfl) (by kernel_rfl) ?_; simp only [go_sem, Nat.reduceEqDiff, reduceIte, Nat.reduceAdd, Nat.reduceMul, Nat.reduceSub, Nat.reduceLT, Nat.reduceLeDiff, Nat.reduceBEq, b1, hq, hlt]) | refine dk (by kernel_rfl) ?_ | (refine qp (k1) (by simp only [go_sem, Nat.reduceEqDiff, reduceIte, Nat.reduceAdd, Nat.reduceMul, Nat.reduceSub, Nat.reduceLT, Nat.reduceLeDiff, Nat.reduceBEq, b1, hq, hlt]; first | done | rfl) rfl (by simp only [go_sem, Nat.reduceLT]) rfl rfl ?_; simp only [go_sem, Nat.reduceEqDiff, reduceIte, Nat.reduceAdd, Nat.reduceMul, Nat.reduceSub, Nat.reduceLT, Nat.reduceLeDiff, Nat.reduceBEq, b1, hq, hlt]) | (refine qx (call_N (L := [3]) (k2) rfl (.cons (.nm rfl) (.cons (arg_lend (m := 3) rfl (by simp)) (.cons (.nm rfl) (.nil)))) (.inr ⟨rfl, by simp⟩) rfl) (by simp only [go_sem, Nat.reduceEqDiff, reduceIte, Nat.reduceAdd, Nat.reduceMul, Nat.reduceSub, Nat.reduceLT, Nat.reduceLeDiff, Nat.reduceBEq, b1, hq, hlt]; first | done | rfl) rfl (by simp only [go_sem, Nat.reduceLT]) ?_; simp only [go_sem, Nat.reduceEqDiff, reduceIte, Nat.reduceAdd, Nat.reduceMul, Nat.reduceSub, Nat.reduceLT, Nat.reduceLeDiff, Nat.reduceBEq, b1, hq, hlt]) | (refine qx (call_L (N' := [0, 1, 2, 3, 19]) (L := []) (k3) rfl (.cons (.nm rfl) (.cons (.nm rfl) (.cons (.nm rfl) (.nil)))) (by decide) (by decide) (by decide) (by simp only [go_sem, Nat.reduceEqDiff, reduceIte, Nat.reduceAdd, Nat.reduceMul, Nat.reduceSub, Nat.reduceLT, Nat.reduceLeDiff, Nat.reduceBEq, b1, hq, hlt]; first | done | rfl) (.inl rfl) rfl (by decide)) (by simp only [go_sem, Nat.reduceEqDiff, reduceIte, Nat.reduceAdd, Nat.reduceMul, Nat.reduceSub, Nat.reduceLT, Nat.reduceLeDiff, Nat.reduceBEq, b1, hq, hlt]; first | done | rfl) rfl (by simp only [go_sem, Nat.reduceLT]) ?_; simp only [go_sem, Nat.reduceEqDiff, reduceIte, Nat.reduceAdd, Nat.reduceMul, Nat.reduceSub, Nat.reduceLT, Nat.reduceLeDiff, Nat.reduceBEq, b1, hq, hlt]))
      exact Aw_ret (retL (M := [0, 1, 2, 3]) (.inl rfl) (by simp only [go_sem, Nat.reduceEqDiff, reduceIte, Nat.reduceAdd, Nat.reduceMul, Nat.reduceSub, Nat.reduceLT, Nat.reduceLeDiff, Nat.reduceBEq]; first | done | rfl) rfl rfl (by rfl) (by simp only [go_sem, Nat.reduceEqDiff, reduceIte, Nat.reduceAdd, Nat.reduceMul, Nat.reduceSub, Nat.reduceLT, Nat.reduceLeDiff, Nat.reduceBEq]; first | done | rfl | (and_intros <;> rfl)) (by decide) (by intro m hm; first | omega | (rcases m with _ | _ | _ | _ | _ | _ | m <;> first | exact ⟨by decide, rfl⟩ | omega)))
  | succ d ih =>
    intro s i r hi hs hr hl
    obtain ⟨q, hq⟩ : ∃ q, s.levels[i]? = some q := ⟨_, List.getElem?_eq_getElem (by rw [hs.ll]; omega)⟩
    have hqd : s.levels.getD i [] = q := by simp [List.getD, hq]
    obtain ⟨hq1, hq2⟩ := hs.lev q (List.mem_of_getElem? hq)
    have k1 := l11JoinS_ac r q (by omega) (by omega)
    have k2 := l11Trim_ac (joinM r q) s.times false (by rw [joinM_len]; omega) (by have := hs.tl; omega)
    have hsm : SmR (trimM (joinM r q) s.times false) := smR_trim (smR_join hr hq1 hl hq2) _ _
    have hlt := (List.getElem?_eq_some_iff.1 hq).1
    have b1 : decide (((i : Nat) : Int) = 2) = false := decide_eq_false (by omega)
    have w1 : IntKind.i64.wrap ((i : Int) + 1) = ((i + 1 : Nat) : Int) := wrap_succ (m := i + 1) (by omega) (by omega)
    obtain ⟨ih1, ih2⟩ := ih s (i + 1) q (by omega) hs hq1 hq2
    cases hset : setM s i (trimM (joinM r q) s.times false) with
    | some x =>
      have hM : intoM (d + 1) s i r = some x := by simp only [intoM, hqd, hset]
      rw [hM]
      refine ⟨fun s' h => ?_, fun h => by cases h⟩
      obtain rfl := Option.some.inj h
      have k3 := l12Set_ok s x i _ (by omega) (by rw [hs.ll]; omega) (by rw [hs.sl]; omega) hsm hset
      refine AC_of Try.func204 rfl Try.ntmps204 Try.results204 (by kernel_rfl) rfl ?_
      simp only [List.zipIdx, List.map, Nat.zero_add, Nat.reduceAdd]
      repeat (first | apply Aw_seq | apply Aw_block | apply Aw_skip | apply Aw_exit | refine Aw_condt rfl ?_ | refine Aw_condf rfl ?_ | (refine qr ?_; simp only [go_sem, Nat.reduceEqDiff, reduceIte, Nat.reduceAdd, Nat.reduceMul, Nat.reduceSub, Nat.reduceLT, Nat.reduceLeDiff, Nat.reduceBEq, b1, hq, hlt]) | (refine qd (by kernel_rfl) (by kernel_rfl) ?_; simp only [go_sem, Nat.reduceEqDiff, reduceIte, Nat.reduceAdd, Nat.reduceMul, Nat.reduceSub, Nat.reduceLT, Nat.reduceLeDiff, Nat.reduceBEq, b1, hq, hlt]) | refine dk (by kernel_rfl) ?_ | (refine qp (k1) (by simp only [go_sem, Nat.reduceEqDiff, reduceIte, Nat.reduceAdd, Nat.reduceMul, Nat.reduceSub, Nat.reduceLT, Nat.reduceLeDiff, Nat.reduceBEq, b1, hq, hlt]; first | done | rfl) rfl (by simp only [go_sem, Nat.reduceLT]) rfl rfl ?_; simp only [go_sem, Nat.reduceEqDiff, reduceIte, Nat.reduceAdd, Nat.reduceMul, Nat.reduceSub, Nat.reduceLT, Nat.reduceLeDiff, Nat.reduceBEq, b1, hq, hlt]) | (refine qx (call_N (L := [3]) (k2) rfl (.cons (.nm rfl) (.cons (arg_lend (m := 3) rfl (by simp)) (.cons (.nm rfl) (.nil)))) (.inr ⟨rfl, by simp⟩) rfl) (by simp only [go_sem, Nat.reduceEqDiff, reduceIte, Nat.reduceAdd, Nat.reduceMul, Nat.reduceSub, Nat.reduceLT, Nat.reduceLeDiff, Nat.reduceBEq, b1, hq, hlt]; first | done | rfl) rfl (by simp only [go_sem, Nat.reduceLT]) ?_; simp only [go_sem, Nat.reduceEqDiff, reduceIte, Nat.reduceAdd, Nat.reduceMul, Nat.reduceSub, Nat.reduceLT, Nat.reduceLeDiff, Nat.reduceBEq, b1, hq, hlt]) | (refine qx (call_L (N' := [0, 1, 2, 3, 19]) (L := []) (k3) rfl (.cons (.nm rfl) (.cons (.nm rfl) (.cons (.nm rfl) (.nil)))) (by decide) (by decide) (by decide) (by simp only [go_sem, Nat.reduceEqDiff, reduceIte, Nat.reduceAdd, Nat.reduceMul, Nat.reduceSub, Nat.reduceLT, Nat.reduceLeDiff, Nat.reduceBEq, b1, hq, hlt]; first | done | rfl) (.inl rfl) rfl (by decide)) (by simp only [go_sem, Nat.reduceEqDiff, reduceIte, Nat.reduceAdd, Nat.reduceMul, Nat.reduceSub, Nat.reduceLT, Nat.reduceLeDiff, Nat.reduceBEq, b1, hq, hlt]; first | done | rfl) rfl (by simp only [go_sem, Nat.reduceLT]) ?_; simp only [go_sem, Nat.reduceEqDiff, reduceIte, Nat.reduceAdd, Nat.reduceMul, Nat.reduceSub, Nat.reduceLT, Nat.reduceLeDiff, Nat.reduceBEq, b1, hq, hlt]))
      exact Aw_ret (retL (M := [0, 1, 2, 3]) (.inl rfl) (by simp only [go_sem, Nat.reduceEqDiff, reduceIte, Nat.reduceAdd, Nat.reduceMul, Nat.reduceSub, Nat.reduceLT, Nat.reduceLeDiff, Nat.reduceBEq]; first | done | rfl) rfl rfl (by rfl) (by simp only [go_sem, Nat.reduceEqDiff, reduceIte, Nat.reduceAdd, Nat.reduceMul, Nat.reduceSub, Nat.reduceLT, Nat.reduceLeDiff, Nat.reduceBEq]; first | done | rfl | (and_intros <;> rfl)) (by decide) (by intro m hm; first | omega | (rcases m with _ | _ | _ | _ | _ | _ | m <;> first | exact ⟨by decide, rfl⟩ | omega)))
    | none =>
      have hM : intoM (d + 1) s i r = (intoM d s (i + 1) q).bind fun s1 => setM s1 i (trimM r s1.times false) := by simp only [intoM, hqd, hset]
      rw [hM]
      have k3 := l12Set_no s i _ (by omega) hsm hset
      cases hin : intoM d s (i + 1) q with
      | none =>
        have k4 := ih2 hin
        refine ⟨fun s' h => by simp at h, fun _ => ?_⟩
        refine AC_of Try.func204 rfl Try.ntmps204 Try.results204 (by kernel_rfl) rfl ?_
        simp only [List.zipIdx, List.map, Nat.zero_add, Nat.reduceAdd]
        repeat (first | apply Aw_seq | apply Aw_block | apply Aw_skip | apply Aw_exit | refine Aw_condt rfl ?_ | refine Aw_condf rfl ?_ | (refine qr ?_; simp only [go_sem, Nat.reduceEqDiff, reduceIte, Nat.reduceAdd, Nat.reduceMul, Nat.reduceSub, Nat.reduceLT, Nat.reduceLeDiff, Nat.reduceBEq, b1, hq, hlt, w1]) | (refine qd (by kernel_rfl) (by kernel_rfl) ?_; simp only [go_sem, Nat.reduceEqDiff, reduceIte, Nat.reduceAdd, Nat.reduceMul, Nat.reduceSub, Nat.reduceLT, Nat.reduceLeDiff, Nat.reduceBEq, b1, hq, hlt, w1]) | refine dk (by kernel_rfl) ?_ | (refine qp (k1) (by simp only [go_sem, Nat.reduceEqDiff, reduceIte, Nat.reduceAdd, Nat.reduceMul, Nat.reduceSub, Nat.reduceLT, Nat.reduceLeDiff, Nat.reduceBEq, b1, hq, hlt, w1]; first | done | rfl) rfl (by simp only [go_sem, Nat.reduceLT]) rfl rfl ?_; simp only [go_sem, Nat.reduceEqDiff, reduceIte, Nat.reduceAdd, Nat.reduceMul, Nat.reduceSub, Nat.reduceLT, Nat.reduceLeDiff, Nat.reduceBEq, b1, hq, hlt, w1]) | (refine qx (call_N (L := [3]) (k2) rfl (.cons (.nm rfl) (.cons (arg_lend (m := 3) rfl (by simp)) (.cons (.nm rfl) (.nil)))) (.inr ⟨rfl, by simp⟩) rfl) (by simp only [go_sem, Nat.reduceEqDiff, reduceIte, Nat.reduceAdd, Nat.reduceMul, Nat.reduceSub, Nat.reduceLT, Nat.reduceLeDiff, Nat.reduceBEq, b1, hq, hlt, w1]; first | done | rfl) rfl (by simp only [go_sem, Nat.reduceLT]) ?_; simp only [go_sem, Nat.reduceEqDiff, reduceIte, Nat.reduceAdd, Nat.reduceMul, Nat.reduceSub, Nat.reduceLT, Nat.reduceLeDiff, Nat.reduceBEq, b1, hq, hlt, w1]) | (refine qx (call_L (N' := [0, 1, 2, 3, 19]) (L := []) (k3) rfl (.cons (.nm rfl) (.cons (.nm rfl) (.cons (.nm rfl) (.nil)))) (by decide) (by decide) (by decide) (by simp only [go_sem, Nat.reduceEqDiff, reduceIte, Nat.reduceAdd, Nat.reduceMul, Nat.reduceSub, Nat.reduceLT, Nat.reduceLeDiff, Nat.reduceBEq, b1, hq, hlt, w1]; first | done | rfl) (.inl rfl) rfl (by decide)) (by simp only [go_sem, Nat.reduceEqDiff, reduceIte, Nat.reduceAdd, Nat.reduceMul, Nat.reduceSub, Nat.reduceLT, Nat.reduceLeDiff, Nat.reduceBEq, b1, hq, hlt, w1]; first | done | rfl) rfl (by simp only [go_sem, Nat.reduceLT]) ?_; simp only [go_sem, Nat.reduceEqDiff, reduceIte, Nat.reduceAdd, Nat.reduceMul, Nat.reduceSub, Nat.reduceLT, Nat.reduceLeDiff, Nat.reduceBEq, b1, hq, hlt, w1]) | (refine qx (call_L (N' := [0, 1, 2, 3]) (L := []) (k4) rfl (.cons (.nm rfl) (.cons (.nm rfl) (.cons (.nm rfl) (.nil)))) (by decide) (by decide) (by decide) (by simp only [go_sem, Nat.reduceEqDiff, reduceIte, Nat.reduceAdd, Nat.reduceMul, Nat.reduceSub, Nat.reduceLT, Nat.reduceLeDiff, Nat.reduceBEq, b1, hq, hlt, w1]; first | done | rfl) (.inl rfl) rfl (by decide)) (by simp only [go_sem, Nat.reduceEqDiff, reduceIte, Nat.reduceAdd, Nat.reduceMul, Nat.reduceSub, Nat.reduceLT, Nat.reduceLeDiff, Nat.reduceBEq, b1, hq, hlt, w1]; first | done | rfl) rfl (by simp only [go_sem, Nat.reduceLT]) ?_; simp only [go_sem, Nat.reduceEqDiff, reduceIte, Nat.reduceAdd, Nat.reduceMul, Nat.reduceSub, Nat.reduceLT, Nat.reduceLeDiff, Nat.reduceBEq, b1, hq, hlt, w1]))
        exact Aw_ret (retL (M := [0, 1, 2, 3]) (.inl rfl) (by simp only [go_sem, Nat.reduceEqDiff, reduceIte, Nat.reduceAdd, Nat.reduceMul, Nat.reduceSub, Nat.reduceLT, Nat.reduceLeDiff, Nat.reduceBEq]; first | done | rfl) rfl rfl (by rfl) (by simp only [go_sem, Nat.reduceEqDiff, reduceIte, Nat.reduceAdd, Nat.reduceMul, Nat.reduceSub, Nat.reduceLT, Nat.reduceLeDiff, Nat.reduceBEq]; first | done | rfl | (and_intros <;> rfl)) (by decide) (by intro m hm; first | omega | (rcases m with _ | _ | _ | _ | _ | _ | m <;> first | exact ⟨by decide, rfl⟩ | omega)))
      | some s1 =>
        have k4 := ih1 s1 hin
        obtain ⟨g1, g2, _⟩ := intoM_sm d (by omega) hs hq1 hq2 hin
        have k5 := l11Trim_ac r s1.times false (by omega) (by have := g1.tl; omega)
        have hsm2 : SmR (trimM r s1.times false) := smR_trim hr _ _
        rw [Option.bind_some]
        cases hs2 : setM s1 i (trimM r s1.times false) with
        | none =>
          have k6 := l12Set_no s1 i _ (by omega) hsm2 hs2
          refine ⟨fun s' h => by simp at h, fun _ => ?_⟩
          refine AC_of Try.func204 rfl Try.ntmps204 Try.results204 (by kernel_rfl) rfl ?_
          simp only [List.zipIdx, List.map, Nat.zero_add, Nat.reduceAdd]
          repeat (first | apply Aw_seq | apply Aw_block | apply Aw_skip | apply Aw_exit | refine Aw_condt rfl ?_ | refine Aw_condf rfl ?_ | (refine qr ?_; simp only [go_sem, Nat.reduceEqDiff, reduceIte, Nat.reduceAdd, Nat.reduceMul, Nat.reduceSub, Nat.reduceLT, Nat.reduceLeDiff, Nat.reduceBEq, b1, hq, hlt, w1]) | (refine qd (by kernel_rfl) (by kernel_rfl) ?_; simp only [go_sem, Nat.reduceEqDiff, reduceIte, Nat.reduceAdd, Nat.reduceMul, Nat.reduceSub, Nat.reduceLT, Nat.reduceLeDiff, Nat.reduceBEq, b1, hq, hlt, w1]) | refine dk (by kernel_rfl) ?_ | (refine qp (k1) (by simp only [go_sem, Nat.reduceEqDiff, reduceIte, Nat.reduceAdd, Nat.reduceMul, Nat.reduceSub, Nat.reduceLT, Nat.reduceLeDiff, Nat.reduceBEq, b1, hq, hlt, w1]; first | done | rfl) rfl (by simp only [go_sem, Nat.reduceLT]) rfl rfl ?_; simp only [go_sem, Nat.reduceEqDiff, reduceIte, Nat.reduceAdd, Nat.reduceMul, Nat.reduceSub, Nat.reduceLT, Nat.reduceLeDiff, Nat.reduceBEq, b1, hq, hlt, w1]) | (refine qx (call_N (L := [3]) (k2) rfl (.cons (.nm rfl) (.cons (arg_lend (m := 3) rfl (by simp)) (.cons (.nm rfl) (.nil)))) (.inr ⟨rfl, by simp⟩) rfl) (by simp only [go_sem, Nat.reduceEqDiff, reduceIte, Nat.reduceAdd, Nat.reduceMul, Nat.reduceSub, Nat.reduceLT, Nat.reduceLeDiff, Nat.reduceBEq, b1, hq, hlt, w1]; first | done | rfl) rfl (by simp only [go_sem, Nat.reduceLT]) ?_; simp only [go_sem, Nat.reduceEqDiff, reduceIte, Nat.reduceAdd, Nat.reduceMul, Nat.reduceSub, Nat.reduceLT, Nat.reduceLeDiff, Nat.reduceBEq, b1, hq, hlt, w1]) | (refine qx (call_L (N' := [0, 1, 2, 3, 19]) (L := []) (k3) rfl (.cons (.nm rfl) (.cons (.nm rfl) (.cons (.nm rfl) (.nil)))) (by decide) (by decide) (by decide) (by simp only [go_sem, Nat.reduceEqDiff, reduceIte, Nat.reduceAdd, Nat.reduceMul, Nat.reduceSub, Nat.reduceLT, Nat.reduceLeDiff, Nat.reduceBEq, b1, hq, hlt, w1]; first | done | rfl) (.inl rfl) rfl (by decide)) (by simp only [go_sem, Nat.reduceEqDiff, reduceIte, Nat.reduceAdd, Nat.reduceMul, Nat.reduceSub, Nat.reduceLT, Nat.reduceLeDiff, Nat.reduceBEq, b1, hq, hlt, w1]; first | done | rfl) rfl (by simp only [go_sem, Nat.reduceLT]) ?_; simp only [go_sem, Nat.reduceEqDiff, reduceIte, Nat.reduceAdd, Nat.reduceMul, Nat.reduceSub, Nat.reduceLT, Nat.reduceLeDiff, Nat.reduceBEq, b1, hq, hlt, w1]) | (refine qx (call_L (N' := [0, 1, 2, 3]) (L := []) (k4) rfl (.cons (.nm rfl) (.cons (.nm rfl) (.cons (.nm rfl) (.nil)))) (by decide) (by decide) (by decide) (by simp only [go_sem, Nat.reduceEqDiff, reduceIte, Nat.reduceAdd, Nat.reduceMul, Nat.reduceSub, Nat.reduceLT, Nat.reduceLeDiff, Nat.reduceBEq, b1, hq, hlt, w1]; first | done | rfl) (.inl rfl) rfl (by decide)) (by simp only [go_sem, Nat.reduceEqDiff, reduceIte, Nat.reduceAdd, Nat.reduceMul, Nat.reduceSub, Nat.reduceLT, Nat.reduceLeDiff, Nat.reduceBEq, b1, hq, hlt, w1]; first | done | rfl) rfl (by simp only [go_sem, Nat.reduceLT]) ?_; simp only [go_sem, Nat.reduceEqDiff, reduceIte, Nat.reduceAdd, Nat.reduceMul, Nat.reduceSub, Nat.reduceLT, Nat.reduceLeDiff, Nat.reduceBEq, b1, hq, hlt, w1]) | (refine qx (call_N (L := [3]) (k5) rfl (.cons (.nm rfl) (.cons (arg_lend (m := 3) rfl (by simp)) (.cons (.nm rfl) (.nil)))) (.inr ⟨rfl, by simp⟩) rfl) (by simp only [go_sem, Nat.reduceEqDiff, reduceIte, Nat.reduceAdd, Nat.reduceMul, Nat.reduceSub, Nat.reduceLT, Nat.reduceLeDiff, Nat.reduceBEq, b1, hq, hlt, w1]; first | done | rfl) rfl (by simp only [go_sem, Nat.reduceLT]) ?_; simp only [go_sem, Nat.reduceEqDiff, reduceIte, Nat.reduceAdd, Nat.reduceMul, Nat.reduceSub, Nat.reduceLT, Nat.reduceLeDiff, Nat.reduceBEq, b1, hq, hlt, w1]) | (refine qx (call_L (N' := [0, 1, 2, 3, 56]) (L := []) (k6) rfl (.cons (.nm rfl) (.cons (.nm rfl) (.cons (.nm rfl) (.nil)))) (by decide) (by decide) (by decide) (by simp only [go_sem, Nat.reduceEqDiff, reduceIte, Nat.reduceAdd, Nat.reduceMul, Nat.reduceSub, Nat.reduceLT, Nat.reduceLeDiff, Nat.reduceBEq, b1, hq, hlt, w1]; first | done | rfl) (.inl rfl) rfl (by decide)) (by simp only [go_sem, Nat.reduceEqDiff, reduceIte, Nat.reduceAdd, Nat.reduceMul, Nat.reduceSub, Nat.reduceLT, Nat.reduceLeDiff, Nat.reduceBEq, b1, hq, hlt, w1]; first | done | rfl) rfl (by simp only [go_sem, Nat.reduceLT]) ?_; simp only [go_sem, Nat.reduceEqDiff, reduceIte, Nat.reduceAdd, Nat.reduceMul, Nat.reduceSub, Nat.reduceLT, Nat.reduceLeDiff, Nat.reduceBEq, b1, hq, hlt, w1]))
          exact Aw_ret (retL (M := [0, 1, 2, 3]) (.inl rfl) (by simp only [go_sem, Nat.reduceEqDiff, reduceIte, Nat.reduceAdd, Nat.reduceMul, Nat.reduceSub, Nat.reduceLT, Nat.reduceLeDiff, Nat.reduceBEq]; first | done | rfl) rfl rfl (by rfl) (by simp only [go_sem, Nat.reduceEqDiff, reduceIte, Nat.reduceAdd, Nat.reduceMul, Nat.reduceSub, Nat.reduceLT, Nat.reduceLeDiff, Nat.reduceBEq]; first | done | rfl | (and_intros <;> rfl)) (by decide) (by intro m hm; first | omega | (rcases m with _ | _ | _ | _ | _ | _ | m <;> first | exact ⟨by decide, rfl⟩ | omega)))
        | some s2 =>
          have k6 := l12Set_ok s1 s2 i _ (by omega) (by rw [g1.ll]; omega) (by rw [g1.sl]; omega) hsm2 hs2
          refine ⟨fun s' h => ?_, fun h => by cases h⟩
          obtain rfl := Option.some.inj h
          refine AC_of Try.func204 rfl Try.ntmps204 Try.results204 (by kernel_rfl) rfl ?_
          simp only [List.zipIdx, List.map, Nat.zero_add, Nat.reduceAdd]
          repeat (first | apply Aw_seq | apply Aw_block | apply Aw_skip | apply Aw_exit | refine Aw_condt rfl ?_ | refine Aw_condf rfl ?_ | (refine qr ?_; simp only [go_sem, Nat.reduceEqDiff, reduceIte, Nat.reduceAdd, Nat.reduceMul, Nat.reduceSub, Nat.reduceLT, Nat.reduceLeDiff, Nat.reduceBEq, b1, hq, hlt, w1]) | (refine qd (by kernel_rfl) (by kernel_rfl) ?_; simp only [go_sem, Nat.reduceEqDiff, reduceIte, Nat.reduceAdd, Nat.reduceMul, Nat.reduceSub, Nat.reduceLT, Nat.reduceLeDiff, Nat.reduceBEq, b1, hq, hlt, w1]) | refine dk (by kernel_rfl) ?_ | (refine qp (k1) (by simp only [go_sem, Nat.reduceEqDiff, reduceIte, Nat.reduceAdd, Nat.reduceMul, Nat.reduceSub, Nat.reduceLT, Nat.reduceLeDiff, Nat.reduceBEq, b1, hq, hlt, w1]; first | done | rfl) rfl (by simp only [go_sem, Nat.reduceLT]) rfl rfl ?_; simp only [go_sem, Nat.reduceEqDiff, reduceIte, Nat.reduceAdd, Nat.reduceMul, Nat.reduceSub, Nat.reduceLT, Nat.reduceLeDiff, Nat.reduceBEq, b1, hq, hlt, w1]) | (refine qx (call_N (L := [3]) (k2) rfl (.cons (.nm rfl) (.cons (arg_lend (m := 3) rfl (by simp)) (.cons (.nm rfl) (.nil)))) (.inr ⟨rfl, by simp⟩) rfl) (by simp only [go_sem, Nat.reduceEqDiff, reduceIte, Nat.reduceAdd, Nat.reduceMul, Nat.reduceSub, Nat.reduceLT, Nat.reduceLeDiff, Nat.reduceBEq, b1, hq, hlt, w1]; first | done | rfl) rfl (by simp only [go_sem, Nat.reduceLT]) ?_; simp only [go_sem, Nat.reduceEqDiff, reduceIte, Nat.reduceAdd, Nat.reduceMul, Nat.reduceSub, Nat.reduceLT, Nat.reduceLeDiff, Nat.reduceBEq, b1, hq, hlt, w1]) | (refine qx (call_L (N' := [0, 1, 2, 3, 19]) (L := []) (k3) rfl (.cons (.nm rfl) (.cons (.nm rfl) (.cons (.nm rfl) (.nil)))) (by decide) (by decide) (by decide) (by simp only [go_sem, Nat.reduceEqDiff, reduceIte, Nat.reduceAdd, Nat.reduceMul, Nat.reduceSub, Nat.reduceLT, Nat.reduceLeDiff, Nat.reduceBEq, b1, hq, hlt, w1]; first | done | rfl) (.inl rfl) rfl (by decide)) (by simp only [go_sem, Nat.reduceEqDiff, reduceIte, Nat.reduceAdd, Nat.reduceMul, Nat.reduceSub, Nat.reduceLT, Nat.reduceLeDiff, Nat.reduceBEq, b1, hq, hlt, w1]; first | done | rfl) rfl (by simp only [go_sem, Nat.reduceLT]) ?_; simp only [go_sem, Nat.reduceEqDiff, reduceIte, Nat.reduceAdd, Nat.reduceMul, Nat.reduceSub, Nat.reduceLT, Nat.reduceLeDiff, Nat.reduceBEq, b1, hq, hlt, w1]) | (refine qx (call_L (N' := [0, 1, 2, 3]) (L := []) (k4) rfl (.cons (.nm rfl) (.cons (.nm rfl) (.cons (.nm rfl) (.nil)))) (by decide) (by decide) (by decide) (by simp only [go_sem, Nat.reduceEqDiff, reduceIte, Nat.reduceAdd, Nat.reduceMul, Nat.reduceSub, Nat.reduceLT, Nat.reduceLeDiff, Nat.reduceBEq, b1, hq, hlt, w1]; first | done | rfl) (.inl rfl) rfl (by decide)) (by simp only [go_sem, Nat.reduceEqDiff, reduceIte, Nat.reduceAdd, Nat.reduceMul, Nat.reduceSub, Nat.reduceLT, Nat.reduceLeDiff, Nat.reduceBEq, b1, hq, hlt, w1]; first | done | rfl) rfl (by simp only [go_sem, Nat.reduceLT]) ?_; simp only [go_sem, Nat.reduceEqDiff, reduceIte, Nat.reduceAdd, Nat.reduceMul, Nat.reduceSub, Nat.reduceLT, Nat.reduceLeDiff, Nat.reduceBEq, b1, hq, hlt, w1]) | (refine qx (call_N (L := [3]) (k5) rfl (.cons (.nm rfl) (.cons (arg_lend (m := 3) rfl (by simp)) (.cons (.nm rfl) (.nil)))) (.inr ⟨rfl, by simp⟩) rfl) (by simp only [go_sem, Nat.reduceEqDiff, reduceIte, Nat.reduceAdd, Nat.reduceMul, Nat.reduceSub, Nat.reduceLT, Nat.reduceLeDiff, Nat.reduceBEq, b1, hq, hlt, w1]; first | done | rfl) rfl (by simp only [go_sem, Nat.reduceLT]) ?_; simp only [go_sem, Nat.reduceEqDiff, reduceIte, Nat.reduceAdd, Nat.reduceMul, Nat.reduceSub, Nat.reduceLT, Nat.reduceLeDiff, Nat.reduceBEq, b1, hq, hlt, w1]) | (refine qx (call_L (N' := [0, 1, 2, 3, 56]) (L := []) (k6) rfl (.cons (.nm rfl) (.cons (.nm rfl) (.cons (.nm rfl) (.nil)))) (by decide) (by decide) (by decide) (by simp only [go_sem, Nat.reduceEqDiff, reduceIte, Nat.reduceAdd, Nat.reduceMul, Nat.reduceSub, Nat.reduceLT, Nat.reduceLeDiff, Nat.reduceBEq, b1, hq, hlt, w1]; first | done | rfl) (.inl rfl) rfl (by decide)) (by simp only [go_sem, Nat.reduceEqDiff, reduceIte, Nat.reduceAdd, Nat.reduceMul, Nat.reduceSub, Nat.reduceLT, Nat.reduceLeDiff, Nat.reduceBEq, b1, hq, hlt, w1]; first | done | rfl) rfl (by simp only [go_sem, Nat.reduceLT]) ?_; simp only [go_sem, Nat.reduceEqDiff, reduceIte, Nat.reduceAdd, Nat.reduceMul, Nat.reduceSub, Nat.reduceLT, Nat.reduceLeDiff, Nat.reduceBEq, b1, hq, hlt, w1]))
          exact Aw_ret (retL (M := [0, 1, 2, 3]) (.inl rfl) (by simp only [go_sem, Nat.reduceEqDiff, reduceIte, Nat.reduceAdd, Nat.reduceMul, Nat.reduceSub, Nat.reduceLT, Nat.reduceLeDiff, Nat.reduceBEq]; first | done | rfl) rfl rfl (by rfl) (by simp only [go_sem, Nat.reduceEqDiff, reduceIte, Nat.reduceAdd, Nat.reduceMul, Nat.reduceSub, Nat.reduceLT, Nat.reduceLeDiff, Nat.reduceBEq]; first | done | rfl | (and_intros <;> rfl)) (by decide) (by intro m hm; first | omega | (rcases m with _ | _ | _ | _ | _ | _ | m <;> first | exact ⟨by decide, rfl⟩ | omega)))
end Go.Proofs.Ytcbhgglpgphimaa.Ab
namespace Go.Proofs.Ytcbhgglpgphimaa.Ab
set_option linter.deprecated false
set_option linter.unusedVariables false
set_option linter.unusedSimpArgs false
open Go Go.Proofs
set_option maxRecDepth 10000
set_option maxHeartbeats 8000000
set_option linter.unusedSimpArgs false
set_option linter.unusedVariables false
def downM (s : Sto) : Option Sto := intoM 2 { s with top := [] } 0 s.top
def noTop (s : Sto) : Sto := { s with top := [] }
def zO : Obj := ⟨35, 6, false, [[.d (.s (.slice none 0 0)), .d (.s (.slice none 0 0)), .d (.s (.slice none 0 0)), .d (.s (.int .i64 0)), .d (.s (.int .i64 0)), .d (.s (.slice none 0 0))]]⟩
@[go_sem] theorem r_zO : zO = ⟨35, 6, false, [[.d (.s (.slice none 0 0)), .d (.s (.slice none 0 0)), .d (.s (.slice none 0 0)), .d (.s (.int .i64 0)), .d (.s (.int .i64 0)), .d (.s (.slice none 0 0))]]⟩ := rfl
abbrev hT5 (s : Sto) : TV := .agg [.h 4, .h 0, .h 1, .d (.s (.int .i64 s.keep)), .d (.s (.int .i64 s.time)), .h 3]
def hS5 (s : Sto) : List (Option Obj) := [some (lvRow s.levels), some (svRow s.sieves), none, some (tmRow s.times), some (eRow s.top)]
@[go_sem] theorem r_hS5 (s : Sto) : hS5 s = [some (dRow 24 1 (s.levels.map lvD)), some (dRow 67 5 (s.sieves.map sveD)), none, some (dRow 3 1 (s.times.map intD)), some (dRow 47 4 (s.top.map entD))] := rfl
theorem l12Down_no (s : Sto) (hs : SmH s) (hr : SmR s.top) (hl : s.top.length ≤ 1000) (h : downM s = none) : AC Try.prog 202 [hT s] (hpL (hS s)) 4 ⟨.tup [zA, bT false], hpL [none, none, none, none], 4⟩ := by
  have k : AC Try.prog 204 [hT (noTop s), iT (0 : Nat), runT s.top] (hpL (hS (noTop s))) 4 ⟨.tup [zA, bT false], hpL [none, none, none, none], 4⟩ := (into_ac 2 (noTop s) 0 s.top rfl ⟨hs.ll, hs.sl, hs.lev, hs.tl⟩ hr hl).2 h
  rw [show ((0 : Nat) : Int) = 0 from rfl] at k
  refine AC_of Try.func202 rfl Try.ntmps202 Try.results202 (by kernel_rfl) rfl ?_
  simp only [List.zipIdx, List.map, Nat.zero_add, Nat.reduceAdd]
  refine Aw.setS (os := [some (lvRow s.levels), some (svRow s.sieves), some (eRow s.top), some (tmRow s.times)]) (l' := [(0, .t (.agg [.d (.rs 4 (s.top.map entD)), .h 0, .h 1, .d (.s (.int .i64 s.keep)), .d (.s (.int .i64 s.time)), .h 3]))]) (os' := [some (lvRow s.levels), some (svRow s.sieves), none, some (tmRow s.times)]) (n' := 4) [2] ⟨.cons (SetC.row0 rfl rfl) (.cons (.inl rfl) (.cons (.inl rfl) (.cons (.inl rfl) (.cons (.inl rfl) (.cons (.inl rfl) .nil))))), trivial⟩ ⟨.inl rfl, rfl, .inl rfl, rfl, .inl rfl, rfl, trivial⟩ (Nat.le_refl _) ?_
  repeat (first | apply Aw_seq | apply Aw_block | apply Aw_skip | apply Aw_exit | refine Aw_condt rfl ?_ | refine Aw_condf rfl ?_ | (refine qr ?_; simp only [go_sem, Nat.reduceEqDiff, reduceIte, Nat.reduceAdd, Nat.reduceMul, Nat.reduceSub, Nat.reduceLT, Nat.reduceLeDiff, Nat.reduceBEq, noTop]) | (refine qd (by kernel_rfl) (by kernel_rfl) ?_; simp only [go_sem, Nat.reduceEqDiff, reduceIte, Nat.reduceAdd, Nat.reduceMul, Nat.reduceSub, Nat.reduceLT, Nat.reduceLeDiff, Nat.reduceBEq, noTop]) | refine dk (by kernel_rfl) ?_ | (refine qx (call_L (N' := [0, 1, 10, 3]) (L := []) (k) rfl (.cons (.nm rfl) (.cons (.nm rfl) (.cons (.nm rfl) (.nil)))) (by decide) (by decide) (by decide) (by simp only [go_sem, Nat.reduceEqDiff, reduceIte, Nat.reduceAdd, Nat.reduceMul, Nat.reduceSub, Nat.reduceLT, Nat.reduceLeDiff, Nat.reduceBEq, noTop]; first | done | rfl) (.inl rfl) rfl (by decide)) (by simp only [go_sem, Nat.reduceEqDiff, reduceIte, Nat.reduceAdd, Nat.reduceMul, Nat.reduceSub, Nat.reduceLT, Nat.reduceLeDiff, Nat.reduceBEq, noTop]; first | done | rfl) rfl (by simp only [go_sem, Nat.reduceLT]) ?_; simp only [go_sem, Nat.reduceEqDiff, reduceIte, Nat.reduceAdd, Nat.reduceMul, Nat.reduceSub, Nat.reduceLT, Nat.reduceLeDiff, Nat.reduceBEq, noTop]))
  exact Aw_ret (retL (M := [0, 1, 2, 3]) (.inl rfl) (by simp only [go_sem, Nat.reduceEqDiff, reduceIte, Nat.reduceAdd, Nat.reduceMul, Nat.reduceSub, Nat.reduceLT, Nat.reduceLeDiff, Nat.reduceBEq]; first | done | rfl) rfl rfl (by rfl) (by simp only [go_sem, Nat.reduceEqDiff, reduceIte, Nat.reduceAdd, Nat.reduceMul, Nat.reduceSub, Nat.reduceLT, Nat.reduceLeDiff, Nat.reduceBEq]; first | done | rfl | (and_intros <;> rfl)) (by decide) (by intro m hm; first | omega | (rcases m with _ | _ | _ | _ | _ | _ | m <;> first | exact ⟨by decide, rfl⟩ | omega)))
theorem l12Down_ok (s s' : Sto) (hs : SmH s) (hr : SmR s.top) (hl : s.top.length ≤ 1000) (h : downM s = some s') : AC Try.prog 202 [hT s] (hpL (hS s)) 4 ⟨.tup [hT5 s', bT true], hpL (hS5 s'), 5⟩ := by
  have k : AC Try.prog 204 [hT (noTop s), iT (0 : Nat), runT s.top] (hpL (hS (noTop s))) 4 ⟨.tup [hT s', bT true], hpL (hS s'), 4⟩ := (into_ac 2 (noTop s) 0 s.top rfl ⟨hs.ll, hs.sl, hs.lev, hs.tl⟩ hr hl).1 s' h
  rw [show ((0 : Nat) : Int) = 0 from rfl] at k
  refine AC_of Try.func202 rfl Try.ntmps202 Try.results202 (by kernel_rfl) rfl ?_
  simp only [List.zipIdx, List.map, Nat.zero_add, Nat.reduceAdd]
  refine Aw.setS (os := [some (lvRow s.levels), some (svRow s.sieves), some (eRow s.top), some (tmRow s.times)]) (l' := [(0, .t (.agg [.d (.rs 4 (s.top.map entD)), .h 0, .h 1, .d (.s (.int .i64 s.keep)), .d (.s (.int .i64 s.time)), .h 3]))]) (os' := [some (lvRow s.levels), some (svRow s.sieves), none, some (tmRow s.times)]) (n' := 4) [2] ⟨.cons (SetC.row0 rfl rfl) (.cons (.inl rfl) (.cons (.inl rfl) (.cons (.inl rfl) (.cons (.inl rfl) (.cons (.inl rfl) .nil))))), trivial⟩ ⟨.inl rfl, rfl, .inl rfl, rfl, .inl rfl, rfl, trivial⟩ (Nat.le_refl _) ?_
  repeat (first | apply Aw_seq | apply Aw_block | apply Aw_skip | apply Aw_exit | refine Aw_condt rfl ?_ | refine Aw_condf rfl ?_ | (refine qr ?_; simp only [go_sem, Nat.reduceEqDiff, reduceIte, Nat.reduceAdd, Nat.reduceMul, Nat.reduceSub, Nat.reduceLT, Nat.reduceLeDiff, Nat.reduceBEq, noTop]) | (refine qd (by kernel_rfl) (by kernel_rfl) ?_; simp only [go_sem, Nat.reduceEqDiff, reduceIte, Nat.reduceAdd, Nat.reduceMul, Nat.reduceSub, Nat.reduceLT, Nat.reduceLeDiff, Nat.reduceBEq, noTop]) | refine dk (by kernel_rfl) ?_ | (refine qx (call_L (N' := [0, 1, 10, 3]) (L := []) (k) rfl (.cons (.nm rfl) (.cons (.nm rfl) (.cons (.nm rfl) (.nil)))) (by decide) (by decide) (by decide) (by simp only [go_sem, Nat.reduceEqDiff, reduceIte, Nat.reduceAdd, Nat.reduceMul, Nat.reduceSub, Nat.reduceLT, Nat.reduceLeDiff, Nat.reduceBEq, noTop]; first | done | rfl) (.inl rfl) rfl (by decide)) (by simp only [go_sem, Nat.reduceEqDiff, reduceIte, Nat.reduceAdd, Nat.reduceMul, Nat.reduceSub, Nat.reduceLT, Nat.reduceLeDiff, Nat.reduceBEq, noTop]; first | done | rfl) rfl (by simp only [go_sem, Nat.reduceLT]) ?_; simp only [go_sem, Nat.reduceEqDiff, reduceIte, Nat.reduceAdd, Nat.reduceMul, Nat.reduceSub, Nat.reduceLT, Nat.reduceLeDiff, Nat.reduceBEq, noTop]))
  exact Aw_ret (retL (M := [0, 1, 2, 3, 10]) (.inl rfl) (by simp only [go_sem, Nat.reduceEqDiff, reduceIte, Nat.reduceAdd, Nat.reduceMul, Nat.reduceSub, Nat.reduceLT, Nat.reduceLeDiff, Nat.reduceBEq]; first | done | rfl) rfl rfl (by rfl) (by simp only [go_sem, Nat.reduceEqDiff, reduceIte, Nat.reduceAdd, Nat.reduceMul, Nat.reduceSub, Nat.reduceLT, Nat.reduceLeDiff, Nat.reduceBEq]; first | done | rfl | (and_intros <;> rfl)) (by decide) (by intro m hm; first | omega | (rcases m with _ | _ | _ | _ | _ | _ | m <;> first | exact ⟨by decide, rfl⟩ | omega)))
end Go.Proofs.Ytcbhgglpgphimaa.Ab
namespace Go.Proofs.Ytcbhgglpgphimaa.Ab
set_option linter.deprecated false
set_option linter.unusedVariables false
set_option linter.unusedSimpArgs false
open Go Go.Proofs
set_option maxRecDepth 10000
set_option maxHeartbeats 8000000
set_option linter.unusedSimpArgs false
set_option linter.unusedVariables false
theorem runOk_len {r : List Ent} (h : runOk r = true) : r.length ≤ 40 := by
  unfold runOk at h; rw [Bool.and_eq_true] at h; exact of_decide_eq_true h.2
theorem storeS_facts {s : Sto} (h : storeS s = true) : s.levels.length = 3 ∧ s.sieves.length = 3 ∧ s.top.length ≤ 4 ∧ s.times.length ≤ 3 ∧ (∀ r ∈ s.levels, r.length ≤ 40) ∧ inB 0 s.time 999 = true ∧ inB 0 s.keep 5 = true := by
  unfold storeS headS at h
  simp only [Bool.and_eq_true] at h
  obtain ⟨⟨⟨⟨⟨⟨⟨h1, h2⟩, h3⟩, h4⟩, h5⟩, h6⟩, h7⟩, h8⟩ := h
  have hl := of_decide_eq_true h1
  have hsl := of_decide_eq_true h2
  refine ⟨hl, hsl, of_decide_eq_true h7, ?_, ?_, h4, h3⟩
  · unfold timesM at h5; rw [Bool.and_eq_true] at h5; exact of_decide_eq_true h5.2
  · intro r hr
    obtain ⟨i, hi⟩ := List.mem_iff_getElem?.1 hr
    have hil := (List.getElem?_eq_some_iff.1 hi).1
    have := allI_iff.1 h8 i (by omega)
    unfold sAt at this
    obtain ⟨x, hx⟩ : ∃ x, s.sieves[i]? = some x := ⟨_, List.getElem?_eq_getElem (by omega)⟩
    rw [hi, hx] at this
    simp only [Bool.and_eq_true] at this
    have l := this.1.1
    unfold lvM at l
    simp only [Bool.and_eq_true] at l
    exact runOk_len l.1.1.1
theorem valid_sm {s : Sto} (hs : SmSt s) (h : storeS s = true) : SmH s := by
  obtain ⟨h1, h2, h3, h4, h5, _⟩ := storeS_facts h
  exact ⟨h1, h2, fun r hr => ⟨hs.lev r hr, by have := h5 r hr; omega⟩, by omega⟩
theorem copyV_ac (s : Sto) (hs : SmSt s) (hv : storeS s = true) : AC Try.prog 192 [stT s] noHp 0 ⟨.t (hT s), hpL (hS s), 4⟩ := by
  obtain ⟨h1, h2, h3, h4, h5, _⟩ := storeS_facts hv
  obtain ⟨top, levels, sieves, keep, time, times⟩ := s
  dsimp only at h1 h2 h3 h4 h5
  obtain ⟨a, b, c, rfl⟩ := len3 h1
  obtain ⟨x, y, z, rfl⟩ := len3 h2
  have q1 := h5 a (by simp); have q2 := h5 b (by simp); have q3 := h5 c (by simp)
  exact l12CopyS_ac top a b c x y z keep time times (by omega) (by omega) (by omega) (by omega) (hs.rl x (by simp)) (hs.rl y (by simp)) (hs.rl z (by simp)) (by omega)
def addM (s : Sto) (e : Ent) : Option Sto := if (storeS s && entOk e) = true then
  (if 4 ≤ s.top.length then (downM s).map fun x => { x with top := joinM [e] x.top, time := e.time } else some { s with top := joinM [e] s.top, time := e.time }) else none
theorem zA_tup : NilA (.tup [zA, bT false]) (.tup [stT zSto, bT false]) := zA_nil
theorem l12Add_no (s : Sto) (e : Ent) (hs : SmSt s) (he : smK e.key) (h : addM s e = none) : AC Try.prog 201 [stT s, entT e] noHp 0 ⟨.tup [zA, bT false], noHp, 0⟩ := by
  refine AC_of Try.func201 rfl Try.ntmps201 Try.results201 (by kernel_rfl) rfl ?_
  simp only [List.zipIdx, List.map, Nat.zero_add, Nat.reduceAdd]
  have k1 := sstoreOk_ac s hs
  have k2 := sentOk_ac e he
  cases c1 : storeS s
  · rw [c1] at k1
    repeat (first | apply Aw_seq | apply Aw_block | apply Aw_skip | apply Aw_exit | refine Aw_condt rfl ?_ | refine Aw_condf rfl ?_ | (refine qr ?_; simp only [go_sem, Nat.reduceEqDiff, reduceIte, Nat.reduceAdd, Nat.reduceMul, Nat.reduceSub, Nat.reduceLT, Nat.reduceLeDiff, Nat.reduceBEq]) | (refine qd (by kernel_rfl) (by kernel_rfl) ?_; simp only [go_sem, Nat.reduceEqDiff, reduceIte, Nat.reduceAdd, Nat.reduceMul, Nat.reduceSub, Nat.reduceLT, Nat.reduceLeDiff, Nat.reduceBEq]) | refine dk (by kernel_rfl) ?_ | (refine qp (k1) (by simp only [go_sem, Nat.reduceEqDiff, reduceIte, Nat.reduceAdd, Nat.reduceMul, Nat.reduceSub, Nat.reduceLT, Nat.reduceLeDiff, Nat.reduceBEq]; first | done | rfl) rfl (by simp only [go_sem, Nat.reduceLT]) rfl rfl ?_; simp only [go_sem, Nat.reduceEqDiff, reduceIte, Nat.reduceAdd, Nat.reduceMul, Nat.reduceSub, Nat.reduceLT, Nat.reduceLeDiff, Nat.reduceBEq]))
    exact Aw_ret (ret0 (.inl rfl) (by simp only [go_sem, Nat.reduceEqDiff, reduceIte, Nat.reduceAdd, Nat.reduceMul, Nat.reduceSub, Nat.reduceLT, Nat.reduceLeDiff, Nat.reduceBEq]; rfl) (by rfl) rfl)
  rw [c1] at k1
  cases c2 : entOk e
  · rw [c2] at k2
    repeat (first | apply Aw_seq | apply Aw_block | apply Aw_skip | apply Aw_exit | refine Aw_condt rfl ?_ | refine Aw_condf rfl ?_ | (refine qr ?_; simp only [go_sem, Nat.reduceEqDiff, reduceIte, Nat.reduceAdd, Nat.reduceMul, Nat.reduceSub, Nat.reduceLT, Nat.reduceLeDiff, Nat.reduceBEq]) | (refine qd (by kernel_rfl) (by kernel_rfl) ?_; simp only [go_sem, Nat.reduceEqDiff, reduceIte, Nat.reduceAdd, Nat.reduceMul, Nat.reduceSub, Nat.reduceLT, Nat.reduceLeDiff, Nat.reduceBEq]) | refine dk (by kernel_rfl) ?_ | (refine qp (k1) (by simp only [go_sem, Nat.reduceEqDiff, reduceIte, Nat.reduceAdd, Nat.reduceMul, Nat.reduceSub, Nat.reduceLT, Nat.reduceLeDiff, Nat.reduceBEq]; first | done | rfl) rfl (by simp only [go_sem, Nat.reduceLT]) rfl rfl ?_; simp only [go_sem, Nat.reduceEqDiff, reduceIte, Nat.reduceAdd, Nat.reduceMul, Nat.reduceSub, Nat.reduceLT, Nat.reduceLeDiff, Nat.reduceBEq]) | (refine qp (k2) (by simp only [go_sem, Nat.reduceEqDiff, reduceIte, Nat.reduceAdd, Nat.reduceMul, Nat.reduceSub, Nat.reduceLT, Nat.reduceLeDiff, Nat.reduceBEq]; first | done | rfl) rfl (by simp only [go_sem, Nat.reduceLT]) rfl rfl ?_; simp only [go_sem, Nat.reduceEqDiff, reduceIte, Nat.reduceAdd, Nat.reduceMul, Nat.reduceSub, Nat.reduceLT, Nat.reduceLeDiff, Nat.reduceBEq]))
    exact Aw_ret (ret0 (.inl rfl) (by simp only [go_sem, Nat.reduceEqDiff, reduceIte, Nat.reduceAdd, Nat.reduceMul, Nat.reduceSub, Nat.reduceLT, Nat.reduceLeDiff, Nat.reduceBEq]; rfl) (by rfl) rfl)
  rw [c2] at k2
  have k3 := copyV_ac s hs c1
  obtain ⟨h1, h2, h3, h4, h5, _⟩ := storeS_facts c1
  by_cases c3 : 4 ≤ s.top.length
  case neg => unfold addM at h; simp [c1, c2, c3] at h
  have g1 : decide ((4 : Int) ≤ (s.top.length : Int)) = true := decide_eq_true (by omega)
  have hd : downM s = none := by unfold addM at h; simpa [c1, c2, c3] using h
  have k4 := l12Down_no s (valid_sm hs c1) hs.top (by omega) hd
  repeat (first | apply Aw_seq | apply Aw_block | apply Aw_skip | apply Aw_exit | refine Aw_condt rfl ?_ | refine Aw_condf rfl ?_ | (refine qr ?_; simp only [go_sem, Nat.reduceEqDiff, reduceIte, Nat.reduceAdd, Nat.reduceMul, Nat.reduceSub, Nat.reduceLT, Nat.reduceLeDiff, Nat.reduceBEq, g1]) | (refine qd (by kernel_rfl) (by kernel_rfl) ?_; simp only [go_sem, Nat.reduceEqDiff, reduceIte, Nat.reduceAdd, Nat.reduceMul, Nat.reduceSub, Nat.reduceLT, Nat.reduceLeDiff, Nat.reduceBEq, g1]) | refine dk (by kernel_rfl) ?_ | (refine qp (k1) (by simp only [go_sem, Nat.reduceEqDiff, reduceIte, Nat.reduceAdd, Nat.reduceMul, Nat.reduceSub, Nat.reduceLT, Nat.reduceLeDiff, Nat.reduceBEq, g1]; first | done | rfl) rfl (by simp only [go_sem, Nat.reduceLT]) rfl rfl ?_; simp only [go_sem, Nat.reduceEqDiff, reduceIte, Nat.reduceAdd, Nat.reduceMul, Nat.reduceSub, Nat.reduceLT, Nat.reduceLeDiff, Nat.reduceBEq, g1]) | (refine qp (k2) (by simp only [go_sem, Nat.reduceEqDiff, reduceIte, Nat.reduceAdd, Nat.reduceMul, Nat.reduceSub, Nat.reduceLT, Nat.reduceLeDiff, Nat.reduceBEq, g1]; first | done | rfl) rfl (by simp only [go_sem, Nat.reduceLT]) rfl rfl ?_; simp only [go_sem, Nat.reduceEqDiff, reduceIte, Nat.reduceAdd, Nat.reduceMul, Nat.reduceSub, Nat.reduceLT, Nat.reduceLeDiff, Nat.reduceBEq, g1]) | (refine qx (call_N (L := []) (k3) rfl (.cons (.nm rfl) (.nil)) (.inl rfl) rfl) (by simp only [go_sem, Nat.reduceEqDiff, reduceIte, Nat.reduceAdd, Nat.reduceMul, Nat.reduceSub, Nat.reduceLT, Nat.reduceLeDiff, Nat.reduceBEq, g1]; first | done | rfl) rfl (by simp only [go_sem, Nat.reduceLT]) ?_; simp only [go_sem, Nat.reduceEqDiff, reduceIte, Nat.reduceAdd, Nat.reduceMul, Nat.reduceSub, Nat.reduceLT, Nat.reduceLeDiff, Nat.reduceBEq, g1]) | (refine qx (call_L (N' := [11, 12, 13, 14]) (L := []) (k4) rfl (.cons (.nm rfl) (.nil)) (by decide) (by decide) (by decide) (by simp only [go_sem, Nat.reduceEqDiff, reduceIte, Nat.reduceAdd, Nat.reduceMul, Nat.reduceSub, Nat.reduceLT, Nat.reduceLeDiff, Nat.reduceBEq, g1]; first | done | rfl) (.inl rfl) rfl (by decide)) (by simp only [go_sem, Nat.reduceEqDiff, reduceIte, Nat.reduceAdd, Nat.reduceMul, Nat.reduceSub, Nat.reduceLT, Nat.reduceLeDiff, Nat.reduceBEq, g1]; first | done | rfl) rfl (by simp only [go_sem, Nat.reduceLT]) ?_; simp only [go_sem, Nat.reduceEqDiff, reduceIte, Nat.reduceAdd, Nat.reduceMul, Nat.reduceSub, Nat.reduceLT, Nat.reduceLeDiff, Nat.reduceBEq, g1]))
  exact Aw_ret (ret0 (.inl rfl) (by simp only [go_sem, Nat.reduceEqDiff, reduceIte, Nat.reduceAdd, Nat.reduceMul, Nat.reduceSub, Nat.reduceLT, Nat.reduceLeDiff, Nat.reduceBEq]; rfl) (by rfl) rfl)
theorem l12Add_okR (s s' : Sto) (e : Ent) (hs : SmSt s) (he : smK e.key) (h : addM s e = some s') : AC Try.prog 201 [stT s, entT e] noHp 0 ⟨.tup [hT s', bT true], hpL (hS s'), 4⟩ := by
  refine AC_of Try.func201 rfl Try.ntmps201 Try.results201 (by kernel_rfl) rfl ?_
  simp only [List.zipIdx, List.map, Nat.zero_add, Nat.reduceAdd]
  have k1 := sstoreOk_ac s hs
  have k2 := sentOk_ac e he
  cases c1 : storeS s
  · unfold addM at h; simp [c1] at h
  rw [c1] at k1
  cases c2 : entOk e
  · unfold addM at h; simp [c2] at h
  rw [c2] at k2
  have k3 := copyV_ac s hs c1
  obtain ⟨h1, h2, h3, h4, h5, _⟩ := storeS_facts c1
  have lb : (1 : Nat) * 40 ≤ 140737488355328 := by omega
  by_cases c3 : 4 ≤ s.top.length
  · have g1 : decide ((4 : Int) ≤ (s.top.length : Int)) = true := decide_eq_true (by omega)
    cases hd : downM s with
    | none => unfold addM at h; simp [c1, c2, c3, hd] at h
    | some x =>
      have k4 := l12Down_ok s x (valid_sm hs c1) hs.top (by omega) hd
      obtain ⟨g3, g4, g5, g6, g7⟩ := intoM_sm 2 (s := noTop s) (i := 0) rfl ⟨(valid_sm hs c1).ll, (valid_sm hs c1).sl, (valid_sm hs c1).lev, (valid_sm hs c1).tl⟩ hs.top (by omega) hd
      have e1 : s' = { x with top := joinM [e] x.top, time := e.time } := by unfold addM at h; simpa [c1, c2, c3, hd] using h.symm
      have k5 := l11Join_ac [e] x.top (by simp) (by rw [g5]; simp [noTop])
      subst e1
      repeat (first | apply Aw_seq | apply Aw_block | apply Aw_skip | apply Aw_exit | refine Aw_condt rfl ?_ | refine Aw_condf rfl ?_ | (refine qr ?_; simp only [go_sem, Nat.reduceEqDiff, reduceIte, Nat.reduceAdd, Nat.reduceMul, Nat.reduceSub, Nat.reduceLT, Nat.reduceLeDiff, Nat.reduceBEq, g1]) | (refine qd (by kernel_rfl) (by kernel_rfl) ?_; simp only [go_sem, Nat.reduceEqDiff, reduceIte, Nat.reduceAdd, Nat.reduceMul, Nat.reduceSub, Nat.reduceLT, Nat.reduceLeDiff, Nat.reduceBEq, g1]) | refine dk (by kernel_rfl) ?_ | (refine qp (k1) (by simp only [go_sem, Nat.reduceEqDiff, reduceIte, Nat.reduceAdd, Nat.reduceMul, Nat.reduceSub, Nat.reduceLT, Nat.reduceLeDiff, Nat.reduceBEq, g1]; first | done | rfl) rfl (by simp only [go_sem, Nat.reduceLT]) rfl rfl ?_; simp only [go_sem, Nat.reduceEqDiff, reduceIte, Nat.reduceAdd, Nat.reduceMul, Nat.reduceSub, Nat.reduceLT, Nat.reduceLeDiff, Nat.reduceBEq, g1]) | (refine qp (k2) (by simp only [go_sem, Nat.reduceEqDiff, reduceIte, Nat.reduceAdd, Nat.reduceMul, Nat.reduceSub, Nat.reduceLT, Nat.reduceLeDiff, Nat.reduceBEq, g1]; first | done | rfl) rfl (by simp only [go_sem, Nat.reduceLT]) rfl rfl ?_; simp only [go_sem, Nat.reduceEqDiff, reduceIte, Nat.reduceAdd, Nat.reduceMul, Nat.reduceSub, Nat.reduceLT, Nat.reduceLeDiff, Nat.reduceBEq, g1]) | (refine qx (call_N (L := []) (k3) rfl (.cons (.nm rfl) (.nil)) (.inl rfl) rfl) (by simp only [go_sem, Nat.reduceEqDiff, reduceIte, Nat.reduceAdd, Nat.reduceMul, Nat.reduceSub, Nat.reduceLT, Nat.reduceLeDiff, Nat.reduceBEq, g1]; first | done | rfl) rfl (by simp only [go_sem, Nat.reduceLT]) ?_; simp only [go_sem, Nat.reduceEqDiff, reduceIte, Nat.reduceAdd, Nat.reduceMul, Nat.reduceSub, Nat.reduceLT, Nat.reduceLeDiff, Nat.reduceBEq, g1]) | (refine qx (call_L (N' := [11, 12, 13, 14]) (L := []) (k4) rfl (.cons (.nm rfl) (.nil)) (by decide) (by decide) (by decide) (by simp only [go_sem, Nat.reduceEqDiff, reduceIte, Nat.reduceAdd, Nat.reduceMul, Nat.reduceSub, Nat.reduceLT, Nat.reduceLeDiff, Nat.reduceBEq, g1]; first | done | rfl) (.inl rfl) rfl (by decide)) (by simp only [go_sem, Nat.reduceEqDiff, reduceIte, Nat.reduceAdd, Nat.reduceMul, Nat.reduceSub, Nat.reduceLT, Nat.reduceLeDiff, Nat.reduceBEq, g1]; first | done | rfl) rfl (by simp only [go_sem, Nat.reduceLT]) ?_; simp only [go_sem, Nat.reduceEqDiff, reduceIte, Nat.reduceAdd, Nat.reduceMul, Nat.reduceSub, Nat.reduceLT, Nat.reduceLeDiff, Nat.reduceBEq, g1]) | (refine qx (call_N (L := [21, 33]) (k5) rfl (.cons (.ln (n := 2) rfl (lnBB rfl)) (.cons (arg_lend (m := 21) rfl (by simp)) (.nil))) (.inr ⟨rfl, by simp⟩) rfl) (by simp only [go_sem, Nat.reduceEqDiff, reduceIte, Nat.reduceAdd, Nat.reduceMul, Nat.reduceSub, Nat.reduceLT, Nat.reduceLeDiff, Nat.reduceBEq, g1]; first | done | rfl) rfl (by simp only [go_sem, Nat.reduceLT]) ?_; simp only [go_sem, Nat.reduceEqDiff, reduceIte, Nat.reduceAdd, Nat.reduceMul, Nat.reduceSub, Nat.reduceLT, Nat.reduceLeDiff, Nat.reduceBEq, g1]))
      exact Aw_ret (retL (M := [11, 12, 36, 14]) (.inl rfl) (by simp only [go_sem, Nat.reduceEqDiff, reduceIte, Nat.reduceAdd, Nat.reduceMul, Nat.reduceSub, Nat.reduceLT, Nat.reduceLeDiff, Nat.reduceBEq]; first | done | rfl) rfl rfl (by rfl) (by simp only [go_sem, Nat.reduceEqDiff, reduceIte, Nat.reduceAdd, Nat.reduceMul, Nat.reduceSub, Nat.reduceLT, Nat.reduceLeDiff, Nat.reduceBEq]; first | done | rfl | (and_intros <;> rfl)) (by decide) (by intro m hm; first | omega | (rcases m with _ | _ | _ | _ | _ | _ | m <;> first | exact ⟨by decide, rfl⟩ | omega)))
  · have g1 : decide ((4 : Int) ≤ (s.top.length : Int)) = false := decide_eq_false (by omega)
    have e1 : s' = { s with top := joinM [e] s.top, time := e.time } := by unfold addM at h; simpa [c1, c2, c3] using h.symm
    have k5 := l11Join_ac [e] s.top (by simp) (by omega)
    subst e1
    repeat (first | apply Aw_seq | apply Aw_block | apply Aw_skip | apply Aw_exit | refine Aw_condt rfl ?_ | refine Aw_condf rfl ?_ | (refine qr ?_; simp only [go_sem, Nat.reduceEqDiff, reduceIte, Nat.reduceAdd, Nat.reduceMul, Nat.reduceSub, Nat.reduceLT, Nat.reduceLeDiff, Nat.reduceBEq, g1]) | (refine qd (by kernel_rfl) (by kernel_rfl) ?_; simp only [go_sem, Nat.reduceEqDiff, reduceIte, Nat.reduceAdd, Nat.reduceMul, Nat.reduceSub, Nat.reduceLT, Nat.reduceLeDiff, Nat.reduceBEq, g1]) | refine dk (by kernel_rfl) ?_ | (refine qp (k1) (by simp only [go_sem, Nat.reduceEqDiff, reduceIte, Nat.reduceAdd, Nat.reduceMul, Nat.reduceSub, Nat.reduceLT, Nat.reduceLeDiff, Nat.reduceBEq, g1]; first | done | rfl) rfl (by simp only [go_sem, Nat.reduceLT]) rfl rfl ?_; simp only [go_sem, Nat.reduceEqDiff, reduceIte, Nat.reduceAdd, Nat.reduceMul, Nat.reduceSub, Nat.reduceLT, Nat.reduceLeDiff, Nat.reduceBEq, g1]) | (refine qp (k2) (by simp only [go_sem, Nat.reduceEqDiff, reduceIte, Nat.reduceAdd, Nat.reduceMul, Nat.reduceSub, Nat.reduceLT, Nat.reduceLeDiff, Nat.reduceBEq, g1]; first | done | rfl) rfl (by simp only [go_sem, Nat.reduceLT]) rfl rfl ?_; simp only [go_sem, Nat.reduceEqDiff, reduceIte, Nat.reduceAdd, Nat.reduceMul, Nat.reduceSub, Nat.reduceLT, Nat.reduceLeDiff, Nat.reduceBEq, g1]) | (refine qx (call_N (L := []) (k3) rfl (.cons (.nm rfl) (.nil)) (.inl rfl) rfl) (by simp only [go_sem, Nat.reduceEqDiff, reduceIte, Nat.reduceAdd, Nat.reduceMul, Nat.reduceSub, Nat.reduceLT, Nat.reduceLeDiff, Nat.reduceBEq, g1]; first | done | rfl) rfl (by simp only [go_sem, Nat.reduceLT]) ?_; simp only [go_sem, Nat.reduceEqDiff, reduceIte, Nat.reduceAdd, Nat.reduceMul, Nat.reduceSub, Nat.reduceLT, Nat.reduceLeDiff, Nat.reduceBEq, g1]) | (refine qx (call_N (L := [13, 21]) (k5) rfl (.cons (.ln (n := 2) rfl (lnBB rfl)) (.cons (arg_lend (m := 13) rfl (by simp)) (.nil))) (.inr ⟨rfl, by simp⟩) rfl) (by simp only [go_sem, Nat.reduceEqDiff, reduceIte, Nat.reduceAdd, Nat.reduceMul, Nat.reduceSub, Nat.reduceLT, Nat.reduceLeDiff, Nat.reduceBEq, g1]; first | done | rfl) rfl (by simp only [go_sem, Nat.reduceLT]) ?_; simp only [go_sem, Nat.reduceEqDiff, reduceIte, Nat.reduceAdd, Nat.reduceMul, Nat.reduceSub, Nat.reduceLT, Nat.reduceLeDiff, Nat.reduceBEq, g1]))
    exact Aw_ret (retL (M := [11, 12, 24, 14]) (.inl rfl) (by simp only [go_sem, Nat.reduceEqDiff, reduceIte, Nat.reduceAdd, Nat.reduceMul, Nat.reduceSub, Nat.reduceLT, Nat.reduceLeDiff, Nat.reduceBEq]; first | done | rfl) rfl rfl (by rfl) (by simp only [go_sem, Nat.reduceEqDiff, reduceIte, Nat.reduceAdd, Nat.reduceMul, Nat.reduceSub, Nat.reduceLT, Nat.reduceLeDiff, Nat.reduceBEq]; first | done | rfl | (and_intros <;> rfl)) (by decide) (by intro m hm; first | omega | (rcases m with _ | _ | _ | _ | _ | _ | m <;> first | exact ⟨by decide, rfl⟩ | omega)))
end Go.Proofs.Ytcbhgglpgphimaa.Ab
namespace Go.Proofs.Ytcbhgglpgphimaa.Ab
set_option linter.deprecated false
set_option linter.unusedVariables false
set_option linter.unusedSimpArgs false
open Go Go.Proofs
set_option maxRecDepth 10000
set_option maxHeartbeats 8000000
set_option linter.unusedSimpArgs false
set_option linter.unusedVariables false
abbrev resO (o : Option Sto) : AV := .tup [stT (o.getD zSto), bT o.isSome]
/-- What is given: a store of its own, or nothing. -/
def OwnR (f : FuncId) (args : List TV) (o : Option Sto) : Prop := (∀ x, o = some x → AC Try.prog f args noHp 0 ⟨.tup [hT x, bT true], hpL (hS x), 4⟩) ∧ (o = none → AC Try.prog f args noHp 0 ⟨.tup [zA, bT false], noHp, 0⟩)
theorem OwnR.set {f : FuncId} {args : List TV} {o : Option Sto} (h : OwnR f args o) : AC Try.prog f args noHp 0 ⟨resO o, noHp, 0⟩ := by
  cases o with
  | none => exact AC.nilR (h.2 rfl) zA_nil
  | some x => exact AC.settle0 [0, 1, 2, 3] (h.1 x rfl) (.cons (.cons (SetC.row0 rfl rfl) (.cons (SetC.row0 rfl rfl) (.cons (SetC.row0 rfl rfl) (.cons (.inl rfl) (.cons (.inl rfl) (.cons (SetC.row0 rfl rfl) .nil)))))) (.cons (.inl rfl) .nil)) rfl
theorem l12Add_own (s : Sto) (e : Ent) (hs : SmSt s) (he : smK e.key) : OwnR 201 [stT s, entT e] (addM s e) := ⟨fun x h => l12Add_okR s x e hs he h, fun h => l12Add_no s e hs he h⟩
def nextT (s : Sto) : Int := IntKind.i64.wrap (s.time + 1)
def putM (s : Sto) (k : ByteArray) (v : Int) : Option Sto := addM s ⟨k, v, false, nextT s⟩
def takeM (s : Sto) (k : ByteArray) : Option Sto := addM s ⟨k, 0, true, nextT s⟩
theorem storePutS_own (s : Sto) (k : ByteArray) (v : Int) (hs : SmSt s) (hk : smK k) : OwnR 177 [stT s, sT k, iT v] (putM s k v) := by
  obtain ⟨h1, h2⟩ := l12Add_own s ⟨k, v, false, nextT s⟩ hs hk
  refine ⟨fun x hx => ?_, fun hx => ?_⟩
  · have h := h1 x hx
    unfold nextT at h
    refine AC_of Try.func177 rfl Try.ntmps177 Try.results177 (by kernel_rfl) rfl ?_
    simp only [List.zipIdx, List.map, Nat.zero_add, Nat.reduceAdd]
    repeat (first | apply Aw_seq | apply Aw_block | apply Aw_skip | apply Aw_exit | refine Aw_condt rfl ?_ | refine Aw_condf rfl ?_ | (refine qr ?_; simp only [go_sem, Nat.reduceEqDiff, reduceIte, Nat.reduceAdd, Nat.reduceMul, Nat.reduceSub, Nat.reduceLT, Nat.reduceLeDiff, Nat.reduceBEq]) | (refine qd (by kernel_rfl) (by kernel_rfl) ?_; simp only [go_sem, Nat.reduceEqDiff, reduceIte, Nat.reduceAdd, Nat.reduceMul, Nat.reduceSub, Nat.reduceLT, Nat.reduceLeDiff, Nat.reduceBEq]) | refine dk (by kernel_rfl) ?_ | (refine qx (call_N (L := []) (h) rfl (.cons (.nm rfl) (.cons (.nm rfl) (.nil))) (.inl rfl) rfl) (by simp only [go_sem, Nat.reduceEqDiff, reduceIte, Nat.reduceAdd, Nat.reduceMul, Nat.reduceSub, Nat.reduceLT, Nat.reduceLeDiff, Nat.reduceBEq]; first | done | rfl) rfl (by simp only [go_sem, Nat.reduceLT]) ?_; simp only [go_sem, Nat.reduceEqDiff, reduceIte, Nat.reduceAdd, Nat.reduceMul, Nat.reduceSub, Nat.reduceLT, Nat.reduceLeDiff, Nat.reduceBEq]))
    exact Aw_ret (retL (M := [10, 11, 12, 13]) (.inl rfl) (by simp only [go_sem, Nat.reduceEqDiff, reduceIte, Nat.reduceAdd, Nat.reduceMul, Nat.reduceSub, Nat.reduceLT, Nat.reduceLeDiff, Nat.reduceBEq]; first | done | rfl) rfl rfl (by rfl) (by simp only [go_sem, Nat.reduceEqDiff, reduceIte, Nat.reduceAdd, Nat.reduceMul, Nat.reduceSub, Nat.reduceLT, Nat.reduceLeDiff, Nat.reduceBEq]; first | done | rfl | (and_intros <;> rfl)) (by decide) (by intro m hm; first | omega | (rcases m with _ | _ | _ | _ | _ | _ | m <;> first | exact ⟨by decide, rfl⟩ | omega)))
  · have h := h2 hx
    unfold nextT at h
    refine AC_of Try.func177 rfl Try.ntmps177 Try.results177 (by kernel_rfl) rfl ?_
    simp only [List.zipIdx, List.map, Nat.zero_add, Nat.reduceAdd]
    repeat (first | apply Aw_seq | apply Aw_block | apply Aw_skip | apply Aw_exit | refine Aw_condt rfl ?_ | refine Aw_condf rfl ?_ | (refine qr ?_; simp only [go_sem, Nat.reduceEqDiff, reduceIte, Nat.reduceAdd, Nat.reduceMul, Nat.reduceSub, Nat.reduceLT, Nat.reduceLeDiff, Nat.reduceBEq]) | (refine qd (by kernel_rfl) (by kernel_rfl) ?_; simp only [go_sem, Nat.reduceEqDiff, reduceIte, Nat.reduceAdd, Nat.reduceMul, Nat.reduceSub, Nat.reduceLT, Nat.reduceLeDiff, Nat.reduceBEq]) | refine dk (by kernel_rfl) ?_ | (refine qp (h) (by simp only [go_sem, Nat.reduceEqDiff, reduceIte, Nat.reduceAdd, Nat.reduceMul, Nat.reduceSub, Nat.reduceLT, Nat.reduceLeDiff, Nat.reduceBEq]; first | done | rfl) rfl (by simp only [go_sem, Nat.reduceLT]) rfl rfl ?_; simp only [go_sem, Nat.reduceEqDiff, reduceIte, Nat.reduceAdd, Nat.reduceMul, Nat.reduceSub, Nat.reduceLT, Nat.reduceLeDiff, Nat.reduceBEq]))
    exact Aw_ret (ret0 (.inl rfl) (by simp only [go_sem, Nat.reduceEqDiff, reduceIte, Nat.reduceAdd, Nat.reduceMul, Nat.reduceSub, Nat.reduceLT, Nat.reduceLeDiff, Nat.reduceBEq]; rfl) (by rfl) rfl)
theorem storeTakeS_own (s : Sto) (k : ByteArray) (hs : SmSt s) (hk : smK k) : OwnR 178 [stT s, sT k] (takeM s k) := by
  obtain ⟨h1, h2⟩ := l12Add_own s ⟨k, 0, true, nextT s⟩ hs hk
  refine ⟨fun x hx => ?_, fun hx => ?_⟩
  · have h := h1 x hx
    unfold nextT at h
    refine AC_of Try.func178 rfl Try.ntmps178 Try.results178 (by kernel_rfl) rfl ?_
    simp only [List.zipIdx, List.map, Nat.zero_add, Nat.reduceAdd]
    repeat (first | apply Aw_seq | apply Aw_block | apply Aw_skip | apply Aw_exit | refine Aw_condt rfl ?_ | refine Aw_condf rfl ?_ | (refine qr ?_; simp only [go_sem, Nat.reduceEqDiff, reduceIte, Nat.reduceAdd, Nat.reduceMul, Nat.reduceSub, Nat.reduceLT, Nat.reduceLeDiff, Nat.reduceBEq]) | (refine qd (by kernel_rfl) (by kernel_rfl) ?_; simp only [go_sem, Nat.reduceEqDiff, reduceIte, Nat.reduceAdd, Nat.reduceMul, Nat.reduceSub, Nat.reduceLT, Nat.reduceLeDiff, Nat.reduceBEq]) | refine dk (by kernel_rfl) ?_ | (refine qx (call_N (L := []) (h) rfl (.cons (.nm rfl) (.cons (.nm rfl) (.nil))) (.inl rfl) rfl) (by simp only [go_sem, Nat.reduceEqDiff, reduceIte, Nat.reduceAdd, Nat.reduceMul, Nat.reduceSub, Nat.reduceLT, Nat.reduceLeDiff, Nat.reduceBEq]; first | done | rfl) rfl (by simp only [go_sem, Nat.reduceLT]) ?_; simp only [go_sem, Nat.reduceEqDiff, reduceIte, Nat.reduceAdd, Nat.reduceMul, Nat.reduceSub, Nat.reduceLT, Nat.reduceLeDiff, Nat.reduceBEq]))
    exact Aw_ret (retL (M := [9, 10, 11, 12]) (.inl rfl) (by simp only [go_sem, Nat.reduceEqDiff, reduceIte, Nat.reduceAdd, Nat.reduceMul, Nat.reduceSub, Nat.reduceLT, Nat.reduceLeDiff, Nat.reduceBEq]; first | done | rfl) rfl rfl (by rfl) (by simp only [go_sem, Nat.reduceEqDiff, reduceIte, Nat.reduceAdd, Nat.reduceMul, Nat.reduceSub, Nat.reduceLT, Nat.reduceLeDiff, Nat.reduceBEq]; first | done | rfl | (and_intros <;> rfl)) (by decide) (by intro m hm; first | omega | (rcases m with _ | _ | _ | _ | _ | _ | m <;> first | exact ⟨by decide, rfl⟩ | omega)))
  · have h := h2 hx
    unfold nextT at h
    refine AC_of Try.func178 rfl Try.ntmps178 Try.results178 (by kernel_rfl) rfl ?_
    simp only [List.zipIdx, List.map, Nat.zero_add, Nat.reduceAdd]
    repeat (first | apply Aw_seq | apply Aw_block | apply Aw_skip | apply Aw_exit | refine Aw_condt rfl ?_ | refine Aw_condf rfl ?_ | (refine qr ?_; simp only [go_sem, Nat.reduceEqDiff, reduceIte, Nat.reduceAdd, Nat.reduceMul, Nat.reduceSub, Nat.reduceLT, Nat.reduceLeDiff, Nat.reduceBEq]) | (refine qd (by kernel_rfl) (by kernel_rfl) ?_; simp only [go_sem, Nat.reduceEqDiff, reduceIte, Nat.reduceAdd, Nat.reduceMul, Nat.reduceSub, Nat.reduceLT, Nat.reduceLeDiff, Nat.reduceBEq]) | refine dk (by kernel_rfl) ?_ | (refine qp (h) (by simp only [go_sem, Nat.reduceEqDiff, reduceIte, Nat.reduceAdd, Nat.reduceMul, Nat.reduceSub, Nat.reduceLT, Nat.reduceLeDiff, Nat.reduceBEq]; first | done | rfl) rfl (by simp only [go_sem, Nat.reduceLT]) rfl rfl ?_; simp only [go_sem, Nat.reduceEqDiff, reduceIte, Nat.reduceAdd, Nat.reduceMul, Nat.reduceSub, Nat.reduceLT, Nat.reduceLeDiff, Nat.reduceBEq]))
    exact Aw_ret (ret0 (.inl rfl) (by simp only [go_sem, Nat.reduceEqDiff, reduceIte, Nat.reduceAdd, Nat.reduceMul, Nat.reduceSub, Nat.reduceLT, Nat.reduceLeDiff, Nat.reduceBEq]; rfl) (by rfl) rfl)
def sDownM (s : Sto) : Option Sto := if storeS s = true then downM s else none
theorem storeDownS_own (s : Sto) (hs : SmSt s) : OwnR 181 [stT s] (sDownM s) := by
  have k1 := sstoreOk_ac s hs
  unfold sDownM
  cases c1 : storeS s
  · rw [c1] at k1
    refine ⟨fun x hx => (by cases hx), fun _ => ?_⟩
    refine AC_of Try.func181 rfl Try.ntmps181 Try.results181 (by kernel_rfl) rfl ?_
    simp only [List.zipIdx, List.map, Nat.zero_add, Nat.reduceAdd]
    repeat (first | apply Aw_seq | apply Aw_block | apply Aw_skip | apply Aw_exit | refine Aw_condt rfl ?_ | refine Aw_condf rfl ?_ | (refine qr ?_; simp only [go_sem, Nat.reduceEqDiff, reduceIte, Nat.reduceAdd, Nat.reduceMul, Nat.reduceSub, Nat.reduceLT, Nat.reduceLeDiff, Nat.reduceBEq]) | (refine qd (by kernel_rfl) (by kernel_rfl) ?_; simp only [go_sem, Nat.reduceEqDiff, reduceIte, Nat.reduceAdd, Nat.reduceMul, Nat.reduceSub, Nat.reduceLT, Nat.reduceLeDiff, Nat.reduceBEq]) | refine dk (by kernel_rfl) ?_ | (refine qp (k1) (by simp only [go_sem, Nat.reduceEqDiff, reduceIte, Nat.reduceAdd, Nat.reduceMul, Nat.reduceSub, Nat.reduceLT, Nat.reduceLeDiff, Nat.reduceBEq]; first | done | rfl) rfl (by simp only [go_sem, Nat.reduceLT]) rfl rfl ?_; simp only [go_sem, Nat.reduceEqDiff, reduceIte, Nat.reduceAdd, Nat.reduceMul, Nat.reduceSub, Nat.reduceLT, Nat.reduceLeDiff, Nat.reduceBEq]))
    exact Aw_ret (ret0 (.inl rfl) (by simp only [go_sem, Nat.reduceEqDiff, reduceIte, Nat.reduceAdd, Nat.reduceMul, Nat.reduceSub, Nat.reduceLT, Nat.reduceLeDiff, Nat.reduceBEq]; rfl) (by rfl) rfl)
  rw [c1] at k1
  rw [if_pos rfl]
  have k3 := copyV_ac s hs c1
  obtain ⟨h1, h2, h3, h4, h5, _⟩ := storeS_facts c1
  refine ⟨fun x hd => ?_, fun hd => ?_⟩
  · have k4 := l12Down_ok s x (valid_sm hs c1) hs.top (by omega) hd
    refine AC_of Try.func181 rfl Try.ntmps181 Try.results181 (by kernel_rfl) rfl ?_
    simp only [List.zipIdx, List.map, Nat.zero_add, Nat.reduceAdd]
    repeat (first | apply Aw_seq | apply Aw_block | apply Aw_skip | apply Aw_exit | refine Aw_condt rfl ?_ | refine Aw_condf rfl ?_ | (refine qr ?_; simp only [go_sem, Nat.reduceEqDiff, reduceIte, Nat.reduceAdd, Nat.reduceMul, Nat.reduceSub, Nat.reduceLT, Nat.reduceLeDiff, Nat.reduceBEq]) | (refine qd (by kernel_rfl) (by kernel_rfl) ?_; simp only [go_sem, Nat.reduceEqDiff, reduceIte, Nat.reduceAdd, Nat.reduceMul, Nat.reduceSub, Nat.reduceLT, Nat.reduceLeDiff, Nat.reduceBEq]) | refine dk (by kernel_rfl) ?_ | (refine qp (k1) (by simp only [go_sem, Nat.reduceEqDiff, reduceIte, Nat.reduceAdd, Nat.reduceMul, Nat.reduceSub, Nat.reduceLT, Nat.reduceLeDiff, Nat.reduceBEq]; first | done | rfl) rfl (by simp only [go_sem, Nat.reduceLT]) rfl rfl ?_; simp only [go_sem, Nat.reduceEqDiff, reduceIte, Nat.reduceAdd, Nat.reduceMul, Nat.reduceSub, Nat.reduceLT, Nat.reduceLeDiff, Nat.reduceBEq]) | (refine qx (call_N (L := []) (k3) rfl (.cons (.nm rfl) (.nil)) (.inl rfl) rfl) (by simp only [go_sem, Nat.reduceEqDiff, reduceIte, Nat.reduceAdd, Nat.reduceMul, Nat.reduceSub, Nat.reduceLT, Nat.reduceLeDiff, Nat.reduceBEq]; first | done | rfl) rfl (by simp only [go_sem, Nat.reduceLT]) ?_; simp only [go_sem, Nat.reduceEqDiff, reduceIte, Nat.reduceAdd, Nat.reduceMul, Nat.reduceSub, Nat.reduceLT, Nat.reduceLeDiff, Nat.reduceBEq]) | (refine qx (call_L (N' := [6, 7, 8, 9]) (L := []) (k4) rfl (.cons (.nm rfl) (.nil)) (by decide) (by decide) (by decide) (by simp only [go_sem, Nat.reduceEqDiff, reduceIte, Nat.reduceAdd, Nat.reduceMul, Nat.reduceSub, Nat.reduceLT, Nat.reduceLeDiff, Nat.reduceBEq]; first | done | rfl) (.inl rfl) rfl (by decide)) (by simp only [go_sem, Nat.reduceEqDiff, reduceIte, Nat.reduceAdd, Nat.reduceMul, Nat.reduceSub, Nat.reduceLT, Nat.reduceLeDiff, Nat.reduceBEq]; first | done | rfl) rfl (by simp only [go_sem, Nat.reduceLT]) ?_; simp only [go_sem, Nat.reduceEqDiff, reduceIte, Nat.reduceAdd, Nat.reduceMul, Nat.reduceSub, Nat.reduceLT, Nat.reduceLeDiff, Nat.reduceBEq]))
    exact Aw_ret (retL (M := [6, 7, 10, 9]) (.inl rfl) (by simp only [go_sem, Nat.reduceEqDiff, reduceIte, Nat.reduceAdd, Nat.reduceMul, Nat.reduceSub, Nat.reduceLT, Nat.reduceLeDiff, Nat.reduceBEq]; first | done | rfl) rfl rfl (by rfl) (by simp only [go_sem, Nat.reduceEqDiff, reduceIte, Nat.reduceAdd, Nat.reduceMul, Nat.reduceSub, Nat.reduceLT, Nat.reduceLeDiff, Nat.reduceBEq]; first | done | rfl | (and_intros <;> rfl)) (by decide) (by intro m hm; first | omega | (rcases m with _ | _ | _ | _ | _ | _ | m <;> first | exact ⟨by decide, rfl⟩ | omega)))
  · have k4 := l12Down_no s (valid_sm hs c1) hs.top (by omega) hd
    refine AC_of Try.func181 rfl Try.ntmps181 Try.results181 (by kernel_rfl) rfl ?_
    simp only [List.zipIdx, List.map, Nat.zero_add, Nat.reduceAdd]
    repeat (first | apply Aw_seq | apply Aw_block | apply Aw_skip | apply Aw_exit | refine Aw_condt rfl ?_ | refine Aw_condf rfl ?_ | (refine qr ?_; simp only [go_sem, Nat.reduceEqDiff, reduceIte, Nat.reduceAdd, Nat.reduceMul, Nat.reduceSub, Nat.reduceLT, Nat.reduceLeDiff, Nat.reduceBEq]) | (refine qd (by kernel_rfl) (by kernel_rfl) ?_; simp only [go_sem, Nat.reduceEqDiff, reduceIte, Nat.reduceAdd, Nat.reduceMul, Nat.reduceSub, Nat.reduceLT, Nat.reduceLeDiff, Nat.reduceBEq]) | refine dk (by kernel_rfl) ?_ | (refine qp (k1) (by simp only [go_sem, Nat.reduceEqDiff, reduceIte, Nat.reduceAdd, Nat.reduceMul, Nat.reduceSub, Nat.reduceLT, Nat.reduceLeDiff, Nat.reduceBEq]; first | done | rfl) rfl (by simp only [go_sem, Nat.reduceLT]) rfl rfl ?_; simp only [go_sem, Nat.reduceEqDiff, reduceIte, Nat.reduceAdd, Nat.reduceMul, Nat.reduceSub, Nat.reduceLT, Nat.reduceLeDiff, Nat.reduceBEq]) | (refine qx (call_N (L := []) (k3) rfl (.cons (.nm rfl) (.nil)) (.inl rfl) rfl) (by simp only [go_sem, Nat.reduceEqDiff, reduceIte, Nat.reduceAdd, Nat.reduceMul, Nat.reduceSub, Nat.reduceLT, Nat.reduceLeDiff, Nat.reduceBEq]; first | done | rfl) rfl (by simp only [go_sem, Nat.reduceLT]) ?_; simp only [go_sem, Nat.reduceEqDiff, reduceIte, Nat.reduceAdd, Nat.reduceMul, Nat.reduceSub, Nat.reduceLT, Nat.reduceLeDiff, Nat.reduceBEq]) | (refine qx (call_L (N' := [6, 7, 8, 9]) (L := []) (k4) rfl (.cons (.nm rfl) (.nil)) (by decide) (by decide) (by decide) (by simp only [go_sem, Nat.reduceEqDiff, reduceIte, Nat.reduceAdd, Nat.reduceMul, Nat.reduceSub, Nat.reduceLT, Nat.reduceLeDiff, Nat.reduceBEq]; first | done | rfl) (.inl rfl) rfl (by decide)) (by simp only [go_sem, Nat.reduceEqDiff, reduceIte, Nat.reduceAdd, Nat.reduceMul, Nat.reduceSub, Nat.reduceLT, Nat.reduceLeDiff, Nat.reduceBEq]; first | done | rfl) rfl (by simp only [go_sem, Nat.reduceLT]) ?_; simp only [go_sem, Nat.reduceEqDiff, reduceIte, Nat.reduceAdd, Nat.reduceMul, Nat.reduceSub, Nat.reduceLT, Nat.reduceLeDiff, Nat.reduceBEq]))
    exact Aw_ret (ret0 (.inl rfl) (by simp only [go_sem, Nat.reduceEqDiff, reduceIte, Nat.reduceAdd, Nat.reduceMul, Nat.reduceSub, Nat.reduceLT, Nat.reduceLeDiff, Nat.reduceBEq]; rfl) (by rfl) rfl)
def sJoinM (s : Sto) (l : Int) : Option Sto := if (storeS s && inB 0 l 1) = true then (setM s l.toNat []).bind fun x => intoM (1 - l.toNat) x (l.toNat + 1) (s.levels.getD l.toNat []) else none
theorem smR_nil : SmR [] := ⟨by simp, by simp⟩
theorem keysM_nil : keysM [] = [] := rfl
theorem sieve_nil {keep : Nat} (hk : keep ≤ 5) : sieveM [] keep = some (eSve keep) := by
  unfold sieveM
  rw [if_pos ⟨rfl, inKeep hk⟩, show Int.toNat (keep : Int) = keep from rfl, bfs0]
  rfl
theorem storeJoinS_own (s : Sto) (l : Int) (hs : SmSt s) : OwnR 182 [stT s, iT l] (sJoinM s l) := by
  have k1 := sstoreOk_ac s hs
  unfold sJoinM
  cases c1 : storeS s
  · rw [c1] at k1
    refine ⟨fun x hx => by simp at hx, fun _ => ?_⟩
    refine AC_of Try.func182 rfl Try.ntmps182 Try.results182 (by kernel_rfl) rfl ?_
    simp only [List.zipIdx, List.map, Nat.zero_add, Nat.reduceAdd]
    repeat (first | apply Aw_seq | apply Aw_block | apply Aw_skip | apply Aw_exit | refine Aw_condt rfl ?_ | refine Aw_condf rfl ?_ | (refine qr ?_; simp only [go_sem, Nat.reduceEqDiff, reduceIte, Nat.reduceAdd, Nat.reduceMul, Nat.reduceSub, Nat.reduceLT, Nat.reduceLeDiff, Nat.reduceBEq]) | (refine qd (by kernel_rfl) (by kernel_rfl) ?_; simp only [go_sem, Nat.reduceEqDiff, reduceIte, Nat.reduceAdd, Nat.reduceMul, Nat.reduceSub, Nat.reduceLT, Nat.reduceLeDiff, Nat.reduceBEq]) | refine dk (by kernel_rfl) ?_ | (refine qp (k1) (by simp only [go_sem, Nat.reduceEqDiff, reduceIte, Nat.reduceAdd, Nat.reduceMul, Nat.reduceSub, Nat.reduceLT, Nat.reduceLeDiff, Nat.reduceBEq]; first | done | rfl) rfl (by simp only [go_sem, Nat.reduceLT]) rfl rfl ?_; simp only [go_sem, Nat.reduceEqDiff, reduceIte, Nat.reduceAdd, Nat.reduceMul, Nat.reduceSub, Nat.reduceLT, Nat.reduceLeDiff, Nat.reduceBEq]))
    exact Aw_ret (ret0 (.inl rfl) (by simp only [go_sem, Nat.reduceEqDiff, reduceIte, Nat.reduceAdd, Nat.reduceMul, Nat.reduceSub, Nat.reduceLT, Nat.reduceLeDiff, Nat.reduceBEq]; rfl) (by rfl) rfl)
  rw [c1] at k1
  cases c2 : inB 0 l 1
  · refine ⟨fun x hx => by simp at hx, fun _ => ?_⟩
    refine AC_of Try.func182 rfl Try.ntmps182 Try.results182 (by kernel_rfl) rfl ?_
    simp only [List.zipIdx, List.map, Nat.zero_add, Nat.reduceAdd]
    repeat (first | apply Aw_seq | apply Aw_block | apply Aw_skip | apply Aw_exit | refine Aw_condt rfl ?_ | refine Aw_condf rfl ?_ | (refine qr ?_; simp only [go_sem, Nat.reduceEqDiff, reduceIte, Nat.reduceAdd, Nat.reduceMul, Nat.reduceSub, Nat.reduceLT, Nat.reduceLeDiff, Nat.reduceBEq, c2]) | (refine qd (by kernel_rfl) (by kernel_rfl) ?_; simp only [go_sem, Nat.reduceEqDiff, reduceIte, Nat.reduceAdd, Nat.reduceMul, Nat.reduceSub, Nat.reduceLT, Nat.reduceLeDiff, Nat.reduceBEq, c2]) | refine dk (by kernel_rfl) ?_ | (refine qp (k1) (by simp only [go_sem, Nat.reduceEqDiff, reduceIte, Nat.reduceAdd, Nat.reduceMul, Nat.reduceSub, Nat.reduceLT, Nat.reduceLeDiff, Nat.reduceBEq, c2]; first | done | rfl) rfl (by simp only [go_sem, Nat.reduceLT]) rfl rfl ?_; simp only [go_sem, Nat.reduceEqDiff, reduceIte, Nat.reduceAdd, Nat.reduceMul, Nat.reduceSub, Nat.reduceLT, Nat.reduceLeDiff, Nat.reduceBEq, c2]) | (refine qp (l6In_ac _ _ _) (by simp only [go_sem, Nat.reduceEqDiff, reduceIte, Nat.reduceAdd, Nat.reduceMul, Nat.reduceSub, Nat.reduceLT, Nat.reduceLeDiff, Nat.reduceBEq, c2]; first | done | rfl) rfl (by simp only [go_sem, Nat.reduceLT]) rfl rfl ?_; simp only [go_sem, Nat.reduceEqDiff, reduceIte, Nat.reduceAdd, Nat.reduceMul, Nat.reduceSub, Nat.reduceLT, Nat.reduceLeDiff, Nat.reduceBEq, c2]))
    exact Aw_ret (ret0 (.inl rfl) (by simp only [go_sem, Nat.reduceEqDiff, reduceIte, Nat.reduceAdd, Nat.reduceMul, Nat.reduceSub, Nat.reduceLT, Nat.reduceLeDiff, Nat.reduceBEq]; rfl) (by rfl) rfl)
  have k3 := copyV_ac s hs c1
  have sm := valid_sm hs c1
  obtain ⟨h1, h2, h3, h4, h5, _, h7⟩ := storeS_facts c1
  rw [if_pos (show (true && true) = true from rfl)]
  obtain ⟨n, hn, rfl⟩ : ∃ n : Nat, n ≤ 1 ∧ l = n := by
    unfold inB at c2
    rw [Bool.and_eq_true] at c2
    have h1 := of_decide_eq_true c2.1; have h2 := of_decide_eq_true c2.2
    exact ⟨l.toNat, by omega, by omega⟩
  rw [show Int.toNat (n : Int) = n from rfl]
  obtain ⟨kn, hk, hkk⟩ : ∃ m : Nat, m ≤ 5 ∧ s.keep = m := by
    unfold inB at h7
    rw [Bool.and_eq_true] at h7
    have h1 := of_decide_eq_true h7.1; have h2 := of_decide_eq_true h7.2
    exact ⟨s.keep.toNat, by omega, by omega⟩
  obtain ⟨x, hset⟩ : ∃ x, setM s n [] = some x := by unfold setM; rw [keysM_nil, hkk, sieve_nil hk]; exact ⟨_, if_pos (Nat.zero_le _)⟩
  have smx : SmH x := setM_sm sm (by omega) smR_nil hset
  obtain ⟨q, hq⟩ : ∃ q, s.levels[n]? = some q := ⟨_, List.getElem?_eq_getElem (by omega)⟩
  have hqd : s.levels.getD n [] = q := by simp [List.getD, hq]
  obtain ⟨hq1, hq2⟩ := sm.lev q (List.mem_of_getElem? hq)
  have hlt := (List.getElem?_eq_some_iff.1 hq).1
  have k4 := l12Set_ok s x n [] (by omega) hlt (by omega) smR_nil hset
  have w1 : IntKind.i64.wrap ((n : Int) + 1) = ((n + 1 : Nat) : Int) := wrap_succ (m := n + 1) (by omega) (by omega)
  obtain ⟨i1, i2⟩ := into_ac (1 - n) x (n + 1) q (by omega) smx hq1 hq2
  rw [hset, Option.bind_some, hqd]
  refine ⟨fun y hin => ?_, fun hin => ?_⟩
  · have k5 := i1 y hin
    refine AC_of Try.func182 rfl Try.ntmps182 Try.results182 (by kernel_rfl) rfl ?_
    simp only [List.zipIdx, List.map, Nat.zero_add, Nat.reduceAdd]
    repeat (first | apply Aw_seq | apply Aw_block | apply Aw_skip | apply Aw_exit | refine Aw_condt rfl ?_ | refine Aw_condf rfl ?_ | (refine qr ?_; simp only [go_sem, Nat.reduceEqDiff, reduceIte, Nat.reduceAdd, Nat.reduceMul, Nat.reduceSub, Nat.reduceLT, Nat.reduceLeDiff, Nat.reduceBEq, c2, w1, hq, hlt]) | (refine qd (by kernel_rfl) (by kernel_rfl) ?_; simp only [go_sem, Nat.reduceEqDiff, reduceIte, Nat.reduceAdd, Nat.reduceMul, Nat.reduceSub, Nat.reduceLT, Nat.reduceLeDiff, Nat.reduceBEq, c2, w1, hq, hlt]) | refine dk (by kernel_rfl) ?_ | (refine qp (k1) (by simp only [go_sem, Nat.reduceEqDiff, reduceIte, Nat.reduceAdd, Nat.reduceMul, Nat.reduceSub, Nat.reduceLT, Nat.reduceLeDiff, Nat.reduceBEq, c2, w1, hq, hlt]; first | done | rfl) rfl (by simp only [go_sem, Nat.reduceLT]) rfl rfl ?_; simp only [go_sem, Nat.reduceEqDiff, reduceIte, Nat.reduceAdd, Nat.reduceMul, Nat.reduceSub, Nat.reduceLT, Nat.reduceLeDiff, Nat.reduceBEq, c2, w1, hq, hlt]) | (refine qp (l6In_ac _ _ _) (by simp only [go_sem, Nat.reduceEqDiff, reduceIte, Nat.reduceAdd, Nat.reduceMul, Nat.reduceSub, Nat.reduceLT, Nat.reduceLeDiff, Nat.reduceBEq, c2, w1, hq, hlt]; first | done | rfl) rfl (by simp only [go_sem, Nat.reduceLT]) rfl rfl ?_; simp only [go_sem, Nat.reduceEqDiff, reduceIte, Nat.reduceAdd, Nat.reduceMul, Nat.reduceSub, Nat.reduceLT, Nat.reduceLeDiff, Nat.reduceBEq, c2, w1, hq, hlt]) | (refine qx (call_N (L := []) (k3) rfl (.cons (.nm rfl) (.nil)) (.inl rfl) rfl) (by simp only [go_sem, Nat.reduceEqDiff, reduceIte, Nat.reduceAdd, Nat.reduceMul, Nat.reduceSub, Nat.reduceLT, Nat.reduceLeDiff, Nat.reduceBEq, c2, w1, hq, hlt]; first | done | rfl) rfl (by simp only [go_sem, Nat.reduceLT]) ?_; simp only [go_sem, Nat.reduceEqDiff, reduceIte, Nat.reduceAdd, Nat.reduceMul, Nat.reduceSub, Nat.reduceLT, Nat.reduceLeDiff, Nat.reduceBEq, c2, w1, hq, hlt]) | (refine qx (call_L (N' := [10, 11, 12, 13, 23]) (L := []) (k4) rfl (.cons (.nm rfl) (.cons (.nm rfl) (.cons (.nm rfl) (.nil)))) (by decide) (by decide) (by decide) (by simp only [go_sem, Nat.reduceEqDiff, reduceIte, Nat.reduceAdd, Nat.reduceMul, Nat.reduceSub, Nat.reduceLT, Nat.reduceLeDiff, Nat.reduceBEq, c2, w1, hq, hlt]; first | done | rfl) (.inl rfl) rfl (by decide)) (by simp only [go_sem, Nat.reduceEqDiff, reduceIte, Nat.reduceAdd, Nat.reduceMul, Nat.reduceSub, Nat.reduceLT, Nat.reduceLeDiff, Nat.reduceBEq, c2, w1, hq, hlt]; first | done | rfl) rfl (by simp only [go_sem, Nat.reduceLT]) ?_; simp only [go_sem, Nat.reduceEqDiff, reduceIte, Nat.reduceAdd, Nat.reduceMul, Nat.reduceSub, Nat.reduceLT, Nat.reduceLeDiff, Nat.reduceBEq, c2, w1, hq, hlt]) | (refine qx (call_L (N' := [10, 11, 12, 13]) (L := []) (k5) rfl (.cons (.nm rfl) (.cons (.nm rfl) (.cons (.nm rfl) (.nil)))) (by decide) (by decide) (by decide) (by simp only [go_sem, Nat.reduceEqDiff, reduceIte, Nat.reduceAdd, Nat.reduceMul, Nat.reduceSub, Nat.reduceLT, Nat.reduceLeDiff, Nat.reduceBEq, c2, w1, hq, hlt]; first | done | rfl) (.inl rfl) rfl (by decide)) (by simp only [go_sem, Nat.reduceEqDiff, reduceIte, Nat.reduceAdd, Nat.reduceMul, Nat.reduceSub, Nat.reduceLT, Nat.reduceLeDiff, Nat.reduceBEq, c2, w1, hq, hlt]; first | done | rfl) rfl (by simp only [go_sem, Nat.reduceLT]) ?_; simp only [go_sem, Nat.reduceEqDiff, reduceIte, Nat.reduceAdd, Nat.reduceMul, Nat.reduceSub, Nat.reduceLT, Nat.reduceLeDiff, Nat.reduceBEq, c2, w1, hq, hlt]))
    exact Aw_ret (retL (M := [10, 11, 12, 13]) (.inl rfl) (by simp only [go_sem, Nat.reduceEqDiff, reduceIte, Nat.reduceAdd, Nat.reduceMul, Nat.reduceSub, Nat.reduceLT, Nat.reduceLeDiff, Nat.reduceBEq]; first | done | rfl) rfl rfl (by rfl) (by simp only [go_sem, Nat.reduceEqDiff, reduceIte, Nat.reduceAdd, Nat.reduceMul, Nat.reduceSub, Nat.reduceLT, Nat.reduceLeDiff, Nat.reduceBEq]; first | done | rfl | (and_intros <;> rfl)) (by decide) (by intro m hm; first | omega | (rcases m with _ | _ | _ | _ | _ | _ | m <;> first | exact ⟨by decide, rfl⟩ | omega)))
  · have k5 := i2 hin
    refine AC_of Try.func182 rfl Try.ntmps182 Try.results182 (by kernel_rfl) rfl ?_
    simp only [List.zipIdx, List.map, Nat.zero_add, Nat.reduceAdd]
    repeat (first | apply Aw_seq | apply Aw_block | apply Aw_skip | apply Aw_exit | refine Aw_condt rfl ?_ | refine Aw_condf rfl ?_ | (refine qr ?_; simp only [go_sem, Nat.reduceEqDiff, reduceIte, Nat.reduceAdd, Nat.reduceMul, Nat.reduceSub, Nat.reduceLT, Nat.reduceLeDiff, Nat.reduceBEq, c2, w1, hq, hlt]) | (refine qd (by kernel_rfl) (by kernel_rfl) ?_; simp only [go_sem, Nat.reduceEqDiff, reduceIte, Nat.reduceAdd, Nat.reduceMul, Nat.reduceSub, Nat.reduceLT, Nat.reduceLeDiff, Nat.reduceBEq, c2, w1, hq, hlt]) | refine dk (by kernel_rfl) ?_ | (refine qp (k1) (by simp only [go_sem, Nat.reduceEqDiff, reduceIte, Nat.reduceAdd, Nat.reduceMul, Nat.reduceSub, Nat.reduceLT, Nat.reduceLeDiff, Nat.reduceBEq, c2, w1, hq, hlt]; first | done | rfl) rfl (by simp only [go_sem, Nat.reduceLT]) rfl rfl ?_; simp only [go_sem, Nat.reduceEqDiff, reduceIte, Nat.reduceAdd, Nat.reduceMul, Nat.reduceSub, Nat.reduceLT, Nat.reduceLeDiff, Nat.reduceBEq, c2, w1, hq, hlt]) | (refine qp (l6In_ac _ _ _) (by simp only [go_sem, Nat.reduceEqDiff, reduceIte, Nat.reduceAdd, Nat.reduceMul, Nat.reduceSub, Nat.reduceLT, Nat.reduceLeDiff, Nat.reduceBEq, c2, w1, hq, hlt]; first | done | rfl) rfl (by simp only [go_sem, Nat.reduceLT]) rfl rfl ?_; simp only [go_sem, Nat.reduceEqDiff, reduceIte, Nat.reduceAdd, Nat.reduceMul, Nat.reduceSub, Nat.reduceLT, Nat.reduceLeDiff, Nat.reduceBEq, c2, w1, hq, hlt]) | (refine qx (call_N (L := []) (k3) rfl (.cons (.nm rfl) (.nil)) (.inl rfl) rfl) (by simp only [go_sem, Nat.reduceEqDiff, reduceIte, Nat.reduceAdd, Nat.reduceMul, Nat.reduceSub, Nat.reduceLT, Nat.reduceLeDiff, Nat.reduceBEq, c2, w1, hq, hlt]; first | done | rfl) rfl (by simp only [go_sem, Nat.reduceLT]) ?_; simp only [go_sem, Nat.reduceEqDiff, reduceIte, Nat.reduceAdd, Nat.reduceMul, Nat.reduceSub, Nat.reduceLT, Nat.reduceLeDiff, Nat.reduceBEq, c2, w1, hq, hlt]) | (refine qx (call_L (N' := [10, 11, 12, 13, 23]) (L := []) (k4) rfl (.cons (.nm rfl) (.cons (.nm rfl) (.cons (.nm rfl) (.nil)))) (by decide) (by decide) (by decide) (by simp only [go_sem, Nat.reduceEqDiff, reduceIte, Nat.reduceAdd, Nat.reduceMul, Nat.reduceSub, Nat.reduceLT, Nat.reduceLeDiff, Nat.reduceBEq, c2, w1, hq, hlt]; first | done | rfl) (.inl rfl) rfl (by decide)) (by simp only [go_sem, Nat.reduceEqDiff, reduceIte, Nat.reduceAdd, Nat.reduceMul, Nat.reduceSub, Nat.reduceLT, Nat.reduceLeDiff, Nat.reduceBEq, c2, w1, hq, hlt]; first | done | rfl) rfl (by simp only [go_sem, Nat.reduceLT]) ?_; simp only [go_sem, Nat.reduceEqDiff, reduceIte, Nat.reduceAdd, Nat.reduceMul, Nat.reduceSub, Nat.reduceLT, Nat.reduceLeDiff, Nat.reduceBEq, c2, w1, hq, hlt]) | (refine qx (call_L (N' := [10, 11, 12, 13]) (L := []) (k5) rfl (.cons (.nm rfl) (.cons (.nm rfl) (.cons (.nm rfl) (.nil)))) (by decide) (by decide) (by decide) (by simp only [go_sem, Nat.reduceEqDiff, reduceIte, Nat.reduceAdd, Nat.reduceMul, Nat.reduceSub, Nat.reduceLT, Nat.reduceLeDiff, Nat.reduceBEq, c2, w1, hq, hlt]; first | done | rfl) (.inl rfl) rfl (by decide)) (by simp only [go_sem, Nat.reduceEqDiff, reduceIte, Nat.reduceAdd, Nat.reduceMul, Nat.reduceSub, Nat.reduceLT, Nat.reduceLeDiff, Nat.reduceBEq, c2, w1, hq, hlt]; first | done | rfl) rfl (by simp only [go_sem, Nat.reduceLT]) ?_; simp only [go_sem, Nat.reduceEqDiff, reduceIte, Nat.reduceAdd, Nat.reduceMul, Nat.reduceSub, Nat.reduceLT, Nat.reduceLeDiff, Nat.reduceBEq, c2, w1, hq, hlt]))
    exact Aw_ret (ret0 (.inl rfl) (by simp only [go_sem, Nat.reduceEqDiff, reduceIte, Nat.reduceAdd, Nat.reduceMul, Nat.reduceSub, Nat.reduceLT, Nat.reduceLeDiff, Nat.reduceBEq]; rfl) (by rfl) rfl)
end Go.Proofs.Ytcbhgglpgphimaa.Ab
namespace Go.Proofs.Ytcbhgglpgphimaa.Ab
set_option linter.deprecated false
set_option linter.unusedVariables false
set_option linter.unusedSimpArgs false
open Go Go.Proofs
set_option maxRecDepth 10000
set_option maxHeartbeats 8000000
set_option linter.unusedSimpArgs false
set_option linter.unusedVariables false
def heldTs (s : Sto) : List Int := if s.times.getLast? = some s.time then s.times else s.times ++ [s.time]
def holdM (s : Sto) : Option Sto := if storeS s = true then (if timesM (heldTs s) s.time = true then some { s with times := heldTs s } else none) else none
abbrev resH (o : Option Sto) : AV := .tup [stT (o.getD zSto), iT (o.getD zSto).time, bT o.isSome]
abbrev zH : AV := .tup [zA, iT 0, bT false]
theorem zH_nil : NilA zH (resH none) := .cons (.cons (NilC.nil _) (.cons (NilC.nil _) (.cons (NilC.nil _) (.cons (.inl rfl) (.cons (.inl rfl) (.cons (NilC.nil _) .nil)))))) (.cons (NilT.refl _) (.cons (NilT.refl _) .nil))
def OwnH (f : FuncId) (args : List TV) (o : Option Sto) : Prop := (∀ x, o = some x → AC Try.prog f args noHp 0 ⟨.tup [hT x, iT x.time, bT true], hpL (hS x), 4⟩) ∧ (o = none → AC Try.prog f args noHp 0 ⟨zH, noHp, 0⟩)
theorem storeHoldS_own (s : Sto) (hs : SmSt s) : OwnH 179 [stT s] (holdM s) := by
  have k1 := sstoreOk_ac s hs
  unfold holdM
  cases c1 : storeS s
  · rw [c1] at k1
    refine ⟨fun x hx => by simp at hx, fun _ => ?_⟩
    refine AC_of Try.func179 rfl Try.ntmps179 Try.results179 (by kernel_rfl) rfl ?_
    simp only [List.zipIdx, List.map, Nat.zero_add, Nat.reduceAdd]
    repeat (first | apply Aw_seq | apply Aw_block | apply Aw_skip | apply Aw_exit | refine Aw_condt rfl ?_ | refine Aw_condf rfl ?_ | (refine qr ?_; simp only [go_sem, Nat.reduceEqDiff, reduceIte, Nat.reduceAdd, Nat.reduceMul, Nat.reduceSub, Nat.reduceLT, Nat.reduceLeDiff, Nat.reduceBEq]) | (refine qd (by kernel_rfl) (by kernel_rfl) ?_; simp only [go_sem, Nat.reduceEqDiff, reduceIte, Nat.reduceAdd, Nat.reduceMul, Nat.reduceSub, Nat.reduceLT, Nat.reduceLeDiff, Nat.reduceBEq]) | refine dk (by kernel_rfl) ?_ | (refine qp (k1) (by simp only [go_sem, Nat.reduceEqDiff, reduceIte, Nat.reduceAdd, Nat.reduceMul, Nat.reduceSub, Nat.reduceLT, Nat.reduceLeDiff, Nat.reduceBEq]; first | done | rfl) rfl (by simp only [go_sem, Nat.reduceLT]) rfl rfl ?_; simp only [go_sem, Nat.reduceEqDiff, reduceIte, Nat.reduceAdd, Nat.reduceMul, Nat.reduceSub, Nat.reduceLT, Nat.reduceLeDiff, Nat.reduceBEq]))
    exact Aw_ret (ret0 (.inl rfl) (by simp only [go_sem, Nat.reduceEqDiff, reduceIte, Nat.reduceAdd, Nat.reduceMul, Nat.reduceSub, Nat.reduceLT, Nat.reduceLeDiff, Nat.reduceBEq]; rfl) (by rfl) rfl)
  rw [c1] at k1
  rw [if_pos rfl]
  have k3 := copyV_ac s hs c1
  obtain ⟨h1, h2, h3, h4, h5, _⟩ := storeS_facts c1
  have hap : (s.times.length + 1) * 8 ≤ 140737488355328 := by omega
  have hapA : ∀ (pre : s.times = [] ∨ ∃ j y, s.times.length = j + 1 ∧ s.times[j]? = some y ∧ decide (y = s.time) = false), OwnH 179 [stT s] (if timesM (s.times ++ [s.time]) s.time = true then some { s with times := s.times ++ [s.time] } else none) := by
    intro pre
    have k4 := (l12Times_ac (s.times ++ [s.time]) s.time (by simp; omega)).toL0
    simp only [intsT, List.map_append, List.map_cons, List.map_nil, intD] at k4
    cases c2 : timesM (s.times ++ [s.time]) s.time
    · rw [c2] at k4
      refine ⟨fun x hx => by simp at hx, fun _ => ?_⟩
      rcases pre with hz | ⟨j, y, hj, hy, hne⟩
      · have z0 : decide (((s.times.length : Nat) : Int) = 0) = true := by rw [hz]; rfl
        refine AC_of Try.func179 rfl Try.ntmps179 Try.results179 (by kernel_rfl) rfl ?_
        simp only [List.zipIdx, List.map, Nat.zero_add, Nat.reduceAdd]
        repeat (first | apply Aw_seq | apply Aw_block | apply Aw_skip | apply Aw_exit | refine Aw_condt rfl ?_ | refine Aw_condf rfl ?_ | (refine qr ?_; simp only [go_sem, Nat.reduceEqDiff, reduceIte, Nat.reduceAdd, Nat.reduceMul, Nat.reduceSub, Nat.reduceLT, Nat.reduceLeDiff, Nat.reduceBEq, z0, hap]) | (refine qd (by kernel_rfl) (by kernel_rfl) ?_; simp only [go_sem, Nat.reduceEqDiff, reduceIte, Nat.reduceAdd, Nat.reduceMul, Nat.reduceSub, Nat.reduceLT, Nat.reduceLeDiff, Nat.reduceBEq, z0, hap]) | refine dk (by kernel_rfl) ?_ | (refine qp (k1) (by simp only [go_sem, Nat.reduceEqDiff, reduceIte, Nat.reduceAdd, Nat.reduceMul, Nat.reduceSub, Nat.reduceLT, Nat.reduceLeDiff, Nat.reduceBEq, z0, hap]; first | done | rfl) rfl (by simp only [go_sem, Nat.reduceLT]) rfl rfl ?_; simp only [go_sem, Nat.reduceEqDiff, reduceIte, Nat.reduceAdd, Nat.reduceMul, Nat.reduceSub, Nat.reduceLT, Nat.reduceLeDiff, Nat.reduceBEq, z0, hap]) | (refine qx (call_N (L := []) (k3) rfl (.cons (.nm rfl) (.nil)) (.inl rfl) rfl) (by simp only [go_sem, Nat.reduceEqDiff, reduceIte, Nat.reduceAdd, Nat.reduceMul, Nat.reduceSub, Nat.reduceLT, Nat.reduceLeDiff, Nat.reduceBEq, z0, hap]; first | done | rfl) rfl (by simp only [go_sem, Nat.reduceLT]) ?_; simp only [go_sem, Nat.reduceEqDiff, reduceIte, Nat.reduceAdd, Nat.reduceMul, Nat.reduceSub, Nat.reduceLT, Nat.reduceLeDiff, Nat.reduceBEq, z0, hap]) | (refine qx (call_N (L := [25]) (k4) rfl (.cons (arg_lend (m := 25) rfl (by simp)) (.cons (.nm rfl) (.nil))) (.inr ⟨rfl, by simp⟩) rfl) (by simp only [go_sem, Nat.reduceEqDiff, reduceIte, Nat.reduceAdd, Nat.reduceMul, Nat.reduceSub, Nat.reduceLT, Nat.reduceLeDiff, Nat.reduceBEq, z0, hap]; first | done | rfl) rfl (by simp only [go_sem, Nat.reduceLT]) ?_; simp only [go_sem, Nat.reduceEqDiff, reduceIte, Nat.reduceAdd, Nat.reduceMul, Nat.reduceSub, Nat.reduceLT, Nat.reduceLeDiff, Nat.reduceBEq, z0, hap]))
        exact Aw_ret (ret0 (.inl rfl) (by simp only [go_sem, Nat.reduceEqDiff, reduceIte, Nat.reduceAdd, Nat.reduceMul, Nat.reduceSub, Nat.reduceLT, Nat.reduceLeDiff, Nat.reduceBEq]; rfl) (by rfl) rfl)
      · have z0 : decide (((s.times.length : Nat) : Int) = 0) = false := decide_eq_false (by omega)
        have w1 : IntKind.i64.wrap (((s.times.length : Nat) : Int) - 1) = (j : Int) := by rw [hj]; exact wrap_pred (m := j + 1) (by omega) (by omega)
        have hjl : j < s.times.length := by omega
        refine AC_of Try.func179 rfl Try.ntmps179 Try.results179 (by kernel_rfl) rfl ?_
        simp only [List.zipIdx, List.map, Nat.zero_add, Nat.reduceAdd]
        repeat (first | apply Aw_seq | apply Aw_block | apply Aw_skip | apply Aw_exit | refine Aw_condt rfl ?_ | refine Aw_condf rfl ?_ | (refine qr ?_; simp only [go_sem, Nat.reduceEqDiff, reduceIte, Nat.reduceAdd, Nat.reduceMul, Nat.reduceSub, Nat.reduceLT, Nat.reduceLeDiff, Nat.reduceBEq, z0, hap, w1, hy, hne, hjl]) | (refine qd (by kernel_rfl) (by kernel_rfl) ?_; simp only [go_sem, Nat.reduceEqDiff, reduceIte, Nat.reduceAdd, Nat.reduceMul, Nat.reduceSub, Nat.reduceLT, Nat.reduceLeDiff, Nat.reduceBEq, z0, hap, w1, hy, hne, hjl]) | refine dk (by kernel_rfl) ?_ | (refine qp (k1) (by simp only [go_sem, Nat.reduceEqDiff, reduceIte, Nat.reduceAdd, Nat.reduceMul, Nat.reduceSub, Nat.reduceLT, Nat.reduceLeDiff, Nat.reduceBEq, z0, hap, w1, hy, hne, hjl]; first | done | rfl) rfl (by simp only [go_sem, Nat.reduceLT]) rfl rfl ?_; simp only [go_sem, Nat.reduceEqDiff, reduceIte, Nat.reduceAdd, Nat.reduceMul, Nat.reduceSub, Nat.reduceLT, Nat.reduceLeDiff, Nat.reduceBEq, z0, hap, w1, hy, hne, hjl]) | (refine qx (call_N (L := []) (k3) rfl (.cons (.nm rfl) (.nil)) (.inl rfl) rfl) (by simp only [go_sem, Nat.reduceEqDiff, reduceIte, Nat.reduceAdd, Nat.reduceMul, Nat.reduceSub, Nat.reduceLT, Nat.reduceLeDiff, Nat.reduceBEq, z0, hap, w1, hy, hne, hjl]; first | done | rfl) rfl (by simp only [go_sem, Nat.reduceLT]) ?_; simp only [go_sem, Nat.reduceEqDiff, reduceIte, Nat.reduceAdd, Nat.reduceMul, Nat.reduceSub, Nat.reduceLT, Nat.reduceLeDiff, Nat.reduceBEq, z0, hap, w1, hy, hne, hjl]) | (refine qx (call_N (L := [34]) (k4) rfl (.cons (arg_lend (m := 34) rfl (by simp)) (.cons (.nm rfl) (.nil))) (.inr ⟨rfl, by simp⟩) rfl) (by simp only [go_sem, Nat.reduceEqDiff, reduceIte, Nat.reduceAdd, Nat.reduceMul, Nat.reduceSub, Nat.reduceLT, Nat.reduceLeDiff, Nat.reduceBEq, z0, hap, w1, hy, hne, hjl]; first | done | rfl) rfl (by simp only [go_sem, Nat.reduceLT]) ?_; simp only [go_sem, Nat.reduceEqDiff, reduceIte, Nat.reduceAdd, Nat.reduceMul, Nat.reduceSub, Nat.reduceLT, Nat.reduceLeDiff, Nat.reduceBEq, z0, hap, w1, hy, hne, hjl]))
        exact Aw_ret (ret0 (.inl rfl) (by simp only [go_sem, Nat.reduceEqDiff, reduceIte, Nat.reduceAdd, Nat.reduceMul, Nat.reduceSub, Nat.reduceLT, Nat.reduceLeDiff, Nat.reduceBEq]; rfl) (by rfl) rfl)
    · rw [c2] at k4
      refine ⟨fun x hx => ?_, fun hx => by simp at hx⟩
      obtain rfl := Option.some.inj (show some { s with times := s.times ++ [s.time] } = some x from hx)
      rcases pre with hz | ⟨j, y, hj, hy, hne⟩
      · have z0 : decide (((s.times.length : Nat) : Int) = 0) = true := by rw [hz]; rfl
        refine AC_of Try.func179 rfl Try.ntmps179 Try.results179 (by kernel_rfl) rfl ?_
        simp only [List.zipIdx, List.map, Nat.zero_add, Nat.reduceAdd]
        repeat (first | apply Aw_seq | apply Aw_block | apply Aw_skip | apply Aw_exit | refine Aw_condt rfl ?_ | refine Aw_condf rfl ?_ | (refine qr ?_; simp only [go_sem, Nat.reduceEqDiff, reduceIte, Nat.reduceAdd, Nat.reduceMul, Nat.reduceSub, Nat.reduceLT, Nat.reduceLeDiff, Nat.reduceBEq, z0, hap]) | (refine qd (by kernel_rfl) (by kernel_rfl) ?_; simp only [go_sem, Nat.reduceEqDiff, reduceIte, Nat.reduceAdd, Nat.reduceMul, Nat.reduceSub, Nat.reduceLT, Nat.reduceLeDiff, Nat.reduceBEq, z0, hap]) | refine dk (by kernel_rfl) ?_ | (refine qp (k1) (by simp only [go_sem, Nat.reduceEqDiff, reduceIte, Nat.reduceAdd, Nat.reduceMul, Nat.reduceSub, Nat.reduceLT, Nat.reduceLeDiff, Nat.reduceBEq, z0, hap]; first | done | rfl) rfl (by simp only [go_sem, Nat.reduceLT]) rfl rfl ?_; simp only [go_sem, Nat.reduceEqDiff, reduceIte, Nat.reduceAdd, Nat.reduceMul, Nat.reduceSub, Nat.reduceLT, Nat.reduceLeDiff, Nat.reduceBEq, z0, hap]) | (refine qx (call_N (L := []) (k3) rfl (.cons (.nm rfl) (.nil)) (.inl rfl) rfl) (by simp only [go_sem, Nat.reduceEqDiff, reduceIte, Nat.reduceAdd, Nat.reduceMul, Nat.reduceSub, Nat.reduceLT, Nat.reduceLeDiff, Nat.reduceBEq, z0, hap]; first | done | rfl) rfl (by simp only [go_sem, Nat.reduceLT]) ?_; simp only [go_sem, Nat.reduceEqDiff, reduceIte, Nat.reduceAdd, Nat.reduceMul, Nat.reduceSub, Nat.reduceLT, Nat.reduceLeDiff, Nat.reduceBEq, z0, hap]) | (refine qx (call_N (L := [25]) (k4) rfl (.cons (arg_lend (m := 25) rfl (by simp)) (.cons (.nm rfl) (.nil))) (.inr ⟨rfl, by simp⟩) rfl) (by simp only [go_sem, Nat.reduceEqDiff, reduceIte, Nat.reduceAdd, Nat.reduceMul, Nat.reduceSub, Nat.reduceLT, Nat.reduceLeDiff, Nat.reduceBEq, z0, hap]; first | done | rfl) rfl (by simp only [go_sem, Nat.reduceLT]) ?_; simp only [go_sem, Nat.reduceEqDiff, reduceIte, Nat.reduceAdd, Nat.reduceMul, Nat.reduceSub, Nat.reduceLT, Nat.reduceLeDiff, Nat.reduceBEq, z0, hap]))
        exact Aw_ret (retL (M := [7, 8, 9, 25]) (.inl rfl) (by simp only [go_sem, Nat.reduceEqDiff, reduceIte, Nat.reduceAdd, Nat.reduceMul, Nat.reduceSub, Nat.reduceLT, Nat.reduceLeDiff, Nat.reduceBEq]; first | done | rfl) rfl rfl (by rfl) (by simp only [go_sem, Nat.reduceEqDiff, reduceIte, Nat.reduceAdd, Nat.reduceMul, Nat.reduceSub, Nat.reduceLT, Nat.reduceLeDiff, Nat.reduceBEq, List.map_append, List.map_cons, List.map_nil]; first | done | rfl | (and_intros <;> rfl)) (by decide) (by intro m hm; first | omega | (rcases m with _ | _ | _ | _ | _ | _ | m <;> first | exact ⟨by decide, rfl⟩ | omega)))
      · have z0 : decide (((s.times.length : Nat) : Int) = 0) = false := decide_eq_false (by omega)
        have w1 : IntKind.i64.wrap (((s.times.length : Nat) : Int) - 1) = (j : Int) := by rw [hj]; exact wrap_pred (m := j + 1) (by omega) (by omega)
        have hjl : j < s.times.length := by omega
        refine AC_of Try.func179 rfl Try.ntmps179 Try.results179 (by kernel_rfl) rfl ?_
        simp only [List.zipIdx, List.map, Nat.zero_add, Nat.reduceAdd]
        repeat (first | apply Aw_seq | apply Aw_block | apply Aw_skip | apply Aw_exit | refine Aw_condt rfl ?_ | refine Aw_condf rfl ?_ | (refine qr ?_; simp only [go_sem, Nat.reduceEqDiff, reduceIte, Nat.reduceAdd, Nat.reduceMul, Nat.reduceSub, Nat.reduceLT, Nat.reduceLeDiff, Nat.reduceBEq, z0, hap, w1, hy, hne, hjl]) | (refine qd (by kernel_rfl) (by kernel_rfl) ?_; simp only [go_sem, Nat.reduceEqDiff, reduceIte, Nat.reduceAdd, Nat.reduceMul, Nat.reduceSub, Nat.reduceLT, Nat.reduceLeDiff, Nat.reduceBEq, z0, hap, w1, hy, hne, hjl]) | refine dk (by kernel_rfl) ?_ | (refine qp (k1) (by simp only [go_sem, Nat.reduceEqDiff, reduceIte, Nat.reduceAdd, Nat.reduceMul, Nat.reduceSub, Nat.reduceLT, Nat.reduceLeDiff, Nat.reduceBEq, z0, hap, w1, hy, hne, hjl]; first | done | rfl) rfl (by simp only [go_sem, Nat.reduceLT]) rfl rfl ?_; simp only [go_sem, Nat.reduceEqDiff, reduceIte, Nat.reduceAdd, Nat.reduceMul, Nat.reduceSub, Nat.reduceLT, Nat.reduceLeDiff, Nat.reduceBEq, z0, hap, w1, hy, hne, hjl]) | (refine qx (call_N (L := []) (k3) rfl (.cons (.nm rfl) (.nil)) (.inl rfl) rfl) (by simp only [go_sem, Nat.reduceEqDiff, reduceIte, Nat.reduceAdd, Nat.reduceMul, Nat.reduceSub, Nat.reduceLT, Nat.reduceLeDiff, Nat.reduceBEq, z0, hap, w1, hy, hne, hjl]; first | done | rfl) rfl (by simp only [go_sem, Nat.reduceLT]) ?_; simp only [go_sem, Nat.reduceEqDiff, reduceIte, Nat.reduceAdd, Nat.reduceMul, Nat.reduceSub, Nat.reduceLT, Nat.reduceLeDiff, Nat.reduceBEq, z0, hap, w1, hy, hne, hjl]) | (refine qx (call_N (L := [34]) (k4) rfl (.cons (arg_lend (m := 34) rfl (by simp)) (.cons (.nm rfl) (.nil))) (.inr ⟨rfl, by simp⟩) rfl) (by simp only [go_sem, Nat.reduceEqDiff, reduceIte, Nat.reduceAdd, Nat.reduceMul, Nat.reduceSub, Nat.reduceLT, Nat.reduceLeDiff, Nat.reduceBEq, z0, hap, w1, hy, hne, hjl]; first | done | rfl) rfl (by simp only [go_sem, Nat.reduceLT]) ?_; simp only [go_sem, Nat.reduceEqDiff, reduceIte, Nat.reduceAdd, Nat.reduceMul, Nat.reduceSub, Nat.reduceLT, Nat.reduceLeDiff, Nat.reduceBEq, z0, hap, w1, hy, hne, hjl]))
        exact Aw_ret (retL (M := [7, 8, 9, 34]) (.inl rfl) (by simp only [go_sem, Nat.reduceEqDiff, reduceIte, Nat.reduceAdd, Nat.reduceMul, Nat.reduceSub, Nat.reduceLT, Nat.reduceLeDiff, Nat.reduceBEq]; first | done | rfl) rfl rfl (by rfl) (by simp only [go_sem, Nat.reduceEqDiff, reduceIte, Nat.reduceAdd, Nat.reduceMul, Nat.reduceSub, Nat.reduceLT, Nat.reduceLeDiff, Nat.reduceBEq, List.map_append, List.map_cons, List.map_nil]; first | done | rfl | (and_intros <;> rfl)) (by decide) (by intro m hm; first | omega | (rcases m with _ | _ | _ | _ | _ | _ | m <;> first | exact ⟨by decide, rfl⟩ | omega)))
  by_cases hz : s.times = []
  · have hh : heldTs s = s.times ++ [s.time] := by unfold heldTs; rw [hz]; simp
    rw [hh]
    exact hapA (.inl hz)
  · obtain ⟨j, hj⟩ : ∃ j, s.times.length = j + 1 := ⟨s.times.length - 1, by have := List.length_pos_iff.2 hz; omega⟩
    obtain ⟨y, hy⟩ : ∃ y, s.times[j]? = some y := ⟨_, List.getElem?_eq_getElem (by omega)⟩
    have hlast : s.times.getLast? = some y := by rw [List.getLast?_eq_getElem?, hj]; exact hy
    cases c3 : decide (y = s.time)
    · have hh : heldTs s = s.times ++ [s.time] := by
        unfold heldTs; rw [hlast, if_neg]
        intro e; rw [Option.some.inj e] at c3; simp at c3
      rw [hh]
      exact hapA (.inr ⟨j, y, hj, hy, c3⟩)
    · have hh : heldTs s = s.times := by unfold heldTs; rw [hlast, of_decide_eq_true c3, if_pos rfl]
      rw [hh]
      have k4 := (l12Times_ac s.times s.time (by omega)).toL0
      have z0 : decide (((s.times.length : Nat) : Int) = 0) = false := decide_eq_false (by omega)
      have w1 : IntKind.i64.wrap (((s.times.length : Nat) : Int) - 1) = (j : Int) := by rw [hj]; exact wrap_pred (m := j + 1) (by omega) (by omega)
      have hjl : j < s.times.length := by omega
      cases c2 : timesM s.times s.time
      · rw [c2] at k4
        refine ⟨fun x hx => by simp at hx, fun _ => ?_⟩
        refine AC_of Try.func179 rfl Try.ntmps179 Try.results179 (by kernel_rfl) rfl ?_
        simp only [List.zipIdx, List.map, Nat.zero_add, Nat.reduceAdd]
        repeat (first | apply Aw_seq | apply Aw_block | apply Aw_skip | apply Aw_exit | refine Aw_condt rfl ?_ | refine Aw_condf rfl ?_ | (refine qr ?_; simp only [go_sem, Nat.reduceEqDiff, reduceIte, Nat.reduceAdd, Nat.reduceMul, Nat.reduceSub, Nat.reduceLT, Nat.reduceLeDiff, Nat.reduceBEq, z0, w1, hy, c3, hjl]) | (refine qd (by kernel_rfl) (by kernel_rfl) ?_; simp only [go_sem, Nat.reduceEqDiff, reduceIte, Nat.reduceAdd, Nat.reduceMul, Nat.reduceSub, Nat.reduceLT, Nat.reduceLeDiff, Nat.reduceBEq, z0, w1, hy, c3, hjl]) | refine dk (by kernel_rfl) ?_ | (refine qp (k1) (by simp only [go_sem, Nat.reduceEqDiff, reduceIte, Nat.reduceAdd, Nat.reduceMul, Nat.reduceSub, Nat.reduceLT, Nat.reduceLeDiff, Nat.reduceBEq, z0, w1, hy, c3, hjl]; first | done | rfl) rfl (by simp only [go_sem, Nat.reduceLT]) rfl rfl ?_; simp only [go_sem, Nat.reduceEqDiff, reduceIte, Nat.reduceAdd, Nat.reduceMul, Nat.reduceSub, Nat.reduceLT, Nat.reduceLeDiff, Nat.reduceBEq, z0, w1, hy, c3, hjl]) | (refine qx (call_N (L := []) (k3) rfl (.cons (.nm rfl) (.nil)) (.inl rfl) rfl) (by simp only [go_sem, Nat.reduceEqDiff, reduceIte, Nat.reduceAdd, Nat.reduceMul, Nat.reduceSub, Nat.reduceLT, Nat.reduceLeDiff, Nat.reduceBEq, z0, w1, hy, c3, hjl]; first | done | rfl) rfl (by simp only [go_sem, Nat.reduceLT]) ?_; simp only [go_sem, Nat.reduceEqDiff, reduceIte, Nat.reduceAdd, Nat.reduceMul, Nat.reduceSub, Nat.reduceLT, Nat.reduceLeDiff, Nat.reduceBEq, z0, w1, hy, c3, hjl]) | (refine qx (call_N (L := [10]) (k4) rfl (.cons (arg_lend (m := 10) rfl (by simp)) (.cons (.nm rfl) (.nil))) (.inr ⟨rfl, by simp⟩) rfl) (by simp only [go_sem, Nat.reduceEqDiff, reduceIte, Nat.reduceAdd, Nat.reduceMul, Nat.reduceSub, Nat.reduceLT, Nat.reduceLeDiff, Nat.reduceBEq, z0, w1, hy, c3, hjl]; first | done | rfl) rfl (by simp only [go_sem, Nat.reduceLT]) ?_; simp only [go_sem, Nat.reduceEqDiff, reduceIte, Nat.reduceAdd, Nat.reduceMul, Nat.reduceSub, Nat.reduceLT, Nat.reduceLeDiff, Nat.reduceBEq, z0, w1, hy, c3, hjl]))
        exact Aw_ret (ret0 (.inl rfl) (by simp only [go_sem, Nat.reduceEqDiff, reduceIte, Nat.reduceAdd, Nat.reduceMul, Nat.reduceSub, Nat.reduceLT, Nat.reduceLeDiff, Nat.reduceBEq]; rfl) (by rfl) rfl)
      · rw [c2] at k4
        refine ⟨fun x hx => ?_, fun hx => by simp at hx⟩
        obtain rfl := Option.some.inj (show some { s with times := s.times } = some x from hx)
        refine AC_of Try.func179 rfl Try.ntmps179 Try.results179 (by kernel_rfl) rfl ?_
        simp only [List.zipIdx, List.map, Nat.zero_add, Nat.reduceAdd]
        repeat (first | apply Aw_seq | apply Aw_block | apply Aw_skip | apply Aw_exit | refine Aw_condt rfl ?_ | refine Aw_condf rfl ?_ | (refine qr ?_; simp only [go_sem, Nat.reduceEqDiff, reduceIte, Nat.reduceAdd, Nat.reduceMul, Nat.reduceSub, Nat.reduceLT, Nat.reduceLeDiff, Nat.reduceBEq, z0, w1, hy, c3, hjl]) | (refine qd (by kernel_rfl) (by kernel_rfl) ?_; simp only [go_sem, Nat.reduceEqDiff, reduceIte, Nat.reduceAdd, Nat.reduceMul, Nat.reduceSub, Nat.reduceLT, Nat.reduceLeDiff, Nat.reduceBEq, z0, w1, hy, c3, hjl]) | refine dk (by kernel_rfl) ?_ | (refine qp (k1) (by simp only [go_sem, Nat.reduceEqDiff, reduceIte, Nat.reduceAdd, Nat.reduceMul, Nat.reduceSub, Nat.reduceLT, Nat.reduceLeDiff, Nat.reduceBEq, z0, w1, hy, c3, hjl]; first | done | rfl) rfl (by simp only [go_sem, Nat.reduceLT]) rfl rfl ?_; simp only [go_sem, Nat.reduceEqDiff, reduceIte, Nat.reduceAdd, Nat.reduceMul, Nat.reduceSub, Nat.reduceLT, Nat.reduceLeDiff, Nat.reduceBEq, z0, w1, hy, c3, hjl]) | (refine qx (call_N (L := []) (k3) rfl (.cons (.nm rfl) (.nil)) (.inl rfl) rfl) (by simp only [go_sem, Nat.reduceEqDiff, reduceIte, Nat.reduceAdd, Nat.reduceMul, Nat.reduceSub, Nat.reduceLT, Nat.reduceLeDiff, Nat.reduceBEq, z0, w1, hy, c3, hjl]; first | done | rfl) rfl (by simp only [go_sem, Nat.reduceLT]) ?_; simp only [go_sem, Nat.reduceEqDiff, reduceIte, Nat.reduceAdd, Nat.reduceMul, Nat.reduceSub, Nat.reduceLT, Nat.reduceLeDiff, Nat.reduceBEq, z0, w1, hy, c3, hjl]) | (refine qx (call_N (L := [10]) (k4) rfl (.cons (arg_lend (m := 10) rfl (by simp)) (.cons (.nm rfl) (.nil))) (.inr ⟨rfl, by simp⟩) rfl) (by simp only [go_sem, Nat.reduceEqDiff, reduceIte, Nat.reduceAdd, Nat.reduceMul, Nat.reduceSub, Nat.reduceLT, Nat.reduceLeDiff, Nat.reduceBEq, z0, w1, hy, c3, hjl]; first | done | rfl) rfl (by simp only [go_sem, Nat.reduceLT]) ?_; simp only [go_sem, Nat.reduceEqDiff, reduceIte, Nat.reduceAdd, Nat.reduceMul, Nat.reduceSub, Nat.reduceLT, Nat.reduceLeDiff, Nat.reduceBEq, z0, w1, hy, c3, hjl]))
        exact Aw_ret (retL (M := [7, 8, 9, 10]) (.inl rfl) (by simp only [go_sem, Nat.reduceEqDiff, reduceIte, Nat.reduceAdd, Nat.reduceMul, Nat.reduceSub, Nat.reduceLT, Nat.reduceLeDiff, Nat.reduceBEq]; first | done | rfl) rfl rfl (by rfl) (by simp only [go_sem, Nat.reduceEqDiff, reduceIte, Nat.reduceAdd, Nat.reduceMul, Nat.reduceSub, Nat.reduceLT, Nat.reduceLeDiff, Nat.reduceBEq]; first | done | rfl | (and_intros <;> rfl)) (by decide) (by intro m hm; first | omega | (rcases m with _ | _ | _ | _ | _ | _ | m <;> first | exact ⟨by decide, rfl⟩ | omega)))
def freeAt (ts : List Int) (t : Int) (i : Nat) : List Int := match ts[i]? with
  | some x => if x = t then [] else [x]
  | none => []
def freeTs (ts : List Int) (t : Int) : List Int := colI ts.length (freeAt ts t)
theorem freeAt_len (ts : List Int) (t : Int) (i : Nat) : (freeAt ts t i).length ≤ 1 := by unfold freeAt; split <;> (try split) <;> simp
def freeM (s : Sto) (t : Int) : Option Sto := if storeS s = true then (if (freeTs s.times t).length = s.times.length then none else some { s with times := freeTs s.times t }) else none
def stHd (s : Sto) : Obj := ⟨35, 6, false, [[.h 5, .h 0, .h 1, .d (.s (.int .i64 s.keep)), .d (.s (.int .i64 s.time)), .h 6]]⟩
@[go_sem] theorem r_stHd (s : Sto) : stHd s = ⟨35, 6, false, [[.h 5, .h 0, .h 1, .d (.s (.int .i64 s.keep)), .d (.s (.int .i64 s.time)), .h 6]]⟩ := rfl
theorem storeFreeS_own (s : Sto) (t : Int) (hs : SmSt s) : OwnR 180 [stT s, iT t] (freeM s t) := by
  have k1 := sstoreOk_ac s hs
  unfold freeM
  cases c1 : storeS s
  · rw [c1] at k1
    refine ⟨fun x hx => by simp at hx, fun _ => ?_⟩
    refine AC_of Try.func180 rfl Try.ntmps180 Try.results180 (by kernel_rfl) rfl ?_
    simp only [List.zipIdx, List.map, Nat.zero_add, Nat.reduceAdd]
    repeat (first | apply Aw_seq | apply Aw_block | apply Aw_skip | apply Aw_exit | refine Aw_condt rfl ?_ | refine Aw_condf rfl ?_ | (refine qr ?_; simp only [go_sem, Nat.reduceEqDiff, reduceIte, Nat.reduceAdd, Nat.reduceMul, Nat.reduceSub, Nat.reduceLT, Nat.reduceLeDiff, Nat.reduceBEq]) | (refine qd (by kernel_rfl) (by kernel_rfl) ?_; simp only [go_sem, Nat.reduceEqDiff, reduceIte, Nat.reduceAdd, Nat.reduceMul, Nat.reduceSub, Nat.reduceLT, Nat.reduceLeDiff, Nat.reduceBEq]) | refine dk (by kernel_rfl) ?_ | (refine qp (k1) (by simp only [go_sem, Nat.reduceEqDiff, reduceIte, Nat.reduceAdd, Nat.reduceMul, Nat.reduceSub, Nat.reduceLT, Nat.reduceLeDiff, Nat.reduceBEq]; first | done | rfl) rfl (by simp only [go_sem, Nat.reduceLT]) rfl rfl ?_; simp only [go_sem, Nat.reduceEqDiff, reduceIte, Nat.reduceAdd, Nat.reduceMul, Nat.reduceSub, Nat.reduceLT, Nat.reduceLeDiff, Nat.reduceBEq]))
    exact Aw_ret (ret0 (.inl rfl) (by simp only [go_sem, Nat.reduceEqDiff, reduceIte, Nat.reduceAdd, Nat.reduceMul, Nat.reduceSub, Nat.reduceLT, Nat.reduceLeDiff, Nat.reduceBEq]; rfl) (by rfl) rfl)
  rw [c1] at k1
  rw [if_pos rfl]
  have k3 := copyV_ac s hs c1
  obtain ⟨h1, h2, h3, h4, h5, _⟩ := storeS_facts c1
  by_cases hc : (freeTs s.times t).length = s.times.length
  · rw [if_pos hc]
    have hci : decide ((((freeTs s.times t).length : Nat) : Int) = ((s.times.length : Nat) : Int)) = true := decide_eq_true (by omega)
    refine ⟨fun x hx => by simp at hx, fun _ => ?_⟩
    refine AC_of Try.func180 rfl Try.ntmps180 Try.results180 (by kernel_rfl) rfl ?_
    simp only [List.zipIdx, List.map, Nat.zero_add, Nat.reduceAdd]
    repeat (first | apply Aw_seq | apply Aw_block | apply Aw_skip | apply Aw_exit | refine Aw_condt rfl ?_ | refine Aw_condf rfl ?_ | (refine qr ?_; simp only [go_sem, Nat.reduceEqDiff, reduceIte, Nat.reduceAdd, Nat.reduceMul, Nat.reduceSub, Nat.reduceLT, Nat.reduceLeDiff, Nat.reduceBEq]) | (refine qd (by kernel_rfl) (by kernel_rfl) ?_; simp only [go_sem, Nat.reduceEqDiff, reduceIte, Nat.reduceAdd, Nat.reduceMul, Nat.reduceSub, Nat.reduceLT, Nat.reduceLeDiff, Nat.reduceBEq]) | refine dk (by kernel_rfl) ?_ | (refine qp (k1) (by simp only [go_sem, Nat.reduceEqDiff, reduceIte, Nat.reduceAdd, Nat.reduceMul, Nat.reduceSub, Nat.reduceLT, Nat.reduceLeDiff, Nat.reduceBEq]; first | done | rfl) rfl (by simp only [go_sem, Nat.reduceLT]) rfl rfl ?_; simp only [go_sem, Nat.reduceEqDiff, reduceIte, Nat.reduceAdd, Nat.reduceMul, Nat.reduceSub, Nat.reduceLT, Nat.reduceLeDiff, Nat.reduceBEq]) | (refine qx (call_N (L := []) (k3) rfl (.cons (.nm rfl) (.nil)) (.inl rfl) rfl) (by simp only [go_sem, Nat.reduceEqDiff, reduceIte, Nat.reduceAdd, Nat.reduceMul, Nat.reduceSub, Nat.reduceLT, Nat.reduceLeDiff, Nat.reduceBEq]; first | done | rfl) rfl (by simp only [go_sem, Nat.reduceLT]) ?_; simp only [go_sem, Nat.reduceEqDiff, reduceIte, Nat.reduceAdd, Nat.reduceMul, Nat.reduceSub, Nat.reduceLT, Nat.reduceLeDiff, Nat.reduceBEq]))
    refine Aw.rw (rwL (l' := [(7, .t (iT (0 : Nat))), (6, .t (.c (.h 4))), (5, .t (bT false)), (4, .t (.c (.ph 3 0 0))), (2, .t (.c (.ph 2 0 0))), (1, .t (iT t))]) (os := [some (lvRow s.levels), some (svRow s.sieves), some (stHd s), some zO, some (dRow 3 1 ((colI 0 (freeAt s.times t)).map intD)), some (eRow s.top), some (tmRow s.times)]) (M := [6, 7, 0, 1, 11, 8, 9]) (n' := 7) (by repeat (first | exact trivial | refine ⟨rfl, rfl, ?_⟩)) (by rfl) (by simp only [go_sem, Nat.reduceEqDiff, reduceIte, Nat.reduceAdd, Nat.reduceMul, Nat.reduceSub, Nat.reduceLT, Nat.reduceLeDiff, Nat.reduceBEq, colI_0, List.map_nil]; first | done | rfl) (by decide) (by intro m hm; first | omega | (rcases m with _ | _ | _ | _ | _ | _ | m <;> first | exact ⟨by decide, rfl⟩ | omega))) ?_
    refine Aw_loop_rw (ι := { i : Nat // i ≤ s.times.length }) (fun q => S [(7, .t (iT (q.1 : Nat))), (6, .t (.c (.h 4))), (5, .t (bT false)), (4, .t (.c (.ph 3 0 0))), (2, .t (.c (.ph 2 0 0))), (1, .t (iT t))] (hpL [some (lvRow s.levels), some (svRow s.sieves), some (stHd s), some zO, some (dRow 3 1 ((colI q.1 (freeAt s.times t)).map intD)), some (eRow s.top), some (tmRow s.times)]) 7) (fun q => s.times.length - q.1) ⟨0, Nat.zero_le _⟩ ?_
    rintro ⟨i, hi⟩
    dsimp only
    by_cases hlt : i < s.times.length
    · have g1 : (i : Int) < (s.times.length : Int) := by omega
      have w1 := wrap_succ hlt (by omega)
      obtain ⟨x, hx⟩ : ∃ e, s.times[i]? = some e := ⟨_, List.getElem?_eq_getElem hlt⟩
      have hb : ((colI i (freeAt s.times t)).length + 1) * 8 ≤ 140737488355328 := by have := colI_len (n := i) (freeAt_len s.times t); omega
      cases c : decide (x = t)
      · have hcc : colI (i + 1) (freeAt s.times t) = colI i (freeAt s.times t) ++ [x] := by rw [colI_succ]; simp at c; simp [freeAt, hx, c]
        repeat (first | apply Aw_seq | apply Aw_block | apply Aw_skip | apply Aw_exit | refine Aw_condt rfl ?_ | refine Aw_condf rfl ?_ | (refine qr ?_; simp only [go_sem, Nat.reduceEqDiff, reduceIte, Nat.reduceAdd, Nat.reduceMul, Nat.reduceSub, Nat.reduceLT, Nat.reduceLeDiff, Nat.reduceBEq, g1, w1, hlt, hx, c, hb]) | (refine qd (by kernel_rfl) (by kernel_rfl) ?_; simp only [go_sem, Nat.reduceEqDiff, reduceIte, Nat.reduceAdd, Nat.reduceMul, Nat.reduceSub, Nat.reduceLT, Nat.reduceLeDiff, Nat.reduceBEq, g1, w1, hlt, hx, c, hb]) | refine dk (by kernel_rfl) ?_)
        refine ⟨⟨i + 1, hlt⟩, [0, 1, 2, 3, 26, 5, 6], ?_, rwL (by repeat (first | exact trivial | refine ⟨rfl, rfl, ?_⟩)) (by rfl) (by simp only [go_sem, Nat.reduceEqDiff, reduceIte, Nat.reduceAdd, Nat.reduceMul, Nat.reduceSub, Nat.reduceLT, Nat.reduceLeDiff, Nat.reduceBEq, hcc, List.map_append, List.map_cons, List.map_nil]; first | done | rfl) (by decide) (by intro m hm; first | omega | (rcases m with _ | _ | _ | _ | _ | _ | m <;> first | exact ⟨by decide, rfl⟩ | omega))⟩
        show s.times.length - (i + 1) < s.times.length - i; omega
      · have hcc : colI (i + 1) (freeAt s.times t) = colI i (freeAt s.times t) := by rw [colI_succ]; simp at c; simp [freeAt, hx, c]
        repeat (first | apply Aw_seq | apply Aw_block | apply Aw_skip | apply Aw_exit | refine Aw_condt rfl ?_ | refine Aw_condf rfl ?_ | (refine qr ?_; simp only [go_sem, Nat.reduceEqDiff, reduceIte, Nat.reduceAdd, Nat.reduceMul, Nat.reduceSub, Nat.reduceLT, Nat.reduceLeDiff, Nat.reduceBEq, g1, w1, hlt, hx, c]) | (refine qd (by kernel_rfl) (by kernel_rfl) ?_; simp only [go_sem, Nat.reduceEqDiff, reduceIte, Nat.reduceAdd, Nat.reduceMul, Nat.reduceSub, Nat.reduceLT, Nat.reduceLeDiff, Nat.reduceBEq, g1, w1, hlt, hx, c]) | refine dk (by kernel_rfl) ?_)
        refine ⟨⟨i + 1, hlt⟩, [0, 1, 2, 3, 4, 5, 6], ?_, rwL (by repeat (first | exact trivial | refine ⟨rfl, rfl, ?_⟩)) (by rfl) (by simp only [go_sem, Nat.reduceEqDiff, reduceIte, Nat.reduceAdd, Nat.reduceMul, Nat.reduceSub, Nat.reduceLT, Nat.reduceLeDiff, Nat.reduceBEq, hcc]; first | done | rfl) (by decide) (by intro m hm; first | omega | (rcases m with _ | _ | _ | _ | _ | _ | m <;> first | exact ⟨by decide, rfl⟩ | omega))⟩
        show s.times.length - (i + 1) < s.times.length - i; omega
    · have g1 : ¬ (i : Int) < (s.times.length : Int) := by omega
      obtain rfl : i = s.times.length := by omega
      have ef : colI s.times.length (freeAt s.times t) = freeTs s.times t := rfl
      rw [ef]
      repeat (first | apply Aw_seq | apply Aw_block | apply Aw_skip | apply Aw_exit | refine Aw_condt rfl ?_ | refine Aw_condf rfl ?_ | (refine qr ?_; simp only [go_sem, Nat.reduceEqDiff, reduceIte, Nat.reduceAdd, Nat.reduceMul, Nat.reduceSub, Nat.reduceLT, Nat.reduceLeDiff, Nat.reduceBEq, g1, hci]) | (refine qd (by kernel_rfl) (by kernel_rfl) ?_; simp only [go_sem, Nat.reduceEqDiff, reduceIte, Nat.reduceAdd, Nat.reduceMul, Nat.reduceSub, Nat.reduceLT, Nat.reduceLeDiff, Nat.reduceBEq, g1, hci]) | refine dk (by kernel_rfl) ?_)
      exact Aw_ret (ret0 (.inl rfl) (by simp only [go_sem, Nat.reduceEqDiff, reduceIte, Nat.reduceAdd, Nat.reduceMul, Nat.reduceSub, Nat.reduceLT, Nat.reduceLeDiff, Nat.reduceBEq]; rfl) (by rfl) rfl)
  · rw [if_neg hc]
    have hci : decide ((((freeTs s.times t).length : Nat) : Int) = ((s.times.length : Nat) : Int)) = false := decide_eq_false (by omega)
    refine ⟨fun x hx => ?_, fun hx => by simp at hx⟩
    obtain rfl := Option.some.inj hx
    refine AC_of Try.func180 rfl Try.ntmps180 Try.results180 (by kernel_rfl) rfl ?_
    simp only [List.zipIdx, List.map, Nat.zero_add, Nat.reduceAdd]
    repeat (first | apply Aw_seq | apply Aw_block | apply Aw_skip | apply Aw_exit | refine Aw_condt rfl ?_ | refine Aw_condf rfl ?_ | (refine qr ?_; simp only [go_sem, Nat.reduceEqDiff, reduceIte, Nat.reduceAdd, Nat.reduceMul, Nat.reduceSub, Nat.reduceLT, Nat.reduceLeDiff, Nat.reduceBEq]) | (refine qd (by kernel_rfl) (by kernel_rfl) ?_; simp only [go_sem, Nat.reduceEqDiff, reduceIte, Nat.reduceAdd, Nat.reduceMul, Nat.reduceSub, Nat.reduceLT, Nat.reduceLeDiff, Nat.reduceBEq]) | refine dk (by kernel_rfl) ?_ | (refine qp (k1) (by simp only [go_sem, Nat.reduceEqDiff, reduceIte, Nat.reduceAdd, Nat.reduceMul, Nat.reduceSub, Nat.reduceLT, Nat.reduceLeDiff, Nat.reduceBEq]; first | done | rfl) rfl (by simp only [go_sem, Nat.reduceLT]) rfl rfl ?_; simp only [go_sem, Nat.reduceEqDiff, reduceIte, Nat.reduceAdd, Nat.reduceMul, Nat.reduceSub, Nat.reduceLT, Nat.reduceLeDiff, Nat.reduceBEq]) | (refine qx (call_N (L := []) (k3) rfl (.cons (.nm rfl) (.nil)) (.inl rfl) rfl) (by simp only [go_sem, Nat.reduceEqDiff, reduceIte, Nat.reduceAdd, Nat.reduceMul, Nat.reduceSub, Nat.reduceLT, Nat.reduceLeDiff, Nat.reduceBEq]; first | done | rfl) rfl (by simp only [go_sem, Nat.reduceLT]) ?_; simp only [go_sem, Nat.reduceEqDiff, reduceIte, Nat.reduceAdd, Nat.reduceMul, Nat.reduceSub, Nat.reduceLT, Nat.reduceLeDiff, Nat.reduceBEq]))
    refine Aw.rw (rwL (l' := [(7, .t (iT (0 : Nat))), (6, .t (.c (.h 4))), (5, .t (bT false)), (4, .t (.c (.ph 3 0 0))), (2, .t (.c (.ph 2 0 0))), (1, .t (iT t))]) (os := [some (lvRow s.levels), some (svRow s.sieves), some (stHd s), some zO, some (dRow 3 1 ((colI 0 (freeAt s.times t)).map intD)), some (eRow s.top), some (tmRow s.times)]) (M := [6, 7, 0, 1, 11, 8, 9]) (n' := 7) (by repeat (first | exact trivial | refine ⟨rfl, rfl, ?_⟩)) (by rfl) (by simp only [go_sem, Nat.reduceEqDiff, reduceIte, Nat.reduceAdd, Nat.reduceMul, Nat.reduceSub, Nat.reduceLT, Nat.reduceLeDiff, Nat.reduceBEq, colI_0, List.map_nil]; first | done | rfl) (by decide) (by intro m hm; first | omega | (rcases m with _ | _ | _ | _ | _ | _ | m <;> first | exact ⟨by decide, rfl⟩ | omega))) ?_
    refine Aw_loop_rw (ι := { i : Nat // i ≤ s.times.length }) (fun q => S [(7, .t (iT (q.1 : Nat))), (6, .t (.c (.h 4))), (5, .t (bT false)), (4, .t (.c (.ph 3 0 0))), (2, .t (.c (.ph 2 0 0))), (1, .t (iT t))] (hpL [some (lvRow s.levels), some (svRow s.sieves), some (stHd s), some zO, some (dRow 3 1 ((colI q.1 (freeAt s.times t)).map intD)), some (eRow s.top), some (tmRow s.times)]) 7) (fun q => s.times.length - q.1) ⟨0, Nat.zero_le _⟩ ?_
    rintro ⟨i, hi⟩
    dsimp only
    by_cases hlt : i < s.times.length
    · have g1 : (i : Int) < (s.times.length : Int) := by omega
      have w1 := wrap_succ hlt (by omega)
      obtain ⟨x, hx⟩ : ∃ e, s.times[i]? = some e := ⟨_, List.getElem?_eq_getElem hlt⟩
      have hb : ((colI i (freeAt s.times t)).length + 1) * 8 ≤ 140737488355328 := by have := colI_len (n := i) (freeAt_len s.times t); omega
      cases c : decide (x = t)
      · have hcc : colI (i + 1) (freeAt s.times t) = colI i (freeAt s.times t) ++ [x] := by rw [colI_succ]; simp at c; simp [freeAt, hx, c]
        repeat (first | apply Aw_seq | apply Aw_block | apply Aw_skip | apply Aw_exit | refine Aw_condt rfl ?_ | refine Aw_condf rfl ?_ | (refine qr ?_; simp only [go_sem, Nat.reduceEqDiff, reduceIte, Nat.reduceAdd, Nat.reduceMul, Nat.reduceSub, Nat.reduceLT, Nat.reduceLeDiff, Nat.reduceBEq, g1, w1, hlt, hx, c, hb]) | (refine qd (by kernel_rfl) (by kernel_rfl) ?_; simp only [go_sem, Nat.reduceEqDiff, reduceIte, Nat.reduceAdd, Nat.reduceMul, Nat.reduceSub, Nat.reduceLT, Nat.reduceLeDiff, Nat.reduceBEq, g1, w1, hlt, hx, c, hb]) | refine dk (by kernel_rfl) ?_)
        refine ⟨⟨i + 1, hlt⟩, [0, 1, 2, 3, 26, 5, 6], ?_, rwL (by repeat (first | exact trivial | refine ⟨rfl, rfl, ?_⟩)) (by rfl) (by simp only [go_sem, Nat.reduceEqDiff, reduceIte, Nat.reduceAdd, Nat.reduceMul, Nat.reduceSub, Nat.reduceLT, Nat.reduceLeDiff, Nat.reduceBEq, hcc, List.map_append, List.map_cons, List.map_nil]; first | done | rfl) (by decide) (by intro m hm; first | omega | (rcases m with _ | _ | _ | _ | _ | _ | m <;> first | exact ⟨by decide, rfl⟩ | omega))⟩
        show s.times.length - (i + 1) < s.times.length - i; omega
      · have hcc : colI (i + 1) (freeAt s.times t) = colI i (freeAt s.times t) := by rw [colI_succ]; simp at c; simp [freeAt, hx, c]
        repeat (first | apply Aw_seq | apply Aw_block | apply Aw_skip | apply Aw_exit | refine Aw_condt rfl ?_ | refine Aw_condf rfl ?_ | (refine qr ?_; simp only [go_sem, Nat.reduceEqDiff, reduceIte, Nat.reduceAdd, Nat.reduceMul, Nat.reduceSub, Nat.reduceLT, Nat.reduceLeDiff, Nat.reduceBEq, g1, w1, hlt, hx, c]) | (refine qd (by kernel_rfl) (by kernel_rfl) ?_; simp only [go_sem, Nat.reduceEqDiff, reduceIte, Nat.reduceAdd, Nat.reduceMul, Nat.reduceSub, Nat.reduceLT, Nat.reduceLeDiff, Nat.reduceBEq, g1, w1, hlt, hx, c]) | refine dk (by kernel_rfl) ?_)
        refine ⟨⟨i + 1, hlt⟩, [0, 1, 2, 3, 4, 5, 6], ?_, rwL (by repeat (first | exact trivial | refine ⟨rfl, rfl, ?_⟩)) (by rfl) (by simp only [go_sem, Nat.reduceEqDiff, reduceIte, Nat.reduceAdd, Nat.reduceMul, Nat.reduceSub, Nat.reduceLT, Nat.reduceLeDiff, Nat.reduceBEq, hcc]; first | done | rfl) (by decide) (by intro m hm; first | omega | (rcases m with _ | _ | _ | _ | _ | _ | m <;> first | exact ⟨by decide, rfl⟩ | omega))⟩
        show s.times.length - (i + 1) < s.times.length - i; omega
    · have g1 : ¬ (i : Int) < (s.times.length : Int) := by omega
      obtain rfl : i = s.times.length := by omega
      have ef : colI s.times.length (freeAt s.times t) = freeTs s.times t := rfl
      rw [ef]
      repeat (first | apply Aw_seq | apply Aw_block | apply Aw_skip | apply Aw_exit | refine Aw_condt rfl ?_ | refine Aw_condf rfl ?_ | (refine qr ?_; simp only [go_sem, Nat.reduceEqDiff, reduceIte, Nat.reduceAdd, Nat.reduceMul, Nat.reduceSub, Nat.reduceLT, Nat.reduceLeDiff, Nat.reduceBEq, g1, hci]) | (refine qd (by kernel_rfl) (by kernel_rfl) ?_; simp only [go_sem, Nat.reduceEqDiff, reduceIte, Nat.reduceAdd, Nat.reduceMul, Nat.reduceSub, Nat.reduceLT, Nat.reduceLeDiff, Nat.reduceBEq, g1, hci]) | refine dk (by kernel_rfl) ?_)
      exact Aw_ret (retL (M := [0, 1, 5, 4]) (.inl rfl) (by simp only [go_sem, Nat.reduceEqDiff, reduceIte, Nat.reduceAdd, Nat.reduceMul, Nat.reduceSub, Nat.reduceLT, Nat.reduceLeDiff, Nat.reduceBEq]; first | done | rfl) rfl rfl (by rfl) (by simp only [go_sem, Nat.reduceEqDiff, reduceIte, Nat.reduceAdd, Nat.reduceMul, Nat.reduceSub, Nat.reduceLT, Nat.reduceLeDiff, Nat.reduceBEq]; first | done | rfl | (and_intros <;> rfl)) (by decide) (by intro m hm; first | omega | (rcases m with _ | _ | _ | _ | _ | _ | m <;> first | exact ⟨by decide, rfl⟩ | omega)))
end Go.Proofs.Ytcbhgglpgphimaa.Ab
