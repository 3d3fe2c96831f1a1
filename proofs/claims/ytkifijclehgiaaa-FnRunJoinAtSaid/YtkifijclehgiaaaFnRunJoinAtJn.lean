/-
  impl.cloneRun, slices.Grow at nil and slices.Concat at two runs: what they return, at whatever rows. Conditions: those that stand in each statement.
-/
import Derived.Lib.AppendZeros
import Derived.Test.YtkifijclehgiaaaPFnRunJoinAtx0
import Derived.Test.YtkifijclehgiaaaGv
namespace Go.Proofs.Ytkifijclehgiaaa.PFnRunJoinAt
open Go.RowKit Go.Proofs.YtkifijclehgiaaaW.PrintWords Go.Proofs.YtkifijclehgiaaaW.PrintLast Go.Proofs.YtkifijclehgiaaaW.PrintMore
set_option linter.unusedVariables false
set_option linter.unusedSimpArgs false
set_option maxHeartbeats 2000000 in
theorem clone_calls (A0 : Option Addr) (c0 : Nat) (l0 : List S27) (w : World) (hr0 : Kd.C k27 w A0 l0.length l0) (hc0 : l0.length ≤ c0) (hn : l0.length ≤ 1000) :
    Calls Try.prog 55 #[.slice A0 l0.length c0] w fun e w' => ∃ v0_ : Value, e = .returned v0_ ∧ Kd.R k27 27 w' w.heap.size (fun _ => True) v0_ l0 ∧ Below w.heap.size w w' := by
  have hu27 := Try.underlying27
  go_enter Try.func55, Try.ntmps55
  go_wp2_with (first | ((with_reducible refine gate_builtin (b := .append) (xs := #[.const (.slice none 0 0), .tmp 3]) rfl ?_); at_builtin; refine Kd.R_append_rows k27 (w0 := w) w.heap.size rfl (.const (.slice none 0 0)) (.tmp 3) 23 27 (.agg #[(.string ⟨#[]⟩), (.int .i64 0), (.bool false), (.int .i64 0)]) 40 rfl Try.underlying23 info27 rfl (by decide) (by omega) (.slice none 0 0) [] l0 _ _ _ (fun _ => True) (fun _ => False) rfl rfl (Kd.R_nil _ _ _ _ _) hr0 (fun _ _ h => h) (fun _ h => h.elim) (fun _ _ => trivial) (Below.refl _ _) (Nat.le_refl _) ?aL ?_; (case aL => simp; omega); intro v1 w1 ho hb hg hat))
  go_ret
  exact ⟨_, rfl, ho, hb⟩
theorem empty_own (w : World) (base g cap : Nat) (cur : Array Value) (hg : base ≤ g) (hh : w.heap[g]? = some (.cells cur 27 (0, 0))) (hc : cap ≤ maxLen) (hs : cur.size = cap * 4) : Kd.R k27 27 w base (fun _ => True) (.slice (some ⟨g, 0, none⟩) 0 cap) [] :=
  ⟨fun _ _ => trivial, [], ⟨by simp, .inr ⟨g, cap, cur, rfl, hg, hh, Nat.zero_le _, hc, hs, by simp⟩⟩, Reps.none _ _⟩
set_option maxHeartbeats 2000000 in
theorem grow_calls (n : Nat) (w : World) (hn : n ≤ 1000) :
    Calls Try.prog 66 #[.slice none 0 0, .int .i64 n] w fun e w' => ∃ v0_ : Value, e = .returned v0_ ∧ Kd.R k27 27 w' w.heap.size (fun _ => True) v0_ [] ∧ Below w.heap.size w w' := by
  have hu27 := Try.underlying27
  have c1 : decide ((n : Int) < 0) = false := by simp
  by_cases h0 : n = 0
  · subst h0
    go_enter Try.func66, Try.ntmps66
    go_wp2
    go_ret
    exact ⟨_, rfl, Kd.R_nil _ _ _ _ _, Below.refl _ _⟩
  · have c2 : decide (0 < (n : Int)) = true := by simp; omega
    have c3 : IntKind.i64.wrap ((n : Int)) = n := by rw [IntKind.wrap_i64]; omega
    have hi : ∃ i, Try.prog.info? 27 = some i ∧ i.zero = some (.agg #[(.string ⟨#[]⟩), (.int .i64 0), (.bool false), (.int .i64 0)]) ∧ i.size = 4 ∧ i.bytes = 40 := by
      obtain ⟨i, h1, h2⟩ := Option.map_eq_some_iff.1 info27
      simp only [Prod.mk.injEq] at h2
      exact ⟨i, h1, h2⟩
    obtain ⟨i, i1, i2, i3, i4⟩ := hi
    have hr := Lib.run_append_nil_zeros (P := Try.prog) w 23 3 23 27 i _ .i64 .i64 Try.underlying23 Try.underlying3 i1 i2 n (by omega) (by omega) (by omega) (by rw [i4]; omega)
    have hcap := grownCap_le_maxLen w n 0 27 (by unfold maxLen; omega)
    have hge := grownCap_ge w n 0 27
    generalize grownCap w n 0 27 = cap at hr hcap hge
    go_enter Try.func66, Try.ntmps66
    go_wp2_with (first | ((with_reducible refine gate_builtin (b := .append) (xs := #[.tmp 20, .tmp 21]) rfl ?_); at_builtin; refine Lib.wpList_append_run _ rfl _ _ _ _ rfl _ _ rfl rfl _ _ hr ?_))
    go_ret
    refine ⟨_, rfl, empty_own _ _ w.heap.size cap _ (Nat.le_refl _) (show (w.heap.push _)[w.heap.size]? = _ from Array.getElem?_push_size) hcap ?_, ?_⟩
    · simp [size_zeroCells]
      rw [← Nat.add_mul]; congr 1; omega
    · exact ((Below.refl _ w).drew).alloc (Nat.le_refl _) _
theorem grow_calls_ (m : Int) (n : Nat) (h : m = (n : Int)) (w : World) (hn : n ≤ 1000) :
    Calls Try.prog 66 #[.slice none 0 0, .int .i64 m] w fun e w' => ∃ v0_ : Value, e = .returned v0_ ∧ Kd.R k27 27 w' w.heap.size (fun _ => True) v0_ [] ∧ Below w.heap.size w w' := by subst h; exact grow_calls n w hn
set_option maxHeartbeats 4000000 in
set_option maxRecDepth 100000 in
theorem concat_calls (B : Nat) (A0 A1 : Option Addr) (c0 c1 : Nat) (l0 l1 : List S27) (w : World) (hB : B < w.heap.size) (hb0 : w.cell? ⟨B, 0, none⟩ = some (.slice A0 l0.length c0)) (hb1 : w.cell? ⟨B, 1, none⟩ = some (.slice A1 l1.length c1)) (hr0 : Kd.C k27 w A0 l0.length l0) (hr1 : Kd.C k27 w A1 l1.length l1) (hn0 : l0.length ≤ 400) (hn1 : l1.length ≤ 400) :
    Calls Try.prog 52 #[.slice (some ⟨B, 0, none⟩) 2 2] w fun e w' => ∃ v0_ : Value, e = .returned v0_ ∧ Kd.R k27 27 w' w.heap.size (fun _ => True) v0_ (l0 ++ l1) ∧ Below w.heap.size w w' := by
  have hu27 := Try.underlying27
  obtain ⟨n, hn⟩ : ∃ n, n = l0.length + l1.length := ⟨_, rfl⟩
  have e1 : IntKind.i64.wrap (l0.length : Int) = (l0.length : Int) := by rw [IntKind.wrap_i64]; omega
  have e2 : IntKind.i64.wrap ((l0.length : Int) + (l1.length : Int)) = (l0.length : Int) + (l1.length : Int) := by rw [IntKind.wrap_i64]; omega
  have d1 : decide ((l0.length : Int) < 0) = false := by simp
  have hS : (l0.length : Int) + (l1.length : Int) = (n : Int) := by omega
  have d2 : decide ((l0.length : Int) + (l1.length : Int) < 0) = false := by simp; omega
  have hN : n ≤ 1000 := by omega
  clear hn
  go_enter Try.func52, Try.ntmps52
  go_wp2
  refine wp_loop_rounds 3 ?_
  rw [rounds_succ]
  go_wp2
  rw [rounds_succ]
  go_wp2
  rw [rounds_succ]
  go_wp2_with (first | ((with_reducible refine gate_callee (f := 66) rfl ?_); refine goesL_ (some 24) rfl rfl Try.func66 (by kernel_rfl) rfl #[.slice none 0 0, .int .i64 (n : Int)] rfl (by (try simp only [List.map_toArray, List.map_cons, List.map_nil]); first | done | rfl) ?_; (with_reducible refine (grow_calls_ (n : Int) n rfl w hN).mono ?_); rintro e w1 ⟨v1, rfl, ho1, hw1⟩; refine ⟨_, rfl, ?_⟩; have hb0' := (hw1.cell (p := ⟨B, 0, none⟩) hB).trans hb0; have hb1' := (hw1.cell (p := ⟨B, 1, none⟩) hB).trans hb1; have hr0' := Kd.C_below hr0 hw1; have hr1' := Kd.C_below hr1 hw1))
  refine wp_loop_rounds 3 ?_
  rw [rounds_succ]
  go_wp2_with (first | ((with_reducible refine gate_builtin (b := .append) (xs := #[.tmp 31, .tmp 32]) rfl ?_); at_builtin; refine Kd.R_append_rows k27 (w0 := w) w.heap.size rfl (.tmp 31) (.tmp 32) 23 27 (.agg #[(.string ⟨#[]⟩), (.int .i64 0), (.bool false), (.int .i64 0)]) 40 rfl Try.underlying23 info27 rfl (by decide) (by omega) v1 [] l0 _ _ _ (fun _ => True) (fun _ => False) rfl rfl ho1 hr0' (fun _ _ h => h) (fun _ h => h.elim) (fun _ _ => trivial) hw1 hw1.size ?aL ?_; (case aL => simp; omega); intro v2 w2 ho2 hw2 hg2 hat2; have hb1'' := (hw2.cell (p := ⟨B, 1, none⟩) hB).trans hb1; have hr1'' := Kd.C_below hr1 hw2))
  rw [rounds_succ]
  go_wp2_with (first | ((with_reducible refine gate_builtin (b := .append) (xs := #[.tmp 31, .tmp 32]) rfl ?_); at_builtin; refine Kd.R_append_rows k27 (w0 := w) w.heap.size rfl (.tmp 31) (.tmp 32) 23 27 (.agg #[(.string ⟨#[]⟩), (.int .i64 0), (.bool false), (.int .i64 0)]) 40 rfl Try.underlying23 info27 rfl (by decide) (by omega) v2 ([] ++ l0) l1 _ _ _ (fun _ => True) (fun _ => False) rfl rfl ho2 hr1'' (fun _ _ h => h) (fun _ h => h.elim) (fun _ _ => trivial) hw2 hw2.size ?aL ?_; (case aL => simp; omega); intro v3 w3 ho3 hw3 hg3 hat3))
  rw [rounds_succ]
  go_wp2
  go_ret
  exact ⟨_, rfl, by simpa using ho3, hw3⟩
end Go.Proofs.Ytkifijclehgiaaa.PFnRunJoinAt
