/-
 Functions that FnRunJoinAt reaches,each as a Lean function,and that Go comes to its answer: printed by the kit's printer,the sort's comparing function and impl.RunJoin's part laid by hand. Conditions: those that stand in each statement.
-/
import Derived.Test.YtkifijclehgiaaaPFnRunJoinAtx0
import Derived.Test.YtkifijclehgiaaaPFnRunJoinAtx2
import Derived.Test.YtkifijclehgiaaaPu
namespace Go.Proofs.Ytkifijclehgiaaa.PFnRunJoinAt
open Go.RowKit Go.Proofs.YtkifijclehgiaaaW.PrintWords Go.Proofs.YtkifijclehgiaaaW.PrintLast Go.Proofs.YtkifijclehgiaaaW.PrintMore
attribute [local go_sem] max2_int min2_int max_two min_two max_three min_three max_four min_four   -- for this text's walks alone
set_option linter.unusedVariables false
set_option linter.unusedSimpArgs false

theorem T3q1 {p : Prop} (h : p := by first | (with_reducible assumption) | assumption) : p := h
theorem T3q2 {p : Prop} (h : p := by kernel_rfl) : p := h
theorem T3q3 {p : Prop} (h : p := by (try simp only [List.map_toArray,List.map_cons,List.map_nil]);first | done | rfl | (simp only [List.length_drop,List.length_take];rfl)) : p := h
theorem T3q4 {p : Prop} (h : p := by (try simp only [List.map_toArray,List.map_cons,List.map_nil]);first | done | (simp only [hji7];rfl) | rfl | (simp only [List.length_drop,List.length_take];rfl)) : p := h
/-! ### spec_RunOk: function 18 -/
def spec_RunOk.l0 : Nat → List (S27) → Int → Option (Bool)
 | 0,_,_ => none
 | k + 1,x0,x3 => if x3 < (x0.length : Int) then (if 0 ≤ x3 then ((spec_l11Ok.f k ((rd_T27 x0 x3).f0) ((rd_T27 x0 x3).f1) ((rd_T27 x0 x3).f2) ((rd_T27 x0 x3).f3)).bind fun t116 => (if t116 = true then (if x3 > 0 then (if 0 ≤ (wrap64 (x3 - 1)) then (if (wrap64 (x3 - 1)) < (x0.length : Int) then ((spec_l11Ahead.f ((rd_T27 x0 (wrap64 (x3 - 1))).f0) ((rd_T27 x0 (wrap64 (x3 - 1))).f1) ((rd_T27 x0 (wrap64 (x3 - 1))).f2) ((rd_T27 x0 (wrap64 (x3 - 1))).f3) ((rd_T27 x0 x3).f0) ((rd_T27 x0 x3).f1) ((rd_T27 x0 x3).f2) ((rd_T27 x0 x3).f3)).bind fun t119 => (if t119 = true then (spec_RunOk.l0 k x0 (wrap64 (x3 + 1))) else (some false))) else (none)) else (none)) else (spec_RunOk.l0 k x0 (wrap64 (x3 + 1)))) else (some false))) else (none)) else (some (decide ((x0.length : Int) ≤ 40)))
def spec_RunOk.f (k : Nat) (l0 : List (S27)) : Option (Bool):=spec_RunOk.l0 k l0 0
def spec_RunOk.T4 : Bool × List (List Nat × List Nat):=(true,[([],[]),([],[]),([0,1],[0,1]),([2],[2]),([3],[3]),([4],[4]),([5,4],[5]),([6],[6]),([7,6],[6,7]),([8,6,6],[6,8]),([9],[9]),([9],[9]),([11,9],[9,11]),([10,12,9],[9,10,12]),([13,9],[9,13]),([9],[9]),([9],[9]),([15,16,9],[9,15,16]),([17,9],[9,17]),([14,18,9,9],[9,14,18]),([19,9],[9,19]),([9,20,6],[6,9,20]),([6,21],[6,21])])
def spec_RunOk.B4 : List Nat:=[0,0,3,7,15,31,63,127,255,511,1023,1023,3071,8191,16383,1023,1023,99327,230399,524287,1048575,2097151,4194303]
theorem spec_RunOk.tab4 : rtab .any (opsOf Try.f18 4) = spec_RunOk.T4:=by kernel_rfl
theorem spec_RunOk.bits4 : waitsOk spec_RunOk.T4.2 spec_RunOk.B4 = true:=by kernel_rfl
set_option maxHeartbeats 8000000 in
set_option maxRecDepth 100000 in
theorem spec_RunOk.calls (k : Nat) (A0 : Option Addr) (c0 : Nat) (l0 : List (S27)) (r : Bool) (w : World) (hr0 : Kd.C k27 w A0 l0.length l0) (hc0 : l0.length ≤ c0) (h : spec_RunOk.f k l0 = some r) :
  Calls Try.prog 18 #[.slice A0 l0.length c0] w fun e w' => e = .returned (.bool r) ∧ Below w.heap.size w w':=by
 have hu27:=Try.underlying27
 have HR0:=Aside0.mk hr0
 have HC0:=Aside0.mk hc0
 clear hr0 hc0
 have HB:=Aside0.mk (Below.refl w.heap.size w)
 have H : (spec_RunOk.l0 k l0 0) = some r:=h
 clear h
 have H':=Aside0.mk H
 clear H
 go_enter Try.func18,Try.ntmps18
 go_wp2
 go_loopg [3] k (fun kq v3 w' => ∃ (x3_1 : Int),v3 = .int .i64 x3_1 ∧ Aside0 (spec_RunOk.l0 kq l0 x3_1 = some r) ∧ Aside0 (kq ≤ k) ∧ Aside0 (Below w.heap.size w w'))
 case atStart => exact ⟨(0),(by first | rfl | (simp;done) | (simp [*];done)),H',⟨Nat.le_refl _⟩,⟨by repeat (first | (with_reducible first | exact HB.out | apply below_alloc | apply pw_below_drewN | apply below_drew1) | exact HB.out)⟩⟩
 case round =>
  clear H'
  try clear c1
  obtain ⟨x3_1,rfl,HA,HK1,HB⟩:=hrel
  cases gk with
  | zero => exact absurd HA.out (by simp [spec_RunOk.l0])
  | succ k1 =>
   have H:=HA.out
   clear HA
   simp only [spec_RunOk.l0] at H
   by_cases c2 : x3_1 < (l0.length : Int)
   rotate_left
   ·rw [if_neg c2] at H
    have c2b0 : decide (x3_1 < (l0.length : Int)) = false:=decide_eq_false c2
    clear c2
    obtain rfl:=Option.some.inj H
    go_wp2
    go_ret
    exact ⟨by first | rfl | (simp [errW_none,errW_some] <;> rfl) | (simp [*,errW_none,errW_some] <;> rfl),by repeat (first | (with_reducible first | exact HB.out | apply below_alloc | apply pw_below_drewN | apply below_drew1) | exact HB.out)⟩
   rw [if_pos c2] at H
   have c2b0 : decide (x3_1 < (l0.length : Int)) = true:=decide_eq_true c2
   clear c2
   by_cases c3 : 0 ≤ x3_1
   rotate_left
   ·rw [if_neg c3] at H
    exact absurd H (by simp)
   rw [if_pos c3] at H
   have c3b0 : decide (0 ≤ x3_1) = true:=decide_eq_true c3
   clear c3
   replace H:=Option.bind_eq_some_iff.mp H
   obtain ⟨t116,A40,H⟩:=H
   replace H : (if t116 = true then (if x3_1 > 0 then (if 0 ≤ (wrap64 (x3_1 - 1)) then (if (wrap64 (x3_1 - 1)) < (l0.length : Int) then ((spec_l11Ahead.f ((rd_T27 l0 (wrap64 (x3_1 - 1))).f0) ((rd_T27 l0 (wrap64 (x3_1 - 1))).f1) ((rd_T27 l0 (wrap64 (x3_1 - 1))).f2) ((rd_T27 l0 (wrap64 (x3_1 - 1))).f3) ((rd_T27 l0 x3_1).f0) ((rd_T27 l0 x3_1).f1) ((rd_T27 l0 x3_1).f2) ((rd_T27 l0 x3_1).f3)).bind fun t119 => (if t119 = true then (spec_RunOk.l0 k1 l0 (wrap64 (x3_1 + 1))) else (some false))) else (none)) else (none)) else (spec_RunOk.l0 k1 l0 (wrap64 (x3_1 + 1)))) else (some false)) = some r:=H
   have A4:=Aside0.mk A40
   clear A40
   by_cases c5 : t116 = true
   rotate_left
   ·replace c5:=Bool.eq_false_iff.mpr c5
    subst c5
    have H1 : (some false) = some r:=by rw [if_neg (show ¬ (false = true) by decide)] at H;exact H
    clear H
    have H:=H1
    clear H1
    obtain rfl:=Option.some.inj H
    try go_wp2
    have n0_:=Aside0.mk (below_drew1 HB.out)
    clear HB
    have HB:=n0_
    clear n0_
    have p115 : 0 ≤ (x3_1 : Int):=of_decide_eq_true T3q1
    have q115 : x3_1 < (l0.length : Int):=of_decide_eq_true T3q1
    obtain ⟨ad115,e115,hx115_0,hx115_1,hx115_2,hx115_3⟩:=at_T27 HR0.out x3_1 p115 q115
    have hw115_3:=hx115_3
    have hw115_2:=hx115_2
    have hw115_1:=hx115_1
    have hw115_0:=hx115_0
    cases e115
    replace hx115_0:=(HB.out.cell (World.block_lt_of_cell? w _ hx115_0)).trans hx115_0
    replace hx115_1:=(HB.out.cell (World.block_lt_of_cell? w _ hx115_1)).trans hx115_1
    replace hx115_2:=(HB.out.cell (World.block_lt_of_cell? w _ hx115_2)).trans hx115_2
    replace hx115_3:=(HB.out.cell (World.block_lt_of_cell? w _ hx115_3)).trans hx115_3
    replace p115:=eq_true p115
    replace q115:=eq_true q115
    refine start_ (n:=23) (S:=fun w' => w'.cell? (ad115.add ((x3_1).toNat * 4)) = some (.string ((rd_T27 l0 x3_1).f0)) ∧ w'.cell? ⟨(ad115.add ((x3_1).toNat * 4)).block,(ad115.add ((x3_1).toNat * 4)).off + 1,none⟩ = some (.int .i64 ((rd_T27 l0 x3_1).f1)) ∧ w'.cell? ⟨(ad115.add ((x3_1).toNat * 4)).block,(ad115.add ((x3_1).toNat * 4)).off + 2,none⟩ = some (.bool ((rd_T27 l0 x3_1).f2)) ∧ w'.cell? ⟨(ad115.add ((x3_1).toNat * 4)).block,(ad115.add ((x3_1).toNat * 4)).off + 3,none⟩ = some (.int .i64 ((rd_T27 l0 x3_1).f3))) (ds:=[]) #[false,false,false,false,false,false,false,false,false,false,false,false,false,false,false,false,false,false,false,false,false,false,false] T3q2 rfl rfl ⟨((HB.out.cell (World.block_lt_of_cell? w _ hw115_0)).trans hw115_0),((HB.out.cell (World.block_lt_of_cell? w _ hw115_1)).trans hw115_1),((HB.out.cell (World.block_lt_of_cell? w _ hw115_2)).trans hw115_2),((HB.out.cell (World.block_lt_of_cell? w _ hw115_3)).trans hw115_3)⟩ (fun hHeld => ?_);refine with_tabW spec_RunOk.tab4 spec_RunOk.bits4 (fun HT_ HW_ => ?_)
    generalize wr.drew = w20 at HB hx115_0 hx115_1 hx115_2 hx115_3 hHeld ⊢
    refine pm_ (i:=0) (N:=some 10) (v:=?_) (a':=?_) rfl rfl (any_of HT_.out T3q2) (fun _ _ _ h => h) (Or.inl ⟨by rfl,?_⟩) ?_ ?_
    rotate_left
    ·intro w'
     go_simp
     with_reducible rfl
    rotate_left
    ·simp only [PU]
     rfl
    refine pm_ (i:=1) (N:=some 11) (v:=?_) (a':=?_) rfl rfl (any_of HT_.out T3q2) (fun _ _ _ h => h) (Or.inl ⟨by rfl,?_⟩) ?_ ?_
    rotate_left
    ·intro w'
     go_simp
     with_reducible rfl
    rotate_left
    ·simp only [PU]
     rfl
    refine pm_ (i:=2) (N:=some 12) (v:=?_) (a':=?_) rfl rfl (any_of HT_.out T3q2) (fun _ _ _ h => h) (Or.inl ⟨by rfl,?_⟩) ?_ ?_
    rotate_left
    ·intro w'
     go_simp
     with_reducible rfl
    rotate_left
    ·simp only [PU]
     rfl
    refine tm_ (i:=3) (N:=some 13) (v:=?_) (a':=?_) rfl rfl (take_ofW HT_.out HW_.out T3q2) (fun _ _ _ h => h) (Or.inl ⟨by rfl,?_⟩) hHeld ?_ ?_
    rotate_left
    ·rintro w' ⟨s0,s1,s2,s3⟩
     go_simp
     with_reducible rfl
    rotate_left
    ·simp only [PU]
     rfl
    refine om_ (i:=4) (N:=some 14) rfl rfl (one_of HT_.out T3q2) (by decide) (fun K hK => ?_)
    refine goes_ Try.func41 T3q2 rfl #[.agg #[.string ((rd_T27 l0 x3_1).f0),.int .i64 ((rd_T27 l0 x3_1).f1),.bool ((rd_T27 l0 x3_1).f2),.int .i64 ((rd_T27 l0 x3_1).f3)]] (by rfl) rfl rfl T3q3 ?_
    with_reducible refine (spec_l11Ok.calls k1 ((rd_T27 l0 x3_1).f0) ((rd_T27 l0 x3_1).f1) ((rd_T27 l0 x3_1).f2) ((rd_T27 l0 x3_1).f3) false _ A4.out).mono ?_
    rintro e w21 ⟨rfl,hb⟩
    refine ⟨_,rfl,?_⟩
    have n0_:=Aside0.mk (below_step (by repeat (first | (with_reducible first | exact HB.out | apply below_alloc | apply pw_below_drewN | apply below_drew1) | exact HB.out)) hb)
    clear HB
    have HB:=n0_
    clear n0_
    (try clear hb)
    (try clear hb2)
    (try clear hk)
    (try clear hi)
    refine hK.out _ _ ⟨((HB.out.cell (World.block_lt_of_cell? w _ hw115_0)).trans hw115_0),((HB.out.cell (World.block_lt_of_cell? w _ hw115_1)).trans hw115_1),((HB.out.cell (World.block_lt_of_cell? w _ hw115_2)).trans hw115_2),((HB.out.cell (World.block_lt_of_cell? w _ hw115_3)).trans hw115_3)⟩ (fun hHeld => ?_)
    clear hK K
    refine norm_ (a':=?_) ?_ ?_
    rotate_left
    ·show Act.put _ (some 14) _ = _
     simp only [PU]
     rfl
    refine pm_ (i:=5) (N:=some 15) (v:=?_) (a':=?_) rfl rfl (any_of HT_.out T3q2) (fun _ _ _ h => h) (Or.inl ⟨by rfl,?_⟩) ?_ ?_
    rotate_left
    ·intro w'
     go_simp
     with_reducible rfl
    rotate_left
    ·simp only [PU]
     rfl
    refine pm_ (i:=6) (N:=some 16) (v:=?_) (a':=?_) rfl rfl (any_of HT_.out T3q2) (fun _ _ _ h => h) (Or.inl ⟨by rfl,?_⟩) ?_ ?_
    rotate_left
    ·intro w'
     go_simp
     with_reducible rfl
    rotate_left
    ·simp only [PU]
     rfl
    refine pm_ (i:=7) (N:=some 17) (v:=undef) (a':=?_) rfl rfl (any_of HT_.out T3q2) (fun _ _ _ h => h) (Or.inr ⟨by rfl,rfl⟩) ?_ ?_
    rotate_left
    ·simp only [PU]
     rfl
    refine pm_ (i:=8) (N:=some 18) (v:=undef) (a':=?_) rfl rfl (any_of HT_.out T3q2) (fun _ _ _ h => h) (Or.inr ⟨by rfl,rfl⟩) ?_ ?_
    rotate_left
    ·simp only [PU]
     rfl
    refine pm_ (i:=9) (N:=some 19) (v:=undef) (a':=?_) rfl rfl (any_of HT_.out T3q2) (fun _ _ _ h => h) (Or.inr ⟨by rfl,rfl⟩) ?_ ?_
    rotate_left
    ·simp only [PU]
     rfl
    refine pm_ (i:=10) (N:=some 20) (v:=undef) (a':=?_) rfl rfl (any_of HT_.out T3q2) (fun _ _ _ h => h) (Or.inr ⟨by rfl,rfl⟩) ?_ ?_
    rotate_left
    ·simp only [PU]
     rfl
    refine pm_ (i:=11) (N:=some 21) (v:=undef) (a':=?_) rfl rfl (any_of HT_.out T3q2) (fun _ _ _ h => h) (Or.inr ⟨by rfl,rfl⟩) ?_ ?_
    rotate_left
    ·simp only [PU]
     rfl
    refine pm_ (i:=12) (N:=some 22) (v:=undef) (a':=?_) rfl rfl (any_of HT_.out T3q2) (fun _ _ _ h => h) (Or.inr ⟨by rfl,rfl⟩) ?_ ?_
    rotate_left
    ·simp only [PU]
     rfl
    refine pm_ (i:=13) (N:=some 23) (v:=undef) (a':=?_) rfl rfl (any_of HT_.out T3q2) (fun _ _ _ h => h) (Or.inr ⟨by rfl,rfl⟩) ?_ ?_
    rotate_left
    ·simp only [PU]
     rfl
    refine pm_ (i:=14) (N:=some 24) (v:=undef) (a':=?_) rfl rfl (any_of HT_.out T3q2) (fun _ _ _ h => h) (Or.inr ⟨by rfl,rfl⟩) ?_ ?_
    rotate_left
    ·simp only [PU]
     rfl
    refine pm_ (i:=15) (N:=some 25) (v:=undef) (a':=?_) rfl rfl (any_of HT_.out T3q2) (fun _ _ _ h => h) (Or.inr ⟨by rfl,rfl⟩) ?_ ?_
    rotate_left
    ·simp only [PU]
     rfl
    refine pm_ (i:=16) (N:=some 26) (v:=undef) (a':=?_) rfl rfl (any_of HT_.out T3q2) (fun _ _ _ h => h) (Or.inr ⟨by rfl,rfl⟩) ?_ ?_
    rotate_left
    ·simp only [PU]
     rfl
    refine pm_ (i:=17) (N:=some 27) (v:=undef) (a':=?_) rfl rfl (any_of HT_.out T3q2) (fun _ _ _ h => h) (Or.inr ⟨by rfl,rfl⟩) ?_ ?_
    rotate_left
    ·simp only [PU]
     rfl
    refine pm_ (i:=18) (N:=some 28) (v:=undef) (a':=?_) rfl rfl (any_of HT_.out T3q2) (fun _ _ _ h => h) (Or.inr ⟨by rfl,rfl⟩) ?_ ?_
    rotate_left
    ·simp only [PU]
     rfl
    refine pm_ (i:=19) (N:=some 29) (v:=undef) (a':=?_) rfl rfl (any_of HT_.out T3q2) (fun _ _ _ h => h) (Or.inr ⟨by rfl,rfl⟩) ?_ ?_
    rotate_left
    ·simp only [PU]
     rfl
    refine pm_ (i:=20) (N:=some 30) (v:=undef) (a':=?_) rfl rfl (any_of HT_.out T3q2) (fun _ _ _ h => h) (Or.inr ⟨by rfl,rfl⟩) ?_ ?_
    rotate_left
    ·simp only [PU]
     rfl
    refine pm_ (i:=21) (N:=some 31) (v:=undef) (a':=?_) rfl rfl (any_of HT_.out T3q2) (fun _ _ _ h => h) (Or.inr ⟨by rfl,rfl⟩) ?_ ?_
    rotate_left
    ·simp only [PU]
     rfl
    refine pm_ (i:=22) (N:=some 32) (v:=?_) (a':=?_) rfl rfl (any_of HT_.out T3q2) (fun _ _ _ h => h) (Or.inl ⟨by rfl,?_⟩) ?_ ?_
    rotate_left
    ·intro w'
     go_simp
     with_reducible rfl
    rotate_left
    ·simp only [PU]
     rfl
    refine done_ (done_of HT_.out T3q2) ?_
    try go_wp2
    go_ret
    exact ⟨by first | rfl | (simp [errW_none,errW_some] <;> rfl) | (simp [*,errW_none,errW_some] <;> rfl),by repeat (first | (with_reducible first | exact HB.out | apply below_alloc | apply pw_below_drewN | apply below_drew1) | exact HB.out)⟩
   subst c5
   have H1 : (if x3_1 > 0 then (if 0 ≤ (wrap64 (x3_1 - 1)) then (if (wrap64 (x3_1 - 1)) < (l0.length : Int) then ((spec_l11Ahead.f ((rd_T27 l0 (wrap64 (x3_1 - 1))).f0) ((rd_T27 l0 (wrap64 (x3_1 - 1))).f1) ((rd_T27 l0 (wrap64 (x3_1 - 1))).f2) ((rd_T27 l0 (wrap64 (x3_1 - 1))).f3) ((rd_T27 l0 x3_1).f0) ((rd_T27 l0 x3_1).f1) ((rd_T27 l0 x3_1).f2) ((rd_T27 l0 x3_1).f3)).bind fun t119 => (if t119 = true then (spec_RunOk.l0 k1 l0 (wrap64 (x3_1 + 1))) else (some false))) else (none)) else (none)) else (spec_RunOk.l0 k1 l0 (wrap64 (x3_1 + 1)))) = some r:=by rw [if_pos rfl] at H;exact H
   clear H
   have H:=H1
   clear H1
   by_cases c6 : x3_1 > 0
   rotate_left
   ·rw [if_neg c6] at H
    have c6b0 : decide (0 < x3_1) = false:=decide_eq_false c6
    clear c6
    have H':=Aside0.mk H
    clear H
    try go_wp2
    have n0_:=Aside0.mk (below_drew1 HB.out)
    clear HB
    have HB:=n0_
    clear n0_
    have p115 : 0 ≤ (x3_1 : Int):=of_decide_eq_true T3q1
    have q115 : x3_1 < (l0.length : Int):=of_decide_eq_true T3q1
    obtain ⟨ad115,e115,hx115_0,hx115_1,hx115_2,hx115_3⟩:=at_T27 HR0.out x3_1 p115 q115
    have hw115_3:=hx115_3
    have hw115_2:=hx115_2
    have hw115_1:=hx115_1
    have hw115_0:=hx115_0
    cases e115
    replace hx115_0:=(HB.out.cell (World.block_lt_of_cell? w _ hx115_0)).trans hx115_0
    replace hx115_1:=(HB.out.cell (World.block_lt_of_cell? w _ hx115_1)).trans hx115_1
    replace hx115_2:=(HB.out.cell (World.block_lt_of_cell? w _ hx115_2)).trans hx115_2
    replace hx115_3:=(HB.out.cell (World.block_lt_of_cell? w _ hx115_3)).trans hx115_3
    replace p115:=eq_true p115
    replace q115:=eq_true q115
    refine start_ (n:=23) (S:=fun w' => w'.cell? (ad115.add ((x3_1).toNat * 4)) = some (.string ((rd_T27 l0 x3_1).f0)) ∧ w'.cell? ⟨(ad115.add ((x3_1).toNat * 4)).block,(ad115.add ((x3_1).toNat * 4)).off + 1,none⟩ = some (.int .i64 ((rd_T27 l0 x3_1).f1)) ∧ w'.cell? ⟨(ad115.add ((x3_1).toNat * 4)).block,(ad115.add ((x3_1).toNat * 4)).off + 2,none⟩ = some (.bool ((rd_T27 l0 x3_1).f2)) ∧ w'.cell? ⟨(ad115.add ((x3_1).toNat * 4)).block,(ad115.add ((x3_1).toNat * 4)).off + 3,none⟩ = some (.int .i64 ((rd_T27 l0 x3_1).f3))) (ds:=[]) #[false,false,false,false,false,false,false,false,false,false,false,false,false,false,false,false,false,false,false,false,false,false,false] T3q2 rfl rfl ⟨((HB.out.cell (World.block_lt_of_cell? w _ hw115_0)).trans hw115_0),((HB.out.cell (World.block_lt_of_cell? w _ hw115_1)).trans hw115_1),((HB.out.cell (World.block_lt_of_cell? w _ hw115_2)).trans hw115_2),((HB.out.cell (World.block_lt_of_cell? w _ hw115_3)).trans hw115_3)⟩ (fun hHeld => ?_);refine with_tabW spec_RunOk.tab4 spec_RunOk.bits4 (fun HT_ HW_ => ?_)
    generalize wr.drew = w18 at HB hx115_0 hx115_1 hx115_2 hx115_3 hHeld ⊢
    refine pm_ (i:=0) (N:=some 10) (v:=?_) (a':=?_) rfl rfl (any_of HT_.out T3q2) (fun _ _ _ h => h) (Or.inl ⟨by rfl,?_⟩) ?_ ?_
    rotate_left
    ·intro w'
     go_simp
     with_reducible rfl
    rotate_left
    ·simp only [PU]
     rfl
    refine pm_ (i:=1) (N:=some 11) (v:=?_) (a':=?_) rfl rfl (any_of HT_.out T3q2) (fun _ _ _ h => h) (Or.inl ⟨by rfl,?_⟩) ?_ ?_
    rotate_left
    ·intro w'
     go_simp
     with_reducible rfl
    rotate_left
    ·simp only [PU]
     rfl
    refine pm_ (i:=2) (N:=some 12) (v:=?_) (a':=?_) rfl rfl (any_of HT_.out T3q2) (fun _ _ _ h => h) (Or.inl ⟨by rfl,?_⟩) ?_ ?_
    rotate_left
    ·intro w'
     go_simp
     with_reducible rfl
    rotate_left
    ·simp only [PU]
     rfl
    refine tm_ (i:=3) (N:=some 13) (v:=?_) (a':=?_) rfl rfl (take_ofW HT_.out HW_.out T3q2) (fun _ _ _ h => h) (Or.inl ⟨by rfl,?_⟩) hHeld ?_ ?_
    rotate_left
    ·rintro w' ⟨s0,s1,s2,s3⟩
     go_simp
     with_reducible rfl
    rotate_left
    ·simp only [PU]
     rfl
    refine om_ (i:=4) (N:=some 14) rfl rfl (one_of HT_.out T3q2) (by decide) (fun K hK => ?_)
    refine goes_ Try.func41 T3q2 rfl #[.agg #[.string ((rd_T27 l0 x3_1).f0),.int .i64 ((rd_T27 l0 x3_1).f1),.bool ((rd_T27 l0 x3_1).f2),.int .i64 ((rd_T27 l0 x3_1).f3)]] (by rfl) rfl rfl T3q3 ?_
    with_reducible refine (spec_l11Ok.calls k1 ((rd_T27 l0 x3_1).f0) ((rd_T27 l0 x3_1).f1) ((rd_T27 l0 x3_1).f2) ((rd_T27 l0 x3_1).f3) true _ A4.out).mono ?_
    rintro e w19 ⟨rfl,hb⟩
    refine ⟨_,rfl,?_⟩
    have n0_:=Aside0.mk (below_step (by repeat (first | (with_reducible first | exact HB.out | apply below_alloc | apply pw_below_drewN | apply below_drew1) | exact HB.out)) hb)
    clear HB
    have HB:=n0_
    clear n0_
    (try clear hb)
    (try clear hb2)
    (try clear hk)
    (try clear hi)
    refine hK.out _ _ ⟨((HB.out.cell (World.block_lt_of_cell? w _ hw115_0)).trans hw115_0),((HB.out.cell (World.block_lt_of_cell? w _ hw115_1)).trans hw115_1),((HB.out.cell (World.block_lt_of_cell? w _ hw115_2)).trans hw115_2),((HB.out.cell (World.block_lt_of_cell? w _ hw115_3)).trans hw115_3)⟩ (fun hHeld => ?_)
    clear hK K
    refine norm_ (a':=?_) ?_ ?_
    rotate_left
    ·show Act.put _ (some 14) _ = _
     simp only [PU]
     rfl
    refine pm_ (i:=5) (N:=some 15) (v:=?_) (a':=?_) rfl rfl (any_of HT_.out T3q2) (fun _ _ _ h => h) (Or.inl ⟨by rfl,?_⟩) ?_ ?_
    rotate_left
    ·intro w'
     go_simp
     with_reducible rfl
    rotate_left
    ·simp only [PU]
     rfl
    refine pm_ (i:=6) (N:=some 16) (v:=?_) (a':=?_) rfl rfl (any_of HT_.out T3q2) (fun _ _ _ h => h) (Or.inl ⟨by rfl,?_⟩) ?_ ?_
    rotate_left
    ·intro w'
     go_simp
     with_reducible rfl
    rotate_left
    ·simp only [PU]
     rfl
    refine pm_ (i:=7) (N:=some 17) (v:=?_) (a':=?_) rfl rfl (any_of HT_.out T3q2) (fun _ _ _ h => h) (Or.inl ⟨by rfl,?_⟩) ?_ ?_
    rotate_left
    ·intro w'
     go_simp
     with_reducible rfl
    rotate_left
    ·simp only [PU]
     rfl
    refine pm_ (i:=8) (N:=some 18) (v:=?_) (a':=?_) rfl rfl (any_of HT_.out T3q2) (fun _ _ _ h => h) (Or.inl ⟨by rfl,?_⟩) ?_ ?_
    rotate_left
    ·intro w'
     go_simp
     with_reducible rfl
    rotate_left
    ·simp only [PU]
     rfl
    refine pm_ (i:=9) (N:=some 19) (v:=?_) (a':=?_) rfl rfl (any_of HT_.out T3q2) (fun _ _ _ h => h) (Or.inl ⟨by rfl,?_⟩) ?_ ?_
    rotate_left
    ·intro w'
     go_simp
     with_reducible rfl
    rotate_left
    ·simp only [PU]
     rfl
    refine pm_ (i:=10) (N:=some 20) (v:=undef) (a':=?_) rfl rfl (any_of HT_.out T3q2) (fun _ _ _ h => h) (Or.inr ⟨by rfl,rfl⟩) ?_ ?_
    rotate_left
    ·simp only [PU]
     rfl
    refine pm_ (i:=11) (N:=some 21) (v:=undef) (a':=?_) rfl rfl (any_of HT_.out T3q2) (fun _ _ _ h => h) (Or.inr ⟨by rfl,rfl⟩) ?_ ?_
    rotate_left
    ·simp only [PU]
     rfl
    refine pm_ (i:=12) (N:=some 22) (v:=undef) (a':=?_) rfl rfl (any_of HT_.out T3q2) (fun _ _ _ h => h) (Or.inr ⟨by rfl,rfl⟩) ?_ ?_
    rotate_left
    ·simp only [PU]
     rfl
    refine pm_ (i:=13) (N:=some 23) (v:=undef) (a':=?_) rfl rfl (any_of HT_.out T3q2) (fun _ _ _ h => h) (Or.inr ⟨by rfl,rfl⟩) ?_ ?_
    rotate_left
    ·simp only [PU]
     rfl
    refine pm_ (i:=14) (N:=some 24) (v:=undef) (a':=?_) rfl rfl (any_of HT_.out T3q2) (fun _ _ _ h => h) (Or.inr ⟨by rfl,rfl⟩) ?_ ?_
    rotate_left
    ·simp only [PU]
     rfl
    refine pm_ (i:=15) (N:=some 25) (v:=undef) (a':=?_) rfl rfl (any_of HT_.out T3q2) (fun _ _ _ h => h) (Or.inr ⟨by rfl,rfl⟩) ?_ ?_
    rotate_left
    ·simp only [PU]
     rfl
    refine pm_ (i:=16) (N:=some 26) (v:=undef) (a':=?_) rfl rfl (any_of HT_.out T3q2) (fun _ _ _ h => h) (Or.inr ⟨by rfl,rfl⟩) ?_ ?_
    rotate_left
    ·simp only [PU]
     rfl
    refine pm_ (i:=17) (N:=some 27) (v:=undef) (a':=?_) rfl rfl (any_of HT_.out T3q2) (fun _ _ _ h => h) (Or.inr ⟨by rfl,rfl⟩) ?_ ?_
    rotate_left
    ·simp only [PU]
     rfl
    refine pm_ (i:=18) (N:=some 28) (v:=undef) (a':=?_) rfl rfl (any_of HT_.out T3q2) (fun _ _ _ h => h) (Or.inr ⟨by rfl,rfl⟩) ?_ ?_
    rotate_left
    ·simp only [PU]
     rfl
    refine pm_ (i:=19) (N:=some 29) (v:=undef) (a':=?_) rfl rfl (any_of HT_.out T3q2) (fun _ _ _ h => h) (Or.inr ⟨by rfl,rfl⟩) ?_ ?_
    rotate_left
    ·simp only [PU]
     rfl
    refine pm_ (i:=20) (N:=some 30) (v:=undef) (a':=?_) rfl rfl (any_of HT_.out T3q2) (fun _ _ _ h => h) (Or.inr ⟨by rfl,rfl⟩) ?_ ?_
    rotate_left
    ·simp only [PU]
     rfl
    refine pm_ (i:=21) (N:=some 31) (v:=?_) (a':=?_) rfl rfl (any_of HT_.out T3q2) (fun _ _ _ h => h) (Or.inl ⟨by rfl,?_⟩) ?_ ?_
    rotate_left
    ·intro w'
     go_simp
     with_reducible rfl
    rotate_left
    ·simp only [PU]
     rfl
    refine pm_ (i:=22) (N:=some 32) (v:=?_) (a':=?_) rfl rfl (any_of HT_.out T3q2) (fun _ _ _ h => h) (Or.inl ⟨by rfl,?_⟩) ?_ ?_
    rotate_left
    ·intro w'
     go_simp
     with_reducible rfl
    rotate_left
    ·simp only [PU]
     rfl
    refine done_ (done_of HT_.out T3q2) ?_
    try go_wp2
    go_roundg k1
    case measure => have:=HK1.out;omega
    case rel => exact ⟨(wrap64 (x3_1 + 1)),(by first | rfl | (simp;done) | (simp [*];done)),H',⟨by have:=HK1.out;omega⟩,⟨by repeat (first | (with_reducible first | exact HB.out | apply below_alloc | apply pw_below_drewN | apply below_drew1) | exact HB.out)⟩⟩
   rw [if_pos c6] at H
   have c6b0 : decide (0 < x3_1) = true:=decide_eq_true c6
   clear c6
   obtain ⟨ji7,hji7⟩ : ∃ j_ : Int,(wrap64 (x3_1 - 1)) = j_:=⟨_,rfl⟩
   replace H : (if 0 ≤ (ji7) then (if (ji7) < (l0.length : Int) then ((spec_l11Ahead.f ((rd_T27 l0 (ji7)).f0) ((rd_T27 l0 (ji7)).f1) ((rd_T27 l0 (ji7)).f2) ((rd_T27 l0 (ji7)).f3) ((rd_T27 l0 x3_1).f0) ((rd_T27 l0 x3_1).f1) ((rd_T27 l0 x3_1).f2) ((rd_T27 l0 x3_1).f3)).bind fun t119 => (if t119 = true then (spec_RunOk.l0 k1 l0 (wrap64 (x3_1 + 1))) else (some false))) else (none)) else (none)) = some r:=by first | (rw [hji7] at H;exact H) | (simp only [hji7] at H ⊢;exact H)
   (try rw [hji7] at A4)
   have hji7w : (IntKind.i64.wrap (x3_1 - 1)) = ji7:=(i64_w _).trans hji7
   by_cases c8 : 0 ≤ (ji7)
   rotate_left
   ·rw [if_neg c8] at H
    exact absurd H (by simp)
   rw [if_pos c8] at H
   have c8b0 : decide (0 ≤ (ji7)) = true:=decide_eq_true c8
   clear c8
   by_cases c9 : (ji7) < (l0.length : Int)
   rotate_left
   ·rw [if_neg c9] at H
    exact absurd H (by simp)
   rw [if_pos c9] at H
   have c9b0 : decide ((ji7) < (l0.length : Int)) = true:=decide_eq_true c9
   clear c9
   replace H:=Option.bind_eq_some_iff.mp H
   obtain ⟨t119,A100,H⟩:=H
   replace H : (if t119 = true then (spec_RunOk.l0 k1 l0 (wrap64 (x3_1 + 1))) else (some false)) = some r:=H
   have A10:=Aside0.mk A100
   clear A100
   by_cases c11 : t119 = true
   ·subst c11
    have H1 : (spec_RunOk.l0 k1 l0 (wrap64 (x3_1 + 1))) = some r:=by rw [if_pos rfl] at H;exact H
    clear H
    have H:=H1
    clear H1
    have H':=Aside0.mk H
    clear H
    try go_wp2
    have n0_:=Aside0.mk (below_drew1 HB.out)
    clear HB
    have HB:=n0_
    clear n0_
    have p115 : 0 ≤ (x3_1 : Int):=of_decide_eq_true T3q1
    have q115 : x3_1 < (l0.length : Int):=of_decide_eq_true T3q1
    obtain ⟨ad115,e115,hx115_0,hx115_1,hx115_2,hx115_3⟩:=at_T27 HR0.out x3_1 p115 q115
    have hw115_3:=hx115_3
    have hw115_2:=hx115_2
    have hw115_1:=hx115_1
    have hw115_0:=hx115_0
    cases e115
    replace hx115_0:=(HB.out.cell (World.block_lt_of_cell? w _ hx115_0)).trans hx115_0
    replace hx115_1:=(HB.out.cell (World.block_lt_of_cell? w _ hx115_1)).trans hx115_1
    replace hx115_2:=(HB.out.cell (World.block_lt_of_cell? w _ hx115_2)).trans hx115_2
    replace hx115_3:=(HB.out.cell (World.block_lt_of_cell? w _ hx115_3)).trans hx115_3
    replace p115:=eq_true p115
    replace q115:=eq_true q115
    have p117 : 0 ≤ ((ji7) : Int):=of_decide_eq_true T3q1
    have q117 : (ji7) < (l0.length : Int):=of_decide_eq_true T3q1
    obtain ⟨ad117,e117,hx117_0,hx117_1,hx117_2,hx117_3⟩:=at_T27 HR0.out (ji7) p117 q117
    have hw117_3:=hx117_3
    have hw117_2:=hx117_2
    have hw117_1:=hx117_1
    have hw117_0:=hx117_0
    obtain rfl : ad115 = ad117:=(by injection e117)
    replace hx117_0:=(HB.out.cell (World.block_lt_of_cell? w _ hx117_0)).trans hx117_0
    replace hx117_1:=(HB.out.cell (World.block_lt_of_cell? w _ hx117_1)).trans hx117_1
    replace hx117_2:=(HB.out.cell (World.block_lt_of_cell? w _ hx117_2)).trans hx117_2
    replace hx117_3:=(HB.out.cell (World.block_lt_of_cell? w _ hx117_3)).trans hx117_3
    replace p117:=eq_true p117
    replace q117:=eq_true q117
    have p118 : 0 ≤ (x3_1 : Int):=of_decide_eq_true T3q1
    have q118 : x3_1 < (l0.length : Int):=of_decide_eq_true T3q1
    obtain ⟨ad118,e118,hx118_0,hx118_1,hx118_2,hx118_3⟩:=at_T27 HR0.out x3_1 p118 q118
    have hw118_3:=hx118_3
    have hw118_2:=hx118_2
    have hw118_1:=hx118_1
    have hw118_0:=hx118_0
    obtain rfl : ad115 = ad118:=(by injection e118)
    replace hx118_0:=(HB.out.cell (World.block_lt_of_cell? w _ hx118_0)).trans hx118_0
    replace hx118_1:=(HB.out.cell (World.block_lt_of_cell? w _ hx118_1)).trans hx118_1
    replace hx118_2:=(HB.out.cell (World.block_lt_of_cell? w _ hx118_2)).trans hx118_2
    replace hx118_3:=(HB.out.cell (World.block_lt_of_cell? w _ hx118_3)).trans hx118_3
    replace p118:=eq_true p118
    replace q118:=eq_true q118
    refine start_ (n:=23) (S:=fun w' => w'.cell? (ad115.add ((x3_1).toNat * 4)) = some (.string ((rd_T27 l0 x3_1).f0)) ∧ w'.cell? ⟨(ad115.add ((x3_1).toNat * 4)).block,(ad115.add ((x3_1).toNat * 4)).off + 1,none⟩ = some (.int .i64 ((rd_T27 l0 x3_1).f1)) ∧ w'.cell? ⟨(ad115.add ((x3_1).toNat * 4)).block,(ad115.add ((x3_1).toNat * 4)).off + 2,none⟩ = some (.bool ((rd_T27 l0 x3_1).f2)) ∧ w'.cell? ⟨(ad115.add ((x3_1).toNat * 4)).block,(ad115.add ((x3_1).toNat * 4)).off + 3,none⟩ = some (.int .i64 ((rd_T27 l0 x3_1).f3)) ∧ w'.cell? (ad115.add (((ji7)).toNat * 4)) = some (.string ((rd_T27 l0 (ji7)).f0)) ∧ w'.cell? ⟨(ad115.add (((ji7)).toNat * 4)).block,(ad115.add (((ji7)).toNat * 4)).off + 1,none⟩ = some (.int .i64 ((rd_T27 l0 (ji7)).f1)) ∧ w'.cell? ⟨(ad115.add (((ji7)).toNat * 4)).block,(ad115.add (((ji7)).toNat * 4)).off + 2,none⟩ = some (.bool ((rd_T27 l0 (ji7)).f2)) ∧ w'.cell? ⟨(ad115.add (((ji7)).toNat * 4)).block,(ad115.add (((ji7)).toNat * 4)).off + 3,none⟩ = some (.int .i64 ((rd_T27 l0 (ji7)).f3)) ∧ w'.cell? (ad115.add ((x3_1).toNat * 4)) = some (.string ((rd_T27 l0 x3_1).f0)) ∧ w'.cell? ⟨(ad115.add ((x3_1).toNat * 4)).block,(ad115.add ((x3_1).toNat * 4)).off + 1,none⟩ = some (.int .i64 ((rd_T27 l0 x3_1).f1)) ∧ w'.cell? ⟨(ad115.add ((x3_1).toNat * 4)).block,(ad115.add ((x3_1).toNat * 4)).off + 2,none⟩ = some (.bool ((rd_T27 l0 x3_1).f2)) ∧ w'.cell? ⟨(ad115.add ((x3_1).toNat * 4)).block,(ad115.add ((x3_1).toNat * 4)).off + 3,none⟩ = some (.int .i64 ((rd_T27 l0 x3_1).f3))) (ds:=[]) #[false,false,false,false,false,false,false,false,false,false,false,false,false,false,false,false,false,false,false,false,false,false,false] T3q2 rfl rfl ⟨((HB.out.cell (World.block_lt_of_cell? w _ hw115_0)).trans hw115_0),((HB.out.cell (World.block_lt_of_cell? w _ hw115_1)).trans hw115_1),((HB.out.cell (World.block_lt_of_cell? w _ hw115_2)).trans hw115_2),((HB.out.cell (World.block_lt_of_cell? w _ hw115_3)).trans hw115_3),((HB.out.cell (World.block_lt_of_cell? w _ hw117_0)).trans hw117_0),((HB.out.cell (World.block_lt_of_cell? w _ hw117_1)).trans hw117_1),((HB.out.cell (World.block_lt_of_cell? w _ hw117_2)).trans hw117_2),((HB.out.cell (World.block_lt_of_cell? w _ hw117_3)).trans hw117_3),((HB.out.cell (World.block_lt_of_cell? w _ hw118_0)).trans hw118_0),((HB.out.cell (World.block_lt_of_cell? w _ hw118_1)).trans hw118_1),((HB.out.cell (World.block_lt_of_cell? w _ hw118_2)).trans hw118_2),((HB.out.cell (World.block_lt_of_cell? w _ hw118_3)).trans hw118_3)⟩ (fun hHeld => ?_);refine with_tabW spec_RunOk.tab4 spec_RunOk.bits4 (fun HT_ HW_ => ?_)
    generalize wr.drew = w12 at HB hx115_0 hx115_1 hx115_2 hx115_3 hx117_0 hx117_1 hx117_2 hx117_3 hx118_0 hx118_1 hx118_2 hx118_3 hHeld ⊢
    refine pm_ (i:=0) (N:=some 10) (v:=?_) (a':=?_) rfl rfl (any_of HT_.out T3q2) (fun _ _ _ h => h) (Or.inl ⟨by rfl,?_⟩) ?_ ?_
    rotate_left
    ·intro w'
     go_simp
     with_reducible rfl
    rotate_left
    ·simp only [PU]
     rfl
    refine pm_ (i:=1) (N:=some 11) (v:=?_) (a':=?_) rfl rfl (any_of HT_.out T3q2) (fun _ _ _ h => h) (Or.inl ⟨by rfl,?_⟩) ?_ ?_
    rotate_left
    ·intro w'
     go_simp
     with_reducible rfl
    rotate_left
    ·simp only [PU]
     rfl
    refine pm_ (i:=2) (N:=some 12) (v:=?_) (a':=?_) rfl rfl (any_of HT_.out T3q2) (fun _ _ _ h => h) (Or.inl ⟨by rfl,?_⟩) ?_ ?_
    rotate_left
    ·intro w'
     go_simp
     with_reducible rfl
    rotate_left
    ·simp only [PU]
     rfl
    refine tm_ (i:=3) (N:=some 13) (v:=?_) (a':=?_) rfl rfl (take_ofW HT_.out HW_.out T3q2) (fun _ _ _ h => h) (Or.inl ⟨by rfl,?_⟩) hHeld ?_ ?_
    rotate_left
    ·rintro w' ⟨s0,s1,s2,s3,s4,s5,s6,s7,s8,s9,s10,s11⟩
     go_simp
     with_reducible rfl
    rotate_left
    ·simp only [PU]
     rfl
    refine om_ (i:=4) (N:=some 14) rfl rfl (one_of HT_.out T3q2) (by decide) (fun K hK => ?_)
    refine goes_ Try.func41 T3q2 rfl #[.agg #[.string ((rd_T27 l0 x3_1).f0),.int .i64 ((rd_T27 l0 x3_1).f1),.bool ((rd_T27 l0 x3_1).f2),.int .i64 ((rd_T27 l0 x3_1).f3)]] (by rfl) rfl rfl T3q3 ?_
    with_reducible refine (spec_l11Ok.calls k1 ((rd_T27 l0 x3_1).f0) ((rd_T27 l0 x3_1).f1) ((rd_T27 l0 x3_1).f2) ((rd_T27 l0 x3_1).f3) true _ A4.out).mono ?_
    rintro e w13 ⟨rfl,hb⟩
    refine ⟨_,rfl,?_⟩
    have n0_:=Aside0.mk (below_step (by repeat (first | (with_reducible first | exact HB.out | apply below_alloc | apply pw_below_drewN | apply below_drew1) | exact HB.out)) hb)
    clear HB
    have HB:=n0_
    clear n0_
    (try clear hb)
    (try clear hb2)
    (try clear hk)
    (try clear hi)
    refine hK.out _ _ ⟨((HB.out.cell (World.block_lt_of_cell? w _ hw115_0)).trans hw115_0),((HB.out.cell (World.block_lt_of_cell? w _ hw115_1)).trans hw115_1),((HB.out.cell (World.block_lt_of_cell? w _ hw115_2)).trans hw115_2),((HB.out.cell (World.block_lt_of_cell? w _ hw115_3)).trans hw115_3),((HB.out.cell (World.block_lt_of_cell? w _ hw117_0)).trans hw117_0),((HB.out.cell (World.block_lt_of_cell? w _ hw117_1)).trans hw117_1),((HB.out.cell (World.block_lt_of_cell? w _ hw117_2)).trans hw117_2),((HB.out.cell (World.block_lt_of_cell? w _ hw117_3)).trans hw117_3),((HB.out.cell (World.block_lt_of_cell? w _ hw118_0)).trans hw118_0),((HB.out.cell (World.block_lt_of_cell? w _ hw118_1)).trans hw118_1),((HB.out.cell (World.block_lt_of_cell? w _ hw118_2)).trans hw118_2),((HB.out.cell (World.block_lt_of_cell? w _ hw118_3)).trans hw118_3)⟩ (fun hHeld => ?_)
    clear hK K
    refine norm_ (a':=?_) ?_ ?_
    rotate_left
    ·show Act.put _ (some 14) _ = _
     simp only [PU]
     rfl
    refine pm_ (i:=5) (N:=some 15) (v:=?_) (a':=?_) rfl rfl (any_of HT_.out T3q2) (fun _ _ _ h => h) (Or.inl ⟨by rfl,?_⟩) ?_ ?_
    rotate_left
    ·intro w'
     go_simp
     with_reducible rfl
    rotate_left
    ·simp only [PU]
     rfl
    refine pm_ (i:=6) (N:=some 16) (v:=?_) (a':=?_) rfl rfl (any_of HT_.out T3q2) (fun _ _ _ h => h) (Or.inl ⟨by rfl,?_⟩) ?_ ?_
    rotate_left
    ·intro w'
     go_simp
     with_reducible rfl
    rotate_left
    ·simp only [PU]
     rfl
    refine pm_ (i:=7) (N:=some 17) (v:=?_) (a':=?_) rfl rfl (any_of HT_.out T3q2) (fun _ _ _ h => h) (Or.inl ⟨by rfl,?_⟩) ?_ ?_
    rotate_left
    ·intro w'
     go_simp
     with_reducible rfl
    rotate_left
    ·simp only [PU]
     rfl
    refine pm_ (i:=8) (N:=some 18) (v:=?_) (a':=?_) rfl rfl (any_of HT_.out T3q2) (fun _ _ _ h => h) (Or.inl ⟨by rfl,?_⟩) ?_ ?_
    rotate_left
    ·intro w'
     go_simp
     with_reducible rfl
    rotate_left
    ·simp only [PU]
     rfl
    refine pm_ (i:=9) (N:=some 19) (v:=?_) (a':=?_) rfl rfl (any_of HT_.out T3q2) (fun _ _ _ h => h) (Or.inl ⟨by rfl,?_⟩) ?_ ?_
    rotate_left
    ·intro w'
     go_simp
     with_reducible rfl
    rotate_left
    ·simp only [PU]
     rfl
    refine pm_ (i:=10) (N:=some 20) (v:=?_) (a':=?_) rfl rfl (any_of HT_.out T3q2) (fun _ _ _ h => h) (Or.inl ⟨by rfl,?_⟩) ?_ ?_
    rotate_left
    ·intro w'
     go_simp
     with_reducible rfl
    rotate_left
    ·simp only [PU]
     rfl
    refine pm_ (i:=11) (N:=some 21) (v:=?_) (a':=?_) rfl rfl (any_of HT_.out T3q2) (fun _ _ _ h => h) (Or.inl ⟨by rfl,?_⟩) ?_ ?_
    rotate_left
    ·intro w'
     go_simp
     with_reducible rfl
    rotate_left
    ·simp only [PU]
     rfl
    refine pm_ (i:=12) (N:=some 22) (v:=?_) (a':=?_) rfl rfl (any_of HT_.out T3q2) (fun _ _ _ h => h) (Or.inl ⟨by rfl,?_⟩) ?_ ?_
    rotate_left
    ·intro w'
     go_simp
     with_reducible rfl
    rotate_left
    ·simp only [PU]
     rfl
    refine pm_ (i:=13) (N:=some 23) (v:=?_) (a':=?_) rfl rfl (any_of HT_.out T3q2) (fun _ _ _ h => h) (Or.inl ⟨by rfl,?_⟩) ?_ ?_
    rotate_left
    ·intro w'
     go_simp
     with_reducible rfl
    rotate_left
    ·simp only [PU]
     rfl
    refine pm_ (i:=15) (N:=some 25) (v:=?_) (a':=?_) rfl rfl (any_of HT_.out T3q2) (fun _ _ _ h => h) (Or.inl ⟨by rfl,?_⟩) ?_ ?_
    rotate_left
    ·intro w'
     go_simp
     with_reducible rfl
    rotate_left
    ·simp only [PU]
     rfl
    refine pm_ (i:=16) (N:=some 26) (v:=?_) (a':=?_) rfl rfl (any_of HT_.out T3q2) (fun _ _ _ h => h) (Or.inl ⟨by rfl,?_⟩) ?_ ?_
    rotate_left
    ·intro w'
     go_simp
     with_reducible rfl
    rotate_left
    ·simp only [PU]
     rfl
    refine pm_ (i:=17) (N:=some 27) (v:=?_) (a':=?_) rfl rfl (any_of HT_.out T3q2) (fun _ _ _ h => h) (Or.inl ⟨by rfl,?_⟩) ?_ ?_
    rotate_left
    ·intro w'
     go_simp
     with_reducible rfl
    rotate_left
    ·simp only [PU]
     rfl
    refine tm_ (i:=14) (N:=some 24) (v:=?_) (a':=?_) rfl rfl (take_ofW HT_.out HW_.out T3q2) (fun _ _ _ h => h) (Or.inl ⟨by rfl,?_⟩) hHeld ?_ ?_
    rotate_left
    ·rintro w' ⟨s0,s1,s2,s3,s4,s5,s6,s7,s8,s9,s10,s11⟩
     go_simp
     with_reducible rfl
    rotate_left
    ·simp only [PU]
     rfl
    refine tm_ (i:=18) (N:=some 28) (v:=?_) (a':=?_) rfl rfl (take_ofW HT_.out HW_.out T3q2) (fun _ _ _ h => h) (Or.inl ⟨by rfl,?_⟩) hHeld ?_ ?_
    rotate_left
    ·rintro w' ⟨s0,s1,s2,s3,s4,s5,s6,s7,s8,s9,s10,s11⟩
     go_simp
     with_reducible rfl
    rotate_left
    ·simp only [PU]
     rfl
    refine om_ (i:=19) (N:=some 29) rfl rfl (one_of HT_.out T3q2) (by decide) (fun K hK => ?_)
    refine goes_ Try.func42 T3q2 rfl #[.agg #[.string ((rd_T27 l0 (ji7)).f0),.int .i64 ((rd_T27 l0 (ji7)).f1),.bool ((rd_T27 l0 (ji7)).f2),.int .i64 ((rd_T27 l0 (ji7)).f3)],.agg #[.string ((rd_T27 l0 x3_1).f0),.int .i64 ((rd_T27 l0 x3_1).f1),.bool ((rd_T27 l0 x3_1).f2),.int .i64 ((rd_T27 l0 x3_1).f3)]] (by rfl) rfl rfl T3q4 ?_
    with_reducible refine (spec_l11Ahead.calls ((rd_T27 l0 (ji7)).f0) ((rd_T27 l0 (ji7)).f1) ((rd_T27 l0 (ji7)).f2) ((rd_T27 l0 (ji7)).f3) ((rd_T27 l0 x3_1).f0) ((rd_T27 l0 x3_1).f1) ((rd_T27 l0 x3_1).f2) ((rd_T27 l0 x3_1).f3) true _ A10.out).mono ?_
    rintro e w14 ⟨rfl,hb⟩
    refine ⟨_,rfl,?_⟩
    have n0_:=Aside0.mk (below_step (by repeat (first | (with_reducible first | exact HB.out | apply below_alloc | apply pw_below_drewN | apply below_drew1) | exact HB.out)) hb)
    clear HB
    have HB:=n0_
    clear n0_
    (try clear hb)
    (try clear hb2)
    (try clear hk)
    (try clear hi)
    refine hK.out _ _ ⟨((HB.out.cell (World.block_lt_of_cell? w _ hw115_0)).trans hw115_0),((HB.out.cell (World.block_lt_of_cell? w _ hw115_1)).trans hw115_1),((HB.out.cell (World.block_lt_of_cell? w _ hw115_2)).trans hw115_2),((HB.out.cell (World.block_lt_of_cell? w _ hw115_3)).trans hw115_3),((HB.out.cell (World.block_lt_of_cell? w _ hw117_0)).trans hw117_0),((HB.out.cell (World.block_lt_of_cell? w _ hw117_1)).trans hw117_1),((HB.out.cell (World.block_lt_of_cell? w _ hw117_2)).trans hw117_2),((HB.out.cell (World.block_lt_of_cell? w _ hw117_3)).trans hw117_3),((HB.out.cell (World.block_lt_of_cell? w _ hw118_0)).trans hw118_0),((HB.out.cell (World.block_lt_of_cell? w _ hw118_1)).trans hw118_1),((HB.out.cell (World.block_lt_of_cell? w _ hw118_2)).trans hw118_2),((HB.out.cell (World.block_lt_of_cell? w _ hw118_3)).trans hw118_3)⟩ (fun hHeld => ?_)
    clear hK K
    refine norm_ (a':=?_) ?_ ?_
    rotate_left
    ·show Act.put _ (some 29) _ = _
     simp only [PU]
     rfl
    refine pm_ (i:=20) (N:=some 30) (v:=?_) (a':=?_) rfl rfl (any_of HT_.out T3q2) (fun _ _ _ h => h) (Or.inl ⟨by rfl,?_⟩) ?_ ?_
    rotate_left
    ·intro w'
     go_simp
     with_reducible rfl
    rotate_left
    ·simp only [PU]
     rfl
    refine pm_ (i:=21) (N:=some 31) (v:=?_) (a':=?_) rfl rfl (any_of HT_.out T3q2) (fun _ _ _ h => h) (Or.inl ⟨by rfl,?_⟩) ?_ ?_
    rotate_left
    ·intro w'
     go_simp
     with_reducible rfl
    rotate_left
    ·simp only [PU]
     rfl
    refine pm_ (i:=22) (N:=some 32) (v:=?_) (a':=?_) rfl rfl (any_of HT_.out T3q2) (fun _ _ _ h => h) (Or.inl ⟨by rfl,?_⟩) ?_ ?_
    rotate_left
    ·intro w'
     go_simp
     with_reducible rfl
    rotate_left
    ·simp only [PU]
     rfl
    refine done_ (done_of HT_.out T3q2) ?_
    try go_wp2
    go_roundg k1
    case measure => have:=HK1.out;omega
    case rel => exact ⟨(wrap64 (x3_1 + 1)),(by first | rfl | (simp;done) | (simp [*];done)),H',⟨by have:=HK1.out;omega⟩,⟨by repeat (first | (with_reducible first | exact HB.out | apply below_alloc | apply pw_below_drewN | apply below_drew1) | exact HB.out)⟩⟩
   replace c11:=Bool.eq_false_iff.mpr c11
   subst c11
   have H1 : (some false) = some r:=by rw [if_neg (show ¬ (false = true) by decide)] at H;exact H
   clear H
   have H:=H1
   clear H1
   obtain rfl:=Option.some.inj H
   try go_wp2
   have n0_:=Aside0.mk (below_drew1 HB.out)
   clear HB
   have HB:=n0_
   clear n0_
   have p115 : 0 ≤ (x3_1 : Int):=of_decide_eq_true T3q1
   have q115 : x3_1 < (l0.length : Int):=of_decide_eq_true T3q1
   obtain ⟨ad115,e115,hx115_0,hx115_1,hx115_2,hx115_3⟩:=at_T27 HR0.out x3_1 p115 q115
   have hw115_3:=hx115_3
   have hw115_2:=hx115_2
   have hw115_1:=hx115_1
   have hw115_0:=hx115_0
   cases e115
   replace hx115_0:=(HB.out.cell (World.block_lt_of_cell? w _ hx115_0)).trans hx115_0
   replace hx115_1:=(HB.out.cell (World.block_lt_of_cell? w _ hx115_1)).trans hx115_1
   replace hx115_2:=(HB.out.cell (World.block_lt_of_cell? w _ hx115_2)).trans hx115_2
   replace hx115_3:=(HB.out.cell (World.block_lt_of_cell? w _ hx115_3)).trans hx115_3
   replace p115:=eq_true p115
   replace q115:=eq_true q115
   have p117 : 0 ≤ ((ji7) : Int):=of_decide_eq_true T3q1
   have q117 : (ji7) < (l0.length : Int):=of_decide_eq_true T3q1
   obtain ⟨ad117,e117,hx117_0,hx117_1,hx117_2,hx117_3⟩:=at_T27 HR0.out (ji7) p117 q117
   have hw117_3:=hx117_3
   have hw117_2:=hx117_2
   have hw117_1:=hx117_1
   have hw117_0:=hx117_0
   obtain rfl : ad115 = ad117:=(by injection e117)
   replace hx117_0:=(HB.out.cell (World.block_lt_of_cell? w _ hx117_0)).trans hx117_0
   replace hx117_1:=(HB.out.cell (World.block_lt_of_cell? w _ hx117_1)).trans hx117_1
   replace hx117_2:=(HB.out.cell (World.block_lt_of_cell? w _ hx117_2)).trans hx117_2
   replace hx117_3:=(HB.out.cell (World.block_lt_of_cell? w _ hx117_3)).trans hx117_3
   replace p117:=eq_true p117
   replace q117:=eq_true q117
   have p118 : 0 ≤ (x3_1 : Int):=of_decide_eq_true T3q1
   have q118 : x3_1 < (l0.length : Int):=of_decide_eq_true T3q1
   obtain ⟨ad118,e118,hx118_0,hx118_1,hx118_2,hx118_3⟩:=at_T27 HR0.out x3_1 p118 q118
   have hw118_3:=hx118_3
   have hw118_2:=hx118_2
   have hw118_1:=hx118_1
   have hw118_0:=hx118_0
   obtain rfl : ad115 = ad118:=(by injection e118)
   replace hx118_0:=(HB.out.cell (World.block_lt_of_cell? w _ hx118_0)).trans hx118_0
   replace hx118_1:=(HB.out.cell (World.block_lt_of_cell? w _ hx118_1)).trans hx118_1
   replace hx118_2:=(HB.out.cell (World.block_lt_of_cell? w _ hx118_2)).trans hx118_2
   replace hx118_3:=(HB.out.cell (World.block_lt_of_cell? w _ hx118_3)).trans hx118_3
   replace p118:=eq_true p118
   replace q118:=eq_true q118
   refine start_ (n:=23) (S:=fun w' => w'.cell? (ad115.add ((x3_1).toNat * 4)) = some (.string ((rd_T27 l0 x3_1).f0)) ∧ w'.cell? ⟨(ad115.add ((x3_1).toNat * 4)).block,(ad115.add ((x3_1).toNat * 4)).off + 1,none⟩ = some (.int .i64 ((rd_T27 l0 x3_1).f1)) ∧ w'.cell? ⟨(ad115.add ((x3_1).toNat * 4)).block,(ad115.add ((x3_1).toNat * 4)).off + 2,none⟩ = some (.bool ((rd_T27 l0 x3_1).f2)) ∧ w'.cell? ⟨(ad115.add ((x3_1).toNat * 4)).block,(ad115.add ((x3_1).toNat * 4)).off + 3,none⟩ = some (.int .i64 ((rd_T27 l0 x3_1).f3)) ∧ w'.cell? (ad115.add (((ji7)).toNat * 4)) = some (.string ((rd_T27 l0 (ji7)).f0)) ∧ w'.cell? ⟨(ad115.add (((ji7)).toNat * 4)).block,(ad115.add (((ji7)).toNat * 4)).off + 1,none⟩ = some (.int .i64 ((rd_T27 l0 (ji7)).f1)) ∧ w'.cell? ⟨(ad115.add (((ji7)).toNat * 4)).block,(ad115.add (((ji7)).toNat * 4)).off + 2,none⟩ = some (.bool ((rd_T27 l0 (ji7)).f2)) ∧ w'.cell? ⟨(ad115.add (((ji7)).toNat * 4)).block,(ad115.add (((ji7)).toNat * 4)).off + 3,none⟩ = some (.int .i64 ((rd_T27 l0 (ji7)).f3)) ∧ w'.cell? (ad115.add ((x3_1).toNat * 4)) = some (.string ((rd_T27 l0 x3_1).f0)) ∧ w'.cell? ⟨(ad115.add ((x3_1).toNat * 4)).block,(ad115.add ((x3_1).toNat * 4)).off + 1,none⟩ = some (.int .i64 ((rd_T27 l0 x3_1).f1)) ∧ w'.cell? ⟨(ad115.add ((x3_1).toNat * 4)).block,(ad115.add ((x3_1).toNat * 4)).off + 2,none⟩ = some (.bool ((rd_T27 l0 x3_1).f2)) ∧ w'.cell? ⟨(ad115.add ((x3_1).toNat * 4)).block,(ad115.add ((x3_1).toNat * 4)).off + 3,none⟩ = some (.int .i64 ((rd_T27 l0 x3_1).f3))) (ds:=[]) #[false,false,false,false,false,false,false,false,false,false,false,false,false,false,false,false,false,false,false,false,false,false,false] T3q2 rfl rfl ⟨((HB.out.cell (World.block_lt_of_cell? w _ hw115_0)).trans hw115_0),((HB.out.cell (World.block_lt_of_cell? w _ hw115_1)).trans hw115_1),((HB.out.cell (World.block_lt_of_cell? w _ hw115_2)).trans hw115_2),((HB.out.cell (World.block_lt_of_cell? w _ hw115_3)).trans hw115_3),((HB.out.cell (World.block_lt_of_cell? w _ hw117_0)).trans hw117_0),((HB.out.cell (World.block_lt_of_cell? w _ hw117_1)).trans hw117_1),((HB.out.cell (World.block_lt_of_cell? w _ hw117_2)).trans hw117_2),((HB.out.cell (World.block_lt_of_cell? w _ hw117_3)).trans hw117_3),((HB.out.cell (World.block_lt_of_cell? w _ hw118_0)).trans hw118_0),((HB.out.cell (World.block_lt_of_cell? w _ hw118_1)).trans hw118_1),((HB.out.cell (World.block_lt_of_cell? w _ hw118_2)).trans hw118_2),((HB.out.cell (World.block_lt_of_cell? w _ hw118_3)).trans hw118_3)⟩ (fun hHeld => ?_);refine with_tabW spec_RunOk.tab4 spec_RunOk.bits4 (fun HT_ HW_ => ?_)
   generalize wr.drew = w15 at HB hx115_0 hx115_1 hx115_2 hx115_3 hx117_0 hx117_1 hx117_2 hx117_3 hx118_0 hx118_1 hx118_2 hx118_3 hHeld ⊢
   refine pm_ (i:=0) (N:=some 10) (v:=?_) (a':=?_) rfl rfl (any_of HT_.out T3q2) (fun _ _ _ h => h) (Or.inl ⟨by rfl,?_⟩) ?_ ?_
   rotate_left
   ·intro w'
    go_simp
    with_reducible rfl
   rotate_left
   ·simp only [PU]
    rfl
   refine pm_ (i:=1) (N:=some 11) (v:=?_) (a':=?_) rfl rfl (any_of HT_.out T3q2) (fun _ _ _ h => h) (Or.inl ⟨by rfl,?_⟩) ?_ ?_
   rotate_left
   ·intro w'
    go_simp
    with_reducible rfl
   rotate_left
   ·simp only [PU]
    rfl
   refine pm_ (i:=2) (N:=some 12) (v:=?_) (a':=?_) rfl rfl (any_of HT_.out T3q2) (fun _ _ _ h => h) (Or.inl ⟨by rfl,?_⟩) ?_ ?_
   rotate_left
   ·intro w'
    go_simp
    with_reducible rfl
   rotate_left
   ·simp only [PU]
    rfl
   refine tm_ (i:=3) (N:=some 13) (v:=?_) (a':=?_) rfl rfl (take_ofW HT_.out HW_.out T3q2) (fun _ _ _ h => h) (Or.inl ⟨by rfl,?_⟩) hHeld ?_ ?_
   rotate_left
   ·rintro w' ⟨s0,s1,s2,s3,s4,s5,s6,s7,s8,s9,s10,s11⟩
    go_simp
    with_reducible rfl
   rotate_left
   ·simp only [PU]
    rfl
   refine om_ (i:=4) (N:=some 14) rfl rfl (one_of HT_.out T3q2) (by decide) (fun K hK => ?_)
   refine goes_ Try.func41 T3q2 rfl #[.agg #[.string ((rd_T27 l0 x3_1).f0),.int .i64 ((rd_T27 l0 x3_1).f1),.bool ((rd_T27 l0 x3_1).f2),.int .i64 ((rd_T27 l0 x3_1).f3)]] (by rfl) rfl rfl T3q3 ?_
   with_reducible refine (spec_l11Ok.calls k1 ((rd_T27 l0 x3_1).f0) ((rd_T27 l0 x3_1).f1) ((rd_T27 l0 x3_1).f2) ((rd_T27 l0 x3_1).f3) true _ A4.out).mono ?_
   rintro e w16 ⟨rfl,hb⟩
   refine ⟨_,rfl,?_⟩
   have n0_:=Aside0.mk (below_step (by repeat (first | (with_reducible first | exact HB.out | apply below_alloc | apply pw_below_drewN | apply below_drew1) | exact HB.out)) hb)
   clear HB
   have HB:=n0_
   clear n0_
   (try clear hb)
   (try clear hb2)
   (try clear hk)
   (try clear hi)
   refine hK.out _ _ ⟨((HB.out.cell (World.block_lt_of_cell? w _ hw115_0)).trans hw115_0),((HB.out.cell (World.block_lt_of_cell? w _ hw115_1)).trans hw115_1),((HB.out.cell (World.block_lt_of_cell? w _ hw115_2)).trans hw115_2),((HB.out.cell (World.block_lt_of_cell? w _ hw115_3)).trans hw115_3),((HB.out.cell (World.block_lt_of_cell? w _ hw117_0)).trans hw117_0),((HB.out.cell (World.block_lt_of_cell? w _ hw117_1)).trans hw117_1),((HB.out.cell (World.block_lt_of_cell? w _ hw117_2)).trans hw117_2),((HB.out.cell (World.block_lt_of_cell? w _ hw117_3)).trans hw117_3),((HB.out.cell (World.block_lt_of_cell? w _ hw118_0)).trans hw118_0),((HB.out.cell (World.block_lt_of_cell? w _ hw118_1)).trans hw118_1),((HB.out.cell (World.block_lt_of_cell? w _ hw118_2)).trans hw118_2),((HB.out.cell (World.block_lt_of_cell? w _ hw118_3)).trans hw118_3)⟩ (fun hHeld => ?_)
   clear hK K
   refine norm_ (a':=?_) ?_ ?_
   rotate_left
   ·show Act.put _ (some 14) _ = _
    simp only [PU]
    rfl
   refine pm_ (i:=5) (N:=some 15) (v:=?_) (a':=?_) rfl rfl (any_of HT_.out T3q2) (fun _ _ _ h => h) (Or.inl ⟨by rfl,?_⟩) ?_ ?_
   rotate_left
   ·intro w'
    go_simp
    with_reducible rfl
   rotate_left
   ·simp only [PU]
    rfl
   refine pm_ (i:=6) (N:=some 16) (v:=?_) (a':=?_) rfl rfl (any_of HT_.out T3q2) (fun _ _ _ h => h) (Or.inl ⟨by rfl,?_⟩) ?_ ?_
   rotate_left
   ·intro w'
    go_simp
    with_reducible rfl
   rotate_left
   ·simp only [PU]
    rfl
   refine pm_ (i:=7) (N:=some 17) (v:=?_) (a':=?_) rfl rfl (any_of HT_.out T3q2) (fun _ _ _ h => h) (Or.inl ⟨by rfl,?_⟩) ?_ ?_
   rotate_left
   ·intro w'
    go_simp
    with_reducible rfl
   rotate_left
   ·simp only [PU]
    rfl
   refine pm_ (i:=8) (N:=some 18) (v:=?_) (a':=?_) rfl rfl (any_of HT_.out T3q2) (fun _ _ _ h => h) (Or.inl ⟨by rfl,?_⟩) ?_ ?_
   rotate_left
   ·intro w'
    go_simp
    with_reducible rfl
   rotate_left
   ·simp only [PU]
    rfl
   refine pm_ (i:=9) (N:=some 19) (v:=?_) (a':=?_) rfl rfl (any_of HT_.out T3q2) (fun _ _ _ h => h) (Or.inl ⟨by rfl,?_⟩) ?_ ?_
   rotate_left
   ·intro w'
    go_simp
    with_reducible rfl
   rotate_left
   ·simp only [PU]
    rfl
   refine pm_ (i:=10) (N:=some 20) (v:=?_) (a':=?_) rfl rfl (any_of HT_.out T3q2) (fun _ _ _ h => h) (Or.inl ⟨by rfl,?_⟩) ?_ ?_
   rotate_left
   ·intro w'
    go_simp
    with_reducible rfl
   rotate_left
   ·simp only [PU]
    rfl
   refine pm_ (i:=11) (N:=some 21) (v:=?_) (a':=?_) rfl rfl (any_of HT_.out T3q2) (fun _ _ _ h => h) (Or.inl ⟨by rfl,?_⟩) ?_ ?_
   rotate_left
   ·intro w'
    go_simp
    with_reducible rfl
   rotate_left
   ·simp only [PU]
    rfl
   refine pm_ (i:=12) (N:=some 22) (v:=?_) (a':=?_) rfl rfl (any_of HT_.out T3q2) (fun _ _ _ h => h) (Or.inl ⟨by rfl,?_⟩) ?_ ?_
   rotate_left
   ·intro w'
    go_simp
    with_reducible rfl
   rotate_left
   ·simp only [PU]
    rfl
   refine pm_ (i:=13) (N:=some 23) (v:=?_) (a':=?_) rfl rfl (any_of HT_.out T3q2) (fun _ _ _ h => h) (Or.inl ⟨by rfl,?_⟩) ?_ ?_
   rotate_left
   ·intro w'
    go_simp
    with_reducible rfl
   rotate_left
   ·simp only [PU]
    rfl
   refine pm_ (i:=15) (N:=some 25) (v:=?_) (a':=?_) rfl rfl (any_of HT_.out T3q2) (fun _ _ _ h => h) (Or.inl ⟨by rfl,?_⟩) ?_ ?_
   rotate_left
   ·intro w'
    go_simp
    with_reducible rfl
   rotate_left
   ·simp only [PU]
    rfl
   refine pm_ (i:=16) (N:=some 26) (v:=?_) (a':=?_) rfl rfl (any_of HT_.out T3q2) (fun _ _ _ h => h) (Or.inl ⟨by rfl,?_⟩) ?_ ?_
   rotate_left
   ·intro w'
    go_simp
    with_reducible rfl
   rotate_left
   ·simp only [PU]
    rfl
   refine pm_ (i:=17) (N:=some 27) (v:=?_) (a':=?_) rfl rfl (any_of HT_.out T3q2) (fun _ _ _ h => h) (Or.inl ⟨by rfl,?_⟩) ?_ ?_
   rotate_left
   ·intro w'
    go_simp
    with_reducible rfl
   rotate_left
   ·simp only [PU]
    rfl
   refine tm_ (i:=14) (N:=some 24) (v:=?_) (a':=?_) rfl rfl (take_ofW HT_.out HW_.out T3q2) (fun _ _ _ h => h) (Or.inl ⟨by rfl,?_⟩) hHeld ?_ ?_
   rotate_left
   ·rintro w' ⟨s0,s1,s2,s3,s4,s5,s6,s7,s8,s9,s10,s11⟩
    go_simp
    with_reducible rfl
   rotate_left
   ·simp only [PU]
    rfl
   refine tm_ (i:=18) (N:=some 28) (v:=?_) (a':=?_) rfl rfl (take_ofW HT_.out HW_.out T3q2) (fun _ _ _ h => h) (Or.inl ⟨by rfl,?_⟩) hHeld ?_ ?_
   rotate_left
   ·rintro w' ⟨s0,s1,s2,s3,s4,s5,s6,s7,s8,s9,s10,s11⟩
    go_simp
    with_reducible rfl
   rotate_left
   ·simp only [PU]
    rfl
   refine om_ (i:=19) (N:=some 29) rfl rfl (one_of HT_.out T3q2) (by decide) (fun K hK => ?_)
   refine goes_ Try.func42 T3q2 rfl #[.agg #[.string ((rd_T27 l0 (ji7)).f0),.int .i64 ((rd_T27 l0 (ji7)).f1),.bool ((rd_T27 l0 (ji7)).f2),.int .i64 ((rd_T27 l0 (ji7)).f3)],.agg #[.string ((rd_T27 l0 x3_1).f0),.int .i64 ((rd_T27 l0 x3_1).f1),.bool ((rd_T27 l0 x3_1).f2),.int .i64 ((rd_T27 l0 x3_1).f3)]] (by rfl) rfl rfl T3q4 ?_
   with_reducible refine (spec_l11Ahead.calls ((rd_T27 l0 (ji7)).f0) ((rd_T27 l0 (ji7)).f1) ((rd_T27 l0 (ji7)).f2) ((rd_T27 l0 (ji7)).f3) ((rd_T27 l0 x3_1).f0) ((rd_T27 l0 x3_1).f1) ((rd_T27 l0 x3_1).f2) ((rd_T27 l0 x3_1).f3) false _ A10.out).mono ?_
   rintro e w17 ⟨rfl,hb⟩
   refine ⟨_,rfl,?_⟩
   have n0_:=Aside0.mk (below_step (by repeat (first | (with_reducible first | exact HB.out | apply below_alloc | apply pw_below_drewN | apply below_drew1) | exact HB.out)) hb)
   clear HB
   have HB:=n0_
   clear n0_
   (try clear hb)
   (try clear hb2)
   (try clear hk)
   (try clear hi)
   refine hK.out _ _ ⟨((HB.out.cell (World.block_lt_of_cell? w _ hw115_0)).trans hw115_0),((HB.out.cell (World.block_lt_of_cell? w _ hw115_1)).trans hw115_1),((HB.out.cell (World.block_lt_of_cell? w _ hw115_2)).trans hw115_2),((HB.out.cell (World.block_lt_of_cell? w _ hw115_3)).trans hw115_3),((HB.out.cell (World.block_lt_of_cell? w _ hw117_0)).trans hw117_0),((HB.out.cell (World.block_lt_of_cell? w _ hw117_1)).trans hw117_1),((HB.out.cell (World.block_lt_of_cell? w _ hw117_2)).trans hw117_2),((HB.out.cell (World.block_lt_of_cell? w _ hw117_3)).trans hw117_3),((HB.out.cell (World.block_lt_of_cell? w _ hw118_0)).trans hw118_0),((HB.out.cell (World.block_lt_of_cell? w _ hw118_1)).trans hw118_1),((HB.out.cell (World.block_lt_of_cell? w _ hw118_2)).trans hw118_2),((HB.out.cell (World.block_lt_of_cell? w _ hw118_3)).trans hw118_3)⟩ (fun hHeld => ?_)
   clear hK K
   refine norm_ (a':=?_) ?_ ?_
   rotate_left
   ·show Act.put _ (some 29) _ = _
    simp only [PU]
    rfl
   refine pm_ (i:=20) (N:=some 30) (v:=?_) (a':=?_) rfl rfl (any_of HT_.out T3q2) (fun _ _ _ h => h) (Or.inl ⟨by rfl,?_⟩) ?_ ?_
   rotate_left
   ·intro w'
    go_simp
    with_reducible rfl
   rotate_left
   ·simp only [PU]
    rfl
   refine pm_ (i:=21) (N:=some 31) (v:=?_) (a':=?_) rfl rfl (any_of HT_.out T3q2) (fun _ _ _ h => h) (Or.inl ⟨by rfl,?_⟩) ?_ ?_
   rotate_left
   ·intro w'
    go_simp
    with_reducible rfl
   rotate_left
   ·simp only [PU]
    rfl
   refine pm_ (i:=22) (N:=some 32) (v:=?_) (a':=?_) rfl rfl (any_of HT_.out T3q2) (fun _ _ _ h => h) (Or.inl ⟨by rfl,?_⟩) ?_ ?_
   rotate_left
   ·intro w'
    go_simp
    with_reducible rfl
   rotate_left
   ·simp only [PU]
    rfl
   refine done_ (done_of HT_.out T3q2) ?_
   try go_wp2
   go_ret
   exact ⟨by first | rfl | (simp [errW_none,errW_some] <;> rfl) | (simp only [← hji7];first | rfl | (simp [errW_none,errW_some] <;> rfl)) | (simp [*,errW_none,errW_some] <;> rfl),by repeat (first | (with_reducible first | exact HB.out | apply below_alloc | apply pw_below_drewN | apply below_drew1) | exact HB.out)⟩
end Go.Proofs.Ytkifijclehgiaaa.PFnRunJoinAt
