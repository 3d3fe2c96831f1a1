/-
 Functions that FnRunTrimTop reaches,each as a Lean function,and that Go comes to its answer: printed by the kit's printer,impl.seen's part laid by hand. Conditions: those that stand in each statement.
-/
import Derived.Test.YtkifijclehgiaaaPFnRunTrimTopx0
namespace Go.Proofs.Ytkifijclehgiaaa.PFnRunTrimTop
open Go.RowKit Go.Proofs.YtkifijclehgiaaaW.PrintWords Go.Proofs.YtkifijclehgiaaaW.PrintLast Go.Proofs.YtkifijclehgiaaaW.PrintMore
attribute [local go_sem] max2_int min2_int max_two min_two max_three min_three max_four min_four   -- for this text's walks alone
set_option linter.unusedVariables false
set_option linter.unusedSimpArgs false

theorem T2q1 {p : Prop} (h : p := by first | (with_reducible assumption) | assumption) : p := h
theorem T2q2 {p : Prop} (h : p := by (try simp only [List.map_toArray,List.map_cons,List.map_nil]);first | done | rfl | (simp only [List.length_drop,List.length_take];rfl)) : p := h
theorem T2q3 {p : Prop} (h : p := by (with_reducible repeat (first | refine blk_drewN ?_ _ | refine blk_drew ?_ | refine blk_alloc ?_ _));exact BK106.out) : p := h
/-! ### impl_KeyOk: function 64 -/
def impl_KeyOk.l0 : Nat → ByteArray → Int → Int → Option (Bool)
 | 0,_,_,_ => none
 | k + 1,x0,x5,x6 => if x6 < x5 then (if 0 ≤ x6 then (if x6 < (x0.size : Int) then (if (bt x0 x6) < 97 then (some false) else (if (bt x0 x6) > 100 then (some false) else (impl_KeyOk.l0 k x0 x5 (wrap64 (x6 + 1))))) else (none)) else (none)) else (some (decide ((x0.size : Int) ≤ 5)))
def impl_KeyOk.f (k : Nat) (a0 : ByteArray) : Option (Bool):=impl_KeyOk.l0 k a0 (a0.size : Int) 0
set_option maxHeartbeats 8000000 in
set_option maxRecDepth 100000 in
theorem impl_KeyOk.calls (k : Nat) (a0 : ByteArray) (r : Bool) (w : World) (h : impl_KeyOk.f k a0 = some r) :
  Calls Try.prog 64 #[.string a0] w fun e w' => e = .returned (.bool r) ∧ Drawn0 w w':=by
 have H : (impl_KeyOk.l0 k a0 (a0.size : Int) 0) = some r:=h
 clear h
 have H':=Aside0.mk H
 clear H
 go_enter Try.func64,Try.ntmps64
 go_wp2
 go_loopg [6] k (fun kq v6 w' => ∃ (x6_1 : Int),v6 = .int .i64 x6_1 ∧ Aside0 (impl_KeyOk.l0 kq a0 (a0.size : Int) x6_1 = some r) ∧ Aside0 (kq ≤ k) ∧ Drawn0 w w')
 case atStart => exact ⟨(0),(by first | rfl | (simp;done) | (simp [*];done)),H',⟨Nat.le_refl _⟩,by repeat (first | exact Drawn0.refl _ | apply Drawn0.step)⟩
 case round =>
  clear H'
  obtain ⟨x6_1,rfl,HA,HK1,⟨m1,rfl⟩⟩:=hrel
  cases gk with
  | zero => exact absurd HA.out (by simp [impl_KeyOk.l0])
  | succ k1 =>
   have H:=HA.out
   clear HA
   simp only [impl_KeyOk.l0] at H
   by_cases c2 : x6_1 < (a0.size : Int)
   rotate_left
   ·rw [if_neg c2] at H
    have c2b0 : decide (x6_1 < (a0.size : Int)) = false:=decide_eq_false c2
    clear c2
    obtain rfl:=Option.some.inj H
    go_wp2
    go_ret
    exact ⟨by first | rfl | (simp;done) | (simp [*];done),by repeat (first | exact Drawn0.refl _ | apply Drawn0.step)⟩
   rw [if_pos c2] at H
   have c2b0 : decide (x6_1 < (a0.size : Int)) = true:=decide_eq_true c2
   clear c2
   by_cases c3 : 0 ≤ x6_1
   rotate_left
   ·rw [if_neg c3] at H
    exact absurd H (by simp)
   rw [if_pos c3] at H
   have c3b0 : decide (0 ≤ x6_1) = true:=decide_eq_true c3
   clear c3
   by_cases c4 : x6_1 < (a0.size : Int)
   rotate_left
   ·rw [if_neg c4] at H
    exact absurd H (by simp)
   rw [if_pos c4] at H
   have c4b0 : decide (x6_1 < (a0.size : Int)) = true:=decide_eq_true c4
   clear c4
   by_cases c6 : (bt a0 x6_1) < 97
   ·rw [if_pos c6] at H
    have c6b0 : decide ((bt a0 x6_1) < 97) = true:=decide_eq_true c6
    clear c6
    obtain rfl:=Option.some.inj H
    have p5 : 0 ≤ (x6_1 : Int):=of_decide_eq_true T2q1
    have q5 : x6_1 < (a0.size : Int):=of_decide_eq_true T2q1
    have hx5:=bt_at a0 x6_1
    replace p5:=eq_true p5
    replace q5:=eq_true q5
    go_wp2
    go_ret
    exact ⟨by first | rfl | (simp;done) | (simp [*];done),by repeat (first | exact Drawn0.refl _ | apply Drawn0.step)⟩
   rw [if_neg c6] at H
   have c6b0 : decide ((bt a0 x6_1) < 97) = false:=decide_eq_false c6
   clear c6
   by_cases c8 : (bt a0 x6_1) > 100
   ·rw [if_pos c8] at H
    have c8b0 : decide (100 < (bt a0 x6_1)) = true:=decide_eq_true c8
    clear c8
    obtain rfl:=Option.some.inj H
    have p5 : 0 ≤ (x6_1 : Int):=of_decide_eq_true T2q1
    have q5 : x6_1 < (a0.size : Int):=of_decide_eq_true T2q1
    have hx5:=bt_at a0 x6_1
    replace p5:=eq_true p5
    replace q5:=eq_true q5
    have p7 : 0 ≤ (x6_1 : Int):=of_decide_eq_true T2q1
    have q7 : x6_1 < (a0.size : Int):=of_decide_eq_true T2q1
    have hx7:=bt_at a0 x6_1
    replace p7:=eq_true p7
    replace q7:=eq_true q7
    go_wp2
    go_ret
    exact ⟨by first | rfl | (simp;done) | (simp [*];done),by repeat (first | exact Drawn0.refl _ | apply Drawn0.step)⟩
   rw [if_neg c8] at H
   have c8b0 : decide (100 < (bt a0 x6_1)) = false:=decide_eq_false c8
   clear c8
   have H':=Aside0.mk H
   clear H
   have p5 : 0 ≤ (x6_1 : Int):=of_decide_eq_true T2q1
   have q5 : x6_1 < (a0.size : Int):=of_decide_eq_true T2q1
   have hx5:=bt_at a0 x6_1
   replace p5:=eq_true p5
   replace q5:=eq_true q5
   have p7 : 0 ≤ (x6_1 : Int):=of_decide_eq_true T2q1
   have q7 : x6_1 < (a0.size : Int):=of_decide_eq_true T2q1
   have hx7:=bt_at a0 x6_1
   replace p7:=eq_true p7
   replace q7:=eq_true q7
   go_wp2
   go_roundg k1
   case measure => have:=HK1.out;omega
   case rel => exact ⟨(wrap64 (x6_1 + 1)),(by first | rfl | (simp;done) | (simp [*];done)),H',⟨by have:=HK1.out;omega⟩,by repeat (first | exact Drawn0.refl _ | apply Drawn0.step)⟩
/-! ### impl_in: function 65 -/
def impl_in.f (a0 : Int) (a1 : Int) (a2 : Int) : Option (Bool):=if a1 ≤ a0 then (some (decide (a0 ≤ a2))) else (some false)
set_option maxHeartbeats 8000000 in
set_option maxRecDepth 100000 in
theorem impl_in.calls (a0 : Int) (a1 : Int) (a2 : Int) (r : Bool) (w : World) (h : impl_in.f a0 a1 a2 = some r) :
  Calls Try.prog 65 #[.int .i64 a0,.int .i64 a1,.int .i64 a2] w fun e w' => e = .returned (.bool r) ∧ Drawn0 w w':=by
 have H : (if a1 ≤ a0 then (some (decide (a0 ≤ a2))) else (some false)) = some r:=h
 clear h
 by_cases c4 : a1 ≤ a0
 ·rw [if_pos c4] at H
  have c4b0 : decide (a1 ≤ a0) = true:=decide_eq_true c4
  clear c4
  obtain rfl:=Option.some.inj H
  go_enter Try.func65,Try.ntmps65
  go_wp2
  go_ret
  exact ⟨by first | rfl | (simp;done) | (simp [*];done),by repeat (first | exact Drawn0.refl _ | apply Drawn0.step)⟩
 rw [if_neg c4] at H
 have c4b0 : decide (a1 ≤ a0) = false:=decide_eq_false c4
 clear c4
 obtain rfl:=Option.some.inj H
 go_enter Try.func65,Try.ntmps65
 go_wp2
 go_ret
 exact ⟨by first | rfl | (simp;done) | (simp [*];done),by repeat (first | exact Drawn0.refl _ | apply Drawn0.step)⟩
/-! ### impl_entryOk: function 50 -/
def impl_entryOk.f (k : Nat) (a0_0 : ByteArray) (a0_1 : Int) (a0_2 : Bool) (a0_3 : Int) : Option (Bool):=(impl_KeyOk.f k a0_0).bind fun t102 => (if t102 = true then ((impl_in.f a0_1 0 99).bind fun t103 => (if t103 = true then (if a0_2 = true then (if a0_1 = 0 then ((impl_in.f a0_3 1 999).bind fun t104 => (some t104)) else (some false)) else ((impl_in.f a0_3 1 999).bind fun t105 => (some t105))) else (some false))) else (some false))
set_option maxHeartbeats 8000000 in
set_option maxRecDepth 100000 in
theorem impl_entryOk.calls (k : Nat) (a0_0 : ByteArray) (a0_1 : Int) (a0_2 : Bool) (a0_3 : Int) (r : Bool) (w : World) (h : impl_entryOk.f k a0_0 a0_1 a0_2 a0_3 = some r) :
  Calls Try.prog 50 #[.agg #[.string a0_0,.int .i64 a0_1,.bool a0_2,.int .i64 a0_3]] w fun e w' => e = .returned (.bool r) ∧ Below w.heap.size w w':=by
 have hu27:=Try.underlying27
 have HB:=Aside0.mk (Below.refl w.heap.size w)
 have H : ((impl_KeyOk.f k a0_0).bind fun t102 => (if t102 = true then ((impl_in.f a0_1 0 99).bind fun t103 => (if t103 = true then (if a0_2 = true then (if a0_1 = 0 then ((impl_in.f a0_3 1 999).bind fun t104 => (some t104)) else (some false)) else ((impl_in.f a0_3 1 999).bind fun t105 => (some t105))) else (some false))) else (some false))) = some r:=h
 clear h
 replace H:=Option.bind_eq_some_iff.mp H
 obtain ⟨t102,A20,H⟩:=H
 replace H : (if t102 = true then ((impl_in.f a0_1 0 99).bind fun t103 => (if t103 = true then (if a0_2 = true then (if a0_1 = 0 then ((impl_in.f a0_3 1 999).bind fun t104 => (some t104)) else (some false)) else ((impl_in.f a0_3 1 999).bind fun t105 => (some t105))) else (some false))) else (some false)) = some r:=H
 have A2:=Aside0.mk A20
 clear A20
 by_cases c3 : t102 = true
 rotate_left
 ·replace c3:=Bool.eq_false_iff.mpr c3
  subst c3
  have H1 : (some false) = some r:=by rw [if_neg (show ¬ (false = true) by decide)] at H;exact H
  clear H
  have H:=H1
  clear H1
  obtain rfl:=Option.some.inj H
  go_enter Try.func50,Try.ntmps50
  go_wp2_with (first | ((with_reducible refine gate_dst (N:=1) rfl ?_);refine box_event ?hg (N:=1) ?hd (cs:=#[.string a0_0,.int .i64 a0_1,.bool a0_2,.int .i64 a0_3]) (t:=27) ?hr ?_;(case hd => rfl);(case hg => rfl);(case hr => first | (go_simp;done) | (go_simp;rfl));intro gb101 hg w18 hbox hb;have n0_:=Aside0.mk (below_step (by repeat (first | (with_reducible first | exact HB.out | apply below_alloc | apply pw_below_drewN | apply below_drew1) | exact HB.out)) hb);have n1_:=Aside0.mk (hbox);have n2_:=Aside0.mk ((by rw [hg];exact (below_size (by repeat (first | (with_reducible first | exact HB.out | apply below_alloc | apply pw_below_drewN | apply below_drew1) | exact HB.out))) : w.heap.size ≤ gb101));have n3_:=Aside0.mk ((by rw [hg];exact (below_size (by repeat (first | (with_reducible first | exact HB.out | apply below_alloc | apply pw_below_drewN | apply below_drew1) | exact HB.out))) : w.heap.size ≤ gb101));clear HB;have HB:=n0_;have BK101:=n1_;have GW101:=n2_;have GE101:=n3_;clear n0_ n1_ n2_ n3_;clear hb hbox hg;have hcz19_0 : w18.cell? ⟨gb101,0,none⟩ = some (.string a0_0):=(blk_cell BK101.out 0).trans rfl;have hcz19_1 : w18.cell? ⟨gb101,1,none⟩ = some (.int .i64 a0_1):=(blk_cell BK101.out 1).trans rfl;have hcz19_2 : w18.cell? ⟨gb101,2,none⟩ = some (.bool a0_2):=(blk_cell BK101.out 2).trans rfl;have hcz19_3 : w18.cell? ⟨gb101,3,none⟩ = some (.int .i64 a0_3):=(blk_cell BK101.out 3).trans rfl;have hfz19_0:=blk_frozen BK101.out 0;have hfz19_1:=blk_frozen BK101.out 1;have hfz19_2:=blk_frozen BK101.out 2;have hfz19_3:=blk_frozen BK101.out 3) | ((with_reducible refine gate_callee (f:=64) rfl ?_);refine goesL_ (some 5) rfl rfl Try.func64 (by kernel_rfl) rfl #[.string a0_0] rfl T2q2 ?_;(with_reducible refine (impl_KeyOk.calls k a0_0 false _ A2.out).mono ?_);rintro e w' ⟨rfl,⟨nd,rfl⟩⟩;refine ⟨_,rfl,?_⟩))
  go_ret
  exact ⟨by first | rfl | (simp [errW_none,errW_some] <;> rfl) | (simp [*,errW_none,errW_some] <;> rfl),by repeat (first | (with_reducible first | exact HB.out | apply below_alloc | apply pw_below_drewN | apply below_drew1 | refine below_set ?_ GE101.out) | exact HB.out)⟩
 subst c3
 have H1 : ((impl_in.f a0_1 0 99).bind fun t103 => (if t103 = true then (if a0_2 = true then (if a0_1 = 0 then ((impl_in.f a0_3 1 999).bind fun t104 => (some t104)) else (some false)) else ((impl_in.f a0_3 1 999).bind fun t105 => (some t105))) else (some false))) = some r:=by rw [if_pos rfl] at H;exact H
 clear H
 have H:=H1
 clear H1
 replace H:=Option.bind_eq_some_iff.mp H
 obtain ⟨t103,A40,H⟩:=H
 replace H : (if t103 = true then (if a0_2 = true then (if a0_1 = 0 then ((impl_in.f a0_3 1 999).bind fun t104 => (some t104)) else (some false)) else ((impl_in.f a0_3 1 999).bind fun t105 => (some t105))) else (some false)) = some r:=H
 have A4:=Aside0.mk A40
 clear A40
 by_cases c5 : t103 = true
 rotate_left
 ·replace c5:=Bool.eq_false_iff.mpr c5
  subst c5
  have H1 : (some false) = some r:=by rw [if_neg (show ¬ (false = true) by decide)] at H;exact H
  clear H
  have H:=H1
  clear H1
  obtain rfl:=Option.some.inj H
  go_enter Try.func50,Try.ntmps50
  go_wp2_with (first | ((with_reducible refine gate_dst (N:=1) rfl ?_);refine box_event ?hg (N:=1) ?hd (cs:=#[.string a0_0,.int .i64 a0_1,.bool a0_2,.int .i64 a0_3]) (t:=27) ?hr ?_;(case hd => rfl);(case hg => rfl);(case hr => first | (go_simp;done) | (go_simp;rfl));intro gb101 hg w16 hbox hb;have n0_:=Aside0.mk (below_step (by repeat (first | (with_reducible first | exact HB.out | apply below_alloc | apply pw_below_drewN | apply below_drew1) | exact HB.out)) hb);have n1_:=Aside0.mk (hbox);have n2_:=Aside0.mk ((by rw [hg];exact (below_size (by repeat (first | (with_reducible first | exact HB.out | apply below_alloc | apply pw_below_drewN | apply below_drew1) | exact HB.out))) : w.heap.size ≤ gb101));have n3_:=Aside0.mk ((by rw [hg];exact (below_size (by repeat (first | (with_reducible first | exact HB.out | apply below_alloc | apply pw_below_drewN | apply below_drew1) | exact HB.out))) : w.heap.size ≤ gb101));clear HB;have HB:=n0_;have BK101:=n1_;have GW101:=n2_;have GE101:=n3_;clear n0_ n1_ n2_ n3_;clear hb hbox hg;have hcz17_0 : w16.cell? ⟨gb101,0,none⟩ = some (.string a0_0):=(blk_cell BK101.out 0).trans rfl;have hcz17_1 : w16.cell? ⟨gb101,1,none⟩ = some (.int .i64 a0_1):=(blk_cell BK101.out 1).trans rfl;have hcz17_2 : w16.cell? ⟨gb101,2,none⟩ = some (.bool a0_2):=(blk_cell BK101.out 2).trans rfl;have hcz17_3 : w16.cell? ⟨gb101,3,none⟩ = some (.int .i64 a0_3):=(blk_cell BK101.out 3).trans rfl;have hfz17_0:=blk_frozen BK101.out 0;have hfz17_1:=blk_frozen BK101.out 1;have hfz17_2:=blk_frozen BK101.out 2;have hfz17_3:=blk_frozen BK101.out 3) | ((with_reducible refine gate_callee (f:=64) rfl ?_);refine goesL_ (some 5) rfl rfl Try.func64 (by kernel_rfl) rfl #[.string a0_0] rfl T2q2 ?_;(with_reducible refine (impl_KeyOk.calls k a0_0 true _ A2.out).mono ?_);rintro e w' ⟨rfl,⟨nd,rfl⟩⟩;refine ⟨_,rfl,?_⟩) | (go_at_call 65;(with_reducible refine (impl_in.calls a0_1 0 99 false _ A4.out).mono ?_);rintro e w' ⟨rfl,⟨nd,rfl⟩⟩))
  go_ret
  exact ⟨by first | rfl | (simp [errW_none,errW_some] <;> rfl) | (simp [*,errW_none,errW_some] <;> rfl),by repeat (first | (with_reducible first | exact HB.out | apply below_alloc | apply pw_below_drewN | apply below_drew1 | refine below_set ?_ GE101.out) | exact HB.out)⟩
 subst c5
 have H1 : (if a0_2 = true then (if a0_1 = 0 then ((impl_in.f a0_3 1 999).bind fun t104 => (some t104)) else (some false)) else ((impl_in.f a0_3 1 999).bind fun t105 => (some t105))) = some r:=by rw [if_pos rfl] at H;exact H
 clear H
 have H:=H1
 clear H1
 by_cases c6 : a0_2 = true
 rotate_left
 ·replace c6:=Bool.eq_false_iff.mpr c6
  subst c6
  have H1 : ((impl_in.f a0_3 1 999).bind fun t105 => (some t105)) = some r:=by rw [if_neg (show ¬ (false = true) by decide)] at H;exact H
  clear H
  have H:=H1
  clear H1
  replace H:=Option.bind_eq_some_iff.mp H
  obtain ⟨t105,A130,H⟩:=H
  replace H : (some t105) = some r:=H
  have A13:=Aside0.mk A130
  clear A130
  obtain rfl:=Option.some.inj H
  go_enter Try.func50,Try.ntmps50
  go_wp2_with (first | ((with_reducible refine gate_dst (N:=1) rfl ?_);refine box_event ?hg (N:=1) ?hd (cs:=#[.string a0_0,.int .i64 a0_1,.bool false,.int .i64 a0_3]) (t:=27) ?hr ?_;(case hd => rfl);(case hg => rfl);(case hr => first | (go_simp;done) | (go_simp;rfl));intro gb101 hg w14 hbox hb;have n0_:=Aside0.mk (below_step (by repeat (first | (with_reducible first | exact HB.out | apply below_alloc | apply pw_below_drewN | apply below_drew1) | exact HB.out)) hb);have n1_:=Aside0.mk (hbox);have n2_:=Aside0.mk ((by rw [hg];exact (below_size (by repeat (first | (with_reducible first | exact HB.out | apply below_alloc | apply pw_below_drewN | apply below_drew1) | exact HB.out))) : w.heap.size ≤ gb101));have n3_:=Aside0.mk ((by rw [hg];exact (below_size (by repeat (first | (with_reducible first | exact HB.out | apply below_alloc | apply pw_below_drewN | apply below_drew1) | exact HB.out))) : w.heap.size ≤ gb101));clear HB;have HB:=n0_;have BK101:=n1_;have GW101:=n2_;have GE101:=n3_;clear n0_ n1_ n2_ n3_;clear hb hbox hg;have hcz15_0 : w14.cell? ⟨gb101,0,none⟩ = some (.string a0_0):=(blk_cell BK101.out 0).trans rfl;have hcz15_1 : w14.cell? ⟨gb101,1,none⟩ = some (.int .i64 a0_1):=(blk_cell BK101.out 1).trans rfl;have hcz15_2 : w14.cell? ⟨gb101,2,none⟩ = some (.bool false):=(blk_cell BK101.out 2).trans rfl;have hcz15_3 : w14.cell? ⟨gb101,3,none⟩ = some (.int .i64 a0_3):=(blk_cell BK101.out 3).trans rfl;have hfz15_0:=blk_frozen BK101.out 0;have hfz15_1:=blk_frozen BK101.out 1;have hfz15_2:=blk_frozen BK101.out 2;have hfz15_3:=blk_frozen BK101.out 3) | ((with_reducible refine gate_callee (f:=64) rfl ?_);refine goesL_ (some 5) rfl rfl Try.func64 (by kernel_rfl) rfl #[.string a0_0] rfl T2q2 ?_;(with_reducible refine (impl_KeyOk.calls k a0_0 true _ A2.out).mono ?_);rintro e w' ⟨rfl,⟨nd,rfl⟩⟩;refine ⟨_,rfl,?_⟩) | (go_at_call 65;(with_reducible refine (impl_in.calls a0_1 0 99 true _ A4.out).mono ?_);rintro e w' ⟨rfl,⟨nd,rfl⟩⟩) | (go_at_call 65;(with_reducible refine (impl_in.calls a0_3 1 999 t105 _ A13.out).mono ?_);rintro e w' ⟨rfl,⟨nd,rfl⟩⟩))
  go_ret
  exact ⟨by first | rfl | (simp [errW_none,errW_some] <;> rfl) | (simp [*,errW_none,errW_some] <;> rfl),by repeat (first | (with_reducible first | exact HB.out | apply below_alloc | apply pw_below_drewN | apply below_drew1 | refine below_set ?_ GE101.out) | exact HB.out)⟩
 subst c6
 have H1 : (if a0_1 = 0 then ((impl_in.f a0_3 1 999).bind fun t104 => (some t104)) else (some false)) = some r:=by rw [if_pos rfl] at H;exact H
 clear H
 have H:=H1
 clear H1
 by_cases c7 : a0_1 = 0
 rotate_left
 ·rw [if_neg c7] at H
  have c7b0 : (a0_1 == 0) = false:=beq_eq_false_iff_ne.mpr c7
  have c7b1 : (a0_1 != 0) = true:=bne_iff_ne.mpr c7
  obtain rfl:=Option.some.inj H
  go_enter Try.func50,Try.ntmps50
  go_wp2_with (first | ((with_reducible refine gate_dst (N:=1) rfl ?_);refine box_event ?hg (N:=1) ?hd (cs:=#[.string a0_0,.int .i64 a0_1,.bool true,.int .i64 a0_3]) (t:=27) ?hr ?_;(case hd => rfl);(case hg => rfl);(case hr => first | (go_simp;done) | (go_simp;rfl));intro gb101 hg w11 hbox hb;have n0_:=Aside0.mk (below_step (by repeat (first | (with_reducible first | exact HB.out | apply below_alloc | apply pw_below_drewN | apply below_drew1) | exact HB.out)) hb);have n1_:=Aside0.mk (hbox);have n2_:=Aside0.mk ((by rw [hg];exact (below_size (by repeat (first | (with_reducible first | exact HB.out | apply below_alloc | apply pw_below_drewN | apply below_drew1) | exact HB.out))) : w.heap.size ≤ gb101));have n3_:=Aside0.mk ((by rw [hg];exact (below_size (by repeat (first | (with_reducible first | exact HB.out | apply below_alloc | apply pw_below_drewN | apply below_drew1) | exact HB.out))) : w.heap.size ≤ gb101));clear HB;have HB:=n0_;have BK101:=n1_;have GW101:=n2_;have GE101:=n3_;clear n0_ n1_ n2_ n3_;clear hb hbox hg;have hcz12_0 : w11.cell? ⟨gb101,0,none⟩ = some (.string a0_0):=(blk_cell BK101.out 0).trans rfl;have hcz12_1 : w11.cell? ⟨gb101,1,none⟩ = some (.int .i64 a0_1):=(blk_cell BK101.out 1).trans rfl;have hcz12_2 : w11.cell? ⟨gb101,2,none⟩ = some (.bool true):=(blk_cell BK101.out 2).trans rfl;have hcz12_3 : w11.cell? ⟨gb101,3,none⟩ = some (.int .i64 a0_3):=(blk_cell BK101.out 3).trans rfl;have hfz12_0:=blk_frozen BK101.out 0;have hfz12_1:=blk_frozen BK101.out 1;have hfz12_2:=blk_frozen BK101.out 2;have hfz12_3:=blk_frozen BK101.out 3) | ((with_reducible refine gate_callee (f:=64) rfl ?_);refine goesL_ (some 5) rfl rfl Try.func64 (by kernel_rfl) rfl #[.string a0_0] rfl T2q2 ?_;(with_reducible refine (impl_KeyOk.calls k a0_0 true _ A2.out).mono ?_);rintro e w' ⟨rfl,⟨nd,rfl⟩⟩;refine ⟨_,rfl,?_⟩) | (go_at_call 65;(with_reducible refine (impl_in.calls a0_1 0 99 true _ A4.out).mono ?_);rintro e w' ⟨rfl,⟨nd,rfl⟩⟩))
  go_ret
  exact ⟨by first | rfl | (simp [errW_none,errW_some] <;> rfl) | (simp [*,errW_none,errW_some] <;> rfl),by repeat (first | (with_reducible first | exact HB.out | apply below_alloc | apply pw_below_drewN | apply below_drew1 | refine below_set ?_ GE101.out) | exact HB.out)⟩
 rw [if_pos c7] at H
 have c7b0 : (a0_1 == 0) = true:=beq_iff_eq.mpr c7
 have c7b1 : (a0_1 != 0) = false:=bne_eq_false_iff_eq.mpr c7
 clear c7
 replace H:=Option.bind_eq_some_iff.mp H
 obtain ⟨t104,A80,H⟩:=H
 replace H : (some t104) = some r:=H
 have A8:=Aside0.mk A80
 clear A80
 obtain rfl:=Option.some.inj H
 go_enter Try.func50,Try.ntmps50
 go_wp2_with (first | ((with_reducible refine gate_dst (N:=1) rfl ?_);refine box_event ?hg (N:=1) ?hd (cs:=#[.string a0_0,.int .i64 a0_1,.bool true,.int .i64 a0_3]) (t:=27) ?hr ?_;(case hd => rfl);(case hg => rfl);(case hr => first | (go_simp;done) | (go_simp;rfl));intro gb101 hg w9 hbox hb;have n0_:=Aside0.mk (below_step (by repeat (first | (with_reducible first | exact HB.out | apply below_alloc | apply pw_below_drewN | apply below_drew1) | exact HB.out)) hb);have n1_:=Aside0.mk (hbox);have n2_:=Aside0.mk ((by rw [hg];exact (below_size (by repeat (first | (with_reducible first | exact HB.out | apply below_alloc | apply pw_below_drewN | apply below_drew1) | exact HB.out))) : w.heap.size ≤ gb101));have n3_:=Aside0.mk ((by rw [hg];exact (below_size (by repeat (first | (with_reducible first | exact HB.out | apply below_alloc | apply pw_below_drewN | apply below_drew1) | exact HB.out))) : w.heap.size ≤ gb101));clear HB;have HB:=n0_;have BK101:=n1_;have GW101:=n2_;have GE101:=n3_;clear n0_ n1_ n2_ n3_;clear hb hbox hg;have hcz10_0 : w9.cell? ⟨gb101,0,none⟩ = some (.string a0_0):=(blk_cell BK101.out 0).trans rfl;have hcz10_1 : w9.cell? ⟨gb101,1,none⟩ = some (.int .i64 a0_1):=(blk_cell BK101.out 1).trans rfl;have hcz10_2 : w9.cell? ⟨gb101,2,none⟩ = some (.bool true):=(blk_cell BK101.out 2).trans rfl;have hcz10_3 : w9.cell? ⟨gb101,3,none⟩ = some (.int .i64 a0_3):=(blk_cell BK101.out 3).trans rfl;have hfz10_0:=blk_frozen BK101.out 0;have hfz10_1:=blk_frozen BK101.out 1;have hfz10_2:=blk_frozen BK101.out 2;have hfz10_3:=blk_frozen BK101.out 3) | ((with_reducible refine gate_callee (f:=64) rfl ?_);refine goesL_ (some 5) rfl rfl Try.func64 (by kernel_rfl) rfl #[.string a0_0] rfl T2q2 ?_;(with_reducible refine (impl_KeyOk.calls k a0_0 true _ A2.out).mono ?_);rintro e w' ⟨rfl,⟨nd,rfl⟩⟩;refine ⟨_,rfl,?_⟩) | (go_at_call 65;(with_reducible refine (impl_in.calls a0_1 0 99 true _ A4.out).mono ?_);rintro e w' ⟨rfl,⟨nd,rfl⟩⟩) | (go_at_call 65;(with_reducible refine (impl_in.calls a0_3 1 999 t104 _ A8.out).mono ?_);rintro e w' ⟨rfl,⟨nd,rfl⟩⟩))
 go_ret
 exact ⟨by first | rfl | (simp [errW_none,errW_some] <;> rfl) | (simp [*,errW_none,errW_some] <;> rfl),by repeat (first | (with_reducible first | exact HB.out | apply below_alloc | apply pw_below_drewN | apply below_drew1 | refine below_set ?_ GE101.out) | exact HB.out)⟩
/-! ### impl_before: function 51 -/
def impl_before.f (a0_0 : ByteArray) (a0_1 : Int) (a0_2 : Bool) (a0_3 : Int) (a1_0 : ByteArray) (a1_1 : Int) (a1_2 : Bool) (a1_3 : Int) : Option (Bool):=if (Op.bytesLess a0_0.toList a1_0.toList) = true then (some true) else (if a0_0.toList = a1_0.toList then (some (decide (a0_3 > a1_3))) else (some false))
set_option maxHeartbeats 8000000 in
set_option maxRecDepth 100000 in
theorem impl_before.calls (a0_0 : ByteArray) (a0_1 : Int) (a0_2 : Bool) (a0_3 : Int) (a1_0 : ByteArray) (a1_1 : Int) (a1_2 : Bool) (a1_3 : Int) (r : Bool) (w : World) (h : impl_before.f a0_0 a0_1 a0_2 a0_3 a1_0 a1_1 a1_2 a1_3 = some r) :
  Calls Try.prog 51 #[.agg #[.string a0_0,.int .i64 a0_1,.bool a0_2,.int .i64 a0_3],.agg #[.string a1_0,.int .i64 a1_1,.bool a1_2,.int .i64 a1_3]] w fun e w' => e = .returned (.bool r) ∧ Below w.heap.size w w':=by
 have hu27:=Try.underlying27
 have HB:=Aside0.mk (Below.refl w.heap.size w)
 have H : (if (Op.bytesLess a0_0.toList a1_0.toList) = true then (some true) else (if a0_0.toList = a1_0.toList then (some (decide (a0_3 > a1_3))) else (some false))) = some r:=h
 clear h
 by_cases c3 : (Op.bytesLess a0_0.toList a1_0.toList) = true
 ·rw [if_pos c3] at H
  have c3b0 : (Op.bytesLess a0_0.toList a1_0.toList) = true:=c3
  clear c3
  obtain rfl:=Option.some.inj H
  go_enter Try.func51,Try.ntmps51
  go_wp2_with (first | ((with_reducible refine gate_dst (N:=2) rfl ?_);refine box_event ?hg (N:=2) ?hd (cs:=#[.string a0_0,.int .i64 a0_1,.bool a0_2,.int .i64 a0_3]) (t:=27) ?hr ?_;(case hd => rfl);(case hg => rfl);(case hr => first | (go_simp;done) | (go_simp;rfl));intro gb106 hg w4 hbox hb;have n0_:=Aside0.mk (below_step (by repeat (first | (with_reducible first | exact HB.out | apply below_alloc | apply pw_below_drewN | apply below_drew1) | exact HB.out)) hb);have n1_:=Aside0.mk (hbox);have n2_:=Aside0.mk ((by rw [hg];exact (below_size (by repeat (first | (with_reducible first | exact HB.out | apply below_alloc | apply pw_below_drewN | apply below_drew1) | exact HB.out))) : w.heap.size ≤ gb106));have n3_:=Aside0.mk ((by rw [hg];exact (below_size (by repeat (first | (with_reducible first | exact HB.out | apply below_alloc | apply pw_below_drewN | apply below_drew1) | exact HB.out))) : w.heap.size ≤ gb106));clear HB;have HB:=n0_;have BK106:=n1_;have GW106:=n2_;have GE106:=n3_;clear n0_ n1_ n2_ n3_;clear hb hbox hg) | ((with_reducible refine gate_dst (N:=3) rfl ?_);refine box_event ?hg (N:=3) ?hd (cs:=#[.string a1_0,.int .i64 a1_1,.bool a1_2,.int .i64 a1_3]) (t:=27) ?hr ?_;(case hd => rfl);(case hg => rfl);(case hr => first | (go_simp;done) | (go_simp;rfl));intro gb107 hg w5 hbox hb;have n0_:=Aside0.mk (blk_below (g:=gb106) (o:=.cells #[.string a0_0,.int .i64 a0_1,.bool a0_2,.int .i64 a0_3] 27 (0,0)) T2q3 hb);have n1_:=Aside0.mk (below_step (by repeat (first | (with_reducible first | exact HB.out | apply below_alloc | apply pw_below_drewN | apply below_drew1 | refine below_set ?_ GE106.out) | exact HB.out)) hb);have n2_:=Aside0.mk (hbox);have n3_:=Aside0.mk ((by rw [hg];exact (below_size (by repeat (first | (with_reducible first | exact HB.out | apply below_alloc | apply pw_below_drewN | apply below_drew1 | refine below_set ?_ GE106.out) | exact HB.out))) : w.heap.size ≤ gb107));have n4_:=Aside0.mk ((by rw [hg];exact (below_size (by repeat (first | (with_reducible first | exact HB.out | apply below_alloc | apply pw_below_drewN | apply below_drew1 | refine below_set ?_ GE106.out) | exact HB.out))) : w.heap.size ≤ gb107));have n5_:=Aside0.mk ((by rw [hg];exact Nat.ne_of_lt (blk_lt (g:=gb106) (o:=.cells #[.string a0_0,.int .i64 a0_1,.bool a0_2,.int .i64 a0_3] 27 (0,0)) T2q3) : gb106 ≠ gb107));have n6_:=Aside0.mk ((by rw [hg];exact Nat.ne_of_gt (blk_lt (g:=gb106) (o:=.cells #[.string a0_0,.int .i64 a0_1,.bool a0_2,.int .i64 a0_3] 27 (0,0)) T2q3) : gb107 ≠ gb106));clear BK106;clear HB;have BK106:=n0_;have HB:=n1_;have BK107:=n2_;have GW107:=n3_;have GE107:=n4_;have NB106_107:=n5_;have NB107_106:=n6_;clear n0_ n1_ n2_ n3_ n4_ n5_ n6_;clear hb hbox hg;have hnb6:=NB106_107.out;have hnc6:=NB107_106.out;have hcz7_0 : w5.cell? ⟨gb106,0,none⟩ = some (.string a0_0):=(blk_cell BK106.out 0).trans rfl;have hcz7_1 : w5.cell? ⟨gb106,1,none⟩ = some (.int .i64 a0_1):=(blk_cell BK106.out 1).trans rfl;have hcz7_2 : w5.cell? ⟨gb106,2,none⟩ = some (.bool a0_2):=(blk_cell BK106.out 2).trans rfl;have hcz7_3 : w5.cell? ⟨gb106,3,none⟩ = some (.int .i64 a0_3):=(blk_cell BK106.out 3).trans rfl;have hfz7_0:=blk_frozen BK106.out 0;have hfz7_1:=blk_frozen BK106.out 1;have hfz7_2:=blk_frozen BK106.out 2;have hfz7_3:=blk_frozen BK106.out 3;have hcz8_0 : w5.cell? ⟨gb107,0,none⟩ = some (.string a1_0):=(blk_cell BK107.out 0).trans rfl;have hcz8_1 : w5.cell? ⟨gb107,1,none⟩ = some (.int .i64 a1_1):=(blk_cell BK107.out 1).trans rfl;have hcz8_2 : w5.cell? ⟨gb107,2,none⟩ = some (.bool a1_2):=(blk_cell BK107.out 2).trans rfl;have hcz8_3 : w5.cell? ⟨gb107,3,none⟩ = some (.int .i64 a1_3):=(blk_cell BK107.out 3).trans rfl;have hfz8_0:=blk_frozen BK107.out 0;have hfz8_1:=blk_frozen BK107.out 1;have hfz8_2:=blk_frozen BK107.out 2;have hfz8_3:=blk_frozen BK107.out 3))
  go_ret
  exact ⟨by first | rfl | (simp [errW_none,errW_some] <;> rfl) | (simp [*,errW_none,errW_some] <;> rfl),by repeat (first | (with_reducible first | exact HB.out | apply below_alloc | apply pw_below_drewN | apply below_drew1 | refine below_set ?_ GE106.out | refine below_set ?_ GE107.out) | exact HB.out)⟩
 rw [if_neg c3] at H
 have c3b0 : (Op.bytesLess a0_0.toList a1_0.toList) = false:=by simpa using c3
 clear c3
 by_cases c9 : a0_0.toList = a1_0.toList
 rotate_left
 ·rw [if_neg c9] at H
  have c9b0 : (a0_0.toList == a1_0.toList) = false:=beq_eq_false_iff_ne.mpr c9
  have c9b1 : (a0_0.toList != a1_0.toList) = true:=bne_iff_ne.mpr c9
  obtain rfl:=Option.some.inj H
  go_enter Try.func51,Try.ntmps51
  go_wp2_with (first | ((with_reducible refine gate_dst (N:=2) rfl ?_);refine box_event ?hg (N:=2) ?hd (cs:=#[.string a0_0,.int .i64 a0_1,.bool a0_2,.int .i64 a0_3]) (t:=27) ?hr ?_;(case hd => rfl);(case hg => rfl);(case hr => first | (go_simp;done) | (go_simp;rfl));intro gb106 hg w15 hbox hb;have n0_:=Aside0.mk (below_step (by repeat (first | (with_reducible first | exact HB.out | apply below_alloc | apply pw_below_drewN | apply below_drew1) | exact HB.out)) hb);have n1_:=Aside0.mk (hbox);have n2_:=Aside0.mk ((by rw [hg];exact (below_size (by repeat (first | (with_reducible first | exact HB.out | apply below_alloc | apply pw_below_drewN | apply below_drew1) | exact HB.out))) : w.heap.size ≤ gb106));have n3_:=Aside0.mk ((by rw [hg];exact (below_size (by repeat (first | (with_reducible first | exact HB.out | apply below_alloc | apply pw_below_drewN | apply below_drew1) | exact HB.out))) : w.heap.size ≤ gb106));clear HB;have HB:=n0_;have BK106:=n1_;have GW106:=n2_;have GE106:=n3_;clear n0_ n1_ n2_ n3_;clear hb hbox hg) | ((with_reducible refine gate_dst (N:=3) rfl ?_);refine box_event ?hg (N:=3) ?hd (cs:=#[.string a1_0,.int .i64 a1_1,.bool a1_2,.int .i64 a1_3]) (t:=27) ?hr ?_;(case hd => rfl);(case hg => rfl);(case hr => first | (go_simp;done) | (go_simp;rfl));intro gb107 hg w16 hbox hb;have n0_:=Aside0.mk (blk_below (g:=gb106) (o:=.cells #[.string a0_0,.int .i64 a0_1,.bool a0_2,.int .i64 a0_3] 27 (0,0)) T2q3 hb);have n1_:=Aside0.mk (below_step (by repeat (first | (with_reducible first | exact HB.out | apply below_alloc | apply pw_below_drewN | apply below_drew1 | refine below_set ?_ GE106.out) | exact HB.out)) hb);have n2_:=Aside0.mk (hbox);have n3_:=Aside0.mk ((by rw [hg];exact (below_size (by repeat (first | (with_reducible first | exact HB.out | apply below_alloc | apply pw_below_drewN | apply below_drew1 | refine below_set ?_ GE106.out) | exact HB.out))) : w.heap.size ≤ gb107));have n4_:=Aside0.mk ((by rw [hg];exact (below_size (by repeat (first | (with_reducible first | exact HB.out | apply below_alloc | apply pw_below_drewN | apply below_drew1 | refine below_set ?_ GE106.out) | exact HB.out))) : w.heap.size ≤ gb107));have n5_:=Aside0.mk ((by rw [hg];exact Nat.ne_of_lt (blk_lt (g:=gb106) (o:=.cells #[.string a0_0,.int .i64 a0_1,.bool a0_2,.int .i64 a0_3] 27 (0,0)) T2q3) : gb106 ≠ gb107));have n6_:=Aside0.mk ((by rw [hg];exact Nat.ne_of_gt (blk_lt (g:=gb106) (o:=.cells #[.string a0_0,.int .i64 a0_1,.bool a0_2,.int .i64 a0_3] 27 (0,0)) T2q3) : gb107 ≠ gb106));clear BK106;clear HB;have BK106:=n0_;have HB:=n1_;have BK107:=n2_;have GW107:=n3_;have GE107:=n4_;have NB106_107:=n5_;have NB107_106:=n6_;clear n0_ n1_ n2_ n3_ n4_ n5_ n6_;clear hb hbox hg;have hnb17:=NB106_107.out;have hnc17:=NB107_106.out;have hcz18_0 : w16.cell? ⟨gb106,0,none⟩ = some (.string a0_0):=(blk_cell BK106.out 0).trans rfl;have hcz18_1 : w16.cell? ⟨gb106,1,none⟩ = some (.int .i64 a0_1):=(blk_cell BK106.out 1).trans rfl;have hcz18_2 : w16.cell? ⟨gb106,2,none⟩ = some (.bool a0_2):=(blk_cell BK106.out 2).trans rfl;have hcz18_3 : w16.cell? ⟨gb106,3,none⟩ = some (.int .i64 a0_3):=(blk_cell BK106.out 3).trans rfl;have hfz18_0:=blk_frozen BK106.out 0;have hfz18_1:=blk_frozen BK106.out 1;have hfz18_2:=blk_frozen BK106.out 2;have hfz18_3:=blk_frozen BK106.out 3;have hcz19_0 : w16.cell? ⟨gb107,0,none⟩ = some (.string a1_0):=(blk_cell BK107.out 0).trans rfl;have hcz19_1 : w16.cell? ⟨gb107,1,none⟩ = some (.int .i64 a1_1):=(blk_cell BK107.out 1).trans rfl;have hcz19_2 : w16.cell? ⟨gb107,2,none⟩ = some (.bool a1_2):=(blk_cell BK107.out 2).trans rfl;have hcz19_3 : w16.cell? ⟨gb107,3,none⟩ = some (.int .i64 a1_3):=(blk_cell BK107.out 3).trans rfl;have hfz19_0:=blk_frozen BK107.out 0;have hfz19_1:=blk_frozen BK107.out 1;have hfz19_2:=blk_frozen BK107.out 2;have hfz19_3:=blk_frozen BK107.out 3))
  go_ret
  exact ⟨by first | rfl | (simp [errW_none,errW_some] <;> rfl) | (simp [*,errW_none,errW_some] <;> rfl),by repeat (first | (with_reducible first | exact HB.out | apply below_alloc | apply pw_below_drewN | apply below_drew1 | refine below_set ?_ GE106.out | refine below_set ?_ GE107.out) | exact HB.out)⟩
 rw [if_pos c9] at H
 have c9b0 : (a0_0.toList == a1_0.toList) = true:=beq_iff_eq.mpr c9
 have c9b1 : (a0_0.toList != a1_0.toList) = false:=bne_eq_false_iff_eq.mpr c9
 clear c9
 obtain rfl:=Option.some.inj H
 go_enter Try.func51,Try.ntmps51
 go_wp2_with (first | ((with_reducible refine gate_dst (N:=2) rfl ?_);refine box_event ?hg (N:=2) ?hd (cs:=#[.string a0_0,.int .i64 a0_1,.bool a0_2,.int .i64 a0_3]) (t:=27) ?hr ?_;(case hd => rfl);(case hg => rfl);(case hr => first | (go_simp;done) | (go_simp;rfl));intro gb106 hg w10 hbox hb;have n0_:=Aside0.mk (below_step (by repeat (first | (with_reducible first | exact HB.out | apply below_alloc | apply pw_below_drewN | apply below_drew1) | exact HB.out)) hb);have n1_:=Aside0.mk (hbox);have n2_:=Aside0.mk ((by rw [hg];exact (below_size (by repeat (first | (with_reducible first | exact HB.out | apply below_alloc | apply pw_below_drewN | apply below_drew1) | exact HB.out))) : w.heap.size ≤ gb106));have n3_:=Aside0.mk ((by rw [hg];exact (below_size (by repeat (first | (with_reducible first | exact HB.out | apply below_alloc | apply pw_below_drewN | apply below_drew1) | exact HB.out))) : w.heap.size ≤ gb106));clear HB;have HB:=n0_;have BK106:=n1_;have GW106:=n2_;have GE106:=n3_;clear n0_ n1_ n2_ n3_;clear hb hbox hg) | ((with_reducible refine gate_dst (N:=3) rfl ?_);refine box_event ?hg (N:=3) ?hd (cs:=#[.string a1_0,.int .i64 a1_1,.bool a1_2,.int .i64 a1_3]) (t:=27) ?hr ?_;(case hd => rfl);(case hg => rfl);(case hr => first | (go_simp;done) | (go_simp;rfl));intro gb107 hg w11 hbox hb;have n0_:=Aside0.mk (blk_below (g:=gb106) (o:=.cells #[.string a0_0,.int .i64 a0_1,.bool a0_2,.int .i64 a0_3] 27 (0,0)) T2q3 hb);have n1_:=Aside0.mk (below_step (by repeat (first | (with_reducible first | exact HB.out | apply below_alloc | apply pw_below_drewN | apply below_drew1 | refine below_set ?_ GE106.out) | exact HB.out)) hb);have n2_:=Aside0.mk (hbox);have n3_:=Aside0.mk ((by rw [hg];exact (below_size (by repeat (first | (with_reducible first | exact HB.out | apply below_alloc | apply pw_below_drewN | apply below_drew1 | refine below_set ?_ GE106.out) | exact HB.out))) : w.heap.size ≤ gb107));have n4_:=Aside0.mk ((by rw [hg];exact (below_size (by repeat (first | (with_reducible first | exact HB.out | apply below_alloc | apply pw_below_drewN | apply below_drew1 | refine below_set ?_ GE106.out) | exact HB.out))) : w.heap.size ≤ gb107));have n5_:=Aside0.mk ((by rw [hg];exact Nat.ne_of_lt (blk_lt (g:=gb106) (o:=.cells #[.string a0_0,.int .i64 a0_1,.bool a0_2,.int .i64 a0_3] 27 (0,0)) T2q3) : gb106 ≠ gb107));have n6_:=Aside0.mk ((by rw [hg];exact Nat.ne_of_gt (blk_lt (g:=gb106) (o:=.cells #[.string a0_0,.int .i64 a0_1,.bool a0_2,.int .i64 a0_3] 27 (0,0)) T2q3) : gb107 ≠ gb106));clear BK106;clear HB;have BK106:=n0_;have HB:=n1_;have BK107:=n2_;have GW107:=n3_;have GE107:=n4_;have NB106_107:=n5_;have NB107_106:=n6_;clear n0_ n1_ n2_ n3_ n4_ n5_ n6_;clear hb hbox hg;have hnb12:=NB106_107.out;have hnc12:=NB107_106.out;have hcz13_0 : w11.cell? ⟨gb106,0,none⟩ = some (.string a0_0):=(blk_cell BK106.out 0).trans rfl;have hcz13_1 : w11.cell? ⟨gb106,1,none⟩ = some (.int .i64 a0_1):=(blk_cell BK106.out 1).trans rfl;have hcz13_2 : w11.cell? ⟨gb106,2,none⟩ = some (.bool a0_2):=(blk_cell BK106.out 2).trans rfl;have hcz13_3 : w11.cell? ⟨gb106,3,none⟩ = some (.int .i64 a0_3):=(blk_cell BK106.out 3).trans rfl;have hfz13_0:=blk_frozen BK106.out 0;have hfz13_1:=blk_frozen BK106.out 1;have hfz13_2:=blk_frozen BK106.out 2;have hfz13_3:=blk_frozen BK106.out 3;have hcz14_0 : w11.cell? ⟨gb107,0,none⟩ = some (.string a1_0):=(blk_cell BK107.out 0).trans rfl;have hcz14_1 : w11.cell? ⟨gb107,1,none⟩ = some (.int .i64 a1_1):=(blk_cell BK107.out 1).trans rfl;have hcz14_2 : w11.cell? ⟨gb107,2,none⟩ = some (.bool a1_2):=(blk_cell BK107.out 2).trans rfl;have hcz14_3 : w11.cell? ⟨gb107,3,none⟩ = some (.int .i64 a1_3):=(blk_cell BK107.out 3).trans rfl;have hfz14_0:=blk_frozen BK107.out 0;have hfz14_1:=blk_frozen BK107.out 1;have hfz14_2:=blk_frozen BK107.out 2;have hfz14_3:=blk_frozen BK107.out 3))
 go_ret
 exact ⟨by first | rfl | (simp [errW_none,errW_some] <;> rfl) | (simp [*,errW_none,errW_some] <;> rfl),by repeat (first | (with_reducible first | exact HB.out | apply below_alloc | apply pw_below_drewN | apply below_drew1 | refine below_set ?_ GE106.out | refine below_set ?_ GE107.out) | exact HB.out)⟩
end Go.Proofs.Ytkifijclehgiaaa.PFnRunTrimTop
