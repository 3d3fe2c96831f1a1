/-
 Functions that FnRunTrimTop reaches,each as a Lean function,and that Go comes to its answer: printed by the kit's printer,impl.seen's part laid by hand. Conditions: those that stand in each statement.
-/
import Derived.Test.YtkifijclehgiaaaPFnRunTrimTopx0
import Derived.Test.YtkifijclehgiaaaPFnRunTrimTopx1
import Derived.Test.YtkifijclehgiaaaPFnRunTrimTopx4
import Derived.Test.YtkifijclehgiaaaPFnRunTrimTopx5
import Derived.Test.YtkifijclehgiaaaPFnRunTrimTopx6
import Derived.Test.YtkifijclehgiaaaPFnRunTrimTopx10
import Derived.Test.YtkifijclehgiaaaPFnRunTrimTopx11
import Derived.Test.YtkifijclehgiaaaPFnRunTrimTopx13
import Derived.Test.YtkifijclehgiaaaPu
namespace Go.Proofs.Ytkifijclehgiaaa.PFnRunTrimTop
open Go.RowKit Go.Proofs.YtkifijclehgiaaaW.PrintWords Go.Proofs.YtkifijclehgiaaaW.PrintLast Go.Proofs.YtkifijclehgiaaaW.PrintMore
attribute [local go_sem] max2_int min2_int max_two min_two max_three min_three max_four min_four   -- for this text's walks alone
set_option linter.unusedVariables false
set_option linter.unusedSimpArgs false

attribute [local go_sem high] eqA27
theorem T14q1 {p : Prop} (h : p := by kernel_rfl) : p := h
theorem T14q2 {p : Prop} (h : p := by (try simp only [List.map_toArray,List.map_cons,List.map_nil]);first | done | rfl | (simp only [List.length_drop,List.length_take];rfl)) : p := h
theorem T14q3 {p : Prop} (h : p := by (with_reducible repeat (first | apply Kd.R_alloc | apply Kd.R_drewN | apply Kd.R_drew));exact HO411.out) : p := h
theorem T14q4 {p : Prop} (h : p := by (with_reducible repeat (first | apply Kd.R_alloc | apply Kd.R_drewN | apply Kd.R_drew));exact HO413.out) : p := h
theorem T14q5 {p : Prop} (h : p := by (with_reducible repeat (first | apply Kd.R_alloc | apply Kd.R_drewN | apply Kd.R_drew));exact HO416.out) : p := h
theorem T14q6 {p : Prop} (h : p := by (with_reducible repeat (first | apply Kd.R_alloc | apply Kd.R_drewN | apply Kd.R_drew));exact HO_3.out) : p := h
theorem T14q7 {p : Prop} (h : p := by (with_reducible repeat (first | apply Kd.R_alloc | apply Kd.R_drewN | apply Kd.R_drew));exact HO_4.out) : p := h
theorem T14q8 {p : Prop} (h : p := by (with_reducible repeat (first | apply Kd.R_alloc | apply Kd.R_drewN | apply Kd.R_drew));exact HO_6.out) : p := h
theorem T14q9 {p : Prop} (h : p := by (with_reducible repeat (first | apply Kd.R_alloc | apply Kd.R_drewN | apply Kd.R_drew));exact HO_7.out) : p := h
theorem T14q10 {p : Prop} (h : p := by (with_reducible repeat (first | apply Kd.R_alloc | apply Kd.R_drewN | apply Kd.R_drew));exact HO_8.out) : p := h
theorem T14q11 {p : Prop} (h : p := by (with_reducible repeat (first | apply Kd.R_alloc | apply Kd.R_drewN | apply Kd.R_drew));exact Kd.R_mono HO_3.out (fun _ hk => ⟨hk.1.1,⟨hk.1.2,hk.2⟩⟩)) : p := h
theorem T14q12 {p : Prop} (h : p := by (with_reducible repeat (first | apply Kd.R_alloc | apply Kd.R_drewN | apply Kd.R_drew));exact Kd.R_mono HO_6.out (fun _ hk => ⟨hk.1.1,⟨hk.1.2,hk.2⟩⟩)) : p := h
theorem T14q13 {p : Prop} (h : p := by (with_reducible repeat (first | apply Kd.R_alloc | apply Kd.R_drewN | apply Kd.R_drew));exact Kd.R_mono HO_7.out (fun _ hk => ⟨hk.1.1,⟨hk.1.2,hk.2⟩⟩)) : p := h
theorem T14q14 {p : Prop} (h : p := by (with_reducible repeat (first | apply Kd.R_alloc | apply Kd.R_drewN | apply Kd.R_drew));exact Kd.R_mono HO_3.out (fun _ hk => ⟨hk.1.1,⟨hk.1.2.1,⟨hk.1.2.2,hk.2⟩⟩⟩)) : p := h
theorem T14q15 {p : Prop} (h : p := by (with_reducible repeat (first | apply Kd.R_alloc | apply Kd.R_drewN | apply Kd.R_drew));exact Kd.R_mono HO_6.out (fun _ hk => ⟨hk.1.1,⟨hk.1.2.1,⟨hk.1.2.2,hk.2⟩⟩⟩)) : p := h
theorem T14q16 {p : Prop} (h : p := by (with_reducible repeat (first | apply Kd.R_alloc | apply Kd.R_drewN | apply Kd.R_drew));exact Kd.R_mono HO_7.out (fun _ hk => ⟨hk.1.1,⟨hk.1.2.1,⟨hk.1.2.2,hk.2⟩⟩⟩)) : p := h
/-! ### laws_FnRunTrimTop: function 10 -/
mutual
def laws_FnRunTrimTop.j0 : Nat → List (S27) → List Int → Bool → List (S27) → Bool → Option (Bool)
 | 0,_,_,_,_,_ => none
 | k + 1,x3,x4,x5,x6,x39 => if x39 = true then ((spec_RunTrim.f k x3 x4 x5).bind fun t422 => ((laws_ltRuns.f k x6 t422).bind fun t425 => (some t425))) else ((impl_RunTrim.f k x3 x4 false).bind fun t426 => ((impl_RunKeys.f k x3).bind fun t429 => (laws_FnRunTrimTop.l0 k x3 x4 x6 t426 t429 0)))
def laws_FnRunTrimTop.l0 : Nat → List (S27) → List Int → List (S27) → List (S27) → List ByteArray → Int → Option (Bool)
 | 0,_,_,_,_,_,_ => none
 | k + 1,x3,x4,x6,x7,x8,x9 => if x9 < (x8.length : Int) then (laws_FnRunTrimTop.l1 k x3 x4 x6 x7 x8 x9 0) else ((impl_RunKeys.f k x7).bind fun t432 => ((laws_ltSames.f k t432 x8).bind fun t435 => (if t435 = true then (some (decide ((x6.length : Int) ≤ (x7.length : Int)))) else (some false))))
def laws_FnRunTrimTop.l1 : Nat → List (S27) → List Int → List (S27) → List (S27) → List ByteArray → Int → Int → Option (Bool)
 | 0,_,_,_,_,_,_,_ => none
 | k + 1,x3,x4,x6,x7,x8,x9,x10 => if x10 < (x4.length : Int) then (if 0 ≤ x9 then (if x9 < (x8.length : Int) then (if 0 ≤ x10 then ((impl_RunAt.f k x3 (rdOf ByteArray.empty x8 x9) (rd x4 x10)).bind fun bt438 => ((impl_RunAt.f k x7 (rdOf ByteArray.empty x8 x9) (rd x4 x10)).bind fun bt446 => (if (bt438.2.2.2.2 != bt446.2.2.2.2) = true then (some false) else (if (!(bt438.1.toList == bt446.1.toList) || (!(bt438.2.1 == bt446.2.1) || (!(bt438.2.2.1 == bt446.2.2.1) || (!(bt438.2.2.2.1 == bt446.2.2.2.1))))) = true then (some false) else (laws_FnRunTrimTop.l1 k x3 x4 x6 x7 x8 x9 (wrap64 (x10 + 1))))))) else (none)) else (none)) else (none)) else (laws_FnRunTrimTop.l0 k x3 x4 x6 x7 x8 (wrap64 (x9 + 1)))
end
def laws_FnRunTrimTop.f (k : Nat) (l0 : List Int) : Option (Bool):=if (l0.length : Int) > 1048576 then (some true) else ((spec_DrawRunTrim.f k l0).bind fun bt407 => ((impl_RunTrim.f k bt407.1 bt407.2.1 bt407.2.2).bind fun t414 => ((spec_RunTrim.f k bt407.1 bt407.2.1 bt407.2.2).bind fun t417 => ((laws_ltRuns.f k t414 t417).bind fun t420 => (if t420 = true then ((spec_RunOk.f k bt407.1).bind fun t421 => (laws_FnRunTrimTop.j0 k bt407.1 bt407.2.1 bt407.2.2 t414 (!t421))) else (laws_FnRunTrimTop.j0 k bt407.1 bt407.2.1 bt407.2.2 t414 true))))))
def laws_FnRunTrimTop.T15 : Bool × List (List Nat × List Nat):=(true,[([],[]),([],[]),([],[]),([1,2],[1,2]),([3],[3]),([],[]),([],[]),([5,6],[5,6]),([7],[7]),([0,4,8],[0,4,8]),([9],[9]),([10],[10]),([10],[10]),([],[]),([13,11,9,0,1,2,3,4,5,6,7,8,9,10,11,13],[11,13]),([12,14,0,1,2,3,4,5,6,7,8,9,10,11,12,13,14],[12])])
def laws_FnRunTrimTop.B15 : List Nat:=[0,0,0,6,14,0,0,96,224,511,1023,2047,2047,0,12287,32767]
theorem laws_FnRunTrimTop.tab15 : rtab .any (opsOf Try.f10 15) = laws_FnRunTrimTop.T15:=by kernel_rfl
theorem laws_FnRunTrimTop.bits15 : waitsOk laws_FnRunTrimTop.T15.2 laws_FnRunTrimTop.B15 = true:=by kernel_rfl
def laws_FnRunTrimTop.T16 : Bool × List (List Nat × List Nat):=(true,[([],[]),([],[]),([],[]),([1,2],[1,2]),([3],[3]),([],[]),([],[]),([5,6],[5,6]),([7],[7]),([0,4,8],[0,4,8]),([9],[9]),([10],[10]),([10],[10]),([],[]),([13,11,9,0,1,2,3,4,5,6,7,8,9,10,11,13],[11,13]),([12,14,0,1,2,3,4,5,6,7,8,9,10,11,12,13,14],[12])])
def laws_FnRunTrimTop.B16 : List Nat:=[0,0,0,6,14,0,0,96,224,511,1023,2047,2047,0,12287,32767]
theorem laws_FnRunTrimTop.tab16 : rtab .any (opsOf Try.f10 16) = laws_FnRunTrimTop.T16:=by kernel_rfl
theorem laws_FnRunTrimTop.bits16 : waitsOk laws_FnRunTrimTop.T16.2 laws_FnRunTrimTop.B16 = true:=by kernel_rfl
set_option maxHeartbeats 8000000 in
set_option maxRecDepth 100000 in
theorem laws_FnRunTrimTop.calls (k : Nat) (A0 : Option Addr) (c0 : Nat) (l0 : List Int) (r : Bool) (w : World) (hr0 : Kd.C (Kd.int .u8) w A0 l0.length l0) (hc0 : l0.length ≤ c0) (h : laws_FnRunTrimTop.f k l0 = some r) :
  Calls Try.prog 10 #[.slice A0 l0.length c0] w fun e w' => e = .returned (.bool r) ∧ Below w.heap.size w w':=by
 have hu27:=Try.underlying27
 have HR0:=Aside0.mk hr0
 have HC0:=Aside0.mk hc0
 clear hr0 hc0
 have HB:=Aside0.mk (Below.refl w.heap.size w)
 have H : (if (l0.length : Int) > 1048576 then (some true) else ((spec_DrawRunTrim.f k l0).bind fun bt407 => ((impl_RunTrim.f k bt407.1 bt407.2.1 bt407.2.2).bind fun t414 => ((spec_RunTrim.f k bt407.1 bt407.2.1 bt407.2.2).bind fun t417 => ((laws_ltRuns.f k t414 t417).bind fun t420 => (if t420 = true then ((spec_RunOk.f k bt407.1).bind fun t421 => (laws_FnRunTrimTop.j0 k bt407.1 bt407.2.1 bt407.2.2 t414 (!t421))) else (laws_FnRunTrimTop.j0 k bt407.1 bt407.2.1 bt407.2.2 t414 true))))))) = some r:=h
 clear h
 by_cases c2 : (l0.length : Int) > 1048576
 ·rw [if_pos c2] at H
  have c2b0 : decide (1048576 < (l0.length : Int)) = true:=decide_eq_true c2
  have c2b1 : decide (1048576 < l0.length) = true:=decide_eq_true (by omega)
  clear c2
  obtain rfl:=Option.some.inj H
  go_enter Try.func10,Try.ntmps10
  go_wp2
  go_ret
  exact ⟨by first | rfl | (simp [errW_none,errW_some] <;> rfl) | (simp [*,errW_none,errW_some] <;> rfl),by repeat (first | (with_reducible first | exact HB.out | apply below_alloc | apply pw_below_drewN | apply below_drew1) | exact HB.out)⟩
 rw [if_neg c2] at H
 have c2b0 : decide (1048576 < (l0.length : Int)) = false:=decide_eq_false c2
 have c2b1 : decide (1048576 < l0.length) = false:=decide_eq_false (by omega)
 clear c2
 replace H:=Option.bind_eq_some_iff.mp H
 obtain ⟨⟨t407,t408,t409⟩,A30,H⟩:=H
 replace H : ((impl_RunTrim.f k t407 t408 t409).bind fun t414 => ((spec_RunTrim.f k t407 t408 t409).bind fun t417 => ((laws_ltRuns.f k t414 t417).bind fun t420 => (if t420 = true then ((spec_RunOk.f k t407).bind fun t421 => (laws_FnRunTrimTop.j0 k t407 t408 t409 t414 (!t421))) else (laws_FnRunTrimTop.j0 k t407 t408 t409 t414 true))))) = some r:=H
 have A3:=Aside0.mk A30
 clear A30
 replace H:=Option.bind_eq_some_iff.mp H
 obtain ⟨t414,A40,H⟩:=H
 replace H : ((spec_RunTrim.f k t407 t408 t409).bind fun t417 => ((laws_ltRuns.f k t414 t417).bind fun t420 => (if t420 = true then ((spec_RunOk.f k t407).bind fun t421 => (laws_FnRunTrimTop.j0 k t407 t408 t409 t414 (!t421))) else (laws_FnRunTrimTop.j0 k t407 t408 t409 t414 true)))) = some r:=H
 have A4:=Aside0.mk A40
 clear A40
 have HC5:=Aside0.mk H
 clear H
 go_enter Try.func10,Try.ntmps10
 go_upto_region 5 with (first | ((with_reducible refine gate_callee (f:=25) rfl ?_);refine goesL_ (some 20) rfl rfl Try.func25 T14q1 rfl #[.slice A0 l0.length c0] rfl T14q2 ?_;(with_reducible refine (spec_DrawRunTrim.calls k _ _ l0 t407 t408 t409 _ ?side1 ?side2 A3.out).mono ?_);(case side1 => repeat (first | exact HR0.out | (with_reducible refine Kd.C_alloc ?_ _) | (with_reducible refine Kd.C_drewN ?_ _) | (with_reducible refine Kd.C_drew ?_)));(case side2 => exact HC0.out);rintro e w6 ⟨v410,v412,rfl,ho0,ho1,hb⟩;refine ⟨_,rfl,?_⟩;have n0_:=Aside0.mk (Kd.R_lower ho0 (below_size (by repeat (first | (with_reducible first | exact HB.out | apply below_alloc | apply pw_below_drewN | apply below_drew1) | exact HB.out))));have n1_:=Aside0.mk (Kd.R_lower ho1 (below_size (by repeat (first | (with_reducible first | exact HB.out | apply below_alloc | apply pw_below_drewN | apply below_drew1) | exact HB.out))));have n2_:=Aside0.mk (below_step (by repeat (first | (with_reducible first | exact HB.out | apply below_alloc | apply pw_below_drewN | apply below_drew1) | exact HB.out)) hb);clear HB;have HO411:=n0_;have HO413:=n1_;have HB:=n2_;clear n0_ n1_ n2_;(try clear hb);(try clear hb2);(try clear hk);(try clear hi);(try clear ho0);(try clear ho1);obtain ⟨Ao7,co7,eo7⟩:=Kd.R_slice HO411.out;subst eo7;obtain ⟨Ao8,co8,eo8⟩:=Kd.R_slice HO413.out;subst eo8) | ((with_reducible refine gate_callee (f:=26) rfl ?_);refine goesL_ (some 27) rfl rfl Try.func26 T14q1 rfl #[.slice Ao7 t407.length co7,.slice Ao8 t408.length co8,.bool t409] rfl T14q2 ?_;(with_reducible refine (impl_RunTrim.calls k _ _ t407 _ _ t408 t409 t414 _ ?side1 ?side2 ?side3 ?side4 A4.out).mono ?_);(case side1 => repeat (first | exact (Kd.R_reads' HO411.out).2.2 | (with_reducible refine Kd.C_alloc ?_ _) | (with_reducible refine Kd.C_drewN ?_ _) | (with_reducible refine Kd.C_drew ?_)));(case side2 => exact (Kd.R_reads' HO411.out).2.1);(case side3 => repeat (first | exact (Kd.R_reads' HO413.out).2.2 | (with_reducible refine Kd.C_alloc ?_ _) | (with_reducible refine Kd.C_drewN ?_ _) | (with_reducible refine Kd.C_drew ?_)));(case side4 => exact (Kd.R_reads' HO413.out).2.1);rintro e w9 ⟨v415,rfl,ho0,hb⟩;refine ⟨_,rfl,?_⟩;have n0_:=Aside0.mk (Kd.R_elder' T14q3 (Kd.R_base ho0) hb);have n1_:=Aside0.mk (Kd.R_below T14q4 hb);have n2_:=Aside0.mk (Kd.R_lower (Kd.R_new' ho0 (Kd.R_lt T14q3)) (below_size (by repeat (first | (with_reducible first | exact HB.out | apply below_alloc | apply pw_below_drewN | apply below_drew1) | exact HB.out))));have n3_:=Aside0.mk (below_step (by repeat (first | (with_reducible first | exact HB.out | apply below_alloc | apply pw_below_drewN | apply below_drew1) | exact HB.out)) hb);clear HO411;clear HO413;clear HB;have HO411:=n0_;have HO413:=n1_;have HO416:=n2_;have HB:=n3_;clear n0_ n1_ n2_ n3_;(try clear hb);(try clear hb2);(try clear hk);(try clear hi);(try clear ho0)))
 (try simp only [Act.put,List.setIfInBounds_toArray,List.set_cons_zero,List.set_cons_succ])
 go_cut [39] (fun v39 wc => ∃ (kq : Nat) (x39_4 : Bool),v39 = .bool x39_4 ∧ Aside0 (laws_FnRunTrimTop.j0 kq t407 t408 t409 t414 x39_4 = some r) ∧ Aside0 (kq ≤ k) ∧ Aside0 (Kd.R k27 27 wc w.heap.size (fun k_ => some k_ ≠ (v415 : Value).ownBlock) (.slice Ao7 t407.length co7) t407) ∧ Aside0 (Kd.R (Kd.int .i64) 3 wc w.heap.size (fun _ => True) (.slice Ao8 t408.length co8) t408) ∧ Aside0 (Kd.R k27 27 wc w.heap.size (fun k_ => some k_ ≠ ((.slice Ao7 t407.length co7) : Value).ownBlock) v415 t414) ∧ Aside0 (Below w.heap.size w wc))
 case first =>
  have H:=HC5.out
  clear HC5
  replace H:=Option.bind_eq_some_iff.mp H
  obtain ⟨t417,A100,H⟩:=H
  replace H : ((laws_ltRuns.f k t414 t417).bind fun t420 => (if t420 = true then ((spec_RunOk.f k t407).bind fun t421 => (laws_FnRunTrimTop.j0 k t407 t408 t409 t414 (!t421))) else (laws_FnRunTrimTop.j0 k t407 t408 t409 t414 true))) = some r:=H
  have A10:=Aside0.mk A100
  clear A100
  replace H:=Option.bind_eq_some_iff.mp H
  obtain ⟨t420,A110,H⟩:=H
  replace H : (if t420 = true then ((spec_RunOk.f k t407).bind fun t421 => (laws_FnRunTrimTop.j0 k t407 t408 t409 t414 (!t421))) else (laws_FnRunTrimTop.j0 k t407 t408 t409 t414 true)) = some r:=H
  have A11:=Aside0.mk A110
  clear A110
  by_cases c12 : t420 = true
  rotate_left
  ·replace c12:=Bool.eq_false_iff.mpr c12
   subst c12
   have H1 : (laws_FnRunTrimTop.j0 k t407 t408 t409 t414 true) = some r:=by rw [if_neg (show ¬ (false = true) by decide)] at H;exact H
   clear H
   have H:=H1
   clear H1
   have H':=Aside0.mk H
   clear H
   go_wp2_with (first | ((with_reducible refine gate_callee (f:=27) rfl ?_);refine goesL_ (some 32) rfl rfl Try.func27 T14q1 rfl #[.slice Ao7 t407.length co7,.slice Ao8 t408.length co8,.bool t409] rfl T14q2 ?_;(with_reducible refine (spec_RunTrim.calls k _ _ t407 _ _ t408 t409 t417 _ ?side1 ?side2 ?side3 ?side4 A10.out).mono ?_);(case side1 => repeat (first | exact (Kd.R_reads' HO411.out).2.2 | (with_reducible refine Kd.C_alloc ?_ _) | (with_reducible refine Kd.C_drewN ?_ _) | (with_reducible refine Kd.C_drew ?_)));(case side2 => exact (Kd.R_reads' HO411.out).2.1);(case side3 => repeat (first | exact (Kd.R_reads' HO413.out).2.2 | (with_reducible refine Kd.C_alloc ?_ _) | (with_reducible refine Kd.C_drewN ?_ _) | (with_reducible refine Kd.C_drew ?_)));(case side4 => exact (Kd.R_reads' HO413.out).2.1);rintro e w18 ⟨v418,rfl,ho0,hb⟩;refine ⟨_,rfl,?_⟩;have n0_:=Aside0.mk (Kd.R_elder' T14q3 (Kd.R_base ho0) hb);have n1_:=Aside0.mk (Kd.R_below T14q4 hb);have n2_:=Aside0.mk (Kd.R_elder' T14q5 (Kd.R_base ho0) hb);have n3_:=Aside0.mk (Kd.R_lower (Kd.R_new' (Kd.R_new' ho0 (Kd.R_lt T14q3)) (Kd.R_lt T14q5)) (below_size (by repeat (first | (with_reducible first | exact HB.out | apply below_alloc | apply pw_below_drewN | apply below_drew1) | exact HB.out))));have n4_:=Aside0.mk (below_step (by repeat (first | (with_reducible first | exact HB.out | apply below_alloc | apply pw_below_drewN | apply below_drew1) | exact HB.out)) hb);clear HO411;clear HO413;clear HO416;clear HB;have HO411:=n0_;have HO413:=n1_;have HO416:=n2_;have HO419:=n3_;have HB:=n4_;clear n0_ n1_ n2_ n3_ n4_;(try clear hb);(try clear hb2);(try clear hk);(try clear hi);(try clear ho0);obtain ⟨Ao19,co19,eo19⟩:=Kd.R_slice HO416.out;subst eo19;obtain ⟨Ao20,co20,eo20⟩:=Kd.R_slice HO419.out;subst eo20) | ((with_reducible refine gate_callee (f:=21) rfl ?_);refine goesL_ (some 33) rfl rfl Try.func21 T14q1 rfl #[.slice Ao19 t414.length co19,.slice Ao20 t417.length co20] rfl T14q2 ?_;(with_reducible refine (laws_ltRuns.calls k _ _ t414 _ _ t417 false _ ?side1 ?side2 ?side3 ?side4 A11.out).mono ?_);(case side1 => repeat (first | exact (Kd.R_reads' HO416.out).2.2 | (with_reducible refine Kd.C_alloc ?_ _) | (with_reducible refine Kd.C_drewN ?_ _) | (with_reducible refine Kd.C_drew ?_)));(case side2 => exact (Kd.R_reads' HO416.out).2.1);(case side3 => repeat (first | exact (Kd.R_reads' HO419.out).2.2 | (with_reducible refine Kd.C_alloc ?_ _) | (with_reducible refine Kd.C_drewN ?_ _) | (with_reducible refine Kd.C_drew ?_)));(case side4 => exact (Kd.R_reads' HO419.out).2.1);rintro e w' ⟨rfl,⟨nd,rfl⟩⟩;refine ⟨_,rfl,?_⟩))
   go_meet
   case rel => exact ⟨_,(true),(by first | rfl | (simp;done) | (simp [*];done)),H',⟨by first | omega | exact Nat.le_refl _⟩,⟨by (with_reducible repeat (first | apply Kd.R_alloc | apply Kd.R_drewN | apply Kd.R_drew));exact Kd.R_mono HO411.out (fun _ hk => hk.1.2)⟩,⟨by (with_reducible repeat (first | apply Kd.R_alloc | apply Kd.R_drewN | apply Kd.R_drew));exact HO413.out⟩,⟨by (with_reducible repeat (first | apply Kd.R_alloc | apply Kd.R_drewN | apply Kd.R_drew));exact Kd.R_mono HO416.out (fun _ hk => hk.1.2)⟩,⟨by repeat (first | (with_reducible first | exact HB.out | apply below_alloc | apply pw_below_drewN | apply below_drew1) | exact HB.out)⟩⟩
  subst c12
  have H1 : ((spec_RunOk.f k t407).bind fun t421 => (laws_FnRunTrimTop.j0 k t407 t408 t409 t414 (!t421))) = some r:=by rw [if_pos rfl] at H;exact H
  clear H
  have H:=H1
  clear H1
  replace H:=Option.bind_eq_some_iff.mp H
  obtain ⟨t421,A130,H⟩:=H
  replace H : (laws_FnRunTrimTop.j0 k t407 t408 t409 t414 (!t421)) = some r:=H
  have A13:=Aside0.mk A130
  clear A130
  have H':=Aside0.mk H
  clear H
  go_wp2_with (first | ((with_reducible refine gate_callee (f:=27) rfl ?_);refine goesL_ (some 32) rfl rfl Try.func27 T14q1 rfl #[.slice Ao7 t407.length co7,.slice Ao8 t408.length co8,.bool t409] rfl T14q2 ?_;(with_reducible refine (spec_RunTrim.calls k _ _ t407 _ _ t408 t409 t417 _ ?side1 ?side2 ?side3 ?side4 A10.out).mono ?_);(case side1 => repeat (first | exact (Kd.R_reads' HO411.out).2.2 | (with_reducible refine Kd.C_alloc ?_ _) | (with_reducible refine Kd.C_drewN ?_ _) | (with_reducible refine Kd.C_drew ?_)));(case side2 => exact (Kd.R_reads' HO411.out).2.1);(case side3 => repeat (first | exact (Kd.R_reads' HO413.out).2.2 | (with_reducible refine Kd.C_alloc ?_ _) | (with_reducible refine Kd.C_drewN ?_ _) | (with_reducible refine Kd.C_drew ?_)));(case side4 => exact (Kd.R_reads' HO413.out).2.1);rintro e w14 ⟨v418,rfl,ho0,hb⟩;refine ⟨_,rfl,?_⟩;have n0_:=Aside0.mk (Kd.R_elder' T14q3 (Kd.R_base ho0) hb);have n1_:=Aside0.mk (Kd.R_below T14q4 hb);have n2_:=Aside0.mk (Kd.R_elder' T14q5 (Kd.R_base ho0) hb);have n3_:=Aside0.mk (Kd.R_lower (Kd.R_new' (Kd.R_new' ho0 (Kd.R_lt T14q3)) (Kd.R_lt T14q5)) (below_size (by repeat (first | (with_reducible first | exact HB.out | apply below_alloc | apply pw_below_drewN | apply below_drew1) | exact HB.out))));have n4_:=Aside0.mk (below_step (by repeat (first | (with_reducible first | exact HB.out | apply below_alloc | apply pw_below_drewN | apply below_drew1) | exact HB.out)) hb);clear HO411;clear HO413;clear HO416;clear HB;have HO411:=n0_;have HO413:=n1_;have HO416:=n2_;have HO419:=n3_;have HB:=n4_;clear n0_ n1_ n2_ n3_ n4_;(try clear hb);(try clear hb2);(try clear hk);(try clear hi);(try clear ho0);obtain ⟨Ao15,co15,eo15⟩:=Kd.R_slice HO416.out;subst eo15;obtain ⟨Ao16,co16,eo16⟩:=Kd.R_slice HO419.out;subst eo16) | ((with_reducible refine gate_callee (f:=21) rfl ?_);refine goesL_ (some 33) rfl rfl Try.func21 T14q1 rfl #[.slice Ao15 t414.length co15,.slice Ao16 t417.length co16] rfl T14q2 ?_;(with_reducible refine (laws_ltRuns.calls k _ _ t414 _ _ t417 true _ ?side1 ?side2 ?side3 ?side4 A11.out).mono ?_);(case side1 => repeat (first | exact (Kd.R_reads' HO416.out).2.2 | (with_reducible refine Kd.C_alloc ?_ _) | (with_reducible refine Kd.C_drewN ?_ _) | (with_reducible refine Kd.C_drew ?_)));(case side2 => exact (Kd.R_reads' HO416.out).2.1);(case side3 => repeat (first | exact (Kd.R_reads' HO419.out).2.2 | (with_reducible refine Kd.C_alloc ?_ _) | (with_reducible refine Kd.C_drewN ?_ _) | (with_reducible refine Kd.C_drew ?_)));(case side4 => exact (Kd.R_reads' HO419.out).2.1);rintro e w' ⟨rfl,⟨nd,rfl⟩⟩;refine ⟨_,rfl,?_⟩) | (go_at_call 18;(with_reducible refine (spec_RunOk.calls k _ _ t407 t421 _ ?side1 ?side2 A13.out).mono ?_);(case side1 => repeat (first | exact (Kd.R_reads' HO411.out).2.2 | (with_reducible refine Kd.C_alloc ?_ _) | (with_reducible refine Kd.C_drewN ?_ _) | (with_reducible refine Kd.C_drew ?_)));(case side2 => exact (Kd.R_reads' HO411.out).2.1);rintro e w17 ⟨rfl,hb⟩;have n0_:=Aside0.mk (Kd.R_below T14q3 hb);have n1_:=Aside0.mk (Kd.R_below T14q4 hb);have n2_:=Aside0.mk (Kd.R_below T14q5 hb);have n3_:=Aside0.mk (Kd.R_below (by (with_reducible repeat (first | apply Kd.R_alloc | apply Kd.R_drewN | apply Kd.R_drew));exact HO419.out) hb);have n4_:=Aside0.mk (below_step (by repeat (first | (with_reducible first | exact HB.out | apply below_alloc | apply pw_below_drewN | apply below_drew1) | exact HB.out)) hb);clear HO411;clear HO413;clear HO416;clear HO419;clear HB;have HO411:=n0_;have HO413:=n1_;have HO416:=n2_;have HO419:=n3_;have HB:=n4_;clear n0_ n1_ n2_ n3_ n4_;(try clear hb);(try clear hb2);(try clear hk);(try clear hi)))
  go_meet
  case rel => exact ⟨_,(!t421),(by first | rfl | (simp;done) | (simp [*];done)),H',⟨by first | omega | exact Nat.le_refl _⟩,⟨by (with_reducible repeat (first | apply Kd.R_alloc | apply Kd.R_drewN | apply Kd.R_drew));exact Kd.R_mono HO411.out (fun _ hk => hk.1.2)⟩,⟨by (with_reducible repeat (first | apply Kd.R_alloc | apply Kd.R_drewN | apply Kd.R_drew));exact HO413.out⟩,⟨by (with_reducible repeat (first | apply Kd.R_alloc | apply Kd.R_drewN | apply Kd.R_drew));exact Kd.R_mono HO416.out (fun _ hk => hk.1.2)⟩,⟨by repeat (first | (with_reducible first | exact HB.out | apply below_alloc | apply pw_below_drewN | apply below_drew1) | exact HB.out)⟩⟩
 case rest =>
  clear HC5
  try clear c1
  try clear c2
  try clear c2b0
  try clear c2b1
  try clear p2
  try clear c10
  try clear c12
  obtain ⟨kq,x39_4,rfl,HA,HJ4,HO_3,HO_4,HO_6,HB⟩:=hcut
  cases kq with
  | zero => exact absurd HA.out (by simp [laws_FnRunTrimTop.j0])
  | succ kj4 =>
   have H:=HA.out
   clear HA
   simp only [laws_FnRunTrimTop.j0] at H
   by_cases c21 : x39_4 = true
   ·subst c21
    have H1 : ((spec_RunTrim.f kj4 t407 t408 t409).bind fun t422 => ((laws_ltRuns.f kj4 t414 t422).bind fun t425 => (some t425))) = some r:=by rw [if_pos rfl] at H;exact H
    clear H
    have H:=H1
    clear H1
    replace H:=Option.bind_eq_some_iff.mp H
    obtain ⟨t422,A220,H⟩:=H
    replace H : ((laws_ltRuns.f kj4 t414 t422).bind fun t425 => (some t425)) = some r:=H
    have A22:=Aside0.mk A220
    clear A220
    replace H:=Option.bind_eq_some_iff.mp H
    obtain ⟨t425,A230,H⟩:=H
    replace H : (some t425) = some r:=H
    have A23:=Aside0.mk A230
    clear A230
    obtain rfl:=Option.some.inj H
    go_wp2_with (first | ((with_reducible refine gate_callee (f:=27) rfl ?_);refine goesL_ (some 44) rfl rfl Try.func27 T14q1 rfl #[.slice Ao7 t407.length co7,.slice Ao8 t408.length co8,.bool t409] rfl T14q2 ?_;(with_reducible refine (spec_RunTrim.calls kj4 _ _ t407 _ _ t408 t409 t422 _ ?side1 ?side2 ?side3 ?side4 A22.out).mono ?_);(case side1 => repeat (first | exact (Kd.R_reads' HO_3.out).2.2 | (with_reducible refine Kd.C_alloc ?_ _) | (with_reducible refine Kd.C_drewN ?_ _) | (with_reducible refine Kd.C_drew ?_)));(case side2 => exact (Kd.R_reads' HO_3.out).2.1);(case side3 => repeat (first | exact (Kd.R_reads' HO_4.out).2.2 | (with_reducible refine Kd.C_alloc ?_ _) | (with_reducible refine Kd.C_drewN ?_ _) | (with_reducible refine Kd.C_drew ?_)));(case side4 => exact (Kd.R_reads' HO_4.out).2.1);rintro e w24 ⟨v423,rfl,ho0,hb⟩;refine ⟨_,rfl,?_⟩;have n0_:=Aside0.mk (Kd.R_elder' T14q6 (Kd.R_base ho0) hb);have n1_:=Aside0.mk (Kd.R_below T14q7 hb);have n2_:=Aside0.mk (Kd.R_elder' T14q8 (Kd.R_base ho0) hb);have n3_:=Aside0.mk (Kd.R_lower (Kd.R_new' (Kd.R_new' ho0 (Kd.R_lt T14q6)) (Kd.R_lt T14q8)) (below_size (by repeat (first | (with_reducible first | exact HB.out | apply below_alloc | apply pw_below_drewN | apply below_drew1) | exact HB.out))));have n4_:=Aside0.mk (below_step (by repeat (first | (with_reducible first | exact HB.out | apply below_alloc | apply pw_below_drewN | apply below_drew1) | exact HB.out)) hb);clear HO_3;clear HO_4;clear HO_6;clear HB;have HO_3:=n0_;have HO_4:=n1_;have HO_6:=n2_;have HO424:=n3_;have HB:=n4_;clear n0_ n1_ n2_ n3_ n4_;(try clear hb);(try clear hb2);(try clear hk);(try clear hi);(try clear ho0);obtain ⟨Ao25,co25,eo25⟩:=Kd.R_slice HO_6.out;subst eo25;obtain ⟨Ao26,co26,eo26⟩:=Kd.R_slice HO424.out;subst eo26) | ((with_reducible refine gate_callee (f:=21) rfl ?_);refine goesL_ (some 45) rfl rfl Try.func21 T14q1 rfl #[.slice Ao25 t414.length co25,.slice Ao26 t422.length co26] rfl T14q2 ?_;(with_reducible refine (laws_ltRuns.calls kj4 _ _ t414 _ _ t422 t425 _ ?side1 ?side2 ?side3 ?side4 A23.out).mono ?_);(case side1 => repeat (first | exact (Kd.R_reads' HO_6.out).2.2 | (with_reducible refine Kd.C_alloc ?_ _) | (with_reducible refine Kd.C_drewN ?_ _) | (with_reducible refine Kd.C_drew ?_)));(case side2 => exact (Kd.R_reads' HO_6.out).2.1);(case side3 => repeat (first | exact (Kd.R_reads' HO424.out).2.2 | (with_reducible refine Kd.C_alloc ?_ _) | (with_reducible refine Kd.C_drewN ?_ _) | (with_reducible refine Kd.C_drew ?_)));(case side4 => exact (Kd.R_reads' HO424.out).2.1);rintro e w' ⟨rfl,⟨nd,rfl⟩⟩;refine ⟨_,rfl,?_⟩))
    go_ret
    exact ⟨by first | rfl | (simp [errW_none,errW_some] <;> rfl) | (simp [*,errW_none,errW_some] <;> rfl),by repeat (first | (with_reducible first | exact HB.out | apply below_alloc | apply pw_below_drewN | apply below_drew1) | exact HB.out)⟩
   replace c21:=Bool.eq_false_iff.mpr c21
   subst c21
   have H1 : ((impl_RunTrim.f kj4 t407 t408 false).bind fun t426 => ((impl_RunKeys.f kj4 t407).bind fun t429 => (laws_FnRunTrimTop.l0 kj4 t407 t408 t414 t426 t429 0))) = some r:=by rw [if_neg (show ¬ (false = true) by decide)] at H;exact H
   clear H
   have H:=H1
   clear H1
   replace H:=Option.bind_eq_some_iff.mp H
   obtain ⟨t426,A270,H⟩:=H
   replace H : ((impl_RunKeys.f kj4 t407).bind fun t429 => (laws_FnRunTrimTop.l0 kj4 t407 t408 t414 t426 t429 0)) = some r:=H
   have A27:=Aside0.mk A270
   clear A270
   replace H:=Option.bind_eq_some_iff.mp H
   obtain ⟨t429,A280,H⟩:=H
   replace H : (laws_FnRunTrimTop.l0 kj4 t407 t408 t414 t426 t429 0) = some r:=H
   have A28:=Aside0.mk A280
   clear A280
   have H':=Aside0.mk H
   clear H
   go_wp2_with (first | ((with_reducible refine gate_callee (f:=26) rfl ?_);refine goesL_ (some 48) rfl rfl Try.func26 T14q1 rfl #[.slice Ao7 t407.length co7,.slice Ao8 t408.length co8,.bool false] rfl T14q2 ?_;(with_reducible refine (impl_RunTrim.calls kj4 _ _ t407 _ _ t408 false t426 _ ?side1 ?side2 ?side3 ?side4 A27.out).mono ?_);(case side1 => repeat (first | exact (Kd.R_reads' HO_3.out).2.2 | (with_reducible refine Kd.C_alloc ?_ _) | (with_reducible refine Kd.C_drewN ?_ _) | (with_reducible refine Kd.C_drew ?_)));(case side2 => exact (Kd.R_reads' HO_3.out).2.1);(case side3 => repeat (first | exact (Kd.R_reads' HO_4.out).2.2 | (with_reducible refine Kd.C_alloc ?_ _) | (with_reducible refine Kd.C_drewN ?_ _) | (with_reducible refine Kd.C_drew ?_)));(case side4 => exact (Kd.R_reads' HO_4.out).2.1);rintro e w29 ⟨v427,rfl,ho0,hb⟩;refine ⟨_,rfl,?_⟩;have n0_:=Aside0.mk (Kd.R_elder' T14q6 (Kd.R_base ho0) hb);have n1_:=Aside0.mk (Kd.R_below T14q7 hb);have n2_:=Aside0.mk (Kd.R_elder' T14q8 (Kd.R_base ho0) hb);have n3_:=Aside0.mk (Kd.R_lower (Kd.R_new' (Kd.R_new' ho0 (Kd.R_lt T14q6)) (Kd.R_lt T14q8)) (below_size (by repeat (first | (with_reducible first | exact HB.out | apply below_alloc | apply pw_below_drewN | apply below_drew1) | exact HB.out))));have n4_:=Aside0.mk (below_step (by repeat (first | (with_reducible first | exact HB.out | apply below_alloc | apply pw_below_drewN | apply below_drew1) | exact HB.out)) hb);clear HO_3;clear HO_4;clear HO_6;clear HB;have HO_3:=n0_;have HO_4:=n1_;have HO_6:=n2_;have HO428:=n3_;have HB:=n4_;clear n0_ n1_ n2_ n3_ n4_;(try clear hb);(try clear hb2);(try clear hk);(try clear hi);(try clear ho0)) | ((with_reducible refine gate_callee (f:=24) rfl ?_);refine goesL_ (some 50) rfl rfl Try.func24 T14q1 rfl #[.slice Ao7 t407.length co7] rfl T14q2 ?_;(with_reducible refine (impl_RunKeys.calls kj4 _ _ t407 t429 _ ?side1 ?side2 A28.out).mono ?_);(case side1 => repeat (first | exact (Kd.R_reads' HO_3.out).2.2 | (with_reducible refine Kd.C_alloc ?_ _) | (with_reducible refine Kd.C_drewN ?_ _) | (with_reducible refine Kd.C_drew ?_)));(case side2 => exact (Kd.R_reads' HO_3.out).2.1);rintro e w30 ⟨v430,rfl,ho0,hb⟩;refine ⟨_,rfl,?_⟩;have n0_:=Aside0.mk (Kd.R_below T14q6 hb);have n1_:=Aside0.mk (Kd.R_below T14q7 hb);have n2_:=Aside0.mk (Kd.R_below T14q8 hb);have n3_:=Aside0.mk (Kd.R_below (by (with_reducible repeat (first | apply Kd.R_alloc | apply Kd.R_drewN | apply Kd.R_drew));exact HO428.out) hb);have n4_:=Aside0.mk (Kd.R_lower ho0 (below_size (by repeat (first | (with_reducible first | exact HB.out | apply below_alloc | apply pw_below_drewN | apply below_drew1) | exact HB.out))));have n5_:=Aside0.mk (below_step (by repeat (first | (with_reducible first | exact HB.out | apply below_alloc | apply pw_below_drewN | apply below_drew1) | exact HB.out)) hb);clear HO_3;clear HO_4;clear HO_6;clear HO428;clear HB;have HO_3:=n0_;have HO_4:=n1_;have HO_6:=n2_;have HO428:=n3_;have HO431:=n4_;have HB:=n5_;clear n0_ n1_ n2_ n3_ n4_ n5_;(try clear hb);(try clear hb2);(try clear hk);(try clear hi);(try clear ho0)))
   go_loopg [9] kj4 (fun kq v9 w' => ∃ (x9_2 : Int),v9 = .int .i64 x9_2 ∧ Aside0 (laws_FnRunTrimTop.l0 kq t407 t408 t414 t426 t429 x9_2 = some r) ∧ Aside0 (kq ≤ kj4) ∧ Aside0 (Kd.R k27 27 w' w.heap.size (fun k_ => some k_ ≠ (v415 : Value).ownBlock ∧ some k_ ≠ (v427 : Value).ownBlock) (.slice Ao7 t407.length co7) t407) ∧ Aside0 (Kd.R (Kd.int .i64) 3 w' w.heap.size (fun _ => True) (.slice Ao8 t408.length co8) t408) ∧ Aside0 (Kd.R k27 27 w' w.heap.size (fun k_ => some k_ ≠ ((.slice Ao7 t407.length co7) : Value).ownBlock ∧ some k_ ≠ (v427 : Value).ownBlock) v415 t414) ∧ Aside0 (Kd.R k27 27 w' w.heap.size (fun k_ => some k_ ≠ ((.slice Ao7 t407.length co7) : Value).ownBlock ∧ some k_ ≠ (v415 : Value).ownBlock) v427 t426) ∧ Aside0 (Kd.R Kd.string 9 w' w.heap.size (fun _ => True) v430 t429) ∧ Aside0 (Below w.heap.size w w'))
   case atStart => exact ⟨(0),(by first | rfl | (simp;done) | (simp [*];done)),H',⟨Nat.le_refl _⟩,⟨by (with_reducible repeat (first | apply Kd.R_alloc | apply Kd.R_drewN | apply Kd.R_drew));exact HO_3.out⟩,⟨by (with_reducible repeat (first | apply Kd.R_alloc | apply Kd.R_drewN | apply Kd.R_drew));exact HO_4.out⟩,⟨by (with_reducible repeat (first | apply Kd.R_alloc | apply Kd.R_drewN | apply Kd.R_drew));exact HO_6.out⟩,⟨by (with_reducible repeat (first | apply Kd.R_alloc | apply Kd.R_drewN | apply Kd.R_drew));exact Kd.R_mono HO428.out (fun _ hk => ⟨hk.1.2,hk.2⟩)⟩,⟨by (with_reducible repeat (first | apply Kd.R_alloc | apply Kd.R_drewN | apply Kd.R_drew));exact HO431.out⟩,⟨by repeat (first | (with_reducible first | exact HB.out | apply below_alloc | apply pw_below_drewN | apply below_drew1) | exact HB.out)⟩⟩
   case round =>
    clear H'
    try clear c1
    try clear c2
    try clear c2b0
    try clear c2b1
    try clear p2
    try clear c10
    try clear c12
    try clear c21
    try clear c24
    try clear c25
    try clear c26
    try clear c27
    try clear p2
    obtain ⟨x9_2,rfl,HA,HK2,HO_3,HO_4,HO_6,HO_7,HO_8,HB⟩:=hrel
    cases gk with
    | zero => exact absurd HA.out (by simp [laws_FnRunTrimTop.l0])
    | succ k2 =>
     have H:=HA.out
     clear HA
     simp only [laws_FnRunTrimTop.l0] at H
     by_cases c31 : x9_2 < (t429.length : Int)
     rotate_left
     ·rw [if_neg c31] at H
      have c31b0 : decide (x9_2 < (t429.length : Int)) = false:=decide_eq_false c31
      clear c31
      replace H:=Option.bind_eq_some_iff.mp H
      obtain ⟨t432,A1010,H⟩:=H
      replace H : ((laws_ltSames.f k2 t432 t429).bind fun t435 => (if t435 = true then (some (decide ((t414.length : Int) ≤ (t426.length : Int)))) else (some false))) = some r:=H
      have A101:=Aside0.mk A1010
      clear A1010
      replace H:=Option.bind_eq_some_iff.mp H
      obtain ⟨t435,A1020,H⟩:=H
      replace H : (if t435 = true then (some (decide ((t414.length : Int) ≤ (t426.length : Int)))) else (some false)) = some r:=H
      have A102:=Aside0.mk A1020
      clear A1020
      by_cases c103 : t435 = true
      rotate_left
      ·replace c103:=Bool.eq_false_iff.mpr c103
       subst c103
       have H1 : (some false) = some r:=by rw [if_neg (show ¬ (false = true) by decide)] at H;exact H
       clear H
       have H:=H1
       clear H1
       obtain rfl:=Option.some.inj H
       obtain ⟨Ao109,co109,eo109⟩:=Kd.R_slice HO_8.out
       subst eo109
       obtain ⟨Ao110,co110,eo110⟩:=Kd.R_slice HO_7.out
       subst eo110
       go_wp2_with (first | ((with_reducible refine gate_callee (f:=24) rfl ?_);refine goesL_ (some 98) rfl rfl Try.func24 T14q1 rfl #[.slice Ao110 t426.length co110] rfl T14q2 ?_;(with_reducible refine (impl_RunKeys.calls k2 _ _ t426 t432 _ ?side1 ?side2 A101.out).mono ?_);(case side1 => repeat (first | exact (Kd.R_reads' HO_7.out).2.2 | (with_reducible refine Kd.C_alloc ?_ _) | (with_reducible refine Kd.C_drewN ?_ _) | (with_reducible refine Kd.C_drew ?_)));(case side2 => exact (Kd.R_reads' HO_7.out).2.1);rintro e w111 ⟨v433,rfl,ho0,hb⟩;refine ⟨_,rfl,?_⟩;have n0_:=Aside0.mk (Kd.R_below T14q6 hb);have n1_:=Aside0.mk (Kd.R_below T14q7 hb);have n2_:=Aside0.mk (Kd.R_below T14q8 hb);have n3_:=Aside0.mk (Kd.R_below T14q9 hb);have n4_:=Aside0.mk (Kd.R_elder' T14q10 (Kd.R_base ho0) hb);have n5_:=Aside0.mk (Kd.R_lower (Kd.R_new' ho0 (Kd.R_lt T14q10)) (below_size (by repeat (first | (with_reducible first | exact HB.out | apply below_alloc | apply pw_below_drewN | apply below_drew1) | exact HB.out))));have n6_:=Aside0.mk (below_step (by repeat (first | (with_reducible first | exact HB.out | apply below_alloc | apply pw_below_drewN | apply below_drew1) | exact HB.out)) hb);clear HO_3;clear HO_4;clear HO_6;clear HO_7;clear HO_8;clear HB;have HO_3:=n0_;have HO_4:=n1_;have HO_6:=n2_;have HO_7:=n3_;have HO_8:=n4_;have HO434:=n5_;have HB:=n6_;clear n0_ n1_ n2_ n3_ n4_ n5_ n6_;(try clear hb);(try clear hb2);(try clear hk);(try clear hi);(try clear ho0);obtain ⟨Ao112,co112,eo112⟩:=Kd.R_slice HO434.out;subst eo112) | ((with_reducible refine gate_callee (f:=29) rfl ?_);refine goesL_ (some 100) rfl rfl Try.func29 T14q1 rfl #[.slice Ao112 t432.length co112,.slice Ao109 t429.length co109] rfl T14q2 ?_;(with_reducible refine (laws_ltSames.calls k2 _ _ t432 _ _ t429 false _ ?side1 ?side2 ?side3 ?side4 A102.out).mono ?_);(case side1 => repeat (first | exact (Kd.R_reads' HO434.out).2.2 | (with_reducible refine Kd.C_alloc ?_ _) | (with_reducible refine Kd.C_drewN ?_ _) | (with_reducible refine Kd.C_drew ?_)));(case side2 => exact (Kd.R_reads' HO434.out).2.1);(case side3 => repeat (first | exact (Kd.R_reads' HO_8.out).2.2 | (with_reducible refine Kd.C_alloc ?_ _) | (with_reducible refine Kd.C_drewN ?_ _) | (with_reducible refine Kd.C_drew ?_)));(case side4 => exact (Kd.R_reads' HO_8.out).2.1);rintro e w' ⟨rfl,⟨nd,rfl⟩⟩;refine ⟨_,rfl,?_⟩))
       go_ret
       exact ⟨by first | rfl | (simp [errW_none,errW_some] <;> rfl) | (simp [*,errW_none,errW_some] <;> rfl),by repeat (first | (with_reducible first | exact HB.out | apply below_alloc | apply pw_below_drewN | apply below_drew1) | exact HB.out)⟩
      subst c103
      have H1 : (some (decide ((t414.length : Int) ≤ (t426.length : Int)))) = some r:=by rw [if_pos rfl] at H;exact H
      clear H
      have H:=H1
      clear H1
      obtain rfl:=Option.some.inj H
      obtain ⟨Ao104,co104,eo104⟩:=Kd.R_slice HO_8.out
      subst eo104
      obtain ⟨Ao105,co105,eo105⟩:=Kd.R_slice HO_7.out
      subst eo105
      go_wp2_with (first | ((with_reducible refine gate_callee (f:=24) rfl ?_);refine goesL_ (some 98) rfl rfl Try.func24 T14q1 rfl #[.slice Ao105 t426.length co105] rfl T14q2 ?_;(with_reducible refine (impl_RunKeys.calls k2 _ _ t426 t432 _ ?side1 ?side2 A101.out).mono ?_);(case side1 => repeat (first | exact (Kd.R_reads' HO_7.out).2.2 | (with_reducible refine Kd.C_alloc ?_ _) | (with_reducible refine Kd.C_drewN ?_ _) | (with_reducible refine Kd.C_drew ?_)));(case side2 => exact (Kd.R_reads' HO_7.out).2.1);rintro e w106 ⟨v433,rfl,ho0,hb⟩;refine ⟨_,rfl,?_⟩;have n0_:=Aside0.mk (Kd.R_below T14q6 hb);have n1_:=Aside0.mk (Kd.R_below T14q7 hb);have n2_:=Aside0.mk (Kd.R_below T14q8 hb);have n3_:=Aside0.mk (Kd.R_below T14q9 hb);have n4_:=Aside0.mk (Kd.R_elder' T14q10 (Kd.R_base ho0) hb);have n5_:=Aside0.mk (Kd.R_lower (Kd.R_new' ho0 (Kd.R_lt T14q10)) (below_size (by repeat (first | (with_reducible first | exact HB.out | apply below_alloc | apply pw_below_drewN | apply below_drew1) | exact HB.out))));have n6_:=Aside0.mk (below_step (by repeat (first | (with_reducible first | exact HB.out | apply below_alloc | apply pw_below_drewN | apply below_drew1) | exact HB.out)) hb);clear HO_3;clear HO_4;clear HO_6;clear HO_7;clear HO_8;clear HB;have HO_3:=n0_;have HO_4:=n1_;have HO_6:=n2_;have HO_7:=n3_;have HO_8:=n4_;have HO434:=n5_;have HB:=n6_;clear n0_ n1_ n2_ n3_ n4_ n5_ n6_;(try clear hb);(try clear hb2);(try clear hk);(try clear hi);(try clear ho0);obtain ⟨Ao107,co107,eo107⟩:=Kd.R_slice HO434.out;subst eo107) | ((with_reducible refine gate_callee (f:=29) rfl ?_);refine goesL_ (some 100) rfl rfl Try.func29 T14q1 rfl #[.slice Ao107 t432.length co107,.slice Ao104 t429.length co104] rfl T14q2 ?_;(with_reducible refine (laws_ltSames.calls k2 _ _ t432 _ _ t429 true _ ?side1 ?side2 ?side3 ?side4 A102.out).mono ?_);(case side1 => repeat (first | exact (Kd.R_reads' HO434.out).2.2 | (with_reducible refine Kd.C_alloc ?_ _) | (with_reducible refine Kd.C_drewN ?_ _) | (with_reducible refine Kd.C_drew ?_)));(case side2 => exact (Kd.R_reads' HO434.out).2.1);(case side3 => repeat (first | exact (Kd.R_reads' HO_8.out).2.2 | (with_reducible refine Kd.C_alloc ?_ _) | (with_reducible refine Kd.C_drewN ?_ _) | (with_reducible refine Kd.C_drew ?_)));(case side4 => exact (Kd.R_reads' HO_8.out).2.1);rintro e w' ⟨rfl,⟨nd,rfl⟩⟩;refine ⟨_,rfl,?_⟩;obtain ⟨Ao108,co108,eo108⟩:=Kd.R_slice HO_6.out;subst eo108))
      go_ret
      exact ⟨by first | rfl | (simp [errW_none,errW_some] <;> rfl) | (simp [*,errW_none,errW_some] <;> rfl),by repeat (first | (with_reducible first | exact HB.out | apply below_alloc | apply pw_below_drewN | apply below_drew1) | exact HB.out)⟩
     rw [if_pos c31] at H
     have c31b0 : decide (x9_2 < (t429.length : Int)) = true:=decide_eq_true c31
     clear c31
     have H':=Aside0.mk H
     clear H
     obtain ⟨Ao32,co32,eo32⟩:=Kd.R_slice HO_8.out
     subst eo32
     go_wp2
     go_loopg [10] k2 (fun kq v10 w' => ∃ (x10_3 : Int),v10 = .int .i64 x10_3 ∧ Aside0 (laws_FnRunTrimTop.l1 kq t407 t408 t414 t426 t429 x9_2 x10_3 = some r) ∧ Aside0 (kq ≤ k2) ∧ Aside0 (Kd.R k27 27 w' w.heap.size (fun k_ => some k_ ≠ (v415 : Value).ownBlock ∧ some k_ ≠ (v427 : Value).ownBlock) (.slice Ao7 t407.length co7) t407) ∧ Aside0 (Kd.R (Kd.int .i64) 3 w' w.heap.size (fun _ => True) (.slice Ao8 t408.length co8) t408) ∧ Aside0 (Kd.R k27 27 w' w.heap.size (fun k_ => some k_ ≠ ((.slice Ao7 t407.length co7) : Value).ownBlock ∧ some k_ ≠ (v427 : Value).ownBlock) v415 t414) ∧ Aside0 (Kd.R k27 27 w' w.heap.size (fun k_ => some k_ ≠ ((.slice Ao7 t407.length co7) : Value).ownBlock ∧ some k_ ≠ (v415 : Value).ownBlock) v427 t426) ∧ Aside0 (Kd.R Kd.string 9 w' w.heap.size (fun _ => True) (.slice Ao32 t429.length co32) t429) ∧ Aside0 (Below w.heap.size w w'))
     case atStart => exact ⟨(0),(by first | rfl | (simp;done) | (simp [*];done)),H',⟨Nat.le_refl _⟩,⟨by (with_reducible repeat (first | apply Kd.R_alloc | apply Kd.R_drewN | apply Kd.R_drew));exact HO_3.out⟩,⟨by (with_reducible repeat (first | apply Kd.R_alloc | apply Kd.R_drewN | apply Kd.R_drew));exact HO_4.out⟩,⟨by (with_reducible repeat (first | apply Kd.R_alloc | apply Kd.R_drewN | apply Kd.R_drew));exact HO_6.out⟩,⟨by (with_reducible repeat (first | apply Kd.R_alloc | apply Kd.R_drewN | apply Kd.R_drew));exact HO_7.out⟩,⟨by (with_reducible repeat (first | apply Kd.R_alloc | apply Kd.R_drewN | apply Kd.R_drew));exact HO_8.out⟩,⟨by repeat (first | (with_reducible first | exact HB.out | apply below_alloc | apply pw_below_drewN | apply below_drew1) | exact HB.out)⟩⟩
     case round =>
      clear H'
      try clear c1
      try clear c2
      try clear c2b0
      try clear c2b1
      try clear p2
      try clear c3
      try clear c10
      try clear c12
      try clear c21
      try clear c24
      try clear c25
      try clear c26
      try clear c27
      try clear c31
      try clear c31b0
      try clear p2
      obtain ⟨x10_3,rfl,HA,HK3,HO_3,HO_4,HO_6,HO_7,HO_8,HB⟩:=hrel
      cases gk with
      | zero => exact absurd HA.out (by simp [laws_FnRunTrimTop.l1])
      | succ k3 =>
       have H:=HA.out
       clear HA
       simp only [laws_FnRunTrimTop.l1] at H
       by_cases c33 : x10_3 < (t408.length : Int)
       rotate_left
       ·rw [if_neg c33] at H
        have c33b0 : decide (x10_3 < (t408.length : Int)) = false:=decide_eq_false c33
        clear c33
        have H':=Aside0.mk H
        clear H
        go_wp2
        go_roundg k3
        case measure => have:=HJ4.out;have:=HK2.out;have:=HK3.out;omega
        case rel => exact ⟨(wrap64 (x9_2 + 1)),(by first | rfl | (simp;done) | (simp [*];done)),H',⟨by have:=HJ4.out;have:=HK2.out;have:=HK3.out;omega⟩,⟨by (with_reducible repeat (first | apply Kd.R_alloc | apply Kd.R_drewN | apply Kd.R_drew));exact HO_3.out⟩,⟨by (with_reducible repeat (first | apply Kd.R_alloc | apply Kd.R_drewN | apply Kd.R_drew));exact HO_4.out⟩,⟨by (with_reducible repeat (first | apply Kd.R_alloc | apply Kd.R_drewN | apply Kd.R_drew));exact HO_6.out⟩,⟨by (with_reducible repeat (first | apply Kd.R_alloc | apply Kd.R_drewN | apply Kd.R_drew));exact HO_7.out⟩,⟨by (with_reducible repeat (first | apply Kd.R_alloc | apply Kd.R_drewN | apply Kd.R_drew));exact HO_8.out⟩,⟨by repeat (first | (with_reducible first | exact HB.out | apply below_alloc | apply pw_below_drewN | apply below_drew1) | exact HB.out)⟩⟩
       rw [if_pos c33] at H
       have c33b0 : decide (x10_3 < (t408.length : Int)) = true:=decide_eq_true c33
       clear c33
       by_cases c34 : 0 ≤ x9_2
       rotate_left
       ·rw [if_neg c34] at H
        exact absurd H (by simp)
       rw [if_pos c34] at H
       have c34b0 : decide (0 ≤ x9_2) = true:=decide_eq_true c34
       clear c34
       by_cases c35 : x9_2 < (t429.length : Int)
       rotate_left
       ·rw [if_neg c35] at H
        exact absurd H (by simp)
       rw [if_pos c35] at H
       have c35b0 : decide (x9_2 < (t429.length : Int)) = true:=decide_eq_true c35
       clear c35
       by_cases c36 : 0 ≤ x10_3
       rotate_left
       ·rw [if_neg c36] at H
        exact absurd H (by simp)
       rw [if_pos c36] at H
       have c36b0 : decide (0 ≤ x10_3) = true:=decide_eq_true c36
       clear c36
       replace H:=Option.bind_eq_some_iff.mp H
       obtain ⟨⟨t438,t439,t440,t441,t442⟩,A370,H⟩:=H
       replace H : ((impl_RunAt.f k3 t426 (rdOf ByteArray.empty t429 x9_2) (rd t408 x10_3)).bind fun bt446 => (if (t442 != bt446.2.2.2.2) = true then (some false) else (if (!(t438.toList == bt446.1.toList) || (!(t439 == bt446.2.1) || (!(t440 == bt446.2.2.1) || (!(t441 == bt446.2.2.2.1))))) = true then (some false) else (laws_FnRunTrimTop.l1 k3 t407 t408 t414 t426 t429 x9_2 (wrap64 (x10_3 + 1)))))) = some r:=H
       have A37:=Aside0.mk A370
       clear A370
       replace H:=Option.bind_eq_some_iff.mp H
       obtain ⟨⟨t446,t447,t448,t449,t450⟩,A380,H⟩:=H
       replace H : (if (t442 != t450) = true then (some false) else (if (!(t438.toList == t446.toList) || (!(t439 == t447) || (!(t440 == t448) || (!(t441 == t449))))) = true then (some false) else (laws_FnRunTrimTop.l1 k3 t407 t408 t414 t426 t429 x9_2 (wrap64 (x10_3 + 1))))) = some r:=H
       have A38:=Aside0.mk A380
       clear A380
       by_cases c39 : (t442 != t450) = true
       ·rw [if_pos c39] at H
        have c39b0 : (t442 != t450) = true:=c39
        (try (have c39b1 : decide (t442 = t450) = false:=by simpa using c39))
        (try (have c39b2 : (t442 == t450) = false:=by simpa using c39))
        (try (have c39b3 : ¬ (t442 = t450):=by simpa using c39))
        clear c39
        obtain rfl:=Option.some.inj H
        try go_wp2
        have n0_:=Aside0.mk (Kd.R_drew HO_3.out)
        have n1_:=Aside0.mk (Kd.R_drew HO_4.out)
        have n2_:=Aside0.mk (Kd.R_drew HO_6.out)
        have n3_:=Aside0.mk (Kd.R_drew HO_7.out)
        have n4_:=Aside0.mk (Kd.R_drew HO_8.out)
        have n5_:=Aside0.mk (below_drew1 HB.out)
        clear HO_3
        clear HO_4
        clear HO_6
        clear HO_7
        clear HO_8
        clear HB
        have HO_3:=n0_
        have HO_4:=n1_
        have HO_6:=n2_
        have HO_7:=n3_
        have HO_8:=n4_
        have HB:=n5_
        clear n0_ n1_ n2_ n3_ n4_ n5_
        have p436 : 0 ≤ (x9_2 : Int):=of_decide_eq_true (by first | (with_reducible assumption) | assumption)
        have q436 : x9_2 < (t429.length : Int):=of_decide_eq_true (by first | (with_reducible assumption) | assumption)
        obtain ⟨ad436,e436,hx436_0⟩:=Kd.at_string (Kd.R_reads' HO_8.out).2.2 x9_2 p436 q436
        cases e436
        replace p436:=eq_true p436
        replace q436:=eq_true q436
        have p437 : 0 ≤ (x10_3 : Int):=of_decide_eq_true (by first | (with_reducible assumption) | assumption)
        have q437 : x10_3 < (t408.length : Int):=of_decide_eq_true (by first | (with_reducible assumption) | assumption)
        obtain ⟨ad437,e437,hx437_0⟩:=Kd.at_int (Kd.R_reads' HO_4.out).2.2 x10_3 p437 q437
        cases e437
        replace p437:=eq_true p437
        replace q437:=eq_true q437
        refine start_ (n:=16) (S:=fun w' => w'.cell? (ad436.add (x9_2).toNat) = some (.string (rdOf ByteArray.empty t429 x9_2)) ∧ w'.cell? (ad437.add (x10_3).toNat) = some (.int .i64 (rd t408 x10_3))) (ds:=[]) #[false,false,false,false,false,false,false,false,false,false,false,false,false,false,false,false] T14q1 rfl rfl ⟨hx436_0,hx437_0⟩ (fun hHeld => ?_);refine with_tabW laws_FnRunTrimTop.tab15 laws_FnRunTrimTop.bits15 (fun HT_ HW_ => ?_)
        generalize wr.drew = w40 at HO_3 HO_4 HO_6 HO_7 HO_8 HB hx436_0 hx437_0 hHeld ⊢
        refine pm_ (i:=0) (N:=some 64) (v:=?_) (a':=?_) rfl rfl (any_of HT_.out T14q1) (fun _ _ _ h => h) (Or.inl ⟨by rfl,?_⟩) ?_ ?_
        rotate_left
        ·intro w'
         go_simp
         with_reducible rfl
        rotate_left
        ·simp only [PU]
         rfl
        refine pm_ (i:=1) (N:=some 65) (v:=?_) (a':=?_) rfl rfl (any_of HT_.out T14q1) (fun _ _ _ h => h) (Or.inl ⟨by rfl,?_⟩) ?_ ?_
        rotate_left
        ·intro w'
         go_simp
         with_reducible rfl
        rotate_left
        ·simp only [PU]
         rfl
        refine pm_ (i:=2) (N:=some 66) (v:=?_) (a':=?_) rfl rfl (any_of HT_.out T14q1) (fun _ _ _ h => h) (Or.inl ⟨by rfl,?_⟩) ?_ ?_
        rotate_left
        ·intro w'
         go_simp
         with_reducible rfl
        rotate_left
        ·simp only [PU]
         rfl
        refine pm_ (i:=3) (N:=some 67) (v:=?_) (a':=?_) rfl rfl (any_of HT_.out T14q1) (fun _ _ _ h => h) (Or.inl ⟨by rfl,?_⟩) ?_ ?_
        rotate_left
        ·intro w'
         go_simp
         with_reducible rfl
        rotate_left
        ·simp only [PU]
         rfl
        refine pm_ (i:=5) (N:=some 69) (v:=?_) (a':=?_) rfl rfl (any_of HT_.out T14q1) (fun _ _ _ h => h) (Or.inl ⟨by rfl,?_⟩) ?_ ?_
        rotate_left
        ·intro w'
         go_simp
         with_reducible rfl
        rotate_left
        ·simp only [PU]
         rfl
        refine pm_ (i:=6) (N:=some 70) (v:=?_) (a':=?_) rfl rfl (any_of HT_.out T14q1) (fun _ _ _ h => h) (Or.inl ⟨by rfl,?_⟩) ?_ ?_
        rotate_left
        ·intro w'
         go_simp
         with_reducible rfl
        rotate_left
        ·simp only [PU]
         rfl
        refine pm_ (i:=7) (N:=some 71) (v:=?_) (a':=?_) rfl rfl (any_of HT_.out T14q1) (fun _ _ _ h => h) (Or.inl ⟨by rfl,?_⟩) ?_ ?_
        rotate_left
        ·intro w'
         go_simp
         with_reducible rfl
        rotate_left
        ·simp only [PU]
         rfl
        refine tm_ (i:=4) (N:=some 68) (v:=?_) (a':=?_) rfl rfl (take_ofW HT_.out HW_.out T14q1) (fun _ _ _ h => h) (Or.inl ⟨by rfl,?_⟩) hHeld ?_ ?_
        rotate_left
        ·rintro w' ⟨s0,s1⟩
         go_simp
         with_reducible rfl
        rotate_left
        ·simp only [PU]
         rfl
        refine tm_ (i:=8) (N:=some 72) (v:=?_) (a':=?_) rfl rfl (take_ofW HT_.out HW_.out T14q1) (fun _ _ _ h => h) (Or.inl ⟨by rfl,?_⟩) hHeld ?_ ?_
        rotate_left
        ·rintro w' ⟨s0,s1⟩
         go_simp
         with_reducible rfl
        rotate_left
        ·simp only [PU]
         rfl
        refine join_ (σ:=Nat) 2 #[true,true,true,true,true,true,true,true,true,true,true,true,true,true,false,false] (fun s_ => [(73,.tuple #[.agg #[.string t438,.int .i64 t439,.bool t440,.int .i64 t441],.bool t442]),(11,.pointer (some ⟨s_,0,none⟩)),(63,.tuple #[.agg #[.string t438,.int .i64 t439,.bool t440,.int .i64 t441],.bool t442]),(74,.agg #[.string t438,.int .i64 t439,.bool t440,.int .i64 t441]),(75,.bool t442)]) (fun s_ w' => (w'.cell? (ad436.add (x9_2).toNat) = some (.string (rdOf ByteArray.empty t429 x9_2)) ∧ w'.cell? (ad437.add (x10_3).toNat) = some (.int .i64 (rd t408 x10_3))) ∧ (Kd.R k27 27 w' w.heap.size (fun k_ => some k_ ≠ (v415 : Value).ownBlock ∧ some k_ ≠ (v427 : Value).ownBlock ∧ k_ ≠ s_) (.slice Ao7 t407.length co7) t407) ∧ (Kd.R (Kd.int .i64) 3 w' w.heap.size (fun _ => True) (.slice (some ad437) t408.length co8) t408) ∧ (Kd.R k27 27 w' w.heap.size (fun k_ => some k_ ≠ (.slice Ao7 t407.length co7 : Value).ownBlock ∧ some k_ ≠ (v427 : Value).ownBlock ∧ k_ ≠ s_) v415 t414) ∧ (Kd.R k27 27 w' w.heap.size (fun k_ => some k_ ≠ (.slice Ao7 t407.length co7 : Value).ownBlock ∧ some k_ ≠ (v415 : Value).ownBlock ∧ k_ ≠ s_) v427 t426) ∧ (Kd.R Kd.string 9 w' w.heap.size (fun _ => True) (.slice (some ad436) t429.length co32) t429) ∧ (w'.heap[s_]? = some (.cells #[.string (⟨#[]⟩ : ByteArray),.int .i64 0,.bool false,.int .i64 0] 27 (0,0))) ∧ (w.heap.size ≤ s_) ∧ (w.heap.size ≤ s_) ∧ (Below w.heap.size w w')) ?_ ?_
        rotate_left
        ·intro hCont
         refine two_ (i:=9) (j:=13) (Ni:=some 73) (Nj:=some 11) #[true,true,true,true,true,true,true,true,true,true,false,false,false,false,false,false] #[true,true,true,true,true,true,true,true,true,false,false,false,false,true,false,false] rfl rfl rfl rfl (two_of HT_.out T14q1) (by decide) (by decide) (fun K hK => ?_) (fun K hK => ?_)
         ·skip
          refine goes_ Try.func17 T14q1 rfl #[.slice Ao7 t407.length co7,.string (rdOf ByteArray.empty t429 x9_2),.int .i64 (rd t408 x10_3)] (by rfl) rfl rfl T14q2 ?_
          with_reducible refine (impl_RunAt.calls k3 _ _ t407 (rdOf ByteArray.empty t429 x9_2) (rd t408 x10_3) t438 t439 t440 t441 t442 _ ?side1 ?side2 A37.out).mono ?_
          (case side1 => repeat (first | exact (Kd.R_reads' HO_3.out).2.2 | (with_reducible refine Kd.C_alloc ?_ _) | (with_reducible refine Kd.C_drewN ?_ _) | (with_reducible refine Kd.C_drew ?_)))
          (case side2 => exact (Kd.R_reads' HO_3.out).2.1)
          rintro e w41 ⟨rfl,hb⟩
          have HS0_:=(hb.cell (World.block_lt_of_cell? _ _ (hHeld.1))).trans (hHeld.1)
          have HS1_:=(hb.cell (World.block_lt_of_cell? _ _ (hHeld.2))).trans (hHeld.2)
          refine ⟨_,rfl,?_⟩
          have n0_:=Aside0.mk (Kd.R_below T14q6 hb)
          have n1_:=Aside0.mk (Kd.R_below T14q7 hb)
          have n2_:=Aside0.mk (Kd.R_below T14q8 hb)
          have n3_:=Aside0.mk (Kd.R_below T14q9 hb)
          have n4_:=Aside0.mk (Kd.R_below T14q10 hb)
          have n5_:=Aside0.mk (below_step (by repeat (first | (with_reducible first | exact HB.out | apply below_alloc | apply pw_below_drewN | apply below_drew1) | exact HB.out)) hb)
          clear HO_3
          clear HO_4
          clear HO_6
          clear HO_7
          clear HO_8
          clear HB
          have HO_3:=n0_
          have HO_4:=n1_
          have HO_6:=n2_
          have HO_7:=n3_
          have HO_8:=n4_
          have HB:=n5_
          clear n0_ n1_ n2_ n3_ n4_ n5_
          (try clear hb)
          (try clear hb2)
          (try clear hk)
          (try clear hi)
          refine hK.out _ _ ⟨HS0_,HS1_⟩ (fun hHeld => ?_)
          clear hK K
          refine norm_ (a':=?_) ?_ ?_
          rotate_left
          ·show Act.put _ (some 73) _ = _
           simp only [PU]
           rfl
          refine pm_ (i:=10) (N:=some 63) (v:=?_) (a':=?_) rfl rfl (any_of HT_.out T14q1) (fun _ _ _ h => h) (Or.inl ⟨by rfl,?_⟩) ?_ ?_
          rotate_left
          ·intro w'
           go_simp
           with_reducible rfl
          rotate_left
          ·simp only [PU]
           rfl
          refine pm_ (i:=11) (N:=some 74) (v:=?_) (a':=?_) rfl rfl (any_of HT_.out T14q1) (fun _ _ _ h => h) (Or.inl ⟨by rfl,?_⟩) ?_ ?_
          rotate_left
          ·intro w'
           go_simp
           with_reducible rfl
          rotate_left
          ·simp only [PU]
           rfl
          refine pm_ (i:=12) (N:=some 75) (v:=?_) (a':=?_) rfl rfl (any_of HT_.out T14q1) (fun _ _ _ h => h) (Or.inl ⟨by rfl,?_⟩) ?_ ?_
          rotate_left
          ·intro w'
           go_simp
           with_reducible rfl
          rotate_left
          ·simp only [PU]
           rfl
          refine om_ (i:=13) (N:=some 11) rfl rfl (one_of HT_.out T14q1) (by decide) (fun K hK => ?_)
          refine box_step ?hg (N:=11) ?hd (cs:=#[.string (⟨#[]⟩ : ByteArray),.int .i64 0,.bool false,.int .i64 0]) (t:=27) ?hr ?_;(case hd => rfl);(case hg => rfl);(case hr => first | (go_simp;done) | (go_simp;rfl))
          intro gb443 hg w42 hbox hb
          have HS0_:=(hb.cell (World.block_lt_of_cell? _ _ (hHeld.1))).trans (hHeld.1)
          have HS1_:=(hb.cell (World.block_lt_of_cell? _ _ (hHeld.2))).trans (hHeld.2)
          have n0_:=Aside0.mk (Kd.R_below (Kd.R_elderB T14q6 gb443 (Nat.le_of_eq hg.symm)) hb)
          have n1_:=Aside0.mk (Kd.R_below T14q7 hb)
          have n2_:=Aside0.mk (Kd.R_below (Kd.R_elderB T14q8 gb443 (Nat.le_of_eq hg.symm)) hb)
          have n3_:=Aside0.mk (Kd.R_below (Kd.R_elderB T14q9 gb443 (Nat.le_of_eq hg.symm)) hb)
          have n4_:=Aside0.mk (Kd.R_below T14q10 hb)
          have n5_:=Aside0.mk (below_step (by repeat (first | (with_reducible first | exact HB.out | apply below_alloc | apply pw_below_drewN | apply below_drew1) | exact HB.out)) hb)
          have n6_:=Aside0.mk (hbox)
          have n7_:=Aside0.mk ((by rw [hg];exact (below_size (by repeat (first | (with_reducible first | exact HB.out | apply below_alloc | apply pw_below_drewN | apply below_drew1) | exact HB.out))) : w.heap.size ≤ gb443))
          have n8_:=Aside0.mk ((by rw [hg];exact (below_size (by repeat (first | (with_reducible first | exact HB.out | apply below_alloc | apply pw_below_drewN | apply below_drew1) | exact HB.out))) : w.heap.size ≤ gb443))
          clear HO_3
          clear HO_4
          clear HO_6
          clear HO_7
          clear HO_8
          clear HB
          have HO_3:=n0_
          have HO_4:=n1_
          have HO_6:=n2_
          have HO_7:=n3_
          have HO_8:=n4_
          have HB:=n5_
          have BK443:=n6_
          have GW443:=n7_
          have GE443:=n8_
          clear n0_ n1_ n2_ n3_ n4_ n5_ n6_ n7_ n8_
          clear hb hbox hg
          refine hK.out _ _ ⟨HS0_,HS1_⟩ (fun hHeld => ?_)
          clear hK K
          refine norm_ (a':=?_) ?_ ?_
          rotate_left
          ·show Act.put _ (some 11) _ = _
           simp only [PU]
           rfl
          exact norm_ (by simp only [putAll,Act.put,List.setIfInBounds_toArray,List.set_cons_zero,List.set_cons_succ]) (hCont (gb443) _ ⟨hHeld,T14q11,T14q7,T14q12,T14q13,T14q10,(by (with_reducible repeat (first | refine blk_drewN ?_ _ | refine blk_drew ?_ | refine blk_alloc ?_ _));exact BK443.out),GW443.out,GE443.out,(by repeat (first | (with_reducible first | exact HB.out | apply below_alloc | apply pw_below_drewN | apply below_drew1 | refine below_set ?_ GE443.out) | exact HB.out))⟩)
         skip
         refine box_step ?hg (N:=11) ?hd (cs:=#[.string (⟨#[]⟩ : ByteArray),.int .i64 0,.bool false,.int .i64 0]) (t:=27) ?hr ?_;(case hd => rfl);(case hg => rfl);(case hr => first | (go_simp;done) | (go_simp;rfl))
         intro gb443 hg w41 hbox hb
         have HS0_:=(hb.cell (World.block_lt_of_cell? _ _ (hHeld.1))).trans (hHeld.1)
         have HS1_:=(hb.cell (World.block_lt_of_cell? _ _ (hHeld.2))).trans (hHeld.2)
         have n0_:=Aside0.mk (Kd.R_below (Kd.R_elderB T14q6 gb443 (Nat.le_of_eq hg.symm)) hb)
         have n1_:=Aside0.mk (Kd.R_below T14q7 hb)
         have n2_:=Aside0.mk (Kd.R_below (Kd.R_elderB T14q8 gb443 (Nat.le_of_eq hg.symm)) hb)
         have n3_:=Aside0.mk (Kd.R_below (Kd.R_elderB T14q9 gb443 (Nat.le_of_eq hg.symm)) hb)
         have n4_:=Aside0.mk (Kd.R_below T14q10 hb)
         have n5_:=Aside0.mk (below_step (by repeat (first | (with_reducible first | exact HB.out | apply below_alloc | apply pw_below_drewN | apply below_drew1) | exact HB.out)) hb)
         have n6_:=Aside0.mk (hbox)
         have n7_:=Aside0.mk ((by rw [hg];exact (below_size (by repeat (first | (with_reducible first | exact HB.out | apply below_alloc | apply pw_below_drewN | apply below_drew1) | exact HB.out))) : w.heap.size ≤ gb443))
         have n8_:=Aside0.mk ((by rw [hg];exact (below_size (by repeat (first | (with_reducible first | exact HB.out | apply below_alloc | apply pw_below_drewN | apply below_drew1) | exact HB.out))) : w.heap.size ≤ gb443))
         clear HO_3
         clear HO_4
         clear HO_6
         clear HO_7
         clear HO_8
         clear HB
         have HO_3:=n0_
         have HO_4:=n1_
         have HO_6:=n2_
         have HO_7:=n3_
         have HO_8:=n4_
         have HB:=n5_
         have BK443:=n6_
         have GW443:=n7_
         have GE443:=n8_
         clear n0_ n1_ n2_ n3_ n4_ n5_ n6_ n7_ n8_
         clear hb hbox hg
         refine hK.out _ _ ⟨HS0_,HS1_⟩ (fun hHeld => ?_)
         clear hK K
         refine norm_ (a':=?_) ?_ ?_
         rotate_left
         ·show Act.put _ (some 11) _ = _
          simp only [PU]
          rfl
         refine om_ (i:=9) (N:=some 73) rfl rfl (one_of HT_.out T14q1) (by decide) (fun K hK => ?_)
         refine goes_ Try.func17 T14q1 rfl #[.slice Ao7 t407.length co7,.string (rdOf ByteArray.empty t429 x9_2),.int .i64 (rd t408 x10_3)] (by rfl) rfl rfl T14q2 ?_
         with_reducible refine (impl_RunAt.calls k3 _ _ t407 (rdOf ByteArray.empty t429 x9_2) (rd t408 x10_3) t438 t439 t440 t441 t442 _ ?side1 ?side2 A37.out).mono ?_
         (case side1 => repeat (first | exact (Kd.R_reads' HO_3.out).2.2 | (with_reducible refine Kd.C_alloc ?_ _) | (with_reducible refine Kd.C_drewN ?_ _) | (with_reducible refine Kd.C_drew ?_)))
         (case side2 => exact (Kd.R_reads' HO_3.out).2.1)
         rintro e w42 ⟨rfl,hb⟩
         have HS0_:=(hb.cell (World.block_lt_of_cell? _ _ (hHeld.1))).trans (hHeld.1)
         have HS1_:=(hb.cell (World.block_lt_of_cell? _ _ (hHeld.2))).trans (hHeld.2)
         refine ⟨_,rfl,?_⟩
         have n0_:=Aside0.mk (Kd.R_below T14q6 hb)
         have n1_:=Aside0.mk (Kd.R_below T14q7 hb)
         have n2_:=Aside0.mk (Kd.R_below T14q8 hb)
         have n3_:=Aside0.mk (Kd.R_below T14q9 hb)
         have n4_:=Aside0.mk (Kd.R_below T14q10 hb)
         have n5_:=Aside0.mk (blk_below (g:=gb443) (o:=.cells #[.string (⟨#[]⟩ : ByteArray),.int .i64 0,.bool false,.int .i64 0] 27 (0,0)) (by (with_reducible repeat (first | refine blk_drewN ?_ _ | refine blk_drew ?_ | refine blk_alloc ?_ _));exact BK443.out) hb)
         have n6_:=Aside0.mk (below_step (by repeat (first | (with_reducible first | exact HB.out | apply below_alloc | apply pw_below_drewN | apply below_drew1 | refine below_set ?_ GE443.out) | exact HB.out)) hb)
         clear HO_3
         clear HO_4
         clear HO_6
         clear HO_7
         clear HO_8
         clear BK443
         clear HB
         have HO_3:=n0_
         have HO_4:=n1_
         have HO_6:=n2_
         have HO_7:=n3_
         have HO_8:=n4_
         have BK443:=n5_
         have HB:=n6_
         clear n0_ n1_ n2_ n3_ n4_ n5_ n6_
         (try clear hb)
         (try clear hb2)
         (try clear hk)
         (try clear hi)
         refine hK.out _ _ ⟨HS0_,HS1_⟩ (fun hHeld => ?_)
         clear hK K
         refine norm_ (a':=?_) ?_ ?_
         rotate_left
         ·show Act.put _ (some 73) _ = _
          simp only [PU]
          rfl
         refine pm_ (i:=10) (N:=some 63) (v:=?_) (a':=?_) rfl rfl (any_of HT_.out T14q1) (fun _ _ _ h => h) (Or.inl ⟨by rfl,?_⟩) ?_ ?_
         rotate_left
         ·intro w'
          go_simp
          with_reducible rfl
         rotate_left
         ·simp only [PU]
          rfl
         refine pm_ (i:=11) (N:=some 74) (v:=?_) (a':=?_) rfl rfl (any_of HT_.out T14q1) (fun _ _ _ h => h) (Or.inl ⟨by rfl,?_⟩) ?_ ?_
         rotate_left
         ·intro w'
          go_simp
          with_reducible rfl
         rotate_left
         ·simp only [PU]
          rfl
         refine pm_ (i:=12) (N:=some 75) (v:=?_) (a':=?_) rfl rfl (any_of HT_.out T14q1) (fun _ _ _ h => h) (Or.inl ⟨by rfl,?_⟩) ?_ ?_
         rotate_left
         ·intro w'
          go_simp
          with_reducible rfl
         rotate_left
         ·simp only [PU]
          rfl
         exact norm_ (by simp only [putAll,Act.put,List.setIfInBounds_toArray,List.set_cons_zero,List.set_cons_succ]) (hCont (gb443) _ ⟨hHeld,T14q11,T14q7,T14q12,T14q13,T14q10,(by (with_reducible repeat (first | refine blk_drewN ?_ _ | refine blk_drew ?_ | refine blk_alloc ?_ _));exact BK443.out),GW443.out,GE443.out,(by repeat (first | (with_reducible first | exact HB.out | apply below_alloc | apply pw_below_drewN | apply below_drew1 | refine below_set ?_ GE443.out) | exact HB.out))⟩)
        rintro gb443 w43 ⟨hS_,h0_,h1_,h2_,h3_,h4_,h5_,h6_,h7_,h8_⟩
        have n0_ : Aside0 (Kd.R k27 27 w43 w.heap.size (fun k_ => some k_ ≠ (v415 : Value).ownBlock ∧ some k_ ≠ (v427 : Value).ownBlock ∧ k_ ≠ gb443) (.slice Ao7 t407.length co7) t407):=⟨h0_⟩
        have n1_ : Aside0 (Kd.R (Kd.int .i64) 3 w43 w.heap.size (fun _ => True) (.slice (some ad437) t408.length co8) t408):=⟨h1_⟩
        have n2_ : Aside0 (Kd.R k27 27 w43 w.heap.size (fun k_ => some k_ ≠ (.slice Ao7 t407.length co7 : Value).ownBlock ∧ some k_ ≠ (v427 : Value).ownBlock ∧ k_ ≠ gb443) v415 t414):=⟨h2_⟩
        have n3_ : Aside0 (Kd.R k27 27 w43 w.heap.size (fun k_ => some k_ ≠ (.slice Ao7 t407.length co7 : Value).ownBlock ∧ some k_ ≠ (v415 : Value).ownBlock ∧ k_ ≠ gb443) v427 t426):=⟨h3_⟩
        have n4_ : Aside0 (Kd.R Kd.string 9 w43 w.heap.size (fun _ => True) (.slice (some ad436) t429.length co32) t429):=⟨h4_⟩
        have n5_ : Aside0 (w43.heap[gb443]? = some (.cells #[.string (⟨#[]⟩ : ByteArray),.int .i64 0,.bool false,.int .i64 0] 27 (0,0))):=⟨h5_⟩
        have n6_ : Aside0 (w.heap.size ≤ gb443):=⟨h6_⟩
        have n7_ : Aside0 (w.heap.size ≤ gb443):=⟨h7_⟩
        have n8_ : Aside0 (Below w.heap.size w w43):=⟨h8_⟩
        clear HO_3
        clear HO_4
        clear HO_6
        clear HO_7
        clear HO_8
        clear HB
        clear h0_ h1_ h2_ h3_ h4_ h5_ h6_ h7_ h8_
        have HO_3:=n0_
        have HO_4:=n1_
        have HO_6:=n2_
        have HO_7:=n3_
        have HO_8:=n4_
        have BK443:=n5_
        have GW443:=n6_
        have GE443:=n7_
        have HB:=n8_
        clear n0_ n1_ n2_ n3_ n4_ n5_ n6_ n7_ n8_
        have hHeld : w43.cell? (ad436.add (x9_2).toNat) = some (.string (rdOf ByteArray.empty t429 x9_2)) ∧ w43.cell? (ad437.add (x10_3).toNat) = some (.int .i64 (rd t408 x10_3)):=hS_
        refine norm_ (a':=?_) ?_ ?_
        rotate_left
        ·simp only [putAll,Act.put,List.setIfInBounds_toArray,List.set_cons_zero,List.set_cons_succ]
         rfl
        refine om_ (i:=14) (N:=none) rfl rfl (one_of HT_.out T14q1) (by decide) (fun K hK => ?_)
        have hs44 : w43.cell? ⟨gb443,0,none⟩ = some (.string (⟨#[]⟩ : ByteArray)):=(blk_cell BK443.out 0).trans rfl
        have hfs44:=blk_frozen BK443.out 0
        have hs45 : w43.cell? ⟨gb443,1,none⟩ = some (.int .i64 0):=(blk_cell BK443.out 1).trans rfl
        have hfs45:=blk_frozen BK443.out 1
        have hs46 : w43.cell? ⟨gb443,2,none⟩ = some (.bool false):=(blk_cell BK443.out 2).trans rfl
        have hfs46:=blk_frozen BK443.out 2
        have hs47 : w43.cell? ⟨gb443,3,none⟩ = some (.int .i64 0):=(blk_cell BK443.out 3).trans rfl
        have hfs47:=blk_frozen BK443.out 3
        refine skip_ (w1:=?_) (by rfl) rfl ?_ ?_
        rotate_left
        ·go_simp
         rfl
        refine hK.out _ _ ⟨((cell_far (p:=⟨gb443,_,none⟩) (by first | exact Kd.own_blk (Kd.R_ne HO_8.out BK443.out (by decide)) | (rw [add_block];exact Kd.own_blk (Kd.R_ne HO_8.out BK443.out (by decide))) | (show (Addr.add _ _).block ≠ _;rw [add_block];exact Kd.own_blk (Kd.R_ne HO_8.out BK443.out (by decide))) | (dsimp only;exact Kd.own_blk (Kd.R_ne HO_8.out BK443.out (by decide)))) _).trans (((cell_far (p:=⟨gb443,_,none⟩) (by first | exact Kd.own_blk (Kd.R_ne HO_8.out BK443.out (by decide)) | (rw [add_block];exact Kd.own_blk (Kd.R_ne HO_8.out BK443.out (by decide))) | (show (Addr.add _ _).block ≠ _;rw [add_block];exact Kd.own_blk (Kd.R_ne HO_8.out BK443.out (by decide))) | (dsimp only;exact Kd.own_blk (Kd.R_ne HO_8.out BK443.out (by decide)))) _).trans (((cell_far (p:=⟨gb443,_,none⟩) (by first | exact Kd.own_blk (Kd.R_ne HO_8.out BK443.out (by decide)) | (rw [add_block];exact Kd.own_blk (Kd.R_ne HO_8.out BK443.out (by decide))) | (show (Addr.add _ _).block ≠ _;rw [add_block];exact Kd.own_blk (Kd.R_ne HO_8.out BK443.out (by decide))) | (dsimp only;exact Kd.own_blk (Kd.R_ne HO_8.out BK443.out (by decide)))) _).trans (((cell_far (p:=⟨gb443,_,none⟩) (by first | exact Kd.own_blk (Kd.R_ne HO_8.out BK443.out (by decide)) | (rw [add_block];exact Kd.own_blk (Kd.R_ne HO_8.out BK443.out (by decide))) | (show (Addr.add _ _).block ≠ _;rw [add_block];exact Kd.own_blk (Kd.R_ne HO_8.out BK443.out (by decide))) | (dsimp only;exact Kd.own_blk (Kd.R_ne HO_8.out BK443.out (by decide)))) _).trans (hHeld.1)))))))),((cell_far (p:=⟨gb443,_,none⟩) (by first | exact Kd.own_blk (Kd.R_ne HO_4.out BK443.out (by decide)) | (rw [add_block];exact Kd.own_blk (Kd.R_ne HO_4.out BK443.out (by decide))) | (show (Addr.add _ _).block ≠ _;rw [add_block];exact Kd.own_blk (Kd.R_ne HO_4.out BK443.out (by decide))) | (dsimp only;exact Kd.own_blk (Kd.R_ne HO_4.out BK443.out (by decide)))) _).trans (((cell_far (p:=⟨gb443,_,none⟩) (by first | exact Kd.own_blk (Kd.R_ne HO_4.out BK443.out (by decide)) | (rw [add_block];exact Kd.own_blk (Kd.R_ne HO_4.out BK443.out (by decide))) | (show (Addr.add _ _).block ≠ _;rw [add_block];exact Kd.own_blk (Kd.R_ne HO_4.out BK443.out (by decide))) | (dsimp only;exact Kd.own_blk (Kd.R_ne HO_4.out BK443.out (by decide)))) _).trans (((cell_far (p:=⟨gb443,_,none⟩) (by first | exact Kd.own_blk (Kd.R_ne HO_4.out BK443.out (by decide)) | (rw [add_block];exact Kd.own_blk (Kd.R_ne HO_4.out BK443.out (by decide))) | (show (Addr.add _ _).block ≠ _;rw [add_block];exact Kd.own_blk (Kd.R_ne HO_4.out BK443.out (by decide))) | (dsimp only;exact Kd.own_blk (Kd.R_ne HO_4.out BK443.out (by decide)))) _).trans (((cell_far (p:=⟨gb443,_,none⟩) (by first | exact Kd.own_blk (Kd.R_ne HO_4.out BK443.out (by decide)) | (rw [add_block];exact Kd.own_blk (Kd.R_ne HO_4.out BK443.out (by decide))) | (show (Addr.add _ _).block ≠ _;rw [add_block];exact Kd.own_blk (Kd.R_ne HO_4.out BK443.out (by decide))) | (dsimp only;exact Kd.own_blk (Kd.R_ne HO_4.out BK443.out (by decide)))) _).trans (hHeld.2))))))))⟩ (fun hHeld => ?_)
        clear hK K
        refine pm_ (i:=15) (N:=some 12) (v:=?_) (a':=?_) rfl rfl (any_of HT_.out T14q1) (fun _ _ _ h => h) (Or.inl ⟨by rfl,?_⟩) ?_ ?_
        rotate_left
        ·intro w'
         go_simp
         with_reducible rfl
        rotate_left
        ·simp only [PU]
         rfl
        refine done_ (done_of HT_.out T14q1) ?_
        obtain ⟨Ao48,co48,eo48⟩:=Kd.R_slice HO_7.out
        subst eo48
        try go_wp2
        have n0_ : Aside0 (Kd.R k27 27 ((((w43.setCell ⟨gb443,0,none⟩ (.string t438)).setCell ⟨gb443,1,none⟩ (.int .i64 t439)).setCell ⟨gb443,2,none⟩ (.bool t440)).setCell ⟨gb443,3,none⟩ (.int .i64 t441)) w.heap.size (fun k_ => some k_ ≠ (v415 : Value).ownBlock ∧ some k_ ≠ (.slice Ao48 t426.length co48 : Value).ownBlock ∧ k_ ≠ gb443) (.slice Ao7 t407.length co7) t407):=⟨by (with_reducible repeat (first | apply Kd.R_alloc | apply Kd.R_drewN | apply Kd.R_drew));exact Kd.R_mono (Kd.R_far (p:=⟨gb443,3,none⟩) (Kd.R_far (p:=⟨gb443,2,none⟩) (Kd.R_far (p:=⟨gb443,1,none⟩) (Kd.R_far (p:=⟨gb443,0,none⟩) (Kd.R_mono HO_3.out (fun k_ hk => (⟨hk,hk.2.2⟩ : _ ∧ k_ ≠ gb443))) (fun _ hk => hk.2) (.string t438)) (fun _ hk => hk.2) (.int .i64 t439)) (fun _ hk => hk.2) (.bool t440)) (fun _ hk => hk.2) (.int .i64 t441)) (fun _ hk => ⟨hk.1.1,⟨hk.1.2.1,hk.1.2.2⟩⟩)⟩
        have n1_ : Aside0 (Kd.R (Kd.int .i64) 3 ((((w43.setCell ⟨gb443,0,none⟩ (.string t438)).setCell ⟨gb443,1,none⟩ (.int .i64 t439)).setCell ⟨gb443,2,none⟩ (.bool t440)).setCell ⟨gb443,3,none⟩ (.int .i64 t441)) w.heap.size (fun _ => True) (.slice (some ad437) t408.length co8) t408):=⟨by (with_reducible repeat (first | apply Kd.R_alloc | apply Kd.R_drewN | apply Kd.R_drew));exact Kd.R_mono (Kd.R_far (p:=⟨gb443,3,none⟩) (Kd.R_far (p:=⟨gb443,2,none⟩) (Kd.R_far (p:=⟨gb443,1,none⟩) (Kd.R_far (p:=⟨gb443,0,none⟩) (Kd.R_types HO_4.out BK443.out (by decide)) (fun _ hk => hk.2) (.string t438)) (fun _ hk => hk.2) (.int .i64 t439)) (fun _ hk => hk.2) (.bool t440)) (fun _ hk => hk.2) (.int .i64 t441)) (fun _ hk => trivial)⟩
        have n2_ : Aside0 (Kd.R k27 27 ((((w43.setCell ⟨gb443,0,none⟩ (.string t438)).setCell ⟨gb443,1,none⟩ (.int .i64 t439)).setCell ⟨gb443,2,none⟩ (.bool t440)).setCell ⟨gb443,3,none⟩ (.int .i64 t441)) w.heap.size (fun k_ => some k_ ≠ (.slice Ao7 t407.length co7 : Value).ownBlock ∧ some k_ ≠ (.slice Ao48 t426.length co48 : Value).ownBlock ∧ k_ ≠ gb443) v415 t414):=⟨by (with_reducible repeat (first | apply Kd.R_alloc | apply Kd.R_drewN | apply Kd.R_drew));exact Kd.R_mono (Kd.R_far (p:=⟨gb443,3,none⟩) (Kd.R_far (p:=⟨gb443,2,none⟩) (Kd.R_far (p:=⟨gb443,1,none⟩) (Kd.R_far (p:=⟨gb443,0,none⟩) (Kd.R_mono HO_6.out (fun k_ hk => (⟨hk,hk.2.2⟩ : _ ∧ k_ ≠ gb443))) (fun _ hk => hk.2) (.string t438)) (fun _ hk => hk.2) (.int .i64 t439)) (fun _ hk => hk.2) (.bool t440)) (fun _ hk => hk.2) (.int .i64 t441)) (fun _ hk => ⟨hk.1.1,⟨hk.1.2.1,hk.1.2.2⟩⟩)⟩
        have n3_ : Aside0 (Kd.R k27 27 ((((w43.setCell ⟨gb443,0,none⟩ (.string t438)).setCell ⟨gb443,1,none⟩ (.int .i64 t439)).setCell ⟨gb443,2,none⟩ (.bool t440)).setCell ⟨gb443,3,none⟩ (.int .i64 t441)) w.heap.size (fun k_ => some k_ ≠ (.slice Ao7 t407.length co7 : Value).ownBlock ∧ some k_ ≠ (v415 : Value).ownBlock ∧ k_ ≠ gb443) (.slice Ao48 t426.length co48) t426):=⟨by (with_reducible repeat (first | apply Kd.R_alloc | apply Kd.R_drewN | apply Kd.R_drew));exact Kd.R_mono (Kd.R_far (p:=⟨gb443,3,none⟩) (Kd.R_far (p:=⟨gb443,2,none⟩) (Kd.R_far (p:=⟨gb443,1,none⟩) (Kd.R_far (p:=⟨gb443,0,none⟩) (Kd.R_mono HO_7.out (fun k_ hk => (⟨hk,hk.2.2⟩ : _ ∧ k_ ≠ gb443))) (fun _ hk => hk.2) (.string t438)) (fun _ hk => hk.2) (.int .i64 t439)) (fun _ hk => hk.2) (.bool t440)) (fun _ hk => hk.2) (.int .i64 t441)) (fun _ hk => ⟨hk.1.1,⟨hk.1.2.1,hk.1.2.2⟩⟩)⟩
        have n4_ : Aside0 (Kd.R Kd.string 9 ((((w43.setCell ⟨gb443,0,none⟩ (.string t438)).setCell ⟨gb443,1,none⟩ (.int .i64 t439)).setCell ⟨gb443,2,none⟩ (.bool t440)).setCell ⟨gb443,3,none⟩ (.int .i64 t441)) w.heap.size (fun _ => True) (.slice (some ad436) t429.length co32) t429):=⟨by (with_reducible repeat (first | apply Kd.R_alloc | apply Kd.R_drewN | apply Kd.R_drew));exact Kd.R_mono (Kd.R_far (p:=⟨gb443,3,none⟩) (Kd.R_far (p:=⟨gb443,2,none⟩) (Kd.R_far (p:=⟨gb443,1,none⟩) (Kd.R_far (p:=⟨gb443,0,none⟩) (Kd.R_types HO_8.out BK443.out (by decide)) (fun _ hk => hk.2) (.string t438)) (fun _ hk => hk.2) (.int .i64 t439)) (fun _ hk => hk.2) (.bool t440)) (fun _ hk => hk.2) (.int .i64 t441)) (fun _ hk => trivial)⟩
        have n5_ : Aside0 (((((w43.setCell ⟨gb443,0,none⟩ (.string t438)).setCell ⟨gb443,1,none⟩ (.int .i64 t439)).setCell ⟨gb443,2,none⟩ (.bool t440)).setCell ⟨gb443,3,none⟩ (.int .i64 t441)).heap[gb443]? = some (.cells #[.string t438,.int .i64 t439,.bool t440,.int .i64 t441] 27 (0,0))):=⟨by (with_reducible repeat (first | refine blk_drewN ?_ _ | refine blk_drew ?_ | refine blk_alloc ?_ _));refine blk_put (cs:=#[.string t438,.int .i64 t439,.bool t440,.int .i64 0]) ?_ 3 _ rfl;(with_reducible repeat (first | refine blk_drewN ?_ _ | refine blk_drew ?_ | refine blk_alloc ?_ _));refine blk_put (cs:=#[.string t438,.int .i64 t439,.bool false,.int .i64 0]) ?_ 2 _ rfl;(with_reducible repeat (first | refine blk_drewN ?_ _ | refine blk_drew ?_ | refine blk_alloc ?_ _));refine blk_put (cs:=#[.string t438,.int .i64 0,.bool false,.int .i64 0]) ?_ 1 _ rfl;(with_reducible repeat (first | refine blk_drewN ?_ _ | refine blk_drew ?_ | refine blk_alloc ?_ _));refine blk_put (cs:=#[.string (⟨#[]⟩ : ByteArray),.int .i64 0,.bool false,.int .i64 0]) ?_ 0 _ rfl;(with_reducible repeat (first | refine blk_drewN ?_ _ | refine blk_drew ?_ | refine blk_alloc ?_ _));exact BK443.out⟩
        have n6_ : Aside0 (Below w.heap.size w ((((w43.setCell ⟨gb443,0,none⟩ (.string t438)).setCell ⟨gb443,1,none⟩ (.int .i64 t439)).setCell ⟨gb443,2,none⟩ (.bool t440)).setCell ⟨gb443,3,none⟩ (.int .i64 t441))):=⟨by repeat (first | (with_reducible first | exact HB.out | apply below_alloc | apply pw_below_drewN | apply below_drew1 | refine below_set ?_ GE443.out) | exact HB.out)⟩
        (try clear HO_3)
        (try clear HO_4)
        (try clear HO_6)
        (try clear HO_7)
        (try clear HO_8)
        (try clear BK443)
        (try clear HB)
        generalize ((((w43.setCell ⟨gb443,0,none⟩ (.string t438)).setCell ⟨gb443,1,none⟩ (.int .i64 t439)).setCell ⟨gb443,2,none⟩ (.bool t440)).setCell ⟨gb443,3,none⟩ (.int .i64 t441)) = w49 at n0_ n1_ n2_ n3_ n4_ n5_ n6_ ⊢
        have HO_3:=n0_
        have HO_4:=n1_
        have HO_6:=n2_
        have HO_7:=n3_
        have HO_8:=n4_
        have BK443:=n5_
        have HB:=n6_
        clear n0_ n1_ n2_ n3_ n4_ n5_ n6_
        have n0_:=Aside0.mk (Kd.R_drew HO_3.out)
        have n1_:=Aside0.mk (Kd.R_drew HO_4.out)
        have n2_:=Aside0.mk (Kd.R_drew HO_6.out)
        have n3_:=Aside0.mk (Kd.R_drew HO_7.out)
        have n4_:=Aside0.mk (Kd.R_drew HO_8.out)
        have n5_:=Aside0.mk (blk_drew BK443.out)
        have n6_:=Aside0.mk (below_drew1 HB.out)
        clear HO_3
        clear HO_4
        clear HO_6
        clear HO_7
        clear HO_8
        clear BK443
        clear HB
        have HO_3:=n0_
        have HO_4:=n1_
        have HO_6:=n2_
        have HO_7:=n3_
        have HO_8:=n4_
        have BK443:=n5_
        have HB:=n6_
        clear n0_ n1_ n2_ n3_ n4_ n5_ n6_
        have p444 : 0 ≤ (x9_2 : Int):=of_decide_eq_true (by first | (with_reducible assumption) | assumption)
        have q444 : x9_2 < (t429.length : Int):=of_decide_eq_true (by first | (with_reducible assumption) | assumption)
        obtain ⟨ad444,e444,hx444_0⟩:=Kd.at_string (Kd.R_reads' HO_8.out).2.2 x9_2 p444 q444
        obtain rfl : ad436 = ad444:=(by injection e444)
        replace p444:=eq_true p444
        replace q444:=eq_true q444
        have p445 : 0 ≤ (x10_3 : Int):=of_decide_eq_true (by first | (with_reducible assumption) | assumption)
        have q445 : x10_3 < (t408.length : Int):=of_decide_eq_true (by first | (with_reducible assumption) | assumption)
        obtain ⟨ad445,e445,hx445_0⟩:=Kd.at_int (Kd.R_reads' HO_4.out).2.2 x10_3 p445 q445
        obtain rfl : ad437 = ad445:=(by injection e445)
        replace p445:=eq_true p445
        replace q445:=eq_true q445
        refine start_ (n:=16) (S:=fun w' => w'.cell? (ad436.add (x9_2).toNat) = some (.string (rdOf ByteArray.empty t429 x9_2)) ∧ w'.cell? (ad437.add (x10_3).toNat) = some (.int .i64 (rd t408 x10_3))) (ds:=[]) #[false,false,false,false,false,false,false,false,false,false,false,false,false,false,false,false] T14q1 rfl rfl ⟨hx444_0,hx445_0⟩ (fun hHeld => ?_);refine with_tabW laws_FnRunTrimTop.tab16 laws_FnRunTrimTop.bits16 (fun HT_ HW_ => ?_)
        generalize w49.drew = w50 at HO_3 HO_4 HO_6 HO_7 HO_8 BK443 HB hx444_0 hx445_0 hHeld ⊢
        refine pm_ (i:=0) (N:=some 77) (v:=?_) (a':=?_) rfl rfl (any_of HT_.out T14q1) (fun _ _ _ h => h) (Or.inl ⟨by rfl,?_⟩) ?_ ?_
        rotate_left
        ·intro w'
         go_simp
         with_reducible rfl
        rotate_left
        ·simp only [PU]
         rfl
        refine pm_ (i:=1) (N:=some 78) (v:=?_) (a':=?_) rfl rfl (any_of HT_.out T14q1) (fun _ _ _ h => h) (Or.inl ⟨by rfl,?_⟩) ?_ ?_
        rotate_left
        ·intro w'
         go_simp
         with_reducible rfl
        rotate_left
        ·simp only [PU]
         rfl
        refine pm_ (i:=2) (N:=some 79) (v:=?_) (a':=?_) rfl rfl (any_of HT_.out T14q1) (fun _ _ _ h => h) (Or.inl ⟨by rfl,?_⟩) ?_ ?_
        rotate_left
        ·intro w'
         go_simp
         with_reducible rfl
        rotate_left
        ·simp only [PU]
         rfl
        refine pm_ (i:=3) (N:=some 80) (v:=?_) (a':=?_) rfl rfl (any_of HT_.out T14q1) (fun _ _ _ h => h) (Or.inl ⟨by rfl,?_⟩) ?_ ?_
        rotate_left
        ·intro w'
         go_simp
         with_reducible rfl
        rotate_left
        ·simp only [PU]
         rfl
        refine pm_ (i:=5) (N:=some 82) (v:=?_) (a':=?_) rfl rfl (any_of HT_.out T14q1) (fun _ _ _ h => h) (Or.inl ⟨by rfl,?_⟩) ?_ ?_
        rotate_left
        ·intro w'
         go_simp
         with_reducible rfl
        rotate_left
        ·simp only [PU]
         rfl
        refine pm_ (i:=6) (N:=some 83) (v:=?_) (a':=?_) rfl rfl (any_of HT_.out T14q1) (fun _ _ _ h => h) (Or.inl ⟨by rfl,?_⟩) ?_ ?_
        rotate_left
        ·intro w'
         go_simp
         with_reducible rfl
        rotate_left
        ·simp only [PU]
         rfl
        refine pm_ (i:=7) (N:=some 84) (v:=?_) (a':=?_) rfl rfl (any_of HT_.out T14q1) (fun _ _ _ h => h) (Or.inl ⟨by rfl,?_⟩) ?_ ?_
        rotate_left
        ·intro w'
         go_simp
         with_reducible rfl
        rotate_left
        ·simp only [PU]
         rfl
        refine tm_ (i:=4) (N:=some 81) (v:=?_) (a':=?_) rfl rfl (take_ofW HT_.out HW_.out T14q1) (fun _ _ _ h => h) (Or.inl ⟨by rfl,?_⟩) hHeld ?_ ?_
        rotate_left
        ·rintro w' ⟨s0,s1⟩
         go_simp
         with_reducible rfl
        rotate_left
        ·simp only [PU]
         rfl
        refine tm_ (i:=8) (N:=some 85) (v:=?_) (a':=?_) rfl rfl (take_ofW HT_.out HW_.out T14q1) (fun _ _ _ h => h) (Or.inl ⟨by rfl,?_⟩) hHeld ?_ ?_
        rotate_left
        ·rintro w' ⟨s0,s1⟩
         go_simp
         with_reducible rfl
        rotate_left
        ·simp only [PU]
         rfl
        refine join_ (σ:=Nat) 2 #[true,true,true,true,true,true,true,true,true,true,true,true,true,true,false,false] (fun s_ => [(86,.tuple #[.agg #[.string t446,.int .i64 t447,.bool t448,.int .i64 t449],.bool t450]),(13,.pointer (some ⟨s_,0,none⟩)),(76,.tuple #[.agg #[.string t446,.int .i64 t447,.bool t448,.int .i64 t449],.bool t450]),(87,.agg #[.string t446,.int .i64 t447,.bool t448,.int .i64 t449]),(88,.bool t450)]) (fun s_ w' => (w'.cell? (ad436.add (x9_2).toNat) = some (.string (rdOf ByteArray.empty t429 x9_2)) ∧ w'.cell? (ad437.add (x10_3).toNat) = some (.int .i64 (rd t408 x10_3))) ∧ (Kd.R k27 27 w' w.heap.size (fun k_ => some k_ ≠ (v415 : Value).ownBlock ∧ some k_ ≠ (.slice Ao48 t426.length co48 : Value).ownBlock ∧ k_ ≠ gb443 ∧ k_ ≠ s_) (.slice Ao7 t407.length co7) t407) ∧ (Kd.R (Kd.int .i64) 3 w' w.heap.size (fun _ => True) (.slice (some ad437) t408.length co8) t408) ∧ (Kd.R k27 27 w' w.heap.size (fun k_ => some k_ ≠ (.slice Ao7 t407.length co7 : Value).ownBlock ∧ some k_ ≠ (.slice Ao48 t426.length co48 : Value).ownBlock ∧ k_ ≠ gb443 ∧ k_ ≠ s_) v415 t414) ∧ (Kd.R k27 27 w' w.heap.size (fun k_ => some k_ ≠ (.slice Ao7 t407.length co7 : Value).ownBlock ∧ some k_ ≠ (v415 : Value).ownBlock ∧ k_ ≠ gb443 ∧ k_ ≠ s_) (.slice Ao48 t426.length co48) t426) ∧ (Kd.R Kd.string 9 w' w.heap.size (fun _ => True) (.slice (some ad436) t429.length co32) t429) ∧ (w'.heap[gb443]? = some (.cells #[.string t438,.int .i64 t439,.bool t440,.int .i64 t441] 27 (0,0))) ∧ (w'.heap[s_]? = some (.cells #[.string (⟨#[]⟩ : ByteArray),.int .i64 0,.bool false,.int .i64 0] 27 (0,0))) ∧ (w.heap.size ≤ s_) ∧ (w.heap.size ≤ s_) ∧ (gb443 ≠ s_) ∧ (s_ ≠ gb443) ∧ (Below w.heap.size w w')) ?_ ?_
        rotate_left
        ·intro hCont
         refine two_ (i:=9) (j:=13) (Ni:=some 86) (Nj:=some 13) #[true,true,true,true,true,true,true,true,true,true,false,false,false,false,false,false] #[true,true,true,true,true,true,true,true,true,false,false,false,false,true,false,false] rfl rfl rfl rfl (two_of HT_.out T14q1) (by decide) (by decide) (fun K hK => ?_) (fun K hK => ?_)
         ·skip
          refine goes_ Try.func17 T14q1 rfl #[.slice Ao48 t426.length co48,.string (rdOf ByteArray.empty t429 x9_2),.int .i64 (rd t408 x10_3)] (by rfl) rfl rfl T14q2 ?_
          with_reducible refine (impl_RunAt.calls k3 _ _ t426 (rdOf ByteArray.empty t429 x9_2) (rd t408 x10_3) t446 t447 t448 t449 t450 _ ?side1 ?side2 A38.out).mono ?_
          (case side1 => repeat (first | exact (Kd.R_reads' HO_7.out).2.2 | (with_reducible refine Kd.C_alloc ?_ _) | (with_reducible refine Kd.C_drewN ?_ _) | (with_reducible refine Kd.C_drew ?_)))
          (case side2 => exact (Kd.R_reads' HO_7.out).2.1)
          rintro e w51 ⟨rfl,hb⟩
          have HS0_:=(hb.cell (World.block_lt_of_cell? _ _ (hHeld.1))).trans (hHeld.1)
          have HS1_:=(hb.cell (World.block_lt_of_cell? _ _ (hHeld.2))).trans (hHeld.2)
          refine ⟨_,rfl,?_⟩
          have n0_:=Aside0.mk (Kd.R_below T14q6 hb)
          have n1_:=Aside0.mk (Kd.R_below T14q7 hb)
          have n2_:=Aside0.mk (Kd.R_below T14q8 hb)
          have n3_:=Aside0.mk (Kd.R_below T14q9 hb)
          have n4_:=Aside0.mk (Kd.R_below T14q10 hb)
          have n5_:=Aside0.mk (blk_below (g:=gb443) (o:=.cells #[.string t438,.int .i64 t439,.bool t440,.int .i64 t441] 27 (0,0)) (by (with_reducible repeat (first | refine blk_drewN ?_ _ | refine blk_drew ?_ | refine blk_alloc ?_ _));exact BK443.out) hb)
          have n6_:=Aside0.mk (below_step (by repeat (first | (with_reducible first | exact HB.out | apply below_alloc | apply pw_below_drewN | apply below_drew1 | refine below_set ?_ GE443.out) | exact HB.out)) hb)
          clear HO_3
          clear HO_4
          clear HO_6
          clear HO_7
          clear HO_8
          clear BK443
          clear HB
          have HO_3:=n0_
          have HO_4:=n1_
          have HO_6:=n2_
          have HO_7:=n3_
          have HO_8:=n4_
          have BK443:=n5_
          have HB:=n6_
          clear n0_ n1_ n2_ n3_ n4_ n5_ n6_
          (try clear hb)
          (try clear hb2)
          (try clear hk)
          (try clear hi)
          refine hK.out _ _ ⟨HS0_,HS1_⟩ (fun hHeld => ?_)
          clear hK K
          refine norm_ (a':=?_) ?_ ?_
          rotate_left
          ·show Act.put _ (some 86) _ = _
           simp only [PU]
           rfl
          refine pm_ (i:=10) (N:=some 76) (v:=?_) (a':=?_) rfl rfl (any_of HT_.out T14q1) (fun _ _ _ h => h) (Or.inl ⟨by rfl,?_⟩) ?_ ?_
          rotate_left
          ·intro w'
           go_simp
           with_reducible rfl
          rotate_left
          ·simp only [PU]
           rfl
          refine pm_ (i:=11) (N:=some 87) (v:=?_) (a':=?_) rfl rfl (any_of HT_.out T14q1) (fun _ _ _ h => h) (Or.inl ⟨by rfl,?_⟩) ?_ ?_
          rotate_left
          ·intro w'
           go_simp
           with_reducible rfl
          rotate_left
          ·simp only [PU]
           rfl
          refine pm_ (i:=12) (N:=some 88) (v:=?_) (a':=?_) rfl rfl (any_of HT_.out T14q1) (fun _ _ _ h => h) (Or.inl ⟨by rfl,?_⟩) ?_ ?_
          rotate_left
          ·intro w'
           go_simp
           with_reducible rfl
          rotate_left
          ·simp only [PU]
           rfl
          refine om_ (i:=13) (N:=some 13) rfl rfl (one_of HT_.out T14q1) (by decide) (fun K hK => ?_)
          refine box_step ?hg (N:=13) ?hd (cs:=#[.string (⟨#[]⟩ : ByteArray),.int .i64 0,.bool false,.int .i64 0]) (t:=27) ?hr ?_;(case hd => rfl);(case hg => rfl);(case hr => first | (go_simp;done) | (go_simp;rfl))
          intro gb451 hg w52 hbox hb
          have HS0_:=(hb.cell (World.block_lt_of_cell? _ _ (hHeld.1))).trans (hHeld.1)
          have HS1_:=(hb.cell (World.block_lt_of_cell? _ _ (hHeld.2))).trans (hHeld.2)
          have n0_:=Aside0.mk (Kd.R_below (Kd.R_elderB T14q6 gb451 (Nat.le_of_eq hg.symm)) hb)
          have n1_:=Aside0.mk (Kd.R_below T14q7 hb)
          have n2_:=Aside0.mk (Kd.R_below (Kd.R_elderB T14q8 gb451 (Nat.le_of_eq hg.symm)) hb)
          have n3_:=Aside0.mk (Kd.R_below (Kd.R_elderB T14q9 gb451 (Nat.le_of_eq hg.symm)) hb)
          have n4_:=Aside0.mk (Kd.R_below T14q10 hb)
          have n5_:=Aside0.mk (blk_below (g:=gb443) (o:=.cells #[.string t438,.int .i64 t439,.bool t440,.int .i64 t441] 27 (0,0)) (by (with_reducible repeat (first | refine blk_drewN ?_ _ | refine blk_drew ?_ | refine blk_alloc ?_ _));exact BK443.out) hb)
          have n6_:=Aside0.mk (below_step (by repeat (first | (with_reducible first | exact HB.out | apply below_alloc | apply pw_below_drewN | apply below_drew1 | refine below_set ?_ GE443.out) | exact HB.out)) hb)
          have n7_:=Aside0.mk (hbox)
          have n8_:=Aside0.mk ((by rw [hg];exact (below_size (by repeat (first | (with_reducible first | exact HB.out | apply below_alloc | apply pw_below_drewN | apply below_drew1 | refine below_set ?_ GE443.out) | exact HB.out))) : w.heap.size ≤ gb451))
          have n9_:=Aside0.mk ((by rw [hg];exact (below_size (by repeat (first | (with_reducible first | exact HB.out | apply below_alloc | apply pw_below_drewN | apply below_drew1 | refine below_set ?_ GE443.out) | exact HB.out))) : w.heap.size ≤ gb451))
          have n10_:=Aside0.mk ((by rw [hg];exact Nat.ne_of_lt (blk_lt (g:=gb443) (o:=.cells #[.string t438,.int .i64 t439,.bool t440,.int .i64 t441] 27 (0,0)) (by (with_reducible repeat (first | refine blk_drewN ?_ _ | refine blk_drew ?_ | refine blk_alloc ?_ _));exact BK443.out)) : gb443 ≠ gb451))
          have n11_:=Aside0.mk ((by rw [hg];exact Nat.ne_of_gt (blk_lt (g:=gb443) (o:=.cells #[.string t438,.int .i64 t439,.bool t440,.int .i64 t441] 27 (0,0)) (by (with_reducible repeat (first | refine blk_drewN ?_ _ | refine blk_drew ?_ | refine blk_alloc ?_ _));exact BK443.out)) : gb451 ≠ gb443))
          clear HO_3
          clear HO_4
          clear HO_6
          clear HO_7
          clear HO_8
          clear BK443
          clear HB
          have HO_3:=n0_
          have HO_4:=n1_
          have HO_6:=n2_
          have HO_7:=n3_
          have HO_8:=n4_
          have BK443:=n5_
          have HB:=n6_
          have BK451:=n7_
          have GW451:=n8_
          have GE451:=n9_
          have NB443_451:=n10_
          have NB451_443:=n11_
          clear n0_ n1_ n2_ n3_ n4_ n5_ n6_ n7_ n8_ n9_ n10_ n11_
          clear hb hbox hg
          refine hK.out _ _ ⟨HS0_,HS1_⟩ (fun hHeld => ?_)
          clear hK K
          refine norm_ (a':=?_) ?_ ?_
          rotate_left
          ·show Act.put _ (some 13) _ = _
           simp only [PU]
           rfl
          exact norm_ (by simp only [putAll,Act.put,List.setIfInBounds_toArray,List.set_cons_zero,List.set_cons_succ]) (hCont (gb451) _ ⟨hHeld,T14q14,T14q7,T14q15,T14q16,T14q10,(by (with_reducible repeat (first | refine blk_drewN ?_ _ | refine blk_drew ?_ | refine blk_alloc ?_ _));exact BK443.out),(by (with_reducible repeat (first | refine blk_drewN ?_ _ | refine blk_drew ?_ | refine blk_alloc ?_ _));exact BK451.out),GW451.out,GE451.out,NB443_451.out,NB451_443.out,(by repeat (first | (with_reducible first | exact HB.out | apply below_alloc | apply pw_below_drewN | apply below_drew1 | refine below_set ?_ GE443.out | refine below_set ?_ GE451.out) | exact HB.out))⟩)
         skip
         refine box_step ?hg (N:=13) ?hd (cs:=#[.string (⟨#[]⟩ : ByteArray),.int .i64 0,.bool false,.int .i64 0]) (t:=27) ?hr ?_;(case hd => rfl);(case hg => rfl);(case hr => first | (go_simp;done) | (go_simp;rfl))
         intro gb451 hg w51 hbox hb
         have HS0_:=(hb.cell (World.block_lt_of_cell? _ _ (hHeld.1))).trans (hHeld.1)
         have HS1_:=(hb.cell (World.block_lt_of_cell? _ _ (hHeld.2))).trans (hHeld.2)
         have n0_:=Aside0.mk (Kd.R_below (Kd.R_elderB T14q6 gb451 (Nat.le_of_eq hg.symm)) hb)
         have n1_:=Aside0.mk (Kd.R_below T14q7 hb)
         have n2_:=Aside0.mk (Kd.R_below (Kd.R_elderB T14q8 gb451 (Nat.le_of_eq hg.symm)) hb)
         have n3_:=Aside0.mk (Kd.R_below (Kd.R_elderB T14q9 gb451 (Nat.le_of_eq hg.symm)) hb)
         have n4_:=Aside0.mk (Kd.R_below T14q10 hb)
         have n5_:=Aside0.mk (blk_below (g:=gb443) (o:=.cells #[.string t438,.int .i64 t439,.bool t440,.int .i64 t441] 27 (0,0)) (by (with_reducible repeat (first | refine blk_drewN ?_ _ | refine blk_drew ?_ | refine blk_alloc ?_ _));exact BK443.out) hb)
         have n6_:=Aside0.mk (below_step (by repeat (first | (with_reducible first | exact HB.out | apply below_alloc | apply pw_below_drewN | apply below_drew1 | refine below_set ?_ GE443.out) | exact HB.out)) hb)
         have n7_:=Aside0.mk (hbox)
         have n8_:=Aside0.mk ((by rw [hg];exact (below_size (by repeat (first | (with_reducible first | exact HB.out | apply below_alloc | apply pw_below_drewN | apply below_drew1 | refine below_set ?_ GE443.out) | exact HB.out))) : w.heap.size ≤ gb451))
         have n9_:=Aside0.mk ((by rw [hg];exact (below_size (by repeat (first | (with_reducible first | exact HB.out | apply below_alloc | apply pw_below_drewN | apply below_drew1 | refine below_set ?_ GE443.out) | exact HB.out))) : w.heap.size ≤ gb451))
         have n10_:=Aside0.mk ((by rw [hg];exact Nat.ne_of_lt (blk_lt (g:=gb443) (o:=.cells #[.string t438,.int .i64 t439,.bool t440,.int .i64 t441] 27 (0,0)) (by (with_reducible repeat (first | refine blk_drewN ?_ _ | refine blk_drew ?_ | refine blk_alloc ?_ _));exact BK443.out)) : gb443 ≠ gb451))
         have n11_:=Aside0.mk ((by rw [hg];exact Nat.ne_of_gt (blk_lt (g:=gb443) (o:=.cells #[.string t438,.int .i64 t439,.bool t440,.int .i64 t441] 27 (0,0)) (by (with_reducible repeat (first | refine blk_drewN ?_ _ | refine blk_drew ?_ | refine blk_alloc ?_ _));exact BK443.out)) : gb451 ≠ gb443))
         clear HO_3
         clear HO_4
         clear HO_6
         clear HO_7
         clear HO_8
         clear BK443
         clear HB
         have HO_3:=n0_
         have HO_4:=n1_
         have HO_6:=n2_
         have HO_7:=n3_
         have HO_8:=n4_
         have BK443:=n5_
         have HB:=n6_
         have BK451:=n7_
         have GW451:=n8_
         have GE451:=n9_
         have NB443_451:=n10_
         have NB451_443:=n11_
         clear n0_ n1_ n2_ n3_ n4_ n5_ n6_ n7_ n8_ n9_ n10_ n11_
         clear hb hbox hg
         refine hK.out _ _ ⟨HS0_,HS1_⟩ (fun hHeld => ?_)
         clear hK K
         refine norm_ (a':=?_) ?_ ?_
         rotate_left
         ·show Act.put _ (some 13) _ = _
          simp only [PU]
          rfl
         refine om_ (i:=9) (N:=some 86) rfl rfl (one_of HT_.out T14q1) (by decide) (fun K hK => ?_)
         refine goes_ Try.func17 T14q1 rfl #[.slice Ao48 t426.length co48,.string (rdOf ByteArray.empty t429 x9_2),.int .i64 (rd t408 x10_3)] (by rfl) rfl rfl T14q2 ?_
         with_reducible refine (impl_RunAt.calls k3 _ _ t426 (rdOf ByteArray.empty t429 x9_2) (rd t408 x10_3) t446 t447 t448 t449 t450 _ ?side1 ?side2 A38.out).mono ?_
         (case side1 => repeat (first | exact (Kd.R_reads' HO_7.out).2.2 | (with_reducible refine Kd.C_alloc ?_ _) | (with_reducible refine Kd.C_drewN ?_ _) | (with_reducible refine Kd.C_drew ?_)))
         (case side2 => exact (Kd.R_reads' HO_7.out).2.1)
         rintro e w52 ⟨rfl,hb⟩
         have HS0_:=(hb.cell (World.block_lt_of_cell? _ _ (hHeld.1))).trans (hHeld.1)
         have HS1_:=(hb.cell (World.block_lt_of_cell? _ _ (hHeld.2))).trans (hHeld.2)
         refine ⟨_,rfl,?_⟩
         have n0_:=Aside0.mk (Kd.R_below T14q6 hb)
         have n1_:=Aside0.mk (Kd.R_below T14q7 hb)
         have n2_:=Aside0.mk (Kd.R_below T14q8 hb)
         have n3_:=Aside0.mk (Kd.R_below T14q9 hb)
         have n4_:=Aside0.mk (Kd.R_below T14q10 hb)
         have n5_:=Aside0.mk (blk_below (g:=gb443) (o:=.cells #[.string t438,.int .i64 t439,.bool t440,.int .i64 t441] 27 (0,0)) (by (with_reducible repeat (first | refine blk_drewN ?_ _ | refine blk_drew ?_ | refine blk_alloc ?_ _));exact BK443.out) hb)
         have n6_:=Aside0.mk (blk_below (g:=gb451) (o:=.cells #[.string (⟨#[]⟩ : ByteArray),.int .i64 0,.bool false,.int .i64 0] 27 (0,0)) (by (with_reducible repeat (first | refine blk_drewN ?_ _ | refine blk_drew ?_ | refine blk_alloc ?_ _));exact BK451.out) hb)
         have n7_:=Aside0.mk (below_step (by repeat (first | (with_reducible first | exact HB.out | apply below_alloc | apply pw_below_drewN | apply below_drew1 | refine below_set ?_ GE443.out | refine below_set ?_ GE451.out) | exact HB.out)) hb)
         clear HO_3
         clear HO_4
         clear HO_6
         clear HO_7
         clear HO_8
         clear BK443
         clear BK451
         clear HB
         have HO_3:=n0_
         have HO_4:=n1_
         have HO_6:=n2_
         have HO_7:=n3_
         have HO_8:=n4_
         have BK443:=n5_
         have BK451:=n6_
         have HB:=n7_
         clear n0_ n1_ n2_ n3_ n4_ n5_ n6_ n7_
         (try clear hb)
         (try clear hb2)
         (try clear hk)
         (try clear hi)
         refine hK.out _ _ ⟨HS0_,HS1_⟩ (fun hHeld => ?_)
         clear hK K
         refine norm_ (a':=?_) ?_ ?_
         rotate_left
         ·show Act.put _ (some 86) _ = _
          simp only [PU]
          rfl
         refine pm_ (i:=10) (N:=some 76) (v:=?_) (a':=?_) rfl rfl (any_of HT_.out T14q1) (fun _ _ _ h => h) (Or.inl ⟨by rfl,?_⟩) ?_ ?_
         rotate_left
         ·intro w'
          go_simp
          with_reducible rfl
         rotate_left
         ·simp only [PU]
          rfl
         refine pm_ (i:=11) (N:=some 87) (v:=?_) (a':=?_) rfl rfl (any_of HT_.out T14q1) (fun _ _ _ h => h) (Or.inl ⟨by rfl,?_⟩) ?_ ?_
         rotate_left
         ·intro w'
          go_simp
          with_reducible rfl
         rotate_left
         ·simp only [PU]
          rfl
         refine pm_ (i:=12) (N:=some 88) (v:=?_) (a':=?_) rfl rfl (any_of HT_.out T14q1) (fun _ _ _ h => h) (Or.inl ⟨by rfl,?_⟩) ?_ ?_
         rotate_left
         ·intro w'
          go_simp
          with_reducible rfl
         rotate_left
         ·simp only [PU]
          rfl
         exact norm_ (by simp only [putAll,Act.put,List.setIfInBounds_toArray,List.set_cons_zero,List.set_cons_succ]) (hCont (gb451) _ ⟨hHeld,T14q14,T14q7,T14q15,T14q16,T14q10,(by (with_reducible repeat (first | refine blk_drewN ?_ _ | refine blk_drew ?_ | refine blk_alloc ?_ _));exact BK443.out),(by (with_reducible repeat (first | refine blk_drewN ?_ _ | refine blk_drew ?_ | refine blk_alloc ?_ _));exact BK451.out),GW451.out,GE451.out,NB443_451.out,NB451_443.out,(by repeat (first | (with_reducible first | exact HB.out | apply below_alloc | apply pw_below_drewN | apply below_drew1 | refine below_set ?_ GE443.out | refine below_set ?_ GE451.out) | exact HB.out))⟩)
        rintro gb451 w53 ⟨hS_,h0_,h1_,h2_,h3_,h4_,h5_,h6_,h7_,h8_,h9_,h10_,h11_⟩
        have n0_ : Aside0 (Kd.R k27 27 w53 w.heap.size (fun k_ => some k_ ≠ (v415 : Value).ownBlock ∧ some k_ ≠ (.slice Ao48 t426.length co48 : Value).ownBlock ∧ k_ ≠ gb443 ∧ k_ ≠ gb451) (.slice Ao7 t407.length co7) t407):=⟨h0_⟩
        have n1_ : Aside0 (Kd.R (Kd.int .i64) 3 w53 w.heap.size (fun _ => True) (.slice (some ad437) t408.length co8) t408):=⟨h1_⟩
        have n2_ : Aside0 (Kd.R k27 27 w53 w.heap.size (fun k_ => some k_ ≠ (.slice Ao7 t407.length co7 : Value).ownBlock ∧ some k_ ≠ (.slice Ao48 t426.length co48 : Value).ownBlock ∧ k_ ≠ gb443 ∧ k_ ≠ gb451) v415 t414):=⟨h2_⟩
        have n3_ : Aside0 (Kd.R k27 27 w53 w.heap.size (fun k_ => some k_ ≠ (.slice Ao7 t407.length co7 : Value).ownBlock ∧ some k_ ≠ (v415 : Value).ownBlock ∧ k_ ≠ gb443 ∧ k_ ≠ gb451) (.slice Ao48 t426.length co48) t426):=⟨h3_⟩
        have n4_ : Aside0 (Kd.R Kd.string 9 w53 w.heap.size (fun _ => True) (.slice (some ad436) t429.length co32) t429):=⟨h4_⟩
        have n5_ : Aside0 (w53.heap[gb443]? = some (.cells #[.string t438,.int .i64 t439,.bool t440,.int .i64 t441] 27 (0,0))):=⟨h5_⟩
        have n6_ : Aside0 (w53.heap[gb451]? = some (.cells #[.string (⟨#[]⟩ : ByteArray),.int .i64 0,.bool false,.int .i64 0] 27 (0,0))):=⟨h6_⟩
        have n7_ : Aside0 (w.heap.size ≤ gb451):=⟨h7_⟩
        have n8_ : Aside0 (w.heap.size ≤ gb451):=⟨h8_⟩
        have n9_ : Aside0 (gb443 ≠ gb451):=⟨h9_⟩
        have n10_ : Aside0 (gb451 ≠ gb443):=⟨h10_⟩
        have n11_ : Aside0 (Below w.heap.size w w53):=⟨h11_⟩
        clear HO_3
        clear HO_4
        clear HO_6
        clear HO_7
        clear HO_8
        clear BK443
        clear HB
        clear h0_ h1_ h2_ h3_ h4_ h5_ h6_ h7_ h8_ h9_ h10_ h11_
        have HO_3:=n0_
        have HO_4:=n1_
        have HO_6:=n2_
        have HO_7:=n3_
        have HO_8:=n4_
        have BK443:=n5_
        have BK451:=n6_
        have GW451:=n7_
        have GE451:=n8_
        have NB443_451:=n9_
        have NB451_443:=n10_
        have HB:=n11_
        clear n0_ n1_ n2_ n3_ n4_ n5_ n6_ n7_ n8_ n9_ n10_ n11_
        have hHeld : w53.cell? (ad436.add (x9_2).toNat) = some (.string (rdOf ByteArray.empty t429 x9_2)) ∧ w53.cell? (ad437.add (x10_3).toNat) = some (.int .i64 (rd t408 x10_3)):=hS_
        refine norm_ (a':=?_) ?_ ?_
        rotate_left
        ·simp only [putAll,Act.put,List.setIfInBounds_toArray,List.set_cons_zero,List.set_cons_succ]
         rfl
        refine om_ (i:=14) (N:=none) rfl rfl (one_of HT_.out T14q1) (by decide) (fun K hK => ?_)
        have hs54 : w53.cell? ⟨gb451,0,none⟩ = some (.string (⟨#[]⟩ : ByteArray)):=(blk_cell BK451.out 0).trans rfl
        have hfs54:=blk_frozen BK451.out 0
        have hns54_0:=NB443_451.out
        have hms54_0:=NB451_443.out
        have hs55 : w53.cell? ⟨gb451,1,none⟩ = some (.int .i64 0):=(blk_cell BK451.out 1).trans rfl
        have hfs55:=blk_frozen BK451.out 1
        have hns55_0:=NB443_451.out
        have hms55_0:=NB451_443.out
        have hs56 : w53.cell? ⟨gb451,2,none⟩ = some (.bool false):=(blk_cell BK451.out 2).trans rfl
        have hfs56:=blk_frozen BK451.out 2
        have hns56_0:=NB443_451.out
        have hms56_0:=NB451_443.out
        have hs57 : w53.cell? ⟨gb451,3,none⟩ = some (.int .i64 0):=(blk_cell BK451.out 3).trans rfl
        have hfs57:=blk_frozen BK451.out 3
        have hns57_0:=NB443_451.out
        have hms57_0:=NB451_443.out
        refine skip_ (w1:=?_) (by rfl) rfl ?_ ?_
        rotate_left
        ·go_simp
         rfl
        refine hK.out _ _ ⟨((cell_far (p:=⟨gb451,_,none⟩) (by first | exact Kd.own_blk (Kd.R_ne HO_8.out BK451.out (by decide)) | (rw [add_block];exact Kd.own_blk (Kd.R_ne HO_8.out BK451.out (by decide))) | (show (Addr.add _ _).block ≠ _;rw [add_block];exact Kd.own_blk (Kd.R_ne HO_8.out BK451.out (by decide))) | (dsimp only;exact Kd.own_blk (Kd.R_ne HO_8.out BK451.out (by decide)))) _).trans (((cell_far (p:=⟨gb451,_,none⟩) (by first | exact Kd.own_blk (Kd.R_ne HO_8.out BK451.out (by decide)) | (rw [add_block];exact Kd.own_blk (Kd.R_ne HO_8.out BK451.out (by decide))) | (show (Addr.add _ _).block ≠ _;rw [add_block];exact Kd.own_blk (Kd.R_ne HO_8.out BK451.out (by decide))) | (dsimp only;exact Kd.own_blk (Kd.R_ne HO_8.out BK451.out (by decide)))) _).trans (((cell_far (p:=⟨gb451,_,none⟩) (by first | exact Kd.own_blk (Kd.R_ne HO_8.out BK451.out (by decide)) | (rw [add_block];exact Kd.own_blk (Kd.R_ne HO_8.out BK451.out (by decide))) | (show (Addr.add _ _).block ≠ _;rw [add_block];exact Kd.own_blk (Kd.R_ne HO_8.out BK451.out (by decide))) | (dsimp only;exact Kd.own_blk (Kd.R_ne HO_8.out BK451.out (by decide)))) _).trans (((cell_far (p:=⟨gb451,_,none⟩) (by first | exact Kd.own_blk (Kd.R_ne HO_8.out BK451.out (by decide)) | (rw [add_block];exact Kd.own_blk (Kd.R_ne HO_8.out BK451.out (by decide))) | (show (Addr.add _ _).block ≠ _;rw [add_block];exact Kd.own_blk (Kd.R_ne HO_8.out BK451.out (by decide))) | (dsimp only;exact Kd.own_blk (Kd.R_ne HO_8.out BK451.out (by decide)))) _).trans (hHeld.1)))))))),((cell_far (p:=⟨gb451,_,none⟩) (by first | exact Kd.own_blk (Kd.R_ne HO_4.out BK451.out (by decide)) | (rw [add_block];exact Kd.own_blk (Kd.R_ne HO_4.out BK451.out (by decide))) | (show (Addr.add _ _).block ≠ _;rw [add_block];exact Kd.own_blk (Kd.R_ne HO_4.out BK451.out (by decide))) | (dsimp only;exact Kd.own_blk (Kd.R_ne HO_4.out BK451.out (by decide)))) _).trans (((cell_far (p:=⟨gb451,_,none⟩) (by first | exact Kd.own_blk (Kd.R_ne HO_4.out BK451.out (by decide)) | (rw [add_block];exact Kd.own_blk (Kd.R_ne HO_4.out BK451.out (by decide))) | (show (Addr.add _ _).block ≠ _;rw [add_block];exact Kd.own_blk (Kd.R_ne HO_4.out BK451.out (by decide))) | (dsimp only;exact Kd.own_blk (Kd.R_ne HO_4.out BK451.out (by decide)))) _).trans (((cell_far (p:=⟨gb451,_,none⟩) (by first | exact Kd.own_blk (Kd.R_ne HO_4.out BK451.out (by decide)) | (rw [add_block];exact Kd.own_blk (Kd.R_ne HO_4.out BK451.out (by decide))) | (show (Addr.add _ _).block ≠ _;rw [add_block];exact Kd.own_blk (Kd.R_ne HO_4.out BK451.out (by decide))) | (dsimp only;exact Kd.own_blk (Kd.R_ne HO_4.out BK451.out (by decide)))) _).trans (((cell_far (p:=⟨gb451,_,none⟩) (by first | exact Kd.own_blk (Kd.R_ne HO_4.out BK451.out (by decide)) | (rw [add_block];exact Kd.own_blk (Kd.R_ne HO_4.out BK451.out (by decide))) | (show (Addr.add _ _).block ≠ _;rw [add_block];exact Kd.own_blk (Kd.R_ne HO_4.out BK451.out (by decide))) | (dsimp only;exact Kd.own_blk (Kd.R_ne HO_4.out BK451.out (by decide)))) _).trans (hHeld.2))))))))⟩ (fun hHeld => ?_)
        clear hK K
        refine pm_ (i:=15) (N:=some 14) (v:=?_) (a':=?_) rfl rfl (any_of HT_.out T14q1) (fun _ _ _ h => h) (Or.inl ⟨by rfl,?_⟩) ?_ ?_
        rotate_left
        ·intro w'
         go_simp
         with_reducible rfl
        rotate_left
        ·simp only [PU]
         rfl
        refine done_ (done_of HT_.out T14q1) ?_
        try go_wp2
        go_ret
        exact ⟨by first | rfl | (simp [errW_none,errW_some] <;> rfl) | (simp [*,errW_none,errW_some] <;> rfl),by repeat (first | (with_reducible first | exact HB.out | apply below_alloc | apply pw_below_drewN | apply below_drew1 | refine below_set ?_ GE443.out | refine below_set ?_ GE451.out) | exact HB.out)⟩
       rw [if_neg c39] at H
       have c39b0 : (t442 != t450) = false:=by simpa using c39
       (try (have c39b1 : decide (t442 = t450) = true:=by simpa using c39))
       (try (have c39b2 : (t442 == t450) = true:=by simpa using c39))
       clear c39
       by_cases c58 : (!(t438.toList == t446.toList) || (!(t439 == t447) || (!(t440 == t448) || (!(t441 == t449))))) = true
       ·rw [if_pos c58] at H
        have c58b0 : (!(t438.toList == t446.toList) || (!(t439 == t447) || (!(t440 == t448) || (!(t441 == t449))))) = true:=c58
        clear c58
        obtain rfl:=Option.some.inj H
        try go_wp2
        have n0_:=Aside0.mk (Kd.R_drew HO_3.out)
        have n1_:=Aside0.mk (Kd.R_drew HO_4.out)
        have n2_:=Aside0.mk (Kd.R_drew HO_6.out)
        have n3_:=Aside0.mk (Kd.R_drew HO_7.out)
        have n4_:=Aside0.mk (Kd.R_drew HO_8.out)
        have n5_:=Aside0.mk (below_drew1 HB.out)
        clear HO_3
        clear HO_4
        clear HO_6
        clear HO_7
        clear HO_8
        clear HB
        have HO_3:=n0_
        have HO_4:=n1_
        have HO_6:=n2_
        have HO_7:=n3_
        have HO_8:=n4_
        have HB:=n5_
        clear n0_ n1_ n2_ n3_ n4_ n5_
        have p436 : 0 ≤ (x9_2 : Int):=of_decide_eq_true (by first | (with_reducible assumption) | assumption)
        have q436 : x9_2 < (t429.length : Int):=of_decide_eq_true (by first | (with_reducible assumption) | assumption)
        obtain ⟨ad436,e436,hx436_0⟩:=Kd.at_string (Kd.R_reads' HO_8.out).2.2 x9_2 p436 q436
        cases e436
        replace p436:=eq_true p436
        replace q436:=eq_true q436
        have p437 : 0 ≤ (x10_3 : Int):=of_decide_eq_true (by first | (with_reducible assumption) | assumption)
        have q437 : x10_3 < (t408.length : Int):=of_decide_eq_true (by first | (with_reducible assumption) | assumption)
        obtain ⟨ad437,e437,hx437_0⟩:=Kd.at_int (Kd.R_reads' HO_4.out).2.2 x10_3 p437 q437
        cases e437
        replace p437:=eq_true p437
        replace q437:=eq_true q437
        refine start_ (n:=16) (S:=fun w' => w'.cell? (ad436.add (x9_2).toNat) = some (.string (rdOf ByteArray.empty t429 x9_2)) ∧ w'.cell? (ad437.add (x10_3).toNat) = some (.int .i64 (rd t408 x10_3))) (ds:=[]) #[false,false,false,false,false,false,false,false,false,false,false,false,false,false,false,false] T14q1 rfl rfl ⟨hx436_0,hx437_0⟩ (fun hHeld => ?_);refine with_tabW laws_FnRunTrimTop.tab15 laws_FnRunTrimTop.bits15 (fun HT_ HW_ => ?_)
        generalize wr.drew = w59 at HO_3 HO_4 HO_6 HO_7 HO_8 HB hx436_0 hx437_0 hHeld ⊢
        refine pm_ (i:=0) (N:=some 64) (v:=?_) (a':=?_) rfl rfl (any_of HT_.out T14q1) (fun _ _ _ h => h) (Or.inl ⟨by rfl,?_⟩) ?_ ?_
        rotate_left
        ·intro w'
         go_simp
         with_reducible rfl
        rotate_left
        ·simp only [PU]
         rfl
        refine pm_ (i:=1) (N:=some 65) (v:=?_) (a':=?_) rfl rfl (any_of HT_.out T14q1) (fun _ _ _ h => h) (Or.inl ⟨by rfl,?_⟩) ?_ ?_
        rotate_left
        ·intro w'
         go_simp
         with_reducible rfl
        rotate_left
        ·simp only [PU]
         rfl
        refine pm_ (i:=2) (N:=some 66) (v:=?_) (a':=?_) rfl rfl (any_of HT_.out T14q1) (fun _ _ _ h => h) (Or.inl ⟨by rfl,?_⟩) ?_ ?_
        rotate_left
        ·intro w'
         go_simp
         with_reducible rfl
        rotate_left
        ·simp only [PU]
         rfl
        refine pm_ (i:=3) (N:=some 67) (v:=?_) (a':=?_) rfl rfl (any_of HT_.out T14q1) (fun _ _ _ h => h) (Or.inl ⟨by rfl,?_⟩) ?_ ?_
        rotate_left
        ·intro w'
         go_simp
         with_reducible rfl
        rotate_left
        ·simp only [PU]
         rfl
        refine pm_ (i:=5) (N:=some 69) (v:=?_) (a':=?_) rfl rfl (any_of HT_.out T14q1) (fun _ _ _ h => h) (Or.inl ⟨by rfl,?_⟩) ?_ ?_
        rotate_left
        ·intro w'
         go_simp
         with_reducible rfl
        rotate_left
        ·simp only [PU]
         rfl
        refine pm_ (i:=6) (N:=some 70) (v:=?_) (a':=?_) rfl rfl (any_of HT_.out T14q1) (fun _ _ _ h => h) (Or.inl ⟨by rfl,?_⟩) ?_ ?_
        rotate_left
        ·intro w'
         go_simp
         with_reducible rfl
        rotate_left
        ·simp only [PU]
         rfl
        refine pm_ (i:=7) (N:=some 71) (v:=?_) (a':=?_) rfl rfl (any_of HT_.out T14q1) (fun _ _ _ h => h) (Or.inl ⟨by rfl,?_⟩) ?_ ?_
        rotate_left
        ·intro w'
         go_simp
         with_reducible rfl
        rotate_left
        ·simp only [PU]
         rfl
        refine tm_ (i:=4) (N:=some 68) (v:=?_) (a':=?_) rfl rfl (take_ofW HT_.out HW_.out T14q1) (fun _ _ _ h => h) (Or.inl ⟨by rfl,?_⟩) hHeld ?_ ?_
        rotate_left
        ·rintro w' ⟨s0,s1⟩
         go_simp
         with_reducible rfl
        rotate_left
        ·simp only [PU]
         rfl
        refine tm_ (i:=8) (N:=some 72) (v:=?_) (a':=?_) rfl rfl (take_ofW HT_.out HW_.out T14q1) (fun _ _ _ h => h) (Or.inl ⟨by rfl,?_⟩) hHeld ?_ ?_
        rotate_left
        ·rintro w' ⟨s0,s1⟩
         go_simp
         with_reducible rfl
        rotate_left
        ·simp only [PU]
         rfl
        refine join_ (σ:=Nat) 2 #[true,true,true,true,true,true,true,true,true,true,true,true,true,true,false,false] (fun s_ => [(73,.tuple #[.agg #[.string t438,.int .i64 t439,.bool t440,.int .i64 t441],.bool t442]),(11,.pointer (some ⟨s_,0,none⟩)),(63,.tuple #[.agg #[.string t438,.int .i64 t439,.bool t440,.int .i64 t441],.bool t442]),(74,.agg #[.string t438,.int .i64 t439,.bool t440,.int .i64 t441]),(75,.bool t442)]) (fun s_ w' => (w'.cell? (ad436.add (x9_2).toNat) = some (.string (rdOf ByteArray.empty t429 x9_2)) ∧ w'.cell? (ad437.add (x10_3).toNat) = some (.int .i64 (rd t408 x10_3))) ∧ (Kd.R k27 27 w' w.heap.size (fun k_ => some k_ ≠ (v415 : Value).ownBlock ∧ some k_ ≠ (v427 : Value).ownBlock ∧ k_ ≠ s_) (.slice Ao7 t407.length co7) t407) ∧ (Kd.R (Kd.int .i64) 3 w' w.heap.size (fun _ => True) (.slice (some ad437) t408.length co8) t408) ∧ (Kd.R k27 27 w' w.heap.size (fun k_ => some k_ ≠ (.slice Ao7 t407.length co7 : Value).ownBlock ∧ some k_ ≠ (v427 : Value).ownBlock ∧ k_ ≠ s_) v415 t414) ∧ (Kd.R k27 27 w' w.heap.size (fun k_ => some k_ ≠ (.slice Ao7 t407.length co7 : Value).ownBlock ∧ some k_ ≠ (v415 : Value).ownBlock ∧ k_ ≠ s_) v427 t426) ∧ (Kd.R Kd.string 9 w' w.heap.size (fun _ => True) (.slice (some ad436) t429.length co32) t429) ∧ (w'.heap[s_]? = some (.cells #[.string (⟨#[]⟩ : ByteArray),.int .i64 0,.bool false,.int .i64 0] 27 (0,0))) ∧ (w.heap.size ≤ s_) ∧ (w.heap.size ≤ s_) ∧ (Below w.heap.size w w')) ?_ ?_
        rotate_left
        ·intro hCont
         refine two_ (i:=9) (j:=13) (Ni:=some 73) (Nj:=some 11) #[true,true,true,true,true,true,true,true,true,true,false,false,false,false,false,false] #[true,true,true,true,true,true,true,true,true,false,false,false,false,true,false,false] rfl rfl rfl rfl (two_of HT_.out T14q1) (by decide) (by decide) (fun K hK => ?_) (fun K hK => ?_)
         ·skip
          refine goes_ Try.func17 T14q1 rfl #[.slice Ao7 t407.length co7,.string (rdOf ByteArray.empty t429 x9_2),.int .i64 (rd t408 x10_3)] (by rfl) rfl rfl T14q2 ?_
          with_reducible refine (impl_RunAt.calls k3 _ _ t407 (rdOf ByteArray.empty t429 x9_2) (rd t408 x10_3) t438 t439 t440 t441 t442 _ ?side1 ?side2 A37.out).mono ?_
          (case side1 => repeat (first | exact (Kd.R_reads' HO_3.out).2.2 | (with_reducible refine Kd.C_alloc ?_ _) | (with_reducible refine Kd.C_drewN ?_ _) | (with_reducible refine Kd.C_drew ?_)))
          (case side2 => exact (Kd.R_reads' HO_3.out).2.1)
          rintro e w60 ⟨rfl,hb⟩
          have HS0_:=(hb.cell (World.block_lt_of_cell? _ _ (hHeld.1))).trans (hHeld.1)
          have HS1_:=(hb.cell (World.block_lt_of_cell? _ _ (hHeld.2))).trans (hHeld.2)
          refine ⟨_,rfl,?_⟩
          have n0_:=Aside0.mk (Kd.R_below T14q6 hb)
          have n1_:=Aside0.mk (Kd.R_below T14q7 hb)
          have n2_:=Aside0.mk (Kd.R_below T14q8 hb)
          have n3_:=Aside0.mk (Kd.R_below T14q9 hb)
          have n4_:=Aside0.mk (Kd.R_below T14q10 hb)
          have n5_:=Aside0.mk (below_step (by repeat (first | (with_reducible first | exact HB.out | apply below_alloc | apply pw_below_drewN | apply below_drew1) | exact HB.out)) hb)
          clear HO_3
          clear HO_4
          clear HO_6
          clear HO_7
          clear HO_8
          clear HB
          have HO_3:=n0_
          have HO_4:=n1_
          have HO_6:=n2_
          have HO_7:=n3_
          have HO_8:=n4_
          have HB:=n5_
          clear n0_ n1_ n2_ n3_ n4_ n5_
          (try clear hb)
          (try clear hb2)
          (try clear hk)
          (try clear hi)
          refine hK.out _ _ ⟨HS0_,HS1_⟩ (fun hHeld => ?_)
          clear hK K
          refine norm_ (a':=?_) ?_ ?_
          rotate_left
          ·show Act.put _ (some 73) _ = _
           simp only [PU]
           rfl
          refine pm_ (i:=10) (N:=some 63) (v:=?_) (a':=?_) rfl rfl (any_of HT_.out T14q1) (fun _ _ _ h => h) (Or.inl ⟨by rfl,?_⟩) ?_ ?_
          rotate_left
          ·intro w'
           go_simp
           with_reducible rfl
          rotate_left
          ·simp only [PU]
           rfl
          refine pm_ (i:=11) (N:=some 74) (v:=?_) (a':=?_) rfl rfl (any_of HT_.out T14q1) (fun _ _ _ h => h) (Or.inl ⟨by rfl,?_⟩) ?_ ?_
          rotate_left
          ·intro w'
           go_simp
           with_reducible rfl
          rotate_left
          ·simp only [PU]
           rfl
          refine pm_ (i:=12) (N:=some 75) (v:=?_) (a':=?_) rfl rfl (any_of HT_.out T14q1) (fun _ _ _ h => h) (Or.inl ⟨by rfl,?_⟩) ?_ ?_
          rotate_left
          ·intro w'
           go_simp
           with_reducible rfl
          rotate_left
          ·simp only [PU]
           rfl
          refine om_ (i:=13) (N:=some 11) rfl rfl (one_of HT_.out T14q1) (by decide) (fun K hK => ?_)
          refine box_step ?hg (N:=11) ?hd (cs:=#[.string (⟨#[]⟩ : ByteArray),.int .i64 0,.bool false,.int .i64 0]) (t:=27) ?hr ?_;(case hd => rfl);(case hg => rfl);(case hr => first | (go_simp;done) | (go_simp;rfl))
          intro gb443 hg w61 hbox hb
          have HS0_:=(hb.cell (World.block_lt_of_cell? _ _ (hHeld.1))).trans (hHeld.1)
          have HS1_:=(hb.cell (World.block_lt_of_cell? _ _ (hHeld.2))).trans (hHeld.2)
          have n0_:=Aside0.mk (Kd.R_below (Kd.R_elderB T14q6 gb443 (Nat.le_of_eq hg.symm)) hb)
          have n1_:=Aside0.mk (Kd.R_below T14q7 hb)
          have n2_:=Aside0.mk (Kd.R_below (Kd.R_elderB T14q8 gb443 (Nat.le_of_eq hg.symm)) hb)
          have n3_:=Aside0.mk (Kd.R_below (Kd.R_elderB T14q9 gb443 (Nat.le_of_eq hg.symm)) hb)
          have n4_:=Aside0.mk (Kd.R_below T14q10 hb)
          have n5_:=Aside0.mk (below_step (by repeat (first | (with_reducible first | exact HB.out | apply below_alloc | apply pw_below_drewN | apply below_drew1) | exact HB.out)) hb)
          have n6_:=Aside0.mk (hbox)
          have n7_:=Aside0.mk ((by rw [hg];exact (below_size (by repeat (first | (with_reducible first | exact HB.out | apply below_alloc | apply pw_below_drewN | apply below_drew1) | exact HB.out))) : w.heap.size ≤ gb443))
          have n8_:=Aside0.mk ((by rw [hg];exact (below_size (by repeat (first | (with_reducible first | exact HB.out | apply below_alloc | apply pw_below_drewN | apply below_drew1) | exact HB.out))) : w.heap.size ≤ gb443))
          clear HO_3
          clear HO_4
          clear HO_6
          clear HO_7
          clear HO_8
          clear HB
          have HO_3:=n0_
          have HO_4:=n1_
          have HO_6:=n2_
          have HO_7:=n3_
          have HO_8:=n4_
          have HB:=n5_
          have BK443:=n6_
          have GW443:=n7_
          have GE443:=n8_
          clear n0_ n1_ n2_ n3_ n4_ n5_ n6_ n7_ n8_
          clear hb hbox hg
          refine hK.out _ _ ⟨HS0_,HS1_⟩ (fun hHeld => ?_)
          clear hK K
          refine norm_ (a':=?_) ?_ ?_
          rotate_left
          ·show Act.put _ (some 11) _ = _
           simp only [PU]
           rfl
          exact norm_ (by simp only [putAll,Act.put,List.setIfInBounds_toArray,List.set_cons_zero,List.set_cons_succ]) (hCont (gb443) _ ⟨hHeld,T14q11,T14q7,T14q12,T14q13,T14q10,(by (with_reducible repeat (first | refine blk_drewN ?_ _ | refine blk_drew ?_ | refine blk_alloc ?_ _));exact BK443.out),GW443.out,GE443.out,(by repeat (first | (with_reducible first | exact HB.out | apply below_alloc | apply pw_below_drewN | apply below_drew1 | refine below_set ?_ GE443.out) | exact HB.out))⟩)
         skip
         refine box_step ?hg (N:=11) ?hd (cs:=#[.string (⟨#[]⟩ : ByteArray),.int .i64 0,.bool false,.int .i64 0]) (t:=27) ?hr ?_;(case hd => rfl);(case hg => rfl);(case hr => first | (go_simp;done) | (go_simp;rfl))
         intro gb443 hg w60 hbox hb
         have HS0_:=(hb.cell (World.block_lt_of_cell? _ _ (hHeld.1))).trans (hHeld.1)
         have HS1_:=(hb.cell (World.block_lt_of_cell? _ _ (hHeld.2))).trans (hHeld.2)
         have n0_:=Aside0.mk (Kd.R_below (Kd.R_elderB T14q6 gb443 (Nat.le_of_eq hg.symm)) hb)
         have n1_:=Aside0.mk (Kd.R_below T14q7 hb)
         have n2_:=Aside0.mk (Kd.R_below (Kd.R_elderB T14q8 gb443 (Nat.le_of_eq hg.symm)) hb)
         have n3_:=Aside0.mk (Kd.R_below (Kd.R_elderB T14q9 gb443 (Nat.le_of_eq hg.symm)) hb)
         have n4_:=Aside0.mk (Kd.R_below T14q10 hb)
         have n5_:=Aside0.mk (below_step (by repeat (first | (with_reducible first | exact HB.out | apply below_alloc | apply pw_below_drewN | apply below_drew1) | exact HB.out)) hb)
         have n6_:=Aside0.mk (hbox)
         have n7_:=Aside0.mk ((by rw [hg];exact (below_size (by repeat (first | (with_reducible first | exact HB.out | apply below_alloc | apply pw_below_drewN | apply below_drew1) | exact HB.out))) : w.heap.size ≤ gb443))
         have n8_:=Aside0.mk ((by rw [hg];exact (below_size (by repeat (first | (with_reducible first | exact HB.out | apply below_alloc | apply pw_below_drewN | apply below_drew1) | exact HB.out))) : w.heap.size ≤ gb443))
         clear HO_3
         clear HO_4
         clear HO_6
         clear HO_7
         clear HO_8
         clear HB
         have HO_3:=n0_
         have HO_4:=n1_
         have HO_6:=n2_
         have HO_7:=n3_
         have HO_8:=n4_
         have HB:=n5_
         have BK443:=n6_
         have GW443:=n7_
         have GE443:=n8_
         clear n0_ n1_ n2_ n3_ n4_ n5_ n6_ n7_ n8_
         clear hb hbox hg
         refine hK.out _ _ ⟨HS0_,HS1_⟩ (fun hHeld => ?_)
         clear hK K
         refine norm_ (a':=?_) ?_ ?_
         rotate_left
         ·show Act.put _ (some 11) _ = _
          simp only [PU]
          rfl
         refine om_ (i:=9) (N:=some 73) rfl rfl (one_of HT_.out T14q1) (by decide) (fun K hK => ?_)
         refine goes_ Try.func17 T14q1 rfl #[.slice Ao7 t407.length co7,.string (rdOf ByteArray.empty t429 x9_2),.int .i64 (rd t408 x10_3)] (by rfl) rfl rfl T14q2 ?_
         with_reducible refine (impl_RunAt.calls k3 _ _ t407 (rdOf ByteArray.empty t429 x9_2) (rd t408 x10_3) t438 t439 t440 t441 t442 _ ?side1 ?side2 A37.out).mono ?_
         (case side1 => repeat (first | exact (Kd.R_reads' HO_3.out).2.2 | (with_reducible refine Kd.C_alloc ?_ _) | (with_reducible refine Kd.C_drewN ?_ _) | (with_reducible refine Kd.C_drew ?_)))
         (case side2 => exact (Kd.R_reads' HO_3.out).2.1)
         rintro e w61 ⟨rfl,hb⟩
         have HS0_:=(hb.cell (World.block_lt_of_cell? _ _ (hHeld.1))).trans (hHeld.1)
         have HS1_:=(hb.cell (World.block_lt_of_cell? _ _ (hHeld.2))).trans (hHeld.2)
         refine ⟨_,rfl,?_⟩
         have n0_:=Aside0.mk (Kd.R_below T14q6 hb)
         have n1_:=Aside0.mk (Kd.R_below T14q7 hb)
         have n2_:=Aside0.mk (Kd.R_below T14q8 hb)
         have n3_:=Aside0.mk (Kd.R_below T14q9 hb)
         have n4_:=Aside0.mk (Kd.R_below T14q10 hb)
         have n5_:=Aside0.mk (blk_below (g:=gb443) (o:=.cells #[.string (⟨#[]⟩ : ByteArray),.int .i64 0,.bool false,.int .i64 0] 27 (0,0)) (by (with_reducible repeat (first | refine blk_drewN ?_ _ | refine blk_drew ?_ | refine blk_alloc ?_ _));exact BK443.out) hb)
         have n6_:=Aside0.mk (below_step (by repeat (first | (with_reducible first | exact HB.out | apply below_alloc | apply pw_below_drewN | apply below_drew1 | refine below_set ?_ GE443.out) | exact HB.out)) hb)
         clear HO_3
         clear HO_4
         clear HO_6
         clear HO_7
         clear HO_8
         clear BK443
         clear HB
         have HO_3:=n0_
         have HO_4:=n1_
         have HO_6:=n2_
         have HO_7:=n3_
         have HO_8:=n4_
         have BK443:=n5_
         have HB:=n6_
         clear n0_ n1_ n2_ n3_ n4_ n5_ n6_
         (try clear hb)
         (try clear hb2)
         (try clear hk)
         (try clear hi)
         refine hK.out _ _ ⟨HS0_,HS1_⟩ (fun hHeld => ?_)
         clear hK K
         refine norm_ (a':=?_) ?_ ?_
         rotate_left
         ·show Act.put _ (some 73) _ = _
          simp only [PU]
          rfl
         refine pm_ (i:=10) (N:=some 63) (v:=?_) (a':=?_) rfl rfl (any_of HT_.out T14q1) (fun _ _ _ h => h) (Or.inl ⟨by rfl,?_⟩) ?_ ?_
         rotate_left
         ·intro w'
          go_simp
          with_reducible rfl
         rotate_left
         ·simp only [PU]
          rfl
         refine pm_ (i:=11) (N:=some 74) (v:=?_) (a':=?_) rfl rfl (any_of HT_.out T14q1) (fun _ _ _ h => h) (Or.inl ⟨by rfl,?_⟩) ?_ ?_
         rotate_left
         ·intro w'
          go_simp
          with_reducible rfl
         rotate_left
         ·simp only [PU]
          rfl
         refine pm_ (i:=12) (N:=some 75) (v:=?_) (a':=?_) rfl rfl (any_of HT_.out T14q1) (fun _ _ _ h => h) (Or.inl ⟨by rfl,?_⟩) ?_ ?_
         rotate_left
         ·intro w'
          go_simp
          with_reducible rfl
         rotate_left
         ·simp only [PU]
          rfl
         exact norm_ (by simp only [putAll,Act.put,List.setIfInBounds_toArray,List.set_cons_zero,List.set_cons_succ]) (hCont (gb443) _ ⟨hHeld,T14q11,T14q7,T14q12,T14q13,T14q10,(by (with_reducible repeat (first | refine blk_drewN ?_ _ | refine blk_drew ?_ | refine blk_alloc ?_ _));exact BK443.out),GW443.out,GE443.out,(by repeat (first | (with_reducible first | exact HB.out | apply below_alloc | apply pw_below_drewN | apply below_drew1 | refine below_set ?_ GE443.out) | exact HB.out))⟩)
        rintro gb443 w62 ⟨hS_,h0_,h1_,h2_,h3_,h4_,h5_,h6_,h7_,h8_⟩
        have n0_ : Aside0 (Kd.R k27 27 w62 w.heap.size (fun k_ => some k_ ≠ (v415 : Value).ownBlock ∧ some k_ ≠ (v427 : Value).ownBlock ∧ k_ ≠ gb443) (.slice Ao7 t407.length co7) t407):=⟨h0_⟩
        have n1_ : Aside0 (Kd.R (Kd.int .i64) 3 w62 w.heap.size (fun _ => True) (.slice (some ad437) t408.length co8) t408):=⟨h1_⟩
        have n2_ : Aside0 (Kd.R k27 27 w62 w.heap.size (fun k_ => some k_ ≠ (.slice Ao7 t407.length co7 : Value).ownBlock ∧ some k_ ≠ (v427 : Value).ownBlock ∧ k_ ≠ gb443) v415 t414):=⟨h2_⟩
        have n3_ : Aside0 (Kd.R k27 27 w62 w.heap.size (fun k_ => some k_ ≠ (.slice Ao7 t407.length co7 : Value).ownBlock ∧ some k_ ≠ (v415 : Value).ownBlock ∧ k_ ≠ gb443) v427 t426):=⟨h3_⟩
        have n4_ : Aside0 (Kd.R Kd.string 9 w62 w.heap.size (fun _ => True) (.slice (some ad436) t429.length co32) t429):=⟨h4_⟩
        have n5_ : Aside0 (w62.heap[gb443]? = some (.cells #[.string (⟨#[]⟩ : ByteArray),.int .i64 0,.bool false,.int .i64 0] 27 (0,0))):=⟨h5_⟩
        have n6_ : Aside0 (w.heap.size ≤ gb443):=⟨h6_⟩
        have n7_ : Aside0 (w.heap.size ≤ gb443):=⟨h7_⟩
        have n8_ : Aside0 (Below w.heap.size w w62):=⟨h8_⟩
        clear HO_3
        clear HO_4
        clear HO_6
        clear HO_7
        clear HO_8
        clear HB
        clear h0_ h1_ h2_ h3_ h4_ h5_ h6_ h7_ h8_
        have HO_3:=n0_
        have HO_4:=n1_
        have HO_6:=n2_
        have HO_7:=n3_
        have HO_8:=n4_
        have BK443:=n5_
        have GW443:=n6_
        have GE443:=n7_
        have HB:=n8_
        clear n0_ n1_ n2_ n3_ n4_ n5_ n6_ n7_ n8_
        have hHeld : w62.cell? (ad436.add (x9_2).toNat) = some (.string (rdOf ByteArray.empty t429 x9_2)) ∧ w62.cell? (ad437.add (x10_3).toNat) = some (.int .i64 (rd t408 x10_3)):=hS_
        refine norm_ (a':=?_) ?_ ?_
        rotate_left
        ·simp only [putAll,Act.put,List.setIfInBounds_toArray,List.set_cons_zero,List.set_cons_succ]
         rfl
        refine om_ (i:=14) (N:=none) rfl rfl (one_of HT_.out T14q1) (by decide) (fun K hK => ?_)
        have hs63 : w62.cell? ⟨gb443,0,none⟩ = some (.string (⟨#[]⟩ : ByteArray)):=(blk_cell BK443.out 0).trans rfl
        have hfs63:=blk_frozen BK443.out 0
        have hs64 : w62.cell? ⟨gb443,1,none⟩ = some (.int .i64 0):=(blk_cell BK443.out 1).trans rfl
        have hfs64:=blk_frozen BK443.out 1
        have hs65 : w62.cell? ⟨gb443,2,none⟩ = some (.bool false):=(blk_cell BK443.out 2).trans rfl
        have hfs65:=blk_frozen BK443.out 2
        have hs66 : w62.cell? ⟨gb443,3,none⟩ = some (.int .i64 0):=(blk_cell BK443.out 3).trans rfl
        have hfs66:=blk_frozen BK443.out 3
        refine skip_ (w1:=?_) (by rfl) rfl ?_ ?_
        rotate_left
        ·go_simp
         rfl
        refine hK.out _ _ ⟨((cell_far (p:=⟨gb443,_,none⟩) (by first | exact Kd.own_blk (Kd.R_ne HO_8.out BK443.out (by decide)) | (rw [add_block];exact Kd.own_blk (Kd.R_ne HO_8.out BK443.out (by decide))) | (show (Addr.add _ _).block ≠ _;rw [add_block];exact Kd.own_blk (Kd.R_ne HO_8.out BK443.out (by decide))) | (dsimp only;exact Kd.own_blk (Kd.R_ne HO_8.out BK443.out (by decide)))) _).trans (((cell_far (p:=⟨gb443,_,none⟩) (by first | exact Kd.own_blk (Kd.R_ne HO_8.out BK443.out (by decide)) | (rw [add_block];exact Kd.own_blk (Kd.R_ne HO_8.out BK443.out (by decide))) | (show (Addr.add _ _).block ≠ _;rw [add_block];exact Kd.own_blk (Kd.R_ne HO_8.out BK443.out (by decide))) | (dsimp only;exact Kd.own_blk (Kd.R_ne HO_8.out BK443.out (by decide)))) _).trans (((cell_far (p:=⟨gb443,_,none⟩) (by first | exact Kd.own_blk (Kd.R_ne HO_8.out BK443.out (by decide)) | (rw [add_block];exact Kd.own_blk (Kd.R_ne HO_8.out BK443.out (by decide))) | (show (Addr.add _ _).block ≠ _;rw [add_block];exact Kd.own_blk (Kd.R_ne HO_8.out BK443.out (by decide))) | (dsimp only;exact Kd.own_blk (Kd.R_ne HO_8.out BK443.out (by decide)))) _).trans (((cell_far (p:=⟨gb443,_,none⟩) (by first | exact Kd.own_blk (Kd.R_ne HO_8.out BK443.out (by decide)) | (rw [add_block];exact Kd.own_blk (Kd.R_ne HO_8.out BK443.out (by decide))) | (show (Addr.add _ _).block ≠ _;rw [add_block];exact Kd.own_blk (Kd.R_ne HO_8.out BK443.out (by decide))) | (dsimp only;exact Kd.own_blk (Kd.R_ne HO_8.out BK443.out (by decide)))) _).trans (hHeld.1)))))))),((cell_far (p:=⟨gb443,_,none⟩) (by first | exact Kd.own_blk (Kd.R_ne HO_4.out BK443.out (by decide)) | (rw [add_block];exact Kd.own_blk (Kd.R_ne HO_4.out BK443.out (by decide))) | (show (Addr.add _ _).block ≠ _;rw [add_block];exact Kd.own_blk (Kd.R_ne HO_4.out BK443.out (by decide))) | (dsimp only;exact Kd.own_blk (Kd.R_ne HO_4.out BK443.out (by decide)))) _).trans (((cell_far (p:=⟨gb443,_,none⟩) (by first | exact Kd.own_blk (Kd.R_ne HO_4.out BK443.out (by decide)) | (rw [add_block];exact Kd.own_blk (Kd.R_ne HO_4.out BK443.out (by decide))) | (show (Addr.add _ _).block ≠ _;rw [add_block];exact Kd.own_blk (Kd.R_ne HO_4.out BK443.out (by decide))) | (dsimp only;exact Kd.own_blk (Kd.R_ne HO_4.out BK443.out (by decide)))) _).trans (((cell_far (p:=⟨gb443,_,none⟩) (by first | exact Kd.own_blk (Kd.R_ne HO_4.out BK443.out (by decide)) | (rw [add_block];exact Kd.own_blk (Kd.R_ne HO_4.out BK443.out (by decide))) | (show (Addr.add _ _).block ≠ _;rw [add_block];exact Kd.own_blk (Kd.R_ne HO_4.out BK443.out (by decide))) | (dsimp only;exact Kd.own_blk (Kd.R_ne HO_4.out BK443.out (by decide)))) _).trans (((cell_far (p:=⟨gb443,_,none⟩) (by first | exact Kd.own_blk (Kd.R_ne HO_4.out BK443.out (by decide)) | (rw [add_block];exact Kd.own_blk (Kd.R_ne HO_4.out BK443.out (by decide))) | (show (Addr.add _ _).block ≠ _;rw [add_block];exact Kd.own_blk (Kd.R_ne HO_4.out BK443.out (by decide))) | (dsimp only;exact Kd.own_blk (Kd.R_ne HO_4.out BK443.out (by decide)))) _).trans (hHeld.2))))))))⟩ (fun hHeld => ?_)
        clear hK K
        refine pm_ (i:=15) (N:=some 12) (v:=?_) (a':=?_) rfl rfl (any_of HT_.out T14q1) (fun _ _ _ h => h) (Or.inl ⟨by rfl,?_⟩) ?_ ?_
        rotate_left
        ·intro w'
         go_simp
         with_reducible rfl
        rotate_left
        ·simp only [PU]
         rfl
        refine done_ (done_of HT_.out T14q1) ?_
        obtain ⟨Ao67,co67,eo67⟩:=Kd.R_slice HO_7.out
        subst eo67
        try go_wp2
        have n0_ : Aside0 (Kd.R k27 27 ((((w62.setCell ⟨gb443,0,none⟩ (.string t438)).setCell ⟨gb443,1,none⟩ (.int .i64 t439)).setCell ⟨gb443,2,none⟩ (.bool t440)).setCell ⟨gb443,3,none⟩ (.int .i64 t441)) w.heap.size (fun k_ => some k_ ≠ (v415 : Value).ownBlock ∧ some k_ ≠ (.slice Ao67 t426.length co67 : Value).ownBlock ∧ k_ ≠ gb443) (.slice Ao7 t407.length co7) t407):=⟨by (with_reducible repeat (first | apply Kd.R_alloc | apply Kd.R_drewN | apply Kd.R_drew));exact Kd.R_mono (Kd.R_far (p:=⟨gb443,3,none⟩) (Kd.R_far (p:=⟨gb443,2,none⟩) (Kd.R_far (p:=⟨gb443,1,none⟩) (Kd.R_far (p:=⟨gb443,0,none⟩) (Kd.R_mono HO_3.out (fun k_ hk => (⟨hk,hk.2.2⟩ : _ ∧ k_ ≠ gb443))) (fun _ hk => hk.2) (.string t438)) (fun _ hk => hk.2) (.int .i64 t439)) (fun _ hk => hk.2) (.bool t440)) (fun _ hk => hk.2) (.int .i64 t441)) (fun _ hk => ⟨hk.1.1,⟨hk.1.2.1,hk.1.2.2⟩⟩)⟩
        have n1_ : Aside0 (Kd.R (Kd.int .i64) 3 ((((w62.setCell ⟨gb443,0,none⟩ (.string t438)).setCell ⟨gb443,1,none⟩ (.int .i64 t439)).setCell ⟨gb443,2,none⟩ (.bool t440)).setCell ⟨gb443,3,none⟩ (.int .i64 t441)) w.heap.size (fun _ => True) (.slice (some ad437) t408.length co8) t408):=⟨by (with_reducible repeat (first | apply Kd.R_alloc | apply Kd.R_drewN | apply Kd.R_drew));exact Kd.R_mono (Kd.R_far (p:=⟨gb443,3,none⟩) (Kd.R_far (p:=⟨gb443,2,none⟩) (Kd.R_far (p:=⟨gb443,1,none⟩) (Kd.R_far (p:=⟨gb443,0,none⟩) (Kd.R_types HO_4.out BK443.out (by decide)) (fun _ hk => hk.2) (.string t438)) (fun _ hk => hk.2) (.int .i64 t439)) (fun _ hk => hk.2) (.bool t440)) (fun _ hk => hk.2) (.int .i64 t441)) (fun _ hk => trivial)⟩
        have n2_ : Aside0 (Kd.R k27 27 ((((w62.setCell ⟨gb443,0,none⟩ (.string t438)).setCell ⟨gb443,1,none⟩ (.int .i64 t439)).setCell ⟨gb443,2,none⟩ (.bool t440)).setCell ⟨gb443,3,none⟩ (.int .i64 t441)) w.heap.size (fun k_ => some k_ ≠ (.slice Ao7 t407.length co7 : Value).ownBlock ∧ some k_ ≠ (.slice Ao67 t426.length co67 : Value).ownBlock ∧ k_ ≠ gb443) v415 t414):=⟨by (with_reducible repeat (first | apply Kd.R_alloc | apply Kd.R_drewN | apply Kd.R_drew));exact Kd.R_mono (Kd.R_far (p:=⟨gb443,3,none⟩) (Kd.R_far (p:=⟨gb443,2,none⟩) (Kd.R_far (p:=⟨gb443,1,none⟩) (Kd.R_far (p:=⟨gb443,0,none⟩) (Kd.R_mono HO_6.out (fun k_ hk => (⟨hk,hk.2.2⟩ : _ ∧ k_ ≠ gb443))) (fun _ hk => hk.2) (.string t438)) (fun _ hk => hk.2) (.int .i64 t439)) (fun _ hk => hk.2) (.bool t440)) (fun _ hk => hk.2) (.int .i64 t441)) (fun _ hk => ⟨hk.1.1,⟨hk.1.2.1,hk.1.2.2⟩⟩)⟩
        have n3_ : Aside0 (Kd.R k27 27 ((((w62.setCell ⟨gb443,0,none⟩ (.string t438)).setCell ⟨gb443,1,none⟩ (.int .i64 t439)).setCell ⟨gb443,2,none⟩ (.bool t440)).setCell ⟨gb443,3,none⟩ (.int .i64 t441)) w.heap.size (fun k_ => some k_ ≠ (.slice Ao7 t407.length co7 : Value).ownBlock ∧ some k_ ≠ (v415 : Value).ownBlock ∧ k_ ≠ gb443) (.slice Ao67 t426.length co67) t426):=⟨by (with_reducible repeat (first | apply Kd.R_alloc | apply Kd.R_drewN | apply Kd.R_drew));exact Kd.R_mono (Kd.R_far (p:=⟨gb443,3,none⟩) (Kd.R_far (p:=⟨gb443,2,none⟩) (Kd.R_far (p:=⟨gb443,1,none⟩) (Kd.R_far (p:=⟨gb443,0,none⟩) (Kd.R_mono HO_7.out (fun k_ hk => (⟨hk,hk.2.2⟩ : _ ∧ k_ ≠ gb443))) (fun _ hk => hk.2) (.string t438)) (fun _ hk => hk.2) (.int .i64 t439)) (fun _ hk => hk.2) (.bool t440)) (fun _ hk => hk.2) (.int .i64 t441)) (fun _ hk => ⟨hk.1.1,⟨hk.1.2.1,hk.1.2.2⟩⟩)⟩
        have n4_ : Aside0 (Kd.R Kd.string 9 ((((w62.setCell ⟨gb443,0,none⟩ (.string t438)).setCell ⟨gb443,1,none⟩ (.int .i64 t439)).setCell ⟨gb443,2,none⟩ (.bool t440)).setCell ⟨gb443,3,none⟩ (.int .i64 t441)) w.heap.size (fun _ => True) (.slice (some ad436) t429.length co32) t429):=⟨by (with_reducible repeat (first | apply Kd.R_alloc | apply Kd.R_drewN | apply Kd.R_drew));exact Kd.R_mono (Kd.R_far (p:=⟨gb443,3,none⟩) (Kd.R_far (p:=⟨gb443,2,none⟩) (Kd.R_far (p:=⟨gb443,1,none⟩) (Kd.R_far (p:=⟨gb443,0,none⟩) (Kd.R_types HO_8.out BK443.out (by decide)) (fun _ hk => hk.2) (.string t438)) (fun _ hk => hk.2) (.int .i64 t439)) (fun _ hk => hk.2) (.bool t440)) (fun _ hk => hk.2) (.int .i64 t441)) (fun _ hk => trivial)⟩
        have n5_ : Aside0 (((((w62.setCell ⟨gb443,0,none⟩ (.string t438)).setCell ⟨gb443,1,none⟩ (.int .i64 t439)).setCell ⟨gb443,2,none⟩ (.bool t440)).setCell ⟨gb443,3,none⟩ (.int .i64 t441)).heap[gb443]? = some (.cells #[.string t438,.int .i64 t439,.bool t440,.int .i64 t441] 27 (0,0))):=⟨by (with_reducible repeat (first | refine blk_drewN ?_ _ | refine blk_drew ?_ | refine blk_alloc ?_ _));refine blk_put (cs:=#[.string t438,.int .i64 t439,.bool t440,.int .i64 0]) ?_ 3 _ rfl;(with_reducible repeat (first | refine blk_drewN ?_ _ | refine blk_drew ?_ | refine blk_alloc ?_ _));refine blk_put (cs:=#[.string t438,.int .i64 t439,.bool false,.int .i64 0]) ?_ 2 _ rfl;(with_reducible repeat (first | refine blk_drewN ?_ _ | refine blk_drew ?_ | refine blk_alloc ?_ _));refine blk_put (cs:=#[.string t438,.int .i64 0,.bool false,.int .i64 0]) ?_ 1 _ rfl;(with_reducible repeat (first | refine blk_drewN ?_ _ | refine blk_drew ?_ | refine blk_alloc ?_ _));refine blk_put (cs:=#[.string (⟨#[]⟩ : ByteArray),.int .i64 0,.bool false,.int .i64 0]) ?_ 0 _ rfl;(with_reducible repeat (first | refine blk_drewN ?_ _ | refine blk_drew ?_ | refine blk_alloc ?_ _));exact BK443.out⟩
        have n6_ : Aside0 (Below w.heap.size w ((((w62.setCell ⟨gb443,0,none⟩ (.string t438)).setCell ⟨gb443,1,none⟩ (.int .i64 t439)).setCell ⟨gb443,2,none⟩ (.bool t440)).setCell ⟨gb443,3,none⟩ (.int .i64 t441))):=⟨by repeat (first | (with_reducible first | exact HB.out | apply below_alloc | apply pw_below_drewN | apply below_drew1 | refine below_set ?_ GE443.out) | exact HB.out)⟩
        (try clear HO_3)
        (try clear HO_4)
        (try clear HO_6)
        (try clear HO_7)
        (try clear HO_8)
        (try clear BK443)
        (try clear HB)
        generalize ((((w62.setCell ⟨gb443,0,none⟩ (.string t438)).setCell ⟨gb443,1,none⟩ (.int .i64 t439)).setCell ⟨gb443,2,none⟩ (.bool t440)).setCell ⟨gb443,3,none⟩ (.int .i64 t441)) = w68 at n0_ n1_ n2_ n3_ n4_ n5_ n6_ ⊢
        have HO_3:=n0_
        have HO_4:=n1_
        have HO_6:=n2_
        have HO_7:=n3_
        have HO_8:=n4_
        have BK443:=n5_
        have HB:=n6_
        clear n0_ n1_ n2_ n3_ n4_ n5_ n6_
        have n0_:=Aside0.mk (Kd.R_drew HO_3.out)
        have n1_:=Aside0.mk (Kd.R_drew HO_4.out)
        have n2_:=Aside0.mk (Kd.R_drew HO_6.out)
        have n3_:=Aside0.mk (Kd.R_drew HO_7.out)
        have n4_:=Aside0.mk (Kd.R_drew HO_8.out)
        have n5_:=Aside0.mk (blk_drew BK443.out)
        have n6_:=Aside0.mk (below_drew1 HB.out)
        clear HO_3
        clear HO_4
        clear HO_6
        clear HO_7
        clear HO_8
        clear BK443
        clear HB
        have HO_3:=n0_
        have HO_4:=n1_
        have HO_6:=n2_
        have HO_7:=n3_
        have HO_8:=n4_
        have BK443:=n5_
        have HB:=n6_
        clear n0_ n1_ n2_ n3_ n4_ n5_ n6_
        have p444 : 0 ≤ (x9_2 : Int):=of_decide_eq_true (by first | (with_reducible assumption) | assumption)
        have q444 : x9_2 < (t429.length : Int):=of_decide_eq_true (by first | (with_reducible assumption) | assumption)
        obtain ⟨ad444,e444,hx444_0⟩:=Kd.at_string (Kd.R_reads' HO_8.out).2.2 x9_2 p444 q444
        obtain rfl : ad436 = ad444:=(by injection e444)
        replace p444:=eq_true p444
        replace q444:=eq_true q444
        have p445 : 0 ≤ (x10_3 : Int):=of_decide_eq_true (by first | (with_reducible assumption) | assumption)
        have q445 : x10_3 < (t408.length : Int):=of_decide_eq_true (by first | (with_reducible assumption) | assumption)
        obtain ⟨ad445,e445,hx445_0⟩:=Kd.at_int (Kd.R_reads' HO_4.out).2.2 x10_3 p445 q445
        obtain rfl : ad437 = ad445:=(by injection e445)
        replace p445:=eq_true p445
        replace q445:=eq_true q445
        refine start_ (n:=16) (S:=fun w' => w'.cell? (ad436.add (x9_2).toNat) = some (.string (rdOf ByteArray.empty t429 x9_2)) ∧ w'.cell? (ad437.add (x10_3).toNat) = some (.int .i64 (rd t408 x10_3))) (ds:=[]) #[false,false,false,false,false,false,false,false,false,false,false,false,false,false,false,false] T14q1 rfl rfl ⟨hx444_0,hx445_0⟩ (fun hHeld => ?_);refine with_tabW laws_FnRunTrimTop.tab16 laws_FnRunTrimTop.bits16 (fun HT_ HW_ => ?_)
        generalize w68.drew = w69 at HO_3 HO_4 HO_6 HO_7 HO_8 BK443 HB hx444_0 hx445_0 hHeld ⊢
        refine pm_ (i:=0) (N:=some 77) (v:=?_) (a':=?_) rfl rfl (any_of HT_.out T14q1) (fun _ _ _ h => h) (Or.inl ⟨by rfl,?_⟩) ?_ ?_
        rotate_left
        ·intro w'
         go_simp
         with_reducible rfl
        rotate_left
        ·simp only [PU]
         rfl
        refine pm_ (i:=1) (N:=some 78) (v:=?_) (a':=?_) rfl rfl (any_of HT_.out T14q1) (fun _ _ _ h => h) (Or.inl ⟨by rfl,?_⟩) ?_ ?_
        rotate_left
        ·intro w'
         go_simp
         with_reducible rfl
        rotate_left
        ·simp only [PU]
         rfl
        refine pm_ (i:=2) (N:=some 79) (v:=?_) (a':=?_) rfl rfl (any_of HT_.out T14q1) (fun _ _ _ h => h) (Or.inl ⟨by rfl,?_⟩) ?_ ?_
        rotate_left
        ·intro w'
         go_simp
         with_reducible rfl
        rotate_left
        ·simp only [PU]
         rfl
        refine pm_ (i:=3) (N:=some 80) (v:=?_) (a':=?_) rfl rfl (any_of HT_.out T14q1) (fun _ _ _ h => h) (Or.inl ⟨by rfl,?_⟩) ?_ ?_
        rotate_left
        ·intro w'
         go_simp
         with_reducible rfl
        rotate_left
        ·simp only [PU]
         rfl
        refine pm_ (i:=5) (N:=some 82) (v:=?_) (a':=?_) rfl rfl (any_of HT_.out T14q1) (fun _ _ _ h => h) (Or.inl ⟨by rfl,?_⟩) ?_ ?_
        rotate_left
        ·intro w'
         go_simp
         with_reducible rfl
        rotate_left
        ·simp only [PU]
         rfl
        refine pm_ (i:=6) (N:=some 83) (v:=?_) (a':=?_) rfl rfl (any_of HT_.out T14q1) (fun _ _ _ h => h) (Or.inl ⟨by rfl,?_⟩) ?_ ?_
        rotate_left
        ·intro w'
         go_simp
         with_reducible rfl
        rotate_left
        ·simp only [PU]
         rfl
        refine pm_ (i:=7) (N:=some 84) (v:=?_) (a':=?_) rfl rfl (any_of HT_.out T14q1) (fun _ _ _ h => h) (Or.inl ⟨by rfl,?_⟩) ?_ ?_
        rotate_left
        ·intro w'
         go_simp
         with_reducible rfl
        rotate_left
        ·simp only [PU]
         rfl
        refine tm_ (i:=4) (N:=some 81) (v:=?_) (a':=?_) rfl rfl (take_ofW HT_.out HW_.out T14q1) (fun _ _ _ h => h) (Or.inl ⟨by rfl,?_⟩) hHeld ?_ ?_
        rotate_left
        ·rintro w' ⟨s0,s1⟩
         go_simp
         with_reducible rfl
        rotate_left
        ·simp only [PU]
         rfl
        refine tm_ (i:=8) (N:=some 85) (v:=?_) (a':=?_) rfl rfl (take_ofW HT_.out HW_.out T14q1) (fun _ _ _ h => h) (Or.inl ⟨by rfl,?_⟩) hHeld ?_ ?_
        rotate_left
        ·rintro w' ⟨s0,s1⟩
         go_simp
         with_reducible rfl
        rotate_left
        ·simp only [PU]
         rfl
        refine join_ (σ:=Nat) 2 #[true,true,true,true,true,true,true,true,true,true,true,true,true,true,false,false] (fun s_ => [(86,.tuple #[.agg #[.string t446,.int .i64 t447,.bool t448,.int .i64 t449],.bool t450]),(13,.pointer (some ⟨s_,0,none⟩)),(76,.tuple #[.agg #[.string t446,.int .i64 t447,.bool t448,.int .i64 t449],.bool t450]),(87,.agg #[.string t446,.int .i64 t447,.bool t448,.int .i64 t449]),(88,.bool t450)]) (fun s_ w' => (w'.cell? (ad436.add (x9_2).toNat) = some (.string (rdOf ByteArray.empty t429 x9_2)) ∧ w'.cell? (ad437.add (x10_3).toNat) = some (.int .i64 (rd t408 x10_3))) ∧ (Kd.R k27 27 w' w.heap.size (fun k_ => some k_ ≠ (v415 : Value).ownBlock ∧ some k_ ≠ (.slice Ao67 t426.length co67 : Value).ownBlock ∧ k_ ≠ gb443 ∧ k_ ≠ s_) (.slice Ao7 t407.length co7) t407) ∧ (Kd.R (Kd.int .i64) 3 w' w.heap.size (fun _ => True) (.slice (some ad437) t408.length co8) t408) ∧ (Kd.R k27 27 w' w.heap.size (fun k_ => some k_ ≠ (.slice Ao7 t407.length co7 : Value).ownBlock ∧ some k_ ≠ (.slice Ao67 t426.length co67 : Value).ownBlock ∧ k_ ≠ gb443 ∧ k_ ≠ s_) v415 t414) ∧ (Kd.R k27 27 w' w.heap.size (fun k_ => some k_ ≠ (.slice Ao7 t407.length co7 : Value).ownBlock ∧ some k_ ≠ (v415 : Value).ownBlock ∧ k_ ≠ gb443 ∧ k_ ≠ s_) (.slice Ao67 t426.length co67) t426) ∧ (Kd.R Kd.string 9 w' w.heap.size (fun _ => True) (.slice (some ad436) t429.length co32) t429) ∧ (w'.heap[gb443]? = some (.cells #[.string t438,.int .i64 t439,.bool t440,.int .i64 t441] 27 (0,0))) ∧ (w'.heap[s_]? = some (.cells #[.string (⟨#[]⟩ : ByteArray),.int .i64 0,.bool false,.int .i64 0] 27 (0,0))) ∧ (w.heap.size ≤ s_) ∧ (w.heap.size ≤ s_) ∧ (gb443 ≠ s_) ∧ (s_ ≠ gb443) ∧ (Below w.heap.size w w')) ?_ ?_
        rotate_left
        ·intro hCont
         refine two_ (i:=9) (j:=13) (Ni:=some 86) (Nj:=some 13) #[true,true,true,true,true,true,true,true,true,true,false,false,false,false,false,false] #[true,true,true,true,true,true,true,true,true,false,false,false,false,true,false,false] rfl rfl rfl rfl (two_of HT_.out T14q1) (by decide) (by decide) (fun K hK => ?_) (fun K hK => ?_)
         ·skip
          refine goes_ Try.func17 T14q1 rfl #[.slice Ao67 t426.length co67,.string (rdOf ByteArray.empty t429 x9_2),.int .i64 (rd t408 x10_3)] (by rfl) rfl rfl T14q2 ?_
          with_reducible refine (impl_RunAt.calls k3 _ _ t426 (rdOf ByteArray.empty t429 x9_2) (rd t408 x10_3) t446 t447 t448 t449 t450 _ ?side1 ?side2 A38.out).mono ?_
          (case side1 => repeat (first | exact (Kd.R_reads' HO_7.out).2.2 | (with_reducible refine Kd.C_alloc ?_ _) | (with_reducible refine Kd.C_drewN ?_ _) | (with_reducible refine Kd.C_drew ?_)))
          (case side2 => exact (Kd.R_reads' HO_7.out).2.1)
          rintro e w70 ⟨rfl,hb⟩
          have HS0_:=(hb.cell (World.block_lt_of_cell? _ _ (hHeld.1))).trans (hHeld.1)
          have HS1_:=(hb.cell (World.block_lt_of_cell? _ _ (hHeld.2))).trans (hHeld.2)
          refine ⟨_,rfl,?_⟩
          have n0_:=Aside0.mk (Kd.R_below T14q6 hb)
          have n1_:=Aside0.mk (Kd.R_below T14q7 hb)
          have n2_:=Aside0.mk (Kd.R_below T14q8 hb)
          have n3_:=Aside0.mk (Kd.R_below T14q9 hb)
          have n4_:=Aside0.mk (Kd.R_below T14q10 hb)
          have n5_:=Aside0.mk (blk_below (g:=gb443) (o:=.cells #[.string t438,.int .i64 t439,.bool t440,.int .i64 t441] 27 (0,0)) (by (with_reducible repeat (first | refine blk_drewN ?_ _ | refine blk_drew ?_ | refine blk_alloc ?_ _));exact BK443.out) hb)
          have n6_:=Aside0.mk (below_step (by repeat (first | (with_reducible first | exact HB.out | apply below_alloc | apply pw_below_drewN | apply below_drew1 | refine below_set ?_ GE443.out) | exact HB.out)) hb)
          clear HO_3
          clear HO_4
          clear HO_6
          clear HO_7
          clear HO_8
          clear BK443
          clear HB
          have HO_3:=n0_
          have HO_4:=n1_
          have HO_6:=n2_
          have HO_7:=n3_
          have HO_8:=n4_
          have BK443:=n5_
          have HB:=n6_
          clear n0_ n1_ n2_ n3_ n4_ n5_ n6_
          (try clear hb)
          (try clear hb2)
          (try clear hk)
          (try clear hi)
          refine hK.out _ _ ⟨HS0_,HS1_⟩ (fun hHeld => ?_)
          clear hK K
          refine norm_ (a':=?_) ?_ ?_
          rotate_left
          ·show Act.put _ (some 86) _ = _
           simp only [PU]
           rfl
          refine pm_ (i:=10) (N:=some 76) (v:=?_) (a':=?_) rfl rfl (any_of HT_.out T14q1) (fun _ _ _ h => h) (Or.inl ⟨by rfl,?_⟩) ?_ ?_
          rotate_left
          ·intro w'
           go_simp
           with_reducible rfl
          rotate_left
          ·simp only [PU]
           rfl
          refine pm_ (i:=11) (N:=some 87) (v:=?_) (a':=?_) rfl rfl (any_of HT_.out T14q1) (fun _ _ _ h => h) (Or.inl ⟨by rfl,?_⟩) ?_ ?_
          rotate_left
          ·intro w'
           go_simp
           with_reducible rfl
          rotate_left
          ·simp only [PU]
           rfl
          refine pm_ (i:=12) (N:=some 88) (v:=?_) (a':=?_) rfl rfl (any_of HT_.out T14q1) (fun _ _ _ h => h) (Or.inl ⟨by rfl,?_⟩) ?_ ?_
          rotate_left
          ·intro w'
           go_simp
           with_reducible rfl
          rotate_left
          ·simp only [PU]
           rfl
          refine om_ (i:=13) (N:=some 13) rfl rfl (one_of HT_.out T14q1) (by decide) (fun K hK => ?_)
          refine box_step ?hg (N:=13) ?hd (cs:=#[.string (⟨#[]⟩ : ByteArray),.int .i64 0,.bool false,.int .i64 0]) (t:=27) ?hr ?_;(case hd => rfl);(case hg => rfl);(case hr => first | (go_simp;done) | (go_simp;rfl))
          intro gb451 hg w71 hbox hb
          have HS0_:=(hb.cell (World.block_lt_of_cell? _ _ (hHeld.1))).trans (hHeld.1)
          have HS1_:=(hb.cell (World.block_lt_of_cell? _ _ (hHeld.2))).trans (hHeld.2)
          have n0_:=Aside0.mk (Kd.R_below (Kd.R_elderB T14q6 gb451 (Nat.le_of_eq hg.symm)) hb)
          have n1_:=Aside0.mk (Kd.R_below T14q7 hb)
          have n2_:=Aside0.mk (Kd.R_below (Kd.R_elderB T14q8 gb451 (Nat.le_of_eq hg.symm)) hb)
          have n3_:=Aside0.mk (Kd.R_below (Kd.R_elderB T14q9 gb451 (Nat.le_of_eq hg.symm)) hb)
          have n4_:=Aside0.mk (Kd.R_below T14q10 hb)
          have n5_:=Aside0.mk (blk_below (g:=gb443) (o:=.cells #[.string t438,.int .i64 t439,.bool t440,.int .i64 t441] 27 (0,0)) (by (with_reducible repeat (first | refine blk_drewN ?_ _ | refine blk_drew ?_ | refine blk_alloc ?_ _));exact BK443.out) hb)
          have n6_:=Aside0.mk (below_step (by repeat (first | (with_reducible first | exact HB.out | apply below_alloc | apply pw_below_drewN | apply below_drew1 | refine below_set ?_ GE443.out) | exact HB.out)) hb)
          have n7_:=Aside0.mk (hbox)
          have n8_:=Aside0.mk ((by rw [hg];exact (below_size (by repeat (first | (with_reducible first | exact HB.out | apply below_alloc | apply pw_below_drewN | apply below_drew1 | refine below_set ?_ GE443.out) | exact HB.out))) : w.heap.size ≤ gb451))
          have n9_:=Aside0.mk ((by rw [hg];exact (below_size (by repeat (first | (with_reducible first | exact HB.out | apply below_alloc | apply pw_below_drewN | apply below_drew1 | refine below_set ?_ GE443.out) | exact HB.out))) : w.heap.size ≤ gb451))
          have n10_:=Aside0.mk ((by rw [hg];exact Nat.ne_of_lt (blk_lt (g:=gb443) (o:=.cells #[.string t438,.int .i64 t439,.bool t440,.int .i64 t441] 27 (0,0)) (by (with_reducible repeat (first | refine blk_drewN ?_ _ | refine blk_drew ?_ | refine blk_alloc ?_ _));exact BK443.out)) : gb443 ≠ gb451))
          have n11_:=Aside0.mk ((by rw [hg];exact Nat.ne_of_gt (blk_lt (g:=gb443) (o:=.cells #[.string t438,.int .i64 t439,.bool t440,.int .i64 t441] 27 (0,0)) (by (with_reducible repeat (first | refine blk_drewN ?_ _ | refine blk_drew ?_ | refine blk_alloc ?_ _));exact BK443.out)) : gb451 ≠ gb443))
          clear HO_3
          clear HO_4
          clear HO_6
          clear HO_7
          clear HO_8
          clear BK443
          clear HB
          have HO_3:=n0_
          have HO_4:=n1_
          have HO_6:=n2_
          have HO_7:=n3_
          have HO_8:=n4_
          have BK443:=n5_
          have HB:=n6_
          have BK451:=n7_
          have GW451:=n8_
          have GE451:=n9_
          have NB443_451:=n10_
          have NB451_443:=n11_
          clear n0_ n1_ n2_ n3_ n4_ n5_ n6_ n7_ n8_ n9_ n10_ n11_
          clear hb hbox hg
          refine hK.out _ _ ⟨HS0_,HS1_⟩ (fun hHeld => ?_)
          clear hK K
          refine norm_ (a':=?_) ?_ ?_
          rotate_left
          ·show Act.put _ (some 13) _ = _
           simp only [PU]
           rfl
          exact norm_ (by simp only [putAll,Act.put,List.setIfInBounds_toArray,List.set_cons_zero,List.set_cons_succ]) (hCont (gb451) _ ⟨hHeld,T14q14,T14q7,T14q15,T14q16,T14q10,(by (with_reducible repeat (first | refine blk_drewN ?_ _ | refine blk_drew ?_ | refine blk_alloc ?_ _));exact BK443.out),(by (with_reducible repeat (first | refine blk_drewN ?_ _ | refine blk_drew ?_ | refine blk_alloc ?_ _));exact BK451.out),GW451.out,GE451.out,NB443_451.out,NB451_443.out,(by repeat (first | (with_reducible first | exact HB.out | apply below_alloc | apply pw_below_drewN | apply below_drew1 | refine below_set ?_ GE443.out | refine below_set ?_ GE451.out) | exact HB.out))⟩)
         skip
         refine box_step ?hg (N:=13) ?hd (cs:=#[.string (⟨#[]⟩ : ByteArray),.int .i64 0,.bool false,.int .i64 0]) (t:=27) ?hr ?_;(case hd => rfl);(case hg => rfl);(case hr => first | (go_simp;done) | (go_simp;rfl))
         intro gb451 hg w70 hbox hb
         have HS0_:=(hb.cell (World.block_lt_of_cell? _ _ (hHeld.1))).trans (hHeld.1)
         have HS1_:=(hb.cell (World.block_lt_of_cell? _ _ (hHeld.2))).trans (hHeld.2)
         have n0_:=Aside0.mk (Kd.R_below (Kd.R_elderB T14q6 gb451 (Nat.le_of_eq hg.symm)) hb)
         have n1_:=Aside0.mk (Kd.R_below T14q7 hb)
         have n2_:=Aside0.mk (Kd.R_below (Kd.R_elderB T14q8 gb451 (Nat.le_of_eq hg.symm)) hb)
         have n3_:=Aside0.mk (Kd.R_below (Kd.R_elderB T14q9 gb451 (Nat.le_of_eq hg.symm)) hb)
         have n4_:=Aside0.mk (Kd.R_below T14q10 hb)
         have n5_:=Aside0.mk (blk_below (g:=gb443) (o:=.cells #[.string t438,.int .i64 t439,.bool t440,.int .i64 t441] 27 (0,0)) (by (with_reducible repeat (first | refine blk_drewN ?_ _ | refine blk_drew ?_ | refine blk_alloc ?_ _));exact BK443.out) hb)
         have n6_:=Aside0.mk (below_step (by repeat (first | (with_reducible first | exact HB.out | apply below_alloc | apply pw_below_drewN | apply below_drew1 | refine below_set ?_ GE443.out) | exact HB.out)) hb)
         have n7_:=Aside0.mk (hbox)
         have n8_:=Aside0.mk ((by rw [hg];exact (below_size (by repeat (first | (with_reducible first | exact HB.out | apply below_alloc | apply pw_below_drewN | apply below_drew1 | refine below_set ?_ GE443.out) | exact HB.out))) : w.heap.size ≤ gb451))
         have n9_:=Aside0.mk ((by rw [hg];exact (below_size (by repeat (first | (with_reducible first | exact HB.out | apply below_alloc | apply pw_below_drewN | apply below_drew1 | refine below_set ?_ GE443.out) | exact HB.out))) : w.heap.size ≤ gb451))
         have n10_:=Aside0.mk ((by rw [hg];exact Nat.ne_of_lt (blk_lt (g:=gb443) (o:=.cells #[.string t438,.int .i64 t439,.bool t440,.int .i64 t441] 27 (0,0)) (by (with_reducible repeat (first | refine blk_drewN ?_ _ | refine blk_drew ?_ | refine blk_alloc ?_ _));exact BK443.out)) : gb443 ≠ gb451))
         have n11_:=Aside0.mk ((by rw [hg];exact Nat.ne_of_gt (blk_lt (g:=gb443) (o:=.cells #[.string t438,.int .i64 t439,.bool t440,.int .i64 t441] 27 (0,0)) (by (with_reducible repeat (first | refine blk_drewN ?_ _ | refine blk_drew ?_ | refine blk_alloc ?_ _));exact BK443.out)) : gb451 ≠ gb443))
         clear HO_3
         clear HO_4
         clear HO_6
         clear HO_7
         clear HO_8
         clear BK443
         clear HB
         have HO_3:=n0_
         have HO_4:=n1_
         have HO_6:=n2_
         have HO_7:=n3_
         have HO_8:=n4_
         have BK443:=n5_
         have HB:=n6_
         have BK451:=n7_
         have GW451:=n8_
         have GE451:=n9_
         have NB443_451:=n10_
         have NB451_443:=n11_
         clear n0_ n1_ n2_ n3_ n4_ n5_ n6_ n7_ n8_ n9_ n10_ n11_
         clear hb hbox hg
         refine hK.out _ _ ⟨HS0_,HS1_⟩ (fun hHeld => ?_)
         clear hK K
         refine norm_ (a':=?_) ?_ ?_
         rotate_left
         ·show Act.put _ (some 13) _ = _
          simp only [PU]
          rfl
         refine om_ (i:=9) (N:=some 86) rfl rfl (one_of HT_.out T14q1) (by decide) (fun K hK => ?_)
         refine goes_ Try.func17 T14q1 rfl #[.slice Ao67 t426.length co67,.string (rdOf ByteArray.empty t429 x9_2),.int .i64 (rd t408 x10_3)] (by rfl) rfl rfl T14q2 ?_
         with_reducible refine (impl_RunAt.calls k3 _ _ t426 (rdOf ByteArray.empty t429 x9_2) (rd t408 x10_3) t446 t447 t448 t449 t450 _ ?side1 ?side2 A38.out).mono ?_
         (case side1 => repeat (first | exact (Kd.R_reads' HO_7.out).2.2 | (with_reducible refine Kd.C_alloc ?_ _) | (with_reducible refine Kd.C_drewN ?_ _) | (with_reducible refine Kd.C_drew ?_)))
         (case side2 => exact (Kd.R_reads' HO_7.out).2.1)
         rintro e w71 ⟨rfl,hb⟩
         have HS0_:=(hb.cell (World.block_lt_of_cell? _ _ (hHeld.1))).trans (hHeld.1)
         have HS1_:=(hb.cell (World.block_lt_of_cell? _ _ (hHeld.2))).trans (hHeld.2)
         refine ⟨_,rfl,?_⟩
         have n0_:=Aside0.mk (Kd.R_below T14q6 hb)
         have n1_:=Aside0.mk (Kd.R_below T14q7 hb)
         have n2_:=Aside0.mk (Kd.R_below T14q8 hb)
         have n3_:=Aside0.mk (Kd.R_below T14q9 hb)
         have n4_:=Aside0.mk (Kd.R_below T14q10 hb)
         have n5_:=Aside0.mk (blk_below (g:=gb443) (o:=.cells #[.string t438,.int .i64 t439,.bool t440,.int .i64 t441] 27 (0,0)) (by (with_reducible repeat (first | refine blk_drewN ?_ _ | refine blk_drew ?_ | refine blk_alloc ?_ _));exact BK443.out) hb)
         have n6_:=Aside0.mk (blk_below (g:=gb451) (o:=.cells #[.string (⟨#[]⟩ : ByteArray),.int .i64 0,.bool false,.int .i64 0] 27 (0,0)) (by (with_reducible repeat (first | refine blk_drewN ?_ _ | refine blk_drew ?_ | refine blk_alloc ?_ _));exact BK451.out) hb)
         have n7_:=Aside0.mk (below_step (by repeat (first | (with_reducible first | exact HB.out | apply below_alloc | apply pw_below_drewN | apply below_drew1 | refine below_set ?_ GE443.out | refine below_set ?_ GE451.out) | exact HB.out)) hb)
         clear HO_3
         clear HO_4
         clear HO_6
         clear HO_7
         clear HO_8
         clear BK443
         clear BK451
         clear HB
         have HO_3:=n0_
         have HO_4:=n1_
         have HO_6:=n2_
         have HO_7:=n3_
         have HO_8:=n4_
         have BK443:=n5_
         have BK451:=n6_
         have HB:=n7_
         clear n0_ n1_ n2_ n3_ n4_ n5_ n6_ n7_
         (try clear hb)
         (try clear hb2)
         (try clear hk)
         (try clear hi)
         refine hK.out _ _ ⟨HS0_,HS1_⟩ (fun hHeld => ?_)
         clear hK K
         refine norm_ (a':=?_) ?_ ?_
         rotate_left
         ·show Act.put _ (some 86) _ = _
          simp only [PU]
          rfl
         refine pm_ (i:=10) (N:=some 76) (v:=?_) (a':=?_) rfl rfl (any_of HT_.out T14q1) (fun _ _ _ h => h) (Or.inl ⟨by rfl,?_⟩) ?_ ?_
         rotate_left
         ·intro w'
          go_simp
          with_reducible rfl
         rotate_left
         ·simp only [PU]
          rfl
         refine pm_ (i:=11) (N:=some 87) (v:=?_) (a':=?_) rfl rfl (any_of HT_.out T14q1) (fun _ _ _ h => h) (Or.inl ⟨by rfl,?_⟩) ?_ ?_
         rotate_left
         ·intro w'
          go_simp
          with_reducible rfl
         rotate_left
         ·simp only [PU]
          rfl
         refine pm_ (i:=12) (N:=some 88) (v:=?_) (a':=?_) rfl rfl (any_of HT_.out T14q1) (fun _ _ _ h => h) (Or.inl ⟨by rfl,?_⟩) ?_ ?_
         rotate_left
         ·intro w'
          go_simp
          with_reducible rfl
         rotate_left
         ·simp only [PU]
          rfl
         exact norm_ (by simp only [putAll,Act.put,List.setIfInBounds_toArray,List.set_cons_zero,List.set_cons_succ]) (hCont (gb451) _ ⟨hHeld,T14q14,T14q7,T14q15,T14q16,T14q10,(by (with_reducible repeat (first | refine blk_drewN ?_ _ | refine blk_drew ?_ | refine blk_alloc ?_ _));exact BK443.out),(by (with_reducible repeat (first | refine blk_drewN ?_ _ | refine blk_drew ?_ | refine blk_alloc ?_ _));exact BK451.out),GW451.out,GE451.out,NB443_451.out,NB451_443.out,(by repeat (first | (with_reducible first | exact HB.out | apply below_alloc | apply pw_below_drewN | apply below_drew1 | refine below_set ?_ GE443.out | refine below_set ?_ GE451.out) | exact HB.out))⟩)
        rintro gb451 w72 ⟨hS_,h0_,h1_,h2_,h3_,h4_,h5_,h6_,h7_,h8_,h9_,h10_,h11_⟩
        have n0_ : Aside0 (Kd.R k27 27 w72 w.heap.size (fun k_ => some k_ ≠ (v415 : Value).ownBlock ∧ some k_ ≠ (.slice Ao67 t426.length co67 : Value).ownBlock ∧ k_ ≠ gb443 ∧ k_ ≠ gb451) (.slice Ao7 t407.length co7) t407):=⟨h0_⟩
        have n1_ : Aside0 (Kd.R (Kd.int .i64) 3 w72 w.heap.size (fun _ => True) (.slice (some ad437) t408.length co8) t408):=⟨h1_⟩
        have n2_ : Aside0 (Kd.R k27 27 w72 w.heap.size (fun k_ => some k_ ≠ (.slice Ao7 t407.length co7 : Value).ownBlock ∧ some k_ ≠ (.slice Ao67 t426.length co67 : Value).ownBlock ∧ k_ ≠ gb443 ∧ k_ ≠ gb451) v415 t414):=⟨h2_⟩
        have n3_ : Aside0 (Kd.R k27 27 w72 w.heap.size (fun k_ => some k_ ≠ (.slice Ao7 t407.length co7 : Value).ownBlock ∧ some k_ ≠ (v415 : Value).ownBlock ∧ k_ ≠ gb443 ∧ k_ ≠ gb451) (.slice Ao67 t426.length co67) t426):=⟨h3_⟩
        have n4_ : Aside0 (Kd.R Kd.string 9 w72 w.heap.size (fun _ => True) (.slice (some ad436) t429.length co32) t429):=⟨h4_⟩
        have n5_ : Aside0 (w72.heap[gb443]? = some (.cells #[.string t438,.int .i64 t439,.bool t440,.int .i64 t441] 27 (0,0))):=⟨h5_⟩
        have n6_ : Aside0 (w72.heap[gb451]? = some (.cells #[.string (⟨#[]⟩ : ByteArray),.int .i64 0,.bool false,.int .i64 0] 27 (0,0))):=⟨h6_⟩
        have n7_ : Aside0 (w.heap.size ≤ gb451):=⟨h7_⟩
        have n8_ : Aside0 (w.heap.size ≤ gb451):=⟨h8_⟩
        have n9_ : Aside0 (gb443 ≠ gb451):=⟨h9_⟩
        have n10_ : Aside0 (gb451 ≠ gb443):=⟨h10_⟩
        have n11_ : Aside0 (Below w.heap.size w w72):=⟨h11_⟩
        clear HO_3
        clear HO_4
        clear HO_6
        clear HO_7
        clear HO_8
        clear BK443
        clear HB
        clear h0_ h1_ h2_ h3_ h4_ h5_ h6_ h7_ h8_ h9_ h10_ h11_
        have HO_3:=n0_
        have HO_4:=n1_
        have HO_6:=n2_
        have HO_7:=n3_
        have HO_8:=n4_
        have BK443:=n5_
        have BK451:=n6_
        have GW451:=n7_
        have GE451:=n8_
        have NB443_451:=n9_
        have NB451_443:=n10_
        have HB:=n11_
        clear n0_ n1_ n2_ n3_ n4_ n5_ n6_ n7_ n8_ n9_ n10_ n11_
        have hHeld : w72.cell? (ad436.add (x9_2).toNat) = some (.string (rdOf ByteArray.empty t429 x9_2)) ∧ w72.cell? (ad437.add (x10_3).toNat) = some (.int .i64 (rd t408 x10_3)):=hS_
        refine norm_ (a':=?_) ?_ ?_
        rotate_left
        ·simp only [putAll,Act.put,List.setIfInBounds_toArray,List.set_cons_zero,List.set_cons_succ]
         rfl
        refine om_ (i:=14) (N:=none) rfl rfl (one_of HT_.out T14q1) (by decide) (fun K hK => ?_)
        have hs73 : w72.cell? ⟨gb451,0,none⟩ = some (.string (⟨#[]⟩ : ByteArray)):=(blk_cell BK451.out 0).trans rfl
        have hfs73:=blk_frozen BK451.out 0
        have hns73_0:=NB443_451.out
        have hms73_0:=NB451_443.out
        have hs74 : w72.cell? ⟨gb451,1,none⟩ = some (.int .i64 0):=(blk_cell BK451.out 1).trans rfl
        have hfs74:=blk_frozen BK451.out 1
        have hns74_0:=NB443_451.out
        have hms74_0:=NB451_443.out
        have hs75 : w72.cell? ⟨gb451,2,none⟩ = some (.bool false):=(blk_cell BK451.out 2).trans rfl
        have hfs75:=blk_frozen BK451.out 2
        have hns75_0:=NB443_451.out
        have hms75_0:=NB451_443.out
        have hs76 : w72.cell? ⟨gb451,3,none⟩ = some (.int .i64 0):=(blk_cell BK451.out 3).trans rfl
        have hfs76:=blk_frozen BK451.out 3
        have hns76_0:=NB443_451.out
        have hms76_0:=NB451_443.out
        refine skip_ (w1:=?_) (by rfl) rfl ?_ ?_
        rotate_left
        ·go_simp
         rfl
        refine hK.out _ _ ⟨((cell_far (p:=⟨gb451,_,none⟩) (by first | exact Kd.own_blk (Kd.R_ne HO_8.out BK451.out (by decide)) | (rw [add_block];exact Kd.own_blk (Kd.R_ne HO_8.out BK451.out (by decide))) | (show (Addr.add _ _).block ≠ _;rw [add_block];exact Kd.own_blk (Kd.R_ne HO_8.out BK451.out (by decide))) | (dsimp only;exact Kd.own_blk (Kd.R_ne HO_8.out BK451.out (by decide)))) _).trans (((cell_far (p:=⟨gb451,_,none⟩) (by first | exact Kd.own_blk (Kd.R_ne HO_8.out BK451.out (by decide)) | (rw [add_block];exact Kd.own_blk (Kd.R_ne HO_8.out BK451.out (by decide))) | (show (Addr.add _ _).block ≠ _;rw [add_block];exact Kd.own_blk (Kd.R_ne HO_8.out BK451.out (by decide))) | (dsimp only;exact Kd.own_blk (Kd.R_ne HO_8.out BK451.out (by decide)))) _).trans (((cell_far (p:=⟨gb451,_,none⟩) (by first | exact Kd.own_blk (Kd.R_ne HO_8.out BK451.out (by decide)) | (rw [add_block];exact Kd.own_blk (Kd.R_ne HO_8.out BK451.out (by decide))) | (show (Addr.add _ _).block ≠ _;rw [add_block];exact Kd.own_blk (Kd.R_ne HO_8.out BK451.out (by decide))) | (dsimp only;exact Kd.own_blk (Kd.R_ne HO_8.out BK451.out (by decide)))) _).trans (((cell_far (p:=⟨gb451,_,none⟩) (by first | exact Kd.own_blk (Kd.R_ne HO_8.out BK451.out (by decide)) | (rw [add_block];exact Kd.own_blk (Kd.R_ne HO_8.out BK451.out (by decide))) | (show (Addr.add _ _).block ≠ _;rw [add_block];exact Kd.own_blk (Kd.R_ne HO_8.out BK451.out (by decide))) | (dsimp only;exact Kd.own_blk (Kd.R_ne HO_8.out BK451.out (by decide)))) _).trans (hHeld.1)))))))),((cell_far (p:=⟨gb451,_,none⟩) (by first | exact Kd.own_blk (Kd.R_ne HO_4.out BK451.out (by decide)) | (rw [add_block];exact Kd.own_blk (Kd.R_ne HO_4.out BK451.out (by decide))) | (show (Addr.add _ _).block ≠ _;rw [add_block];exact Kd.own_blk (Kd.R_ne HO_4.out BK451.out (by decide))) | (dsimp only;exact Kd.own_blk (Kd.R_ne HO_4.out BK451.out (by decide)))) _).trans (((cell_far (p:=⟨gb451,_,none⟩) (by first | exact Kd.own_blk (Kd.R_ne HO_4.out BK451.out (by decide)) | (rw [add_block];exact Kd.own_blk (Kd.R_ne HO_4.out BK451.out (by decide))) | (show (Addr.add _ _).block ≠ _;rw [add_block];exact Kd.own_blk (Kd.R_ne HO_4.out BK451.out (by decide))) | (dsimp only;exact Kd.own_blk (Kd.R_ne HO_4.out BK451.out (by decide)))) _).trans (((cell_far (p:=⟨gb451,_,none⟩) (by first | exact Kd.own_blk (Kd.R_ne HO_4.out BK451.out (by decide)) | (rw [add_block];exact Kd.own_blk (Kd.R_ne HO_4.out BK451.out (by decide))) | (show (Addr.add _ _).block ≠ _;rw [add_block];exact Kd.own_blk (Kd.R_ne HO_4.out BK451.out (by decide))) | (dsimp only;exact Kd.own_blk (Kd.R_ne HO_4.out BK451.out (by decide)))) _).trans (((cell_far (p:=⟨gb451,_,none⟩) (by first | exact Kd.own_blk (Kd.R_ne HO_4.out BK451.out (by decide)) | (rw [add_block];exact Kd.own_blk (Kd.R_ne HO_4.out BK451.out (by decide))) | (show (Addr.add _ _).block ≠ _;rw [add_block];exact Kd.own_blk (Kd.R_ne HO_4.out BK451.out (by decide))) | (dsimp only;exact Kd.own_blk (Kd.R_ne HO_4.out BK451.out (by decide)))) _).trans (hHeld.2))))))))⟩ (fun hHeld => ?_)
        clear hK K
        refine pm_ (i:=15) (N:=some 14) (v:=?_) (a':=?_) rfl rfl (any_of HT_.out T14q1) (fun _ _ _ h => h) (Or.inl ⟨by rfl,?_⟩) ?_ ?_
        rotate_left
        ·intro w'
         go_simp
         with_reducible rfl
        rotate_left
        ·simp only [PU]
         rfl
        refine done_ (done_of HT_.out T14q1) ?_
        have hnb77:=NB443_451.out
        have hnc77:=NB451_443.out
        have hcz78_0 : w72.cell? ⟨gb443,0,none⟩ = some (.string t438):=(blk_cell BK443.out 0).trans rfl
        have hcz78_1 : w72.cell? ⟨gb443,1,none⟩ = some (.int .i64 t439):=(blk_cell BK443.out 1).trans rfl
        have hcz78_2 : w72.cell? ⟨gb443,2,none⟩ = some (.bool t440):=(blk_cell BK443.out 2).trans rfl
        have hcz78_3 : w72.cell? ⟨gb443,3,none⟩ = some (.int .i64 t441):=(blk_cell BK443.out 3).trans rfl
        have hfz78_0:=blk_frozen BK443.out 0
        have hfz78_1:=blk_frozen BK443.out 1
        have hfz78_2:=blk_frozen BK443.out 2
        have hfz78_3:=blk_frozen BK443.out 3
        have hcz79_0 : w72.cell? ⟨gb451,0,none⟩ = some (.string (⟨#[]⟩ : ByteArray)):=(blk_cell BK451.out 0).trans rfl
        have hcz79_1 : w72.cell? ⟨gb451,1,none⟩ = some (.int .i64 0):=(blk_cell BK451.out 1).trans rfl
        have hcz79_2 : w72.cell? ⟨gb451,2,none⟩ = some (.bool false):=(blk_cell BK451.out 2).trans rfl
        have hcz79_3 : w72.cell? ⟨gb451,3,none⟩ = some (.int .i64 0):=(blk_cell BK451.out 3).trans rfl
        have hfz79_0:=blk_frozen BK451.out 0
        have hfz79_1:=blk_frozen BK451.out 1
        have hfz79_2:=blk_frozen BK451.out 2
        have hfz79_3:=blk_frozen BK451.out 3
        try go_wp2
        go_ret
        exact ⟨by first | rfl | (simp [errW_none,errW_some] <;> rfl) | (simp [*,errW_none,errW_some] <;> rfl),by repeat (first | (with_reducible first | exact HB.out | apply below_alloc | apply pw_below_drewN | apply below_drew1 | refine below_set ?_ GE443.out | refine below_set ?_ GE451.out) | exact HB.out)⟩
       rw [if_neg c58] at H
       have c58b0 : (!(t438.toList == t446.toList) || (!(t439 == t447) || (!(t440 == t448) || (!(t441 == t449))))) = false:=by simpa using c58
       clear c58
       have H':=Aside0.mk H
       clear H
       try go_wp2
       have n0_:=Aside0.mk (Kd.R_drew HO_3.out)
       have n1_:=Aside0.mk (Kd.R_drew HO_4.out)
       have n2_:=Aside0.mk (Kd.R_drew HO_6.out)
       have n3_:=Aside0.mk (Kd.R_drew HO_7.out)
       have n4_:=Aside0.mk (Kd.R_drew HO_8.out)
       have n5_:=Aside0.mk (below_drew1 HB.out)
       clear HO_3
       clear HO_4
       clear HO_6
       clear HO_7
       clear HO_8
       clear HB
       have HO_3:=n0_
       have HO_4:=n1_
       have HO_6:=n2_
       have HO_7:=n3_
       have HO_8:=n4_
       have HB:=n5_
       clear n0_ n1_ n2_ n3_ n4_ n5_
       have p436 : 0 ≤ (x9_2 : Int):=of_decide_eq_true (by first | (with_reducible assumption) | assumption)
       have q436 : x9_2 < (t429.length : Int):=of_decide_eq_true (by first | (with_reducible assumption) | assumption)
       obtain ⟨ad436,e436,hx436_0⟩:=Kd.at_string (Kd.R_reads' HO_8.out).2.2 x9_2 p436 q436
       cases e436
       replace p436:=eq_true p436
       replace q436:=eq_true q436
       have p437 : 0 ≤ (x10_3 : Int):=of_decide_eq_true (by first | (with_reducible assumption) | assumption)
       have q437 : x10_3 < (t408.length : Int):=of_decide_eq_true (by first | (with_reducible assumption) | assumption)
       obtain ⟨ad437,e437,hx437_0⟩:=Kd.at_int (Kd.R_reads' HO_4.out).2.2 x10_3 p437 q437
       cases e437
       replace p437:=eq_true p437
       replace q437:=eq_true q437
       refine start_ (n:=16) (S:=fun w' => w'.cell? (ad436.add (x9_2).toNat) = some (.string (rdOf ByteArray.empty t429 x9_2)) ∧ w'.cell? (ad437.add (x10_3).toNat) = some (.int .i64 (rd t408 x10_3))) (ds:=[]) #[false,false,false,false,false,false,false,false,false,false,false,false,false,false,false,false] T14q1 rfl rfl ⟨hx436_0,hx437_0⟩ (fun hHeld => ?_);refine with_tabW laws_FnRunTrimTop.tab15 laws_FnRunTrimTop.bits15 (fun HT_ HW_ => ?_)
       generalize wr.drew = w80 at HO_3 HO_4 HO_6 HO_7 HO_8 HB hx436_0 hx437_0 hHeld ⊢
       refine pm_ (i:=0) (N:=some 64) (v:=?_) (a':=?_) rfl rfl (any_of HT_.out T14q1) (fun _ _ _ h => h) (Or.inl ⟨by rfl,?_⟩) ?_ ?_
       rotate_left
       ·intro w'
        go_simp
        with_reducible rfl
       rotate_left
       ·simp only [PU]
        rfl
       refine pm_ (i:=1) (N:=some 65) (v:=?_) (a':=?_) rfl rfl (any_of HT_.out T14q1) (fun _ _ _ h => h) (Or.inl ⟨by rfl,?_⟩) ?_ ?_
       rotate_left
       ·intro w'
        go_simp
        with_reducible rfl
       rotate_left
       ·simp only [PU]
        rfl
       refine pm_ (i:=2) (N:=some 66) (v:=?_) (a':=?_) rfl rfl (any_of HT_.out T14q1) (fun _ _ _ h => h) (Or.inl ⟨by rfl,?_⟩) ?_ ?_
       rotate_left
       ·intro w'
        go_simp
        with_reducible rfl
       rotate_left
       ·simp only [PU]
        rfl
       refine pm_ (i:=3) (N:=some 67) (v:=?_) (a':=?_) rfl rfl (any_of HT_.out T14q1) (fun _ _ _ h => h) (Or.inl ⟨by rfl,?_⟩) ?_ ?_
       rotate_left
       ·intro w'
        go_simp
        with_reducible rfl
       rotate_left
       ·simp only [PU]
        rfl
       refine pm_ (i:=5) (N:=some 69) (v:=?_) (a':=?_) rfl rfl (any_of HT_.out T14q1) (fun _ _ _ h => h) (Or.inl ⟨by rfl,?_⟩) ?_ ?_
       rotate_left
       ·intro w'
        go_simp
        with_reducible rfl
       rotate_left
       ·simp only [PU]
        rfl
       refine pm_ (i:=6) (N:=some 70) (v:=?_) (a':=?_) rfl rfl (any_of HT_.out T14q1) (fun _ _ _ h => h) (Or.inl ⟨by rfl,?_⟩) ?_ ?_
       rotate_left
       ·intro w'
        go_simp
        with_reducible rfl
       rotate_left
       ·simp only [PU]
        rfl
       refine pm_ (i:=7) (N:=some 71) (v:=?_) (a':=?_) rfl rfl (any_of HT_.out T14q1) (fun _ _ _ h => h) (Or.inl ⟨by rfl,?_⟩) ?_ ?_
       rotate_left
       ·intro w'
        go_simp
        with_reducible rfl
       rotate_left
       ·simp only [PU]
        rfl
       refine tm_ (i:=4) (N:=some 68) (v:=?_) (a':=?_) rfl rfl (take_ofW HT_.out HW_.out T14q1) (fun _ _ _ h => h) (Or.inl ⟨by rfl,?_⟩) hHeld ?_ ?_
       rotate_left
       ·rintro w' ⟨s0,s1⟩
        go_simp
        with_reducible rfl
       rotate_left
       ·simp only [PU]
        rfl
       refine tm_ (i:=8) (N:=some 72) (v:=?_) (a':=?_) rfl rfl (take_ofW HT_.out HW_.out T14q1) (fun _ _ _ h => h) (Or.inl ⟨by rfl,?_⟩) hHeld ?_ ?_
       rotate_left
       ·rintro w' ⟨s0,s1⟩
        go_simp
        with_reducible rfl
       rotate_left
       ·simp only [PU]
        rfl
       refine join_ (σ:=Nat) 2 #[true,true,true,true,true,true,true,true,true,true,true,true,true,true,false,false] (fun s_ => [(73,.tuple #[.agg #[.string t438,.int .i64 t439,.bool t440,.int .i64 t441],.bool t442]),(11,.pointer (some ⟨s_,0,none⟩)),(63,.tuple #[.agg #[.string t438,.int .i64 t439,.bool t440,.int .i64 t441],.bool t442]),(74,.agg #[.string t438,.int .i64 t439,.bool t440,.int .i64 t441]),(75,.bool t442)]) (fun s_ w' => (w'.cell? (ad436.add (x9_2).toNat) = some (.string (rdOf ByteArray.empty t429 x9_2)) ∧ w'.cell? (ad437.add (x10_3).toNat) = some (.int .i64 (rd t408 x10_3))) ∧ (Kd.R k27 27 w' w.heap.size (fun k_ => some k_ ≠ (v415 : Value).ownBlock ∧ some k_ ≠ (v427 : Value).ownBlock ∧ k_ ≠ s_) (.slice Ao7 t407.length co7) t407) ∧ (Kd.R (Kd.int .i64) 3 w' w.heap.size (fun _ => True) (.slice (some ad437) t408.length co8) t408) ∧ (Kd.R k27 27 w' w.heap.size (fun k_ => some k_ ≠ (.slice Ao7 t407.length co7 : Value).ownBlock ∧ some k_ ≠ (v427 : Value).ownBlock ∧ k_ ≠ s_) v415 t414) ∧ (Kd.R k27 27 w' w.heap.size (fun k_ => some k_ ≠ (.slice Ao7 t407.length co7 : Value).ownBlock ∧ some k_ ≠ (v415 : Value).ownBlock ∧ k_ ≠ s_) v427 t426) ∧ (Kd.R Kd.string 9 w' w.heap.size (fun _ => True) (.slice (some ad436) t429.length co32) t429) ∧ (w'.heap[s_]? = some (.cells #[.string (⟨#[]⟩ : ByteArray),.int .i64 0,.bool false,.int .i64 0] 27 (0,0))) ∧ (w.heap.size ≤ s_) ∧ (w.heap.size ≤ s_) ∧ (Below w.heap.size w w')) ?_ ?_
       rotate_left
       ·intro hCont
        refine two_ (i:=9) (j:=13) (Ni:=some 73) (Nj:=some 11) #[true,true,true,true,true,true,true,true,true,true,false,false,false,false,false,false] #[true,true,true,true,true,true,true,true,true,false,false,false,false,true,false,false] rfl rfl rfl rfl (two_of HT_.out T14q1) (by decide) (by decide) (fun K hK => ?_) (fun K hK => ?_)
        ·skip
         refine goes_ Try.func17 T14q1 rfl #[.slice Ao7 t407.length co7,.string (rdOf ByteArray.empty t429 x9_2),.int .i64 (rd t408 x10_3)] (by rfl) rfl rfl T14q2 ?_
         with_reducible refine (impl_RunAt.calls k3 _ _ t407 (rdOf ByteArray.empty t429 x9_2) (rd t408 x10_3) t438 t439 t440 t441 t442 _ ?side1 ?side2 A37.out).mono ?_
         (case side1 => repeat (first | exact (Kd.R_reads' HO_3.out).2.2 | (with_reducible refine Kd.C_alloc ?_ _) | (with_reducible refine Kd.C_drewN ?_ _) | (with_reducible refine Kd.C_drew ?_)))
         (case side2 => exact (Kd.R_reads' HO_3.out).2.1)
         rintro e w81 ⟨rfl,hb⟩
         have HS0_:=(hb.cell (World.block_lt_of_cell? _ _ (hHeld.1))).trans (hHeld.1)
         have HS1_:=(hb.cell (World.block_lt_of_cell? _ _ (hHeld.2))).trans (hHeld.2)
         refine ⟨_,rfl,?_⟩
         have n0_:=Aside0.mk (Kd.R_below T14q6 hb)
         have n1_:=Aside0.mk (Kd.R_below T14q7 hb)
         have n2_:=Aside0.mk (Kd.R_below T14q8 hb)
         have n3_:=Aside0.mk (Kd.R_below T14q9 hb)
         have n4_:=Aside0.mk (Kd.R_below T14q10 hb)
         have n5_:=Aside0.mk (below_step (by repeat (first | (with_reducible first | exact HB.out | apply below_alloc | apply pw_below_drewN | apply below_drew1) | exact HB.out)) hb)
         clear HO_3
         clear HO_4
         clear HO_6
         clear HO_7
         clear HO_8
         clear HB
         have HO_3:=n0_
         have HO_4:=n1_
         have HO_6:=n2_
         have HO_7:=n3_
         have HO_8:=n4_
         have HB:=n5_
         clear n0_ n1_ n2_ n3_ n4_ n5_
         (try clear hb)
         (try clear hb2)
         (try clear hk)
         (try clear hi)
         refine hK.out _ _ ⟨HS0_,HS1_⟩ (fun hHeld => ?_)
         clear hK K
         refine norm_ (a':=?_) ?_ ?_
         rotate_left
         ·show Act.put _ (some 73) _ = _
          simp only [PU]
          rfl
         refine pm_ (i:=10) (N:=some 63) (v:=?_) (a':=?_) rfl rfl (any_of HT_.out T14q1) (fun _ _ _ h => h) (Or.inl ⟨by rfl,?_⟩) ?_ ?_
         rotate_left
         ·intro w'
          go_simp
          with_reducible rfl
         rotate_left
         ·simp only [PU]
          rfl
         refine pm_ (i:=11) (N:=some 74) (v:=?_) (a':=?_) rfl rfl (any_of HT_.out T14q1) (fun _ _ _ h => h) (Or.inl ⟨by rfl,?_⟩) ?_ ?_
         rotate_left
         ·intro w'
          go_simp
          with_reducible rfl
         rotate_left
         ·simp only [PU]
          rfl
         refine pm_ (i:=12) (N:=some 75) (v:=?_) (a':=?_) rfl rfl (any_of HT_.out T14q1) (fun _ _ _ h => h) (Or.inl ⟨by rfl,?_⟩) ?_ ?_
         rotate_left
         ·intro w'
          go_simp
          with_reducible rfl
         rotate_left
         ·simp only [PU]
          rfl
         refine om_ (i:=13) (N:=some 11) rfl rfl (one_of HT_.out T14q1) (by decide) (fun K hK => ?_)
         refine box_step ?hg (N:=11) ?hd (cs:=#[.string (⟨#[]⟩ : ByteArray),.int .i64 0,.bool false,.int .i64 0]) (t:=27) ?hr ?_;(case hd => rfl);(case hg => rfl);(case hr => first | (go_simp;done) | (go_simp;rfl))
         intro gb443 hg w82 hbox hb
         have HS0_:=(hb.cell (World.block_lt_of_cell? _ _ (hHeld.1))).trans (hHeld.1)
         have HS1_:=(hb.cell (World.block_lt_of_cell? _ _ (hHeld.2))).trans (hHeld.2)
         have n0_:=Aside0.mk (Kd.R_below (Kd.R_elderB T14q6 gb443 (Nat.le_of_eq hg.symm)) hb)
         have n1_:=Aside0.mk (Kd.R_below T14q7 hb)
         have n2_:=Aside0.mk (Kd.R_below (Kd.R_elderB T14q8 gb443 (Nat.le_of_eq hg.symm)) hb)
         have n3_:=Aside0.mk (Kd.R_below (Kd.R_elderB T14q9 gb443 (Nat.le_of_eq hg.symm)) hb)
         have n4_:=Aside0.mk (Kd.R_below T14q10 hb)
         have n5_:=Aside0.mk (below_step (by repeat (first | (with_reducible first | exact HB.out | apply below_alloc | apply pw_below_drewN | apply below_drew1) | exact HB.out)) hb)
         have n6_:=Aside0.mk (hbox)
         have n7_:=Aside0.mk ((by rw [hg];exact (below_size (by repeat (first | (with_reducible first | exact HB.out | apply below_alloc | apply pw_below_drewN | apply below_drew1) | exact HB.out))) : w.heap.size ≤ gb443))
         have n8_:=Aside0.mk ((by rw [hg];exact (below_size (by repeat (first | (with_reducible first | exact HB.out | apply below_alloc | apply pw_below_drewN | apply below_drew1) | exact HB.out))) : w.heap.size ≤ gb443))
         clear HO_3
         clear HO_4
         clear HO_6
         clear HO_7
         clear HO_8
         clear HB
         have HO_3:=n0_
         have HO_4:=n1_
         have HO_6:=n2_
         have HO_7:=n3_
         have HO_8:=n4_
         have HB:=n5_
         have BK443:=n6_
         have GW443:=n7_
         have GE443:=n8_
         clear n0_ n1_ n2_ n3_ n4_ n5_ n6_ n7_ n8_
         clear hb hbox hg
         refine hK.out _ _ ⟨HS0_,HS1_⟩ (fun hHeld => ?_)
         clear hK K
         refine norm_ (a':=?_) ?_ ?_
         rotate_left
         ·show Act.put _ (some 11) _ = _
          simp only [PU]
          rfl
         exact norm_ (by simp only [putAll,Act.put,List.setIfInBounds_toArray,List.set_cons_zero,List.set_cons_succ]) (hCont (gb443) _ ⟨hHeld,T14q11,T14q7,T14q12,T14q13,T14q10,(by (with_reducible repeat (first | refine blk_drewN ?_ _ | refine blk_drew ?_ | refine blk_alloc ?_ _));exact BK443.out),GW443.out,GE443.out,(by repeat (first | (with_reducible first | exact HB.out | apply below_alloc | apply pw_below_drewN | apply below_drew1 | refine below_set ?_ GE443.out) | exact HB.out))⟩)
        skip
        refine box_step ?hg (N:=11) ?hd (cs:=#[.string (⟨#[]⟩ : ByteArray),.int .i64 0,.bool false,.int .i64 0]) (t:=27) ?hr ?_;(case hd => rfl);(case hg => rfl);(case hr => first | (go_simp;done) | (go_simp;rfl))
        intro gb443 hg w81 hbox hb
        have HS0_:=(hb.cell (World.block_lt_of_cell? _ _ (hHeld.1))).trans (hHeld.1)
        have HS1_:=(hb.cell (World.block_lt_of_cell? _ _ (hHeld.2))).trans (hHeld.2)
        have n0_:=Aside0.mk (Kd.R_below (Kd.R_elderB T14q6 gb443 (Nat.le_of_eq hg.symm)) hb)
        have n1_:=Aside0.mk (Kd.R_below T14q7 hb)
        have n2_:=Aside0.mk (Kd.R_below (Kd.R_elderB T14q8 gb443 (Nat.le_of_eq hg.symm)) hb)
        have n3_:=Aside0.mk (Kd.R_below (Kd.R_elderB T14q9 gb443 (Nat.le_of_eq hg.symm)) hb)
        have n4_:=Aside0.mk (Kd.R_below T14q10 hb)
        have n5_:=Aside0.mk (below_step (by repeat (first | (with_reducible first | exact HB.out | apply below_alloc | apply pw_below_drewN | apply below_drew1) | exact HB.out)) hb)
        have n6_:=Aside0.mk (hbox)
        have n7_:=Aside0.mk ((by rw [hg];exact (below_size (by repeat (first | (with_reducible first | exact HB.out | apply below_alloc | apply pw_below_drewN | apply below_drew1) | exact HB.out))) : w.heap.size ≤ gb443))
        have n8_:=Aside0.mk ((by rw [hg];exact (below_size (by repeat (first | (with_reducible first | exact HB.out | apply below_alloc | apply pw_below_drewN | apply below_drew1) | exact HB.out))) : w.heap.size ≤ gb443))
        clear HO_3
        clear HO_4
        clear HO_6
        clear HO_7
        clear HO_8
        clear HB
        have HO_3:=n0_
        have HO_4:=n1_
        have HO_6:=n2_
        have HO_7:=n3_
        have HO_8:=n4_
        have HB:=n5_
        have BK443:=n6_
        have GW443:=n7_
        have GE443:=n8_
        clear n0_ n1_ n2_ n3_ n4_ n5_ n6_ n7_ n8_
        clear hb hbox hg
        refine hK.out _ _ ⟨HS0_,HS1_⟩ (fun hHeld => ?_)
        clear hK K
        refine norm_ (a':=?_) ?_ ?_
        rotate_left
        ·show Act.put _ (some 11) _ = _
         simp only [PU]
         rfl
        refine om_ (i:=9) (N:=some 73) rfl rfl (one_of HT_.out T14q1) (by decide) (fun K hK => ?_)
        refine goes_ Try.func17 T14q1 rfl #[.slice Ao7 t407.length co7,.string (rdOf ByteArray.empty t429 x9_2),.int .i64 (rd t408 x10_3)] (by rfl) rfl rfl T14q2 ?_
        with_reducible refine (impl_RunAt.calls k3 _ _ t407 (rdOf ByteArray.empty t429 x9_2) (rd t408 x10_3) t438 t439 t440 t441 t442 _ ?side1 ?side2 A37.out).mono ?_
        (case side1 => repeat (first | exact (Kd.R_reads' HO_3.out).2.2 | (with_reducible refine Kd.C_alloc ?_ _) | (with_reducible refine Kd.C_drewN ?_ _) | (with_reducible refine Kd.C_drew ?_)))
        (case side2 => exact (Kd.R_reads' HO_3.out).2.1)
        rintro e w82 ⟨rfl,hb⟩
        have HS0_:=(hb.cell (World.block_lt_of_cell? _ _ (hHeld.1))).trans (hHeld.1)
        have HS1_:=(hb.cell (World.block_lt_of_cell? _ _ (hHeld.2))).trans (hHeld.2)
        refine ⟨_,rfl,?_⟩
        have n0_:=Aside0.mk (Kd.R_below T14q6 hb)
        have n1_:=Aside0.mk (Kd.R_below T14q7 hb)
        have n2_:=Aside0.mk (Kd.R_below T14q8 hb)
        have n3_:=Aside0.mk (Kd.R_below T14q9 hb)
        have n4_:=Aside0.mk (Kd.R_below T14q10 hb)
        have n5_:=Aside0.mk (blk_below (g:=gb443) (o:=.cells #[.string (⟨#[]⟩ : ByteArray),.int .i64 0,.bool false,.int .i64 0] 27 (0,0)) (by (with_reducible repeat (first | refine blk_drewN ?_ _ | refine blk_drew ?_ | refine blk_alloc ?_ _));exact BK443.out) hb)
        have n6_:=Aside0.mk (below_step (by repeat (first | (with_reducible first | exact HB.out | apply below_alloc | apply pw_below_drewN | apply below_drew1 | refine below_set ?_ GE443.out) | exact HB.out)) hb)
        clear HO_3
        clear HO_4
        clear HO_6
        clear HO_7
        clear HO_8
        clear BK443
        clear HB
        have HO_3:=n0_
        have HO_4:=n1_
        have HO_6:=n2_
        have HO_7:=n3_
        have HO_8:=n4_
        have BK443:=n5_
        have HB:=n6_
        clear n0_ n1_ n2_ n3_ n4_ n5_ n6_
        (try clear hb)
        (try clear hb2)
        (try clear hk)
        (try clear hi)
        refine hK.out _ _ ⟨HS0_,HS1_⟩ (fun hHeld => ?_)
        clear hK K
        refine norm_ (a':=?_) ?_ ?_
        rotate_left
        ·show Act.put _ (some 73) _ = _
         simp only [PU]
         rfl
        refine pm_ (i:=10) (N:=some 63) (v:=?_) (a':=?_) rfl rfl (any_of HT_.out T14q1) (fun _ _ _ h => h) (Or.inl ⟨by rfl,?_⟩) ?_ ?_
        rotate_left
        ·intro w'
         go_simp
         with_reducible rfl
        rotate_left
        ·simp only [PU]
         rfl
        refine pm_ (i:=11) (N:=some 74) (v:=?_) (a':=?_) rfl rfl (any_of HT_.out T14q1) (fun _ _ _ h => h) (Or.inl ⟨by rfl,?_⟩) ?_ ?_
        rotate_left
        ·intro w'
         go_simp
         with_reducible rfl
        rotate_left
        ·simp only [PU]
         rfl
        refine pm_ (i:=12) (N:=some 75) (v:=?_) (a':=?_) rfl rfl (any_of HT_.out T14q1) (fun _ _ _ h => h) (Or.inl ⟨by rfl,?_⟩) ?_ ?_
        rotate_left
        ·intro w'
         go_simp
         with_reducible rfl
        rotate_left
        ·simp only [PU]
         rfl
        exact norm_ (by simp only [putAll,Act.put,List.setIfInBounds_toArray,List.set_cons_zero,List.set_cons_succ]) (hCont (gb443) _ ⟨hHeld,T14q11,T14q7,T14q12,T14q13,T14q10,(by (with_reducible repeat (first | refine blk_drewN ?_ _ | refine blk_drew ?_ | refine blk_alloc ?_ _));exact BK443.out),GW443.out,GE443.out,(by repeat (first | (with_reducible first | exact HB.out | apply below_alloc | apply pw_below_drewN | apply below_drew1 | refine below_set ?_ GE443.out) | exact HB.out))⟩)
       rintro gb443 w83 ⟨hS_,h0_,h1_,h2_,h3_,h4_,h5_,h6_,h7_,h8_⟩
       have n0_ : Aside0 (Kd.R k27 27 w83 w.heap.size (fun k_ => some k_ ≠ (v415 : Value).ownBlock ∧ some k_ ≠ (v427 : Value).ownBlock ∧ k_ ≠ gb443) (.slice Ao7 t407.length co7) t407):=⟨h0_⟩
       have n1_ : Aside0 (Kd.R (Kd.int .i64) 3 w83 w.heap.size (fun _ => True) (.slice (some ad437) t408.length co8) t408):=⟨h1_⟩
       have n2_ : Aside0 (Kd.R k27 27 w83 w.heap.size (fun k_ => some k_ ≠ (.slice Ao7 t407.length co7 : Value).ownBlock ∧ some k_ ≠ (v427 : Value).ownBlock ∧ k_ ≠ gb443) v415 t414):=⟨h2_⟩
       have n3_ : Aside0 (Kd.R k27 27 w83 w.heap.size (fun k_ => some k_ ≠ (.slice Ao7 t407.length co7 : Value).ownBlock ∧ some k_ ≠ (v415 : Value).ownBlock ∧ k_ ≠ gb443) v427 t426):=⟨h3_⟩
       have n4_ : Aside0 (Kd.R Kd.string 9 w83 w.heap.size (fun _ => True) (.slice (some ad436) t429.length co32) t429):=⟨h4_⟩
       have n5_ : Aside0 (w83.heap[gb443]? = some (.cells #[.string (⟨#[]⟩ : ByteArray),.int .i64 0,.bool false,.int .i64 0] 27 (0,0))):=⟨h5_⟩
       have n6_ : Aside0 (w.heap.size ≤ gb443):=⟨h6_⟩
       have n7_ : Aside0 (w.heap.size ≤ gb443):=⟨h7_⟩
       have n8_ : Aside0 (Below w.heap.size w w83):=⟨h8_⟩
       clear HO_3
       clear HO_4
       clear HO_6
       clear HO_7
       clear HO_8
       clear HB
       clear h0_ h1_ h2_ h3_ h4_ h5_ h6_ h7_ h8_
       have HO_3:=n0_
       have HO_4:=n1_
       have HO_6:=n2_
       have HO_7:=n3_
       have HO_8:=n4_
       have BK443:=n5_
       have GW443:=n6_
       have GE443:=n7_
       have HB:=n8_
       clear n0_ n1_ n2_ n3_ n4_ n5_ n6_ n7_ n8_
       have hHeld : w83.cell? (ad436.add (x9_2).toNat) = some (.string (rdOf ByteArray.empty t429 x9_2)) ∧ w83.cell? (ad437.add (x10_3).toNat) = some (.int .i64 (rd t408 x10_3)):=hS_
       refine norm_ (a':=?_) ?_ ?_
       rotate_left
       ·simp only [putAll,Act.put,List.setIfInBounds_toArray,List.set_cons_zero,List.set_cons_succ]
        rfl
       refine om_ (i:=14) (N:=none) rfl rfl (one_of HT_.out T14q1) (by decide) (fun K hK => ?_)
       have hs84 : w83.cell? ⟨gb443,0,none⟩ = some (.string (⟨#[]⟩ : ByteArray)):=(blk_cell BK443.out 0).trans rfl
       have hfs84:=blk_frozen BK443.out 0
       have hs85 : w83.cell? ⟨gb443,1,none⟩ = some (.int .i64 0):=(blk_cell BK443.out 1).trans rfl
       have hfs85:=blk_frozen BK443.out 1
       have hs86 : w83.cell? ⟨gb443,2,none⟩ = some (.bool false):=(blk_cell BK443.out 2).trans rfl
       have hfs86:=blk_frozen BK443.out 2
       have hs87 : w83.cell? ⟨gb443,3,none⟩ = some (.int .i64 0):=(blk_cell BK443.out 3).trans rfl
       have hfs87:=blk_frozen BK443.out 3
       refine skip_ (w1:=?_) (by rfl) rfl ?_ ?_
       rotate_left
       ·go_simp
        rfl
       refine hK.out _ _ ⟨((cell_far (p:=⟨gb443,_,none⟩) (by first | exact Kd.own_blk (Kd.R_ne HO_8.out BK443.out (by decide)) | (rw [add_block];exact Kd.own_blk (Kd.R_ne HO_8.out BK443.out (by decide))) | (show (Addr.add _ _).block ≠ _;rw [add_block];exact Kd.own_blk (Kd.R_ne HO_8.out BK443.out (by decide))) | (dsimp only;exact Kd.own_blk (Kd.R_ne HO_8.out BK443.out (by decide)))) _).trans (((cell_far (p:=⟨gb443,_,none⟩) (by first | exact Kd.own_blk (Kd.R_ne HO_8.out BK443.out (by decide)) | (rw [add_block];exact Kd.own_blk (Kd.R_ne HO_8.out BK443.out (by decide))) | (show (Addr.add _ _).block ≠ _;rw [add_block];exact Kd.own_blk (Kd.R_ne HO_8.out BK443.out (by decide))) | (dsimp only;exact Kd.own_blk (Kd.R_ne HO_8.out BK443.out (by decide)))) _).trans (((cell_far (p:=⟨gb443,_,none⟩) (by first | exact Kd.own_blk (Kd.R_ne HO_8.out BK443.out (by decide)) | (rw [add_block];exact Kd.own_blk (Kd.R_ne HO_8.out BK443.out (by decide))) | (show (Addr.add _ _).block ≠ _;rw [add_block];exact Kd.own_blk (Kd.R_ne HO_8.out BK443.out (by decide))) | (dsimp only;exact Kd.own_blk (Kd.R_ne HO_8.out BK443.out (by decide)))) _).trans (((cell_far (p:=⟨gb443,_,none⟩) (by first | exact Kd.own_blk (Kd.R_ne HO_8.out BK443.out (by decide)) | (rw [add_block];exact Kd.own_blk (Kd.R_ne HO_8.out BK443.out (by decide))) | (show (Addr.add _ _).block ≠ _;rw [add_block];exact Kd.own_blk (Kd.R_ne HO_8.out BK443.out (by decide))) | (dsimp only;exact Kd.own_blk (Kd.R_ne HO_8.out BK443.out (by decide)))) _).trans (hHeld.1)))))))),((cell_far (p:=⟨gb443,_,none⟩) (by first | exact Kd.own_blk (Kd.R_ne HO_4.out BK443.out (by decide)) | (rw [add_block];exact Kd.own_blk (Kd.R_ne HO_4.out BK443.out (by decide))) | (show (Addr.add _ _).block ≠ _;rw [add_block];exact Kd.own_blk (Kd.R_ne HO_4.out BK443.out (by decide))) | (dsimp only;exact Kd.own_blk (Kd.R_ne HO_4.out BK443.out (by decide)))) _).trans (((cell_far (p:=⟨gb443,_,none⟩) (by first | exact Kd.own_blk (Kd.R_ne HO_4.out BK443.out (by decide)) | (rw [add_block];exact Kd.own_blk (Kd.R_ne HO_4.out BK443.out (by decide))) | (show (Addr.add _ _).block ≠ _;rw [add_block];exact Kd.own_blk (Kd.R_ne HO_4.out BK443.out (by decide))) | (dsimp only;exact Kd.own_blk (Kd.R_ne HO_4.out BK443.out (by decide)))) _).trans (((cell_far (p:=⟨gb443,_,none⟩) (by first | exact Kd.own_blk (Kd.R_ne HO_4.out BK443.out (by decide)) | (rw [add_block];exact Kd.own_blk (Kd.R_ne HO_4.out BK443.out (by decide))) | (show (Addr.add _ _).block ≠ _;rw [add_block];exact Kd.own_blk (Kd.R_ne HO_4.out BK443.out (by decide))) | (dsimp only;exact Kd.own_blk (Kd.R_ne HO_4.out BK443.out (by decide)))) _).trans (((cell_far (p:=⟨gb443,_,none⟩) (by first | exact Kd.own_blk (Kd.R_ne HO_4.out BK443.out (by decide)) | (rw [add_block];exact Kd.own_blk (Kd.R_ne HO_4.out BK443.out (by decide))) | (show (Addr.add _ _).block ≠ _;rw [add_block];exact Kd.own_blk (Kd.R_ne HO_4.out BK443.out (by decide))) | (dsimp only;exact Kd.own_blk (Kd.R_ne HO_4.out BK443.out (by decide)))) _).trans (hHeld.2))))))))⟩ (fun hHeld => ?_)
       clear hK K
       refine pm_ (i:=15) (N:=some 12) (v:=?_) (a':=?_) rfl rfl (any_of HT_.out T14q1) (fun _ _ _ h => h) (Or.inl ⟨by rfl,?_⟩) ?_ ?_
       rotate_left
       ·intro w'
        go_simp
        with_reducible rfl
       rotate_left
       ·simp only [PU]
        rfl
       refine done_ (done_of HT_.out T14q1) ?_
       obtain ⟨Ao88,co88,eo88⟩:=Kd.R_slice HO_7.out
       subst eo88
       try go_wp2
       have n0_ : Aside0 (Kd.R k27 27 ((((w83.setCell ⟨gb443,0,none⟩ (.string t438)).setCell ⟨gb443,1,none⟩ (.int .i64 t439)).setCell ⟨gb443,2,none⟩ (.bool t440)).setCell ⟨gb443,3,none⟩ (.int .i64 t441)) w.heap.size (fun k_ => some k_ ≠ (v415 : Value).ownBlock ∧ some k_ ≠ (.slice Ao88 t426.length co88 : Value).ownBlock ∧ k_ ≠ gb443) (.slice Ao7 t407.length co7) t407):=⟨by (with_reducible repeat (first | apply Kd.R_alloc | apply Kd.R_drewN | apply Kd.R_drew));exact Kd.R_mono (Kd.R_far (p:=⟨gb443,3,none⟩) (Kd.R_far (p:=⟨gb443,2,none⟩) (Kd.R_far (p:=⟨gb443,1,none⟩) (Kd.R_far (p:=⟨gb443,0,none⟩) (Kd.R_mono HO_3.out (fun k_ hk => (⟨hk,hk.2.2⟩ : _ ∧ k_ ≠ gb443))) (fun _ hk => hk.2) (.string t438)) (fun _ hk => hk.2) (.int .i64 t439)) (fun _ hk => hk.2) (.bool t440)) (fun _ hk => hk.2) (.int .i64 t441)) (fun _ hk => ⟨hk.1.1,⟨hk.1.2.1,hk.1.2.2⟩⟩)⟩
       have n1_ : Aside0 (Kd.R (Kd.int .i64) 3 ((((w83.setCell ⟨gb443,0,none⟩ (.string t438)).setCell ⟨gb443,1,none⟩ (.int .i64 t439)).setCell ⟨gb443,2,none⟩ (.bool t440)).setCell ⟨gb443,3,none⟩ (.int .i64 t441)) w.heap.size (fun _ => True) (.slice (some ad437) t408.length co8) t408):=⟨by (with_reducible repeat (first | apply Kd.R_alloc | apply Kd.R_drewN | apply Kd.R_drew));exact Kd.R_mono (Kd.R_far (p:=⟨gb443,3,none⟩) (Kd.R_far (p:=⟨gb443,2,none⟩) (Kd.R_far (p:=⟨gb443,1,none⟩) (Kd.R_far (p:=⟨gb443,0,none⟩) (Kd.R_types HO_4.out BK443.out (by decide)) (fun _ hk => hk.2) (.string t438)) (fun _ hk => hk.2) (.int .i64 t439)) (fun _ hk => hk.2) (.bool t440)) (fun _ hk => hk.2) (.int .i64 t441)) (fun _ hk => trivial)⟩
       have n2_ : Aside0 (Kd.R k27 27 ((((w83.setCell ⟨gb443,0,none⟩ (.string t438)).setCell ⟨gb443,1,none⟩ (.int .i64 t439)).setCell ⟨gb443,2,none⟩ (.bool t440)).setCell ⟨gb443,3,none⟩ (.int .i64 t441)) w.heap.size (fun k_ => some k_ ≠ (.slice Ao7 t407.length co7 : Value).ownBlock ∧ some k_ ≠ (.slice Ao88 t426.length co88 : Value).ownBlock ∧ k_ ≠ gb443) v415 t414):=⟨by (with_reducible repeat (first | apply Kd.R_alloc | apply Kd.R_drewN | apply Kd.R_drew));exact Kd.R_mono (Kd.R_far (p:=⟨gb443,3,none⟩) (Kd.R_far (p:=⟨gb443,2,none⟩) (Kd.R_far (p:=⟨gb443,1,none⟩) (Kd.R_far (p:=⟨gb443,0,none⟩) (Kd.R_mono HO_6.out (fun k_ hk => (⟨hk,hk.2.2⟩ : _ ∧ k_ ≠ gb443))) (fun _ hk => hk.2) (.string t438)) (fun _ hk => hk.2) (.int .i64 t439)) (fun _ hk => hk.2) (.bool t440)) (fun _ hk => hk.2) (.int .i64 t441)) (fun _ hk => ⟨hk.1.1,⟨hk.1.2.1,hk.1.2.2⟩⟩)⟩
       have n3_ : Aside0 (Kd.R k27 27 ((((w83.setCell ⟨gb443,0,none⟩ (.string t438)).setCell ⟨gb443,1,none⟩ (.int .i64 t439)).setCell ⟨gb443,2,none⟩ (.bool t440)).setCell ⟨gb443,3,none⟩ (.int .i64 t441)) w.heap.size (fun k_ => some k_ ≠ (.slice Ao7 t407.length co7 : Value).ownBlock ∧ some k_ ≠ (v415 : Value).ownBlock ∧ k_ ≠ gb443) (.slice Ao88 t426.length co88) t426):=⟨by (with_reducible repeat (first | apply Kd.R_alloc | apply Kd.R_drewN | apply Kd.R_drew));exact Kd.R_mono (Kd.R_far (p:=⟨gb443,3,none⟩) (Kd.R_far (p:=⟨gb443,2,none⟩) (Kd.R_far (p:=⟨gb443,1,none⟩) (Kd.R_far (p:=⟨gb443,0,none⟩) (Kd.R_mono HO_7.out (fun k_ hk => (⟨hk,hk.2.2⟩ : _ ∧ k_ ≠ gb443))) (fun _ hk => hk.2) (.string t438)) (fun _ hk => hk.2) (.int .i64 t439)) (fun _ hk => hk.2) (.bool t440)) (fun _ hk => hk.2) (.int .i64 t441)) (fun _ hk => ⟨hk.1.1,⟨hk.1.2.1,hk.1.2.2⟩⟩)⟩
       have n4_ : Aside0 (Kd.R Kd.string 9 ((((w83.setCell ⟨gb443,0,none⟩ (.string t438)).setCell ⟨gb443,1,none⟩ (.int .i64 t439)).setCell ⟨gb443,2,none⟩ (.bool t440)).setCell ⟨gb443,3,none⟩ (.int .i64 t441)) w.heap.size (fun _ => True) (.slice (some ad436) t429.length co32) t429):=⟨by (with_reducible repeat (first | apply Kd.R_alloc | apply Kd.R_drewN | apply Kd.R_drew));exact Kd.R_mono (Kd.R_far (p:=⟨gb443,3,none⟩) (Kd.R_far (p:=⟨gb443,2,none⟩) (Kd.R_far (p:=⟨gb443,1,none⟩) (Kd.R_far (p:=⟨gb443,0,none⟩) (Kd.R_types HO_8.out BK443.out (by decide)) (fun _ hk => hk.2) (.string t438)) (fun _ hk => hk.2) (.int .i64 t439)) (fun _ hk => hk.2) (.bool t440)) (fun _ hk => hk.2) (.int .i64 t441)) (fun _ hk => trivial)⟩
       have n5_ : Aside0 (((((w83.setCell ⟨gb443,0,none⟩ (.string t438)).setCell ⟨gb443,1,none⟩ (.int .i64 t439)).setCell ⟨gb443,2,none⟩ (.bool t440)).setCell ⟨gb443,3,none⟩ (.int .i64 t441)).heap[gb443]? = some (.cells #[.string t438,.int .i64 t439,.bool t440,.int .i64 t441] 27 (0,0))):=⟨by (with_reducible repeat (first | refine blk_drewN ?_ _ | refine blk_drew ?_ | refine blk_alloc ?_ _));refine blk_put (cs:=#[.string t438,.int .i64 t439,.bool t440,.int .i64 0]) ?_ 3 _ rfl;(with_reducible repeat (first | refine blk_drewN ?_ _ | refine blk_drew ?_ | refine blk_alloc ?_ _));refine blk_put (cs:=#[.string t438,.int .i64 t439,.bool false,.int .i64 0]) ?_ 2 _ rfl;(with_reducible repeat (first | refine blk_drewN ?_ _ | refine blk_drew ?_ | refine blk_alloc ?_ _));refine blk_put (cs:=#[.string t438,.int .i64 0,.bool false,.int .i64 0]) ?_ 1 _ rfl;(with_reducible repeat (first | refine blk_drewN ?_ _ | refine blk_drew ?_ | refine blk_alloc ?_ _));refine blk_put (cs:=#[.string (⟨#[]⟩ : ByteArray),.int .i64 0,.bool false,.int .i64 0]) ?_ 0 _ rfl;(with_reducible repeat (first | refine blk_drewN ?_ _ | refine blk_drew ?_ | refine blk_alloc ?_ _));exact BK443.out⟩
       have n6_ : Aside0 (Below w.heap.size w ((((w83.setCell ⟨gb443,0,none⟩ (.string t438)).setCell ⟨gb443,1,none⟩ (.int .i64 t439)).setCell ⟨gb443,2,none⟩ (.bool t440)).setCell ⟨gb443,3,none⟩ (.int .i64 t441))):=⟨by repeat (first | (with_reducible first | exact HB.out | apply below_alloc | apply pw_below_drewN | apply below_drew1 | refine below_set ?_ GE443.out) | exact HB.out)⟩
       (try clear HO_3)
       (try clear HO_4)
       (try clear HO_6)
       (try clear HO_7)
       (try clear HO_8)
       (try clear BK443)
       (try clear HB)
       generalize ((((w83.setCell ⟨gb443,0,none⟩ (.string t438)).setCell ⟨gb443,1,none⟩ (.int .i64 t439)).setCell ⟨gb443,2,none⟩ (.bool t440)).setCell ⟨gb443,3,none⟩ (.int .i64 t441)) = w89 at n0_ n1_ n2_ n3_ n4_ n5_ n6_ ⊢
       have HO_3:=n0_
       have HO_4:=n1_
       have HO_6:=n2_
       have HO_7:=n3_
       have HO_8:=n4_
       have BK443:=n5_
       have HB:=n6_
       clear n0_ n1_ n2_ n3_ n4_ n5_ n6_
       have n0_:=Aside0.mk (Kd.R_drew HO_3.out)
       have n1_:=Aside0.mk (Kd.R_drew HO_4.out)
       have n2_:=Aside0.mk (Kd.R_drew HO_6.out)
       have n3_:=Aside0.mk (Kd.R_drew HO_7.out)
       have n4_:=Aside0.mk (Kd.R_drew HO_8.out)
       have n5_:=Aside0.mk (blk_drew BK443.out)
       have n6_:=Aside0.mk (below_drew1 HB.out)
       clear HO_3
       clear HO_4
       clear HO_6
       clear HO_7
       clear HO_8
       clear BK443
       clear HB
       have HO_3:=n0_
       have HO_4:=n1_
       have HO_6:=n2_
       have HO_7:=n3_
       have HO_8:=n4_
       have BK443:=n5_
       have HB:=n6_
       clear n0_ n1_ n2_ n3_ n4_ n5_ n6_
       have p444 : 0 ≤ (x9_2 : Int):=of_decide_eq_true (by first | (with_reducible assumption) | assumption)
       have q444 : x9_2 < (t429.length : Int):=of_decide_eq_true (by first | (with_reducible assumption) | assumption)
       obtain ⟨ad444,e444,hx444_0⟩:=Kd.at_string (Kd.R_reads' HO_8.out).2.2 x9_2 p444 q444
       obtain rfl : ad436 = ad444:=(by injection e444)
       replace p444:=eq_true p444
       replace q444:=eq_true q444
       have p445 : 0 ≤ (x10_3 : Int):=of_decide_eq_true (by first | (with_reducible assumption) | assumption)
       have q445 : x10_3 < (t408.length : Int):=of_decide_eq_true (by first | (with_reducible assumption) | assumption)
       obtain ⟨ad445,e445,hx445_0⟩:=Kd.at_int (Kd.R_reads' HO_4.out).2.2 x10_3 p445 q445
       obtain rfl : ad437 = ad445:=(by injection e445)
       replace p445:=eq_true p445
       replace q445:=eq_true q445
       refine start_ (n:=16) (S:=fun w' => w'.cell? (ad436.add (x9_2).toNat) = some (.string (rdOf ByteArray.empty t429 x9_2)) ∧ w'.cell? (ad437.add (x10_3).toNat) = some (.int .i64 (rd t408 x10_3))) (ds:=[]) #[false,false,false,false,false,false,false,false,false,false,false,false,false,false,false,false] T14q1 rfl rfl ⟨hx444_0,hx445_0⟩ (fun hHeld => ?_);refine with_tabW laws_FnRunTrimTop.tab16 laws_FnRunTrimTop.bits16 (fun HT_ HW_ => ?_)
       generalize w89.drew = w90 at HO_3 HO_4 HO_6 HO_7 HO_8 BK443 HB hx444_0 hx445_0 hHeld ⊢
       refine pm_ (i:=0) (N:=some 77) (v:=?_) (a':=?_) rfl rfl (any_of HT_.out T14q1) (fun _ _ _ h => h) (Or.inl ⟨by rfl,?_⟩) ?_ ?_
       rotate_left
       ·intro w'
        go_simp
        with_reducible rfl
       rotate_left
       ·simp only [PU]
        rfl
       refine pm_ (i:=1) (N:=some 78) (v:=?_) (a':=?_) rfl rfl (any_of HT_.out T14q1) (fun _ _ _ h => h) (Or.inl ⟨by rfl,?_⟩) ?_ ?_
       rotate_left
       ·intro w'
        go_simp
        with_reducible rfl
       rotate_left
       ·simp only [PU]
        rfl
       refine pm_ (i:=2) (N:=some 79) (v:=?_) (a':=?_) rfl rfl (any_of HT_.out T14q1) (fun _ _ _ h => h) (Or.inl ⟨by rfl,?_⟩) ?_ ?_
       rotate_left
       ·intro w'
        go_simp
        with_reducible rfl
       rotate_left
       ·simp only [PU]
        rfl
       refine pm_ (i:=3) (N:=some 80) (v:=?_) (a':=?_) rfl rfl (any_of HT_.out T14q1) (fun _ _ _ h => h) (Or.inl ⟨by rfl,?_⟩) ?_ ?_
       rotate_left
       ·intro w'
        go_simp
        with_reducible rfl
       rotate_left
       ·simp only [PU]
        rfl
       refine pm_ (i:=5) (N:=some 82) (v:=?_) (a':=?_) rfl rfl (any_of HT_.out T14q1) (fun _ _ _ h => h) (Or.inl ⟨by rfl,?_⟩) ?_ ?_
       rotate_left
       ·intro w'
        go_simp
        with_reducible rfl
       rotate_left
       ·simp only [PU]
        rfl
       refine pm_ (i:=6) (N:=some 83) (v:=?_) (a':=?_) rfl rfl (any_of HT_.out T14q1) (fun _ _ _ h => h) (Or.inl ⟨by rfl,?_⟩) ?_ ?_
       rotate_left
       ·intro w'
        go_simp
        with_reducible rfl
       rotate_left
       ·simp only [PU]
        rfl
       refine pm_ (i:=7) (N:=some 84) (v:=?_) (a':=?_) rfl rfl (any_of HT_.out T14q1) (fun _ _ _ h => h) (Or.inl ⟨by rfl,?_⟩) ?_ ?_
       rotate_left
       ·intro w'
        go_simp
        with_reducible rfl
       rotate_left
       ·simp only [PU]
        rfl
       refine tm_ (i:=4) (N:=some 81) (v:=?_) (a':=?_) rfl rfl (take_ofW HT_.out HW_.out T14q1) (fun _ _ _ h => h) (Or.inl ⟨by rfl,?_⟩) hHeld ?_ ?_
       rotate_left
       ·rintro w' ⟨s0,s1⟩
        go_simp
        with_reducible rfl
       rotate_left
       ·simp only [PU]
        rfl
       refine tm_ (i:=8) (N:=some 85) (v:=?_) (a':=?_) rfl rfl (take_ofW HT_.out HW_.out T14q1) (fun _ _ _ h => h) (Or.inl ⟨by rfl,?_⟩) hHeld ?_ ?_
       rotate_left
       ·rintro w' ⟨s0,s1⟩
        go_simp
        with_reducible rfl
       rotate_left
       ·simp only [PU]
        rfl
       refine join_ (σ:=Nat) 2 #[true,true,true,true,true,true,true,true,true,true,true,true,true,true,false,false] (fun s_ => [(86,.tuple #[.agg #[.string t446,.int .i64 t447,.bool t448,.int .i64 t449],.bool t450]),(13,.pointer (some ⟨s_,0,none⟩)),(76,.tuple #[.agg #[.string t446,.int .i64 t447,.bool t448,.int .i64 t449],.bool t450]),(87,.agg #[.string t446,.int .i64 t447,.bool t448,.int .i64 t449]),(88,.bool t450)]) (fun s_ w' => (w'.cell? (ad436.add (x9_2).toNat) = some (.string (rdOf ByteArray.empty t429 x9_2)) ∧ w'.cell? (ad437.add (x10_3).toNat) = some (.int .i64 (rd t408 x10_3))) ∧ (Kd.R k27 27 w' w.heap.size (fun k_ => some k_ ≠ (v415 : Value).ownBlock ∧ some k_ ≠ (.slice Ao88 t426.length co88 : Value).ownBlock ∧ k_ ≠ gb443 ∧ k_ ≠ s_) (.slice Ao7 t407.length co7) t407) ∧ (Kd.R (Kd.int .i64) 3 w' w.heap.size (fun _ => True) (.slice (some ad437) t408.length co8) t408) ∧ (Kd.R k27 27 w' w.heap.size (fun k_ => some k_ ≠ (.slice Ao7 t407.length co7 : Value).ownBlock ∧ some k_ ≠ (.slice Ao88 t426.length co88 : Value).ownBlock ∧ k_ ≠ gb443 ∧ k_ ≠ s_) v415 t414) ∧ (Kd.R k27 27 w' w.heap.size (fun k_ => some k_ ≠ (.slice Ao7 t407.length co7 : Value).ownBlock ∧ some k_ ≠ (v415 : Value).ownBlock ∧ k_ ≠ gb443 ∧ k_ ≠ s_) (.slice Ao88 t426.length co88) t426) ∧ (Kd.R Kd.string 9 w' w.heap.size (fun _ => True) (.slice (some ad436) t429.length co32) t429) ∧ (w'.heap[gb443]? = some (.cells #[.string t438,.int .i64 t439,.bool t440,.int .i64 t441] 27 (0,0))) ∧ (w'.heap[s_]? = some (.cells #[.string (⟨#[]⟩ : ByteArray),.int .i64 0,.bool false,.int .i64 0] 27 (0,0))) ∧ (w.heap.size ≤ s_) ∧ (w.heap.size ≤ s_) ∧ (gb443 ≠ s_) ∧ (s_ ≠ gb443) ∧ (Below w.heap.size w w')) ?_ ?_
       rotate_left
       ·intro hCont
        refine two_ (i:=9) (j:=13) (Ni:=some 86) (Nj:=some 13) #[true,true,true,true,true,true,true,true,true,true,false,false,false,false,false,false] #[true,true,true,true,true,true,true,true,true,false,false,false,false,true,false,false] rfl rfl rfl rfl (two_of HT_.out T14q1) (by decide) (by decide) (fun K hK => ?_) (fun K hK => ?_)
        ·skip
         refine goes_ Try.func17 T14q1 rfl #[.slice Ao88 t426.length co88,.string (rdOf ByteArray.empty t429 x9_2),.int .i64 (rd t408 x10_3)] (by rfl) rfl rfl T14q2 ?_
         with_reducible refine (impl_RunAt.calls k3 _ _ t426 (rdOf ByteArray.empty t429 x9_2) (rd t408 x10_3) t446 t447 t448 t449 t450 _ ?side1 ?side2 A38.out).mono ?_
         (case side1 => repeat (first | exact (Kd.R_reads' HO_7.out).2.2 | (with_reducible refine Kd.C_alloc ?_ _) | (with_reducible refine Kd.C_drewN ?_ _) | (with_reducible refine Kd.C_drew ?_)))
         (case side2 => exact (Kd.R_reads' HO_7.out).2.1)
         rintro e w91 ⟨rfl,hb⟩
         have HS0_:=(hb.cell (World.block_lt_of_cell? _ _ (hHeld.1))).trans (hHeld.1)
         have HS1_:=(hb.cell (World.block_lt_of_cell? _ _ (hHeld.2))).trans (hHeld.2)
         refine ⟨_,rfl,?_⟩
         have n0_:=Aside0.mk (Kd.R_below T14q6 hb)
         have n1_:=Aside0.mk (Kd.R_below T14q7 hb)
         have n2_:=Aside0.mk (Kd.R_below T14q8 hb)
         have n3_:=Aside0.mk (Kd.R_below T14q9 hb)
         have n4_:=Aside0.mk (Kd.R_below T14q10 hb)
         have n5_:=Aside0.mk (blk_below (g:=gb443) (o:=.cells #[.string t438,.int .i64 t439,.bool t440,.int .i64 t441] 27 (0,0)) (by (with_reducible repeat (first | refine blk_drewN ?_ _ | refine blk_drew ?_ | refine blk_alloc ?_ _));exact BK443.out) hb)
         have n6_:=Aside0.mk (below_step (by repeat (first | (with_reducible first | exact HB.out | apply below_alloc | apply pw_below_drewN | apply below_drew1 | refine below_set ?_ GE443.out) | exact HB.out)) hb)
         clear HO_3
         clear HO_4
         clear HO_6
         clear HO_7
         clear HO_8
         clear BK443
         clear HB
         have HO_3:=n0_
         have HO_4:=n1_
         have HO_6:=n2_
         have HO_7:=n3_
         have HO_8:=n4_
         have BK443:=n5_
         have HB:=n6_
         clear n0_ n1_ n2_ n3_ n4_ n5_ n6_
         (try clear hb)
         (try clear hb2)
         (try clear hk)
         (try clear hi)
         refine hK.out _ _ ⟨HS0_,HS1_⟩ (fun hHeld => ?_)
         clear hK K
         refine norm_ (a':=?_) ?_ ?_
         rotate_left
         ·show Act.put _ (some 86) _ = _
          simp only [PU]
          rfl
         refine pm_ (i:=10) (N:=some 76) (v:=?_) (a':=?_) rfl rfl (any_of HT_.out T14q1) (fun _ _ _ h => h) (Or.inl ⟨by rfl,?_⟩) ?_ ?_
         rotate_left
         ·intro w'
          go_simp
          with_reducible rfl
         rotate_left
         ·simp only [PU]
          rfl
         refine pm_ (i:=11) (N:=some 87) (v:=?_) (a':=?_) rfl rfl (any_of HT_.out T14q1) (fun _ _ _ h => h) (Or.inl ⟨by rfl,?_⟩) ?_ ?_
         rotate_left
         ·intro w'
          go_simp
          with_reducible rfl
         rotate_left
         ·simp only [PU]
          rfl
         refine pm_ (i:=12) (N:=some 88) (v:=?_) (a':=?_) rfl rfl (any_of HT_.out T14q1) (fun _ _ _ h => h) (Or.inl ⟨by rfl,?_⟩) ?_ ?_
         rotate_left
         ·intro w'
          go_simp
          with_reducible rfl
         rotate_left
         ·simp only [PU]
          rfl
         refine om_ (i:=13) (N:=some 13) rfl rfl (one_of HT_.out T14q1) (by decide) (fun K hK => ?_)
         refine box_step ?hg (N:=13) ?hd (cs:=#[.string (⟨#[]⟩ : ByteArray),.int .i64 0,.bool false,.int .i64 0]) (t:=27) ?hr ?_;(case hd => rfl);(case hg => rfl);(case hr => first | (go_simp;done) | (go_simp;rfl))
         intro gb451 hg w92 hbox hb
         have HS0_:=(hb.cell (World.block_lt_of_cell? _ _ (hHeld.1))).trans (hHeld.1)
         have HS1_:=(hb.cell (World.block_lt_of_cell? _ _ (hHeld.2))).trans (hHeld.2)
         have n0_:=Aside0.mk (Kd.R_below (Kd.R_elderB T14q6 gb451 (Nat.le_of_eq hg.symm)) hb)
         have n1_:=Aside0.mk (Kd.R_below T14q7 hb)
         have n2_:=Aside0.mk (Kd.R_below (Kd.R_elderB T14q8 gb451 (Nat.le_of_eq hg.symm)) hb)
         have n3_:=Aside0.mk (Kd.R_below (Kd.R_elderB T14q9 gb451 (Nat.le_of_eq hg.symm)) hb)
         have n4_:=Aside0.mk (Kd.R_below T14q10 hb)
         have n5_:=Aside0.mk (blk_below (g:=gb443) (o:=.cells #[.string t438,.int .i64 t439,.bool t440,.int .i64 t441] 27 (0,0)) (by (with_reducible repeat (first | refine blk_drewN ?_ _ | refine blk_drew ?_ | refine blk_alloc ?_ _));exact BK443.out) hb)
         have n6_:=Aside0.mk (below_step (by repeat (first | (with_reducible first | exact HB.out | apply below_alloc | apply pw_below_drewN | apply below_drew1 | refine below_set ?_ GE443.out) | exact HB.out)) hb)
         have n7_:=Aside0.mk (hbox)
         have n8_:=Aside0.mk ((by rw [hg];exact (below_size (by repeat (first | (with_reducible first | exact HB.out | apply below_alloc | apply pw_below_drewN | apply below_drew1 | refine below_set ?_ GE443.out) | exact HB.out))) : w.heap.size ≤ gb451))
         have n9_:=Aside0.mk ((by rw [hg];exact (below_size (by repeat (first | (with_reducible first | exact HB.out | apply below_alloc | apply pw_below_drewN | apply below_drew1 | refine below_set ?_ GE443.out) | exact HB.out))) : w.heap.size ≤ gb451))
         have n10_:=Aside0.mk ((by rw [hg];exact Nat.ne_of_lt (blk_lt (g:=gb443) (o:=.cells #[.string t438,.int .i64 t439,.bool t440,.int .i64 t441] 27 (0,0)) (by (with_reducible repeat (first | refine blk_drewN ?_ _ | refine blk_drew ?_ | refine blk_alloc ?_ _));exact BK443.out)) : gb443 ≠ gb451))
         have n11_:=Aside0.mk ((by rw [hg];exact Nat.ne_of_gt (blk_lt (g:=gb443) (o:=.cells #[.string t438,.int .i64 t439,.bool t440,.int .i64 t441] 27 (0,0)) (by (with_reducible repeat (first | refine blk_drewN ?_ _ | refine blk_drew ?_ | refine blk_alloc ?_ _));exact BK443.out)) : gb451 ≠ gb443))
         clear HO_3
         clear HO_4
         clear HO_6
         clear HO_7
         clear HO_8
         clear BK443
         clear HB
         have HO_3:=n0_
         have HO_4:=n1_
         have HO_6:=n2_
         have HO_7:=n3_
         have HO_8:=n4_
         have BK443:=n5_
         have HB:=n6_
         have BK451:=n7_
         have GW451:=n8_
         have GE451:=n9_
         have NB443_451:=n10_
         have NB451_443:=n11_
         clear n0_ n1_ n2_ n3_ n4_ n5_ n6_ n7_ n8_ n9_ n10_ n11_
         clear hb hbox hg
         refine hK.out _ _ ⟨HS0_,HS1_⟩ (fun hHeld => ?_)
         clear hK K
         refine norm_ (a':=?_) ?_ ?_
         rotate_left
         ·show Act.put _ (some 13) _ = _
          simp only [PU]
          rfl
         exact norm_ (by simp only [putAll,Act.put,List.setIfInBounds_toArray,List.set_cons_zero,List.set_cons_succ]) (hCont (gb451) _ ⟨hHeld,T14q14,T14q7,T14q15,T14q16,T14q10,(by (with_reducible repeat (first | refine blk_drewN ?_ _ | refine blk_drew ?_ | refine blk_alloc ?_ _));exact BK443.out),(by (with_reducible repeat (first | refine blk_drewN ?_ _ | refine blk_drew ?_ | refine blk_alloc ?_ _));exact BK451.out),GW451.out,GE451.out,NB443_451.out,NB451_443.out,(by repeat (first | (with_reducible first | exact HB.out | apply below_alloc | apply pw_below_drewN | apply below_drew1 | refine below_set ?_ GE443.out | refine below_set ?_ GE451.out) | exact HB.out))⟩)
        skip
        refine box_step ?hg (N:=13) ?hd (cs:=#[.string (⟨#[]⟩ : ByteArray),.int .i64 0,.bool false,.int .i64 0]) (t:=27) ?hr ?_;(case hd => rfl);(case hg => rfl);(case hr => first | (go_simp;done) | (go_simp;rfl))
        intro gb451 hg w91 hbox hb
        have HS0_:=(hb.cell (World.block_lt_of_cell? _ _ (hHeld.1))).trans (hHeld.1)
        have HS1_:=(hb.cell (World.block_lt_of_cell? _ _ (hHeld.2))).trans (hHeld.2)
        have n0_:=Aside0.mk (Kd.R_below (Kd.R_elderB T14q6 gb451 (Nat.le_of_eq hg.symm)) hb)
        have n1_:=Aside0.mk (Kd.R_below T14q7 hb)
        have n2_:=Aside0.mk (Kd.R_below (Kd.R_elderB T14q8 gb451 (Nat.le_of_eq hg.symm)) hb)
        have n3_:=Aside0.mk (Kd.R_below (Kd.R_elderB T14q9 gb451 (Nat.le_of_eq hg.symm)) hb)
        have n4_:=Aside0.mk (Kd.R_below T14q10 hb)
        have n5_:=Aside0.mk (blk_below (g:=gb443) (o:=.cells #[.string t438,.int .i64 t439,.bool t440,.int .i64 t441] 27 (0,0)) (by (with_reducible repeat (first | refine blk_drewN ?_ _ | refine blk_drew ?_ | refine blk_alloc ?_ _));exact BK443.out) hb)
        have n6_:=Aside0.mk (below_step (by repeat (first | (with_reducible first | exact HB.out | apply below_alloc | apply pw_below_drewN | apply below_drew1 | refine below_set ?_ GE443.out) | exact HB.out)) hb)
        have n7_:=Aside0.mk (hbox)
        have n8_:=Aside0.mk ((by rw [hg];exact (below_size (by repeat (first | (with_reducible first | exact HB.out | apply below_alloc | apply pw_below_drewN | apply below_drew1 | refine below_set ?_ GE443.out) | exact HB.out))) : w.heap.size ≤ gb451))
        have n9_:=Aside0.mk ((by rw [hg];exact (below_size (by repeat (first | (with_reducible first | exact HB.out | apply below_alloc | apply pw_below_drewN | apply below_drew1 | refine below_set ?_ GE443.out) | exact HB.out))) : w.heap.size ≤ gb451))
        have n10_:=Aside0.mk ((by rw [hg];exact Nat.ne_of_lt (blk_lt (g:=gb443) (o:=.cells #[.string t438,.int .i64 t439,.bool t440,.int .i64 t441] 27 (0,0)) (by (with_reducible repeat (first | refine blk_drewN ?_ _ | refine blk_drew ?_ | refine blk_alloc ?_ _));exact BK443.out)) : gb443 ≠ gb451))
        have n11_:=Aside0.mk ((by rw [hg];exact Nat.ne_of_gt (blk_lt (g:=gb443) (o:=.cells #[.string t438,.int .i64 t439,.bool t440,.int .i64 t441] 27 (0,0)) (by (with_reducible repeat (first | refine blk_drewN ?_ _ | refine blk_drew ?_ | refine blk_alloc ?_ _));exact BK443.out)) : gb451 ≠ gb443))
        clear HO_3
        clear HO_4
        clear HO_6
        clear HO_7
        clear HO_8
        clear BK443
        clear HB
        have HO_3:=n0_
        have HO_4:=n1_
        have HO_6:=n2_
        have HO_7:=n3_
        have HO_8:=n4_
        have BK443:=n5_
        have HB:=n6_
        have BK451:=n7_
        have GW451:=n8_
        have GE451:=n9_
        have NB443_451:=n10_
        have NB451_443:=n11_
        clear n0_ n1_ n2_ n3_ n4_ n5_ n6_ n7_ n8_ n9_ n10_ n11_
        clear hb hbox hg
        refine hK.out _ _ ⟨HS0_,HS1_⟩ (fun hHeld => ?_)
        clear hK K
        refine norm_ (a':=?_) ?_ ?_
        rotate_left
        ·show Act.put _ (some 13) _ = _
         simp only [PU]
         rfl
        refine om_ (i:=9) (N:=some 86) rfl rfl (one_of HT_.out T14q1) (by decide) (fun K hK => ?_)
        refine goes_ Try.func17 T14q1 rfl #[.slice Ao88 t426.length co88,.string (rdOf ByteArray.empty t429 x9_2),.int .i64 (rd t408 x10_3)] (by rfl) rfl rfl T14q2 ?_
        with_reducible refine (impl_RunAt.calls k3 _ _ t426 (rdOf ByteArray.empty t429 x9_2) (rd t408 x10_3) t446 t447 t448 t449 t450 _ ?side1 ?side2 A38.out).mono ?_
        (case side1 => repeat (first | exact (Kd.R_reads' HO_7.out).2.2 | (with_reducible refine Kd.C_alloc ?_ _) | (with_reducible refine Kd.C_drewN ?_ _) | (with_reducible refine Kd.C_drew ?_)))
        (case side2 => exact (Kd.R_reads' HO_7.out).2.1)
        rintro e w92 ⟨rfl,hb⟩
        have HS0_:=(hb.cell (World.block_lt_of_cell? _ _ (hHeld.1))).trans (hHeld.1)
        have HS1_:=(hb.cell (World.block_lt_of_cell? _ _ (hHeld.2))).trans (hHeld.2)
        refine ⟨_,rfl,?_⟩
        have n0_:=Aside0.mk (Kd.R_below T14q6 hb)
        have n1_:=Aside0.mk (Kd.R_below T14q7 hb)
        have n2_:=Aside0.mk (Kd.R_below T14q8 hb)
        have n3_:=Aside0.mk (Kd.R_below T14q9 hb)
        have n4_:=Aside0.mk (Kd.R_below T14q10 hb)
        have n5_:=Aside0.mk (blk_below (g:=gb443) (o:=.cells #[.string t438,.int .i64 t439,.bool t440,.int .i64 t441] 27 (0,0)) (by (with_reducible repeat (first | refine blk_drewN ?_ _ | refine blk_drew ?_ | refine blk_alloc ?_ _));exact BK443.out) hb)
        have n6_:=Aside0.mk (blk_below (g:=gb451) (o:=.cells #[.string (⟨#[]⟩ : ByteArray),.int .i64 0,.bool false,.int .i64 0] 27 (0,0)) (by (with_reducible repeat (first | refine blk_drewN ?_ _ | refine blk_drew ?_ | refine blk_alloc ?_ _));exact BK451.out) hb)
        have n7_:=Aside0.mk (below_step (by repeat (first | (with_reducible first | exact HB.out | apply below_alloc | apply pw_below_drewN | apply below_drew1 | refine below_set ?_ GE443.out | refine below_set ?_ GE451.out) | exact HB.out)) hb)
        clear HO_3
        clear HO_4
        clear HO_6
        clear HO_7
        clear HO_8
        clear BK443
        clear BK451
        clear HB
        have HO_3:=n0_
        have HO_4:=n1_
        have HO_6:=n2_
        have HO_7:=n3_
        have HO_8:=n4_
        have BK443:=n5_
        have BK451:=n6_
        have HB:=n7_
        clear n0_ n1_ n2_ n3_ n4_ n5_ n6_ n7_
        (try clear hb)
        (try clear hb2)
        (try clear hk)
        (try clear hi)
        refine hK.out _ _ ⟨HS0_,HS1_⟩ (fun hHeld => ?_)
        clear hK K
        refine norm_ (a':=?_) ?_ ?_
        rotate_left
        ·show Act.put _ (some 86) _ = _
         simp only [PU]
         rfl
        refine pm_ (i:=10) (N:=some 76) (v:=?_) (a':=?_) rfl rfl (any_of HT_.out T14q1) (fun _ _ _ h => h) (Or.inl ⟨by rfl,?_⟩) ?_ ?_
        rotate_left
        ·intro w'
         go_simp
         with_reducible rfl
        rotate_left
        ·simp only [PU]
         rfl
        refine pm_ (i:=11) (N:=some 87) (v:=?_) (a':=?_) rfl rfl (any_of HT_.out T14q1) (fun _ _ _ h => h) (Or.inl ⟨by rfl,?_⟩) ?_ ?_
        rotate_left
        ·intro w'
         go_simp
         with_reducible rfl
        rotate_left
        ·simp only [PU]
         rfl
        refine pm_ (i:=12) (N:=some 88) (v:=?_) (a':=?_) rfl rfl (any_of HT_.out T14q1) (fun _ _ _ h => h) (Or.inl ⟨by rfl,?_⟩) ?_ ?_
        rotate_left
        ·intro w'
         go_simp
         with_reducible rfl
        rotate_left
        ·simp only [PU]
         rfl
        exact norm_ (by simp only [putAll,Act.put,List.setIfInBounds_toArray,List.set_cons_zero,List.set_cons_succ]) (hCont (gb451) _ ⟨hHeld,T14q14,T14q7,T14q15,T14q16,T14q10,(by (with_reducible repeat (first | refine blk_drewN ?_ _ | refine blk_drew ?_ | refine blk_alloc ?_ _));exact BK443.out),(by (with_reducible repeat (first | refine blk_drewN ?_ _ | refine blk_drew ?_ | refine blk_alloc ?_ _));exact BK451.out),GW451.out,GE451.out,NB443_451.out,NB451_443.out,(by repeat (first | (with_reducible first | exact HB.out | apply below_alloc | apply pw_below_drewN | apply below_drew1 | refine below_set ?_ GE443.out | refine below_set ?_ GE451.out) | exact HB.out))⟩)
       rintro gb451 w93 ⟨hS_,h0_,h1_,h2_,h3_,h4_,h5_,h6_,h7_,h8_,h9_,h10_,h11_⟩
       have n0_ : Aside0 (Kd.R k27 27 w93 w.heap.size (fun k_ => some k_ ≠ (v415 : Value).ownBlock ∧ some k_ ≠ (.slice Ao88 t426.length co88 : Value).ownBlock ∧ k_ ≠ gb443 ∧ k_ ≠ gb451) (.slice Ao7 t407.length co7) t407):=⟨h0_⟩
       have n1_ : Aside0 (Kd.R (Kd.int .i64) 3 w93 w.heap.size (fun _ => True) (.slice (some ad437) t408.length co8) t408):=⟨h1_⟩
       have n2_ : Aside0 (Kd.R k27 27 w93 w.heap.size (fun k_ => some k_ ≠ (.slice Ao7 t407.length co7 : Value).ownBlock ∧ some k_ ≠ (.slice Ao88 t426.length co88 : Value).ownBlock ∧ k_ ≠ gb443 ∧ k_ ≠ gb451) v415 t414):=⟨h2_⟩
       have n3_ : Aside0 (Kd.R k27 27 w93 w.heap.size (fun k_ => some k_ ≠ (.slice Ao7 t407.length co7 : Value).ownBlock ∧ some k_ ≠ (v415 : Value).ownBlock ∧ k_ ≠ gb443 ∧ k_ ≠ gb451) (.slice Ao88 t426.length co88) t426):=⟨h3_⟩
       have n4_ : Aside0 (Kd.R Kd.string 9 w93 w.heap.size (fun _ => True) (.slice (some ad436) t429.length co32) t429):=⟨h4_⟩
       have n5_ : Aside0 (w93.heap[gb443]? = some (.cells #[.string t438,.int .i64 t439,.bool t440,.int .i64 t441] 27 (0,0))):=⟨h5_⟩
       have n6_ : Aside0 (w93.heap[gb451]? = some (.cells #[.string (⟨#[]⟩ : ByteArray),.int .i64 0,.bool false,.int .i64 0] 27 (0,0))):=⟨h6_⟩
       have n7_ : Aside0 (w.heap.size ≤ gb451):=⟨h7_⟩
       have n8_ : Aside0 (w.heap.size ≤ gb451):=⟨h8_⟩
       have n9_ : Aside0 (gb443 ≠ gb451):=⟨h9_⟩
       have n10_ : Aside0 (gb451 ≠ gb443):=⟨h10_⟩
       have n11_ : Aside0 (Below w.heap.size w w93):=⟨h11_⟩
       clear HO_3
       clear HO_4
       clear HO_6
       clear HO_7
       clear HO_8
       clear BK443
       clear HB
       clear h0_ h1_ h2_ h3_ h4_ h5_ h6_ h7_ h8_ h9_ h10_ h11_
       have HO_3:=n0_
       have HO_4:=n1_
       have HO_6:=n2_
       have HO_7:=n3_
       have HO_8:=n4_
       have BK443:=n5_
       have BK451:=n6_
       have GW451:=n7_
       have GE451:=n8_
       have NB443_451:=n9_
       have NB451_443:=n10_
       have HB:=n11_
       clear n0_ n1_ n2_ n3_ n4_ n5_ n6_ n7_ n8_ n9_ n10_ n11_
       have hHeld : w93.cell? (ad436.add (x9_2).toNat) = some (.string (rdOf ByteArray.empty t429 x9_2)) ∧ w93.cell? (ad437.add (x10_3).toNat) = some (.int .i64 (rd t408 x10_3)):=hS_
       refine norm_ (a':=?_) ?_ ?_
       rotate_left
       ·simp only [putAll,Act.put,List.setIfInBounds_toArray,List.set_cons_zero,List.set_cons_succ]
        rfl
       refine om_ (i:=14) (N:=none) rfl rfl (one_of HT_.out T14q1) (by decide) (fun K hK => ?_)
       have hs94 : w93.cell? ⟨gb451,0,none⟩ = some (.string (⟨#[]⟩ : ByteArray)):=(blk_cell BK451.out 0).trans rfl
       have hfs94:=blk_frozen BK451.out 0
       have hns94_0:=NB443_451.out
       have hms94_0:=NB451_443.out
       have hs95 : w93.cell? ⟨gb451,1,none⟩ = some (.int .i64 0):=(blk_cell BK451.out 1).trans rfl
       have hfs95:=blk_frozen BK451.out 1
       have hns95_0:=NB443_451.out
       have hms95_0:=NB451_443.out
       have hs96 : w93.cell? ⟨gb451,2,none⟩ = some (.bool false):=(blk_cell BK451.out 2).trans rfl
       have hfs96:=blk_frozen BK451.out 2
       have hns96_0:=NB443_451.out
       have hms96_0:=NB451_443.out
       have hs97 : w93.cell? ⟨gb451,3,none⟩ = some (.int .i64 0):=(blk_cell BK451.out 3).trans rfl
       have hfs97:=blk_frozen BK451.out 3
       have hns97_0:=NB443_451.out
       have hms97_0:=NB451_443.out
       refine skip_ (w1:=?_) (by rfl) rfl ?_ ?_
       rotate_left
       ·go_simp
        rfl
       refine hK.out _ _ ⟨((cell_far (p:=⟨gb451,_,none⟩) (by first | exact Kd.own_blk (Kd.R_ne HO_8.out BK451.out (by decide)) | (rw [add_block];exact Kd.own_blk (Kd.R_ne HO_8.out BK451.out (by decide))) | (show (Addr.add _ _).block ≠ _;rw [add_block];exact Kd.own_blk (Kd.R_ne HO_8.out BK451.out (by decide))) | (dsimp only;exact Kd.own_blk (Kd.R_ne HO_8.out BK451.out (by decide)))) _).trans (((cell_far (p:=⟨gb451,_,none⟩) (by first | exact Kd.own_blk (Kd.R_ne HO_8.out BK451.out (by decide)) | (rw [add_block];exact Kd.own_blk (Kd.R_ne HO_8.out BK451.out (by decide))) | (show (Addr.add _ _).block ≠ _;rw [add_block];exact Kd.own_blk (Kd.R_ne HO_8.out BK451.out (by decide))) | (dsimp only;exact Kd.own_blk (Kd.R_ne HO_8.out BK451.out (by decide)))) _).trans (((cell_far (p:=⟨gb451,_,none⟩) (by first | exact Kd.own_blk (Kd.R_ne HO_8.out BK451.out (by decide)) | (rw [add_block];exact Kd.own_blk (Kd.R_ne HO_8.out BK451.out (by decide))) | (show (Addr.add _ _).block ≠ _;rw [add_block];exact Kd.own_blk (Kd.R_ne HO_8.out BK451.out (by decide))) | (dsimp only;exact Kd.own_blk (Kd.R_ne HO_8.out BK451.out (by decide)))) _).trans (((cell_far (p:=⟨gb451,_,none⟩) (by first | exact Kd.own_blk (Kd.R_ne HO_8.out BK451.out (by decide)) | (rw [add_block];exact Kd.own_blk (Kd.R_ne HO_8.out BK451.out (by decide))) | (show (Addr.add _ _).block ≠ _;rw [add_block];exact Kd.own_blk (Kd.R_ne HO_8.out BK451.out (by decide))) | (dsimp only;exact Kd.own_blk (Kd.R_ne HO_8.out BK451.out (by decide)))) _).trans (hHeld.1)))))))),((cell_far (p:=⟨gb451,_,none⟩) (by first | exact Kd.own_blk (Kd.R_ne HO_4.out BK451.out (by decide)) | (rw [add_block];exact Kd.own_blk (Kd.R_ne HO_4.out BK451.out (by decide))) | (show (Addr.add _ _).block ≠ _;rw [add_block];exact Kd.own_blk (Kd.R_ne HO_4.out BK451.out (by decide))) | (dsimp only;exact Kd.own_blk (Kd.R_ne HO_4.out BK451.out (by decide)))) _).trans (((cell_far (p:=⟨gb451,_,none⟩) (by first | exact Kd.own_blk (Kd.R_ne HO_4.out BK451.out (by decide)) | (rw [add_block];exact Kd.own_blk (Kd.R_ne HO_4.out BK451.out (by decide))) | (show (Addr.add _ _).block ≠ _;rw [add_block];exact Kd.own_blk (Kd.R_ne HO_4.out BK451.out (by decide))) | (dsimp only;exact Kd.own_blk (Kd.R_ne HO_4.out BK451.out (by decide)))) _).trans (((cell_far (p:=⟨gb451,_,none⟩) (by first | exact Kd.own_blk (Kd.R_ne HO_4.out BK451.out (by decide)) | (rw [add_block];exact Kd.own_blk (Kd.R_ne HO_4.out BK451.out (by decide))) | (show (Addr.add _ _).block ≠ _;rw [add_block];exact Kd.own_blk (Kd.R_ne HO_4.out BK451.out (by decide))) | (dsimp only;exact Kd.own_blk (Kd.R_ne HO_4.out BK451.out (by decide)))) _).trans (((cell_far (p:=⟨gb451,_,none⟩) (by first | exact Kd.own_blk (Kd.R_ne HO_4.out BK451.out (by decide)) | (rw [add_block];exact Kd.own_blk (Kd.R_ne HO_4.out BK451.out (by decide))) | (show (Addr.add _ _).block ≠ _;rw [add_block];exact Kd.own_blk (Kd.R_ne HO_4.out BK451.out (by decide))) | (dsimp only;exact Kd.own_blk (Kd.R_ne HO_4.out BK451.out (by decide)))) _).trans (hHeld.2))))))))⟩ (fun hHeld => ?_)
       clear hK K
       refine pm_ (i:=15) (N:=some 14) (v:=?_) (a':=?_) rfl rfl (any_of HT_.out T14q1) (fun _ _ _ h => h) (Or.inl ⟨by rfl,?_⟩) ?_ ?_
       rotate_left
       ·intro w'
        go_simp
        with_reducible rfl
       rotate_left
       ·simp only [PU]
        rfl
       refine done_ (done_of HT_.out T14q1) ?_
       have hnb98:=NB443_451.out
       have hnc98:=NB451_443.out
       have hcz99_0 : w93.cell? ⟨gb443,0,none⟩ = some (.string t438):=(blk_cell BK443.out 0).trans rfl
       have hcz99_1 : w93.cell? ⟨gb443,1,none⟩ = some (.int .i64 t439):=(blk_cell BK443.out 1).trans rfl
       have hcz99_2 : w93.cell? ⟨gb443,2,none⟩ = some (.bool t440):=(blk_cell BK443.out 2).trans rfl
       have hcz99_3 : w93.cell? ⟨gb443,3,none⟩ = some (.int .i64 t441):=(blk_cell BK443.out 3).trans rfl
       have hfz99_0:=blk_frozen BK443.out 0
       have hfz99_1:=blk_frozen BK443.out 1
       have hfz99_2:=blk_frozen BK443.out 2
       have hfz99_3:=blk_frozen BK443.out 3
       have hcz100_0 : w93.cell? ⟨gb451,0,none⟩ = some (.string (⟨#[]⟩ : ByteArray)):=(blk_cell BK451.out 0).trans rfl
       have hcz100_1 : w93.cell? ⟨gb451,1,none⟩ = some (.int .i64 0):=(blk_cell BK451.out 1).trans rfl
       have hcz100_2 : w93.cell? ⟨gb451,2,none⟩ = some (.bool false):=(blk_cell BK451.out 2).trans rfl
       have hcz100_3 : w93.cell? ⟨gb451,3,none⟩ = some (.int .i64 0):=(blk_cell BK451.out 3).trans rfl
       have hfz100_0:=blk_frozen BK451.out 0
       have hfz100_1:=blk_frozen BK451.out 1
       have hfz100_2:=blk_frozen BK451.out 2
       have hfz100_3:=blk_frozen BK451.out 3
       try go_wp2
       go_roundg k3
       case measure => have:=HJ4.out;have:=HK2.out;have:=HK3.out;omega
       case rel => exact ⟨(wrap64 (x10_3 + 1)),(by first | rfl | (simp;done) | (simp [*];done)),H',⟨by have:=HJ4.out;have:=HK2.out;have:=HK3.out;omega⟩,⟨by (with_reducible repeat (first | apply Kd.R_alloc | apply Kd.R_drewN | apply Kd.R_drew));exact Kd.R_mono (Kd.R_far (p:=⟨gb451,3,none⟩) (Kd.R_far (p:=⟨gb451,2,none⟩) (Kd.R_far (p:=⟨gb451,1,none⟩) (Kd.R_far (p:=⟨gb451,0,none⟩) (Kd.R_mono HO_3.out (fun k_ hk => (⟨hk,hk.2.2.2⟩ : _ ∧ k_ ≠ gb451))) (fun _ hk => hk.2) (.string t446)) (fun _ hk => hk.2) (.int .i64 t447)) (fun _ hk => hk.2) (.bool t448)) (fun _ hk => hk.2) (.int .i64 t449)) (fun _ hk => ⟨hk.1.1,hk.1.2.1⟩)⟩,⟨by (with_reducible repeat (first | apply Kd.R_alloc | apply Kd.R_drewN | apply Kd.R_drew));exact Kd.R_mono (Kd.R_far (p:=⟨gb451,3,none⟩) (Kd.R_far (p:=⟨gb451,2,none⟩) (Kd.R_far (p:=⟨gb451,1,none⟩) (Kd.R_far (p:=⟨gb451,0,none⟩) (Kd.R_types HO_4.out BK451.out (by decide)) (fun _ hk => hk.2) (.string t446)) (fun _ hk => hk.2) (.int .i64 t447)) (fun _ hk => hk.2) (.bool t448)) (fun _ hk => hk.2) (.int .i64 t449)) (fun _ hk => trivial)⟩,⟨by (with_reducible repeat (first | apply Kd.R_alloc | apply Kd.R_drewN | apply Kd.R_drew));exact Kd.R_mono (Kd.R_far (p:=⟨gb451,3,none⟩) (Kd.R_far (p:=⟨gb451,2,none⟩) (Kd.R_far (p:=⟨gb451,1,none⟩) (Kd.R_far (p:=⟨gb451,0,none⟩) (Kd.R_mono HO_6.out (fun k_ hk => (⟨hk,hk.2.2.2⟩ : _ ∧ k_ ≠ gb451))) (fun _ hk => hk.2) (.string t446)) (fun _ hk => hk.2) (.int .i64 t447)) (fun _ hk => hk.2) (.bool t448)) (fun _ hk => hk.2) (.int .i64 t449)) (fun _ hk => ⟨hk.1.1,hk.1.2.1⟩)⟩,⟨by (with_reducible repeat (first | apply Kd.R_alloc | apply Kd.R_drewN | apply Kd.R_drew));exact Kd.R_mono (Kd.R_far (p:=⟨gb451,3,none⟩) (Kd.R_far (p:=⟨gb451,2,none⟩) (Kd.R_far (p:=⟨gb451,1,none⟩) (Kd.R_far (p:=⟨gb451,0,none⟩) (Kd.R_mono HO_7.out (fun k_ hk => (⟨hk,hk.2.2.2⟩ : _ ∧ k_ ≠ gb451))) (fun _ hk => hk.2) (.string t446)) (fun _ hk => hk.2) (.int .i64 t447)) (fun _ hk => hk.2) (.bool t448)) (fun _ hk => hk.2) (.int .i64 t449)) (fun _ hk => ⟨hk.1.1,hk.1.2.1⟩)⟩,⟨by (with_reducible repeat (first | apply Kd.R_alloc | apply Kd.R_drewN | apply Kd.R_drew));exact Kd.R_mono (Kd.R_far (p:=⟨gb451,3,none⟩) (Kd.R_far (p:=⟨gb451,2,none⟩) (Kd.R_far (p:=⟨gb451,1,none⟩) (Kd.R_far (p:=⟨gb451,0,none⟩) (Kd.R_types HO_8.out BK451.out (by decide)) (fun _ hk => hk.2) (.string t446)) (fun _ hk => hk.2) (.int .i64 t447)) (fun _ hk => hk.2) (.bool t448)) (fun _ hk => hk.2) (.int .i64 t449)) (fun _ hk => trivial)⟩,⟨by repeat (first | (with_reducible first | exact HB.out | apply below_alloc | apply pw_below_drewN | apply below_drew1 | refine below_set ?_ GE443.out | refine below_set ?_ GE451.out) | exact HB.out)⟩⟩
/-- THE ONE PURE STATEMENT of laws_FnRunTrimTop: yours. -/
def laws_FnRunTrimTop.Pure : Prop:=∀ (l0 : List Int),l0.length ≤ maxLen → l0.length * 1 ≤ 140737488351232 → (∀ x ∈ l0,(Lit.int .u8 x).wf = true) → ∃ k,laws_FnRunTrimTop.f k l0 = some true
theorem laws_FnRunTrimTop.walk (P : laws_FnRunTrimTop.Pure) (a0 : Option Addr) (len0 cap0 : Nat) (z0 : List Int) (w : World) (w0 : (a0 = none ∧ len0 = 0 ∧ cap0 = 0 ∧ z0 = []) ∨ ∃ x,a0 = some x ∧ len0 ≤ cap0 ∧ cap0 ≤ maxLen ∧ z0.length = cap0 ∧ (∀ i,i < z0.length → w.cell? (x.add i) = some (.int .u8 (z0.getD i 0))) ∧ ∀ n ∈ z0,(Lit.int .u8 n).wf = true) (y0 : len0 * 1 ≤ 140737488351232) :
  Calls Try.prog 10 #[.slice a0 len0 cap0] w fun e w' => e = .returned (.bool true) ∧ Below w.heap.size w w':=by
 obtain ⟨l0,rfl,hr0,hm0,hw0,hc0⟩:=ReadsInt.ofRowC w0
 obtain ⟨k,h⟩:=P l0 hm0 y0 hw0
 refine (laws_FnRunTrimTop.calls k _ _ l0 true w (Kd.C_of_reads (d:=(0 : Int)) (h1:=fun _ => rfl) hr0) hc0 h).mono ?_
 rintro e w' ⟨rfl,hd⟩
 exact ⟨rfl,hd⟩

end Go.Proofs.Ytkifijclehgiaaa.PFnRunTrimTop
