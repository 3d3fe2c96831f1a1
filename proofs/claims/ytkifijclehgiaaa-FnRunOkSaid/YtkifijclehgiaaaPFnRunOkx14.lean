/-
 Functions that FnRunOk reaches,each as a Lean function,and that Go comes to its answer: printed by the kit's printer,the sort's comparing function and impl.RunJoin's part laid by hand. Conditions: those that stand in each statement.
-/
import Derived.Test.YtkifijclehgiaaaPFnRunOkx0
import Derived.Test.YtkifijclehgiaaaPFnRunOkx3
import Derived.Test.YtkifijclehgiaaaPFnRunOkx4
import Derived.Test.YtkifijclehgiaaaPFnRunOkx5
import Derived.Test.YtkifijclehgiaaaPFnRunOkx9
import Derived.Test.YtkifijclehgiaaaPFnRunOkx13
import Derived.Test.YtkifijclehgiaaaXw
namespace Go.Proofs.Ytkifijclehgiaaa.PFnRunOk
open Go.RowKit Go.Proofs.YtkifijclehgiaaaW.PrintWords Go.Proofs.YtkifijclehgiaaaW.PrintLast Go.Proofs.YtkifijclehgiaaaW.PrintMore
attribute [local go_sem] max2_int min2_int max_two min_two max_three min_three max_four min_four   -- for this text's walks alone
set_option linter.unusedVariables false
set_option linter.unusedSimpArgs false
/-! ### laws_FnRunOk: function 11 -/
mutual
def laws_FnRunOk.j0 : Nat → List Int → List Int → Bool → Option (Bool)
 | 0,_,_,_ => none
 | k + 1,x0,x1,x17 => if x17 = true then (some true) else ((spec_DrawRunOk.f k x0).bind fun t344 => ((impl_RunOk.f k t344).bind fun t347 => ((spec_RunOk.f k t344).bind fun t348 => (if (t347 != t348) = true then (laws_FnRunOk.j1 k x1 t344 t347 true) else (laws_FnRunOk.j1 k x1 t344 t347 (!t347))))))
def laws_FnRunOk.j1 : Nat → List Int → List (S27) → Bool → Bool → Option (Bool)
 | 0,_,_,_,_ => none
 | k + 1,x1,x5,x6,x29 => if x29 = true then ((spec_RunOk.f k x5).bind fun t349 => (some (x6 == t349))) else (if (wrap64 ((x5.length : Int) + 1)) = 0 then (none) else (if 0 ≤ ((x1.length : Int) % (wrap64 ((x5.length : Int) + 1))) then (if ((x1.length : Int) % (wrap64 ((x5.length : Int) + 1))) ≤ (x5.length : Int) then ((impl_RunJoin.f k (x5.drop (((x1.length : Int) % (wrap64 ((x5.length : Int) + 1))) : Int).toNat) (x5.take (((x1.length : Int) % (wrap64 ((x5.length : Int) + 1))) : Int).toNat)).bind fun bt358 => ((impl_RunOk.f k (x5.take (((x1.length : Int) % (wrap64 ((x5.length : Int) + 1))) : Int).toNat)).bind fun t366 => (if t366 = true then ((impl_RunOk.f k (x5.drop (((x1.length : Int) % (wrap64 ((x5.length : Int) + 1))) : Int).toNat)).bind fun t371 => (if t371 = true then (if bt358.2 = true then ((laws_ltRuns.f k bt358.1 x5).bind fun t372 => (some t372)) else (some false)) else (some false))) else (some false)))) else (none)) else (none)))
end
def laws_FnRunOk.f (k : Nat) (l0 : List Int) (l1 : List Int) : Option (Bool):=if (l0.length : Int) > 1048576 then (laws_FnRunOk.j0 k l0 l1 true) else (laws_FnRunOk.j0 k l0 l1 (decide ((l1.length : Int) > 1048576)))
def laws_FnRunOk.T8 : Bool × List (List Nat × List Nat):=(true,[([],[]),([],[]),([0,1],[0,1]),([],[]),([],[]),([3,4],[3,4]),([2,5],[2,5]),([6],[6]),([7],[7]),([7],[7]),([8,6,0,1,2,3,4,5,6,7,8],[8]),([9,10,0,1,2,3,4,5,6,7,8,9,10],[9])])
def laws_FnRunOk.B8 : List Nat:=[0,0,3,0,0,24,63,127,255,255,511,2047]
theorem laws_FnRunOk.tab8 : rtab .any (opsOf Try.f11 8) = laws_FnRunOk.T8:=by kernel_rfl
theorem laws_FnRunOk.bits8 : waitsOk laws_FnRunOk.T8.2 laws_FnRunOk.B8 = true:=by kernel_rfl
set_option maxHeartbeats 8000000 in
set_option maxRecDepth 100000 in
theorem laws_FnRunOk.calls (k : Nat) (A0 : Option Addr) (c0 : Nat) (l0 : List Int) (A1 : Option Addr) (c1 : Nat) (l1 : List Int) (r : Bool) (w : World) (hr0 : Kd.C (Kd.int .u8) w A0 l0.length l0) (hc0 : l0.length ≤ c0) (hr1 : Kd.C (Kd.int .u8) w A1 l1.length l1) (hc1 : l1.length ≤ c1) (h : laws_FnRunOk.f k l0 l1 = some r) :
  Calls Try.prog 11 #[.slice A0 l0.length c0,.slice A1 l1.length c1] w fun e w' => e = .returned (.bool r) ∧ Below w.heap.size w w':=by
 have HR0:=Aside0.mk hr0
 have HC0:=Aside0.mk hc0
 clear hr0 hc0
 have HR1:=Aside0.mk hr1
 have HC1:=Aside0.mk hc1
 clear hr1 hc1
 have HB:=Aside0.mk (Below.refl w.heap.size w)
 have H : (if (l0.length : Int) > 1048576 then (laws_FnRunOk.j0 k l0 l1 true) else (laws_FnRunOk.j0 k l0 l1 (decide ((l1.length : Int) > 1048576)))) = some r:=h
 clear h
 have HC3:=Aside0.mk H
 clear H
 go_enter Try.func11,Try.ntmps11
 go_upto_region 1 with (fail)
 go_cut [17] (fun v17 wc => ∃ (kq : Nat) (x17_2 : Bool),v17 = .bool x17_2 ∧ Aside0 (laws_FnRunOk.j0 kq l0 l1 x17_2 = some r) ∧ Aside0 (kq ≤ k) ∧ Aside0 (Below w.heap.size w wc))
 case first =>
  have H:=HC3.out
  clear HC3
  by_cases c4 : (l0.length : Int) > 1048576
  ·rw [if_pos c4] at H
   have c4b0 : decide (1048576 < (l0.length : Int)) = true:=decide_eq_true c4
   have c4b1 : decide (1048576 < l0.length) = true:=decide_eq_true (by omega)
   clear c4
   (first | rw [c4b0] | (simp only [i64_w,i32_w];rw [c4b0]) | skip)
   have H':=Aside0.mk H
   clear H
   go_wp2
   go_meet
   case rel => exact ⟨_,(true),(by first | rfl | (simp;done) | (simp [*];done)),H',⟨by first | omega | exact Nat.le_refl _⟩,⟨by repeat (first | (with_reducible first | exact HB.out | apply below_alloc | apply pw_below_drewN | apply below_drew1) | exact HB.out)⟩⟩
  rw [if_neg c4] at H
  have c4b0 : decide (1048576 < (l0.length : Int)) = false:=decide_eq_false c4
  have c4b1 : decide (1048576 < l0.length) = false:=decide_eq_false (by omega)
  clear c4
  (first | rw [c4b0] | (simp only [i64_w,i32_w];rw [c4b0]) | skip)
  have H':=Aside0.mk H
  clear H
  go_wp2
  go_meet
  case rel => exact ⟨_,(decide ((l1.length : Int) > 1048576)),(by first | rfl | (simp;done) | (simp [*];done)),H',⟨by first | omega | exact Nat.le_refl _⟩,⟨by repeat (first | (with_reducible first | exact HB.out | apply below_alloc | apply pw_below_drewN | apply below_drew1) | exact HB.out)⟩⟩
 case rest =>
  clear HC3
  try clear c1
  try clear p2
  try clear c4
  try clear c4b0
  try clear c4b1
  obtain ⟨kq,x17_2,rfl,HA,HJ2,HB⟩:=hcut
  cases kq with
  | zero => exact absurd HA.out (by simp [laws_FnRunOk.j0])
  | succ kj2 =>
   have H:=HA.out
   clear HA
   simp only [laws_FnRunOk.j0] at H
   by_cases c5 : x17_2 = true
   ·subst c5
    have H1 : (some true) = some r:=by rw [if_pos rfl] at H;exact H
    clear H
    have H:=H1
    clear H1
    obtain rfl:=Option.some.inj H
    go_wp2
    go_ret
    exact ⟨by first | rfl | (simp [errW_none,errW_some] <;> rfl) | (simp [*,errW_none,errW_some] <;> rfl),by repeat (first | (with_reducible first | exact HB.out | apply below_alloc | apply pw_below_drewN | apply below_drew1) | exact HB.out)⟩
   replace c5:=Bool.eq_false_iff.mpr c5
   subst c5
   have H1 : ((spec_DrawRunOk.f kj2 l0).bind fun t344 => ((impl_RunOk.f kj2 t344).bind fun t347 => ((spec_RunOk.f kj2 t344).bind fun t348 => (if (t347 != t348) = true then (laws_FnRunOk.j1 kj2 l1 t344 t347 true) else (laws_FnRunOk.j1 kj2 l1 t344 t347 (!t347)))))) = some r:=by rw [if_neg (show ¬ (false = true) by decide)] at H;exact H
   clear H
   have H:=H1
   clear H1
   replace H:=Option.bind_eq_some_iff.mp H
   obtain ⟨t344,A60,H⟩:=H
   replace H : ((impl_RunOk.f kj2 t344).bind fun t347 => ((spec_RunOk.f kj2 t344).bind fun t348 => (if (t347 != t348) = true then (laws_FnRunOk.j1 kj2 l1 t344 t347 true) else (laws_FnRunOk.j1 kj2 l1 t344 t347 (!t347))))) = some r:=H
   have A6:=Aside0.mk A60
   clear A60
   replace H:=Option.bind_eq_some_iff.mp H
   obtain ⟨t347,A70,H⟩:=H
   replace H : ((spec_RunOk.f kj2 t344).bind fun t348 => (if (t347 != t348) = true then (laws_FnRunOk.j1 kj2 l1 t344 t347 true) else (laws_FnRunOk.j1 kj2 l1 t344 t347 (!t347)))) = some r:=H
   have A7:=Aside0.mk A70
   clear A70
   have HC8:=Aside0.mk H
   clear H
   go_upto_region 5 with (first | ((with_reducible refine gate_callee (f:=30) rfl ?_);refine goesL_ (some 19) rfl rfl Try.func30 (by kernel_rfl) rfl #[.slice A0 l0.length c0] rfl (by (try simp only [List.map_toArray,List.map_cons,List.map_nil]);first | done | rfl | (simp only [List.length_drop,List.length_take];rfl)) ?_;(with_reducible refine (spec_DrawRunOk.calls kj2 _ _ l0 t344 _ ?side1 ?side2 A6.out).mono ?_);(case side1 => repeat (first | exact (Kd.C_below HR0.out HB.out) | (with_reducible refine Kd.C_alloc ?_ _) | (with_reducible refine Kd.C_drewN ?_ _) | (with_reducible refine Kd.C_drew ?_)));(case side2 => exact HC0.out);rintro e w9 ⟨v345,rfl,ho0,hb⟩;refine ⟨_,rfl,?_⟩;have n0_:=Aside0.mk (Kd.R_lower ho0 (below_size (by repeat (first | (with_reducible first | exact HB.out | apply below_alloc | apply pw_below_drewN | apply below_drew1) | exact HB.out))));have n1_:=Aside0.mk (below_step (by repeat (first | (with_reducible first | exact HB.out | apply below_alloc | apply pw_below_drewN | apply below_drew1) | exact HB.out)) hb);clear HB;have HO346:=n0_;have HB:=n1_;clear n0_ n1_;(try clear hb);(try clear hb2);(try clear hk);(try clear hi);(try clear ho0);obtain ⟨Ao10,co10,eo10⟩:=Kd.R_slice HO346.out;subst eo10) | ((with_reducible refine gate_callee (f:=28) rfl ?_);refine goesL_ (some 21) rfl rfl Try.func28 (by kernel_rfl) rfl #[.slice Ao10 t344.length co10] rfl (by (try simp only [List.map_toArray,List.map_cons,List.map_nil]);first | done | rfl | (simp only [List.length_drop,List.length_take];rfl)) ?_;(with_reducible refine (impl_RunOk.calls kj2 _ _ t344 t347 _ ?side1 ?side2 A7.out).mono ?_);(case side1 => repeat (first | exact (Kd.R_reads' HO346.out).2.2 | (with_reducible refine Kd.C_alloc ?_ _) | (with_reducible refine Kd.C_drewN ?_ _) | (with_reducible refine Kd.C_drew ?_)));(case side2 => exact (Kd.R_reads' HO346.out).2.1);rintro e w11 ⟨rfl,hb⟩;refine ⟨_,rfl,?_⟩;have n0_:=Aside0.mk (Kd.R_below (by (with_reducible repeat (first | apply Kd.R_alloc | apply Kd.R_drewN | apply Kd.R_drew));exact HO346.out) hb);have n1_:=Aside0.mk (below_step (by repeat (first | (with_reducible first | exact HB.out | apply below_alloc | apply pw_below_drewN | apply below_drew1) | exact HB.out)) hb);clear HO346;clear HB;have HO346:=n0_;have HB:=n1_;clear n0_ n1_;(try clear hb);(try clear hb2);(try clear hk);(try clear hi)))
   (try simp only [Act.put,List.setIfInBounds_toArray,List.set_cons_zero,List.set_cons_succ])
   go_cut [29] (fun v29 wc => ∃ (kq : Nat) (x29_7 : Bool),v29 = .bool x29_7 ∧ Aside0 (laws_FnRunOk.j1 kq l1 t344 t347 x29_7 = some r) ∧ Aside0 (kq ≤ kj2) ∧ Aside0 (Kd.R k27 27 wc w.heap.size (fun _ => True) (.slice Ao10 t344.length co10) t344) ∧ Aside0 (Below w.heap.size w wc))
   case first =>
    have H:=HC8.out
    clear HC8
    replace H:=Option.bind_eq_some_iff.mp H
    obtain ⟨t348,A120,H⟩:=H
    replace H : (if (t347 != t348) = true then (laws_FnRunOk.j1 kj2 l1 t344 t347 true) else (laws_FnRunOk.j1 kj2 l1 t344 t347 (!t347))) = some r:=H
    have A12:=Aside0.mk A120
    clear A120
    by_cases c13 : (t347 != t348) = true
    rotate_left
    ·rw [if_neg c13] at H
     have c13b0 : (t347 != t348) = false:=by simpa using c13
     (try (have c13b1 : decide (t347 = t348) = true:=by simpa using c13))
     (try (have c13b2 : (t347 == t348) = true:=by simpa using c13))
     clear c13
     (first | rw [c13b0] | (simp only [i64_w,i32_w];rw [c13b0]) | skip)
     have H':=Aside0.mk H
     clear H
     go_wp2_with (first | ((with_reducible refine gate_callee (f:=18) rfl ?_);refine goesL_ (some 24) rfl rfl Try.func18 (by kernel_rfl) rfl #[.slice Ao10 t344.length co10] rfl (by (try simp only [List.map_toArray,List.map_cons,List.map_nil]);first | done | rfl | (simp only [List.length_drop,List.length_take];rfl)) ?_;(with_reducible refine (spec_RunOk.calls kj2 _ _ t344 t348 _ ?side1 ?side2 A12.out).mono ?_);(case side1 => repeat (first | exact (Kd.R_reads' HO346.out).2.2 | (with_reducible refine Kd.C_alloc ?_ _) | (with_reducible refine Kd.C_drewN ?_ _) | (with_reducible refine Kd.C_drew ?_)));(case side2 => exact (Kd.R_reads' HO346.out).2.1);rintro e w15 ⟨rfl,hb⟩;refine ⟨_,rfl,?_⟩;have n0_:=Aside0.mk (Kd.R_below (by (with_reducible repeat (first | apply Kd.R_alloc | apply Kd.R_drewN | apply Kd.R_drew));exact HO346.out) hb);have n1_:=Aside0.mk (below_step (by repeat (first | (with_reducible first | exact HB.out | apply below_alloc | apply pw_below_drewN | apply below_drew1) | exact HB.out)) hb);clear HO346;clear HB;have HO346:=n0_;have HB:=n1_;clear n0_ n1_;(try clear hb);(try clear hb2);(try clear hk);(try clear hi)))
     go_meet
     case rel => exact ⟨_,(!t347),(by first | rfl | (simp;done) | (simp [*];done)),H',⟨by have:=HJ2.out;first | omega | exact Nat.le_refl _⟩,⟨by (with_reducible repeat (first | apply Kd.R_alloc | apply Kd.R_drewN | apply Kd.R_drew));exact HO346.out⟩,⟨by repeat (first | (with_reducible first | exact HB.out | apply below_alloc | apply pw_below_drewN | apply below_drew1) | exact HB.out)⟩⟩
    rw [if_pos c13] at H
    have c13b0 : (t347 != t348) = true:=c13
    (try (have c13b1 : decide (t347 = t348) = false:=by simpa using c13))
    (try (have c13b2 : (t347 == t348) = false:=by simpa using c13))
    (try (have c13b3 : ¬ (t347 = t348):=by simpa using c13))
    clear c13
    (first | rw [c13b0] | (simp only [i64_w,i32_w];rw [c13b0]) | skip)
    have H':=Aside0.mk H
    clear H
    go_wp2_with (first | ((with_reducible refine gate_callee (f:=18) rfl ?_);refine goesL_ (some 24) rfl rfl Try.func18 (by kernel_rfl) rfl #[.slice Ao10 t344.length co10] rfl (by (try simp only [List.map_toArray,List.map_cons,List.map_nil]);first | done | rfl | (simp only [List.length_drop,List.length_take];rfl)) ?_;(with_reducible refine (spec_RunOk.calls kj2 _ _ t344 t348 _ ?side1 ?side2 A12.out).mono ?_);(case side1 => repeat (first | exact (Kd.R_reads' HO346.out).2.2 | (with_reducible refine Kd.C_alloc ?_ _) | (with_reducible refine Kd.C_drewN ?_ _) | (with_reducible refine Kd.C_drew ?_)));(case side2 => exact (Kd.R_reads' HO346.out).2.1);rintro e w14 ⟨rfl,hb⟩;refine ⟨_,rfl,?_⟩;have n0_:=Aside0.mk (Kd.R_below (by (with_reducible repeat (first | apply Kd.R_alloc | apply Kd.R_drewN | apply Kd.R_drew));exact HO346.out) hb);have n1_:=Aside0.mk (below_step (by repeat (first | (with_reducible first | exact HB.out | apply below_alloc | apply pw_below_drewN | apply below_drew1) | exact HB.out)) hb);clear HO346;clear HB;have HO346:=n0_;have HB:=n1_;clear n0_ n1_;(try clear hb);(try clear hb2);(try clear hk);(try clear hi)))
    go_meet
    case rel => exact ⟨_,(true),(by first | rfl | (simp;done) | (simp [*];done)),H',⟨by have:=HJ2.out;first | omega | exact Nat.le_refl _⟩,⟨by (with_reducible repeat (first | apply Kd.R_alloc | apply Kd.R_drewN | apply Kd.R_drew));exact HO346.out⟩,⟨by repeat (first | (with_reducible first | exact HB.out | apply below_alloc | apply pw_below_drewN | apply below_drew1) | exact HB.out)⟩⟩
   case rest =>
    clear HC8
    try clear c1
    try clear c2
    try clear p2
    try clear c3
    try clear c4
    try clear c4b0
    try clear c4b1
    try clear c5
    try clear c11
    try clear c13
    try clear c13b0
    try clear c13b1
    try clear c13b2
    try clear p2
    obtain ⟨kq,x29_7,rfl,HA,HJ7,HO_5,HB⟩:=hcut
    cases kq with
    | zero => exact absurd HA.out (by simp [laws_FnRunOk.j1])
    | succ kj7 =>
     have H:=HA.out
     clear HA
     simp only [laws_FnRunOk.j1] at H
     by_cases c16 : x29_7 = true
     ·subst c16
      have H1 : ((spec_RunOk.f kj7 t344).bind fun t349 => (some (t347 == t349))) = some r:=by rw [if_pos rfl] at H;exact H
      clear H
      have H:=H1
      clear H1
      replace H:=Option.bind_eq_some_iff.mp H
      obtain ⟨t349,A170,H⟩:=H
      replace H : (some (t347 == t349)) = some r:=H
      have A17:=Aside0.mk A170
      clear A170
      obtain rfl:=Option.some.inj H
      go_wp2_with (first | ((with_reducible refine gate_callee (f:=18) rfl ?_);refine goesL_ (some 32) rfl rfl Try.func18 (by kernel_rfl) rfl #[.slice Ao10 t344.length co10] rfl (by (try simp only [List.map_toArray,List.map_cons,List.map_nil]);first | done | rfl | (simp only [List.length_drop,List.length_take];rfl)) ?_;(with_reducible refine (spec_RunOk.calls kj7 _ _ t344 t349 _ ?side1 ?side2 A17.out).mono ?_);(case side1 => repeat (first | exact (Kd.R_reads' HO_5.out).2.2 | (with_reducible refine Kd.C_alloc ?_ _) | (with_reducible refine Kd.C_drewN ?_ _) | (with_reducible refine Kd.C_drew ?_)));(case side2 => exact (Kd.R_reads' HO_5.out).2.1);rintro e w18 ⟨rfl,hb⟩;refine ⟨_,rfl,?_⟩;have n0_:=Aside0.mk (Kd.R_below (by (with_reducible repeat (first | apply Kd.R_alloc | apply Kd.R_drewN | apply Kd.R_drew));exact HO_5.out) hb);have n1_:=Aside0.mk (below_step (by repeat (first | (with_reducible first | exact HB.out | apply below_alloc | apply pw_below_drewN | apply below_drew1) | exact HB.out)) hb);clear HO_5;clear HB;have HO_5:=n0_;have HB:=n1_;clear n0_ n1_;(try clear hb);(try clear hb2);(try clear hk);(try clear hi)))
      go_ret
      exact ⟨by first | rfl | (simp [errW_none,errW_some] <;> rfl) | (simp [*,errW_none,errW_some] <;> rfl),by repeat (first | (with_reducible first | exact HB.out | apply below_alloc | apply pw_below_drewN | apply below_drew1) | exact HB.out)⟩
     replace c16:=Bool.eq_false_iff.mpr c16
     subst c16
     have H1 : (if (wrap64 ((t344.length : Int) + 1)) = 0 then (none) else (if 0 ≤ ((l1.length : Int) % (wrap64 ((t344.length : Int) + 1))) then (if ((l1.length : Int) % (wrap64 ((t344.length : Int) + 1))) ≤ (t344.length : Int) then ((impl_RunJoin.f kj7 (t344.drop (((l1.length : Int) % (wrap64 ((t344.length : Int) + 1))) : Int).toNat) (t344.take (((l1.length : Int) % (wrap64 ((t344.length : Int) + 1))) : Int).toNat)).bind fun bt358 => ((impl_RunOk.f kj7 (t344.take (((l1.length : Int) % (wrap64 ((t344.length : Int) + 1))) : Int).toNat)).bind fun t366 => (if t366 = true then ((impl_RunOk.f kj7 (t344.drop (((l1.length : Int) % (wrap64 ((t344.length : Int) + 1))) : Int).toNat)).bind fun t371 => (if t371 = true then (if bt358.2 = true then ((laws_ltRuns.f kj7 bt358.1 t344).bind fun t372 => (some t372)) else (some false)) else (some false))) else (some false)))) else (none)) else (none))) = some r:=by rw [if_neg (show ¬ (false = true) by decide)] at H;exact H
     clear H
     have H:=H1
     clear H1
     by_cases c19 : (wrap64 ((t344.length : Int) + 1)) = 0
     ·rw [if_pos c19] at H
      exact absurd H (by simp)
     rw [if_neg c19] at H
     have c19b0 : ((wrap64 ((t344.length : Int) + 1)) == 0) = false:=beq_eq_false_iff_ne.mpr c19
     have c19b1 : ((wrap64 ((t344.length : Int) + 1)) != 0) = true:=bne_iff_ne.mpr c19
     obtain ⟨ji20,hji20⟩ : ∃ j_ : Int,((l1.length : Int) % (wrap64 ((t344.length : Int) + 1))) = j_:=⟨_,rfl⟩
     replace H : (if 0 ≤ (ji20) then (if (ji20) ≤ (t344.length : Int) then ((impl_RunJoin.f kj7 (t344.drop ((ji20) : Int).toNat) (t344.take ((ji20) : Int).toNat)).bind fun bt358 => ((impl_RunOk.f kj7 (t344.take ((ji20) : Int).toNat)).bind fun t366 => (if t366 = true then ((impl_RunOk.f kj7 (t344.drop ((ji20) : Int).toNat)).bind fun t371 => (if t371 = true then (if bt358.2 = true then ((laws_ltRuns.f kj7 bt358.1 t344).bind fun t372 => (some t372)) else (some false)) else (some false))) else (some false)))) else (none)) else (none)) = some r:=by first | (rw [hji20] at H;exact H) | (simp only [hji20] at H ⊢;exact H)
     by_cases c21 : 0 ≤ (ji20)
     rotate_left
     ·rw [if_neg c21] at H
      exact absurd H (by simp)
     rw [if_pos c21] at H
     have c21b0:=eq_true c21
     have c21b1 : decide (0 ≤ (ji20)) = true:=decide_eq_true c21
     clear c21
     by_cases c22 : (ji20) ≤ (t344.length : Int)
     rotate_left
     ·rw [if_neg c22] at H
      exact absurd H (by simp)
     rw [if_pos c22] at H
     have c22b0:=eq_true c22
     have c22b1 : decide ((ji20) ≤ (t344.length : Int)) = true:=decide_eq_true c22
     clear c22
     obtain ⟨y350,hy350⟩ : ∃ y_ : List (S27),y_ = (t344.drop ((ji20) : Int).toNat):=⟨_,rfl⟩
     replace H : ((impl_RunJoin.f kj7 y350 (t344.take ((ji20) : Int).toNat)).bind fun bt358 => ((impl_RunOk.f kj7 (t344.take ((ji20) : Int).toNat)).bind fun t366 => (if t366 = true then ((impl_RunOk.f kj7 (t344.drop ((ji20) : Int).toNat)).bind fun t371 => (if t371 = true then (if bt358.2 = true then ((laws_ltRuns.f kj7 bt358.1 t344).bind fun t372 => (some t372)) else (some false)) else (some false))) else (some false)))) = some r:=by first | (rw [hy350];with_reducible exact H) | (have H2_:=(Option.bind_some _ _).symm.trans H;rw [hy350];with_reducible exact H2_) | (have H2_:=(Option.bind_some _ _).symm.trans H;with_reducible exact H2_) | with_reducible exact H | (rw [hy350];exact H) | exact H
     have Ny350:=Aside0.mk hy350
     clear hy350
     have c23b0:=eq_true (of_decide_eq_true (by first | (with_reducible assumption) | assumption) : 0 ≤ (ji20))
     have c24b0:=eq_true (of_decide_eq_true (by first | (with_reducible assumption) | assumption) : (ji20) ≤ (t344.length : Int))
     obtain ⟨y354,hy354⟩ : ∃ y_ : List (S27),y_ = (t344.take ((ji20) : Int).toNat):=⟨_,rfl⟩
     replace H : ((impl_RunJoin.f kj7 y350 y354).bind fun bt358 => ((impl_RunOk.f kj7 (t344.take ((ji20) : Int).toNat)).bind fun t366 => (if t366 = true then ((impl_RunOk.f kj7 (t344.drop ((ji20) : Int).toNat)).bind fun t371 => (if t371 = true then (if bt358.2 = true then ((laws_ltRuns.f kj7 bt358.1 t344).bind fun t372 => (some t372)) else (some false)) else (some false))) else (some false)))) = some r:=by first | (rw [hy354];with_reducible exact H) | (have H2_:=(Option.bind_some _ _).symm.trans H;rw [hy354];with_reducible exact H2_) | (have H2_:=(Option.bind_some _ _).symm.trans H;with_reducible exact H2_) | with_reducible exact H | (rw [hy354];exact H) | exact H
     have Ny354:=Aside0.mk hy354
     clear hy354
     replace H:=Option.bind_eq_some_iff.mp H
     obtain ⟨⟨t358,t359⟩,A250,H⟩:=H
     replace H : ((impl_RunOk.f kj7 (t344.take ((ji20) : Int).toNat)).bind fun t366 => (if t366 = true then ((impl_RunOk.f kj7 (t344.drop ((ji20) : Int).toNat)).bind fun t371 => (if t371 = true then (if t359 = true then ((laws_ltRuns.f kj7 t358 t344).bind fun t372 => (some t372)) else (some false)) else (some false))) else (some false))) = some r:=H
     have A25:=Aside0.mk A250
     clear A250
     have c26b0:=eq_true (of_decide_eq_true (by first | (with_reducible assumption) | assumption) : 0 ≤ (ji20))
     have c27b0:=eq_true (of_decide_eq_true (by first | (with_reducible assumption) | assumption) : (ji20) ≤ (t344.length : Int))
     have hy354:=Ny354.out
     replace H : ((impl_RunOk.f kj7 y354).bind fun t366 => (if t366 = true then ((impl_RunOk.f kj7 (t344.drop ((ji20) : Int).toNat)).bind fun t371 => (if t371 = true then (if t359 = true then ((laws_ltRuns.f kj7 t358 t344).bind fun t372 => (some t372)) else (some false)) else (some false))) else (some false))) = some r:=by first | (rw [hy354];with_reducible exact H) | (have H2_:=(Option.bind_some _ _).symm.trans H;rw [hy354];with_reducible exact H2_) | (have H2_:=(Option.bind_some _ _).symm.trans H;with_reducible exact H2_) | with_reducible exact H | (rw [hy354];exact H) | exact H
     clear hy354
     replace H:=Option.bind_eq_some_iff.mp H
     obtain ⟨t366,A280,H⟩:=H
     replace H : (if t366 = true then ((impl_RunOk.f kj7 (t344.drop ((ji20) : Int).toNat)).bind fun t371 => (if t371 = true then (if t359 = true then ((laws_ltRuns.f kj7 t358 t344).bind fun t372 => (some t372)) else (some false)) else (some false))) else (some false)) = some r:=H
     have A28:=Aside0.mk A280
     clear A280
     by_cases c29 : t366 = true
     rotate_left
     ·replace c29:=Bool.eq_false_iff.mpr c29
      subst c29
      have H1 : (some false) = some r:=by rw [if_neg (show ¬ (false = true) by decide)] at H;exact H
      clear H
      have H:=H1
      clear H1
      obtain rfl:=Option.some.inj H
      try go_wp2
      have n0_:=Aside0.mk (Kd.R_drew HO_5.out)
      have n1_:=Aside0.mk (below_drew1 HB.out)
      clear HO_5
      clear HB
      have HO_5:=n0_
      have HB:=n1_
      clear n0_ n1_
      have q62 : ((ji20) : Int) ≤ ((t344.length : Int) : Int):=of_decide_eq_true (by first | (with_reducible assumption) | assumption)
      obtain ⟨i062,hi062,_,hsz62,_⟩:=info_parts info27
      have hroom62 : t344.length ≤ co10:=(Kd.R_reads' HO_5.out).2.1
      have hC62 : Kd.C k27 _ Ao10 t344.length t344:=(Kd.R_reads' HO_5.out).2.2
      have q062 : (0 : Int) ≤ ((ji20) : Int):=of_decide_eq_true (by first | (with_reducible assumption) | assumption)
      have hcut62:=cut_from (P:=Try.prog) 23 27 .i64 Try.underlying23 hi062 4 hsz62 Ao10 t344.length co10 (ji20) q062 q62
      have hr62:=Kd.C_drop (m:=((ji20) : Int).toNat) (c:=co10) hC62 (by omega) hroom62
      obtain ⟨A62,hA62⟩ : ∃ A1,A1 = (if co10 = ((ji20) : Int).toNat then Ao10 else (Ao10 : Option Addr).map (·.add (((ji20) : Int).toNat * 4))):=⟨_,rfl⟩
      obtain ⟨c62,hc62⟩ : ∃ c1,c1 = co10 - ((ji20) : Int).toNat:=⟨_,rfl⟩
      have hy62 : y350.length = t344.length - ((ji20) : Int).toNat:=(by rw [Ny350.out,List.length_drop] <;> omega)
      rw [show (t344).drop ((ji20) : Int).toNat = y350 from Ny350.out.symm] at hr62
      replace hr62 : Kd.C k27 _ A62 y350.length y350:=(by rw [hA62];exact hr62)
      rw [← hy62,← hA62,← hc62] at hcut62
      have HR353:=Aside0.mk hr62
      have HC353:=Aside0.mk (show y350.length ≤ c62 from by rw [hy62,hc62];exact Nat.sub_le_sub_right hroom62 _)
      clear hr62 hC62 hroom62 hi062 hsz62 hc62
      have KY62:=Aside0.mk hy62
      have KA62:=Aside0.mk hA62
      clear hy62 hA62
      have KL62:=Aside0.mk (show ((ji20) : Int).toNat ≤ t344.length from by omega)
      replace q62:=eq_true q62
      have q63 : ((ji20) : Int) ≤ ((t344.length : Int) : Int):=of_decide_eq_true (by first | (with_reducible assumption) | assumption)
      obtain ⟨i063,hi063,_,hsz63,_⟩:=info_parts info27
      have hroom63 : t344.length ≤ co10:=(Kd.R_reads' HO_5.out).2.1
      have hC63 : Kd.C k27 _ Ao10 t344.length t344:=(Kd.R_reads' HO_5.out).2.2
      have hcut63:=cut_to (P:=Try.prog) 23 27 .i64 Try.underlying23 hi063 Ao10 t344.length co10 (ji20) (of_decide_eq_true (by first | (with_reducible assumption) | assumption)) q63 hroom63
      have hr63:=Kd.C_take (m:=((ji20) : Int).toNat) hC63 (by omega)
      have hy63 : y354.length = ((ji20) : Int).toNat:=(by rw [Ny354.out,List.length_take];omega)
      rw [← Ny354.out] at hr63
      rw [← hy63] at hcut63
      have HR357:=Aside0.mk hr63
      have HC357:=Aside0.mk (show y354.length ≤ co10 from by omega)
      clear hr63 hC63 hroom63 hi063 hsz63
      have KY63:=Aside0.mk hy63
      clear hy63
      have KL63:=Aside0.mk (show ((ji20) : Int).toNat ≤ t344.length from by omega)
      replace q63:=eq_true q63
      refine start_ (n:=12) (S:=fun w' => True) (ds:=[]) #[false,false,false,false,false,false,false,false,false,false,false,false] (by kernel_rfl) rfl rfl trivial (fun hHeld => ?_);refine with_tabW laws_FnRunOk.tab8 laws_FnRunOk.bits8 (fun HT_ HW_ => ?_)
      generalize wc.drew = w61 at HO_5 HB HR353 HR357 hHeld ⊢
      refine pure_ (i:=0) (N:=some 41) (v:=?_) (a':=?_) #[true,false,false,false,false,false,false,false,false,false,false,false] rfl rfl (any_of HT_.out (by kernel_rfl)) (fun _ _ _ h => h) (Or.inl ⟨by rfl,?_⟩) ?_ ?_
      rotate_left
      ·intro w'
       go_simp
       with_reducible rfl
      rotate_left
      ·simp only [Act.put,List.setIfInBounds_toArray,List.set_cons_zero,List.set_cons_succ,i64_w,i32_w]
       rfl
      refine pure_ (i:=1) (N:=some 42) (v:=?_) (a':=?_) #[true,true,false,false,false,false,false,false,false,false,false,false] rfl rfl (any_of HT_.out (by kernel_rfl)) (fun _ _ _ h => h) (Or.inl ⟨by rfl,?_⟩) ?_ ?_
      rotate_left
      ·intro w'
       go_simp
       with_reducible rfl
      rotate_left
      ·simp only [Act.put,List.setIfInBounds_toArray,List.set_cons_zero,List.set_cons_succ,i64_w,i32_w]
       rfl
      refine pure_ (i:=2) (N:=some 43) (v:=?_) (a':=?_) #[true,true,true,false,false,false,false,false,false,false,false,false] rfl rfl (any_of HT_.out (by kernel_rfl)) (fun _ _ _ h => h) (Or.inl ⟨by rfl,?_⟩) ?_ ?_
      rotate_left
      ·intro w'
       go_simp
       with_reducible rfl
      rotate_left
      ·simp only [Act.put,List.setIfInBounds_toArray,List.set_cons_zero,List.set_cons_succ,i64_w,i32_w]
       rfl
      refine pure_ (i:=3) (N:=some 44) (v:=?_) (a':=?_) #[true,true,true,true,false,false,false,false,false,false,false,false] rfl rfl (any_of HT_.out (by kernel_rfl)) (fun _ _ _ h => h) (Or.inl ⟨by rfl,?_⟩) ?_ ?_
      rotate_left
      ·intro w'
       go_simp
       with_reducible rfl
      rotate_left
      ·simp only [Act.put,List.setIfInBounds_toArray,List.set_cons_zero,List.set_cons_succ,i64_w,i32_w]
       rfl
      refine pure_ (i:=4) (N:=some 45) (v:=?_) (a':=?_) #[true,true,true,true,true,false,false,false,false,false,false,false] rfl rfl (any_of HT_.out (by kernel_rfl)) (fun _ _ _ h => h) (Or.inl ⟨by rfl,?_⟩) ?_ ?_
      rotate_left
      ·intro w'
       go_simp
       with_reducible rfl
      rotate_left
      ·simp only [Act.put,List.setIfInBounds_toArray,List.set_cons_zero,List.set_cons_succ,i64_w,i32_w]
       rfl
      refine pure_ (i:=5) (N:=some 46) (v:=?_) (a':=?_) #[true,true,true,true,true,true,false,false,false,false,false,false] rfl rfl (any_of HT_.out (by kernel_rfl)) (fun _ _ _ h => h) (Or.inl ⟨by rfl,?_⟩) ?_ ?_
      rotate_left
      ·intro w'
       go_simp
       with_reducible rfl
      rotate_left
      ·simp only [Act.put,List.setIfInBounds_toArray,List.set_cons_zero,List.set_cons_succ,i64_w,i32_w]
       rfl
      refine one_ (i:=6) (N:=some 47) #[true,true,true,true,true,true,true,false,false,false,false,false] rfl rfl (one_of HT_.out (by kernel_rfl)) (by decide) (fun K hK => ?_)
      refine goes_ Try.func31 (by kernel_rfl) rfl #[.slice A62 y350.length c62,.slice Ao10 y354.length co10] (by rfl) rfl rfl (by (try simp only [List.map_toArray,List.map_cons,List.map_nil]);first | done | rfl | (simp only [List.length_drop,List.length_take];rfl)) ?_
      with_reducible refine (impl_RunJoin.calls kj7 _ _ y350 _ _ y354 t358 t359 _ ?side1 ?side2 ?side3 ?side4 A25.out).mono ?_
      (case side1 => repeat (first | exact (by repeat (first | (with_reducible exact HR353.out) | (with_reducible refine Kd.C_alloc ?_ _) | (with_reducible refine Kd.C_drewN ?_ _) | (with_reducible refine Kd.C_drew ?_) | exact HR353.out)) | (with_reducible refine Kd.C_alloc ?_ _) | (with_reducible refine Kd.C_drewN ?_ _) | (with_reducible refine Kd.C_drew ?_)))
      (case side2 => exact HC353.out)
      (case side3 => repeat (first | exact (by repeat (first | (with_reducible exact HR357.out) | (with_reducible refine Kd.C_alloc ?_ _) | (with_reducible refine Kd.C_drewN ?_ _) | (with_reducible refine Kd.C_drew ?_) | exact HR357.out)) | (with_reducible refine Kd.C_alloc ?_ _) | (with_reducible refine Kd.C_drewN ?_ _) | (with_reducible refine Kd.C_drew ?_)))
      (case side4 => exact HC357.out)
      rintro e w64 ⟨v360,rfl,ho0,hb⟩
      refine ⟨_,rfl,?_⟩
      have n0_:=Aside0.mk (Kd.R_elder' (by (with_reducible repeat (first | apply Kd.R_alloc | apply Kd.R_drewN | apply Kd.R_drew));exact HO_5.out) (Kd.R_base ho0) hb)
      have n1_:=Aside0.mk (Kd.R_lower (Kd.R_new' ho0 (Kd.R_lt (by (with_reducible repeat (first | apply Kd.R_alloc | apply Kd.R_drewN | apply Kd.R_drew));exact HO_5.out))) (below_size (by repeat (first | (with_reducible first | exact HB.out | apply below_alloc | apply pw_below_drewN | apply below_drew1) | exact HB.out))))
      have n2_:=Aside0.mk (Kd.C_below (by repeat (first | (with_reducible exact HR353.out) | (with_reducible refine Kd.C_alloc ?_ _) | (with_reducible refine Kd.C_drewN ?_ _) | (with_reducible refine Kd.C_drew ?_) | exact HR353.out)) hb)
      have n3_:=Aside0.mk (Kd.C_below (by repeat (first | (with_reducible exact HR357.out) | (with_reducible refine Kd.C_alloc ?_ _) | (with_reducible refine Kd.C_drewN ?_ _) | (with_reducible refine Kd.C_drew ?_) | exact HR357.out)) hb)
      have n4_:=Aside0.mk (below_step (by repeat (first | (with_reducible first | exact HB.out | apply below_alloc | apply pw_below_drewN | apply below_drew1) | exact HB.out)) hb)
      clear HO_5
      clear HR353
      clear HR357
      clear HB
      have HO_5:=n0_
      have HO361:=n1_
      have HR353:=n2_
      have HR357:=n3_
      have HB:=n4_
      clear n0_ n1_ n2_ n3_ n4_
      (try clear hb)
      (try clear hb2)
      (try clear hk)
      (try clear hi)
      (try clear ho0)
      refine hK.out _ _ trivial (fun hHeld => ?_)
      clear hK K
      refine norm_ (a':=?_) ?_ ?_
      rotate_left
      ·show Act.put _ (some 47) _ = _
       simp only [Act.put,List.setIfInBounds_toArray,List.set_cons_zero,List.set_cons_succ,i64_w,i32_w]
       rfl
      refine pure_ (i:=7) (N:=some 40) (v:=?_) (a':=?_) #[true,true,true,true,true,true,true,true,false,false,false,false] rfl rfl (any_of HT_.out (by kernel_rfl)) (fun _ _ _ h => h) (Or.inl ⟨by rfl,?_⟩) ?_ ?_
      rotate_left
      ·intro w'
       go_simp
       with_reducible rfl
      rotate_left
      ·simp only [Act.put,List.setIfInBounds_toArray,List.set_cons_zero,List.set_cons_succ,i64_w,i32_w]
       rfl
      refine pure_ (i:=8) (N:=some 48) (v:=?_) (a':=?_) #[true,true,true,true,true,true,true,true,true,false,false,false] rfl rfl (any_of HT_.out (by kernel_rfl)) (fun _ _ _ h => h) (Or.inl ⟨by rfl,?_⟩) ?_ ?_
      rotate_left
      ·intro w'
       go_simp
       with_reducible rfl
      rotate_left
      ·simp only [Act.put,List.setIfInBounds_toArray,List.set_cons_zero,List.set_cons_succ,i64_w,i32_w]
       rfl
      refine pure_ (i:=9) (N:=some 49) (v:=?_) (a':=?_) #[true,true,true,true,true,true,true,true,true,true,false,false] rfl rfl (any_of HT_.out (by kernel_rfl)) (fun _ _ _ h => h) (Or.inl ⟨by rfl,?_⟩) ?_ ?_
      rotate_left
      ·intro w'
       go_simp
       with_reducible rfl
      rotate_left
      ·simp only [Act.put,List.setIfInBounds_toArray,List.set_cons_zero,List.set_cons_succ,i64_w,i32_w]
       rfl
      refine pure_ (i:=10) (N:=some 8) (v:=?_) (a':=?_) #[true,true,true,true,true,true,true,true,true,true,true,false] rfl rfl (any_of HT_.out (by kernel_rfl)) (fun _ _ _ h => h) (Or.inl ⟨by rfl,?_⟩) ?_ ?_
      rotate_left
      ·intro w'
       go_simp
       with_reducible rfl
      rotate_left
      ·simp only [Act.put,List.setIfInBounds_toArray,List.set_cons_zero,List.set_cons_succ,i64_w,i32_w]
       rfl
      refine pure_ (i:=11) (N:=some 9) (v:=?_) (a':=?_) #[true,true,true,true,true,true,true,true,true,true,true,true] rfl rfl (any_of HT_.out (by kernel_rfl)) (fun _ _ _ h => h) (Or.inl ⟨by rfl,?_⟩) ?_ ?_
      rotate_left
      ·intro w'
       go_simp
       with_reducible rfl
      rotate_left
      ·simp only [Act.put,List.setIfInBounds_toArray,List.set_cons_zero,List.set_cons_succ,i64_w,i32_w]
       rfl
      refine done_ (done_of HT_.out (by kernel_rfl)) ?_
      have q65 : ((ji20) : Int) ≤ ((t344.length : Int) : Int):=of_decide_eq_true (by first | (with_reducible assumption) | assumption)
      obtain ⟨i065,hi065,_,hsz65,_⟩:=info_parts info27
      have hroom65 : t344.length ≤ co10:=(Kd.R_reads' HO_5.out).2.1
      have hC65 : Kd.C k27 _ Ao10 t344.length t344:=(Kd.R_reads' HO_5.out).2.2
      have hcut65:=cut_to (P:=Try.prog) 23 27 .i64 Try.underlying23 hi065 Ao10 t344.length co10 (ji20) (of_decide_eq_true (by first | (with_reducible assumption) | assumption)) q65 hroom65
      have hr65:=Kd.C_take (m:=((ji20) : Int).toNat) hC65 (by omega)
      have hy65 : y354.length = ((ji20) : Int).toNat:=(by rw [Ny354.out,List.length_take];omega)
      rw [← Ny354.out] at hr65
      rw [← hy65] at hcut65
      have HR365:=Aside0.mk hr65
      have HC365:=Aside0.mk (show y354.length ≤ co10 from by omega)
      clear hr65 hC65 hroom65 hi065 hsz65
      have KY65:=Aside0.mk hy65
      clear hy65
      have KL65:=Aside0.mk (show ((ji20) : Int).toNat ≤ t344.length from by omega)
      replace q65:=eq_true q65
      try go_wp2_with (first | ((with_reducible refine gate_callee (f:=28) rfl ?_);refine goesL_ (some 53) rfl rfl Try.func28 (by kernel_rfl) rfl #[.slice Ao10 y354.length co10] rfl (by (try simp only [List.map_toArray,List.map_cons,List.map_nil]);first | done | rfl | (simp only [List.length_drop,List.length_take];rfl)) ?_;(with_reducible refine (impl_RunOk.calls kj7 _ _ y354 false _ ?side1 ?side2 A28.out).mono ?_);(case side1 => repeat (first | exact (by repeat (first | (with_reducible exact HR365.out) | (with_reducible refine Kd.C_alloc ?_ _) | (with_reducible refine Kd.C_drewN ?_ _) | (with_reducible refine Kd.C_drew ?_) | exact HR365.out)) | (with_reducible refine Kd.C_alloc ?_ _) | (with_reducible refine Kd.C_drewN ?_ _) | (with_reducible refine Kd.C_drew ?_)));(case side2 => exact HC365.out);rintro e w66 ⟨rfl,hb⟩;refine ⟨_,rfl,?_⟩;have n0_:=Aside0.mk (Kd.R_below (by (with_reducible repeat (first | apply Kd.R_alloc | apply Kd.R_drewN | apply Kd.R_drew));exact HO_5.out) hb);have n1_:=Aside0.mk (Kd.R_below (by (with_reducible repeat (first | apply Kd.R_alloc | apply Kd.R_drewN | apply Kd.R_drew));exact HO361.out) hb);have n2_:=Aside0.mk (Kd.C_below (by repeat (first | (with_reducible exact HR353.out) | (with_reducible refine Kd.C_alloc ?_ _) | (with_reducible refine Kd.C_drewN ?_ _) | (with_reducible refine Kd.C_drew ?_) | exact HR353.out)) hb);have n3_:=Aside0.mk (Kd.C_below (by repeat (first | (with_reducible exact HR357.out) | (with_reducible refine Kd.C_alloc ?_ _) | (with_reducible refine Kd.C_drewN ?_ _) | (with_reducible refine Kd.C_drew ?_) | exact HR357.out)) hb);have n4_:=Aside0.mk (Kd.C_below (by repeat (first | (with_reducible exact HR365.out) | (with_reducible refine Kd.C_alloc ?_ _) | (with_reducible refine Kd.C_drewN ?_ _) | (with_reducible refine Kd.C_drew ?_) | exact HR365.out)) hb);have n5_:=Aside0.mk (below_step (by repeat (first | (with_reducible first | exact HB.out | apply below_alloc | apply pw_below_drewN | apply below_drew1) | exact HB.out)) hb);clear HO_5;clear HO361;clear HR353;clear HR357;clear HR365;clear HB;have HO_5:=n0_;have HO361:=n1_;have HR353:=n2_;have HR357:=n3_;have HR365:=n4_;have HB:=n5_;clear n0_ n1_ n2_ n3_ n4_ n5_;(try clear hb);(try clear hb2);(try clear hk);(try clear hi)))
      go_ret
      exact ⟨by first | rfl | (simp [errW_none,errW_some] <;> rfl) | (simp only [← hji20];first | rfl | (simp [errW_none,errW_some] <;> rfl)) | (simp [*,errW_none,errW_some] <;> rfl),by repeat (first | (with_reducible first | exact HB.out | apply below_alloc | apply pw_below_drewN | apply below_drew1) | exact HB.out)⟩
     subst c29
     have H1 : ((impl_RunOk.f kj7 (t344.drop ((ji20) : Int).toNat)).bind fun t371 => (if t371 = true then (if t359 = true then ((laws_ltRuns.f kj7 t358 t344).bind fun t372 => (some t372)) else (some false)) else (some false))) = some r:=by rw [if_pos rfl] at H;exact H
     clear H
     have H:=H1
     clear H1
     have c30b0:=eq_true (of_decide_eq_true (by first | (with_reducible assumption) | assumption) : 0 ≤ (ji20))
     have c31b0:=eq_true (of_decide_eq_true (by first | (with_reducible assumption) | assumption) : (ji20) ≤ (t344.length : Int))
     have hy350:=Ny350.out
     replace H : ((impl_RunOk.f kj7 y350).bind fun t371 => (if t371 = true then (if t359 = true then ((laws_ltRuns.f kj7 t358 t344).bind fun t372 => (some t372)) else (some false)) else (some false))) = some r:=by first | (rw [hy350];with_reducible exact H) | (have H2_:=(Option.bind_some _ _).symm.trans H;rw [hy350];with_reducible exact H2_) | (have H2_:=(Option.bind_some _ _).symm.trans H;with_reducible exact H2_) | with_reducible exact H | (rw [hy350];exact H) | exact H
     clear hy350
     replace H:=Option.bind_eq_some_iff.mp H
     obtain ⟨t371,A320,H⟩:=H
     replace H : (if t371 = true then (if t359 = true then ((laws_ltRuns.f kj7 t358 t344).bind fun t372 => (some t372)) else (some false)) else (some false)) = some r:=H
     have A32:=Aside0.mk A320
     clear A320
     by_cases c33 : t371 = true
     rotate_left
     ·replace c33:=Bool.eq_false_iff.mpr c33
      subst c33
      have H1 : (some false) = some r:=by rw [if_neg (show ¬ (false = true) by decide)] at H;exact H
      clear H
      have H:=H1
      clear H1
      obtain rfl:=Option.some.inj H
      try go_wp2
      have n0_:=Aside0.mk (Kd.R_drew HO_5.out)
      have n1_:=Aside0.mk (below_drew1 HB.out)
      clear HO_5
      clear HB
      have HO_5:=n0_
      have HB:=n1_
      clear n0_ n1_
      have q54 : ((ji20) : Int) ≤ ((t344.length : Int) : Int):=of_decide_eq_true (by first | (with_reducible assumption) | assumption)
      obtain ⟨i054,hi054,_,hsz54,_⟩:=info_parts info27
      have hroom54 : t344.length ≤ co10:=(Kd.R_reads' HO_5.out).2.1
      have hC54 : Kd.C k27 _ Ao10 t344.length t344:=(Kd.R_reads' HO_5.out).2.2
      have q054 : (0 : Int) ≤ ((ji20) : Int):=of_decide_eq_true (by first | (with_reducible assumption) | assumption)
      have hcut54:=cut_from (P:=Try.prog) 23 27 .i64 Try.underlying23 hi054 4 hsz54 Ao10 t344.length co10 (ji20) q054 q54
      have hr54:=Kd.C_drop (m:=((ji20) : Int).toNat) (c:=co10) hC54 (by omega) hroom54
      obtain ⟨A54,hA54⟩ : ∃ A1,A1 = (if co10 = ((ji20) : Int).toNat then Ao10 else (Ao10 : Option Addr).map (·.add (((ji20) : Int).toNat * 4))):=⟨_,rfl⟩
      obtain ⟨c54,hc54⟩ : ∃ c1,c1 = co10 - ((ji20) : Int).toNat:=⟨_,rfl⟩
      have hy54 : y350.length = t344.length - ((ji20) : Int).toNat:=(by rw [Ny350.out,List.length_drop] <;> omega)
      rw [show (t344).drop ((ji20) : Int).toNat = y350 from Ny350.out.symm] at hr54
      replace hr54 : Kd.C k27 _ A54 y350.length y350:=(by rw [hA54];exact hr54)
      rw [← hy54,← hA54,← hc54] at hcut54
      have HR353:=Aside0.mk hr54
      have HC353:=Aside0.mk (show y350.length ≤ c54 from by rw [hy54,hc54];exact Nat.sub_le_sub_right hroom54 _)
      clear hr54 hC54 hroom54 hi054 hsz54 hc54
      have KY54:=Aside0.mk hy54
      have KA54:=Aside0.mk hA54
      clear hy54 hA54
      have KL54:=Aside0.mk (show ((ji20) : Int).toNat ≤ t344.length from by omega)
      replace q54:=eq_true q54
      have q55 : ((ji20) : Int) ≤ ((t344.length : Int) : Int):=of_decide_eq_true (by first | (with_reducible assumption) | assumption)
      obtain ⟨i055,hi055,_,hsz55,_⟩:=info_parts info27
      have hroom55 : t344.length ≤ co10:=(Kd.R_reads' HO_5.out).2.1
      have hC55 : Kd.C k27 _ Ao10 t344.length t344:=(Kd.R_reads' HO_5.out).2.2
      have hcut55:=cut_to (P:=Try.prog) 23 27 .i64 Try.underlying23 hi055 Ao10 t344.length co10 (ji20) (of_decide_eq_true (by first | (with_reducible assumption) | assumption)) q55 hroom55
      have hr55:=Kd.C_take (m:=((ji20) : Int).toNat) hC55 (by omega)
      have hy55 : y354.length = ((ji20) : Int).toNat:=(by rw [Ny354.out,List.length_take];omega)
      rw [← Ny354.out] at hr55
      rw [← hy55] at hcut55
      have HR357:=Aside0.mk hr55
      have HC357:=Aside0.mk (show y354.length ≤ co10 from by omega)
      clear hr55 hC55 hroom55 hi055 hsz55
      have KY55:=Aside0.mk hy55
      clear hy55
      have KL55:=Aside0.mk (show ((ji20) : Int).toNat ≤ t344.length from by omega)
      replace q55:=eq_true q55
      refine start_ (n:=12) (S:=fun w' => True) (ds:=[]) #[false,false,false,false,false,false,false,false,false,false,false,false] (by kernel_rfl) rfl rfl trivial (fun hHeld => ?_);refine with_tabW laws_FnRunOk.tab8 laws_FnRunOk.bits8 (fun HT_ HW_ => ?_)
      generalize wc.drew = w53 at HO_5 HB HR353 HR357 hHeld ⊢
      refine pure_ (i:=0) (N:=some 41) (v:=?_) (a':=?_) #[true,false,false,false,false,false,false,false,false,false,false,false] rfl rfl (any_of HT_.out (by kernel_rfl)) (fun _ _ _ h => h) (Or.inl ⟨by rfl,?_⟩) ?_ ?_
      rotate_left
      ·intro w'
       go_simp
       with_reducible rfl
      rotate_left
      ·simp only [Act.put,List.setIfInBounds_toArray,List.set_cons_zero,List.set_cons_succ,i64_w,i32_w]
       rfl
      refine pure_ (i:=1) (N:=some 42) (v:=?_) (a':=?_) #[true,true,false,false,false,false,false,false,false,false,false,false] rfl rfl (any_of HT_.out (by kernel_rfl)) (fun _ _ _ h => h) (Or.inl ⟨by rfl,?_⟩) ?_ ?_
      rotate_left
      ·intro w'
       go_simp
       with_reducible rfl
      rotate_left
      ·simp only [Act.put,List.setIfInBounds_toArray,List.set_cons_zero,List.set_cons_succ,i64_w,i32_w]
       rfl
      refine pure_ (i:=2) (N:=some 43) (v:=?_) (a':=?_) #[true,true,true,false,false,false,false,false,false,false,false,false] rfl rfl (any_of HT_.out (by kernel_rfl)) (fun _ _ _ h => h) (Or.inl ⟨by rfl,?_⟩) ?_ ?_
      rotate_left
      ·intro w'
       go_simp
       with_reducible rfl
      rotate_left
      ·simp only [Act.put,List.setIfInBounds_toArray,List.set_cons_zero,List.set_cons_succ,i64_w,i32_w]
       rfl
      refine pure_ (i:=3) (N:=some 44) (v:=?_) (a':=?_) #[true,true,true,true,false,false,false,false,false,false,false,false] rfl rfl (any_of HT_.out (by kernel_rfl)) (fun _ _ _ h => h) (Or.inl ⟨by rfl,?_⟩) ?_ ?_
      rotate_left
      ·intro w'
       go_simp
       with_reducible rfl
      rotate_left
      ·simp only [Act.put,List.setIfInBounds_toArray,List.set_cons_zero,List.set_cons_succ,i64_w,i32_w]
       rfl
      refine pure_ (i:=4) (N:=some 45) (v:=?_) (a':=?_) #[true,true,true,true,true,false,false,false,false,false,false,false] rfl rfl (any_of HT_.out (by kernel_rfl)) (fun _ _ _ h => h) (Or.inl ⟨by rfl,?_⟩) ?_ ?_
      rotate_left
      ·intro w'
       go_simp
       with_reducible rfl
      rotate_left
      ·simp only [Act.put,List.setIfInBounds_toArray,List.set_cons_zero,List.set_cons_succ,i64_w,i32_w]
       rfl
      refine pure_ (i:=5) (N:=some 46) (v:=?_) (a':=?_) #[true,true,true,true,true,true,false,false,false,false,false,false] rfl rfl (any_of HT_.out (by kernel_rfl)) (fun _ _ _ h => h) (Or.inl ⟨by rfl,?_⟩) ?_ ?_
      rotate_left
      ·intro w'
       go_simp
       with_reducible rfl
      rotate_left
      ·simp only [Act.put,List.setIfInBounds_toArray,List.set_cons_zero,List.set_cons_succ,i64_w,i32_w]
       rfl
      refine one_ (i:=6) (N:=some 47) #[true,true,true,true,true,true,true,false,false,false,false,false] rfl rfl (one_of HT_.out (by kernel_rfl)) (by decide) (fun K hK => ?_)
      refine goes_ Try.func31 (by kernel_rfl) rfl #[.slice A54 y350.length c54,.slice Ao10 y354.length co10] (by rfl) rfl rfl (by (try simp only [List.map_toArray,List.map_cons,List.map_nil]);first | done | rfl | (simp only [List.length_drop,List.length_take];rfl)) ?_
      with_reducible refine (impl_RunJoin.calls kj7 _ _ y350 _ _ y354 t358 t359 _ ?side1 ?side2 ?side3 ?side4 A25.out).mono ?_
      (case side1 => repeat (first | exact (by repeat (first | (with_reducible exact HR353.out) | (with_reducible refine Kd.C_alloc ?_ _) | (with_reducible refine Kd.C_drewN ?_ _) | (with_reducible refine Kd.C_drew ?_) | exact HR353.out)) | (with_reducible refine Kd.C_alloc ?_ _) | (with_reducible refine Kd.C_drewN ?_ _) | (with_reducible refine Kd.C_drew ?_)))
      (case side2 => exact HC353.out)
      (case side3 => repeat (first | exact (by repeat (first | (with_reducible exact HR357.out) | (with_reducible refine Kd.C_alloc ?_ _) | (with_reducible refine Kd.C_drewN ?_ _) | (with_reducible refine Kd.C_drew ?_) | exact HR357.out)) | (with_reducible refine Kd.C_alloc ?_ _) | (with_reducible refine Kd.C_drewN ?_ _) | (with_reducible refine Kd.C_drew ?_)))
      (case side4 => exact HC357.out)
      rintro e w56 ⟨v360,rfl,ho0,hb⟩
      refine ⟨_,rfl,?_⟩
      have n0_:=Aside0.mk (Kd.R_elder' (by (with_reducible repeat (first | apply Kd.R_alloc | apply Kd.R_drewN | apply Kd.R_drew));exact HO_5.out) (Kd.R_base ho0) hb)
      have n1_:=Aside0.mk (Kd.R_lower (Kd.R_new' ho0 (Kd.R_lt (by (with_reducible repeat (first | apply Kd.R_alloc | apply Kd.R_drewN | apply Kd.R_drew));exact HO_5.out))) (below_size (by repeat (first | (with_reducible first | exact HB.out | apply below_alloc | apply pw_below_drewN | apply below_drew1) | exact HB.out))))
      have n2_:=Aside0.mk (Kd.C_below (by repeat (first | (with_reducible exact HR353.out) | (with_reducible refine Kd.C_alloc ?_ _) | (with_reducible refine Kd.C_drewN ?_ _) | (with_reducible refine Kd.C_drew ?_) | exact HR353.out)) hb)
      have n3_:=Aside0.mk (Kd.C_below (by repeat (first | (with_reducible exact HR357.out) | (with_reducible refine Kd.C_alloc ?_ _) | (with_reducible refine Kd.C_drewN ?_ _) | (with_reducible refine Kd.C_drew ?_) | exact HR357.out)) hb)
      have n4_:=Aside0.mk (below_step (by repeat (first | (with_reducible first | exact HB.out | apply below_alloc | apply pw_below_drewN | apply below_drew1) | exact HB.out)) hb)
      clear HO_5
      clear HR353
      clear HR357
      clear HB
      have HO_5:=n0_
      have HO361:=n1_
      have HR353:=n2_
      have HR357:=n3_
      have HB:=n4_
      clear n0_ n1_ n2_ n3_ n4_
      (try clear hb)
      (try clear hb2)
      (try clear hk)
      (try clear hi)
      (try clear ho0)
      refine hK.out _ _ trivial (fun hHeld => ?_)
      clear hK K
      refine norm_ (a':=?_) ?_ ?_
      rotate_left
      ·show Act.put _ (some 47) _ = _
       simp only [Act.put,List.setIfInBounds_toArray,List.set_cons_zero,List.set_cons_succ,i64_w,i32_w]
       rfl
      refine pure_ (i:=7) (N:=some 40) (v:=?_) (a':=?_) #[true,true,true,true,true,true,true,true,false,false,false,false] rfl rfl (any_of HT_.out (by kernel_rfl)) (fun _ _ _ h => h) (Or.inl ⟨by rfl,?_⟩) ?_ ?_
      rotate_left
      ·intro w'
       go_simp
       with_reducible rfl
      rotate_left
      ·simp only [Act.put,List.setIfInBounds_toArray,List.set_cons_zero,List.set_cons_succ,i64_w,i32_w]
       rfl
      refine pure_ (i:=8) (N:=some 48) (v:=?_) (a':=?_) #[true,true,true,true,true,true,true,true,true,false,false,false] rfl rfl (any_of HT_.out (by kernel_rfl)) (fun _ _ _ h => h) (Or.inl ⟨by rfl,?_⟩) ?_ ?_
      rotate_left
      ·intro w'
       go_simp
       with_reducible rfl
      rotate_left
      ·simp only [Act.put,List.setIfInBounds_toArray,List.set_cons_zero,List.set_cons_succ,i64_w,i32_w]
       rfl
      refine pure_ (i:=9) (N:=some 49) (v:=?_) (a':=?_) #[true,true,true,true,true,true,true,true,true,true,false,false] rfl rfl (any_of HT_.out (by kernel_rfl)) (fun _ _ _ h => h) (Or.inl ⟨by rfl,?_⟩) ?_ ?_
      rotate_left
      ·intro w'
       go_simp
       with_reducible rfl
      rotate_left
      ·simp only [Act.put,List.setIfInBounds_toArray,List.set_cons_zero,List.set_cons_succ,i64_w,i32_w]
       rfl
      refine pure_ (i:=10) (N:=some 8) (v:=?_) (a':=?_) #[true,true,true,true,true,true,true,true,true,true,true,false] rfl rfl (any_of HT_.out (by kernel_rfl)) (fun _ _ _ h => h) (Or.inl ⟨by rfl,?_⟩) ?_ ?_
      rotate_left
      ·intro w'
       go_simp
       with_reducible rfl
      rotate_left
      ·simp only [Act.put,List.setIfInBounds_toArray,List.set_cons_zero,List.set_cons_succ,i64_w,i32_w]
       rfl
      refine pure_ (i:=11) (N:=some 9) (v:=?_) (a':=?_) #[true,true,true,true,true,true,true,true,true,true,true,true] rfl rfl (any_of HT_.out (by kernel_rfl)) (fun _ _ _ h => h) (Or.inl ⟨by rfl,?_⟩) ?_ ?_
      rotate_left
      ·intro w'
       go_simp
       with_reducible rfl
      rotate_left
      ·simp only [Act.put,List.setIfInBounds_toArray,List.set_cons_zero,List.set_cons_succ,i64_w,i32_w]
       rfl
      refine done_ (done_of HT_.out (by kernel_rfl)) ?_
      have q57 : ((ji20) : Int) ≤ ((t344.length : Int) : Int):=of_decide_eq_true (by first | (with_reducible assumption) | assumption)
      obtain ⟨i057,hi057,_,hsz57,_⟩:=info_parts info27
      have hroom57 : t344.length ≤ co10:=(Kd.R_reads' HO_5.out).2.1
      have hC57 : Kd.C k27 _ Ao10 t344.length t344:=(Kd.R_reads' HO_5.out).2.2
      have hcut57:=cut_to (P:=Try.prog) 23 27 .i64 Try.underlying23 hi057 Ao10 t344.length co10 (ji20) (of_decide_eq_true (by first | (with_reducible assumption) | assumption)) q57 hroom57
      have hr57:=Kd.C_take (m:=((ji20) : Int).toNat) hC57 (by omega)
      have hy57 : y354.length = ((ji20) : Int).toNat:=(by rw [Ny354.out,List.length_take];omega)
      rw [← Ny354.out] at hr57
      rw [← hy57] at hcut57
      have HR365:=Aside0.mk hr57
      have HC365:=Aside0.mk (show y354.length ≤ co10 from by omega)
      clear hr57 hC57 hroom57 hi057 hsz57
      have KY57:=Aside0.mk hy57
      clear hy57
      have KL57:=Aside0.mk (show ((ji20) : Int).toNat ≤ t344.length from by omega)
      replace q57:=eq_true q57
      try go_wp2_with (first | ((with_reducible refine gate_callee (f:=28) rfl ?_);refine goesL_ (some 53) rfl rfl Try.func28 (by kernel_rfl) rfl #[.slice Ao10 y354.length co10] rfl (by (try simp only [List.map_toArray,List.map_cons,List.map_nil]);first | done | rfl | (simp only [List.length_drop,List.length_take];rfl)) ?_;(with_reducible refine (impl_RunOk.calls kj7 _ _ y354 true _ ?side1 ?side2 A28.out).mono ?_);(case side1 => repeat (first | exact (by repeat (first | (with_reducible exact HR365.out) | (with_reducible refine Kd.C_alloc ?_ _) | (with_reducible refine Kd.C_drewN ?_ _) | (with_reducible refine Kd.C_drew ?_) | exact HR365.out)) | (with_reducible refine Kd.C_alloc ?_ _) | (with_reducible refine Kd.C_drewN ?_ _) | (with_reducible refine Kd.C_drew ?_)));(case side2 => exact HC365.out);rintro e w58 ⟨rfl,hb⟩;refine ⟨_,rfl,?_⟩;have n0_:=Aside0.mk (Kd.R_below (by (with_reducible repeat (first | apply Kd.R_alloc | apply Kd.R_drewN | apply Kd.R_drew));exact HO_5.out) hb);have n1_:=Aside0.mk (Kd.R_below (by (with_reducible repeat (first | apply Kd.R_alloc | apply Kd.R_drewN | apply Kd.R_drew));exact HO361.out) hb);have n2_:=Aside0.mk (Kd.C_below (by repeat (first | (with_reducible exact HR353.out) | (with_reducible refine Kd.C_alloc ?_ _) | (with_reducible refine Kd.C_drewN ?_ _) | (with_reducible refine Kd.C_drew ?_) | exact HR353.out)) hb);have n3_:=Aside0.mk (Kd.C_below (by repeat (first | (with_reducible exact HR357.out) | (with_reducible refine Kd.C_alloc ?_ _) | (with_reducible refine Kd.C_drewN ?_ _) | (with_reducible refine Kd.C_drew ?_) | exact HR357.out)) hb);have n4_:=Aside0.mk (Kd.C_below (by repeat (first | (with_reducible exact HR365.out) | (with_reducible refine Kd.C_alloc ?_ _) | (with_reducible refine Kd.C_drewN ?_ _) | (with_reducible refine Kd.C_drew ?_) | exact HR365.out)) hb);have n5_:=Aside0.mk (below_step (by repeat (first | (with_reducible first | exact HB.out | apply below_alloc | apply pw_below_drewN | apply below_drew1) | exact HB.out)) hb);clear HO_5;clear HO361;clear HR353;clear HR357;clear HR365;clear HB;have HO_5:=n0_;have HO361:=n1_;have HR353:=n2_;have HR357:=n3_;have HR365:=n4_;have HB:=n5_;clear n0_ n1_ n2_ n3_ n4_ n5_;(try clear hb);(try clear hb2);(try clear hk);(try clear hi);have q59 : ((ji20) : Int) ≤ ((t344.length : Int) : Int):=of_decide_eq_true (by first | (with_reducible assumption) | assumption);obtain ⟨i059,hi059,_,hsz59,_⟩:=info_parts info27;have hroom59 : t344.length ≤ co10:=(Kd.R_reads' HO_5.out).2.1;have hC59 : Kd.C k27 _ Ao10 t344.length t344:=(Kd.R_reads' HO_5.out).2.2;have q059 : (0 : Int) ≤ ((ji20) : Int):=of_decide_eq_true (by first | (with_reducible assumption) | assumption);(try clear hcut54);have hcut59:=cut_from (P:=Try.prog) 23 27 .i64 Try.underlying23 hi059 4 hsz59 Ao10 t344.length co10 (ji20) q059 q59;have hr59:=Kd.C_drop (m:=((ji20) : Int).toNat) (c:=co10) hC59 (by omega) hroom59;obtain ⟨A59,hA59⟩ : ∃ A1,A1 = (if co10 = ((ji20) : Int).toNat then Ao10 else (Ao10 : Option Addr).map (·.add (((ji20) : Int).toNat * 4))):=⟨_,rfl⟩;obtain ⟨c59,hc59⟩ : ∃ c1,c1 = co10 - ((ji20) : Int).toNat:=⟨_,rfl⟩;have hy59 : y350.length = t344.length - ((ji20) : Int).toNat:=(by rw [Ny350.out,List.length_drop] <;> omega);rw [show (t344).drop ((ji20) : Int).toNat = y350 from Ny350.out.symm] at hr59;replace hr59 : Kd.C k27 _ A59 y350.length y350:=(by rw [hA59];exact hr59);rw [← hy59,← hA59,← hc59] at hcut59;have HR370:=Aside0.mk hr59;have HC370:=Aside0.mk (show y350.length ≤ c59 from by rw [hy59,hc59];exact Nat.sub_le_sub_right hroom59 _);clear hr59 hC59 hroom59 hi059 hsz59 hc59;have KY59:=Aside0.mk hy59;have KA59:=Aside0.mk hA59;clear hy59 hA59;have KL59:=Aside0.mk (show ((ji20) : Int).toNat ≤ t344.length from by omega);replace q59:=eq_true q59) | (go_at_call 28;(with_reducible refine (impl_RunOk.calls kj7 _ _ y350 false _ ?side1 ?side2 A32.out).mono ?_);(case side1 => repeat (first | exact (by repeat (first | (with_reducible exact HR370.out) | (with_reducible refine Kd.C_alloc ?_ _) | (with_reducible refine Kd.C_drewN ?_ _) | (with_reducible refine Kd.C_drew ?_) | exact HR370.out)) | (with_reducible refine Kd.C_alloc ?_ _) | (with_reducible refine Kd.C_drewN ?_ _) | (with_reducible refine Kd.C_drew ?_)));(case side2 => exact HC370.out);rintro e w60 ⟨rfl,hb⟩;have n0_:=Aside0.mk (Kd.R_below (by (with_reducible repeat (first | apply Kd.R_alloc | apply Kd.R_drewN | apply Kd.R_drew));exact HO_5.out) hb);have n1_:=Aside0.mk (Kd.R_below (by (with_reducible repeat (first | apply Kd.R_alloc | apply Kd.R_drewN | apply Kd.R_drew));exact HO361.out) hb);have n2_:=Aside0.mk (Kd.C_below (by repeat (first | (with_reducible exact HR353.out) | (with_reducible refine Kd.C_alloc ?_ _) | (with_reducible refine Kd.C_drewN ?_ _) | (with_reducible refine Kd.C_drew ?_) | exact HR353.out)) hb);have n3_:=Aside0.mk (Kd.C_below (by repeat (first | (with_reducible exact HR357.out) | (with_reducible refine Kd.C_alloc ?_ _) | (with_reducible refine Kd.C_drewN ?_ _) | (with_reducible refine Kd.C_drew ?_) | exact HR357.out)) hb);have n4_:=Aside0.mk (Kd.C_below (by repeat (first | (with_reducible exact HR365.out) | (with_reducible refine Kd.C_alloc ?_ _) | (with_reducible refine Kd.C_drewN ?_ _) | (with_reducible refine Kd.C_drew ?_) | exact HR365.out)) hb);have n5_:=Aside0.mk (Kd.C_below (by repeat (first | (with_reducible exact HR370.out) | (with_reducible refine Kd.C_alloc ?_ _) | (with_reducible refine Kd.C_drewN ?_ _) | (with_reducible refine Kd.C_drew ?_) | exact HR370.out)) hb);have n6_:=Aside0.mk (below_step (by repeat (first | (with_reducible first | exact HB.out | apply below_alloc | apply pw_below_drewN | apply below_drew1) | exact HB.out)) hb);clear HO_5;clear HO361;clear HR353;clear HR357;clear HR365;clear HR370;clear HB;have HO_5:=n0_;have HO361:=n1_;have HR353:=n2_;have HR357:=n3_;have HR365:=n4_;have HR370:=n5_;have HB:=n6_;clear n0_ n1_ n2_ n3_ n4_ n5_ n6_;(try clear hb);(try clear hb2);(try clear hk);(try clear hi)))
      go_ret
      exact ⟨by first | rfl | (simp [errW_none,errW_some] <;> rfl) | (simp only [← hji20];first | rfl | (simp [errW_none,errW_some] <;> rfl)) | (simp [*,errW_none,errW_some] <;> rfl),by repeat (first | (with_reducible first | exact HB.out | apply below_alloc | apply pw_below_drewN | apply below_drew1) | exact HB.out)⟩
     subst c33
     have H1 : (if t359 = true then ((laws_ltRuns.f kj7 t358 t344).bind fun t372 => (some t372)) else (some false)) = some r:=by rw [if_pos rfl] at H;exact H
     clear H
     have H:=H1
     clear H1
     by_cases c34 : t359 = true
     rotate_left
     ·replace c34:=Bool.eq_false_iff.mpr c34
      subst c34
      have H1 : (some false) = some r:=by rw [if_neg (show ¬ (false = true) by decide)] at H;exact H
      clear H
      have H:=H1
      clear H1
      obtain rfl:=Option.some.inj H
      try go_wp2
      have n0_:=Aside0.mk (Kd.R_drew HO_5.out)
      have n1_:=Aside0.mk (below_drew1 HB.out)
      clear HO_5
      clear HB
      have HO_5:=n0_
      have HB:=n1_
      clear n0_ n1_
      have q46 : ((ji20) : Int) ≤ ((t344.length : Int) : Int):=of_decide_eq_true (by first | (with_reducible assumption) | assumption)
      obtain ⟨i046,hi046,_,hsz46,_⟩:=info_parts info27
      have hroom46 : t344.length ≤ co10:=(Kd.R_reads' HO_5.out).2.1
      have hC46 : Kd.C k27 _ Ao10 t344.length t344:=(Kd.R_reads' HO_5.out).2.2
      have q046 : (0 : Int) ≤ ((ji20) : Int):=of_decide_eq_true (by first | (with_reducible assumption) | assumption)
      have hcut46:=cut_from (P:=Try.prog) 23 27 .i64 Try.underlying23 hi046 4 hsz46 Ao10 t344.length co10 (ji20) q046 q46
      have hr46:=Kd.C_drop (m:=((ji20) : Int).toNat) (c:=co10) hC46 (by omega) hroom46
      obtain ⟨A46,hA46⟩ : ∃ A1,A1 = (if co10 = ((ji20) : Int).toNat then Ao10 else (Ao10 : Option Addr).map (·.add (((ji20) : Int).toNat * 4))):=⟨_,rfl⟩
      obtain ⟨c46,hc46⟩ : ∃ c1,c1 = co10 - ((ji20) : Int).toNat:=⟨_,rfl⟩
      have hy46 : y350.length = t344.length - ((ji20) : Int).toNat:=(by rw [Ny350.out,List.length_drop] <;> omega)
      rw [show (t344).drop ((ji20) : Int).toNat = y350 from Ny350.out.symm] at hr46
      replace hr46 : Kd.C k27 _ A46 y350.length y350:=(by rw [hA46];exact hr46)
      rw [← hy46,← hA46,← hc46] at hcut46
      have HR353:=Aside0.mk hr46
      have HC353:=Aside0.mk (show y350.length ≤ c46 from by rw [hy46,hc46];exact Nat.sub_le_sub_right hroom46 _)
      clear hr46 hC46 hroom46 hi046 hsz46 hc46
      have KY46:=Aside0.mk hy46
      have KA46:=Aside0.mk hA46
      clear hy46 hA46
      have KL46:=Aside0.mk (show ((ji20) : Int).toNat ≤ t344.length from by omega)
      replace q46:=eq_true q46
      have q47 : ((ji20) : Int) ≤ ((t344.length : Int) : Int):=of_decide_eq_true (by first | (with_reducible assumption) | assumption)
      obtain ⟨i047,hi047,_,hsz47,_⟩:=info_parts info27
      have hroom47 : t344.length ≤ co10:=(Kd.R_reads' HO_5.out).2.1
      have hC47 : Kd.C k27 _ Ao10 t344.length t344:=(Kd.R_reads' HO_5.out).2.2
      have hcut47:=cut_to (P:=Try.prog) 23 27 .i64 Try.underlying23 hi047 Ao10 t344.length co10 (ji20) (of_decide_eq_true (by first | (with_reducible assumption) | assumption)) q47 hroom47
      have hr47:=Kd.C_take (m:=((ji20) : Int).toNat) hC47 (by omega)
      have hy47 : y354.length = ((ji20) : Int).toNat:=(by rw [Ny354.out,List.length_take];omega)
      rw [← Ny354.out] at hr47
      rw [← hy47] at hcut47
      have HR357:=Aside0.mk hr47
      have HC357:=Aside0.mk (show y354.length ≤ co10 from by omega)
      clear hr47 hC47 hroom47 hi047 hsz47
      have KY47:=Aside0.mk hy47
      clear hy47
      have KL47:=Aside0.mk (show ((ji20) : Int).toNat ≤ t344.length from by omega)
      replace q47:=eq_true q47
      refine start_ (n:=12) (S:=fun w' => True) (ds:=[]) #[false,false,false,false,false,false,false,false,false,false,false,false] (by kernel_rfl) rfl rfl trivial (fun hHeld => ?_);refine with_tabW laws_FnRunOk.tab8 laws_FnRunOk.bits8 (fun HT_ HW_ => ?_)
      generalize wc.drew = w45 at HO_5 HB HR353 HR357 hHeld ⊢
      refine pure_ (i:=0) (N:=some 41) (v:=?_) (a':=?_) #[true,false,false,false,false,false,false,false,false,false,false,false] rfl rfl (any_of HT_.out (by kernel_rfl)) (fun _ _ _ h => h) (Or.inl ⟨by rfl,?_⟩) ?_ ?_
      rotate_left
      ·intro w'
       go_simp
       with_reducible rfl
      rotate_left
      ·simp only [Act.put,List.setIfInBounds_toArray,List.set_cons_zero,List.set_cons_succ,i64_w,i32_w]
       rfl
      refine pure_ (i:=1) (N:=some 42) (v:=?_) (a':=?_) #[true,true,false,false,false,false,false,false,false,false,false,false] rfl rfl (any_of HT_.out (by kernel_rfl)) (fun _ _ _ h => h) (Or.inl ⟨by rfl,?_⟩) ?_ ?_
      rotate_left
      ·intro w'
       go_simp
       with_reducible rfl
      rotate_left
      ·simp only [Act.put,List.setIfInBounds_toArray,List.set_cons_zero,List.set_cons_succ,i64_w,i32_w]
       rfl
      refine pure_ (i:=2) (N:=some 43) (v:=?_) (a':=?_) #[true,true,true,false,false,false,false,false,false,false,false,false] rfl rfl (any_of HT_.out (by kernel_rfl)) (fun _ _ _ h => h) (Or.inl ⟨by rfl,?_⟩) ?_ ?_
      rotate_left
      ·intro w'
       go_simp
       with_reducible rfl
      rotate_left
      ·simp only [Act.put,List.setIfInBounds_toArray,List.set_cons_zero,List.set_cons_succ,i64_w,i32_w]
       rfl
      refine pure_ (i:=3) (N:=some 44) (v:=?_) (a':=?_) #[true,true,true,true,false,false,false,false,false,false,false,false] rfl rfl (any_of HT_.out (by kernel_rfl)) (fun _ _ _ h => h) (Or.inl ⟨by rfl,?_⟩) ?_ ?_
      rotate_left
      ·intro w'
       go_simp
       with_reducible rfl
      rotate_left
      ·simp only [Act.put,List.setIfInBounds_toArray,List.set_cons_zero,List.set_cons_succ,i64_w,i32_w]
       rfl
      refine pure_ (i:=4) (N:=some 45) (v:=?_) (a':=?_) #[true,true,true,true,true,false,false,false,false,false,false,false] rfl rfl (any_of HT_.out (by kernel_rfl)) (fun _ _ _ h => h) (Or.inl ⟨by rfl,?_⟩) ?_ ?_
      rotate_left
      ·intro w'
       go_simp
       with_reducible rfl
      rotate_left
      ·simp only [Act.put,List.setIfInBounds_toArray,List.set_cons_zero,List.set_cons_succ,i64_w,i32_w]
       rfl
      refine pure_ (i:=5) (N:=some 46) (v:=?_) (a':=?_) #[true,true,true,true,true,true,false,false,false,false,false,false] rfl rfl (any_of HT_.out (by kernel_rfl)) (fun _ _ _ h => h) (Or.inl ⟨by rfl,?_⟩) ?_ ?_
      rotate_left
      ·intro w'
       go_simp
       with_reducible rfl
      rotate_left
      ·simp only [Act.put,List.setIfInBounds_toArray,List.set_cons_zero,List.set_cons_succ,i64_w,i32_w]
       rfl
      refine one_ (i:=6) (N:=some 47) #[true,true,true,true,true,true,true,false,false,false,false,false] rfl rfl (one_of HT_.out (by kernel_rfl)) (by decide) (fun K hK => ?_)
      refine goes_ Try.func31 (by kernel_rfl) rfl #[.slice A46 y350.length c46,.slice Ao10 y354.length co10] (by rfl) rfl rfl (by (try simp only [List.map_toArray,List.map_cons,List.map_nil]);first | done | rfl | (simp only [List.length_drop,List.length_take];rfl)) ?_
      with_reducible refine (impl_RunJoin.calls kj7 _ _ y350 _ _ y354 t358 false _ ?side1 ?side2 ?side3 ?side4 A25.out).mono ?_
      (case side1 => repeat (first | exact (by repeat (first | (with_reducible exact HR353.out) | (with_reducible refine Kd.C_alloc ?_ _) | (with_reducible refine Kd.C_drewN ?_ _) | (with_reducible refine Kd.C_drew ?_) | exact HR353.out)) | (with_reducible refine Kd.C_alloc ?_ _) | (with_reducible refine Kd.C_drewN ?_ _) | (with_reducible refine Kd.C_drew ?_)))
      (case side2 => exact HC353.out)
      (case side3 => repeat (first | exact (by repeat (first | (with_reducible exact HR357.out) | (with_reducible refine Kd.C_alloc ?_ _) | (with_reducible refine Kd.C_drewN ?_ _) | (with_reducible refine Kd.C_drew ?_) | exact HR357.out)) | (with_reducible refine Kd.C_alloc ?_ _) | (with_reducible refine Kd.C_drewN ?_ _) | (with_reducible refine Kd.C_drew ?_)))
      (case side4 => exact HC357.out)
      rintro e w48 ⟨v360,rfl,ho0,hb⟩
      refine ⟨_,rfl,?_⟩
      have n0_:=Aside0.mk (Kd.R_elder' (by (with_reducible repeat (first | apply Kd.R_alloc | apply Kd.R_drewN | apply Kd.R_drew));exact HO_5.out) (Kd.R_base ho0) hb)
      have n1_:=Aside0.mk (Kd.R_lower (Kd.R_new' ho0 (Kd.R_lt (by (with_reducible repeat (first | apply Kd.R_alloc | apply Kd.R_drewN | apply Kd.R_drew));exact HO_5.out))) (below_size (by repeat (first | (with_reducible first | exact HB.out | apply below_alloc | apply pw_below_drewN | apply below_drew1) | exact HB.out))))
      have n2_:=Aside0.mk (Kd.C_below (by repeat (first | (with_reducible exact HR353.out) | (with_reducible refine Kd.C_alloc ?_ _) | (with_reducible refine Kd.C_drewN ?_ _) | (with_reducible refine Kd.C_drew ?_) | exact HR353.out)) hb)
      have n3_:=Aside0.mk (Kd.C_below (by repeat (first | (with_reducible exact HR357.out) | (with_reducible refine Kd.C_alloc ?_ _) | (with_reducible refine Kd.C_drewN ?_ _) | (with_reducible refine Kd.C_drew ?_) | exact HR357.out)) hb)
      have n4_:=Aside0.mk (below_step (by repeat (first | (with_reducible first | exact HB.out | apply below_alloc | apply pw_below_drewN | apply below_drew1) | exact HB.out)) hb)
      clear HO_5
      clear HR353
      clear HR357
      clear HB
      have HO_5:=n0_
      have HO361:=n1_
      have HR353:=n2_
      have HR357:=n3_
      have HB:=n4_
      clear n0_ n1_ n2_ n3_ n4_
      (try clear hb)
      (try clear hb2)
      (try clear hk)
      (try clear hi)
      (try clear ho0)
      refine hK.out _ _ trivial (fun hHeld => ?_)
      clear hK K
      refine norm_ (a':=?_) ?_ ?_
      rotate_left
      ·show Act.put _ (some 47) _ = _
       simp only [Act.put,List.setIfInBounds_toArray,List.set_cons_zero,List.set_cons_succ,i64_w,i32_w]
       rfl
      refine pure_ (i:=7) (N:=some 40) (v:=?_) (a':=?_) #[true,true,true,true,true,true,true,true,false,false,false,false] rfl rfl (any_of HT_.out (by kernel_rfl)) (fun _ _ _ h => h) (Or.inl ⟨by rfl,?_⟩) ?_ ?_
      rotate_left
      ·intro w'
       go_simp
       with_reducible rfl
      rotate_left
      ·simp only [Act.put,List.setIfInBounds_toArray,List.set_cons_zero,List.set_cons_succ,i64_w,i32_w]
       rfl
      refine pure_ (i:=8) (N:=some 48) (v:=?_) (a':=?_) #[true,true,true,true,true,true,true,true,true,false,false,false] rfl rfl (any_of HT_.out (by kernel_rfl)) (fun _ _ _ h => h) (Or.inl ⟨by rfl,?_⟩) ?_ ?_
      rotate_left
      ·intro w'
       go_simp
       with_reducible rfl
      rotate_left
      ·simp only [Act.put,List.setIfInBounds_toArray,List.set_cons_zero,List.set_cons_succ,i64_w,i32_w]
       rfl
      refine pure_ (i:=9) (N:=some 49) (v:=?_) (a':=?_) #[true,true,true,true,true,true,true,true,true,true,false,false] rfl rfl (any_of HT_.out (by kernel_rfl)) (fun _ _ _ h => h) (Or.inl ⟨by rfl,?_⟩) ?_ ?_
      rotate_left
      ·intro w'
       go_simp
       with_reducible rfl
      rotate_left
      ·simp only [Act.put,List.setIfInBounds_toArray,List.set_cons_zero,List.set_cons_succ,i64_w,i32_w]
       rfl
      refine pure_ (i:=10) (N:=some 8) (v:=?_) (a':=?_) #[true,true,true,true,true,true,true,true,true,true,true,false] rfl rfl (any_of HT_.out (by kernel_rfl)) (fun _ _ _ h => h) (Or.inl ⟨by rfl,?_⟩) ?_ ?_
      rotate_left
      ·intro w'
       go_simp
       with_reducible rfl
      rotate_left
      ·simp only [Act.put,List.setIfInBounds_toArray,List.set_cons_zero,List.set_cons_succ,i64_w,i32_w]
       rfl
      refine pure_ (i:=11) (N:=some 9) (v:=?_) (a':=?_) #[true,true,true,true,true,true,true,true,true,true,true,true] rfl rfl (any_of HT_.out (by kernel_rfl)) (fun _ _ _ h => h) (Or.inl ⟨by rfl,?_⟩) ?_ ?_
      rotate_left
      ·intro w'
       go_simp
       with_reducible rfl
      rotate_left
      ·simp only [Act.put,List.setIfInBounds_toArray,List.set_cons_zero,List.set_cons_succ,i64_w,i32_w]
       rfl
      refine done_ (done_of HT_.out (by kernel_rfl)) ?_
      have q49 : ((ji20) : Int) ≤ ((t344.length : Int) : Int):=of_decide_eq_true (by first | (with_reducible assumption) | assumption)
      obtain ⟨i049,hi049,_,hsz49,_⟩:=info_parts info27
      have hroom49 : t344.length ≤ co10:=(Kd.R_reads' HO_5.out).2.1
      have hC49 : Kd.C k27 _ Ao10 t344.length t344:=(Kd.R_reads' HO_5.out).2.2
      have hcut49:=cut_to (P:=Try.prog) 23 27 .i64 Try.underlying23 hi049 Ao10 t344.length co10 (ji20) (of_decide_eq_true (by first | (with_reducible assumption) | assumption)) q49 hroom49
      have hr49:=Kd.C_take (m:=((ji20) : Int).toNat) hC49 (by omega)
      have hy49 : y354.length = ((ji20) : Int).toNat:=(by rw [Ny354.out,List.length_take];omega)
      rw [← Ny354.out] at hr49
      rw [← hy49] at hcut49
      have HR365:=Aside0.mk hr49
      have HC365:=Aside0.mk (show y354.length ≤ co10 from by omega)
      clear hr49 hC49 hroom49 hi049 hsz49
      have KY49:=Aside0.mk hy49
      clear hy49
      have KL49:=Aside0.mk (show ((ji20) : Int).toNat ≤ t344.length from by omega)
      replace q49:=eq_true q49
      try go_wp2_with (first | ((with_reducible refine gate_callee (f:=28) rfl ?_);refine goesL_ (some 53) rfl rfl Try.func28 (by kernel_rfl) rfl #[.slice Ao10 y354.length co10] rfl (by (try simp only [List.map_toArray,List.map_cons,List.map_nil]);first | done | rfl | (simp only [List.length_drop,List.length_take];rfl)) ?_;(with_reducible refine (impl_RunOk.calls kj7 _ _ y354 true _ ?side1 ?side2 A28.out).mono ?_);(case side1 => repeat (first | exact (by repeat (first | (with_reducible exact HR365.out) | (with_reducible refine Kd.C_alloc ?_ _) | (with_reducible refine Kd.C_drewN ?_ _) | (with_reducible refine Kd.C_drew ?_) | exact HR365.out)) | (with_reducible refine Kd.C_alloc ?_ _) | (with_reducible refine Kd.C_drewN ?_ _) | (with_reducible refine Kd.C_drew ?_)));(case side2 => exact HC365.out);rintro e w50 ⟨rfl,hb⟩;refine ⟨_,rfl,?_⟩;have n0_:=Aside0.mk (Kd.R_below (by (with_reducible repeat (first | apply Kd.R_alloc | apply Kd.R_drewN | apply Kd.R_drew));exact HO_5.out) hb);have n1_:=Aside0.mk (Kd.R_below (by (with_reducible repeat (first | apply Kd.R_alloc | apply Kd.R_drewN | apply Kd.R_drew));exact HO361.out) hb);have n2_:=Aside0.mk (Kd.C_below (by repeat (first | (with_reducible exact HR353.out) | (with_reducible refine Kd.C_alloc ?_ _) | (with_reducible refine Kd.C_drewN ?_ _) | (with_reducible refine Kd.C_drew ?_) | exact HR353.out)) hb);have n3_:=Aside0.mk (Kd.C_below (by repeat (first | (with_reducible exact HR357.out) | (with_reducible refine Kd.C_alloc ?_ _) | (with_reducible refine Kd.C_drewN ?_ _) | (with_reducible refine Kd.C_drew ?_) | exact HR357.out)) hb);have n4_:=Aside0.mk (Kd.C_below (by repeat (first | (with_reducible exact HR365.out) | (with_reducible refine Kd.C_alloc ?_ _) | (with_reducible refine Kd.C_drewN ?_ _) | (with_reducible refine Kd.C_drew ?_) | exact HR365.out)) hb);have n5_:=Aside0.mk (below_step (by repeat (first | (with_reducible first | exact HB.out | apply below_alloc | apply pw_below_drewN | apply below_drew1) | exact HB.out)) hb);clear HO_5;clear HO361;clear HR353;clear HR357;clear HR365;clear HB;have HO_5:=n0_;have HO361:=n1_;have HR353:=n2_;have HR357:=n3_;have HR365:=n4_;have HB:=n5_;clear n0_ n1_ n2_ n3_ n4_ n5_;(try clear hb);(try clear hb2);(try clear hk);(try clear hi);have q51 : ((ji20) : Int) ≤ ((t344.length : Int) : Int):=of_decide_eq_true (by first | (with_reducible assumption) | assumption);obtain ⟨i051,hi051,_,hsz51,_⟩:=info_parts info27;have hroom51 : t344.length ≤ co10:=(Kd.R_reads' HO_5.out).2.1;have hC51 : Kd.C k27 _ Ao10 t344.length t344:=(Kd.R_reads' HO_5.out).2.2;have q051 : (0 : Int) ≤ ((ji20) : Int):=of_decide_eq_true (by first | (with_reducible assumption) | assumption);(try clear hcut46);have hcut51:=cut_from (P:=Try.prog) 23 27 .i64 Try.underlying23 hi051 4 hsz51 Ao10 t344.length co10 (ji20) q051 q51;have hr51:=Kd.C_drop (m:=((ji20) : Int).toNat) (c:=co10) hC51 (by omega) hroom51;obtain ⟨A51,hA51⟩ : ∃ A1,A1 = (if co10 = ((ji20) : Int).toNat then Ao10 else (Ao10 : Option Addr).map (·.add (((ji20) : Int).toNat * 4))):=⟨_,rfl⟩;obtain ⟨c51,hc51⟩ : ∃ c1,c1 = co10 - ((ji20) : Int).toNat:=⟨_,rfl⟩;have hy51 : y350.length = t344.length - ((ji20) : Int).toNat:=(by rw [Ny350.out,List.length_drop] <;> omega);rw [show (t344).drop ((ji20) : Int).toNat = y350 from Ny350.out.symm] at hr51;replace hr51 : Kd.C k27 _ A51 y350.length y350:=(by rw [hA51];exact hr51);rw [← hy51,← hA51,← hc51] at hcut51;have HR370:=Aside0.mk hr51;have HC370:=Aside0.mk (show y350.length ≤ c51 from by rw [hy51,hc51];exact Nat.sub_le_sub_right hroom51 _);clear hr51 hC51 hroom51 hi051 hsz51 hc51;have KY51:=Aside0.mk hy51;have KA51:=Aside0.mk hA51;clear hy51 hA51;have KL51:=Aside0.mk (show ((ji20) : Int).toNat ≤ t344.length from by omega);replace q51:=eq_true q51) | (go_at_call 28;(with_reducible refine (impl_RunOk.calls kj7 _ _ y350 true _ ?side1 ?side2 A32.out).mono ?_);(case side1 => repeat (first | exact (by repeat (first | (with_reducible exact HR370.out) | (with_reducible refine Kd.C_alloc ?_ _) | (with_reducible refine Kd.C_drewN ?_ _) | (with_reducible refine Kd.C_drew ?_) | exact HR370.out)) | (with_reducible refine Kd.C_alloc ?_ _) | (with_reducible refine Kd.C_drewN ?_ _) | (with_reducible refine Kd.C_drew ?_)));(case side2 => exact HC370.out);rintro e w52 ⟨rfl,hb⟩;have n0_:=Aside0.mk (Kd.R_below (by (with_reducible repeat (first | apply Kd.R_alloc | apply Kd.R_drewN | apply Kd.R_drew));exact HO_5.out) hb);have n1_:=Aside0.mk (Kd.R_below (by (with_reducible repeat (first | apply Kd.R_alloc | apply Kd.R_drewN | apply Kd.R_drew));exact HO361.out) hb);have n2_:=Aside0.mk (Kd.C_below (by repeat (first | (with_reducible exact HR353.out) | (with_reducible refine Kd.C_alloc ?_ _) | (with_reducible refine Kd.C_drewN ?_ _) | (with_reducible refine Kd.C_drew ?_) | exact HR353.out)) hb);have n3_:=Aside0.mk (Kd.C_below (by repeat (first | (with_reducible exact HR357.out) | (with_reducible refine Kd.C_alloc ?_ _) | (with_reducible refine Kd.C_drewN ?_ _) | (with_reducible refine Kd.C_drew ?_) | exact HR357.out)) hb);have n4_:=Aside0.mk (Kd.C_below (by repeat (first | (with_reducible exact HR365.out) | (with_reducible refine Kd.C_alloc ?_ _) | (with_reducible refine Kd.C_drewN ?_ _) | (with_reducible refine Kd.C_drew ?_) | exact HR365.out)) hb);have n5_:=Aside0.mk (Kd.C_below (by repeat (first | (with_reducible exact HR370.out) | (with_reducible refine Kd.C_alloc ?_ _) | (with_reducible refine Kd.C_drewN ?_ _) | (with_reducible refine Kd.C_drew ?_) | exact HR370.out)) hb);have n6_:=Aside0.mk (below_step (by repeat (first | (with_reducible first | exact HB.out | apply below_alloc | apply pw_below_drewN | apply below_drew1) | exact HB.out)) hb);clear HO_5;clear HO361;clear HR353;clear HR357;clear HR365;clear HR370;clear HB;have HO_5:=n0_;have HO361:=n1_;have HR353:=n2_;have HR357:=n3_;have HR365:=n4_;have HR370:=n5_;have HB:=n6_;clear n0_ n1_ n2_ n3_ n4_ n5_ n6_;(try clear hb);(try clear hb2);(try clear hk);(try clear hi)))
      go_ret
      exact ⟨by first | rfl | (simp [errW_none,errW_some] <;> rfl) | (simp only [← hji20];first | rfl | (simp [errW_none,errW_some] <;> rfl)) | (simp [*,errW_none,errW_some] <;> rfl),by repeat (first | (with_reducible first | exact HB.out | apply below_alloc | apply pw_below_drewN | apply below_drew1) | exact HB.out)⟩
     subst c34
     have H1 : ((laws_ltRuns.f kj7 t358 t344).bind fun t372 => (some t372)) = some r:=by rw [if_pos rfl] at H;exact H
     clear H
     have H:=H1
     clear H1
     replace H:=Option.bind_eq_some_iff.mp H
     obtain ⟨t372,A350,H⟩:=H
     replace H : (some t372) = some r:=H
     have A35:=Aside0.mk A350
     clear A350
     obtain rfl:=Option.some.inj H
     try go_wp2
     have n0_:=Aside0.mk (Kd.R_drew HO_5.out)
     have n1_:=Aside0.mk (below_drew1 HB.out)
     clear HO_5
     clear HB
     have HO_5:=n0_
     have HB:=n1_
     clear n0_ n1_
     have q37 : ((ji20) : Int) ≤ ((t344.length : Int) : Int):=of_decide_eq_true (by first | (with_reducible assumption) | assumption)
     obtain ⟨i037,hi037,_,hsz37,_⟩:=info_parts info27
     have hroom37 : t344.length ≤ co10:=(Kd.R_reads' HO_5.out).2.1
     have hC37 : Kd.C k27 _ Ao10 t344.length t344:=(Kd.R_reads' HO_5.out).2.2
     have q037 : (0 : Int) ≤ ((ji20) : Int):=of_decide_eq_true (by first | (with_reducible assumption) | assumption)
     have hcut37:=cut_from (P:=Try.prog) 23 27 .i64 Try.underlying23 hi037 4 hsz37 Ao10 t344.length co10 (ji20) q037 q37
     have hr37:=Kd.C_drop (m:=((ji20) : Int).toNat) (c:=co10) hC37 (by omega) hroom37
     obtain ⟨A37,hA37⟩ : ∃ A1,A1 = (if co10 = ((ji20) : Int).toNat then Ao10 else (Ao10 : Option Addr).map (·.add (((ji20) : Int).toNat * 4))):=⟨_,rfl⟩
     obtain ⟨c37,hc37⟩ : ∃ c1,c1 = co10 - ((ji20) : Int).toNat:=⟨_,rfl⟩
     have hy37 : y350.length = t344.length - ((ji20) : Int).toNat:=(by rw [Ny350.out,List.length_drop] <;> omega)
     rw [show (t344).drop ((ji20) : Int).toNat = y350 from Ny350.out.symm] at hr37
     replace hr37 : Kd.C k27 _ A37 y350.length y350:=(by rw [hA37];exact hr37)
     rw [← hy37,← hA37,← hc37] at hcut37
     have HR353:=Aside0.mk hr37
     have HC353:=Aside0.mk (show y350.length ≤ c37 from by rw [hy37,hc37];exact Nat.sub_le_sub_right hroom37 _)
     clear hr37 hC37 hroom37 hi037 hsz37 hc37
     have KY37:=Aside0.mk hy37
     have KA37:=Aside0.mk hA37
     clear hy37 hA37
     have KL37:=Aside0.mk (show ((ji20) : Int).toNat ≤ t344.length from by omega)
     replace q37:=eq_true q37
     have q38 : ((ji20) : Int) ≤ ((t344.length : Int) : Int):=of_decide_eq_true (by first | (with_reducible assumption) | assumption)
     obtain ⟨i038,hi038,_,hsz38,_⟩:=info_parts info27
     have hroom38 : t344.length ≤ co10:=(Kd.R_reads' HO_5.out).2.1
     have hC38 : Kd.C k27 _ Ao10 t344.length t344:=(Kd.R_reads' HO_5.out).2.2
     have hcut38:=cut_to (P:=Try.prog) 23 27 .i64 Try.underlying23 hi038 Ao10 t344.length co10 (ji20) (of_decide_eq_true (by first | (with_reducible assumption) | assumption)) q38 hroom38
     have hr38:=Kd.C_take (m:=((ji20) : Int).toNat) hC38 (by omega)
     have hy38 : y354.length = ((ji20) : Int).toNat:=(by rw [Ny354.out,List.length_take];omega)
     rw [← Ny354.out] at hr38
     rw [← hy38] at hcut38
     have HR357:=Aside0.mk hr38
     have HC357:=Aside0.mk (show y354.length ≤ co10 from by omega)
     clear hr38 hC38 hroom38 hi038 hsz38
     have KY38:=Aside0.mk hy38
     clear hy38
     have KL38:=Aside0.mk (show ((ji20) : Int).toNat ≤ t344.length from by omega)
     replace q38:=eq_true q38
     refine start_ (n:=12) (S:=fun w' => True) (ds:=[]) #[false,false,false,false,false,false,false,false,false,false,false,false] (by kernel_rfl) rfl rfl trivial (fun hHeld => ?_);refine with_tabW laws_FnRunOk.tab8 laws_FnRunOk.bits8 (fun HT_ HW_ => ?_)
     generalize wc.drew = w36 at HO_5 HB HR353 HR357 hHeld ⊢
     refine pure_ (i:=0) (N:=some 41) (v:=?_) (a':=?_) #[true,false,false,false,false,false,false,false,false,false,false,false] rfl rfl (any_of HT_.out (by kernel_rfl)) (fun _ _ _ h => h) (Or.inl ⟨by rfl,?_⟩) ?_ ?_
     rotate_left
     ·intro w'
      go_simp
      with_reducible rfl
     rotate_left
     ·simp only [Act.put,List.setIfInBounds_toArray,List.set_cons_zero,List.set_cons_succ,i64_w,i32_w]
      rfl
     refine pure_ (i:=1) (N:=some 42) (v:=?_) (a':=?_) #[true,true,false,false,false,false,false,false,false,false,false,false] rfl rfl (any_of HT_.out (by kernel_rfl)) (fun _ _ _ h => h) (Or.inl ⟨by rfl,?_⟩) ?_ ?_
     rotate_left
     ·intro w'
      go_simp
      with_reducible rfl
     rotate_left
     ·simp only [Act.put,List.setIfInBounds_toArray,List.set_cons_zero,List.set_cons_succ,i64_w,i32_w]
      rfl
     refine pure_ (i:=2) (N:=some 43) (v:=?_) (a':=?_) #[true,true,true,false,false,false,false,false,false,false,false,false] rfl rfl (any_of HT_.out (by kernel_rfl)) (fun _ _ _ h => h) (Or.inl ⟨by rfl,?_⟩) ?_ ?_
     rotate_left
     ·intro w'
      go_simp
      with_reducible rfl
     rotate_left
     ·simp only [Act.put,List.setIfInBounds_toArray,List.set_cons_zero,List.set_cons_succ,i64_w,i32_w]
      rfl
     refine pure_ (i:=3) (N:=some 44) (v:=?_) (a':=?_) #[true,true,true,true,false,false,false,false,false,false,false,false] rfl rfl (any_of HT_.out (by kernel_rfl)) (fun _ _ _ h => h) (Or.inl ⟨by rfl,?_⟩) ?_ ?_
     rotate_left
     ·intro w'
      go_simp
      with_reducible rfl
     rotate_left
     ·simp only [Act.put,List.setIfInBounds_toArray,List.set_cons_zero,List.set_cons_succ,i64_w,i32_w]
      rfl
     refine pure_ (i:=4) (N:=some 45) (v:=?_) (a':=?_) #[true,true,true,true,true,false,false,false,false,false,false,false] rfl rfl (any_of HT_.out (by kernel_rfl)) (fun _ _ _ h => h) (Or.inl ⟨by rfl,?_⟩) ?_ ?_
     rotate_left
     ·intro w'
      go_simp
      with_reducible rfl
     rotate_left
     ·simp only [Act.put,List.setIfInBounds_toArray,List.set_cons_zero,List.set_cons_succ,i64_w,i32_w]
      rfl
     refine pure_ (i:=5) (N:=some 46) (v:=?_) (a':=?_) #[true,true,true,true,true,true,false,false,false,false,false,false] rfl rfl (any_of HT_.out (by kernel_rfl)) (fun _ _ _ h => h) (Or.inl ⟨by rfl,?_⟩) ?_ ?_
     rotate_left
     ·intro w'
      go_simp
      with_reducible rfl
     rotate_left
     ·simp only [Act.put,List.setIfInBounds_toArray,List.set_cons_zero,List.set_cons_succ,i64_w,i32_w]
      rfl
     refine one_ (i:=6) (N:=some 47) #[true,true,true,true,true,true,true,false,false,false,false,false] rfl rfl (one_of HT_.out (by kernel_rfl)) (by decide) (fun K hK => ?_)
     refine goes_ Try.func31 (by kernel_rfl) rfl #[.slice A37 y350.length c37,.slice Ao10 y354.length co10] (by rfl) rfl rfl (by (try simp only [List.map_toArray,List.map_cons,List.map_nil]);first | done | rfl | (simp only [List.length_drop,List.length_take];rfl)) ?_
     with_reducible refine (impl_RunJoin.calls kj7 _ _ y350 _ _ y354 t358 true _ ?side1 ?side2 ?side3 ?side4 A25.out).mono ?_
     (case side1 => repeat (first | exact (by repeat (first | (with_reducible exact HR353.out) | (with_reducible refine Kd.C_alloc ?_ _) | (with_reducible refine Kd.C_drewN ?_ _) | (with_reducible refine Kd.C_drew ?_) | exact HR353.out)) | (with_reducible refine Kd.C_alloc ?_ _) | (with_reducible refine Kd.C_drewN ?_ _) | (with_reducible refine Kd.C_drew ?_)))
     (case side2 => exact HC353.out)
     (case side3 => repeat (first | exact (by repeat (first | (with_reducible exact HR357.out) | (with_reducible refine Kd.C_alloc ?_ _) | (with_reducible refine Kd.C_drewN ?_ _) | (with_reducible refine Kd.C_drew ?_) | exact HR357.out)) | (with_reducible refine Kd.C_alloc ?_ _) | (with_reducible refine Kd.C_drewN ?_ _) | (with_reducible refine Kd.C_drew ?_)))
     (case side4 => exact HC357.out)
     rintro e w39 ⟨v360,rfl,ho0,hb⟩
     refine ⟨_,rfl,?_⟩
     have n0_:=Aside0.mk (Kd.R_elder' (by (with_reducible repeat (first | apply Kd.R_alloc | apply Kd.R_drewN | apply Kd.R_drew));exact HO_5.out) (Kd.R_base ho0) hb)
     have n1_:=Aside0.mk (Kd.R_lower (Kd.R_new' ho0 (Kd.R_lt (by (with_reducible repeat (first | apply Kd.R_alloc | apply Kd.R_drewN | apply Kd.R_drew));exact HO_5.out))) (below_size (by repeat (first | (with_reducible first | exact HB.out | apply below_alloc | apply pw_below_drewN | apply below_drew1) | exact HB.out))))
     have n2_:=Aside0.mk (Kd.C_below (by repeat (first | (with_reducible exact HR353.out) | (with_reducible refine Kd.C_alloc ?_ _) | (with_reducible refine Kd.C_drewN ?_ _) | (with_reducible refine Kd.C_drew ?_) | exact HR353.out)) hb)
     have n3_:=Aside0.mk (Kd.C_below (by repeat (first | (with_reducible exact HR357.out) | (with_reducible refine Kd.C_alloc ?_ _) | (with_reducible refine Kd.C_drewN ?_ _) | (with_reducible refine Kd.C_drew ?_) | exact HR357.out)) hb)
     have n4_:=Aside0.mk (below_step (by repeat (first | (with_reducible first | exact HB.out | apply below_alloc | apply pw_below_drewN | apply below_drew1) | exact HB.out)) hb)
     clear HO_5
     clear HR353
     clear HR357
     clear HB
     have HO_5:=n0_
     have HO361:=n1_
     have HR353:=n2_
     have HR357:=n3_
     have HB:=n4_
     clear n0_ n1_ n2_ n3_ n4_
     (try clear hb)
     (try clear hb2)
     (try clear hk)
     (try clear hi)
     (try clear ho0)
     refine hK.out _ _ trivial (fun hHeld => ?_)
     clear hK K
     refine norm_ (a':=?_) ?_ ?_
     rotate_left
     ·show Act.put _ (some 47) _ = _
      simp only [Act.put,List.setIfInBounds_toArray,List.set_cons_zero,List.set_cons_succ,i64_w,i32_w]
      rfl
     refine pure_ (i:=7) (N:=some 40) (v:=?_) (a':=?_) #[true,true,true,true,true,true,true,true,false,false,false,false] rfl rfl (any_of HT_.out (by kernel_rfl)) (fun _ _ _ h => h) (Or.inl ⟨by rfl,?_⟩) ?_ ?_
     rotate_left
     ·intro w'
      go_simp
      with_reducible rfl
     rotate_left
     ·simp only [Act.put,List.setIfInBounds_toArray,List.set_cons_zero,List.set_cons_succ,i64_w,i32_w]
      rfl
     refine pure_ (i:=8) (N:=some 48) (v:=?_) (a':=?_) #[true,true,true,true,true,true,true,true,true,false,false,false] rfl rfl (any_of HT_.out (by kernel_rfl)) (fun _ _ _ h => h) (Or.inl ⟨by rfl,?_⟩) ?_ ?_
     rotate_left
     ·intro w'
      go_simp
      with_reducible rfl
     rotate_left
     ·simp only [Act.put,List.setIfInBounds_toArray,List.set_cons_zero,List.set_cons_succ,i64_w,i32_w]
      rfl
     refine pure_ (i:=9) (N:=some 49) (v:=?_) (a':=?_) #[true,true,true,true,true,true,true,true,true,true,false,false] rfl rfl (any_of HT_.out (by kernel_rfl)) (fun _ _ _ h => h) (Or.inl ⟨by rfl,?_⟩) ?_ ?_
     rotate_left
     ·intro w'
      go_simp
      with_reducible rfl
     rotate_left
     ·simp only [Act.put,List.setIfInBounds_toArray,List.set_cons_zero,List.set_cons_succ,i64_w,i32_w]
      rfl
     refine pure_ (i:=10) (N:=some 8) (v:=?_) (a':=?_) #[true,true,true,true,true,true,true,true,true,true,true,false] rfl rfl (any_of HT_.out (by kernel_rfl)) (fun _ _ _ h => h) (Or.inl ⟨by rfl,?_⟩) ?_ ?_
     rotate_left
     ·intro w'
      go_simp
      with_reducible rfl
     rotate_left
     ·simp only [Act.put,List.setIfInBounds_toArray,List.set_cons_zero,List.set_cons_succ,i64_w,i32_w]
      rfl
     refine pure_ (i:=11) (N:=some 9) (v:=?_) (a':=?_) #[true,true,true,true,true,true,true,true,true,true,true,true] rfl rfl (any_of HT_.out (by kernel_rfl)) (fun _ _ _ h => h) (Or.inl ⟨by rfl,?_⟩) ?_ ?_
     rotate_left
     ·intro w'
      go_simp
      with_reducible rfl
     rotate_left
     ·simp only [Act.put,List.setIfInBounds_toArray,List.set_cons_zero,List.set_cons_succ,i64_w,i32_w]
      rfl
     refine done_ (done_of HT_.out (by kernel_rfl)) ?_
     have q40 : ((ji20) : Int) ≤ ((t344.length : Int) : Int):=of_decide_eq_true (by first | (with_reducible assumption) | assumption)
     obtain ⟨i040,hi040,_,hsz40,_⟩:=info_parts info27
     have hroom40 : t344.length ≤ co10:=(Kd.R_reads' HO_5.out).2.1
     have hC40 : Kd.C k27 _ Ao10 t344.length t344:=(Kd.R_reads' HO_5.out).2.2
     have hcut40:=cut_to (P:=Try.prog) 23 27 .i64 Try.underlying23 hi040 Ao10 t344.length co10 (ji20) (of_decide_eq_true (by first | (with_reducible assumption) | assumption)) q40 hroom40
     have hr40:=Kd.C_take (m:=((ji20) : Int).toNat) hC40 (by omega)
     have hy40 : y354.length = ((ji20) : Int).toNat:=(by rw [Ny354.out,List.length_take];omega)
     rw [← Ny354.out] at hr40
     rw [← hy40] at hcut40
     have HR365:=Aside0.mk hr40
     have HC365:=Aside0.mk (show y354.length ≤ co10 from by omega)
     clear hr40 hC40 hroom40 hi040 hsz40
     have KY40:=Aside0.mk hy40
     clear hy40
     have KL40:=Aside0.mk (show ((ji20) : Int).toNat ≤ t344.length from by omega)
     replace q40:=eq_true q40
     try go_wp2_with (first | ((with_reducible refine gate_callee (f:=28) rfl ?_);refine goesL_ (some 53) rfl rfl Try.func28 (by kernel_rfl) rfl #[.slice Ao10 y354.length co10] rfl (by (try simp only [List.map_toArray,List.map_cons,List.map_nil]);first | done | rfl | (simp only [List.length_drop,List.length_take];rfl)) ?_;(with_reducible refine (impl_RunOk.calls kj7 _ _ y354 true _ ?side1 ?side2 A28.out).mono ?_);(case side1 => repeat (first | exact (by repeat (first | (with_reducible exact HR365.out) | (with_reducible refine Kd.C_alloc ?_ _) | (with_reducible refine Kd.C_drewN ?_ _) | (with_reducible refine Kd.C_drew ?_) | exact HR365.out)) | (with_reducible refine Kd.C_alloc ?_ _) | (with_reducible refine Kd.C_drewN ?_ _) | (with_reducible refine Kd.C_drew ?_)));(case side2 => exact HC365.out);rintro e w41 ⟨rfl,hb⟩;refine ⟨_,rfl,?_⟩;have n0_:=Aside0.mk (Kd.R_below (by (with_reducible repeat (first | apply Kd.R_alloc | apply Kd.R_drewN | apply Kd.R_drew));exact HO_5.out) hb);have n1_:=Aside0.mk (Kd.R_below (by (with_reducible repeat (first | apply Kd.R_alloc | apply Kd.R_drewN | apply Kd.R_drew));exact HO361.out) hb);have n2_:=Aside0.mk (Kd.C_below (by repeat (first | (with_reducible exact HR353.out) | (with_reducible refine Kd.C_alloc ?_ _) | (with_reducible refine Kd.C_drewN ?_ _) | (with_reducible refine Kd.C_drew ?_) | exact HR353.out)) hb);have n3_:=Aside0.mk (Kd.C_below (by repeat (first | (with_reducible exact HR357.out) | (with_reducible refine Kd.C_alloc ?_ _) | (with_reducible refine Kd.C_drewN ?_ _) | (with_reducible refine Kd.C_drew ?_) | exact HR357.out)) hb);have n4_:=Aside0.mk (Kd.C_below (by repeat (first | (with_reducible exact HR365.out) | (with_reducible refine Kd.C_alloc ?_ _) | (with_reducible refine Kd.C_drewN ?_ _) | (with_reducible refine Kd.C_drew ?_) | exact HR365.out)) hb);have n5_:=Aside0.mk (below_step (by repeat (first | (with_reducible first | exact HB.out | apply below_alloc | apply pw_below_drewN | apply below_drew1) | exact HB.out)) hb);clear HO_5;clear HO361;clear HR353;clear HR357;clear HR365;clear HB;have HO_5:=n0_;have HO361:=n1_;have HR353:=n2_;have HR357:=n3_;have HR365:=n4_;have HB:=n5_;clear n0_ n1_ n2_ n3_ n4_ n5_;(try clear hb);(try clear hb2);(try clear hk);(try clear hi);have q42 : ((ji20) : Int) ≤ ((t344.length : Int) : Int):=of_decide_eq_true (by first | (with_reducible assumption) | assumption);obtain ⟨i042,hi042,_,hsz42,_⟩:=info_parts info27;have hroom42 : t344.length ≤ co10:=(Kd.R_reads' HO_5.out).2.1;have hC42 : Kd.C k27 _ Ao10 t344.length t344:=(Kd.R_reads' HO_5.out).2.2;have q042 : (0 : Int) ≤ ((ji20) : Int):=of_decide_eq_true (by first | (with_reducible assumption) | assumption);(try clear hcut37);have hcut42:=cut_from (P:=Try.prog) 23 27 .i64 Try.underlying23 hi042 4 hsz42 Ao10 t344.length co10 (ji20) q042 q42;have hr42:=Kd.C_drop (m:=((ji20) : Int).toNat) (c:=co10) hC42 (by omega) hroom42;obtain ⟨A42,hA42⟩ : ∃ A1,A1 = (if co10 = ((ji20) : Int).toNat then Ao10 else (Ao10 : Option Addr).map (·.add (((ji20) : Int).toNat * 4))):=⟨_,rfl⟩;obtain ⟨c42,hc42⟩ : ∃ c1,c1 = co10 - ((ji20) : Int).toNat:=⟨_,rfl⟩;have hy42 : y350.length = t344.length - ((ji20) : Int).toNat:=(by rw [Ny350.out,List.length_drop] <;> omega);rw [show (t344).drop ((ji20) : Int).toNat = y350 from Ny350.out.symm] at hr42;replace hr42 : Kd.C k27 _ A42 y350.length y350:=(by rw [hA42];exact hr42);rw [← hy42,← hA42,← hc42] at hcut42;have HR370:=Aside0.mk hr42;have HC370:=Aside0.mk (show y350.length ≤ c42 from by rw [hy42,hc42];exact Nat.sub_le_sub_right hroom42 _);clear hr42 hC42 hroom42 hi042 hsz42 hc42;have KY42:=Aside0.mk hy42;have KA42:=Aside0.mk hA42;clear hy42 hA42;have KL42:=Aside0.mk (show ((ji20) : Int).toNat ≤ t344.length from by omega);replace q42:=eq_true q42) | (go_at_call 28;(with_reducible refine (impl_RunOk.calls kj7 _ _ y350 true _ ?side1 ?side2 A32.out).mono ?_);(case side1 => repeat (first | exact (by repeat (first | (with_reducible exact HR370.out) | (with_reducible refine Kd.C_alloc ?_ _) | (with_reducible refine Kd.C_drewN ?_ _) | (with_reducible refine Kd.C_drew ?_) | exact HR370.out)) | (with_reducible refine Kd.C_alloc ?_ _) | (with_reducible refine Kd.C_drewN ?_ _) | (with_reducible refine Kd.C_drew ?_)));(case side2 => exact HC370.out);rintro e w43 ⟨rfl,hb⟩;have n0_:=Aside0.mk (Kd.R_below (by (with_reducible repeat (first | apply Kd.R_alloc | apply Kd.R_drewN | apply Kd.R_drew));exact HO_5.out) hb);have n1_:=Aside0.mk (Kd.R_below (by (with_reducible repeat (first | apply Kd.R_alloc | apply Kd.R_drewN | apply Kd.R_drew));exact HO361.out) hb);have n2_:=Aside0.mk (Kd.C_below (by repeat (first | (with_reducible exact HR353.out) | (with_reducible refine Kd.C_alloc ?_ _) | (with_reducible refine Kd.C_drewN ?_ _) | (with_reducible refine Kd.C_drew ?_) | exact HR353.out)) hb);have n3_:=Aside0.mk (Kd.C_below (by repeat (first | (with_reducible exact HR357.out) | (with_reducible refine Kd.C_alloc ?_ _) | (with_reducible refine Kd.C_drewN ?_ _) | (with_reducible refine Kd.C_drew ?_) | exact HR357.out)) hb);have n4_:=Aside0.mk (Kd.C_below (by repeat (first | (with_reducible exact HR365.out) | (with_reducible refine Kd.C_alloc ?_ _) | (with_reducible refine Kd.C_drewN ?_ _) | (with_reducible refine Kd.C_drew ?_) | exact HR365.out)) hb);have n5_:=Aside0.mk (Kd.C_below (by repeat (first | (with_reducible exact HR370.out) | (with_reducible refine Kd.C_alloc ?_ _) | (with_reducible refine Kd.C_drewN ?_ _) | (with_reducible refine Kd.C_drew ?_) | exact HR370.out)) hb);have n6_:=Aside0.mk (below_step (by repeat (first | (with_reducible first | exact HB.out | apply below_alloc | apply pw_below_drewN | apply below_drew1) | exact HB.out)) hb);clear HO_5;clear HO361;clear HR353;clear HR357;clear HR365;clear HR370;clear HB;have HO_5:=n0_;have HO361:=n1_;have HR353:=n2_;have HR357:=n3_;have HR365:=n4_;have HR370:=n5_;have HB:=n6_;clear n0_ n1_ n2_ n3_ n4_ n5_ n6_;(try clear hb);(try clear hb2);(try clear hk);(try clear hi);obtain ⟨Ao44,co44,eo44⟩:=Kd.R_slice HO361.out;subst eo44) | (go_at_call 21;(with_reducible refine (laws_ltRuns.calls kj7 _ _ t358 _ _ t344 t372 _ ?side1 ?side2 ?side3 ?side4 A35.out).mono ?_);(case side1 => repeat (first | exact (Kd.R_reads' HO361.out).2.2 | (with_reducible refine Kd.C_alloc ?_ _) | (with_reducible refine Kd.C_drewN ?_ _) | (with_reducible refine Kd.C_drew ?_)));(case side2 => exact (Kd.R_reads' HO361.out).2.1);(case side3 => repeat (first | exact (Kd.R_reads' HO_5.out).2.2 | (with_reducible refine Kd.C_alloc ?_ _) | (with_reducible refine Kd.C_drewN ?_ _) | (with_reducible refine Kd.C_drew ?_)));(case side4 => exact (Kd.R_reads' HO_5.out).2.1);rintro e w' ⟨rfl,⟨nd,rfl⟩⟩))
     go_ret
     exact ⟨by first | rfl | (simp [errW_none,errW_some] <;> rfl) | (simp only [← hji20];first | rfl | (simp [errW_none,errW_some] <;> rfl)) | (simp [*,errW_none,errW_some] <;> rfl),by repeat (first | (with_reducible first | exact HB.out | apply below_alloc | apply pw_below_drewN | apply below_drew1) | exact HB.out)⟩
/-- THE ONE PURE STATEMENT of laws_FnRunOk: yours. -/
def laws_FnRunOk.Pure : Prop:=∀ (l0 : List Int) (l1 : List Int),l0.length ≤ maxLen → l0.length * 1 ≤ 140737488351232 → (∀ x ∈ l0,(Lit.int .u8 x).wf = true) → l1.length ≤ maxLen → l1.length * 1 ≤ 140737488351232 → (∀ x ∈ l1,(Lit.int .u8 x).wf = true) → ∃ k,laws_FnRunOk.f k l0 l1 = some true
theorem laws_FnRunOk.walk (P : laws_FnRunOk.Pure) (a0 : Option Addr) (len0 cap0 : Nat) (z0 : List Int) (a1 : Option Addr) (len1 cap1 : Nat) (z1 : List Int) (w : World) (w0 : (a0 = none ∧ len0 = 0 ∧ cap0 = 0 ∧ z0 = []) ∨ ∃ x,a0 = some x ∧ len0 ≤ cap0 ∧ cap0 ≤ maxLen ∧ z0.length = cap0 ∧ (∀ i,i < z0.length → w.cell? (x.add i) = some (.int .u8 (z0.getD i 0))) ∧ ∀ n ∈ z0,(Lit.int .u8 n).wf = true) (y0 : len0 * 1 ≤ 140737488351232) (w1 : (a1 = none ∧ len1 = 0 ∧ cap1 = 0 ∧ z1 = []) ∨ ∃ x,a1 = some x ∧ len1 ≤ cap1 ∧ cap1 ≤ maxLen ∧ z1.length = cap1 ∧ (∀ i,i < z1.length → w.cell? (x.add i) = some (.int .u8 (z1.getD i 0))) ∧ ∀ n ∈ z1,(Lit.int .u8 n).wf = true) (y1 : len1 * 1 ≤ 140737488351232) :
  Calls Try.prog 11 #[.slice a0 len0 cap0,.slice a1 len1 cap1] w fun e w' => e = .returned (.bool true) ∧ Below w.heap.size w w':=by
 obtain ⟨l0,rfl,hr0,hm0,hw0,hc0⟩:=ReadsInt.ofRowC w0
 obtain ⟨l1,rfl,hr1,hm1,hw1,hc1⟩:=ReadsInt.ofRowC w1
 obtain ⟨k,h⟩:=P l0 l1 hm0 y0 hw0 hm1 y1 hw1
 refine (laws_FnRunOk.calls k _ _ l0 _ _ l1 true w (Kd.C_of_reads (d:=(0 : Int)) (h1:=fun _ => rfl) hr0) hc0 (Kd.C_of_reads (d:=(0 : Int)) (h1:=fun _ => rfl) hr1) hc1 h).mono ?_
 rintro e w' ⟨rfl,hd⟩
 exact ⟨rfl,hd⟩
end Go.Proofs.Ytkifijclehgiaaa.PFnRunOk