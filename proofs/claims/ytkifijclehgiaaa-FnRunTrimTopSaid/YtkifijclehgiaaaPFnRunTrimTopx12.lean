/-
 Functions that FnRunTrimTop reaches,each as a Lean function,and that Go comes to its answer: printed by the kit's printer,impl.seen's part laid by hand. Conditions: those that stand in each statement.
-/
import Derived.Test.YtkifijclehgiaaaPFnRunTrimTopx0
namespace Go.Proofs.Ytkifijclehgiaaa.PFnRunTrimTop
open Go.RowKit Go.Proofs.YtkifijclehgiaaaW.PrintWords Go.Proofs.YtkifijclehgiaaaW.PrintLast Go.Proofs.YtkifijclehgiaaaW.PrintMore
attribute [local go_sem] max2_int min2_int max_two min_two max_three min_three max_four min_four   -- for this text's walks alone
set_option linter.unusedVariables false
set_option linter.unusedSimpArgs false

theorem T12q1 {p : Prop} (h : p := by first | (with_reducible assumption) | assumption) : p := h
theorem T12q2 {p : Prop} (h : p := by (with_reducible repeat (first | apply Kd.R_alloc | apply Kd.R_drewN | apply Kd.R_drew));exact HO_7.out) : p := h
theorem T12q3 {p : Prop} (h : p := by (with_reducible repeat (first | apply Kd.R_alloc | apply Kd.R_drewN | apply Kd.R_drew));exact HO_9.out) : p := h
theorem T12q4 {p : Prop} (h : p := by (with_reducible repeat (first | apply Kd.R_alloc | apply Kd.R_drewN | apply Kd.R_drew));exact Kd.R_mono HO_7.out (fun _ hk => ⟨trivial,hk⟩)) : p := h
/-! ### spec_l11Seen: function 63 -/
mutual
def spec_l11Seen.j0 : Nat → List (S27) → Int → List Int → Bool → Option (Bool)
 | 0,_,_,_,_ => none
 | k + 1,x0,x1,x2,x23 => if x23 = true then (some true) else (spec_l11Seen.l0 k x0 x1 x2 0)
def spec_l11Seen.l0 : Nat → List (S27) → Int → List Int → Int → Option (Bool)
 | 0,_,_,_,_ => none
 | k + 1,x0,x1,x2,x7 => if x7 < (x2.length : Int) then (if 0 ≤ x1 then (if x1 < (x0.length : Int) then (if 0 ≤ x7 then (if ((rd_T27 x0 x1).f3) ≤ (rd x2 x7) then (if 0 ≤ (wrap64 (x1 - 1)) then (if (wrap64 (x1 - 1)) < (x0.length : Int) then (if (rd x2 x7) < ((rd_T27 x0 (wrap64 (x1 - 1))).f3) then (some true) else (spec_l11Seen.l0 k x0 x1 x2 (wrap64 (x7 + 1)))) else (none)) else (none)) else (spec_l11Seen.l0 k x0 x1 x2 (wrap64 (x7 + 1)))) else (none)) else (none)) else (none)) else (some false)
end
def spec_l11Seen.f (k : Nat) (l0 : List (S27)) (a1 : Int) (l2 : List Int) : Option (Bool):=if a1 = 0 then (spec_l11Seen.j0 k l0 a1 l2 true) else (if 0 ≤ (wrap64 (a1 - 1)) then (if (wrap64 (a1 - 1)) < (l0.length : Int) then (if 0 ≤ a1 then (if a1 < (l0.length : Int) then (spec_l11Seen.j0 k l0 a1 l2 (((rd_T27 l0 (wrap64 (a1 - 1))).f0).toList != ((rd_T27 l0 a1).f0).toList)) else (none)) else (none)) else (none)) else (none))
set_option maxHeartbeats 8000000 in
set_option maxRecDepth 100000 in
theorem spec_l11Seen.calls (k : Nat) (A0 : Option Addr) (c0 : Nat) (l0 : List (S27)) (a1 : Int) (A2 : Option Addr) (c2 : Nat) (l2 : List Int) (r : Bool) (w : World) (hr0 : Kd.C k27 w A0 l0.length l0) (hc0 : l0.length ≤ c0) (hr2 : Kd.C (Kd.int .i64) w A2 l2.length l2) (hc2 : l2.length ≤ c2) (h : spec_l11Seen.f k l0 a1 l2 = some r) :
  Calls Try.prog 63 #[.slice A0 l0.length c0,.int .i64 a1,.slice A2 l2.length c2] w fun e w' => e = .returned (.bool r) ∧ Drawn0 w w':=by
 have HR0:=Aside0.mk hr0
 have HC0:=Aside0.mk hc0
 clear hr0 hc0
 have HR2:=Aside0.mk hr2
 have HC2:=Aside0.mk hc2
 clear hr2 hc2
 have H : (if a1 = 0 then (spec_l11Seen.j0 k l0 a1 l2 true) else (if 0 ≤ (wrap64 (a1 - 1)) then (if (wrap64 (a1 - 1)) < (l0.length : Int) then (if 0 ≤ a1 then (if a1 < (l0.length : Int) then (spec_l11Seen.j0 k l0 a1 l2 (((rd_T27 l0 (wrap64 (a1 - 1))).f0).toList != ((rd_T27 l0 a1).f0).toList)) else (none)) else (none)) else (none)) else (none))) = some r:=h
 clear h
 have HC4:=Aside0.mk H
 clear H
 go_enter Try.func63,Try.ntmps63
 go_upto_region 1 with (fail)
 repeat (go_quiet (fail);go_upto_region 1 with (fail))
 go_cut [23] (fun v23 wc => ∃ (kq : Nat) (x23_3 : Bool),v23 = .bool x23_3 ∧ Aside0 (spec_l11Seen.j0 kq l0 a1 l2 x23_3 = some r) ∧ Aside0 (kq ≤ k) ∧ Drawn0 w wc)
 case first =>
  have H:=HC4.out
  clear HC4
  by_cases c5 : a1 = 0
  ·rw [if_pos c5] at H
   have c5b0 : (a1 == 0) = true:=beq_iff_eq.mpr c5
   have c5b1 : (a1 != 0) = false:=bne_eq_false_iff_eq.mpr c5
   clear c5
   (first | rw [c5b0] | (simp only [i64_w,i32_w];rw [c5b0]) | skip)
   have H':=Aside0.mk H
   clear H
   go_wp2
   repeat (go_quiet (fail);try go_wp2)
   go_meet
   case rel => exact ⟨_,(true),(by first | rfl | (simp;done) | (simp [*];done)),H',⟨by first | omega | exact Nat.le_refl _⟩,by repeat (first | exact Drawn0.refl _ | apply Drawn0.step)⟩
  rw [if_neg c5] at H
  have c5b0 : (a1 == 0) = false:=beq_eq_false_iff_ne.mpr c5
  have c5b1 : (a1 != 0) = true:=bne_iff_ne.mpr c5
  (first | rw [c5b0] | (simp only [i64_w,i32_w];rw [c5b0]) | skip)
  obtain ⟨ji6,hji6⟩ : ∃ j_ : Int,(wrap64 (a1 - 1)) = j_:=⟨_,rfl⟩
  replace H : (if 0 ≤ (ji6) then (if (ji6) < (l0.length : Int) then (if 0 ≤ a1 then (if a1 < (l0.length : Int) then (spec_l11Seen.j0 k l0 a1 l2 (((rd_T27 l0 (ji6)).f0).toList != ((rd_T27 l0 a1).f0).toList)) else (none)) else (none)) else (none)) else (none)) = some r:=by first | (rw [hji6] at H;exact H) | (simp only [hji6] at H ⊢;exact H)
  have hji6w : (IntKind.i64.wrap (a1 - 1)) = ji6:=(i64_w _).trans hji6
  by_cases c7 : 0 ≤ (ji6)
  rotate_left
  ·rw [if_neg c7] at H
   exact absurd H (by simp)
  rw [if_pos c7] at H
  have c7b0 : decide (0 ≤ (ji6)) = true:=decide_eq_true c7
  clear c7
  by_cases c8 : (ji6) < (l0.length : Int)
  rotate_left
  ·rw [if_neg c8] at H
   exact absurd H (by simp)
  rw [if_pos c8] at H
  have c8b0 : decide ((ji6) < (l0.length : Int)) = true:=decide_eq_true c8
  clear c8
  by_cases c9 : 0 ≤ a1
  rotate_left
  ·rw [if_neg c9] at H
   exact absurd H (by simp)
  rw [if_pos c9] at H
  have c9b0 : decide (0 ≤ a1) = true:=decide_eq_true c9
  clear c9
  by_cases c10 : a1 < (l0.length : Int)
  rotate_left
  ·rw [if_neg c10] at H
   exact absurd H (by simp)
  rw [if_pos c10] at H
  have c10b0 : decide (a1 < (l0.length : Int)) = true:=decide_eq_true c10
  clear c10
  have H':=Aside0.mk H
  clear H
  have p365 : 0 ≤ ((ji6) : Int):=of_decide_eq_true T12q1
  have q365 : (ji6) < (l0.length : Int):=of_decide_eq_true T12q1
  obtain ⟨ad365,e365,hx365_0,hx365_1,hx365_2,hx365_3⟩:=at_T27 HR0.out (ji6) p365 q365
  cases e365
  replace p365:=eq_true p365
  replace q365:=eq_true q365
  have p366 : 0 ≤ (a1 : Int):=of_decide_eq_true T12q1
  have q366 : a1 < (l0.length : Int):=of_decide_eq_true T12q1
  obtain ⟨ad366,e366,hx366_0,hx366_1,hx366_2,hx366_3⟩:=at_T27 HR0.out a1 p366 q366
  obtain rfl : ad365 = ad366:=(by injection e366)
  replace p366:=eq_true p366
  replace q366:=eq_true q366
  go_wp2
  repeat (go_quiet (fail);try go_wp2)
  go_meet
  case rel => exact ⟨_,((((rd_T27 l0 (ji6)).f0).toList != ((rd_T27 l0 a1).f0).toList)),(by first | rfl | (simp;done) | (simp only [← hji6] <;> (first | rfl | simp)) | (simp [*];done)),H',⟨by first | omega | exact Nat.le_refl _⟩,by repeat (first | exact Drawn0.refl _ | apply Drawn0.step)⟩
 case rest =>
  clear HC4
  try clear c1
  try clear c2
  try clear p2
  try clear p3
  try clear q3
  try clear hx3
  try clear c5
  try clear c5b0
  try clear c5b1
  try clear c6
  try clear p6
  try clear c7
  try clear c7b0
  try clear c8
  try clear c8b0
  try clear c9
  try clear c9b0
  try clear c10
  try clear c10b0
  try clear hx365_0
  try clear hx365_1
  try clear hx365_2
  try clear hx365_3
  try clear hx366_0
  try clear hx366_1
  try clear hx366_2
  try clear hx366_3
  try clear p365
  try clear p366
  try clear q365
  try clear q366
  obtain ⟨kq,x23_3,rfl,HA,HJ3,⟨mc3,rfl⟩⟩:=hcut
  cases kq with
  | zero => exact absurd HA.out (by simp [spec_l11Seen.j0])
  | succ kj3 =>
   have H:=HA.out
   clear HA
   simp only [spec_l11Seen.j0] at H
   by_cases c11 : x23_3 = true
   ·subst c11
    have H1 : (some true) = some r:=by rw [if_pos rfl] at H;exact H
    clear H
    have H:=H1
    clear H1
    obtain rfl:=Option.some.inj H
    go_wp2
    repeat (go_quiet (fail);try go_wp2)
    go_ret
    exact ⟨by first | rfl | (simp;done) | (simp [*];done),by repeat (first | exact Drawn0.refl _ | apply Drawn0.step)⟩
   replace c11:=Bool.eq_false_iff.mpr c11
   subst c11
   have H1 : (spec_l11Seen.l0 kj3 l0 a1 l2 0) = some r:=by rw [if_neg (show ¬ (false = true) by decide)] at H;exact H
   clear H
   have H:=H1
   clear H1
   have H':=Aside0.mk H
   clear H
   go_wp2
   repeat (go_quiet (fail);try go_wp2)
   go_loopg [7] kj3 (fun kq v7 w' => ∃ (x7_2 : Int),v7 = .int .i64 x7_2 ∧ Aside0 (spec_l11Seen.l0 kq l0 a1 l2 x7_2 = some r) ∧ Aside0 (kq ≤ kj3) ∧ Drawn0 w w')
   case atStart => exact ⟨(0),(by first | rfl | (simp;done) | (simp [*];done)),H',⟨Nat.le_refl _⟩,by repeat (first | exact Drawn0.refl _ | apply Drawn0.step)⟩
   case round =>
    clear H'
    try clear c1
    try clear c2
    try clear p2
    try clear c3
    try clear p3
    try clear q3
    try clear hx3
    try clear c5
    try clear c5b0
    try clear c5b1
    try clear c6
    try clear p6
    try clear c7
    try clear c7b0
    try clear c8
    try clear c8b0
    try clear c9
    try clear c9b0
    try clear c10
    try clear c10b0
    try clear c11
    try clear hx365_0
    try clear hx365_1
    try clear hx365_2
    try clear hx365_3
    try clear hx366_0
    try clear hx366_1
    try clear hx366_2
    try clear hx366_3
    try clear p2
    try clear p3
    try clear p365
    try clear p366
    try clear p6
    try clear q3
    try clear q365
    try clear q366
    obtain ⟨x7_2,rfl,HA,HK2,⟨m2,rfl⟩⟩:=hrel
    cases gk with
    | zero => exact absurd HA.out (by simp [spec_l11Seen.l0])
    | succ k2 =>
     have H:=HA.out
     clear HA
     simp only [spec_l11Seen.l0] at H
     by_cases c12 : x7_2 < (l2.length : Int)
     rotate_left
     ·rw [if_neg c12] at H
      have c12b0 : decide (x7_2 < (l2.length : Int)) = false:=decide_eq_false c12
      clear c12
      obtain rfl:=Option.some.inj H
      go_wp2
      repeat (go_quiet (fail);try go_wp2)
      go_ret
      exact ⟨by first | rfl | (simp;done) | (simp [*];done),by repeat (first | exact Drawn0.refl _ | apply Drawn0.step)⟩
     rw [if_pos c12] at H
     have c12b0 : decide (x7_2 < (l2.length : Int)) = true:=decide_eq_true c12
     clear c12
     by_cases c13 : 0 ≤ a1
     rotate_left
     ·rw [if_neg c13] at H
      exact absurd H (by simp)
     rw [if_pos c13] at H
     have c13b0 : decide (0 ≤ a1) = true:=decide_eq_true c13
     clear c13
     by_cases c14 : a1 < (l0.length : Int)
     rotate_left
     ·rw [if_neg c14] at H
      exact absurd H (by simp)
     rw [if_pos c14] at H
     have c14b0 : decide (a1 < (l0.length : Int)) = true:=decide_eq_true c14
     clear c14
     by_cases c15 : 0 ≤ x7_2
     rotate_left
     ·rw [if_neg c15] at H
      exact absurd H (by simp)
     rw [if_pos c15] at H
     have c15b0 : decide (0 ≤ x7_2) = true:=decide_eq_true c15
     clear c15
     by_cases c16 : ((rd_T27 l0 a1).f3) ≤ (rd l2 x7_2)
     rotate_left
     ·rw [if_neg c16] at H
      have c16b0 : decide (((rd_T27 l0 a1).f3) ≤ (rd l2 x7_2)) = false:=decide_eq_false c16
      clear c16
      have H':=Aside0.mk H
      clear H
      have p367 : 0 ≤ (a1 : Int):=of_decide_eq_true T12q1
      have q367 : a1 < (l0.length : Int):=of_decide_eq_true T12q1
      obtain ⟨ad367,e367,hx367_0,hx367_1,hx367_2,hx367_3⟩:=at_T27 HR0.out a1 p367 q367
      cases e367
      replace p367:=eq_true p367
      replace q367:=eq_true q367
      have p368 : 0 ≤ (x7_2 : Int):=of_decide_eq_true T12q1
      have q368 : x7_2 < (l2.length : Int):=of_decide_eq_true T12q1
      obtain ⟨ad368,e368,hx368_0⟩:=Kd.at_int HR2.out x7_2 p368 q368
      cases e368
      replace p368:=eq_true p368
      replace q368:=eq_true q368
      go_wp2
      repeat (go_quiet (fail);try go_wp2)
      go_roundg k2
      case measure => have:=HJ3.out;have:=HK2.out;omega
      case rel => exact ⟨(wrap64 (x7_2 + 1)),(by first | rfl | (simp;done) | (simp [*];done)),H',⟨by have:=HJ3.out;have:=HK2.out;omega⟩,by repeat (first | exact Drawn0.refl _ | apply Drawn0.step)⟩
     rw [if_pos c16] at H
     have c16b0 : decide (((rd_T27 l0 a1).f3) ≤ (rd l2 x7_2)) = true:=decide_eq_true c16
     clear c16
     obtain ⟨ji17,hji17⟩ : ∃ j_ : Int,(wrap64 (a1 - 1)) = j_:=⟨_,rfl⟩
     replace H : (if 0 ≤ (ji17) then (if (ji17) < (l0.length : Int) then (if (rd l2 x7_2) < ((rd_T27 l0 (ji17)).f3) then (some true) else (spec_l11Seen.l0 k2 l0 a1 l2 (wrap64 (x7_2 + 1)))) else (none)) else (none)) = some r:=by first | (rw [hji17] at H;exact H) | (simp only [hji17] at H ⊢;exact H)
     have hji17w : (IntKind.i64.wrap (a1 - 1)) = ji17:=(i64_w _).trans hji17
     by_cases c18 : 0 ≤ (ji17)
     rotate_left
     ·rw [if_neg c18] at H
      exact absurd H (by simp)
     rw [if_pos c18] at H
     have c18b0 : decide (0 ≤ (ji17)) = true:=decide_eq_true c18
     clear c18
     by_cases c19 : (ji17) < (l0.length : Int)
     rotate_left
     ·rw [if_neg c19] at H
      exact absurd H (by simp)
     rw [if_pos c19] at H
     have c19b0 : decide ((ji17) < (l0.length : Int)) = true:=decide_eq_true c19
     clear c19
     by_cases c20 : (rd l2 x7_2) < ((rd_T27 l0 (ji17)).f3)
     ·rw [if_pos c20] at H
      have c20b0 : decide ((rd l2 x7_2) < ((rd_T27 l0 (ji17)).f3)) = true:=decide_eq_true c20
      clear c20
      obtain rfl:=Option.some.inj H
      have p367 : 0 ≤ (a1 : Int):=of_decide_eq_true T12q1
      have q367 : a1 < (l0.length : Int):=of_decide_eq_true T12q1
      obtain ⟨ad367,e367,hx367_0,hx367_1,hx367_2,hx367_3⟩:=at_T27 HR0.out a1 p367 q367
      cases e367
      replace p367:=eq_true p367
      replace q367:=eq_true q367
      have p368 : 0 ≤ (x7_2 : Int):=of_decide_eq_true T12q1
      have q368 : x7_2 < (l2.length : Int):=of_decide_eq_true T12q1
      obtain ⟨ad368,e368,hx368_0⟩:=Kd.at_int HR2.out x7_2 p368 q368
      cases e368
      replace p368:=eq_true p368
      replace q368:=eq_true q368
      have p369 : 0 ≤ (x7_2 : Int):=of_decide_eq_true T12q1
      have q369 : x7_2 < (l2.length : Int):=of_decide_eq_true T12q1
      obtain ⟨ad369,e369,hx369_0⟩:=Kd.at_int HR2.out x7_2 p369 q369
      obtain rfl : ad368 = ad369:=(by injection e369)
      replace p369:=eq_true p369
      replace q369:=eq_true q369
      have p370 : 0 ≤ ((ji17) : Int):=of_decide_eq_true T12q1
      have q370 : (ji17) < (l0.length : Int):=of_decide_eq_true T12q1
      obtain ⟨ad370,e370,hx370_0,hx370_1,hx370_2,hx370_3⟩:=at_T27 HR0.out (ji17) p370 q370
      obtain rfl : ad367 = ad370:=(by injection e370)
      replace p370:=eq_true p370
      replace q370:=eq_true q370
      go_wp2
      repeat (go_quiet (fail);try go_wp2)
      go_ret
      exact ⟨by first | rfl | (simp;done) | (simp only [← hji17] <;> (first | rfl | simp)) | (simp [*];done),by repeat (first | exact Drawn0.refl _ | apply Drawn0.step)⟩
     rw [if_neg c20] at H
     have c20b0 : decide ((rd l2 x7_2) < ((rd_T27 l0 (ji17)).f3)) = false:=decide_eq_false c20
     clear c20
     have H':=Aside0.mk H
     clear H
     have p367 : 0 ≤ (a1 : Int):=of_decide_eq_true T12q1
     have q367 : a1 < (l0.length : Int):=of_decide_eq_true T12q1
     obtain ⟨ad367,e367,hx367_0,hx367_1,hx367_2,hx367_3⟩:=at_T27 HR0.out a1 p367 q367
     cases e367
     replace p367:=eq_true p367
     replace q367:=eq_true q367
     have p368 : 0 ≤ (x7_2 : Int):=of_decide_eq_true T12q1
     have q368 : x7_2 < (l2.length : Int):=of_decide_eq_true T12q1
     obtain ⟨ad368,e368,hx368_0⟩:=Kd.at_int HR2.out x7_2 p368 q368
     cases e368
     replace p368:=eq_true p368
     replace q368:=eq_true q368
     have p369 : 0 ≤ (x7_2 : Int):=of_decide_eq_true T12q1
     have q369 : x7_2 < (l2.length : Int):=of_decide_eq_true T12q1
     obtain ⟨ad369,e369,hx369_0⟩:=Kd.at_int HR2.out x7_2 p369 q369
     obtain rfl : ad368 = ad369:=(by injection e369)
     replace p369:=eq_true p369
     replace q369:=eq_true q369
     have p370 : 0 ≤ ((ji17) : Int):=of_decide_eq_true T12q1
     have q370 : (ji17) < (l0.length : Int):=of_decide_eq_true T12q1
     obtain ⟨ad370,e370,hx370_0,hx370_1,hx370_2,hx370_3⟩:=at_T27 HR0.out (ji17) p370 q370
     obtain rfl : ad367 = ad370:=(by injection e370)
     replace p370:=eq_true p370
     replace q370:=eq_true q370
     go_wp2
     repeat (go_quiet (fail);try go_wp2)
     go_roundg k2
     case measure => have:=HJ3.out;have:=HK2.out;omega
     case rel => exact ⟨(wrap64 (x7_2 + 1)),(by first | rfl | (simp;done) | (simp [*];done)),H',⟨by have:=HJ3.out;have:=HK2.out;omega⟩,by repeat (first | exact Drawn0.refl _ | apply Drawn0.step)⟩
/-! ### spec_l11Trim: function 49 -/
mutual
def spec_l11Trim.l0 : Nat → List (S27) → List Int → Bool → List (S27) → Int → Option ((List (S27)))
 | 0,_,_,_,_,_ => none
 | k + 1,x0,x1,x2,x7,x8 => if x8 < (x0.length : Int) then ((spec_l11Seen.f k x0 x8 x1).bind fun t374 => (if t374 = true then (if 0 ≤ x8 then (if x7.length < 3518437208883 then (spec_l11Trim.l0 k x0 x1 x2 (x7 ++ [(⟨(rd_T27 x0 x8).f0,(rd_T27 x0 x8).f1,(rd_T27 x0 x8).f2,(rd_T27 x0 x8).f3⟩ : S27)]) (wrap64 (x8 + 1))) else (none)) else (none)) else (spec_l11Trim.l0 k x0 x1 x2 x7 (wrap64 (x8 + 1))))) else (if x2 = true then (spec_l11Trim.l1 k x7 (([] : List (S27))) 0) else (some x7))
def spec_l11Trim.l1 : Nat → List (S27) → List (S27) → Int → Option ((List (S27)))
 | 0,_,_,_ => none
 | k + 1,x7,x9,x10 => if x10 < (x7.length : Int) then (if (wrap64 (x10 + 1)) ≥ (x7.length : Int) then (if 0 ≤ x10 then (if ((rd_T27 x7 x10).f2 = true) then (spec_l11Trim.l1 k x7 x9 (wrap64 (x10 + 1))) else (if x9.length < 3518437208883 then (spec_l11Trim.l1 k x7 (x9 ++ [(⟨(rd_T27 x7 x10).f0,(rd_T27 x7 x10).f1,(rd_T27 x7 x10).f2,(rd_T27 x7 x10).f3⟩ : S27)]) (wrap64 (x10 + 1))) else (none))) else (none)) else (if 0 ≤ (wrap64 (x10 + 1)) then (if (wrap64 (x10 + 1)) < (x7.length : Int) then (if 0 ≤ x10 then (if ((rd_T27 x7 x10).f2 = true) then (if (¬ ((rd_T27 x7 (wrap64 (x10 + 1))).f0).toList = ((rd_T27 x7 x10).f0).toList) then (spec_l11Trim.l1 k x7 x9 (wrap64 (x10 + 1))) else (if x9.length < 3518437208883 then (spec_l11Trim.l1 k x7 (x9 ++ [(⟨(rd_T27 x7 x10).f0,(rd_T27 x7 x10).f1,(rd_T27 x7 x10).f2,(rd_T27 x7 x10).f3⟩ : S27)]) (wrap64 (x10 + 1))) else (none))) else (if x9.length < 3518437208883 then (spec_l11Trim.l1 k x7 (x9 ++ [(⟨(rd_T27 x7 x10).f0,(rd_T27 x7 x10).f1,(rd_T27 x7 x10).f2,(rd_T27 x7 x10).f3⟩ : S27)]) (wrap64 (x10 + 1))) else (none))) else (none)) else (none)) else (none))) else (some x9)
end
def spec_l11Trim.f (k : Nat) (l0 : List (S27)) (l1 : List Int) (a2 : Bool) : Option ((List (S27))):=spec_l11Trim.l0 k l0 l1 a2 (([] : List (S27))) 0
set_option maxHeartbeats 8000000 in
set_option maxRecDepth 100000 in
theorem spec_l11Trim.calls (k : Nat) (A0 : Option Addr) (c0 : Nat) (l0 : List (S27)) (A1 : Option Addr) (c1 : Nat) (l1 : List Int) (a2 : Bool) (r : List (S27)) (w : World) (hr0 : Kd.C k27 w A0 l0.length l0) (hc0 : l0.length ≤ c0) (hr1 : Kd.C (Kd.int .i64) w A1 l1.length l1) (hc1 : l1.length ≤ c1) (h : spec_l11Trim.f k l0 l1 a2 = some r) :
  Calls Try.prog 49 #[.slice A0 l0.length c0,.slice A1 l1.length c1,.bool a2] w fun e w' => ∃ v0_ : Value,e = .returned (v0_) ∧ Kd.R k27 27 w' w.heap.size (fun _ => True) v0_ r ∧ Below w.heap.size w w':=by
 have hu27:=Try.underlying27
 have HR0:=Aside0.mk hr0
 have HC0:=Aside0.mk hc0
 clear hr0 hc0
 have HR1:=Aside0.mk hr1
 have HC1:=Aside0.mk hc1
 clear hr1 hc1
 have HB:=Aside0.mk (Below.refl w.heap.size w)
 have H : (spec_l11Trim.l0 k l0 l1 a2 (([] : List (S27))) 0) = some r:=h
 clear h
 obtain ⟨y371,hy371⟩ : ∃ y_ : List (S27),y_ = (([] : List (S27))):=⟨_,rfl⟩
 replace H : (spec_l11Trim.l0 k l0 l1 a2 y371 0) = some r:=by first | (rw [hy371];with_reducible exact H) | (have H2_:=(Option.bind_some _ _).symm.trans H;rw [hy371];with_reducible exact H2_) | (have H2_:=(Option.bind_some _ _).symm.trans H;with_reducible exact H2_) | with_reducible exact H | (rw [hy371];exact H) | exact H
 have Ny371:=Aside0.mk hy371
 clear hy371
 have H':=Aside0.mk H
 clear H
 go_enter Try.func49,Try.ntmps49
 go_wp2_with (first | ((with_reducible refine gate_dst (N:=12) rfl ?_);refine Kd.R_lit k27 _ 27 ?hg (N:=12) ?hd (xs:=([] : List (S27))) (inner:=[]) (ok:=fun _ => True) (okp:=fun _ => True) ?hr ?hp (fun _ hk => hk) trivial (Below.refl _ _) (Nat.le_refl _) (by simp) ?_;(case hd => rfl);(case hg => rfl);(case hr => first | (go_simp;done) | (go_simp;rfl));(case hp => exact (Reps.none _ _));intro v372 w4 ho5 hb hg_ hnew_;clear hg_ hnew_;(first | rw [← Ny371.out] at ho5 | (simp only [Int.reduceToNat] at ho5;rw [← Ny371.out] at ho5));have n0_:=Aside0.mk (Kd.R_lower ho5 (below_size (by repeat (first | (with_reducible first | exact HB.out | apply below_alloc | apply pw_below_drewN | apply below_drew1) | exact HB.out))));have n1_:=Aside0.mk (below_step (by repeat (first | (with_reducible first | exact HB.out | apply below_alloc | apply pw_below_drewN | apply below_drew1) | exact HB.out)) hb);clear HB;have HO373:=n0_;have HB:=n1_;clear n0_ n1_;clear hb ho5))
 repeat (go_quiet (first | ((with_reducible refine gate_dst (N:=12) rfl ?_);refine Kd.R_lit k27 _ 27 ?hg (N:=12) ?hd (xs:=([] : List (S27))) (inner:=[]) (ok:=fun _ => True) (okp:=fun _ => True) ?hr ?hp (fun _ hk => hk) trivial (Below.refl _ _) (Nat.le_refl _) (by simp) ?_;(case hd => rfl);(case hg => rfl);(case hr => first | (go_simp;done) | (go_simp;rfl));(case hp => exact (Reps.none _ _));intro v372 w4 ho5 hb hg_ hnew_;clear hg_ hnew_;(first | rw [← Ny371.out] at ho5 | (simp only [Int.reduceToNat] at ho5;rw [← Ny371.out] at ho5));have n0_:=Aside0.mk (Kd.R_lower ho5 (below_size (by repeat (first | (with_reducible first | exact HB.out | apply below_alloc | apply pw_below_drewN | apply below_drew1) | exact HB.out))));have n1_:=Aside0.mk (below_step (by repeat (first | (with_reducible first | exact HB.out | apply below_alloc | apply pw_below_drewN | apply below_drew1) | exact HB.out)) hb);clear HB;have HO373:=n0_;have HB:=n1_;clear n0_ n1_;clear hb ho5));try go_wp2_with (first | ((with_reducible refine gate_dst (N:=12) rfl ?_);refine Kd.R_lit k27 _ 27 ?hg (N:=12) ?hd (xs:=([] : List (S27))) (inner:=[]) (ok:=fun _ => True) (okp:=fun _ => True) ?hr ?hp (fun _ hk => hk) trivial (Below.refl _ _) (Nat.le_refl _) (by simp) ?_;(case hd => rfl);(case hg => rfl);(case hr => first | (go_simp;done) | (go_simp;rfl));(case hp => exact (Reps.none _ _));intro v372 w4 ho5 hb hg_ hnew_;clear hg_ hnew_;(first | rw [← Ny371.out] at ho5 | (simp only [Int.reduceToNat] at ho5;rw [← Ny371.out] at ho5));have n0_:=Aside0.mk (Kd.R_lower ho5 (below_size (by repeat (first | (with_reducible first | exact HB.out | apply below_alloc | apply pw_below_drewN | apply below_drew1) | exact HB.out))));have n1_:=Aside0.mk (below_step (by repeat (first | (with_reducible first | exact HB.out | apply below_alloc | apply pw_below_drewN | apply below_drew1) | exact HB.out)) hb);clear HB;have HO373:=n0_;have HB:=n1_;clear n0_ n1_;clear hb ho5)))
 go_loopg [7,8] k (fun kq v7 v8 w' => ∃ (x7_1 : List (S27)) (x8_1 : Int),v8 = .int .i64 x8_1 ∧ Aside0 (spec_l11Trim.l0 kq l0 l1 a2 x7_1 x8_1 = some r) ∧ Aside0 (kq ≤ k) ∧ Aside0 (Kd.R k27 27 w' w.heap.size (fun _ => True) v7 x7_1) ∧ Aside0 (Below w.heap.size w w'))
 case atStart => exact ⟨(y371),(0),(by first | rfl | (simp;done) | (simp [*];done)),H',⟨Nat.le_refl _⟩,⟨by (with_reducible repeat (first | apply Kd.R_alloc | apply Kd.R_drewN | apply Kd.R_drew));exact HO373.out⟩,⟨by repeat (first | (with_reducible first | exact HB.out | apply below_alloc | apply pw_below_drewN | apply below_drew1) | exact HB.out)⟩⟩
 case round =>
  clear H'
  try clear c1
  try clear p2
  try clear c4
  obtain ⟨x7_1,x8_1,rfl,HA,HK1,HO_7,HB⟩:=hrel
  cases gk with
  | zero => exact absurd HA.out (by simp [spec_l11Trim.l0])
  | succ k1 =>
   have H:=HA.out
   clear HA
   simp only [spec_l11Trim.l0] at H
   by_cases c6 : x8_1 < (l0.length : Int)
   ·rw [if_pos c6] at H
    have c6b0 : decide (x8_1 < (l0.length : Int)) = true:=decide_eq_true c6
    clear c6
    replace H:=Option.bind_eq_some_iff.mp H
    obtain ⟨t374,A70,H⟩:=H
    replace H : (if t374 = true then (if 0 ≤ x8_1 then (if x7_1.length < 3518437208883 then (spec_l11Trim.l0 k1 l0 l1 a2 (x7_1 ++ [(⟨(rd_T27 l0 x8_1).f0,(rd_T27 l0 x8_1).f1,(rd_T27 l0 x8_1).f2,(rd_T27 l0 x8_1).f3⟩ : S27)]) (wrap64 (x8_1 + 1))) else (none)) else (none)) else (spec_l11Trim.l0 k1 l0 l1 a2 x7_1 (wrap64 (x8_1 + 1)))) = some r:=H
    have A7:=Aside0.mk A70
    clear A70
    by_cases c8 : t374 = true
    rotate_left
    ·replace c8:=Bool.eq_false_iff.mpr c8
     subst c8
     have H1 : (spec_l11Trim.l0 k1 l0 l1 a2 x7_1 (wrap64 (x8_1 + 1))) = some r:=by rw [if_neg (show ¬ (false = true) by decide)] at H;exact H
     clear H
     have H:=H1
     clear H1
     have H':=Aside0.mk H
     clear H
     go_wp2_with (first | (go_at_call 63;(with_reducible refine (spec_l11Seen.calls k1 _ _ l0 x8_1 _ _ l1 false _ ?side1 ?side2 ?side3 ?side4 A7.out).mono ?_);(case side1 => repeat (first | exact (Kd.C_below HR0.out HB.out) | (with_reducible refine Kd.C_alloc ?_ _) | (with_reducible refine Kd.C_drewN ?_ _) | (with_reducible refine Kd.C_drew ?_)));(case side2 => exact HC0.out);(case side3 => repeat (first | exact (Kd.C_below HR1.out HB.out) | (with_reducible refine Kd.C_alloc ?_ _) | (with_reducible refine Kd.C_drewN ?_ _) | (with_reducible refine Kd.C_drew ?_)));(case side4 => exact HC1.out);rintro e w' ⟨rfl,⟨nd,rfl⟩⟩;(try first | exact ⟨rfl,_,World.drewN_drewN _ _ _⟩ | exact ⟨rfl,_,Eq.trans (World.drewN_drewN _ _ _) (congrArg (World.drewN _) (Nat.add_assoc _ _ _))⟩)))
     repeat (go_quiet (first | (go_at_call 63;(with_reducible refine (spec_l11Seen.calls k1 _ _ l0 x8_1 _ _ l1 false _ ?side1 ?side2 ?side3 ?side4 A7.out).mono ?_);(case side1 => repeat (first | exact (Kd.C_below HR0.out HB.out) | (with_reducible refine Kd.C_alloc ?_ _) | (with_reducible refine Kd.C_drewN ?_ _) | (with_reducible refine Kd.C_drew ?_)));(case side2 => exact HC0.out);(case side3 => repeat (first | exact (Kd.C_below HR1.out HB.out) | (with_reducible refine Kd.C_alloc ?_ _) | (with_reducible refine Kd.C_drewN ?_ _) | (with_reducible refine Kd.C_drew ?_)));(case side4 => exact HC1.out);rintro e w' ⟨rfl,⟨nd,rfl⟩⟩;(try first | exact ⟨rfl,_,World.drewN_drewN _ _ _⟩ | exact ⟨rfl,_,Eq.trans (World.drewN_drewN _ _ _) (congrArg (World.drewN _) (Nat.add_assoc _ _ _))⟩)));try go_wp2_with (first | (go_at_call 63;(with_reducible refine (spec_l11Seen.calls k1 _ _ l0 x8_1 _ _ l1 false _ ?side1 ?side2 ?side3 ?side4 A7.out).mono ?_);(case side1 => repeat (first | exact (Kd.C_below HR0.out HB.out) | (with_reducible refine Kd.C_alloc ?_ _) | (with_reducible refine Kd.C_drewN ?_ _) | (with_reducible refine Kd.C_drew ?_)));(case side2 => exact HC0.out);(case side3 => repeat (first | exact (Kd.C_below HR1.out HB.out) | (with_reducible refine Kd.C_alloc ?_ _) | (with_reducible refine Kd.C_drewN ?_ _) | (with_reducible refine Kd.C_drew ?_)));(case side4 => exact HC1.out);rintro e w' ⟨rfl,⟨nd,rfl⟩⟩;(try first | exact ⟨rfl,_,World.drewN_drewN _ _ _⟩ | exact ⟨rfl,_,Eq.trans (World.drewN_drewN _ _ _) (congrArg (World.drewN _) (Nat.add_assoc _ _ _))⟩))))
     go_roundg k1
     case measure => have:=HK1.out;omega
     case rel => exact ⟨(x7_1),(wrap64 (x8_1 + 1)),(by first | rfl | (simp;done) | (simp [*];done)),H',⟨by have:=HK1.out;omega⟩,⟨by (with_reducible repeat (first | apply Kd.R_alloc | apply Kd.R_drewN | apply Kd.R_drew));exact HO_7.out⟩,⟨by repeat (first | (with_reducible first | exact HB.out | apply below_alloc | apply pw_below_drewN | apply below_drew1) | exact HB.out)⟩⟩
    subst c8
    have H1 : (if 0 ≤ x8_1 then (if x7_1.length < 3518437208883 then (spec_l11Trim.l0 k1 l0 l1 a2 (x7_1 ++ [(⟨(rd_T27 l0 x8_1).f0,(rd_T27 l0 x8_1).f1,(rd_T27 l0 x8_1).f2,(rd_T27 l0 x8_1).f3⟩ : S27)]) (wrap64 (x8_1 + 1))) else (none)) else (none)) = some r:=by rw [if_pos rfl] at H;exact H
    clear H
    have H:=H1
    clear H1
    by_cases c9 : 0 ≤ x8_1
    rotate_left
    ·rw [if_neg c9] at H
     exact absurd H (by simp)
    rw [if_pos c9] at H
    have c9b0 : decide (0 ≤ x8_1) = true:=decide_eq_true c9
    clear c9
    by_cases c10 : x7_1.length < 3518437208883
    rotate_left
    ·rw [if_neg c10] at H
     exact absurd H (by simp)
    rw [if_pos c10] at H
    have LMc10:=Aside0.mk c10
    clear c10
    obtain ⟨y376,hy376⟩ : ∃ y_ : List (S27),y_ = (x7_1 ++ [(⟨(rd_T27 l0 x8_1).f0,(rd_T27 l0 x8_1).f1,(rd_T27 l0 x8_1).f2,(rd_T27 l0 x8_1).f3⟩ : S27)]):=⟨_,rfl⟩
    replace H : (spec_l11Trim.l0 k1 l0 l1 a2 y376 (wrap64 (x8_1 + 1))) = some r:=by first | (rw [hy376];with_reducible exact H) | (have H2_:=(Option.bind_some _ _).symm.trans H;rw [hy376];with_reducible exact H2_) | (have H2_:=(Option.bind_some _ _).symm.trans H;with_reducible exact H2_) | with_reducible exact H | (rw [hy376];exact H) | exact H
    have Ny376:=Aside0.mk hy376
    clear hy376
    have H':=Aside0.mk H
    clear H
    go_wp2_with (first | (go_at_call 63;(with_reducible refine (spec_l11Seen.calls k1 _ _ l0 x8_1 _ _ l1 true _ ?side1 ?side2 ?side3 ?side4 A7.out).mono ?_);(case side1 => repeat (first | exact (Kd.C_below HR0.out HB.out) | (with_reducible refine Kd.C_alloc ?_ _) | (with_reducible refine Kd.C_drewN ?_ _) | (with_reducible refine Kd.C_drew ?_)));(case side2 => exact HC0.out);(case side3 => repeat (first | exact (Kd.C_below HR1.out HB.out) | (with_reducible refine Kd.C_alloc ?_ _) | (with_reducible refine Kd.C_drewN ?_ _) | (with_reducible refine Kd.C_drew ?_)));(case side4 => exact HC1.out);rintro e w' ⟨rfl,⟨nd,rfl⟩⟩;(try first | exact ⟨rfl,_,World.drewN_drewN _ _ _⟩ | exact ⟨rfl,_,Eq.trans (World.drewN_drewN _ _ _) (congrArg (World.drewN _) (Nat.add_assoc _ _ _))⟩);have p375 : 0 ≤ (x8_1 : Int):=of_decide_eq_true T12q1;have q375 : x8_1 < (l0.length : Int):=of_decide_eq_true T12q1;obtain ⟨ad375,e375,hx375_0,hx375_1,hx375_2,hx375_3⟩:=at_T27 HR0.out x8_1 p375 q375;cases e375;replace hx375_0:=(HB.out.cell (World.block_lt_of_cell? w _ hx375_0)).trans hx375_0;replace hx375_1:=(HB.out.cell (World.block_lt_of_cell? w _ hx375_1)).trans hx375_1;replace hx375_2:=(HB.out.cell (World.block_lt_of_cell? w _ hx375_2)).trans hx375_2;replace hx375_3:=(HB.out.cell (World.block_lt_of_cell? w _ hx375_3)).trans hx375_3;replace p375:=eq_true p375;replace q375:=eq_true q375) | ((with_reducible refine gate_builtin (b:=.append) (xs:=#[.tmp 23,.tmp 28]) rfl ?_);at_builtin;refine Kd.R_append k27 (w0:=w) w.heap.size rfl (.tmp 23) (.tmp 28) 23 27 (.agg #[(.string ⟨#[]⟩),(.int .i64 0),(.bool false),(.int .i64 0)]) 40 rfl Try.underlying23 info27 rfl (by decide) (by omega) u7 x7_1 (⟨(rd_T27 l0 x8_1).f0,(rd_T27 l0 x8_1).f1,(rd_T27 l0 x8_1).f2,(rd_T27 l0 x8_1).f3⟩ : S27) [.string ((rd_T27 l0 x8_1).f0),.int .i64 ((rd_T27 l0 x8_1).f1),.bool ((rd_T27 l0 x8_1).f2),.int .i64 ((rd_T27 l0 x8_1).f3)] (fun _ => True) (fun _ => False) rfl rfl ?aP (fun _ hk => hk.elim) ?aF ?aO ?aB ?aS ?aL ?_;(case aP => exact k27_mkM _ _ _ (⟨(rd_T27 l0 x8_1).f0,(rd_T27 l0 x8_1).f1,(rd_T27 l0 x8_1).f2,(rd_T27 l0 x8_1).f3⟩ : S27));(case aB => exact (by repeat (first | (with_reducible first | exact HB.out | apply below_alloc | apply pw_below_drewN | apply below_drew1) | exact HB.out)));(case aF => exact (fun _ _ => trivial));(case aO => exact T12q2);(case aS => exact (below_size (by repeat (first | (with_reducible first | exact HB.out | apply below_alloc | apply pw_below_drewN | apply below_drew1) | exact HB.out))));(case aL => have:=LMc10.out;omega);intro v377 w11 ho hb hg hat;rw [← Ny376.out] at ho;have n0_:=Aside0.mk (hb);have n1_:=Aside0.mk (ho);clear HB;clear HO_7;have HB:=n0_;have HO378:=n1_;clear n0_ n1_;clear ho hb hg hat))
    repeat (go_quiet (first | (go_at_call 63;(with_reducible refine (spec_l11Seen.calls k1 _ _ l0 x8_1 _ _ l1 true _ ?side1 ?side2 ?side3 ?side4 A7.out).mono ?_);(case side1 => repeat (first | exact (Kd.C_below HR0.out HB.out) | (with_reducible refine Kd.C_alloc ?_ _) | (with_reducible refine Kd.C_drewN ?_ _) | (with_reducible refine Kd.C_drew ?_)));(case side2 => exact HC0.out);(case side3 => repeat (first | exact (Kd.C_below HR1.out HB.out) | (with_reducible refine Kd.C_alloc ?_ _) | (with_reducible refine Kd.C_drewN ?_ _) | (with_reducible refine Kd.C_drew ?_)));(case side4 => exact HC1.out);rintro e w' ⟨rfl,⟨nd,rfl⟩⟩;(try first | exact ⟨rfl,_,World.drewN_drewN _ _ _⟩ | exact ⟨rfl,_,Eq.trans (World.drewN_drewN _ _ _) (congrArg (World.drewN _) (Nat.add_assoc _ _ _))⟩);have p375 : 0 ≤ (x8_1 : Int):=of_decide_eq_true T12q1;have q375 : x8_1 < (l0.length : Int):=of_decide_eq_true T12q1;obtain ⟨ad375,e375,hx375_0,hx375_1,hx375_2,hx375_3⟩:=at_T27 HR0.out x8_1 p375 q375;cases e375;replace hx375_0:=(HB.out.cell (World.block_lt_of_cell? w _ hx375_0)).trans hx375_0;replace hx375_1:=(HB.out.cell (World.block_lt_of_cell? w _ hx375_1)).trans hx375_1;replace hx375_2:=(HB.out.cell (World.block_lt_of_cell? w _ hx375_2)).trans hx375_2;replace hx375_3:=(HB.out.cell (World.block_lt_of_cell? w _ hx375_3)).trans hx375_3;replace p375:=eq_true p375;replace q375:=eq_true q375) | ((with_reducible refine gate_builtin (b:=.append) (xs:=#[.tmp 23,.tmp 28]) rfl ?_);at_builtin;refine Kd.R_append k27 (w0:=w) w.heap.size rfl (.tmp 23) (.tmp 28) 23 27 (.agg #[(.string ⟨#[]⟩),(.int .i64 0),(.bool false),(.int .i64 0)]) 40 rfl Try.underlying23 info27 rfl (by decide) (by omega) u7 x7_1 (⟨(rd_T27 l0 x8_1).f0,(rd_T27 l0 x8_1).f1,(rd_T27 l0 x8_1).f2,(rd_T27 l0 x8_1).f3⟩ : S27) [.string ((rd_T27 l0 x8_1).f0),.int .i64 ((rd_T27 l0 x8_1).f1),.bool ((rd_T27 l0 x8_1).f2),.int .i64 ((rd_T27 l0 x8_1).f3)] (fun _ => True) (fun _ => False) rfl rfl ?aP (fun _ hk => hk.elim) ?aF ?aO ?aB ?aS ?aL ?_;(case aP => exact k27_mkM _ _ _ (⟨(rd_T27 l0 x8_1).f0,(rd_T27 l0 x8_1).f1,(rd_T27 l0 x8_1).f2,(rd_T27 l0 x8_1).f3⟩ : S27));(case aB => exact (by repeat (first | (with_reducible first | exact HB.out | apply below_alloc | apply pw_below_drewN | apply below_drew1) | exact HB.out)));(case aF => exact (fun _ _ => trivial));(case aO => exact T12q2);(case aS => exact (below_size (by repeat (first | (with_reducible first | exact HB.out | apply below_alloc | apply pw_below_drewN | apply below_drew1) | exact HB.out))));(case aL => have:=LMc10.out;omega);intro v377 w11 ho hb hg hat;rw [← Ny376.out] at ho;have n0_:=Aside0.mk (hb);have n1_:=Aside0.mk (ho);clear HB;clear HO_7;have HB:=n0_;have HO378:=n1_;clear n0_ n1_;clear ho hb hg hat));try go_wp2_with (first | (go_at_call 63;(with_reducible refine (spec_l11Seen.calls k1 _ _ l0 x8_1 _ _ l1 true _ ?side1 ?side2 ?side3 ?side4 A7.out).mono ?_);(case side1 => repeat (first | exact (Kd.C_below HR0.out HB.out) | (with_reducible refine Kd.C_alloc ?_ _) | (with_reducible refine Kd.C_drewN ?_ _) | (with_reducible refine Kd.C_drew ?_)));(case side2 => exact HC0.out);(case side3 => repeat (first | exact (Kd.C_below HR1.out HB.out) | (with_reducible refine Kd.C_alloc ?_ _) | (with_reducible refine Kd.C_drewN ?_ _) | (with_reducible refine Kd.C_drew ?_)));(case side4 => exact HC1.out);rintro e w' ⟨rfl,⟨nd,rfl⟩⟩;(try first | exact ⟨rfl,_,World.drewN_drewN _ _ _⟩ | exact ⟨rfl,_,Eq.trans (World.drewN_drewN _ _ _) (congrArg (World.drewN _) (Nat.add_assoc _ _ _))⟩);have p375 : 0 ≤ (x8_1 : Int):=of_decide_eq_true T12q1;have q375 : x8_1 < (l0.length : Int):=of_decide_eq_true T12q1;obtain ⟨ad375,e375,hx375_0,hx375_1,hx375_2,hx375_3⟩:=at_T27 HR0.out x8_1 p375 q375;cases e375;replace hx375_0:=(HB.out.cell (World.block_lt_of_cell? w _ hx375_0)).trans hx375_0;replace hx375_1:=(HB.out.cell (World.block_lt_of_cell? w _ hx375_1)).trans hx375_1;replace hx375_2:=(HB.out.cell (World.block_lt_of_cell? w _ hx375_2)).trans hx375_2;replace hx375_3:=(HB.out.cell (World.block_lt_of_cell? w _ hx375_3)).trans hx375_3;replace p375:=eq_true p375;replace q375:=eq_true q375) | ((with_reducible refine gate_builtin (b:=.append) (xs:=#[.tmp 23,.tmp 28]) rfl ?_);at_builtin;refine Kd.R_append k27 (w0:=w) w.heap.size rfl (.tmp 23) (.tmp 28) 23 27 (.agg #[(.string ⟨#[]⟩),(.int .i64 0),(.bool false),(.int .i64 0)]) 40 rfl Try.underlying23 info27 rfl (by decide) (by omega) u7 x7_1 (⟨(rd_T27 l0 x8_1).f0,(rd_T27 l0 x8_1).f1,(rd_T27 l0 x8_1).f2,(rd_T27 l0 x8_1).f3⟩ : S27) [.string ((rd_T27 l0 x8_1).f0),.int .i64 ((rd_T27 l0 x8_1).f1),.bool ((rd_T27 l0 x8_1).f2),.int .i64 ((rd_T27 l0 x8_1).f3)] (fun _ => True) (fun _ => False) rfl rfl ?aP (fun _ hk => hk.elim) ?aF ?aO ?aB ?aS ?aL ?_;(case aP => exact k27_mkM _ _ _ (⟨(rd_T27 l0 x8_1).f0,(rd_T27 l0 x8_1).f1,(rd_T27 l0 x8_1).f2,(rd_T27 l0 x8_1).f3⟩ : S27));(case aB => exact (by repeat (first | (with_reducible first | exact HB.out | apply below_alloc | apply pw_below_drewN | apply below_drew1) | exact HB.out)));(case aF => exact (fun _ _ => trivial));(case aO => exact T12q2);(case aS => exact (below_size (by repeat (first | (with_reducible first | exact HB.out | apply below_alloc | apply pw_below_drewN | apply below_drew1) | exact HB.out))));(case aL => have:=LMc10.out;omega);intro v377 w11 ho hb hg hat;rw [← Ny376.out] at ho;have n0_:=Aside0.mk (hb);have n1_:=Aside0.mk (ho);clear HB;clear HO_7;have HB:=n0_;have HO378:=n1_;clear n0_ n1_;clear ho hb hg hat)))
    go_roundg k1
    case measure => have:=HK1.out;omega
    case rel => exact ⟨(y376),(wrap64 (x8_1 + 1)),(by first | rfl | (simp;done) | (simp [*];done)),H',⟨by have:=HK1.out;omega⟩,⟨by (with_reducible repeat (first | apply Kd.R_alloc | apply Kd.R_drewN | apply Kd.R_drew));exact HO378.out⟩,⟨by repeat (first | (with_reducible first | exact HB.out | apply below_alloc | apply pw_below_drewN | apply below_drew1) | exact HB.out)⟩⟩
   rw [if_neg c6] at H
   have c6b0 : decide (x8_1 < (l0.length : Int)) = false:=decide_eq_false c6
   clear c6
   by_cases c12 : a2 = true
   rotate_left
   ·replace c12:=Bool.eq_false_iff.mpr c12
    subst c12
    have H1 : (some x7_1) = some r:=by rw [if_neg (show ¬ (false = true) by decide)] at H;exact H
    clear H
    have H:=H1
    clear H1
    obtain rfl:=Option.some.inj H
    go_wp2
    repeat (go_quiet (fail);try go_wp2)
    go_ret
    exact ⟨_,by first | rfl | (simp [errW_none,errW_some] <;> rfl) | (simp [*,errW_none,errW_some] <;> rfl),by (with_reducible repeat (first | apply Kd.R_alloc | apply Kd.R_drewN | apply Kd.R_drew));exact HO_7.out,by repeat (first | (with_reducible first | exact HB.out | apply below_alloc | apply pw_below_drewN | apply below_drew1) | exact HB.out)⟩
   subst c12
   have H1 : (spec_l11Trim.l1 k1 x7_1 (([] : List (S27))) 0) = some r:=by rw [if_pos rfl] at H;exact H
   clear H
   have H:=H1
   clear H1
   obtain ⟨y379,hy379⟩ : ∃ y_ : List (S27),y_ = (([] : List (S27))):=⟨_,rfl⟩
   replace H : (spec_l11Trim.l1 k1 x7_1 y379 0) = some r:=by first | (rw [hy379];with_reducible exact H) | (have H2_:=(Option.bind_some _ _).symm.trans H;rw [hy379];with_reducible exact H2_) | (have H2_:=(Option.bind_some _ _).symm.trans H;with_reducible exact H2_) | with_reducible exact H | (rw [hy379];exact H) | exact H
   have Ny379:=Aside0.mk hy379
   clear hy379
   have H':=Aside0.mk H
   clear H
   go_wp2_with (first | ((with_reducible refine gate_dst (N:=33) rfl ?_);refine Kd.R_lit k27 _ 27 ?hg (N:=33) ?hd (xs:=([] : List (S27))) (inner:=[]) (ok:=fun _ => True) (okp:=fun _ => True) ?hr ?hp (fun _ hk => hk) trivial (Below.refl _ _) (Nat.le_refl _) (by simp) ?_;(case hd => rfl);(case hg => rfl);(case hr => first | (go_simp;done) | (go_simp;rfl));(case hp => exact (Reps.none _ _));intro v380 w13 ho14 hb hg_ hnew_;clear hg_ hnew_;(first | rw [← Ny379.out] at ho14 | (simp only [Int.reduceToNat] at ho14;rw [← Ny379.out] at ho14));have n0_:=Aside0.mk (Kd.R_elder' T12q2 (Kd.R_base ho14) hb);have n1_:=Aside0.mk (Kd.R_lower (Kd.R_new' ho14 (Kd.R_lt T12q2)) (below_size (by repeat (first | (with_reducible first | exact HB.out | apply below_alloc | apply pw_below_drewN | apply below_drew1) | exact HB.out))));have n2_:=Aside0.mk (below_step (by repeat (first | (with_reducible first | exact HB.out | apply below_alloc | apply pw_below_drewN | apply below_drew1) | exact HB.out)) hb);clear HO_7;clear HB;have HO_7:=n0_;have HO381:=n1_;have HB:=n2_;clear n0_ n1_ n2_;clear hb ho14))
   repeat (go_quiet (first | ((with_reducible refine gate_dst (N:=33) rfl ?_);refine Kd.R_lit k27 _ 27 ?hg (N:=33) ?hd (xs:=([] : List (S27))) (inner:=[]) (ok:=fun _ => True) (okp:=fun _ => True) ?hr ?hp (fun _ hk => hk) trivial (Below.refl _ _) (Nat.le_refl _) (by simp) ?_;(case hd => rfl);(case hg => rfl);(case hr => first | (go_simp;done) | (go_simp;rfl));(case hp => exact (Reps.none _ _));intro v380 w13 ho14 hb hg_ hnew_;clear hg_ hnew_;(first | rw [← Ny379.out] at ho14 | (simp only [Int.reduceToNat] at ho14;rw [← Ny379.out] at ho14));have n0_:=Aside0.mk (Kd.R_elder' T12q2 (Kd.R_base ho14) hb);have n1_:=Aside0.mk (Kd.R_lower (Kd.R_new' ho14 (Kd.R_lt T12q2)) (below_size (by repeat (first | (with_reducible first | exact HB.out | apply below_alloc | apply pw_below_drewN | apply below_drew1) | exact HB.out))));have n2_:=Aside0.mk (below_step (by repeat (first | (with_reducible first | exact HB.out | apply below_alloc | apply pw_below_drewN | apply below_drew1) | exact HB.out)) hb);clear HO_7;clear HB;have HO_7:=n0_;have HO381:=n1_;have HB:=n2_;clear n0_ n1_ n2_;clear hb ho14));try go_wp2_with (first | ((with_reducible refine gate_dst (N:=33) rfl ?_);refine Kd.R_lit k27 _ 27 ?hg (N:=33) ?hd (xs:=([] : List (S27))) (inner:=[]) (ok:=fun _ => True) (okp:=fun _ => True) ?hr ?hp (fun _ hk => hk) trivial (Below.refl _ _) (Nat.le_refl _) (by simp) ?_;(case hd => rfl);(case hg => rfl);(case hr => first | (go_simp;done) | (go_simp;rfl));(case hp => exact (Reps.none _ _));intro v380 w13 ho14 hb hg_ hnew_;clear hg_ hnew_;(first | rw [← Ny379.out] at ho14 | (simp only [Int.reduceToNat] at ho14;rw [← Ny379.out] at ho14));have n0_:=Aside0.mk (Kd.R_elder' T12q2 (Kd.R_base ho14) hb);have n1_:=Aside0.mk (Kd.R_lower (Kd.R_new' ho14 (Kd.R_lt T12q2)) (below_size (by repeat (first | (with_reducible first | exact HB.out | apply below_alloc | apply pw_below_drewN | apply below_drew1) | exact HB.out))));have n2_:=Aside0.mk (below_step (by repeat (first | (with_reducible first | exact HB.out | apply below_alloc | apply pw_below_drewN | apply below_drew1) | exact HB.out)) hb);clear HO_7;clear HB;have HO_7:=n0_;have HO381:=n1_;have HB:=n2_;clear n0_ n1_ n2_;clear hb ho14)))
   go_loopg [9,10] k1 (fun kq v9 v10 w' => ∃ (x9_2 : List (S27)) (x10_2 : Int),v10 = .int .i64 x10_2 ∧ Aside0 (spec_l11Trim.l1 kq x7_1 x9_2 x10_2 = some r) ∧ Aside0 (kq ≤ k1) ∧ Aside0 (Kd.R k27 27 w' w.heap.size (fun k_ => some k_ ≠ (v9 : Value).ownBlock) u7 x7_1) ∧ Aside0 (Kd.R k27 27 w' w.heap.size (fun k_ => some k_ ≠ (u7 : Value).ownBlock) v9 x9_2) ∧ Aside0 (Below w.heap.size w w'))
   case atStart => exact ⟨(y379),(0),(by first | rfl | (simp;done) | (simp [*];done)),H',⟨Nat.le_refl _⟩,⟨by (with_reducible repeat (first | apply Kd.R_alloc | apply Kd.R_drewN | apply Kd.R_drew));exact Kd.R_mono HO_7.out (fun _ hk => hk.2)⟩,⟨by (with_reducible repeat (first | apply Kd.R_alloc | apply Kd.R_drewN | apply Kd.R_drew));exact Kd.R_mono HO381.out (fun _ hk => hk.2)⟩,⟨by repeat (first | (with_reducible first | exact HB.out | apply below_alloc | apply pw_below_drewN | apply below_drew1) | exact HB.out)⟩⟩
   case round =>
    clear H'
    try clear c1
    try clear p2
    try clear p3
    try clear q3
    try clear hx3
    try clear c4
    try clear c6
    try clear c6b0
    try clear p6
    try clear c8
    try clear c9
    try clear c9b0
    try clear c10
    try clear c12
    try clear hx375_0
    try clear hx375_1
    try clear hx375_2
    try clear hx375_3
    try clear p2
    try clear p375
    try clear q375
    obtain ⟨x9_2,x10_2,rfl,HA,HK2,HO_7,HO_9,HB⟩:=hrel
    cases gk with
    | zero => exact absurd HA.out (by simp [spec_l11Trim.l1])
    | succ k2 =>
     have H:=HA.out
     clear HA
     simp only [spec_l11Trim.l1] at H
     by_cases c15 : x10_2 < (x7_1.length : Int)
     rotate_left
     ·rw [if_neg c15] at H
      have c15b0 : decide (x10_2 < (x7_1.length : Int)) = false:=decide_eq_false c15
      clear c15
      obtain rfl:=Option.some.inj H
      obtain ⟨Ao38,co38,eo38⟩:=Kd.R_slice HO_7.out
      subst eo38
      go_wp2
      repeat (go_quiet (fail);try go_wp2)
      go_ret
      exact ⟨_,by first | rfl | (simp [errW_none,errW_some] <;> rfl) | (simp [*,errW_none,errW_some] <;> rfl),by (with_reducible repeat (first | apply Kd.R_alloc | apply Kd.R_drewN | apply Kd.R_drew));exact Kd.R_mono HO_9.out (fun _ hk => trivial),by repeat (first | (with_reducible first | exact HB.out | apply below_alloc | apply pw_below_drewN | apply below_drew1) | exact HB.out)⟩
     rw [if_pos c15] at H
     have c15b0 : decide (x10_2 < (x7_1.length : Int)) = true:=decide_eq_true c15
     clear c15
     by_cases c16 : (wrap64 (x10_2 + 1)) ≥ (x7_1.length : Int)
     ·rw [if_pos c16] at H
      have c16b0 : decide ((x7_1.length : Int) ≤ (wrap64 (x10_2 + 1))) = true:=decide_eq_true c16
      clear c16
      by_cases c17 : 0 ≤ x10_2
      rotate_left
      ·rw [if_neg c17] at H
       exact absurd H (by simp)
      rw [if_pos c17] at H
      have c17b0 : decide (0 ≤ x10_2) = true:=decide_eq_true c17
      clear c17
      obtain ⟨bq18,hbq18⟩ : ∃ b_ : Bool,b_ = ((rd_T27 x7_1 x10_2).f2):=⟨_,rfl⟩
      replace H : (if (bq18 = true) then (spec_l11Trim.l1 k2 x7_1 x9_2 (wrap64 (x10_2 + 1))) else (if x9_2.length < 3518437208883 then (spec_l11Trim.l1 k2 x7_1 (x9_2 ++ [(⟨(rd_T27 x7_1 x10_2).f0,(rd_T27 x7_1 x10_2).f1,bq18,(rd_T27 x7_1 x10_2).f3⟩ : S27)]) (wrap64 (x10_2 + 1))) else (none))) = some r:=by rw [← hbq18] at H;exact H
      have Nbq18:=Aside0.mk hbq18
      clear hbq18
      by_cases c19 : (bq18 = true)
      ·subst c19
       have H1 : (spec_l11Trim.l1 k2 x7_1 x9_2 (wrap64 (x10_2 + 1))) = some r:=by rw [if_pos rfl] at H;exact H
       clear H
       have H:=H1
       clear H1
       have H':=Aside0.mk H
       clear H
       obtain ⟨Ao20,co20,eo20⟩:=Kd.R_slice HO_7.out
       subst eo20
       have p382 : 0 ≤ (x10_2 : Int):=of_decide_eq_true T12q1
       have q382 : x10_2 < (x7_1.length : Int):=of_decide_eq_true T12q1
       obtain ⟨ad382,e382,hx382_0,hx382_1,hx382_2,hx382_3⟩:=at_T27 (Kd.R_reads' HO_7.out).2.2 x10_2 p382 q382
       (try rw [← Nbq18.out] at hx382_2)
       cases e382
       replace p382:=eq_true p382
       replace q382:=eq_true q382
       go_wp2
       repeat (go_quiet (fail);try go_wp2)
       go_roundg k2
       case measure => have:=HK1.out;have:=HK2.out;omega
       case rel => exact ⟨(x9_2),(wrap64 (x10_2 + 1)),(by first | rfl | (simp;done) | (simp [*];done)),H',⟨by have:=HK1.out;have:=HK2.out;omega⟩,⟨by (with_reducible repeat (first | apply Kd.R_alloc | apply Kd.R_drewN | apply Kd.R_drew));exact HO_7.out⟩,⟨by (with_reducible repeat (first | apply Kd.R_alloc | apply Kd.R_drewN | apply Kd.R_drew));exact HO_9.out⟩,⟨by repeat (first | (with_reducible first | exact HB.out | apply below_alloc | apply pw_below_drewN | apply below_drew1) | exact HB.out)⟩⟩
      replace c19:=Bool.eq_false_iff.mpr c19
      subst c19
      have H1 : (if x9_2.length < 3518437208883 then (spec_l11Trim.l1 k2 x7_1 (x9_2 ++ [(⟨(rd_T27 x7_1 x10_2).f0,(rd_T27 x7_1 x10_2).f1,false,(rd_T27 x7_1 x10_2).f3⟩ : S27)]) (wrap64 (x10_2 + 1))) else (none)) = some r:=by rw [if_neg (show ¬ (false = true) by decide)] at H;exact H
      clear H
      have H:=H1
      clear H1
      by_cases c21 : x9_2.length < 3518437208883
      rotate_left
      ·rw [if_neg c21] at H
       exact absurd H (by simp)
      rw [if_pos c21] at H
      have LMc21:=Aside0.mk c21
      clear c21
      obtain ⟨y384,hy384⟩ : ∃ y_ : List (S27),y_ = (x9_2 ++ [(⟨(rd_T27 x7_1 x10_2).f0,(rd_T27 x7_1 x10_2).f1,false,(rd_T27 x7_1 x10_2).f3⟩ : S27)]):=⟨_,rfl⟩
      replace H : (spec_l11Trim.l1 k2 x7_1 y384 (wrap64 (x10_2 + 1))) = some r:=by first | (rw [hy384];with_reducible exact H) | (have H2_:=(Option.bind_some _ _).symm.trans H;rw [hy384];with_reducible exact H2_) | (have H2_:=(Option.bind_some _ _).symm.trans H;with_reducible exact H2_) | with_reducible exact H | (rw [hy384];exact H) | exact H
      have Ny384:=Aside0.mk hy384
      clear hy384
      have H':=Aside0.mk H
      clear H
      obtain ⟨Ao22,co22,eo22⟩:=Kd.R_slice HO_7.out
      subst eo22
      have p382 : 0 ≤ (x10_2 : Int):=of_decide_eq_true T12q1
      have q382 : x10_2 < (x7_1.length : Int):=of_decide_eq_true T12q1
      obtain ⟨ad382,e382,hx382_0,hx382_1,hx382_2,hx382_3⟩:=at_T27 (Kd.R_reads' HO_7.out).2.2 x10_2 p382 q382
      (try rw [← Nbq18.out] at hx382_2)
      cases e382
      replace p382:=eq_true p382
      replace q382:=eq_true q382
      have p383 : 0 ≤ (x10_2 : Int):=of_decide_eq_true T12q1
      have q383 : x10_2 < (x7_1.length : Int):=of_decide_eq_true T12q1
      obtain ⟨ad383,e383,hx383_0,hx383_1,hx383_2,hx383_3⟩:=at_T27 (Kd.R_reads' HO_7.out).2.2 x10_2 p383 q383
      (try rw [← Nbq18.out] at hx383_2)
      obtain rfl : ad382 = ad383:=(by injection e383)
      replace p383:=eq_true p383
      replace q383:=eq_true q383
      go_wp2_with (first | ((with_reducible refine gate_builtin (b:=.append) (xs:=#[.tmp 69,.tmp 74]) rfl ?_);at_builtin;refine Kd.R_append k27 (w0:=w) w.heap.size rfl (.tmp 69) (.tmp 74) 23 27 (.agg #[(.string ⟨#[]⟩),(.int .i64 0),(.bool false),(.int .i64 0)]) 40 rfl Try.underlying23 info27 rfl (by decide) (by omega) u9 x9_2 (⟨(rd_T27 x7_1 x10_2).f0,(rd_T27 x7_1 x10_2).f1,false,(rd_T27 x7_1 x10_2).f3⟩ : S27) [.string ((rd_T27 x7_1 x10_2).f0),.int .i64 ((rd_T27 x7_1 x10_2).f1),.bool false,.int .i64 ((rd_T27 x7_1 x10_2).f3)] (fun k_ => some k_ ≠ (.slice (some ad382) x7_1.length co22 : Value).ownBlock) (fun _ => False) rfl rfl ?aP (fun _ hk => hk.elim) ?aF ?aO ?aB ?aS ?aL ?_;(case aP => exact k27_mkM _ _ _ (⟨(rd_T27 x7_1 x10_2).f0,(rd_T27 x7_1 x10_2).f1,false,(rd_T27 x7_1 x10_2).f3⟩ : S27));(case aB => exact (by repeat (first | (with_reducible first | exact HB.out | apply below_alloc | apply pw_below_drewN | apply below_drew1) | exact HB.out)));(case aF => exact (fun k_ hk => Kd.fresh' (Kd.R_lt T12q2) k_ hk));(case aO => exact T12q3);(case aS => exact (below_size (by repeat (first | (with_reducible first | exact HB.out | apply below_alloc | apply pw_below_drewN | apply below_drew1) | exact HB.out))));(case aL => have:=LMc21.out;omega);intro v385 w23 ho hb hg hat;rw [← Ny384.out] at ho;have n0_:=Aside0.mk (Kd.R_after (ok:=(fun _ => True)) T12q4 hg hat);have n1_:=Aside0.mk (hb);have n2_:=Aside0.mk (ho);clear HO_7;clear HB;clear HO_9;have HO_7:=n0_;have HB:=n1_;have HO386:=n2_;clear n0_ n1_ n2_;clear ho hb hg hat))
      repeat (go_quiet (first | ((with_reducible refine gate_builtin (b:=.append) (xs:=#[.tmp 69,.tmp 74]) rfl ?_);at_builtin;refine Kd.R_append k27 (w0:=w) w.heap.size rfl (.tmp 69) (.tmp 74) 23 27 (.agg #[(.string ⟨#[]⟩),(.int .i64 0),(.bool false),(.int .i64 0)]) 40 rfl Try.underlying23 info27 rfl (by decide) (by omega) u9 x9_2 (⟨(rd_T27 x7_1 x10_2).f0,(rd_T27 x7_1 x10_2).f1,false,(rd_T27 x7_1 x10_2).f3⟩ : S27) [.string ((rd_T27 x7_1 x10_2).f0),.int .i64 ((rd_T27 x7_1 x10_2).f1),.bool false,.int .i64 ((rd_T27 x7_1 x10_2).f3)] (fun k_ => some k_ ≠ (.slice (some ad382) x7_1.length co22 : Value).ownBlock) (fun _ => False) rfl rfl ?aP (fun _ hk => hk.elim) ?aF ?aO ?aB ?aS ?aL ?_;(case aP => exact k27_mkM _ _ _ (⟨(rd_T27 x7_1 x10_2).f0,(rd_T27 x7_1 x10_2).f1,false,(rd_T27 x7_1 x10_2).f3⟩ : S27));(case aB => exact (by repeat (first | (with_reducible first | exact HB.out | apply below_alloc | apply pw_below_drewN | apply below_drew1) | exact HB.out)));(case aF => exact (fun k_ hk => Kd.fresh' (Kd.R_lt T12q2) k_ hk));(case aO => exact T12q3);(case aS => exact (below_size (by repeat (first | (with_reducible first | exact HB.out | apply below_alloc | apply pw_below_drewN | apply below_drew1) | exact HB.out))));(case aL => have:=LMc21.out;omega);intro v385 w23 ho hb hg hat;rw [← Ny384.out] at ho;have n0_:=Aside0.mk (Kd.R_after (ok:=(fun _ => True)) T12q4 hg hat);have n1_:=Aside0.mk (hb);have n2_:=Aside0.mk (ho);clear HO_7;clear HB;clear HO_9;have HO_7:=n0_;have HB:=n1_;have HO386:=n2_;clear n0_ n1_ n2_;clear ho hb hg hat));try go_wp2_with (first | ((with_reducible refine gate_builtin (b:=.append) (xs:=#[.tmp 69,.tmp 74]) rfl ?_);at_builtin;refine Kd.R_append k27 (w0:=w) w.heap.size rfl (.tmp 69) (.tmp 74) 23 27 (.agg #[(.string ⟨#[]⟩),(.int .i64 0),(.bool false),(.int .i64 0)]) 40 rfl Try.underlying23 info27 rfl (by decide) (by omega) u9 x9_2 (⟨(rd_T27 x7_1 x10_2).f0,(rd_T27 x7_1 x10_2).f1,false,(rd_T27 x7_1 x10_2).f3⟩ : S27) [.string ((rd_T27 x7_1 x10_2).f0),.int .i64 ((rd_T27 x7_1 x10_2).f1),.bool false,.int .i64 ((rd_T27 x7_1 x10_2).f3)] (fun k_ => some k_ ≠ (.slice (some ad382) x7_1.length co22 : Value).ownBlock) (fun _ => False) rfl rfl ?aP (fun _ hk => hk.elim) ?aF ?aO ?aB ?aS ?aL ?_;(case aP => exact k27_mkM _ _ _ (⟨(rd_T27 x7_1 x10_2).f0,(rd_T27 x7_1 x10_2).f1,false,(rd_T27 x7_1 x10_2).f3⟩ : S27));(case aB => exact (by repeat (first | (with_reducible first | exact HB.out | apply below_alloc | apply pw_below_drewN | apply below_drew1) | exact HB.out)));(case aF => exact (fun k_ hk => Kd.fresh' (Kd.R_lt T12q2) k_ hk));(case aO => exact T12q3);(case aS => exact (below_size (by repeat (first | (with_reducible first | exact HB.out | apply below_alloc | apply pw_below_drewN | apply below_drew1) | exact HB.out))));(case aL => have:=LMc21.out;omega);intro v385 w23 ho hb hg hat;rw [← Ny384.out] at ho;have n0_:=Aside0.mk (Kd.R_after (ok:=(fun _ => True)) T12q4 hg hat);have n1_:=Aside0.mk (hb);have n2_:=Aside0.mk (ho);clear HO_7;clear HB;clear HO_9;have HO_7:=n0_;have HB:=n1_;have HO386:=n2_;clear n0_ n1_ n2_;clear ho hb hg hat)))
      go_roundg k2
      case measure => have:=HK1.out;have:=HK2.out;omega
      case rel => exact ⟨(y384),(wrap64 (x10_2 + 1)),(by first | rfl | (simp;done) | (simp [*];done)),H',⟨by have:=HK1.out;have:=HK2.out;omega⟩,⟨by (with_reducible repeat (first | apply Kd.R_alloc | apply Kd.R_drewN | apply Kd.R_drew));exact Kd.R_mono HO_7.out (fun _ hk => hk.2)⟩,⟨by (with_reducible repeat (first | apply Kd.R_alloc | apply Kd.R_drewN | apply Kd.R_drew));exact HO386.out⟩,⟨by repeat (first | (with_reducible first | exact HB.out | apply below_alloc | apply pw_below_drewN | apply below_drew1) | exact HB.out)⟩⟩
     rw [if_neg c16] at H
     have c16b0 : decide ((x7_1.length : Int) ≤ (wrap64 (x10_2 + 1))) = false:=decide_eq_false c16
     clear c16
     obtain ⟨ji24,hji24⟩ : ∃ j_ : Int,(wrap64 (x10_2 + 1)) = j_:=⟨_,rfl⟩
     replace H : (if 0 ≤ (ji24) then (if (ji24) < (x7_1.length : Int) then (if 0 ≤ x10_2 then (if ((rd_T27 x7_1 x10_2).f2 = true) then (if (¬ ((rd_T27 x7_1 (ji24)).f0).toList = ((rd_T27 x7_1 x10_2).f0).toList) then (spec_l11Trim.l1 k2 x7_1 x9_2 ji24) else (if x9_2.length < 3518437208883 then (spec_l11Trim.l1 k2 x7_1 (x9_2 ++ [(⟨(rd_T27 x7_1 x10_2).f0,(rd_T27 x7_1 x10_2).f1,(rd_T27 x7_1 x10_2).f2,(rd_T27 x7_1 x10_2).f3⟩ : S27)]) ji24) else (none))) else (if x9_2.length < 3518437208883 then (spec_l11Trim.l1 k2 x7_1 (x9_2 ++ [(⟨(rd_T27 x7_1 x10_2).f0,(rd_T27 x7_1 x10_2).f1,(rd_T27 x7_1 x10_2).f2,(rd_T27 x7_1 x10_2).f3⟩ : S27)]) ji24) else (none))) else (none)) else (none)) else (none)) = some r:=by first | (rw [hji24] at H;exact H) | (simp only [hji24] at H ⊢;exact H)
     (try rw [hji24] at c16b0)
     have hji24w : (IntKind.i64.wrap (x10_2 + 1)) = ji24:=(i64_w _).trans hji24
     by_cases c25 : 0 ≤ (ji24)
     rotate_left
     ·rw [if_neg c25] at H
      exact absurd H (by simp)
     rw [if_pos c25] at H
     have c25b0 : decide (0 ≤ (ji24)) = true:=decide_eq_true c25
     clear c25
     by_cases c26 : (ji24) < (x7_1.length : Int)
     rotate_left
     ·rw [if_neg c26] at H
      exact absurd H (by simp)
     rw [if_pos c26] at H
     have c26b0 : decide ((ji24) < (x7_1.length : Int)) = true:=decide_eq_true c26
     clear c26
     by_cases c27 : 0 ≤ x10_2
     rotate_left
     ·rw [if_neg c27] at H
      exact absurd H (by simp)
     rw [if_pos c27] at H
     have c27b0 : decide (0 ≤ x10_2) = true:=decide_eq_true c27
     clear c27
     obtain ⟨bq28,hbq28⟩ : ∃ b_ : Bool,b_ = ((rd_T27 x7_1 x10_2).f2):=⟨_,rfl⟩
     replace H : (if (bq28 = true) then (if (¬ ((rd_T27 x7_1 (ji24)).f0).toList = ((rd_T27 x7_1 x10_2).f0).toList) then (spec_l11Trim.l1 k2 x7_1 x9_2 ji24) else (if x9_2.length < 3518437208883 then (spec_l11Trim.l1 k2 x7_1 (x9_2 ++ [(⟨(rd_T27 x7_1 x10_2).f0,(rd_T27 x7_1 x10_2).f1,bq28,(rd_T27 x7_1 x10_2).f3⟩ : S27)]) ji24) else (none))) else (if x9_2.length < 3518437208883 then (spec_l11Trim.l1 k2 x7_1 (x9_2 ++ [(⟨(rd_T27 x7_1 x10_2).f0,(rd_T27 x7_1 x10_2).f1,bq28,(rd_T27 x7_1 x10_2).f3⟩ : S27)]) ji24) else (none))) = some r:=by rw [← hbq28] at H;exact H
     have Nbq28:=Aside0.mk hbq28
     clear hbq28
     by_cases c29 : (bq28 = true)
     rotate_left
     ·replace c29:=Bool.eq_false_iff.mpr c29
      subst c29
      have H1 : (if x9_2.length < 3518437208883 then (spec_l11Trim.l1 k2 x7_1 (x9_2 ++ [(⟨(rd_T27 x7_1 x10_2).f0,(rd_T27 x7_1 x10_2).f1,false,(rd_T27 x7_1 x10_2).f3⟩ : S27)]) ji24) else (none)) = some r:=by rw [if_neg (show ¬ (false = true) by decide)] at H;exact H
      clear H
      have H:=H1
      clear H1
      by_cases c35 : x9_2.length < 3518437208883
      rotate_left
      ·rw [if_neg c35] at H
       exact absurd H (by simp)
      rw [if_pos c35] at H
      have LMc35:=Aside0.mk c35
      clear c35
      obtain ⟨y395,hy395⟩ : ∃ y_ : List (S27),y_ = (x9_2 ++ [(⟨(rd_T27 x7_1 x10_2).f0,(rd_T27 x7_1 x10_2).f1,false,(rd_T27 x7_1 x10_2).f3⟩ : S27)]):=⟨_,rfl⟩
      replace H : (spec_l11Trim.l1 k2 x7_1 y395 ji24) = some r:=by first | (rw [hy395];with_reducible exact H) | (have H2_:=(Option.bind_some _ _).symm.trans H;rw [hy395];with_reducible exact H2_) | (have H2_:=(Option.bind_some _ _).symm.trans H;with_reducible exact H2_) | with_reducible exact H | (rw [hy395];exact H) | exact H
      have Ny395:=Aside0.mk hy395
      clear hy395
      have H':=Aside0.mk H
      clear H
      obtain ⟨Ao36,co36,eo36⟩:=Kd.R_slice HO_7.out
      subst eo36
      have p387 : 0 ≤ ((ji24) : Int):=of_decide_eq_true T12q1
      have q387 : (ji24) < (x7_1.length : Int):=of_decide_eq_true T12q1
      obtain ⟨ad387,e387,hx387_0,hx387_1,hx387_2,hx387_3⟩:=at_T27 (Kd.R_reads' HO_7.out).2.2 (ji24) p387 q387
      (try rw [← Nbq28.out] at hx387_2)
      cases e387
      replace p387:=eq_true p387
      replace q387:=eq_true q387
      have p388 : 0 ≤ (x10_2 : Int):=of_decide_eq_true T12q1
      have q388 : x10_2 < (x7_1.length : Int):=of_decide_eq_true T12q1
      obtain ⟨ad388,e388,hx388_0,hx388_1,hx388_2,hx388_3⟩:=at_T27 (Kd.R_reads' HO_7.out).2.2 x10_2 p388 q388
      (try rw [← Nbq28.out] at hx388_2)
      obtain rfl : ad387 = ad388:=(by injection e388)
      replace p388:=eq_true p388
      replace q388:=eq_true q388
      have p389 : 0 ≤ (x10_2 : Int):=of_decide_eq_true T12q1
      have q389 : x10_2 < (x7_1.length : Int):=of_decide_eq_true T12q1
      obtain ⟨ad389,e389,hx389_0,hx389_1,hx389_2,hx389_3⟩:=at_T27 (Kd.R_reads' HO_7.out).2.2 x10_2 p389 q389
      (try rw [← Nbq28.out] at hx389_2)
      obtain rfl : ad387 = ad389:=(by injection e389)
      replace p389:=eq_true p389
      replace q389:=eq_true q389
      have p394 : 0 ≤ (x10_2 : Int):=of_decide_eq_true T12q1
      have q394 : x10_2 < (x7_1.length : Int):=of_decide_eq_true T12q1
      obtain ⟨ad394,e394,hx394_0,hx394_1,hx394_2,hx394_3⟩:=at_T27 (Kd.R_reads' HO_7.out).2.2 x10_2 p394 q394
      (try rw [← Nbq28.out] at hx394_2)
      obtain rfl : ad387 = ad394:=(by injection e394)
      replace p394:=eq_true p394
      replace q394:=eq_true q394
      go_wp2_with (first | ((with_reducible refine gate_builtin (b:=.append) (xs:=#[.tmp 69,.tmp 74]) rfl ?_);at_builtin;refine Kd.R_append k27 (w0:=w) w.heap.size rfl (.tmp 69) (.tmp 74) 23 27 (.agg #[(.string ⟨#[]⟩),(.int .i64 0),(.bool false),(.int .i64 0)]) 40 rfl Try.underlying23 info27 rfl (by decide) (by omega) u9 x9_2 (⟨(rd_T27 x7_1 x10_2).f0,(rd_T27 x7_1 x10_2).f1,false,(rd_T27 x7_1 x10_2).f3⟩ : S27) [.string ((rd_T27 x7_1 x10_2).f0),.int .i64 ((rd_T27 x7_1 x10_2).f1),.bool false,.int .i64 ((rd_T27 x7_1 x10_2).f3)] (fun k_ => some k_ ≠ (.slice (some ad387) x7_1.length co36 : Value).ownBlock) (fun _ => False) rfl rfl ?aP (fun _ hk => hk.elim) ?aF ?aO ?aB ?aS ?aL ?_;(case aP => exact k27_mkM _ _ _ (⟨(rd_T27 x7_1 x10_2).f0,(rd_T27 x7_1 x10_2).f1,false,(rd_T27 x7_1 x10_2).f3⟩ : S27));(case aB => exact (by repeat (first | (with_reducible first | exact HB.out | apply below_alloc | apply pw_below_drewN | apply below_drew1) | exact HB.out)));(case aF => exact (fun k_ hk => Kd.fresh' (Kd.R_lt T12q2) k_ hk));(case aO => exact T12q3);(case aS => exact (below_size (by repeat (first | (with_reducible first | exact HB.out | apply below_alloc | apply pw_below_drewN | apply below_drew1) | exact HB.out))));(case aL => have:=LMc35.out;omega);intro v396 w37 ho hb hg hat;rw [← Ny395.out] at ho;have n0_:=Aside0.mk (Kd.R_after (ok:=(fun _ => True)) T12q4 hg hat);have n1_:=Aside0.mk (hb);have n2_:=Aside0.mk (ho);clear HO_7;clear HB;clear HO_9;have HO_7:=n0_;have HB:=n1_;have HO397:=n2_;clear n0_ n1_ n2_;clear ho hb hg hat))
      repeat (go_quiet (first | ((with_reducible refine gate_builtin (b:=.append) (xs:=#[.tmp 69,.tmp 74]) rfl ?_);at_builtin;refine Kd.R_append k27 (w0:=w) w.heap.size rfl (.tmp 69) (.tmp 74) 23 27 (.agg #[(.string ⟨#[]⟩),(.int .i64 0),(.bool false),(.int .i64 0)]) 40 rfl Try.underlying23 info27 rfl (by decide) (by omega) u9 x9_2 (⟨(rd_T27 x7_1 x10_2).f0,(rd_T27 x7_1 x10_2).f1,false,(rd_T27 x7_1 x10_2).f3⟩ : S27) [.string ((rd_T27 x7_1 x10_2).f0),.int .i64 ((rd_T27 x7_1 x10_2).f1),.bool false,.int .i64 ((rd_T27 x7_1 x10_2).f3)] (fun k_ => some k_ ≠ (.slice (some ad387) x7_1.length co36 : Value).ownBlock) (fun _ => False) rfl rfl ?aP (fun _ hk => hk.elim) ?aF ?aO ?aB ?aS ?aL ?_;(case aP => exact k27_mkM _ _ _ (⟨(rd_T27 x7_1 x10_2).f0,(rd_T27 x7_1 x10_2).f1,false,(rd_T27 x7_1 x10_2).f3⟩ : S27));(case aB => exact (by repeat (first | (with_reducible first | exact HB.out | apply below_alloc | apply pw_below_drewN | apply below_drew1) | exact HB.out)));(case aF => exact (fun k_ hk => Kd.fresh' (Kd.R_lt T12q2) k_ hk));(case aO => exact T12q3);(case aS => exact (below_size (by repeat (first | (with_reducible first | exact HB.out | apply below_alloc | apply pw_below_drewN | apply below_drew1) | exact HB.out))));(case aL => have:=LMc35.out;omega);intro v396 w37 ho hb hg hat;rw [← Ny395.out] at ho;have n0_:=Aside0.mk (Kd.R_after (ok:=(fun _ => True)) T12q4 hg hat);have n1_:=Aside0.mk (hb);have n2_:=Aside0.mk (ho);clear HO_7;clear HB;clear HO_9;have HO_7:=n0_;have HB:=n1_;have HO397:=n2_;clear n0_ n1_ n2_;clear ho hb hg hat));try go_wp2_with (first | ((with_reducible refine gate_builtin (b:=.append) (xs:=#[.tmp 69,.tmp 74]) rfl ?_);at_builtin;refine Kd.R_append k27 (w0:=w) w.heap.size rfl (.tmp 69) (.tmp 74) 23 27 (.agg #[(.string ⟨#[]⟩),(.int .i64 0),(.bool false),(.int .i64 0)]) 40 rfl Try.underlying23 info27 rfl (by decide) (by omega) u9 x9_2 (⟨(rd_T27 x7_1 x10_2).f0,(rd_T27 x7_1 x10_2).f1,false,(rd_T27 x7_1 x10_2).f3⟩ : S27) [.string ((rd_T27 x7_1 x10_2).f0),.int .i64 ((rd_T27 x7_1 x10_2).f1),.bool false,.int .i64 ((rd_T27 x7_1 x10_2).f3)] (fun k_ => some k_ ≠ (.slice (some ad387) x7_1.length co36 : Value).ownBlock) (fun _ => False) rfl rfl ?aP (fun _ hk => hk.elim) ?aF ?aO ?aB ?aS ?aL ?_;(case aP => exact k27_mkM _ _ _ (⟨(rd_T27 x7_1 x10_2).f0,(rd_T27 x7_1 x10_2).f1,false,(rd_T27 x7_1 x10_2).f3⟩ : S27));(case aB => exact (by repeat (first | (with_reducible first | exact HB.out | apply below_alloc | apply pw_below_drewN | apply below_drew1) | exact HB.out)));(case aF => exact (fun k_ hk => Kd.fresh' (Kd.R_lt T12q2) k_ hk));(case aO => exact T12q3);(case aS => exact (below_size (by repeat (first | (with_reducible first | exact HB.out | apply below_alloc | apply pw_below_drewN | apply below_drew1) | exact HB.out))));(case aL => have:=LMc35.out;omega);intro v396 w37 ho hb hg hat;rw [← Ny395.out] at ho;have n0_:=Aside0.mk (Kd.R_after (ok:=(fun _ => True)) T12q4 hg hat);have n1_:=Aside0.mk (hb);have n2_:=Aside0.mk (ho);clear HO_7;clear HB;clear HO_9;have HO_7:=n0_;have HB:=n1_;have HO397:=n2_;clear n0_ n1_ n2_;clear ho hb hg hat)))
      go_roundg k2
      case measure => have:=HK1.out;have:=HK2.out;omega
      case rel => exact ⟨(y395),(ji24),(by first | rfl | (simp;done) | (simp only [← hji24] <;> (first | rfl | simp)) | (simp [*];done)),H',⟨by have:=HK1.out;have:=HK2.out;omega⟩,⟨by (with_reducible repeat (first | apply Kd.R_alloc | apply Kd.R_drewN | apply Kd.R_drew));exact Kd.R_mono HO_7.out (fun _ hk => hk.2)⟩,⟨by (with_reducible repeat (first | apply Kd.R_alloc | apply Kd.R_drewN | apply Kd.R_drew));exact HO397.out⟩,⟨by repeat (first | (with_reducible first | exact HB.out | apply below_alloc | apply pw_below_drewN | apply below_drew1) | exact HB.out)⟩⟩
     subst c29
     have H1 : (if (¬ ((rd_T27 x7_1 (ji24)).f0).toList = ((rd_T27 x7_1 x10_2).f0).toList) then (spec_l11Trim.l1 k2 x7_1 x9_2 ji24) else (if x9_2.length < 3518437208883 then (spec_l11Trim.l1 k2 x7_1 (x9_2 ++ [(⟨(rd_T27 x7_1 x10_2).f0,(rd_T27 x7_1 x10_2).f1,true,(rd_T27 x7_1 x10_2).f3⟩ : S27)]) ji24) else (none))) = some r:=by rw [if_pos rfl] at H;exact H
     clear H
     have H:=H1
     clear H1
     by_cases c30 : (¬ ((rd_T27 x7_1 (ji24)).f0).toList = ((rd_T27 x7_1 x10_2).f0).toList)
     ·rw [if_pos c30] at H
      have c30b0 : (((rd_T27 x7_1 (ji24)).f0).toList == ((rd_T27 x7_1 x10_2).f0).toList) = false:=beq_eq_false_iff_ne.mpr c30
      have c30b1 : (((rd_T27 x7_1 (ji24)).f0).toList != ((rd_T27 x7_1 x10_2).f0).toList) = true:=bne_iff_ne.mpr c30
      clear c30
      have H':=Aside0.mk H
      clear H
      obtain ⟨Ao31,co31,eo31⟩:=Kd.R_slice HO_7.out
      subst eo31
      have p387 : 0 ≤ ((ji24) : Int):=of_decide_eq_true T12q1
      have q387 : (ji24) < (x7_1.length : Int):=of_decide_eq_true T12q1
      obtain ⟨ad387,e387,hx387_0,hx387_1,hx387_2,hx387_3⟩:=at_T27 (Kd.R_reads' HO_7.out).2.2 (ji24) p387 q387
      (try rw [← Nbq28.out] at hx387_2)
      cases e387
      replace p387:=eq_true p387
      replace q387:=eq_true q387
      have p388 : 0 ≤ (x10_2 : Int):=of_decide_eq_true T12q1
      have q388 : x10_2 < (x7_1.length : Int):=of_decide_eq_true T12q1
      obtain ⟨ad388,e388,hx388_0,hx388_1,hx388_2,hx388_3⟩:=at_T27 (Kd.R_reads' HO_7.out).2.2 x10_2 p388 q388
      (try rw [← Nbq28.out] at hx388_2)
      obtain rfl : ad387 = ad388:=(by injection e388)
      replace p388:=eq_true p388
      replace q388:=eq_true q388
      have p389 : 0 ≤ (x10_2 : Int):=of_decide_eq_true T12q1
      have q389 : x10_2 < (x7_1.length : Int):=of_decide_eq_true T12q1
      obtain ⟨ad389,e389,hx389_0,hx389_1,hx389_2,hx389_3⟩:=at_T27 (Kd.R_reads' HO_7.out).2.2 x10_2 p389 q389
      (try rw [← Nbq28.out] at hx389_2)
      obtain rfl : ad387 = ad389:=(by injection e389)
      replace p389:=eq_true p389
      replace q389:=eq_true q389
      go_wp2
      repeat (go_quiet (fail);try go_wp2)
      go_roundg k2
      case measure => have:=HK1.out;have:=HK2.out;omega
      case rel => exact ⟨(x9_2),(ji24),(by first | rfl | (simp;done) | (simp only [← hji24] <;> (first | rfl | simp)) | (simp [*];done)),H',⟨by have:=HK1.out;have:=HK2.out;omega⟩,⟨by (with_reducible repeat (first | apply Kd.R_alloc | apply Kd.R_drewN | apply Kd.R_drew));exact HO_7.out⟩,⟨by (with_reducible repeat (first | apply Kd.R_alloc | apply Kd.R_drewN | apply Kd.R_drew));exact HO_9.out⟩,⟨by repeat (first | (with_reducible first | exact HB.out | apply below_alloc | apply pw_below_drewN | apply below_drew1) | exact HB.out)⟩⟩
     rw [if_neg c30] at H
     have c30b0 : (((rd_T27 x7_1 (ji24)).f0).toList == ((rd_T27 x7_1 x10_2).f0).toList) = true:=beq_iff_eq.mpr (Classical.not_not.1 c30)
     have c30b1 : (((rd_T27 x7_1 (ji24)).f0).toList != ((rd_T27 x7_1 x10_2).f0).toList) = false:=bne_eq_false_iff_eq.mpr (Classical.not_not.1 c30)
     by_cases c32 : x9_2.length < 3518437208883
     rotate_left
     ·rw [if_neg c32] at H
      exact absurd H (by simp)
     rw [if_pos c32] at H
     have LMc32:=Aside0.mk c32
     clear c32
     obtain ⟨y391,hy391⟩ : ∃ y_ : List (S27),y_ = (x9_2 ++ [(⟨(rd_T27 x7_1 x10_2).f0,(rd_T27 x7_1 x10_2).f1,true,(rd_T27 x7_1 x10_2).f3⟩ : S27)]):=⟨_,rfl⟩
     replace H : (spec_l11Trim.l1 k2 x7_1 y391 ji24) = some r:=by first | (rw [hy391];with_reducible exact H) | (have H2_:=(Option.bind_some _ _).symm.trans H;rw [hy391];with_reducible exact H2_) | (have H2_:=(Option.bind_some _ _).symm.trans H;with_reducible exact H2_) | with_reducible exact H | (rw [hy391];exact H) | exact H
     have Ny391:=Aside0.mk hy391
     clear hy391
     have H':=Aside0.mk H
     clear H
     obtain ⟨Ao33,co33,eo33⟩:=Kd.R_slice HO_7.out
     subst eo33
     have p387 : 0 ≤ ((ji24) : Int):=of_decide_eq_true T12q1
     have q387 : (ji24) < (x7_1.length : Int):=of_decide_eq_true T12q1
     obtain ⟨ad387,e387,hx387_0,hx387_1,hx387_2,hx387_3⟩:=at_T27 (Kd.R_reads' HO_7.out).2.2 (ji24) p387 q387
     (try rw [← Nbq28.out] at hx387_2)
     cases e387
     replace p387:=eq_true p387
     replace q387:=eq_true q387
     have p388 : 0 ≤ (x10_2 : Int):=of_decide_eq_true T12q1
     have q388 : x10_2 < (x7_1.length : Int):=of_decide_eq_true T12q1
     obtain ⟨ad388,e388,hx388_0,hx388_1,hx388_2,hx388_3⟩:=at_T27 (Kd.R_reads' HO_7.out).2.2 x10_2 p388 q388
     (try rw [← Nbq28.out] at hx388_2)
     obtain rfl : ad387 = ad388:=(by injection e388)
     replace p388:=eq_true p388
     replace q388:=eq_true q388
     have p389 : 0 ≤ (x10_2 : Int):=of_decide_eq_true T12q1
     have q389 : x10_2 < (x7_1.length : Int):=of_decide_eq_true T12q1
     obtain ⟨ad389,e389,hx389_0,hx389_1,hx389_2,hx389_3⟩:=at_T27 (Kd.R_reads' HO_7.out).2.2 x10_2 p389 q389
     (try rw [← Nbq28.out] at hx389_2)
     obtain rfl : ad387 = ad389:=(by injection e389)
     replace p389:=eq_true p389
     replace q389:=eq_true q389
     have p390 : 0 ≤ (x10_2 : Int):=of_decide_eq_true T12q1
     have q390 : x10_2 < (x7_1.length : Int):=of_decide_eq_true T12q1
     obtain ⟨ad390,e390,hx390_0,hx390_1,hx390_2,hx390_3⟩:=at_T27 (Kd.R_reads' HO_7.out).2.2 x10_2 p390 q390
     (try rw [← Nbq28.out] at hx390_2)
     obtain rfl : ad387 = ad390:=(by injection e390)
     replace p390:=eq_true p390
     replace q390:=eq_true q390
     go_wp2_with (first | ((with_reducible refine gate_builtin (b:=.append) (xs:=#[.tmp 69,.tmp 74]) rfl ?_);at_builtin;refine Kd.R_append k27 (w0:=w) w.heap.size rfl (.tmp 69) (.tmp 74) 23 27 (.agg #[(.string ⟨#[]⟩),(.int .i64 0),(.bool false),(.int .i64 0)]) 40 rfl Try.underlying23 info27 rfl (by decide) (by omega) u9 x9_2 (⟨(rd_T27 x7_1 x10_2).f0,(rd_T27 x7_1 x10_2).f1,true,(rd_T27 x7_1 x10_2).f3⟩ : S27) [.string ((rd_T27 x7_1 x10_2).f0),.int .i64 ((rd_T27 x7_1 x10_2).f1),.bool true,.int .i64 ((rd_T27 x7_1 x10_2).f3)] (fun k_ => some k_ ≠ (.slice (some ad387) x7_1.length co33 : Value).ownBlock) (fun _ => False) rfl rfl ?aP (fun _ hk => hk.elim) ?aF ?aO ?aB ?aS ?aL ?_;(case aP => exact k27_mkM _ _ _ (⟨(rd_T27 x7_1 x10_2).f0,(rd_T27 x7_1 x10_2).f1,true,(rd_T27 x7_1 x10_2).f3⟩ : S27));(case aB => exact (by repeat (first | (with_reducible first | exact HB.out | apply below_alloc | apply pw_below_drewN | apply below_drew1) | exact HB.out)));(case aF => exact (fun k_ hk => Kd.fresh' (Kd.R_lt T12q2) k_ hk));(case aO => exact T12q3);(case aS => exact (below_size (by repeat (first | (with_reducible first | exact HB.out | apply below_alloc | apply pw_below_drewN | apply below_drew1) | exact HB.out))));(case aL => have:=LMc32.out;omega);intro v392 w34 ho hb hg hat;rw [← Ny391.out] at ho;have n0_:=Aside0.mk (Kd.R_after (ok:=(fun _ => True)) T12q4 hg hat);have n1_:=Aside0.mk (hb);have n2_:=Aside0.mk (ho);clear HO_7;clear HB;clear HO_9;have HO_7:=n0_;have HB:=n1_;have HO393:=n2_;clear n0_ n1_ n2_;clear ho hb hg hat))
     repeat (go_quiet (first | ((with_reducible refine gate_builtin (b:=.append) (xs:=#[.tmp 69,.tmp 74]) rfl ?_);at_builtin;refine Kd.R_append k27 (w0:=w) w.heap.size rfl (.tmp 69) (.tmp 74) 23 27 (.agg #[(.string ⟨#[]⟩),(.int .i64 0),(.bool false),(.int .i64 0)]) 40 rfl Try.underlying23 info27 rfl (by decide) (by omega) u9 x9_2 (⟨(rd_T27 x7_1 x10_2).f0,(rd_T27 x7_1 x10_2).f1,true,(rd_T27 x7_1 x10_2).f3⟩ : S27) [.string ((rd_T27 x7_1 x10_2).f0),.int .i64 ((rd_T27 x7_1 x10_2).f1),.bool true,.int .i64 ((rd_T27 x7_1 x10_2).f3)] (fun k_ => some k_ ≠ (.slice (some ad387) x7_1.length co33 : Value).ownBlock) (fun _ => False) rfl rfl ?aP (fun _ hk => hk.elim) ?aF ?aO ?aB ?aS ?aL ?_;(case aP => exact k27_mkM _ _ _ (⟨(rd_T27 x7_1 x10_2).f0,(rd_T27 x7_1 x10_2).f1,true,(rd_T27 x7_1 x10_2).f3⟩ : S27));(case aB => exact (by repeat (first | (with_reducible first | exact HB.out | apply below_alloc | apply pw_below_drewN | apply below_drew1) | exact HB.out)));(case aF => exact (fun k_ hk => Kd.fresh' (Kd.R_lt T12q2) k_ hk));(case aO => exact T12q3);(case aS => exact (below_size (by repeat (first | (with_reducible first | exact HB.out | apply below_alloc | apply pw_below_drewN | apply below_drew1) | exact HB.out))));(case aL => have:=LMc32.out;omega);intro v392 w34 ho hb hg hat;rw [← Ny391.out] at ho;have n0_:=Aside0.mk (Kd.R_after (ok:=(fun _ => True)) T12q4 hg hat);have n1_:=Aside0.mk (hb);have n2_:=Aside0.mk (ho);clear HO_7;clear HB;clear HO_9;have HO_7:=n0_;have HB:=n1_;have HO393:=n2_;clear n0_ n1_ n2_;clear ho hb hg hat));try go_wp2_with (first | ((with_reducible refine gate_builtin (b:=.append) (xs:=#[.tmp 69,.tmp 74]) rfl ?_);at_builtin;refine Kd.R_append k27 (w0:=w) w.heap.size rfl (.tmp 69) (.tmp 74) 23 27 (.agg #[(.string ⟨#[]⟩),(.int .i64 0),(.bool false),(.int .i64 0)]) 40 rfl Try.underlying23 info27 rfl (by decide) (by omega) u9 x9_2 (⟨(rd_T27 x7_1 x10_2).f0,(rd_T27 x7_1 x10_2).f1,true,(rd_T27 x7_1 x10_2).f3⟩ : S27) [.string ((rd_T27 x7_1 x10_2).f0),.int .i64 ((rd_T27 x7_1 x10_2).f1),.bool true,.int .i64 ((rd_T27 x7_1 x10_2).f3)] (fun k_ => some k_ ≠ (.slice (some ad387) x7_1.length co33 : Value).ownBlock) (fun _ => False) rfl rfl ?aP (fun _ hk => hk.elim) ?aF ?aO ?aB ?aS ?aL ?_;(case aP => exact k27_mkM _ _ _ (⟨(rd_T27 x7_1 x10_2).f0,(rd_T27 x7_1 x10_2).f1,true,(rd_T27 x7_1 x10_2).f3⟩ : S27));(case aB => exact (by repeat (first | (with_reducible first | exact HB.out | apply below_alloc | apply pw_below_drewN | apply below_drew1) | exact HB.out)));(case aF => exact (fun k_ hk => Kd.fresh' (Kd.R_lt T12q2) k_ hk));(case aO => exact T12q3);(case aS => exact (below_size (by repeat (first | (with_reducible first | exact HB.out | apply below_alloc | apply pw_below_drewN | apply below_drew1) | exact HB.out))));(case aL => have:=LMc32.out;omega);intro v392 w34 ho hb hg hat;rw [← Ny391.out] at ho;have n0_:=Aside0.mk (Kd.R_after (ok:=(fun _ => True)) T12q4 hg hat);have n1_:=Aside0.mk (hb);have n2_:=Aside0.mk (ho);clear HO_7;clear HB;clear HO_9;have HO_7:=n0_;have HB:=n1_;have HO393:=n2_;clear n0_ n1_ n2_;clear ho hb hg hat)))
     go_roundg k2
     case measure => have:=HK1.out;have:=HK2.out;omega
     case rel => exact ⟨(y391),(ji24),(by first | rfl | (simp;done) | (simp only [← hji24] <;> (first | rfl | simp)) | (simp [*];done)),H',⟨by have:=HK1.out;have:=HK2.out;omega⟩,⟨by (with_reducible repeat (first | apply Kd.R_alloc | apply Kd.R_drewN | apply Kd.R_drew));exact Kd.R_mono HO_7.out (fun _ hk => hk.2)⟩,⟨by (with_reducible repeat (first | apply Kd.R_alloc | apply Kd.R_drewN | apply Kd.R_drew));exact HO393.out⟩,⟨by repeat (first | (with_reducible first | exact HB.out | apply below_alloc | apply pw_below_drewN | apply below_drew1) | exact HB.out)⟩⟩
end Go.Proofs.Ytkifijclehgiaaa.PFnRunTrimTop
