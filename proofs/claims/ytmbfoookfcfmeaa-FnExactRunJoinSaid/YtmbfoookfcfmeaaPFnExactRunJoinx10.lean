/-
 Functions that FnExactRunJoin reaches,each as a Lean function,and that Go comes to its answer: printed by the kit's printer,the sort's comparing function and impl.RunJoin's part laid by hand. Conditions: those that stand in each statement.
-/
import Derived.Test.YtmbfoookfcfmeaaPFnExactRunJoinx0
import Derived.Test.YtmbfoookfcfmeaaPFnExactRunJoinx3
import Derived.Test.YtmbfoookfcfmeaaPFnExactRunJoinx5
import Derived.Test.YtmbfoookfcfmeaaPFnExactRunJoinx7
import Derived.Test.YtmbfoookfcfmeaaPFnExactRunJoinx9
import Derived.Test.YtmbfoookfcfmeaaFnExactRunJoinJn
namespace Go.Proofs.Ytmbfoookfcfmeaa.PFnExactRunJoin
open Go.RowKit Go.Proofs.YtmbfoookfcfmeaaW.PrintWords Go.Proofs.YtmbfoookfcfmeaaW.PrintLast Go.Proofs.YtmbfoookfcfmeaaW.PrintMore
attribute [local go_sem] max2_int min2_int max_two min_two max_three min_three max_four min_four   -- for this text's walks alone
set_option linter.unusedVariables false
set_option linter.unusedSimpArgs false

/-! ### impl_Entry_27: function 27 -/
mutual
def impl_Entry_27.l0 : Nat → List (S36) → Int → Int → Int → Int → Int → Option ((List (S36)))
 | 0,_,_,_,_,_,_ => none
 | k + 1,x0,x1,x2,x6,x7,x8 => if x8 ≤ x1 then ((impl_Entry_32.f k x0 x7 x8 x2).bind fun t218 => (impl_Entry_27.l0 k t218 x1 x2 x6 x8 (wrap64 (x8 + x6)))) else ((impl_Entry_32.f k x0 x7 x1 x2).bind fun t219 => (impl_Entry_27.l1 k t219 x1 x2 x6))
def impl_Entry_27.l1 : Nat → List (S36) → Int → Int → Int → Option ((List (S36)))
 | 0,_,_,_,_ => none
 | k + 1,x0,x1,x2,x6 => if x6 < x1 then (impl_Entry_27.l2 k x0 x1 x2 x6 0 (wrap64 (2 * x6))) else (some x0)
def impl_Entry_27.l2 : Nat → List (S36) → Int → Int → Int → Int → Int → Option ((List (S36)))
 | 0,_,_,_,_,_,_ => none
 | k + 1,x0,x1,x2,x6,x7,x8 => if x8 ≤ x1 then ((impl_Entry_33.f k x0 x7 (wrap64 (x7 + x6)) x8 x2).bind fun t220 => (impl_Entry_27.l2 k t220 x1 x2 x6 x8 (wrap64 (x8 + (wrap64 (2 * x6)))))) else (if (wrap64 (x7 + x6)) < x1 then ((impl_Entry_33.f k x0 x7 (wrap64 (x7 + x6)) x1 x2).bind fun t221 => (impl_Entry_27.l1 k t221 x1 x2 (wrap64 (x6 * 2)))) else (impl_Entry_27.l1 k x0 x1 x2 (wrap64 (x6 * 2))))
end
def impl_Entry_27.f (k : Nat) (l0 : List (S36)) (a1 : Int) (a2 : Int) : Option ((List (S36))):=impl_Entry_27.l0 k l0 a1 a2 20 0 20
set_option maxHeartbeats 8000000 in
set_option maxRecDepth 100000 in
theorem impl_Entry_27.calls (k : Nat) (P0_ : Nat → Prop) (u9000_ : Value) (l0 : List (S36)) (a1 : Int) (a2 : Int) (r : List (S36)) (w0 w : World) (hB : Below w0.heap.size w0 w) (ho0 : Kd.R k36 36 w w0.heap.size P0_ u9000_ l0) (h : impl_Entry_27.f k l0 a1 a2 = some r) :
  Calls Try.prog 27 #[u9000_,.int .i64 a1,.func (.func 18) #[] #[]] w fun e w' => e = .returned (.tuple #[]) ∧ Kd.R k36 36 w' w0.heap.size (fun k_ => (P0_ k_ ∨ w.heap.size ≤ k_)) u9000_ r ∧ Below w0.heap.size w0 w' ∧ Kept w w' (fun k_ => P0_ k_):=by
 have HO0:=Aside0.mk (show Kd.R k36 36 w w0.heap.size (fun k_ => (P0_ k_ ∨ w.heap.size ≤ k_)) u9000_ l0 from Kd.R_mono ho0 (fun k_ hk => (.inl hk)))
 have HK:=Aside0.mk (Kept.refl w (fun k_ => P0_ k_))
 have HW0:=Aside0.mk hB.size
 have HB:=Aside0.mk hB
 clear hB
 have H : (impl_Entry_27.l0 k l0 a1 a2 20 0 20) = some r:=h
 clear h
 have H':=Aside0.mk H
 clear H
 go_enter Try.func27,Try.ntmps27
 go_wp2
 go_loopg [7,8] k (fun kq v7 v8 w' => ∃ (x0_1 : List (S36)) (x7_1 : Int) (x8_1 : Int),v7 = .int .i64 x7_1 ∧ v8 = .int .i64 x8_1 ∧ Aside0 (impl_Entry_27.l0 kq x0_1 a1 a2 20 x7_1 x8_1 = some r) ∧ Aside0 (kq ≤ k) ∧ Aside0 (Kd.R k36 36 w' w0.heap.size (fun k_ => (P0_ k_ ∨ w.heap.size ≤ k_)) u9000_ x0_1) ∧ Aside0 (Kept w w' (fun k_ => P0_ k_)) ∧ Aside0 (Below w0.heap.size w0 w'))
 case atStart => exact ⟨(l0),(0),(20),(by first | rfl | (simp;done) | (simp [*];done)),(by first | rfl | (simp;done) | (simp [*];done)),H',⟨Nat.le_refl _⟩,⟨by (with_reducible repeat (first | apply Kd.R_alloc | apply Kd.R_drewN | apply Kd.R_drew));exact HO0.out⟩,⟨by repeat (first | (with_reducible first | exact HK.out | apply Kept.alloc | apply Kept.drewN | apply Kept.drew) | exact HK.out)⟩,⟨by repeat (first | (with_reducible first | exact HB.out | apply below_alloc | apply pw_below_drewN | apply below_drew1) | exact HB.out)⟩⟩
 case round =>
  clear H'
  try clear c2
  try clear p2
  obtain ⟨x0_1,x7_1,x8_1,rfl,rfl,HA,HK1,HO_0,HK,HB⟩:=hrel
  cases gk with
  | zero => exact absurd HA.out (by simp [impl_Entry_27.l0])
  | succ k1 =>
   have H:=HA.out
   clear HA
   simp only [impl_Entry_27.l0] at H
   by_cases c4 : x8_1 ≤ a1
   ·rw [if_pos c4] at H
    have c4b0 : decide (x8_1 ≤ a1) = true:=decide_eq_true c4
    clear c4
    replace H:=Option.bind_eq_some_iff.mp H
    obtain ⟨t218,A50,H⟩:=H
    replace H : (impl_Entry_27.l0 k1 t218 a1 a2 20 x8_1 (wrap64 (x8_1 + 20))) = some r:=H
    have A5:=Aside0.mk A50
    clear A50
    have H':=Aside0.mk H
    clear H
    obtain ⟨Ao6,co6,eo6⟩:=Kd.R_slice HO_0.out
    subst eo6
    go_wp2_with (first | ((with_reducible refine gate_callee (f:=32) rfl ?_);refine goesL_ (some 18) rfl rfl Try.func32 (by kernel_rfl) rfl #[.slice Ao6 x0_1.length co6,.int .i64 x7_1,.int .i64 x8_1,.func (.func 18) #[] #[]] rfl (by (try simp only [List.map_toArray,List.map_cons,List.map_nil]);first | done | rfl | (simp only [List.length_drop,List.length_take];rfl)) ?_;(with_reducible refine (impl_Entry_32.calls k1 (fun k_ => some k_ = (.slice Ao6 x0_1.length co6 : Value).ownBlock) (.slice Ao6 x0_1.length co6) x0_1 x7_1 x8_1 a2 t218 w0 _ ?side1 ?side2 A5.out).mono ?_);(case side1 => repeat (first | (with_reducible first | exact HB.out | apply below_alloc | apply pw_below_drewN | apply below_drew1) | exact HB.out));(case side2 => exact Kd.R_tight rfl HO_0.out);rintro e w7 ⟨rfl,hy0,hb,hkp⟩;refine ⟨_,rfl,?_⟩;have n0_:=Aside0.mk (Kd.R_reok rfl hy0 (fun k_ e_ => HO_0.out.1 k_ e_));have n1_:=Aside0.mk (Kept.then_ (S:=(fun k_ => P0_ k_)) (by repeat (first | (with_reducible first | exact HK.out | apply Kept.alloc | apply Kept.drewN | apply Kept.drew) | exact HK.out)) hkp (fun k_ hs_ => (fun e_ => (HO_0.out.1 k_ e_.symm)) hs_));have n2_:=Aside0.mk (hb);clear HO_0;clear HK;clear HB;have HO_0:=n0_;have HK:=n1_;have HB:=n2_;clear n0_ n1_ n2_;(try clear hb);(try clear hkp);(try clear hy0)))
    try simp only [Act.put,List.setIfInBounds_toArray,List.set_cons_zero,List.set_cons_succ]
    go_roundg k1
    case measure => have:=HK1.out;omega
    case rel => exact ⟨(t218),(x8_1),(wrap64 (x8_1 + 20)),(by first | rfl | (simp;done) | (simp [*];done)),(by first | rfl | (simp;done) | (simp [*];done)),H',⟨by have:=HK1.out;omega⟩,⟨by (with_reducible repeat (first | apply Kd.R_alloc | apply Kd.R_drewN | apply Kd.R_drew));exact HO_0.out⟩,⟨by repeat (first | (with_reducible first | exact HK.out | apply Kept.alloc | apply Kept.drewN | apply Kept.drew) | exact HK.out)⟩,⟨by repeat (first | (with_reducible first | exact HB.out | apply below_alloc | apply pw_below_drewN | apply below_drew1) | exact HB.out)⟩⟩
   rw [if_neg c4] at H
   have c4b0 : decide (x8_1 ≤ a1) = false:=decide_eq_false c4
   clear c4
   replace H:=Option.bind_eq_some_iff.mp H
   obtain ⟨t219,A80,H⟩:=H
   replace H : (impl_Entry_27.l1 k1 t219 a1 a2 20) = some r:=H
   have A8:=Aside0.mk A80
   clear A80
   have H':=Aside0.mk H
   clear H
   obtain ⟨Ao9,co9,eo9⟩:=Kd.R_slice HO_0.out
   subst eo9
   go_wp2_with (first | ((with_reducible refine gate_callee (f:=32) rfl ?_);refine goesL_ (some 27) rfl rfl Try.func32 (by kernel_rfl) rfl #[.slice Ao9 x0_1.length co9,.int .i64 x7_1,.int .i64 a1,.func (.func 18) #[] #[]] rfl (by (try simp only [List.map_toArray,List.map_cons,List.map_nil]);first | done | rfl | (simp only [List.length_drop,List.length_take];rfl)) ?_;(with_reducible refine (impl_Entry_32.calls k1 (fun k_ => some k_ = (.slice Ao9 x0_1.length co9 : Value).ownBlock) (.slice Ao9 x0_1.length co9) x0_1 x7_1 a1 a2 t219 w0 _ ?side1 ?side2 A8.out).mono ?_);(case side1 => repeat (first | (with_reducible first | exact HB.out | apply below_alloc | apply pw_below_drewN | apply below_drew1) | exact HB.out));(case side2 => exact Kd.R_tight rfl HO_0.out);rintro e w10 ⟨rfl,hy0,hb,hkp⟩;refine ⟨_,rfl,?_⟩;have n0_:=Aside0.mk (Kd.R_reok rfl hy0 (fun k_ e_ => HO_0.out.1 k_ e_));have n1_:=Aside0.mk (Kept.then_ (S:=(fun k_ => P0_ k_)) (by repeat (first | (with_reducible first | exact HK.out | apply Kept.alloc | apply Kept.drewN | apply Kept.drew) | exact HK.out)) hkp (fun k_ hs_ => (fun e_ => (HO_0.out.1 k_ e_.symm)) hs_));have n2_:=Aside0.mk (hb);clear HO_0;clear HK;clear HB;have HO_0:=n0_;have HK:=n1_;have HB:=n2_;clear n0_ n1_ n2_;(try clear hb);(try clear hkp);(try clear hy0)))
   try simp only [Act.put,List.setIfInBounds_toArray,List.set_cons_zero,List.set_cons_succ]
   go_loopg [6] k1 (fun kq v6 w' => ∃ (x0_2 : List (S36)) (x6_2 : Int),v6 = .int .i64 x6_2 ∧ Aside0 (impl_Entry_27.l1 kq x0_2 a1 a2 x6_2 = some r) ∧ Aside0 (kq ≤ k1) ∧ Aside0 (Kd.R k36 36 w' w0.heap.size (fun k_ => (P0_ k_ ∨ w.heap.size ≤ k_)) (.slice Ao9 x0_1.length co9) x0_2) ∧ Aside0 (Kept w w' (fun k_ => P0_ k_)) ∧ Aside0 (Below w0.heap.size w0 w'))
   case atStart => exact ⟨(t219),(20),(by first | rfl | (simp;done) | (simp [*];done)),H',⟨Nat.le_refl _⟩,⟨by (with_reducible repeat (first | apply Kd.R_alloc | apply Kd.R_drewN | apply Kd.R_drew));exact HO_0.out⟩,⟨by repeat (first | (with_reducible first | exact HK.out | apply Kept.alloc | apply Kept.drewN | apply Kept.drew) | exact HK.out)⟩,⟨by repeat (first | (with_reducible first | exact HB.out | apply below_alloc | apply pw_below_drewN | apply below_drew1) | exact HB.out)⟩⟩
   case round =>
    clear H'
    try clear c2
    try clear p2
    try clear c3
    try clear c4
    try clear c4b0
    try clear p6
    try clear p2
    obtain ⟨x0_2,x6_2,rfl,HA,HK2,HO_0,HK,HB⟩:=hrel
    have hl0_2:=(Kd.R_reads' HO_0.out).1
    rw [hl0_2] at HO_0
    (try simp only [hl0_2])
    cases gk with
    | zero => exact absurd HA.out (by simp [impl_Entry_27.l1])
    | succ k2 =>
     have H:=HA.out
     clear HA
     simp only [impl_Entry_27.l1] at H
     by_cases c11 : x6_2 < a1
     rotate_left
     ·rw [if_neg c11] at H
      have c11b0 : decide (x6_2 < a1) = false:=decide_eq_false c11
      clear c11
      obtain rfl:=Option.some.inj H
      go_wp2
      first | go_end0 | ((try simp only [Exit.inBlock,Exit.then]);refine bodyPost_ret (results_none rfl _ _ _) rfl ?_)
      exact ⟨by first | rfl | (simp [errW_none,errW_some] <;> rfl) | (simp [*,errW_none,errW_some] <;> rfl),(by first | exact (by (with_reducible repeat (first | apply Kd.R_alloc | apply Kd.R_drewN | apply Kd.R_drew));exact HO_0.out) | (simp only [hl0_2];exact (by (with_reducible repeat (first | apply Kd.R_alloc | apply Kd.R_drewN | apply Kd.R_drew));exact HO_0.out))),by repeat (first | (with_reducible first | exact HB.out | apply below_alloc | apply pw_below_drewN | apply below_drew1) | exact HB.out),by repeat (first | (with_reducible first | exact HK.out | apply Kept.alloc | apply Kept.drewN | apply Kept.drew) | exact HK.out)⟩
     rw [if_pos c11] at H
     have c11b0 : decide (x6_2 < a1) = true:=decide_eq_true c11
     clear c11
     have H':=Aside0.mk H
     clear H
     go_wp2
     go_loopg [7,8] k2 (fun kq v7 v8 w' => ∃ (x0_3 : List (S36)) (x7_3 : Int) (x8_3 : Int),v7 = .int .i64 x7_3 ∧ v8 = .int .i64 x8_3 ∧ Aside0 (impl_Entry_27.l2 kq x0_3 a1 a2 x6_2 x7_3 x8_3 = some r) ∧ Aside0 (kq ≤ k2) ∧ Aside0 (Kd.R k36 36 w' w0.heap.size (fun k_ => (P0_ k_ ∨ w.heap.size ≤ k_)) (.slice Ao9 x0_2.length co9) x0_3) ∧ Aside0 (Kept w w' (fun k_ => P0_ k_)) ∧ Aside0 (Below w0.heap.size w0 w'))
     case atStart => exact ⟨(x0_2),(0),(wrap64 (2 * x6_2)),(by first | rfl | (simp;done) | (simp [*];done)),(by first | rfl | (simp;done) | (simp [*];done)),H',⟨Nat.le_refl _⟩,⟨by (try simp only [hl0_2]);(with_reducible repeat (first | apply Kd.R_alloc | apply Kd.R_drewN | apply Kd.R_drew));exact HO_0.out⟩,⟨by repeat (first | (with_reducible first | exact HK.out | apply Kept.alloc | apply Kept.drewN | apply Kept.drew) | exact HK.out)⟩,⟨by repeat (first | (with_reducible first | exact HB.out | apply below_alloc | apply pw_below_drewN | apply below_drew1) | exact HB.out)⟩⟩
     case round =>
      clear H'
      try clear c1
      try clear c2
      try clear p2
      try clear c3
      try clear c4
      try clear c4b0
      try clear p6
      try clear c11
      try clear c11b0
      try clear p2
      try clear p6
      obtain ⟨x0_3,x7_3,x8_3,rfl,rfl,HA,HK3,HO_0,HK,HB⟩:=hrel
      have hl0_3:=(Kd.R_reads' HO_0.out).1
      rw [hl0_3] at HO_0
      (try simp only [hl0_3])
      cases gk with
      | zero => exact absurd HA.out (by simp [impl_Entry_27.l2])
      | succ k3 =>
       have H:=HA.out
       clear HA
       simp only [impl_Entry_27.l2] at H
       by_cases c12 : x8_3 ≤ a1
       ·rw [if_pos c12] at H
        have c12b0 : decide (x8_3 ≤ a1) = true:=decide_eq_true c12
        clear c12
        replace H:=Option.bind_eq_some_iff.mp H
        obtain ⟨t220,A130,H⟩:=H
        replace H : (impl_Entry_27.l2 k3 t220 a1 a2 x6_2 x8_3 (wrap64 (x8_3 + (wrap64 (2 * x6_2))))) = some r:=H
        have A13:=Aside0.mk A130
        clear A130
        have H':=Aside0.mk H
        clear H
        go_wp2_with (first | ((with_reducible refine gate_callee (f:=33) rfl ?_);refine goesL_ (some 43) rfl rfl Try.func33 (by kernel_rfl) rfl #[.slice Ao9 x0_3.length co9,.int .i64 x7_3,.int .i64 (wrap64 (x7_3 + x6_2)),.int .i64 x8_3,.func (.func 18) #[] #[]] rfl (by (try simp only [List.map_toArray,List.map_cons,List.map_nil]);first | done | rfl | (simp only [List.length_drop,List.length_take];rfl)) ?_;(with_reducible refine (impl_Entry_33.calls k3 (fun k_ => some k_ = (.slice Ao9 x0_3.length co9 : Value).ownBlock) (.slice Ao9 x0_3.length co9) x0_3 x7_3 (wrap64 (x7_3 + x6_2)) x8_3 a2 t220 w0 _ ?side1 ?side2 A13.out).mono ?_);(case side1 => repeat (first | (with_reducible first | exact HB.out | apply below_alloc | apply pw_below_drewN | apply below_drew1) | exact HB.out));(case side2 => exact Kd.R_tight rfl HO_0.out);rintro e w14 ⟨rfl,hy0,hb,hkp⟩;refine ⟨_,rfl,?_⟩;have n0_:=Aside0.mk (Kd.R_reok rfl hy0 (fun k_ e_ => HO_0.out.1 k_ e_));have n1_:=Aside0.mk (Kept.then_ (S:=(fun k_ => P0_ k_)) (by repeat (first | (with_reducible first | exact HK.out | apply Kept.alloc | apply Kept.drewN | apply Kept.drew) | exact HK.out)) hkp (fun k_ hs_ => (fun e_ => (HO_0.out.1 k_ e_.symm)) hs_));have n2_:=Aside0.mk (hb);clear HO_0;clear HK;clear HB;have HO_0:=n0_;have HK:=n1_;have HB:=n2_;clear n0_ n1_ n2_;(try clear hb);(try clear hkp);(try clear hy0)))
        (try simp only [← hl0_3])
        go_roundg k3
        case measure => have:=HK1.out;have:=HK2.out;have:=HK3.out;omega
        case rel => exact ⟨(t220),(x8_3),(wrap64 (x8_3 + (wrap64 (2 * x6_2)))),(by first | rfl | (simp;done) | (simp [*];done)),(by first | rfl | (simp;done) | (simp [*];done)),H',⟨by have:=HK1.out;have:=HK2.out;have:=HK3.out;omega⟩,⟨by (try simp only [hl0_2]);(try simp only [hl0_3]);(with_reducible repeat (first | apply Kd.R_alloc | apply Kd.R_drewN | apply Kd.R_drew));exact HO_0.out⟩,⟨by repeat (first | (with_reducible first | exact HK.out | apply Kept.alloc | apply Kept.drewN | apply Kept.drew) | exact HK.out)⟩,⟨by repeat (first | (with_reducible first | exact HB.out | apply below_alloc | apply pw_below_drewN | apply below_drew1) | exact HB.out)⟩⟩
       rw [if_neg c12] at H
       have c12b0 : decide (x8_3 ≤ a1) = false:=decide_eq_false c12
       clear c12
       by_cases c15 : (wrap64 (x7_3 + x6_2)) < a1
       rotate_left
       ·rw [if_neg c15] at H
        have c15b0 : decide ((wrap64 (x7_3 + x6_2)) < a1) = false:=decide_eq_false c15
        clear c15
        have H':=Aside0.mk H
        clear H
        go_wp2
        (try simp only [← hl0_2,← hl0_3])
        go_roundg k3
        case measure => have:=HK1.out;have:=HK2.out;have:=HK3.out;omega
        case rel => exact ⟨(x0_3),(wrap64 (x6_2 * 2)),(by first | rfl | (simp;done) | (simp [*];done)),H',⟨by have:=HK1.out;have:=HK2.out;have:=HK3.out;omega⟩,⟨by (try simp only [hl0_2]);(try simp only [hl0_3]);(with_reducible repeat (first | apply Kd.R_alloc | apply Kd.R_drewN | apply Kd.R_drew));exact HO_0.out⟩,⟨by repeat (first | (with_reducible first | exact HK.out | apply Kept.alloc | apply Kept.drewN | apply Kept.drew) | exact HK.out)⟩,⟨by repeat (first | (with_reducible first | exact HB.out | apply below_alloc | apply pw_below_drewN | apply below_drew1) | exact HB.out)⟩⟩
       rw [if_pos c15] at H
       have c15b0 : decide ((wrap64 (x7_3 + x6_2)) < a1) = true:=decide_eq_true c15
       clear c15
       replace H:=Option.bind_eq_some_iff.mp H
       obtain ⟨t221,A160,H⟩:=H
       replace H : (impl_Entry_27.l1 k3 t221 a1 a2 (wrap64 (x6_2 * 2))) = some r:=H
       have A16:=Aside0.mk A160
       clear A160
       have H':=Aside0.mk H
       clear H
       go_wp2_with (first | ((with_reducible refine gate_callee (f:=33) rfl ?_);refine goesL_ (some 60) rfl rfl Try.func33 (by kernel_rfl) rfl #[.slice Ao9 x0_3.length co9,.int .i64 x7_3,.int .i64 (wrap64 (x7_3 + x6_2)),.int .i64 a1,.func (.func 18) #[] #[]] rfl (by (try simp only [List.map_toArray,List.map_cons,List.map_nil]);first | done | rfl | (simp only [List.length_drop,List.length_take];rfl)) ?_;(with_reducible refine (impl_Entry_33.calls k3 (fun k_ => some k_ = (.slice Ao9 x0_3.length co9 : Value).ownBlock) (.slice Ao9 x0_3.length co9) x0_3 x7_3 (wrap64 (x7_3 + x6_2)) a1 a2 t221 w0 _ ?side1 ?side2 A16.out).mono ?_);(case side1 => repeat (first | (with_reducible first | exact HB.out | apply below_alloc | apply pw_below_drewN | apply below_drew1) | exact HB.out));(case side2 => exact Kd.R_tight rfl HO_0.out);rintro e w17 ⟨rfl,hy0,hb,hkp⟩;refine ⟨_,rfl,?_⟩;have n0_:=Aside0.mk (Kd.R_reok rfl hy0 (fun k_ e_ => HO_0.out.1 k_ e_));have n1_:=Aside0.mk (Kept.then_ (S:=(fun k_ => P0_ k_)) (by repeat (first | (with_reducible first | exact HK.out | apply Kept.alloc | apply Kept.drewN | apply Kept.drew) | exact HK.out)) hkp (fun k_ hs_ => (fun e_ => (HO_0.out.1 k_ e_.symm)) hs_));have n2_:=Aside0.mk (hb);clear HO_0;clear HK;clear HB;have HO_0:=n0_;have HK:=n1_;have HB:=n2_;clear n0_ n1_ n2_;(try clear hb);(try clear hkp);(try clear hy0)))
       (try simp only [← hl0_2,← hl0_3])
       go_roundg k3
       case measure => have:=HK1.out;have:=HK2.out;have:=HK3.out;omega
       case rel => exact ⟨(t221),(wrap64 (x6_2 * 2)),(by first | rfl | (simp;done) | (simp [*];done)),H',⟨by have:=HK1.out;have:=HK2.out;have:=HK3.out;omega⟩,⟨by (try simp only [hl0_2]);(try simp only [hl0_3]);(with_reducible repeat (first | apply Kd.R_alloc | apply Kd.R_drewN | apply Kd.R_drew));exact HO_0.out⟩,⟨by repeat (first | (with_reducible first | exact HK.out | apply Kept.alloc | apply Kept.drewN | apply Kept.drew) | exact HK.out)⟩,⟨by repeat (first | (with_reducible first | exact HB.out | apply below_alloc | apply pw_below_drewN | apply below_drew1) | exact HB.out)⟩⟩
/-! ### impl_Entry_17: function 17 -/
def impl_Entry_17.f (k : Nat) (l0 : List (S36)) (a1 : Int) : Option ((List (S36))):=(impl_Entry_27.f k l0 (l0.length : Int) a1).bind fun t222 => (some t222)
set_option maxHeartbeats 8000000 in
set_option maxRecDepth 100000 in
theorem impl_Entry_17.calls (k : Nat) (P0_ : Nat → Prop) (u9000_ : Value) (l0 : List (S36)) (a1 : Int) (r : List (S36)) (w0 w : World) (hB : Below w0.heap.size w0 w) (ho0 : Kd.R k36 36 w w0.heap.size P0_ u9000_ l0) (h : impl_Entry_17.f k l0 a1 = some r) :
  Calls Try.prog 17 #[u9000_,.func (.func 18) #[] #[]] w fun e w' => e = .returned (.tuple #[]) ∧ Kd.R k36 36 w' w0.heap.size (fun k_ => (P0_ k_ ∨ w.heap.size ≤ k_)) u9000_ r ∧ Below w0.heap.size w0 w' ∧ Kept w w' (fun k_ => P0_ k_):=by
 have HO0:=Aside0.mk (show Kd.R k36 36 w w0.heap.size (fun k_ => (P0_ k_ ∨ w.heap.size ≤ k_)) u9000_ l0 from Kd.R_mono ho0 (fun k_ hk => (.inl hk)))
 have HK:=Aside0.mk (Kept.refl w (fun k_ => P0_ k_))
 have HW0:=Aside0.mk hB.size
 have HB:=Aside0.mk hB
 clear hB
 have H : ((impl_Entry_27.f k l0 (l0.length : Int) a1).bind fun t222 => (some t222)) = some r:=h
 clear h
 replace H:=Option.bind_eq_some_iff.mp H
 obtain ⟨t222,A30,H⟩:=H
 replace H : (some t222) = some r:=H
 have A3:=Aside0.mk A30
 clear A30
 obtain rfl:=Option.some.inj H
 obtain ⟨Ao4,co4,eo4⟩:=Kd.R_slice HO0.out
 subst eo4
 go_enter Try.func17,Try.ntmps17
 go_wp2_with (first | ((with_reducible refine gate_callee (f:=27) rfl ?_);refine goesL_ (some 8) rfl rfl Try.func27 (by kernel_rfl) rfl #[.slice Ao4 l0.length co4,.int .i64 (l0.length : Int),.func (.func 18) #[] #[]] rfl (by (try simp only [List.map_toArray,List.map_cons,List.map_nil]);first | done | rfl | (simp only [List.length_drop,List.length_take];rfl)) ?_;(with_reducible refine (impl_Entry_27.calls k (fun k_ => some k_ = (.slice Ao4 l0.length co4 : Value).ownBlock) (.slice Ao4 l0.length co4) l0 (l0.length : Int) a1 t222 w0 _ ?side1 ?side2 A3.out).mono ?_);(case side1 => repeat (first | (with_reducible first | exact HB.out | apply below_alloc | apply pw_below_drewN | apply below_drew1) | exact HB.out));(case side2 => exact Kd.R_tight rfl HO0.out);rintro e w5 ⟨rfl,hy0,hb,hkp⟩;refine ⟨_,rfl,?_⟩;have n0_:=Aside0.mk (Kd.R_reok rfl hy0 (fun k_ e_ => HO0.out.1 k_ e_));have n1_:=Aside0.mk (Kept.then_ (S:=(fun k_ => P0_ k_)) (by repeat (first | (with_reducible first | exact HK.out | apply Kept.alloc | apply Kept.drewN | apply Kept.drew) | exact HK.out)) hkp (fun k_ hs_ => (fun e_ => (HO0.out.1 k_ e_.symm)) hs_));have n2_:=Aside0.mk (hb);clear HO0;clear HK;clear HB;have HO0:=n0_;have HK:=n1_;have HB:=n2_;clear n0_ n1_ n2_;(try clear hb);(try clear hkp);(try clear hy0)))
 first | go_end0 | ((try simp only [Exit.inBlock,Exit.then]);refine bodyPost_ret (results_none rfl _ _ _) rfl ?_)
 exact ⟨by first | rfl | (simp [errW_none,errW_some] <;> rfl) | (simp [*,errW_none,errW_some] <;> rfl),by (with_reducible repeat (first | apply Kd.R_alloc | apply Kd.R_drewN | apply Kd.R_drew));exact HO0.out,by repeat (first | (with_reducible first | exact HB.out | apply below_alloc | apply pw_below_drewN | apply below_drew1) | exact HB.out),by repeat (first | (with_reducible first | exact HK.out | apply Kept.alloc | apply Kept.drewN | apply Kept.drew) | exact HK.out)⟩
-- NOT PRINTED: function 20 (impl_cloneRun)

/-! ### impl_RunJoin: function 7 -/
def impl_RunJoin.j0 : Nat → List (S36) → List (S36) → Bool → Option ((List (S36)) × Bool)
 | 0,_,_,_ => none
 | k + 1,x0,x1,x14 => if x14 = true then (some ((([] : List (S36))),false)) else (if x0.length ≤ 400 then (if x1.length ≤ 400 then ((impl_Entry_17.f k (x0 ++ x1) 0).bind fun t228 => ((impl_RunOk.f k t228).bind fun t231 => (if t231 = true then (some (t228,true)) else (some ((([] : List (S36))),false))))) else none) else none)
def impl_RunJoin.f (k : Nat) (l0 : List (S36)) (l1 : List (S36)) : Option ((List (S36)) × Bool):=(impl_RunOk.f k l0).bind fun t223 => (if t223 = true then ((impl_RunOk.f k l1).bind fun t224 => (impl_RunJoin.j0 k l0 l1 (!t224))) else (impl_RunJoin.j0 k l0 l1 true))

set_option maxHeartbeats 8000000 in
set_option maxRecDepth 100000 in
theorem impl_RunJoin.calls (k : Nat) (A0 : Option Addr) (c0 : Nat) (l0 : List (S36)) (A1 : Option Addr) (c1 : Nat) (l1 : List (S36)) (r1 : List (S36)) (r2 : Bool) (w : World) (hr0 : Kd.C k36 w A0 l0.length l0) (hc0 : l0.length ≤ c0) (hr1 : Kd.C k36 w A1 l1.length l1) (hc1 : l1.length ≤ c1) (h : impl_RunJoin.f k l0 l1 = some (r1,r2)) :
  Calls Try.prog 7 #[.slice A0 l0.length c0,.slice A1 l1.length c1] w fun e w' => ∃ v0_ : Value,e = .returned (.tuple #[v0_,.bool r2]) ∧ Kd.R k36 36 w' w.heap.size (fun _ => True) v0_ r1 ∧ Below w.heap.size w w':=by
 have HR0:=Aside0.mk hr0
 have HC0:=Aside0.mk hc0
 clear hr0 hc0
 have HR1:=Aside0.mk hr1
 have HC1:=Aside0.mk hc1
 clear hr1 hc1
 have HB:=Aside0.mk (Below.refl w.heap.size w)
 have H : ((impl_RunOk.f k l0).bind fun t223 => (if t223 = true then ((impl_RunOk.f k l1).bind fun t224 => (impl_RunJoin.j0 k l0 l1 (!t224))) else (impl_RunJoin.j0 k l0 l1 true))) = some (r1,r2):=h
 clear h
 have HC3:=Aside0.mk H
 clear H
 go_enter Try.func7,Try.ntmps7
 go_upto_region 1 with (fail)
 go_cut [14] (fun v14 wc => ∃ (kq : Nat) (x14_2 : Bool),v14 = .bool x14_2 ∧ Aside0 (impl_RunJoin.j0 kq l0 l1 x14_2 = some (r1,r2)) ∧ Aside0 (kq ≤ k) ∧ Aside0 (Below w.heap.size w wc))
 case first =>
  have H:=HC3.out
  clear HC3
  replace H:=Option.bind_eq_some_iff.mp H
  obtain ⟨t223,A40,H⟩:=H
  replace H : (if t223 = true then ((impl_RunOk.f k l1).bind fun t224 => (impl_RunJoin.j0 k l0 l1 (!t224))) else (impl_RunJoin.j0 k l0 l1 true)) = some (r1,r2):=H
  have A4:=Aside0.mk A40
  clear A40
  by_cases c5 : t223 = true
  rotate_left
  ·replace c5:=Bool.eq_false_iff.mpr c5
   subst c5
   have H1 : (impl_RunJoin.j0 k l0 l1 true) = some (r1,r2):=by rw [if_neg (show ¬ (false = true) by decide)] at H;exact H
   clear H
   have H:=H1
   clear H1
   have H':=Aside0.mk H
   clear H
   go_wp2_with (first | ((with_reducible refine gate_callee (f:=15) rfl ?_);refine goesL_ (some 8) rfl rfl Try.func15 (by kernel_rfl) rfl #[.slice A0 l0.length c0] rfl (by (try simp only [List.map_toArray,List.map_cons,List.map_nil]);first | done | rfl | (simp only [List.length_drop,List.length_take];rfl)) ?_;(with_reducible refine (impl_RunOk.calls k _ _ l0 false _ ?side1 ?side2 A4.out).mono ?_);(case side1 => repeat (first | exact (Kd.C_below HR0.out HB.out) | (with_reducible refine Kd.C_alloc ?_ _) | (with_reducible refine Kd.C_drewN ?_ _) | (with_reducible refine Kd.C_drew ?_)));(case side2 => exact HC0.out);rintro e w9 ⟨rfl,hb⟩;refine ⟨_,rfl,?_⟩;have n0_:=Aside0.mk (below_step (by repeat (first | (with_reducible first | exact HB.out | apply below_alloc | apply pw_below_drewN | apply below_drew1) | exact HB.out)) hb);clear HB;have HB:=n0_;clear n0_;(try clear hb);(try clear hb2);(try clear hk);(try clear hi)))
   go_meet
   case rel => exact ⟨_,(true),(by first | rfl | (simp;done) | (simp [*];done)),H',⟨by first | omega | exact Nat.le_refl _⟩,⟨by repeat (first | (with_reducible first | exact HB.out | apply below_alloc | apply pw_below_drewN | apply below_drew1) | exact HB.out)⟩⟩
  subst c5
  have H1 : ((impl_RunOk.f k l1).bind fun t224 => (impl_RunJoin.j0 k l0 l1 (!t224))) = some (r1,r2):=by rw [if_pos rfl] at H;exact H
  clear H
  have H:=H1
  clear H1
  replace H:=Option.bind_eq_some_iff.mp H
  obtain ⟨t224,A60,H⟩:=H
  replace H : (impl_RunJoin.j0 k l0 l1 (!t224)) = some (r1,r2):=H
  have A6:=Aside0.mk A60
  clear A60
  have H':=Aside0.mk H
  clear H
  go_wp2_with (first | ((with_reducible refine gate_callee (f:=15) rfl ?_);refine goesL_ (some 8) rfl rfl Try.func15 (by kernel_rfl) rfl #[.slice A0 l0.length c0] rfl (by (try simp only [List.map_toArray,List.map_cons,List.map_nil]);first | done | rfl | (simp only [List.length_drop,List.length_take];rfl)) ?_;(with_reducible refine (impl_RunOk.calls k _ _ l0 true _ ?side1 ?side2 A4.out).mono ?_);(case side1 => repeat (first | exact (Kd.C_below HR0.out HB.out) | (with_reducible refine Kd.C_alloc ?_ _) | (with_reducible refine Kd.C_drewN ?_ _) | (with_reducible refine Kd.C_drew ?_)));(case side2 => exact HC0.out);rintro e w7 ⟨rfl,hb⟩;refine ⟨_,rfl,?_⟩;have n0_:=Aside0.mk (below_step (by repeat (first | (with_reducible first | exact HB.out | apply below_alloc | apply pw_below_drewN | apply below_drew1) | exact HB.out)) hb);clear HB;have HB:=n0_;clear n0_;(try clear hb);(try clear hb2);(try clear hk);(try clear hi)) | (go_at_call 15;(with_reducible refine (impl_RunOk.calls k _ _ l1 t224 _ ?side1 ?side2 A6.out).mono ?_);(case side1 => repeat (first | exact (Kd.C_below HR1.out HB.out) | (with_reducible refine Kd.C_alloc ?_ _) | (with_reducible refine Kd.C_drewN ?_ _) | (with_reducible refine Kd.C_drew ?_)));(case side2 => exact HC1.out);rintro e w8 ⟨rfl,hb⟩;have n0_:=Aside0.mk (below_step (by repeat (first | (with_reducible first | exact HB.out | apply below_alloc | apply pw_below_drewN | apply below_drew1) | exact HB.out)) hb);clear HB;have HB:=n0_;clear n0_;(try clear hb);(try clear hb2);(try clear hk);(try clear hi)))
  go_meet
  case rel => exact ⟨_,(!t224),(by first | rfl | (simp;done) | (simp [*];done)),H',⟨by first | omega | exact Nat.le_refl _⟩,⟨by repeat (first | (with_reducible first | exact HB.out | apply below_alloc | apply pw_below_drewN | apply below_drew1) | exact HB.out)⟩⟩
 case rest =>
  clear HC3
  try clear c1
  try clear p2
  try clear c5
  try clear c7
  obtain ⟨kq,x14_2,rfl,HA,HJ2,HB⟩:=hcut
  cases kq with
  | zero => exact absurd HA.out (by simp [impl_RunJoin.j0])
  | succ kj =>
   have H:=HA.out
   clear HA
   simp only [impl_RunJoin.j0] at H
   by_cases c10 : x14_2 = true
   ·subst c10
    rw [if_pos rfl] at H
    simp only [Option.some.injEq,Prod.mk.injEq] at H
    obtain ⟨rfl,rfl⟩:=H
    go_wp2
    go_ret2
    exact ⟨_,rfl,Kd.R_nil _ _ _ _ _,(by repeat (first | (with_reducible first | exact HB.out | apply below_alloc | apply pw_below_drewN | apply below_drew1) | exact HB.out))⟩
   replace c10:=Bool.eq_false_iff.mpr c10
   subst c10
   rw [if_neg (show ¬ (false = true) by decide)] at H
   by_cases g0 : l0.length ≤ 400
   rotate_left
   ·rw [if_neg g0] at H;cases H
   rw [if_pos g0] at H
   by_cases g1 : l1.length ≤ 400
   rotate_left
   ·rw [if_neg g1] at H;cases H
   rw [if_pos g1] at H
   obtain ⟨t192,A13,H⟩:=Option.bind_eq_some_iff.mp H
   obtain ⟨t195,A14,H⟩:=Option.bind_eq_some_iff.mp H
   generalize hlj : l0 ++ l1 = lj at A13
   have hb9 : lj.length ≤ 1000:=by rw [← hlj];simp;omega
   by_cases c15 : t195 = true
   rotate_left
   ·replace c15:=Bool.eq_false_iff.mpr c15
    subst c15
    rw [if_neg (show ¬ (false = true) by decide)] at H
    simp only [Option.some.injEq,Prod.mk.injEq] at H
    obtain ⟨rfl,rfl⟩:=H
    go_wp2_with (first | ((with_reducible refine gate_callee (f:=16) rfl ?_);refine goesL_ (some 18) rfl rfl Try.func16 (by kernel_rfl) rfl #[.slice (some ⟨wc.heap.size,0,none⟩) 2 2] rfl (by (try simp only [List.map_toArray,List.map_cons,List.map_nil]);first | done | rfl) ?_;refine (concat_calls wc.heap.size A0 A1 c0 c1 l0 l1 _ ?cB ?cb0 ?cb1 ?cr0 ?cr1 g0 g1).mono ?_;(case cB => simp);(case cb0 => simp);(case cb1 => simp);(case cr0 => exact Kd.C_alloc (Kd.C_below HR0.out HB.out) _);(case cr1 => exact Kd.C_alloc (Kd.C_below HR1.out HB.out) _);rintro e w16 ⟨v1,rfl,ho1,hb1⟩;refine ⟨_,rfl,?_⟩;have B1 : Below w.heap.size w w16:=below_step (below_alloc HB.out _) hb1;have O1:=Kd.R_lower ho1 (show w.heap.size ≤ _ from (below_alloc HB.out _).size);rw [hlj] at O1;obtain ⟨As,cs,es⟩:=Kd.R_slice O1;subst es) | ((with_reducible refine gate_callee (f:=17) rfl ?_);refine goesL_ (some 20) rfl rfl Try.func17 (by kernel_rfl) rfl #[.slice As lj.length cs,.func (.func 18) #[] #[]] rfl (by (try simp only [List.map_toArray,List.map_cons,List.map_nil]);first | done | rfl) ?_;refine (impl_Entry_17.calls kj _ _ lj 0 t192 w w16 B1 O1 A13).mono ?_;rintro e w17 ⟨rfl,O2,B2,K2⟩;refine ⟨_,rfl,?_⟩;have hl2:=(Kd.R_reads' O2).1;have hr2:=(Kd.R_reads' O2).2.2;have hc2:=(Kd.R_reads' O2).2.1;rw [hl2] at hc2;have hb8:=hb9;rw [hl2] at hb8) | ((with_reducible refine gate_callee (f:=15) rfl ?_);refine goesL_ (some 22) rfl rfl Try.func15 (by kernel_rfl) rfl #[.slice As t192.length cs] rfl (by (try simp only [List.map_toArray,List.map_cons,List.map_nil]);first | done | rfl) ?_;refine (impl_RunOk.calls kj As cs t192 false w17 hr2 hc2 A14).mono ?_;rintro e w18 ⟨rfl,B3⟩;refine ⟨_,rfl,?_⟩;have B4:=below_step B2 B3;have hr3:=Kd.C_below hr2 B3))
    go_ret2
    exact ⟨_,rfl,Kd.R_nil _ _ _ _ _,B4⟩
   subst c15
   rw [if_pos rfl] at H
   simp only [Option.some.injEq,Prod.mk.injEq] at H
   obtain ⟨rfl,rfl⟩:=H
   go_wp2_with (first | ((with_reducible refine gate_callee (f:=16) rfl ?_);refine goesL_ (some 18) rfl rfl Try.func16 (by kernel_rfl) rfl #[.slice (some ⟨wc.heap.size,0,none⟩) 2 2] rfl (by (try simp only [List.map_toArray,List.map_cons,List.map_nil]);first | done | rfl) ?_;refine (concat_calls wc.heap.size A0 A1 c0 c1 l0 l1 _ ?cB ?cb0 ?cb1 ?cr0 ?cr1 g0 g1).mono ?_;(case cB => simp);(case cb0 => simp);(case cb1 => simp);(case cr0 => exact Kd.C_alloc (Kd.C_below HR0.out HB.out) _);(case cr1 => exact Kd.C_alloc (Kd.C_below HR1.out HB.out) _);rintro e w16 ⟨v1,rfl,ho1,hb1⟩;refine ⟨_,rfl,?_⟩;have B1 : Below w.heap.size w w16:=below_step (below_alloc HB.out _) hb1;have O1:=Kd.R_lower ho1 (show w.heap.size ≤ _ from (below_alloc HB.out _).size);rw [hlj] at O1;obtain ⟨As,cs,es⟩:=Kd.R_slice O1;subst es) | ((with_reducible refine gate_callee (f:=17) rfl ?_);refine goesL_ (some 20) rfl rfl Try.func17 (by kernel_rfl) rfl #[.slice As lj.length cs,.func (.func 18) #[] #[]] rfl (by (try simp only [List.map_toArray,List.map_cons,List.map_nil]);first | done | rfl) ?_;refine (impl_Entry_17.calls kj _ _ lj 0 t192 w w16 B1 O1 A13).mono ?_;rintro e w17 ⟨rfl,O2,B2,K2⟩;refine ⟨_,rfl,?_⟩;have hl2:=(Kd.R_reads' O2).1;have hr2:=(Kd.R_reads' O2).2.2;have hc2:=(Kd.R_reads' O2).2.1;rw [hl2] at hc2;have hb8:=hb9;rw [hl2] at hb8) | ((with_reducible refine gate_callee (f:=15) rfl ?_);refine goesL_ (some 22) rfl rfl Try.func15 (by kernel_rfl) rfl #[.slice As t192.length cs] rfl (by (try simp only [List.map_toArray,List.map_cons,List.map_nil]);first | done | rfl) ?_;refine (impl_RunOk.calls kj As cs t192 true w17 hr2 hc2 A14).mono ?_;rintro e w18 ⟨rfl,B3⟩;refine ⟨_,rfl,?_⟩;have B4:=below_step B2 B3;have hr3:=Kd.C_below hr2 B3) | ((with_reducible refine gate_callee (f:=20) rfl ?_);refine goesL_ (some 25) rfl rfl Try.func20 (by kernel_rfl) rfl #[.slice As t192.length cs] rfl (by (try simp only [List.map_toArray,List.map_cons,List.map_nil]);first | done | rfl) ?_;refine (clone_calls As cs t192 w18 hr3 hc2 hb8).mono ?_;rintro e w19 ⟨v4,rfl,O4,B5⟩;refine ⟨_,rfl,?_⟩;have B6:=below_step B4 B5;have O5:=Kd.R_lower O4 B4.size))
   go_ret2
   exact ⟨_,rfl,O5,B6⟩
/-! ### laws_eqEntry: function 21 -/
def laws_eqEntry.f (a0_0 : ByteArray) (a0_1 : Int) (a0_2 : Bool) (a0_3 : Int) (a1_0 : ByteArray) (a1_1 : Int) (a1_2 : Bool) (a1_3 : Int) : Option (Bool):=if a0_0.toList = a1_0.toList then (if a0_1 = a1_1 then (if (a0_2 != a1_2) = true then (some false) else (if a0_3 = a1_3 then (some true) else (some false))) else (some false)) else (some false)
set_option maxHeartbeats 8000000 in
set_option maxRecDepth 100000 in
theorem laws_eqEntry.calls (a0_0 : ByteArray) (a0_1 : Int) (a0_2 : Bool) (a0_3 : Int) (a1_0 : ByteArray) (a1_1 : Int) (a1_2 : Bool) (a1_3 : Int) (r : Bool) (w : World) (h : laws_eqEntry.f a0_0 a0_1 a0_2 a0_3 a1_0 a1_1 a1_2 a1_3 = some r) :
  Calls Try.prog 21 #[.agg #[.string a0_0,.int .i64 a0_1,.bool a0_2,.int .i64 a0_3],.agg #[.string a1_0,.int .i64 a1_1,.bool a1_2,.int .i64 a1_3]] w fun e w' => e = .returned (.bool r) ∧ Below w.heap.size w w':=by
 have hu36:=Try.underlying36
 have HB:=Aside0.mk (Below.refl w.heap.size w)
 have H : (if a0_0.toList = a1_0.toList then (if a0_1 = a1_1 then (if (a0_2 != a1_2) = true then (some false) else (if a0_3 = a1_3 then (some true) else (some false))) else (some false)) else (some false)) = some r:=h
 clear h
 by_cases c3 : a0_0.toList = a1_0.toList
 rotate_left
 ·rw [if_neg c3] at H
  have c3b0 : (a0_0.toList == a1_0.toList) = false:=beq_eq_false_iff_ne.mpr c3
  have c3b1 : (a0_0.toList != a1_0.toList) = true:=bne_iff_ne.mpr c3
  obtain rfl:=Option.some.inj H
  go_enter Try.func21,Try.ntmps21
  go_wp2_with (first | ((with_reducible refine gate_dst (N:=2) rfl ?_);refine box_event ?hg (N:=2) ?hd (cs:=#[.string a0_0,.int .i64 a0_1,.bool a0_2,.int .i64 a0_3]) (t:=36) ?hr ?_;(case hd => rfl);(case hg => rfl);(case hr => first | (go_simp;done) | (go_simp;rfl));intro gb235 hg w27 hbox hb;have n0_:=Aside0.mk (below_step (by repeat (first | (with_reducible first | exact HB.out | apply below_alloc | apply pw_below_drewN | apply below_drew1) | exact HB.out)) hb);have n1_:=Aside0.mk (hbox);have n2_:=Aside0.mk ((by rw [hg];exact (below_size (by repeat (first | (with_reducible first | exact HB.out | apply below_alloc | apply pw_below_drewN | apply below_drew1) | exact HB.out))) : w.heap.size ≤ gb235));have n3_:=Aside0.mk ((by rw [hg];exact (below_size (by repeat (first | (with_reducible first | exact HB.out | apply below_alloc | apply pw_below_drewN | apply below_drew1) | exact HB.out))) : w.heap.size ≤ gb235));clear HB;have HB:=n0_;have BK235:=n1_;have GW235:=n2_;have GE235:=n3_;clear n0_ n1_ n2_ n3_;clear hb hbox hg) | ((with_reducible refine gate_dst (N:=3) rfl ?_);refine box_event ?hg (N:=3) ?hd (cs:=#[.string a1_0,.int .i64 a1_1,.bool a1_2,.int .i64 a1_3]) (t:=36) ?hr ?_;(case hd => rfl);(case hg => rfl);(case hr => first | (go_simp;done) | (go_simp;rfl));intro gb236 hg w28 hbox hb;have n0_:=Aside0.mk (blk_below (g:=gb235) (o:=.cells #[.string a0_0,.int .i64 a0_1,.bool a0_2,.int .i64 a0_3] 36 (0,0)) (by (with_reducible repeat (first | refine blk_drewN ?_ _ | refine blk_drew ?_ | refine blk_alloc ?_ _));exact BK235.out) hb);have n1_:=Aside0.mk (below_step (by repeat (first | (with_reducible first | exact HB.out | apply below_alloc | apply pw_below_drewN | apply below_drew1 | refine below_set ?_ GE235.out) | exact HB.out)) hb);have n2_:=Aside0.mk (hbox);have n3_:=Aside0.mk ((by rw [hg];exact (below_size (by repeat (first | (with_reducible first | exact HB.out | apply below_alloc | apply pw_below_drewN | apply below_drew1 | refine below_set ?_ GE235.out) | exact HB.out))) : w.heap.size ≤ gb236));have n4_:=Aside0.mk ((by rw [hg];exact (below_size (by repeat (first | (with_reducible first | exact HB.out | apply below_alloc | apply pw_below_drewN | apply below_drew1 | refine below_set ?_ GE235.out) | exact HB.out))) : w.heap.size ≤ gb236));have n5_:=Aside0.mk ((by rw [hg];exact Nat.ne_of_lt (blk_lt (g:=gb235) (o:=.cells #[.string a0_0,.int .i64 a0_1,.bool a0_2,.int .i64 a0_3] 36 (0,0)) (by (with_reducible repeat (first | refine blk_drewN ?_ _ | refine blk_drew ?_ | refine blk_alloc ?_ _));exact BK235.out)) : gb235 ≠ gb236));have n6_:=Aside0.mk ((by rw [hg];exact Nat.ne_of_gt (blk_lt (g:=gb235) (o:=.cells #[.string a0_0,.int .i64 a0_1,.bool a0_2,.int .i64 a0_3] 36 (0,0)) (by (with_reducible repeat (first | refine blk_drewN ?_ _ | refine blk_drew ?_ | refine blk_alloc ?_ _));exact BK235.out)) : gb236 ≠ gb235));clear BK235;clear HB;have BK235:=n0_;have HB:=n1_;have BK236:=n2_;have GW236:=n3_;have GE236:=n4_;have NB235_236:=n5_;have NB236_235:=n6_;clear n0_ n1_ n2_ n3_ n4_ n5_ n6_;clear hb hbox hg;have hnb29:=NB235_236.out;have hnc29:=NB236_235.out;have hcz30_0 : w28.cell? ⟨gb235,0,none⟩ = some (.string a0_0):=(blk_cell BK235.out 0).trans rfl;have hcz30_1 : w28.cell? ⟨gb235,1,none⟩ = some (.int .i64 a0_1):=(blk_cell BK235.out 1).trans rfl;have hcz30_2 : w28.cell? ⟨gb235,2,none⟩ = some (.bool a0_2):=(blk_cell BK235.out 2).trans rfl;have hcz30_3 : w28.cell? ⟨gb235,3,none⟩ = some (.int .i64 a0_3):=(blk_cell BK235.out 3).trans rfl;have hfz30_0:=blk_frozen BK235.out 0;have hfz30_1:=blk_frozen BK235.out 1;have hfz30_2:=blk_frozen BK235.out 2;have hfz30_3:=blk_frozen BK235.out 3;have hcz31_0 : w28.cell? ⟨gb236,0,none⟩ = some (.string a1_0):=(blk_cell BK236.out 0).trans rfl;have hcz31_1 : w28.cell? ⟨gb236,1,none⟩ = some (.int .i64 a1_1):=(blk_cell BK236.out 1).trans rfl;have hcz31_2 : w28.cell? ⟨gb236,2,none⟩ = some (.bool a1_2):=(blk_cell BK236.out 2).trans rfl;have hcz31_3 : w28.cell? ⟨gb236,3,none⟩ = some (.int .i64 a1_3):=(blk_cell BK236.out 3).trans rfl;have hfz31_0:=blk_frozen BK236.out 0;have hfz31_1:=blk_frozen BK236.out 1;have hfz31_2:=blk_frozen BK236.out 2;have hfz31_3:=blk_frozen BK236.out 3))
  go_ret
  exact ⟨by first | rfl | (simp [errW_none,errW_some] <;> rfl) | (simp [*,errW_none,errW_some] <;> rfl),by repeat (first | (with_reducible first | exact HB.out | apply below_alloc | apply pw_below_drewN | apply below_drew1 | refine below_set ?_ GE235.out | refine below_set ?_ GE236.out) | exact HB.out)⟩
 rw [if_pos c3] at H
 have c3b0 : (a0_0.toList == a1_0.toList) = true:=beq_iff_eq.mpr c3
 have c3b1 : (a0_0.toList != a1_0.toList) = false:=bne_eq_false_iff_eq.mpr c3
 clear c3
 by_cases c4 : a0_1 = a1_1
 rotate_left
 ·rw [if_neg c4] at H
  have c4b0 : (a0_1 == a1_1) = false:=beq_eq_false_iff_ne.mpr c4
  have c4b1 : (a0_1 != a1_1) = true:=bne_iff_ne.mpr c4
  obtain rfl:=Option.some.inj H
  go_enter Try.func21,Try.ntmps21
  go_wp2_with (first | ((with_reducible refine gate_dst (N:=2) rfl ?_);refine box_event ?hg (N:=2) ?hd (cs:=#[.string a0_0,.int .i64 a0_1,.bool a0_2,.int .i64 a0_3]) (t:=36) ?hr ?_;(case hd => rfl);(case hg => rfl);(case hr => first | (go_simp;done) | (go_simp;rfl));intro gb235 hg w22 hbox hb;have n0_:=Aside0.mk (below_step (by repeat (first | (with_reducible first | exact HB.out | apply below_alloc | apply pw_below_drewN | apply below_drew1) | exact HB.out)) hb);have n1_:=Aside0.mk (hbox);have n2_:=Aside0.mk ((by rw [hg];exact (below_size (by repeat (first | (with_reducible first | exact HB.out | apply below_alloc | apply pw_below_drewN | apply below_drew1) | exact HB.out))) : w.heap.size ≤ gb235));have n3_:=Aside0.mk ((by rw [hg];exact (below_size (by repeat (first | (with_reducible first | exact HB.out | apply below_alloc | apply pw_below_drewN | apply below_drew1) | exact HB.out))) : w.heap.size ≤ gb235));clear HB;have HB:=n0_;have BK235:=n1_;have GW235:=n2_;have GE235:=n3_;clear n0_ n1_ n2_ n3_;clear hb hbox hg) | ((with_reducible refine gate_dst (N:=3) rfl ?_);refine box_event ?hg (N:=3) ?hd (cs:=#[.string a1_0,.int .i64 a1_1,.bool a1_2,.int .i64 a1_3]) (t:=36) ?hr ?_;(case hd => rfl);(case hg => rfl);(case hr => first | (go_simp;done) | (go_simp;rfl));intro gb236 hg w23 hbox hb;have n0_:=Aside0.mk (blk_below (g:=gb235) (o:=.cells #[.string a0_0,.int .i64 a0_1,.bool a0_2,.int .i64 a0_3] 36 (0,0)) (by (with_reducible repeat (first | refine blk_drewN ?_ _ | refine blk_drew ?_ | refine blk_alloc ?_ _));exact BK235.out) hb);have n1_:=Aside0.mk (below_step (by repeat (first | (with_reducible first | exact HB.out | apply below_alloc | apply pw_below_drewN | apply below_drew1 | refine below_set ?_ GE235.out) | exact HB.out)) hb);have n2_:=Aside0.mk (hbox);have n3_:=Aside0.mk ((by rw [hg];exact (below_size (by repeat (first | (with_reducible first | exact HB.out | apply below_alloc | apply pw_below_drewN | apply below_drew1 | refine below_set ?_ GE235.out) | exact HB.out))) : w.heap.size ≤ gb236));have n4_:=Aside0.mk ((by rw [hg];exact (below_size (by repeat (first | (with_reducible first | exact HB.out | apply below_alloc | apply pw_below_drewN | apply below_drew1 | refine below_set ?_ GE235.out) | exact HB.out))) : w.heap.size ≤ gb236));have n5_:=Aside0.mk ((by rw [hg];exact Nat.ne_of_lt (blk_lt (g:=gb235) (o:=.cells #[.string a0_0,.int .i64 a0_1,.bool a0_2,.int .i64 a0_3] 36 (0,0)) (by (with_reducible repeat (first | refine blk_drewN ?_ _ | refine blk_drew ?_ | refine blk_alloc ?_ _));exact BK235.out)) : gb235 ≠ gb236));have n6_:=Aside0.mk ((by rw [hg];exact Nat.ne_of_gt (blk_lt (g:=gb235) (o:=.cells #[.string a0_0,.int .i64 a0_1,.bool a0_2,.int .i64 a0_3] 36 (0,0)) (by (with_reducible repeat (first | refine blk_drewN ?_ _ | refine blk_drew ?_ | refine blk_alloc ?_ _));exact BK235.out)) : gb236 ≠ gb235));clear BK235;clear HB;have BK235:=n0_;have HB:=n1_;have BK236:=n2_;have GW236:=n3_;have GE236:=n4_;have NB235_236:=n5_;have NB236_235:=n6_;clear n0_ n1_ n2_ n3_ n4_ n5_ n6_;clear hb hbox hg;have hnb24:=NB235_236.out;have hnc24:=NB236_235.out;have hcz25_0 : w23.cell? ⟨gb235,0,none⟩ = some (.string a0_0):=(blk_cell BK235.out 0).trans rfl;have hcz25_1 : w23.cell? ⟨gb235,1,none⟩ = some (.int .i64 a0_1):=(blk_cell BK235.out 1).trans rfl;have hcz25_2 : w23.cell? ⟨gb235,2,none⟩ = some (.bool a0_2):=(blk_cell BK235.out 2).trans rfl;have hcz25_3 : w23.cell? ⟨gb235,3,none⟩ = some (.int .i64 a0_3):=(blk_cell BK235.out 3).trans rfl;have hfz25_0:=blk_frozen BK235.out 0;have hfz25_1:=blk_frozen BK235.out 1;have hfz25_2:=blk_frozen BK235.out 2;have hfz25_3:=blk_frozen BK235.out 3;have hcz26_0 : w23.cell? ⟨gb236,0,none⟩ = some (.string a1_0):=(blk_cell BK236.out 0).trans rfl;have hcz26_1 : w23.cell? ⟨gb236,1,none⟩ = some (.int .i64 a1_1):=(blk_cell BK236.out 1).trans rfl;have hcz26_2 : w23.cell? ⟨gb236,2,none⟩ = some (.bool a1_2):=(blk_cell BK236.out 2).trans rfl;have hcz26_3 : w23.cell? ⟨gb236,3,none⟩ = some (.int .i64 a1_3):=(blk_cell BK236.out 3).trans rfl;have hfz26_0:=blk_frozen BK236.out 0;have hfz26_1:=blk_frozen BK236.out 1;have hfz26_2:=blk_frozen BK236.out 2;have hfz26_3:=blk_frozen BK236.out 3))
  go_ret
  exact ⟨by first | rfl | (simp [errW_none,errW_some] <;> rfl) | (simp [*,errW_none,errW_some] <;> rfl),by repeat (first | (with_reducible first | exact HB.out | apply below_alloc | apply pw_below_drewN | apply below_drew1 | refine below_set ?_ GE235.out | refine below_set ?_ GE236.out) | exact HB.out)⟩
 rw [if_pos c4] at H
 have c4b0 : (a0_1 == a1_1) = true:=beq_iff_eq.mpr c4
 have c4b1 : (a0_1 != a1_1) = false:=bne_eq_false_iff_eq.mpr c4
 clear c4
 by_cases c5 : (a0_2 != a1_2) = true
 ·rw [if_pos c5] at H
  have c5b0 : (a0_2 != a1_2) = true:=c5
  (try (have c5b1 : decide (a0_2 = a1_2) = false:=by simpa using c5))
  (try (have c5b2 : (a0_2 == a1_2) = false:=by simpa using c5))
  (try (have c5b3 : ¬ (a0_2 = a1_2):=by simpa using c5))
  clear c5
  obtain rfl:=Option.some.inj H
  go_enter Try.func21,Try.ntmps21
  go_wp2_with (first | ((with_reducible refine gate_dst (N:=2) rfl ?_);refine box_event ?hg (N:=2) ?hd (cs:=#[.string a0_0,.int .i64 a0_1,.bool a0_2,.int .i64 a0_3]) (t:=36) ?hr ?_;(case hd => rfl);(case hg => rfl);(case hr => first | (go_simp;done) | (go_simp;rfl));intro gb235 hg w6 hbox hb;have n0_:=Aside0.mk (below_step (by repeat (first | (with_reducible first | exact HB.out | apply below_alloc | apply pw_below_drewN | apply below_drew1) | exact HB.out)) hb);have n1_:=Aside0.mk (hbox);have n2_:=Aside0.mk ((by rw [hg];exact (below_size (by repeat (first | (with_reducible first | exact HB.out | apply below_alloc | apply pw_below_drewN | apply below_drew1) | exact HB.out))) : w.heap.size ≤ gb235));have n3_:=Aside0.mk ((by rw [hg];exact (below_size (by repeat (first | (with_reducible first | exact HB.out | apply below_alloc | apply pw_below_drewN | apply below_drew1) | exact HB.out))) : w.heap.size ≤ gb235));clear HB;have HB:=n0_;have BK235:=n1_;have GW235:=n2_;have GE235:=n3_;clear n0_ n1_ n2_ n3_;clear hb hbox hg) | ((with_reducible refine gate_dst (N:=3) rfl ?_);refine box_event ?hg (N:=3) ?hd (cs:=#[.string a1_0,.int .i64 a1_1,.bool a1_2,.int .i64 a1_3]) (t:=36) ?hr ?_;(case hd => rfl);(case hg => rfl);(case hr => first | (go_simp;done) | (go_simp;rfl));intro gb236 hg w7 hbox hb;have n0_:=Aside0.mk (blk_below (g:=gb235) (o:=.cells #[.string a0_0,.int .i64 a0_1,.bool a0_2,.int .i64 a0_3] 36 (0,0)) (by (with_reducible repeat (first | refine blk_drewN ?_ _ | refine blk_drew ?_ | refine blk_alloc ?_ _));exact BK235.out) hb);have n1_:=Aside0.mk (below_step (by repeat (first | (with_reducible first | exact HB.out | apply below_alloc | apply pw_below_drewN | apply below_drew1 | refine below_set ?_ GE235.out) | exact HB.out)) hb);have n2_:=Aside0.mk (hbox);have n3_:=Aside0.mk ((by rw [hg];exact (below_size (by repeat (first | (with_reducible first | exact HB.out | apply below_alloc | apply pw_below_drewN | apply below_drew1 | refine below_set ?_ GE235.out) | exact HB.out))) : w.heap.size ≤ gb236));have n4_:=Aside0.mk ((by rw [hg];exact (below_size (by repeat (first | (with_reducible first | exact HB.out | apply below_alloc | apply pw_below_drewN | apply below_drew1 | refine below_set ?_ GE235.out) | exact HB.out))) : w.heap.size ≤ gb236));have n5_:=Aside0.mk ((by rw [hg];exact Nat.ne_of_lt (blk_lt (g:=gb235) (o:=.cells #[.string a0_0,.int .i64 a0_1,.bool a0_2,.int .i64 a0_3] 36 (0,0)) (by (with_reducible repeat (first | refine blk_drewN ?_ _ | refine blk_drew ?_ | refine blk_alloc ?_ _));exact BK235.out)) : gb235 ≠ gb236));have n6_:=Aside0.mk ((by rw [hg];exact Nat.ne_of_gt (blk_lt (g:=gb235) (o:=.cells #[.string a0_0,.int .i64 a0_1,.bool a0_2,.int .i64 a0_3] 36 (0,0)) (by (with_reducible repeat (first | refine blk_drewN ?_ _ | refine blk_drew ?_ | refine blk_alloc ?_ _));exact BK235.out)) : gb236 ≠ gb235));clear BK235;clear HB;have BK235:=n0_;have HB:=n1_;have BK236:=n2_;have GW236:=n3_;have GE236:=n4_;have NB235_236:=n5_;have NB236_235:=n6_;clear n0_ n1_ n2_ n3_ n4_ n5_ n6_;clear hb hbox hg;have hnb8:=NB235_236.out;have hnc8:=NB236_235.out;have hcz9_0 : w7.cell? ⟨gb235,0,none⟩ = some (.string a0_0):=(blk_cell BK235.out 0).trans rfl;have hcz9_1 : w7.cell? ⟨gb235,1,none⟩ = some (.int .i64 a0_1):=(blk_cell BK235.out 1).trans rfl;have hcz9_2 : w7.cell? ⟨gb235,2,none⟩ = some (.bool a0_2):=(blk_cell BK235.out 2).trans rfl;have hcz9_3 : w7.cell? ⟨gb235,3,none⟩ = some (.int .i64 a0_3):=(blk_cell BK235.out 3).trans rfl;have hfz9_0:=blk_frozen BK235.out 0;have hfz9_1:=blk_frozen BK235.out 1;have hfz9_2:=blk_frozen BK235.out 2;have hfz9_3:=blk_frozen BK235.out 3;have hcz10_0 : w7.cell? ⟨gb236,0,none⟩ = some (.string a1_0):=(blk_cell BK236.out 0).trans rfl;have hcz10_1 : w7.cell? ⟨gb236,1,none⟩ = some (.int .i64 a1_1):=(blk_cell BK236.out 1).trans rfl;have hcz10_2 : w7.cell? ⟨gb236,2,none⟩ = some (.bool a1_2):=(blk_cell BK236.out 2).trans rfl;have hcz10_3 : w7.cell? ⟨gb236,3,none⟩ = some (.int .i64 a1_3):=(blk_cell BK236.out 3).trans rfl;have hfz10_0:=blk_frozen BK236.out 0;have hfz10_1:=blk_frozen BK236.out 1;have hfz10_2:=blk_frozen BK236.out 2;have hfz10_3:=blk_frozen BK236.out 3))
  go_ret
  exact ⟨by first | rfl | (simp [errW_none,errW_some] <;> rfl) | (simp [*,errW_none,errW_some] <;> rfl),by repeat (first | (with_reducible first | exact HB.out | apply below_alloc | apply pw_below_drewN | apply below_drew1 | refine below_set ?_ GE235.out | refine below_set ?_ GE236.out) | exact HB.out)⟩
 rw [if_neg c5] at H
 have c5b0 : (a0_2 != a1_2) = false:=by simpa using c5
 (try (have c5b1 : decide (a0_2 = a1_2) = true:=by simpa using c5))
 (try (have c5b2 : (a0_2 == a1_2) = true:=by simpa using c5))
 clear c5
 by_cases c11 : a0_3 = a1_3
 rotate_left
 ·rw [if_neg c11] at H
  have c11b0 : (a0_3 == a1_3) = false:=beq_eq_false_iff_ne.mpr c11
  have c11b1 : (a0_3 != a1_3) = true:=bne_iff_ne.mpr c11
  obtain rfl:=Option.some.inj H
  go_enter Try.func21,Try.ntmps21
  go_wp2_with (first | ((with_reducible refine gate_dst (N:=2) rfl ?_);refine box_event ?hg (N:=2) ?hd (cs:=#[.string a0_0,.int .i64 a0_1,.bool a0_2,.int .i64 a0_3]) (t:=36) ?hr ?_;(case hd => rfl);(case hg => rfl);(case hr => first | (go_simp;done) | (go_simp;rfl));intro gb235 hg w17 hbox hb;have n0_:=Aside0.mk (below_step (by repeat (first | (with_reducible first | exact HB.out | apply below_alloc | apply pw_below_drewN | apply below_drew1) | exact HB.out)) hb);have n1_:=Aside0.mk (hbox);have n2_:=Aside0.mk ((by rw [hg];exact (below_size (by repeat (first | (with_reducible first | exact HB.out | apply below_alloc | apply pw_below_drewN | apply below_drew1) | exact HB.out))) : w.heap.size ≤ gb235));have n3_:=Aside0.mk ((by rw [hg];exact (below_size (by repeat (first | (with_reducible first | exact HB.out | apply below_alloc | apply pw_below_drewN | apply below_drew1) | exact HB.out))) : w.heap.size ≤ gb235));clear HB;have HB:=n0_;have BK235:=n1_;have GW235:=n2_;have GE235:=n3_;clear n0_ n1_ n2_ n3_;clear hb hbox hg) | ((with_reducible refine gate_dst (N:=3) rfl ?_);refine box_event ?hg (N:=3) ?hd (cs:=#[.string a1_0,.int .i64 a1_1,.bool a1_2,.int .i64 a1_3]) (t:=36) ?hr ?_;(case hd => rfl);(case hg => rfl);(case hr => first | (go_simp;done) | (go_simp;rfl));intro gb236 hg w18 hbox hb;have n0_:=Aside0.mk (blk_below (g:=gb235) (o:=.cells #[.string a0_0,.int .i64 a0_1,.bool a0_2,.int .i64 a0_3] 36 (0,0)) (by (with_reducible repeat (first | refine blk_drewN ?_ _ | refine blk_drew ?_ | refine blk_alloc ?_ _));exact BK235.out) hb);have n1_:=Aside0.mk (below_step (by repeat (first | (with_reducible first | exact HB.out | apply below_alloc | apply pw_below_drewN | apply below_drew1 | refine below_set ?_ GE235.out) | exact HB.out)) hb);have n2_:=Aside0.mk (hbox);have n3_:=Aside0.mk ((by rw [hg];exact (below_size (by repeat (first | (with_reducible first | exact HB.out | apply below_alloc | apply pw_below_drewN | apply below_drew1 | refine below_set ?_ GE235.out) | exact HB.out))) : w.heap.size ≤ gb236));have n4_:=Aside0.mk ((by rw [hg];exact (below_size (by repeat (first | (with_reducible first | exact HB.out | apply below_alloc | apply pw_below_drewN | apply below_drew1 | refine below_set ?_ GE235.out) | exact HB.out))) : w.heap.size ≤ gb236));have n5_:=Aside0.mk ((by rw [hg];exact Nat.ne_of_lt (blk_lt (g:=gb235) (o:=.cells #[.string a0_0,.int .i64 a0_1,.bool a0_2,.int .i64 a0_3] 36 (0,0)) (by (with_reducible repeat (first | refine blk_drewN ?_ _ | refine blk_drew ?_ | refine blk_alloc ?_ _));exact BK235.out)) : gb235 ≠ gb236));have n6_:=Aside0.mk ((by rw [hg];exact Nat.ne_of_gt (blk_lt (g:=gb235) (o:=.cells #[.string a0_0,.int .i64 a0_1,.bool a0_2,.int .i64 a0_3] 36 (0,0)) (by (with_reducible repeat (first | refine blk_drewN ?_ _ | refine blk_drew ?_ | refine blk_alloc ?_ _));exact BK235.out)) : gb236 ≠ gb235));clear BK235;clear HB;have BK235:=n0_;have HB:=n1_;have BK236:=n2_;have GW236:=n3_;have GE236:=n4_;have NB235_236:=n5_;have NB236_235:=n6_;clear n0_ n1_ n2_ n3_ n4_ n5_ n6_;clear hb hbox hg;have hnb19:=NB235_236.out;have hnc19:=NB236_235.out;have hcz20_0 : w18.cell? ⟨gb235,0,none⟩ = some (.string a0_0):=(blk_cell BK235.out 0).trans rfl;have hcz20_1 : w18.cell? ⟨gb235,1,none⟩ = some (.int .i64 a0_1):=(blk_cell BK235.out 1).trans rfl;have hcz20_2 : w18.cell? ⟨gb235,2,none⟩ = some (.bool a0_2):=(blk_cell BK235.out 2).trans rfl;have hcz20_3 : w18.cell? ⟨gb235,3,none⟩ = some (.int .i64 a0_3):=(blk_cell BK235.out 3).trans rfl;have hfz20_0:=blk_frozen BK235.out 0;have hfz20_1:=blk_frozen BK235.out 1;have hfz20_2:=blk_frozen BK235.out 2;have hfz20_3:=blk_frozen BK235.out 3;have hcz21_0 : w18.cell? ⟨gb236,0,none⟩ = some (.string a1_0):=(blk_cell BK236.out 0).trans rfl;have hcz21_1 : w18.cell? ⟨gb236,1,none⟩ = some (.int .i64 a1_1):=(blk_cell BK236.out 1).trans rfl;have hcz21_2 : w18.cell? ⟨gb236,2,none⟩ = some (.bool a1_2):=(blk_cell BK236.out 2).trans rfl;have hcz21_3 : w18.cell? ⟨gb236,3,none⟩ = some (.int .i64 a1_3):=(blk_cell BK236.out 3).trans rfl;have hfz21_0:=blk_frozen BK236.out 0;have hfz21_1:=blk_frozen BK236.out 1;have hfz21_2:=blk_frozen BK236.out 2;have hfz21_3:=blk_frozen BK236.out 3))
  go_ret
  exact ⟨by first | rfl | (simp [errW_none,errW_some] <;> rfl) | (simp [*,errW_none,errW_some] <;> rfl),by repeat (first | (with_reducible first | exact HB.out | apply below_alloc | apply pw_below_drewN | apply below_drew1 | refine below_set ?_ GE235.out | refine below_set ?_ GE236.out) | exact HB.out)⟩
 rw [if_pos c11] at H
 have c11b0 : (a0_3 == a1_3) = true:=beq_iff_eq.mpr c11
 have c11b1 : (a0_3 != a1_3) = false:=bne_eq_false_iff_eq.mpr c11
 clear c11
 obtain rfl:=Option.some.inj H
 go_enter Try.func21,Try.ntmps21
 go_wp2_with (first | ((with_reducible refine gate_dst (N:=2) rfl ?_);refine box_event ?hg (N:=2) ?hd (cs:=#[.string a0_0,.int .i64 a0_1,.bool a0_2,.int .i64 a0_3]) (t:=36) ?hr ?_;(case hd => rfl);(case hg => rfl);(case hr => first | (go_simp;done) | (go_simp;rfl));intro gb235 hg w12 hbox hb;have n0_:=Aside0.mk (below_step (by repeat (first | (with_reducible first | exact HB.out | apply below_alloc | apply pw_below_drewN | apply below_drew1) | exact HB.out)) hb);have n1_:=Aside0.mk (hbox);have n2_:=Aside0.mk ((by rw [hg];exact (below_size (by repeat (first | (with_reducible first | exact HB.out | apply below_alloc | apply pw_below_drewN | apply below_drew1) | exact HB.out))) : w.heap.size ≤ gb235));have n3_:=Aside0.mk ((by rw [hg];exact (below_size (by repeat (first | (with_reducible first | exact HB.out | apply below_alloc | apply pw_below_drewN | apply below_drew1) | exact HB.out))) : w.heap.size ≤ gb235));clear HB;have HB:=n0_;have BK235:=n1_;have GW235:=n2_;have GE235:=n3_;clear n0_ n1_ n2_ n3_;clear hb hbox hg) | ((with_reducible refine gate_dst (N:=3) rfl ?_);refine box_event ?hg (N:=3) ?hd (cs:=#[.string a1_0,.int .i64 a1_1,.bool a1_2,.int .i64 a1_3]) (t:=36) ?hr ?_;(case hd => rfl);(case hg => rfl);(case hr => first | (go_simp;done) | (go_simp;rfl));intro gb236 hg w13 hbox hb;have n0_:=Aside0.mk (blk_below (g:=gb235) (o:=.cells #[.string a0_0,.int .i64 a0_1,.bool a0_2,.int .i64 a0_3] 36 (0,0)) (by (with_reducible repeat (first | refine blk_drewN ?_ _ | refine blk_drew ?_ | refine blk_alloc ?_ _));exact BK235.out) hb);have n1_:=Aside0.mk (below_step (by repeat (first | (with_reducible first | exact HB.out | apply below_alloc | apply pw_below_drewN | apply below_drew1 | refine below_set ?_ GE235.out) | exact HB.out)) hb);have n2_:=Aside0.mk (hbox);have n3_:=Aside0.mk ((by rw [hg];exact (below_size (by repeat (first | (with_reducible first | exact HB.out | apply below_alloc | apply pw_below_drewN | apply below_drew1 | refine below_set ?_ GE235.out) | exact HB.out))) : w.heap.size ≤ gb236));have n4_:=Aside0.mk ((by rw [hg];exact (below_size (by repeat (first | (with_reducible first | exact HB.out | apply below_alloc | apply pw_below_drewN | apply below_drew1 | refine below_set ?_ GE235.out) | exact HB.out))) : w.heap.size ≤ gb236));have n5_:=Aside0.mk ((by rw [hg];exact Nat.ne_of_lt (blk_lt (g:=gb235) (o:=.cells #[.string a0_0,.int .i64 a0_1,.bool a0_2,.int .i64 a0_3] 36 (0,0)) (by (with_reducible repeat (first | refine blk_drewN ?_ _ | refine blk_drew ?_ | refine blk_alloc ?_ _));exact BK235.out)) : gb235 ≠ gb236));have n6_:=Aside0.mk ((by rw [hg];exact Nat.ne_of_gt (blk_lt (g:=gb235) (o:=.cells #[.string a0_0,.int .i64 a0_1,.bool a0_2,.int .i64 a0_3] 36 (0,0)) (by (with_reducible repeat (first | refine blk_drewN ?_ _ | refine blk_drew ?_ | refine blk_alloc ?_ _));exact BK235.out)) : gb236 ≠ gb235));clear BK235;clear HB;have BK235:=n0_;have HB:=n1_;have BK236:=n2_;have GW236:=n3_;have GE236:=n4_;have NB235_236:=n5_;have NB236_235:=n6_;clear n0_ n1_ n2_ n3_ n4_ n5_ n6_;clear hb hbox hg;have hnb14:=NB235_236.out;have hnc14:=NB236_235.out;have hcz15_0 : w13.cell? ⟨gb235,0,none⟩ = some (.string a0_0):=(blk_cell BK235.out 0).trans rfl;have hcz15_1 : w13.cell? ⟨gb235,1,none⟩ = some (.int .i64 a0_1):=(blk_cell BK235.out 1).trans rfl;have hcz15_2 : w13.cell? ⟨gb235,2,none⟩ = some (.bool a0_2):=(blk_cell BK235.out 2).trans rfl;have hcz15_3 : w13.cell? ⟨gb235,3,none⟩ = some (.int .i64 a0_3):=(blk_cell BK235.out 3).trans rfl;have hfz15_0:=blk_frozen BK235.out 0;have hfz15_1:=blk_frozen BK235.out 1;have hfz15_2:=blk_frozen BK235.out 2;have hfz15_3:=blk_frozen BK235.out 3;have hcz16_0 : w13.cell? ⟨gb236,0,none⟩ = some (.string a1_0):=(blk_cell BK236.out 0).trans rfl;have hcz16_1 : w13.cell? ⟨gb236,1,none⟩ = some (.int .i64 a1_1):=(blk_cell BK236.out 1).trans rfl;have hcz16_2 : w13.cell? ⟨gb236,2,none⟩ = some (.bool a1_2):=(blk_cell BK236.out 2).trans rfl;have hcz16_3 : w13.cell? ⟨gb236,3,none⟩ = some (.int .i64 a1_3):=(blk_cell BK236.out 3).trans rfl;have hfz16_0:=blk_frozen BK236.out 0;have hfz16_1:=blk_frozen BK236.out 1;have hfz16_2:=blk_frozen BK236.out 2;have hfz16_3:=blk_frozen BK236.out 3))
 go_ret
 exact ⟨by first | rfl | (simp [errW_none,errW_some] <;> rfl) | (simp [*,errW_none,errW_some] <;> rfl),by repeat (first | (with_reducible first | exact HB.out | apply below_alloc | apply pw_below_drewN | apply below_drew1 | refine below_set ?_ GE235.out | refine below_set ?_ GE236.out) | exact HB.out)⟩
end Go.Proofs.Ytmbfoookfcfmeaa.PFnExactRunJoin
