/-
 Functions that FnRunJoinAt reaches,each as a Lean function,and that Go comes to its answer: printed by the kit's printer,the sort's comparing function and impl.RunJoin's part laid by hand. Conditions: those that stand in each statement.
-/
import Derived.Test.YtkifijclehgiaaaPFnRunJoinAtx0
import Derived.Test.YtkifijclehgiaaaPFnRunJoinAtx2
import Derived.Test.YtkifijclehgiaaaPFnRunJoinAtx3
import Derived.Test.YtkifijclehgiaaaPFnRunJoinAtx5
import Derived.Test.YtkifijclehgiaaaPFnRunJoinAtx6
import Derived.Test.YtkifijclehgiaaaPFnRunJoinAtx8
import Derived.Test.YtkifijclehgiaaaPFnRunJoinAtx10
import Derived.Test.YtkifijclehgiaaaPFnRunJoinAtx12
import Derived.Test.YtkifijclehgiaaaFnRunJoinAtJn
namespace Go.Proofs.Ytkifijclehgiaaa.PFnRunJoinAt
open Go.RowKit Go.Proofs.YtkifijclehgiaaaW.PrintWords Go.Proofs.YtkifijclehgiaaaW.PrintLast Go.Proofs.YtkifijclehgiaaaW.PrintMore
attribute [local go_sem] max2_int min2_int max_two min_two max_three min_three max_four min_four   -- for this text's walks alone
set_option linter.unusedVariables false
set_option linter.unusedSimpArgs false

theorem T13q1 {p : Prop} (h : p := by kernel_rfl) : p := h
theorem T13q2 {p : Prop} (h : p := by (try simp only [List.map_toArray,List.map_cons,List.map_nil]);first | done | rfl | (simp only [List.length_drop,List.length_take];rfl)) : p := h
theorem T13q3 {p : Prop} (h : p := by (with_reducible repeat (first | apply Kd.R_alloc | apply Kd.R_drewN | apply Kd.R_drew));exact HO384.out) : p := h
/-! ### impl_Entry_67: function 67 -/
mutual
def impl_Entry_67.l0 : Nat → List (S27) → Int → Int → Int → Int → Int → Option ((List (S27)))
 | 0,_,_,_,_,_,_ => none
 | k + 1,x0,x1,x2,x6,x7,x8 => if x8 ≤ x1 then ((impl_Entry_70.f k x0 x7 x8 x2).bind fun t349 => (impl_Entry_67.l0 k t349 x1 x2 x6 x8 (wrap64 (x8 + x6)))) else ((impl_Entry_70.f k x0 x7 x1 x2).bind fun t350 => (impl_Entry_67.l1 k t350 x1 x2 x6))
def impl_Entry_67.l1 : Nat → List (S27) → Int → Int → Int → Option ((List (S27)))
 | 0,_,_,_,_ => none
 | k + 1,x0,x1,x2,x6 => if x6 < x1 then (impl_Entry_67.l2 k x0 x1 x2 x6 0 (wrap64 (2 * x6))) else (some x0)
def impl_Entry_67.l2 : Nat → List (S27) → Int → Int → Int → Int → Int → Option ((List (S27)))
 | 0,_,_,_,_,_,_ => none
 | k + 1,x0,x1,x2,x6,x7,x8 => if x8 ≤ x1 then ((impl_Entry_71.f k x0 x7 (wrap64 (x7 + x6)) x8 x2).bind fun t351 => (impl_Entry_67.l2 k t351 x1 x2 x6 x8 (wrap64 (x8 + (wrap64 (2 * x6)))))) else (if (wrap64 (x7 + x6)) < x1 then ((impl_Entry_71.f k x0 x7 (wrap64 (x7 + x6)) x1 x2).bind fun t352 => (impl_Entry_67.l1 k t352 x1 x2 (wrap64 (x6 * 2)))) else (impl_Entry_67.l1 k x0 x1 x2 (wrap64 (x6 * 2))))
end
def impl_Entry_67.f (k : Nat) (l0 : List (S27)) (a1 : Int) (a2 : Int) : Option ((List (S27))):=impl_Entry_67.l0 k l0 a1 a2 20 0 20
set_option maxHeartbeats 8000000 in
set_option maxRecDepth 100000 in
theorem impl_Entry_67.calls (k : Nat) (P0_ : Nat → Prop) (u9000_ : Value) (l0 : List (S27)) (a1 : Int) (a2 : Int) (r : List (S27)) (w0 w : World) (hB : Below w0.heap.size w0 w) (ho0 : Kd.R k27 27 w w0.heap.size P0_ u9000_ l0) (h : impl_Entry_67.f k l0 a1 a2 = some r) :
  Calls Try.prog 67 #[u9000_,.int .i64 a1,.func (.func 54) #[] #[]] w fun e w' => e = .returned (.tuple #[]) ∧ Kd.R k27 27 w' w0.heap.size (fun k_ => (P0_ k_ ∨ w.heap.size ≤ k_)) u9000_ r ∧ Below w0.heap.size w0 w' ∧ Kept w w' (fun k_ => P0_ k_):=by
 have HO0:=Aside0.mk (show Kd.R k27 27 w w0.heap.size (fun k_ => (P0_ k_ ∨ w.heap.size ≤ k_)) u9000_ l0 from Kd.R_mono ho0 (fun k_ hk => (.inl hk)))
 have HK:=Aside0.mk (Kept.refl w (fun k_ => P0_ k_))
 have HW0:=Aside0.mk hB.size
 have HB:=Aside0.mk hB
 clear hB
 have H : (impl_Entry_67.l0 k l0 a1 a2 20 0 20) = some r:=h
 clear h
 have H':=Aside0.mk H
 clear H
 go_enter Try.func67,Try.ntmps67
 go_wp2
 go_loopg [7,8] k (fun kq v7 v8 w' => ∃ (x0_1 : List (S27)) (x7_1 : Int) (x8_1 : Int),v7 = .int .i64 x7_1 ∧ v8 = .int .i64 x8_1 ∧ Aside0 (impl_Entry_67.l0 kq x0_1 a1 a2 20 x7_1 x8_1 = some r) ∧ Aside0 (kq ≤ k) ∧ Aside0 (Kd.R k27 27 w' w0.heap.size (fun k_ => (P0_ k_ ∨ w.heap.size ≤ k_)) u9000_ x0_1) ∧ Aside0 (Kept w w' (fun k_ => P0_ k_)) ∧ Aside0 (Below w0.heap.size w0 w'))
 case atStart => exact ⟨(l0),(0),(20),(by first | rfl | (simp;done) | (simp [*];done)),(by first | rfl | (simp;done) | (simp [*];done)),H',⟨Nat.le_refl _⟩,⟨by (with_reducible repeat (first | apply Kd.R_alloc | apply Kd.R_drewN | apply Kd.R_drew));exact HO0.out⟩,⟨by repeat (first | (with_reducible first | exact HK.out | apply Kept.alloc | apply Kept.drewN | apply Kept.drew) | exact HK.out)⟩,⟨by repeat (first | (with_reducible first | exact HB.out | apply below_alloc | apply pw_below_drewN | apply below_drew1) | exact HB.out)⟩⟩
 case round =>
  clear H'
  try clear p2
  obtain ⟨x0_1,x7_1,x8_1,rfl,rfl,HA,HK1,HO_0,HK,HB⟩:=hrel
  cases gk with
  | zero => exact absurd HA.out (by simp [impl_Entry_67.l0])
  | succ k1 =>
   have H:=HA.out
   clear HA
   simp only [impl_Entry_67.l0] at H
   by_cases c4 : x8_1 ≤ a1
   ·rw [if_pos c4] at H
    have c4b0 : decide (x8_1 ≤ a1) = true:=decide_eq_true c4
    clear c4
    replace H:=Option.bind_eq_some_iff.mp H
    obtain ⟨t349,A50,H⟩:=H
    replace H : (impl_Entry_67.l0 k1 t349 a1 a2 20 x8_1 (wrap64 (x8_1 + 20))) = some r:=H
    have A5:=Aside0.mk A50
    clear A50
    have H':=Aside0.mk H
    clear H
    obtain ⟨Ao6,co6,eo6⟩:=Kd.R_slice HO_0.out
    subst eo6
    go_wp2_with (first | ((with_reducible refine gate_callee (f:=70) rfl ?_);refine goesL_ (some 18) rfl rfl Try.func70 T13q1 rfl #[.slice Ao6 x0_1.length co6,.int .i64 x7_1,.int .i64 x8_1,.func (.func 54) #[] #[]] rfl T13q2 ?_;(with_reducible refine (impl_Entry_70.calls k1 (fun k_ => some k_ = (.slice Ao6 x0_1.length co6 : Value).ownBlock) (.slice Ao6 x0_1.length co6) x0_1 x7_1 x8_1 a2 t349 w0 _ ?side1 ?side2 A5.out).mono ?_);(case side1 => repeat (first | (with_reducible first | exact HB.out | apply below_alloc | apply pw_below_drewN | apply below_drew1) | exact HB.out));(case side2 => exact Kd.R_tight rfl HO_0.out);rintro e w7 ⟨rfl,hy0,hb,hkp⟩;refine ⟨_,rfl,?_⟩;have n0_:=Aside0.mk (Kd.R_reok rfl hy0 (fun k_ e_ => HO_0.out.1 k_ e_));have n1_:=Aside0.mk (Kept.then_ (S:=(fun k_ => P0_ k_)) (by repeat (first | (with_reducible first | exact HK.out | apply Kept.alloc | apply Kept.drewN | apply Kept.drew) | exact HK.out)) hkp (fun k_ hs_ => (fun e_ => (HO_0.out.1 k_ e_.symm)) hs_));have n2_:=Aside0.mk (hb);clear HO_0;clear HK;clear HB;have HO_0:=n0_;have HK:=n1_;have HB:=n2_;clear n0_ n1_ n2_;(try clear hb);(try clear hkp);(try clear hy0)))
    try simp only [Act.put,List.setIfInBounds_toArray,List.set_cons_zero,List.set_cons_succ]
    go_roundg k1
    case measure => have:=HK1.out;omega
    case rel => exact ⟨(t349),(x8_1),(wrap64 (x8_1 + 20)),(by first | rfl | (simp;done) | (simp [*];done)),(by first | rfl | (simp;done) | (simp [*];done)),H',⟨by have:=HK1.out;omega⟩,⟨by (with_reducible repeat (first | apply Kd.R_alloc | apply Kd.R_drewN | apply Kd.R_drew));exact HO_0.out⟩,⟨by repeat (first | (with_reducible first | exact HK.out | apply Kept.alloc | apply Kept.drewN | apply Kept.drew) | exact HK.out)⟩,⟨by repeat (first | (with_reducible first | exact HB.out | apply below_alloc | apply pw_below_drewN | apply below_drew1) | exact HB.out)⟩⟩
   rw [if_neg c4] at H
   have c4b0 : decide (x8_1 ≤ a1) = false:=decide_eq_false c4
   clear c4
   replace H:=Option.bind_eq_some_iff.mp H
   obtain ⟨t350,A80,H⟩:=H
   replace H : (impl_Entry_67.l1 k1 t350 a1 a2 20) = some r:=H
   have A8:=Aside0.mk A80
   clear A80
   have H':=Aside0.mk H
   clear H
   obtain ⟨Ao9,co9,eo9⟩:=Kd.R_slice HO_0.out
   subst eo9
   go_wp2_with (first | ((with_reducible refine gate_callee (f:=70) rfl ?_);refine goesL_ (some 27) rfl rfl Try.func70 T13q1 rfl #[.slice Ao9 x0_1.length co9,.int .i64 x7_1,.int .i64 a1,.func (.func 54) #[] #[]] rfl T13q2 ?_;(with_reducible refine (impl_Entry_70.calls k1 (fun k_ => some k_ = (.slice Ao9 x0_1.length co9 : Value).ownBlock) (.slice Ao9 x0_1.length co9) x0_1 x7_1 a1 a2 t350 w0 _ ?side1 ?side2 A8.out).mono ?_);(case side1 => repeat (first | (with_reducible first | exact HB.out | apply below_alloc | apply pw_below_drewN | apply below_drew1) | exact HB.out));(case side2 => exact Kd.R_tight rfl HO_0.out);rintro e w10 ⟨rfl,hy0,hb,hkp⟩;refine ⟨_,rfl,?_⟩;have n0_:=Aside0.mk (Kd.R_reok rfl hy0 (fun k_ e_ => HO_0.out.1 k_ e_));have n1_:=Aside0.mk (Kept.then_ (S:=(fun k_ => P0_ k_)) (by repeat (first | (with_reducible first | exact HK.out | apply Kept.alloc | apply Kept.drewN | apply Kept.drew) | exact HK.out)) hkp (fun k_ hs_ => (fun e_ => (HO_0.out.1 k_ e_.symm)) hs_));have n2_:=Aside0.mk (hb);clear HO_0;clear HK;clear HB;have HO_0:=n0_;have HK:=n1_;have HB:=n2_;clear n0_ n1_ n2_;(try clear hb);(try clear hkp);(try clear hy0)))
   try simp only [Act.put,List.setIfInBounds_toArray,List.set_cons_zero,List.set_cons_succ]
   go_loopg [6] k1 (fun kq v6 w' => ∃ (x0_2 : List (S27)) (x6_2 : Int),v6 = .int .i64 x6_2 ∧ Aside0 (impl_Entry_67.l1 kq x0_2 a1 a2 x6_2 = some r) ∧ Aside0 (kq ≤ k1) ∧ Aside0 (Kd.R k27 27 w' w0.heap.size (fun k_ => (P0_ k_ ∨ w.heap.size ≤ k_)) (.slice Ao9 x0_1.length co9) x0_2) ∧ Aside0 (Kept w w' (fun k_ => P0_ k_)) ∧ Aside0 (Below w0.heap.size w0 w'))
   case atStart => exact ⟨(t350),(20),(by first | rfl | (simp;done) | (simp [*];done)),H',⟨Nat.le_refl _⟩,⟨by (with_reducible repeat (first | apply Kd.R_alloc | apply Kd.R_drewN | apply Kd.R_drew));exact HO_0.out⟩,⟨by repeat (first | (with_reducible first | exact HK.out | apply Kept.alloc | apply Kept.drewN | apply Kept.drew) | exact HK.out)⟩,⟨by repeat (first | (with_reducible first | exact HB.out | apply below_alloc | apply pw_below_drewN | apply below_drew1) | exact HB.out)⟩⟩
   case round =>
    clear H'
    try clear p2
    try clear c4
    try clear c4b0
    try clear c6
    try clear p6
    try clear c7
    try clear p2
    obtain ⟨x0_2,x6_2,rfl,HA,HK2,HO_0,HK,HB⟩:=hrel
    have hl0_2:=(Kd.R_reads' HO_0.out).1
    rw [hl0_2] at HO_0
    (try simp only [hl0_2])
    cases gk with
    | zero => exact absurd HA.out (by simp [impl_Entry_67.l1])
    | succ k2 =>
     have H:=HA.out
     clear HA
     simp only [impl_Entry_67.l1] at H
     by_cases c11 : x6_2 < a1
     rotate_left
     ·rw [if_neg c11] at H
      have c11b0 : decide (x6_2 < a1) = false:=decide_eq_false c11
      clear c11
      obtain rfl:=Option.some.inj H
      go_wp2
      first | go_end0 | ((try simp only [Exit.inBlock,Exit.then]);refine bodyPost_ret (results_none rfl _ _ _) rfl ?_)
      exact ⟨by first | rfl | (simp [errW_none,errW_some] <;> rfl) | (simp [*,errW_none,errW_some] <;> rfl),(by first | exact (by (with_reducible repeat (first | apply Kd.R_alloc | apply Kd.R_drewN | apply Kd.R_drew));exact HO_0.out) | (simp only [hl0_2];exact (by (with_reducible repeat (first | apply Kd.R_alloc | apply Kd.R_drewN | apply Kd.R_drew));exact HO_0.out))),by repeat (first | (with_reducible first | exact HB.out | apply below_alloc | apply pw_below_drewN | apply below_drew1) | exact HB.out),by repeat (first | (with_reducible first | exact HK.out | apply Kept.alloc | apply Kept.drewN | apply Kept.drew) | exact HK.out)⟩
     rw [if_pos c11] at H
     have c11b0 : decide (x6_2 < a1) = true:=decide_eq_true c11
     clear c11
     have H':=Aside0.mk H
     clear H
     go_wp2
     go_loopg [7,8] k2 (fun kq v7 v8 w' => ∃ (x0_3 : List (S27)) (x7_3 : Int) (x8_3 : Int),v7 = .int .i64 x7_3 ∧ v8 = .int .i64 x8_3 ∧ Aside0 (impl_Entry_67.l2 kq x0_3 a1 a2 x6_2 x7_3 x8_3 = some r) ∧ Aside0 (kq ≤ k2) ∧ Aside0 (Kd.R k27 27 w' w0.heap.size (fun k_ => (P0_ k_ ∨ w.heap.size ≤ k_)) (.slice Ao9 x0_2.length co9) x0_3) ∧ Aside0 (Kept w w' (fun k_ => P0_ k_)) ∧ Aside0 (Below w0.heap.size w0 w'))
     case atStart => exact ⟨(x0_2),(0),(wrap64 (2 * x6_2)),(by first | rfl | (simp;done) | (simp [*];done)),(by first | rfl | (simp;done) | (simp [*];done)),H',⟨Nat.le_refl _⟩,⟨by (try simp only [hl0_2]);(with_reducible repeat (first | apply Kd.R_alloc | apply Kd.R_drewN | apply Kd.R_drew));exact HO_0.out⟩,⟨by repeat (first | (with_reducible first | exact HK.out | apply Kept.alloc | apply Kept.drewN | apply Kept.drew) | exact HK.out)⟩,⟨by repeat (first | (with_reducible first | exact HB.out | apply below_alloc | apply pw_below_drewN | apply below_drew1) | exact HB.out)⟩⟩
     case round =>
      clear H'
      try clear c1
      try clear p2
      try clear c4
      try clear c4b0
      try clear c6
      try clear p6
      try clear c7
      try clear c11
      try clear c11b0
      try clear p2
      try clear p6
      obtain ⟨x0_3,x7_3,x8_3,rfl,rfl,HA,HK3,HO_0,HK,HB⟩:=hrel
      have hl0_3:=(Kd.R_reads' HO_0.out).1
      rw [hl0_3] at HO_0
      (try simp only [hl0_3])
      cases gk with
      | zero => exact absurd HA.out (by simp [impl_Entry_67.l2])
      | succ k3 =>
       have H:=HA.out
       clear HA
       simp only [impl_Entry_67.l2] at H
       by_cases c12 : x8_3 ≤ a1
       ·rw [if_pos c12] at H
        have c12b0 : decide (x8_3 ≤ a1) = true:=decide_eq_true c12
        clear c12
        replace H:=Option.bind_eq_some_iff.mp H
        obtain ⟨t351,A130,H⟩:=H
        replace H : (impl_Entry_67.l2 k3 t351 a1 a2 x6_2 x8_3 (wrap64 (x8_3 + (wrap64 (2 * x6_2))))) = some r:=H
        have A13:=Aside0.mk A130
        clear A130
        have H':=Aside0.mk H
        clear H
        go_wp2_with (first | ((with_reducible refine gate_callee (f:=71) rfl ?_);refine goesL_ (some 43) rfl rfl Try.func71 T13q1 rfl #[.slice Ao9 x0_3.length co9,.int .i64 x7_3,.int .i64 (wrap64 (x7_3 + x6_2)),.int .i64 x8_3,.func (.func 54) #[] #[]] rfl T13q2 ?_;(with_reducible refine (impl_Entry_71.calls k3 (fun k_ => some k_ = (.slice Ao9 x0_3.length co9 : Value).ownBlock) (.slice Ao9 x0_3.length co9) x0_3 x7_3 (wrap64 (x7_3 + x6_2)) x8_3 a2 t351 w0 _ ?side1 ?side2 A13.out).mono ?_);(case side1 => repeat (first | (with_reducible first | exact HB.out | apply below_alloc | apply pw_below_drewN | apply below_drew1) | exact HB.out));(case side2 => exact Kd.R_tight rfl HO_0.out);rintro e w14 ⟨rfl,hy0,hb,hkp⟩;refine ⟨_,rfl,?_⟩;have n0_:=Aside0.mk (Kd.R_reok rfl hy0 (fun k_ e_ => HO_0.out.1 k_ e_));have n1_:=Aside0.mk (Kept.then_ (S:=(fun k_ => P0_ k_)) (by repeat (first | (with_reducible first | exact HK.out | apply Kept.alloc | apply Kept.drewN | apply Kept.drew) | exact HK.out)) hkp (fun k_ hs_ => (fun e_ => (HO_0.out.1 k_ e_.symm)) hs_));have n2_:=Aside0.mk (hb);clear HO_0;clear HK;clear HB;have HO_0:=n0_;have HK:=n1_;have HB:=n2_;clear n0_ n1_ n2_;(try clear hb);(try clear hkp);(try clear hy0)))
        (try simp only [← hl0_3])
        go_roundg k3
        case measure => have:=HK1.out;have:=HK2.out;have:=HK3.out;omega
        case rel => exact ⟨(t351),(x8_3),(wrap64 (x8_3 + (wrap64 (2 * x6_2)))),(by first | rfl | (simp;done) | (simp [*];done)),(by first | rfl | (simp;done) | (simp [*];done)),H',⟨by have:=HK1.out;have:=HK2.out;have:=HK3.out;omega⟩,⟨by (try simp only [hl0_2]);(try simp only [hl0_3]);(with_reducible repeat (first | apply Kd.R_alloc | apply Kd.R_drewN | apply Kd.R_drew));exact HO_0.out⟩,⟨by repeat (first | (with_reducible first | exact HK.out | apply Kept.alloc | apply Kept.drewN | apply Kept.drew) | exact HK.out)⟩,⟨by repeat (first | (with_reducible first | exact HB.out | apply below_alloc | apply pw_below_drewN | apply below_drew1) | exact HB.out)⟩⟩
       rw [if_neg c12] at H
       have c12b0 : decide (x8_3 ≤ a1) = false:=decide_eq_false c12
       clear c12
       by_cases c15 : (wrap64 (x7_3 + x6_2)) < a1
       rotate_left
       ·rw [if_neg c15] at H
        have c15b0 : decide ((wrap64 (x7_3 + x6_2)) < a1) = false:=decide_eq_false c15
        clear c15
        have H':=Aside0.mk H
        clear H
        go_wp2
        (try simp only [← hl0_2,← hl0_3])
        go_roundg k3
        case measure => have:=HK1.out;have:=HK2.out;have:=HK3.out;omega
        case rel => exact ⟨(x0_3),(wrap64 (x6_2 * 2)),(by first | rfl | (simp;done) | (simp [*];done)),H',⟨by have:=HK1.out;have:=HK2.out;have:=HK3.out;omega⟩,⟨by (try simp only [hl0_2]);(try simp only [hl0_3]);(with_reducible repeat (first | apply Kd.R_alloc | apply Kd.R_drewN | apply Kd.R_drew));exact HO_0.out⟩,⟨by repeat (first | (with_reducible first | exact HK.out | apply Kept.alloc | apply Kept.drewN | apply Kept.drew) | exact HK.out)⟩,⟨by repeat (first | (with_reducible first | exact HB.out | apply below_alloc | apply pw_below_drewN | apply below_drew1) | exact HB.out)⟩⟩
       rw [if_pos c15] at H
       have c15b0 : decide ((wrap64 (x7_3 + x6_2)) < a1) = true:=decide_eq_true c15
       clear c15
       replace H:=Option.bind_eq_some_iff.mp H
       obtain ⟨t352,A160,H⟩:=H
       replace H : (impl_Entry_67.l1 k3 t352 a1 a2 (wrap64 (x6_2 * 2))) = some r:=H
       have A16:=Aside0.mk A160
       clear A160
       have H':=Aside0.mk H
       clear H
       go_wp2_with (first | ((with_reducible refine gate_callee (f:=71) rfl ?_);refine goesL_ (some 60) rfl rfl Try.func71 T13q1 rfl #[.slice Ao9 x0_3.length co9,.int .i64 x7_3,.int .i64 (wrap64 (x7_3 + x6_2)),.int .i64 a1,.func (.func 54) #[] #[]] rfl T13q2 ?_;(with_reducible refine (impl_Entry_71.calls k3 (fun k_ => some k_ = (.slice Ao9 x0_3.length co9 : Value).ownBlock) (.slice Ao9 x0_3.length co9) x0_3 x7_3 (wrap64 (x7_3 + x6_2)) a1 a2 t352 w0 _ ?side1 ?side2 A16.out).mono ?_);(case side1 => repeat (first | (with_reducible first | exact HB.out | apply below_alloc | apply pw_below_drewN | apply below_drew1) | exact HB.out));(case side2 => exact Kd.R_tight rfl HO_0.out);rintro e w17 ⟨rfl,hy0,hb,hkp⟩;refine ⟨_,rfl,?_⟩;have n0_:=Aside0.mk (Kd.R_reok rfl hy0 (fun k_ e_ => HO_0.out.1 k_ e_));have n1_:=Aside0.mk (Kept.then_ (S:=(fun k_ => P0_ k_)) (by repeat (first | (with_reducible first | exact HK.out | apply Kept.alloc | apply Kept.drewN | apply Kept.drew) | exact HK.out)) hkp (fun k_ hs_ => (fun e_ => (HO_0.out.1 k_ e_.symm)) hs_));have n2_:=Aside0.mk (hb);clear HO_0;clear HK;clear HB;have HO_0:=n0_;have HK:=n1_;have HB:=n2_;clear n0_ n1_ n2_;(try clear hb);(try clear hkp);(try clear hy0)))
       (try simp only [← hl0_2,← hl0_3])
       go_roundg k3
       case measure => have:=HK1.out;have:=HK2.out;have:=HK3.out;omega
       case rel => exact ⟨(t352),(wrap64 (x6_2 * 2)),(by first | rfl | (simp;done) | (simp [*];done)),H',⟨by have:=HK1.out;have:=HK2.out;have:=HK3.out;omega⟩,⟨by (try simp only [hl0_2]);(try simp only [hl0_3]);(with_reducible repeat (first | apply Kd.R_alloc | apply Kd.R_drewN | apply Kd.R_drew));exact HO_0.out⟩,⟨by repeat (first | (with_reducible first | exact HK.out | apply Kept.alloc | apply Kept.drewN | apply Kept.drew) | exact HK.out)⟩,⟨by repeat (first | (with_reducible first | exact HB.out | apply below_alloc | apply pw_below_drewN | apply below_drew1) | exact HB.out)⟩⟩
/-! ### impl_Entry_53: function 53 -/
def impl_Entry_53.f (k : Nat) (l0 : List (S27)) (a1 : Int) : Option ((List (S27))):=(impl_Entry_67.f k l0 (l0.length : Int) a1).bind fun t353 => (some t353)
set_option maxHeartbeats 8000000 in
set_option maxRecDepth 100000 in
theorem impl_Entry_53.calls (k : Nat) (P0_ : Nat → Prop) (u9000_ : Value) (l0 : List (S27)) (a1 : Int) (r : List (S27)) (w0 w : World) (hB : Below w0.heap.size w0 w) (ho0 : Kd.R k27 27 w w0.heap.size P0_ u9000_ l0) (h : impl_Entry_53.f k l0 a1 = some r) :
  Calls Try.prog 53 #[u9000_,.func (.func 54) #[] #[]] w fun e w' => e = .returned (.tuple #[]) ∧ Kd.R k27 27 w' w0.heap.size (fun k_ => (P0_ k_ ∨ w.heap.size ≤ k_)) u9000_ r ∧ Below w0.heap.size w0 w' ∧ Kept w w' (fun k_ => P0_ k_):=by
 have HO0:=Aside0.mk (show Kd.R k27 27 w w0.heap.size (fun k_ => (P0_ k_ ∨ w.heap.size ≤ k_)) u9000_ l0 from Kd.R_mono ho0 (fun k_ hk => (.inl hk)))
 have HK:=Aside0.mk (Kept.refl w (fun k_ => P0_ k_))
 have HW0:=Aside0.mk hB.size
 have HB:=Aside0.mk hB
 clear hB
 have H : ((impl_Entry_67.f k l0 (l0.length : Int) a1).bind fun t353 => (some t353)) = some r:=h
 clear h
 replace H:=Option.bind_eq_some_iff.mp H
 obtain ⟨t353,A30,H⟩:=H
 replace H : (some t353) = some r:=H
 have A3:=Aside0.mk A30
 clear A30
 obtain rfl:=Option.some.inj H
 obtain ⟨Ao4,co4,eo4⟩:=Kd.R_slice HO0.out
 subst eo4
 go_enter Try.func53,Try.ntmps53
 go_wp2_with (first | ((with_reducible refine gate_callee (f:=67) rfl ?_);refine goesL_ (some 8) rfl rfl Try.func67 T13q1 rfl #[.slice Ao4 l0.length co4,.int .i64 (l0.length : Int),.func (.func 54) #[] #[]] rfl T13q2 ?_;(with_reducible refine (impl_Entry_67.calls k (fun k_ => some k_ = (.slice Ao4 l0.length co4 : Value).ownBlock) (.slice Ao4 l0.length co4) l0 (l0.length : Int) a1 t353 w0 _ ?side1 ?side2 A3.out).mono ?_);(case side1 => repeat (first | (with_reducible first | exact HB.out | apply below_alloc | apply pw_below_drewN | apply below_drew1) | exact HB.out));(case side2 => exact Kd.R_tight rfl HO0.out);rintro e w5 ⟨rfl,hy0,hb,hkp⟩;refine ⟨_,rfl,?_⟩;have n0_:=Aside0.mk (Kd.R_reok rfl hy0 (fun k_ e_ => HO0.out.1 k_ e_));have n1_:=Aside0.mk (Kept.then_ (S:=(fun k_ => P0_ k_)) (by repeat (first | (with_reducible first | exact HK.out | apply Kept.alloc | apply Kept.drewN | apply Kept.drew) | exact HK.out)) hkp (fun k_ hs_ => (fun e_ => (HO0.out.1 k_ e_.symm)) hs_));have n2_:=Aside0.mk (hb);clear HO0;clear HK;clear HB;have HO0:=n0_;have HK:=n1_;have HB:=n2_;clear n0_ n1_ n2_;(try clear hb);(try clear hkp);(try clear hy0)))
 first | go_end0 | ((try simp only [Exit.inBlock,Exit.then]);refine bodyPost_ret (results_none rfl _ _ _) rfl ?_)
 exact ⟨by first | rfl | (simp [errW_none,errW_some] <;> rfl) | (simp [*,errW_none,errW_some] <;> rfl),by (with_reducible repeat (first | apply Kd.R_alloc | apply Kd.R_drewN | apply Kd.R_drew));exact HO0.out,by repeat (first | (with_reducible first | exact HB.out | apply below_alloc | apply pw_below_drewN | apply below_drew1) | exact HB.out),by repeat (first | (with_reducible first | exact HK.out | apply Kept.alloc | apply Kept.drewN | apply Kept.drew) | exact HK.out)⟩
-- NOT PRINTED: function 55 (impl_cloneRun)

/-! ### impl_RunJoin: function 31 -/
def impl_RunJoin.j0 : Nat → List (S27) → List (S27) → Bool → Option ((List (S27)) × Bool)
 | 0,_,_,_ => none
 | k + 1,x0,x1,x14 => if x14 = true then (some ((([] : List (S27))),false)) else (if x0.length ≤ 400 then (if x1.length ≤ 400 then ((impl_Entry_53.f k (x0 ++ x1) 0).bind fun t359 => ((impl_RunOk.f k t359).bind fun t362 => (if t362 = true then (some (t359,true)) else (some ((([] : List (S27))),false))))) else none) else none)
def impl_RunJoin.f (k : Nat) (l0 : List (S27)) (l1 : List (S27)) : Option ((List (S27)) × Bool):=(impl_RunOk.f k l0).bind fun t354 => (if t354 = true then ((impl_RunOk.f k l1).bind fun t355 => (impl_RunJoin.j0 k l0 l1 (!t355))) else (impl_RunJoin.j0 k l0 l1 true))

set_option maxHeartbeats 8000000 in
set_option maxRecDepth 100000 in
theorem impl_RunJoin.calls (k : Nat) (A0 : Option Addr) (c0 : Nat) (l0 : List (S27)) (A1 : Option Addr) (c1 : Nat) (l1 : List (S27)) (r1 : List (S27)) (r2 : Bool) (w : World) (hr0 : Kd.C k27 w A0 l0.length l0) (hc0 : l0.length ≤ c0) (hr1 : Kd.C k27 w A1 l1.length l1) (hc1 : l1.length ≤ c1) (h : impl_RunJoin.f k l0 l1 = some (r1,r2)) :
  Calls Try.prog 31 #[.slice A0 l0.length c0,.slice A1 l1.length c1] w fun e w' => ∃ v0_ : Value,e = .returned (.tuple #[v0_,.bool r2]) ∧ Kd.R k27 27 w' w.heap.size (fun _ => True) v0_ r1 ∧ Below w.heap.size w w':=by
 have HR0:=Aside0.mk hr0
 have HC0:=Aside0.mk hc0
 clear hr0 hc0
 have HR1:=Aside0.mk hr1
 have HC1:=Aside0.mk hc1
 clear hr1 hc1
 have HB:=Aside0.mk (Below.refl w.heap.size w)
 have H : ((impl_RunOk.f k l0).bind fun t354 => (if t354 = true then ((impl_RunOk.f k l1).bind fun t355 => (impl_RunJoin.j0 k l0 l1 (!t355))) else (impl_RunJoin.j0 k l0 l1 true))) = some (r1,r2):=h
 clear h
 have HC3:=Aside0.mk H
 clear H
 go_enter Try.func31,Try.ntmps31
 go_upto_region 1 with (fail)
 go_cut [14] (fun v14 wc => ∃ (kq : Nat) (x14_2 : Bool),v14 = .bool x14_2 ∧ Aside0 (impl_RunJoin.j0 kq l0 l1 x14_2 = some (r1,r2)) ∧ Aside0 (kq ≤ k) ∧ Aside0 (Below w.heap.size w wc))
 case first =>
  have H:=HC3.out
  clear HC3
  replace H:=Option.bind_eq_some_iff.mp H
  obtain ⟨t354,A40,H⟩:=H
  replace H : (if t354 = true then ((impl_RunOk.f k l1).bind fun t355 => (impl_RunJoin.j0 k l0 l1 (!t355))) else (impl_RunJoin.j0 k l0 l1 true)) = some (r1,r2):=H
  have A4:=Aside0.mk A40
  clear A40
  by_cases c5 : t354 = true
  rotate_left
  ·replace c5:=Bool.eq_false_iff.mpr c5
   subst c5
   have H1 : (impl_RunJoin.j0 k l0 l1 true) = some (r1,r2):=by rw [if_neg (show ¬ (false = true) by decide)] at H;exact H
   clear H
   have H:=H1
   clear H1
   have H':=Aside0.mk H
   clear H
   go_wp2_with (first | ((with_reducible refine gate_callee (f:=28) rfl ?_);refine goesL_ (some 8) rfl rfl Try.func28 T13q1 rfl #[.slice A0 l0.length c0] rfl T13q2 ?_;(with_reducible refine (impl_RunOk.calls k _ _ l0 false _ ?side1 ?side2 A4.out).mono ?_);(case side1 => repeat (first | exact (Kd.C_below HR0.out HB.out) | (with_reducible refine Kd.C_alloc ?_ _) | (with_reducible refine Kd.C_drewN ?_ _) | (with_reducible refine Kd.C_drew ?_)));(case side2 => exact HC0.out);rintro e w9 ⟨rfl,hb⟩;refine ⟨_,rfl,?_⟩;have n0_:=Aside0.mk (below_step (by repeat (first | (with_reducible first | exact HB.out | apply below_alloc | apply pw_below_drewN | apply below_drew1) | exact HB.out)) hb);clear HB;have HB:=n0_;clear n0_;(try clear hb);(try clear hb2);(try clear hk);(try clear hi)))
   go_meet
   case rel => exact ⟨_,(true),(by first | rfl | (simp;done) | (simp [*];done)),H',⟨by first | omega | exact Nat.le_refl _⟩,⟨by repeat (first | (with_reducible first | exact HB.out | apply below_alloc | apply pw_below_drewN | apply below_drew1) | exact HB.out)⟩⟩
  subst c5
  have H1 : ((impl_RunOk.f k l1).bind fun t355 => (impl_RunJoin.j0 k l0 l1 (!t355))) = some (r1,r2):=by rw [if_pos rfl] at H;exact H
  clear H
  have H:=H1
  clear H1
  replace H:=Option.bind_eq_some_iff.mp H
  obtain ⟨t355,A60,H⟩:=H
  replace H : (impl_RunJoin.j0 k l0 l1 (!t355)) = some (r1,r2):=H
  have A6:=Aside0.mk A60
  clear A60
  have H':=Aside0.mk H
  clear H
  go_wp2_with (first | ((with_reducible refine gate_callee (f:=28) rfl ?_);refine goesL_ (some 8) rfl rfl Try.func28 T13q1 rfl #[.slice A0 l0.length c0] rfl T13q2 ?_;(with_reducible refine (impl_RunOk.calls k _ _ l0 true _ ?side1 ?side2 A4.out).mono ?_);(case side1 => repeat (first | exact (Kd.C_below HR0.out HB.out) | (with_reducible refine Kd.C_alloc ?_ _) | (with_reducible refine Kd.C_drewN ?_ _) | (with_reducible refine Kd.C_drew ?_)));(case side2 => exact HC0.out);rintro e w7 ⟨rfl,hb⟩;refine ⟨_,rfl,?_⟩;have n0_:=Aside0.mk (below_step (by repeat (first | (with_reducible first | exact HB.out | apply below_alloc | apply pw_below_drewN | apply below_drew1) | exact HB.out)) hb);clear HB;have HB:=n0_;clear n0_;(try clear hb);(try clear hb2);(try clear hk);(try clear hi)) | (go_at_call 28;(with_reducible refine (impl_RunOk.calls k _ _ l1 t355 _ ?side1 ?side2 A6.out).mono ?_);(case side1 => repeat (first | exact (Kd.C_below HR1.out HB.out) | (with_reducible refine Kd.C_alloc ?_ _) | (with_reducible refine Kd.C_drewN ?_ _) | (with_reducible refine Kd.C_drew ?_)));(case side2 => exact HC1.out);rintro e w8 ⟨rfl,hb⟩;have n0_:=Aside0.mk (below_step (by repeat (first | (with_reducible first | exact HB.out | apply below_alloc | apply pw_below_drewN | apply below_drew1) | exact HB.out)) hb);clear HB;have HB:=n0_;clear n0_;(try clear hb);(try clear hb2);(try clear hk);(try clear hi)))
  go_meet
  case rel => exact ⟨_,(!t355),(by first | rfl | (simp;done) | (simp [*];done)),H',⟨by first | omega | exact Nat.le_refl _⟩,⟨by repeat (first | (with_reducible first | exact HB.out | apply below_alloc | apply pw_below_drewN | apply below_drew1) | exact HB.out)⟩⟩
 case rest =>
  clear HC3
  try clear c1
  try clear c2
  try clear p2
  try clear c3
  try clear c5
  obtain ⟨kq,x14_2,rfl,HA,HJ2,HB⟩:=hcut
  cases kq with
  | zero => exact absurd HA.out (by simp [impl_RunJoin.j0])
  | succ kj =>
   have H:=HA.out
   clear HA
   simp only [impl_RunJoin.j0] at H
   by_cases c10 : x14_2 = true
   ·subst c10
    rw [if_pos rfl] at H
    simp only [Option.some.injEq,Prod.mk.injEq] at H
    obtain ⟨rfl,rfl⟩:=H
    go_wp2
    go_ret2
    exact ⟨_,rfl,Kd.R_nil _ _ _ _ _,(by repeat (first | (with_reducible first | exact HB.out | apply below_alloc | apply pw_below_drewN | apply below_drew1) | exact HB.out))⟩
   replace c10:=Bool.eq_false_iff.mpr c10
   subst c10
   rw [if_neg (show ¬ (false = true) by decide)] at H
   by_cases g0 : l0.length ≤ 400
   rotate_left
   ·rw [if_neg g0] at H;cases H
   rw [if_pos g0] at H
   by_cases g1 : l1.length ≤ 400
   rotate_left
   ·rw [if_neg g1] at H;cases H
   rw [if_pos g1] at H
   obtain ⟨t192,A13,H⟩:=Option.bind_eq_some_iff.mp H
   obtain ⟨t195,A14,H⟩:=Option.bind_eq_some_iff.mp H
   generalize hlj : l0 ++ l1 = lj at A13
   have hb9 : lj.length ≤ 1000:=by rw [← hlj];simp;omega
   by_cases c15 : t195 = true
   rotate_left
   ·replace c15:=Bool.eq_false_iff.mpr c15
    subst c15
    rw [if_neg (show ¬ (false = true) by decide)] at H
    simp only [Option.some.injEq,Prod.mk.injEq] at H
    obtain ⟨rfl,rfl⟩:=H
    go_wp2_with (first | ((with_reducible refine gate_callee (f:=52) rfl ?_);refine goesL_ (some 18) rfl rfl Try.func52 T13q1 rfl #[.slice (some ⟨wc.heap.size,0,none⟩) 2 2] rfl (by (try simp only [List.map_toArray,List.map_cons,List.map_nil]);first | done | rfl) ?_;refine (concat_calls wc.heap.size A0 A1 c0 c1 l0 l1 _ ?cB ?cb0 ?cb1 ?cr0 ?cr1 g0 g1).mono ?_;(case cB => simp);(case cb0 => simp);(case cb1 => simp);(case cr0 => exact Kd.C_alloc (Kd.C_below HR0.out HB.out) _);(case cr1 => exact Kd.C_alloc (Kd.C_below HR1.out HB.out) _);rintro e w16 ⟨v1,rfl,ho1,hb1⟩;refine ⟨_,rfl,?_⟩;have B1 : Below w.heap.size w w16:=below_step (below_alloc HB.out _) hb1;have O1:=Kd.R_lower ho1 (show w.heap.size ≤ _ from (below_alloc HB.out _).size);rw [hlj] at O1;obtain ⟨As,cs,es⟩:=Kd.R_slice O1;subst es) | ((with_reducible refine gate_callee (f:=53) rfl ?_);refine goesL_ (some 20) rfl rfl Try.func53 T13q1 rfl #[.slice As lj.length cs,.func (.func 54) #[] #[]] rfl (by (try simp only [List.map_toArray,List.map_cons,List.map_nil]);first | done | rfl) ?_;refine (impl_Entry_53.calls kj _ _ lj 0 t192 w w16 B1 O1 A13).mono ?_;rintro e w17 ⟨rfl,O2,B2,K2⟩;refine ⟨_,rfl,?_⟩;have hl2:=(Kd.R_reads' O2).1;have hr2:=(Kd.R_reads' O2).2.2;have hc2:=(Kd.R_reads' O2).2.1;rw [hl2] at hc2;have hb8:=hb9;rw [hl2] at hb8) | ((with_reducible refine gate_callee (f:=28) rfl ?_);refine goesL_ (some 22) rfl rfl Try.func28 T13q1 rfl #[.slice As t192.length cs] rfl (by (try simp only [List.map_toArray,List.map_cons,List.map_nil]);first | done | rfl) ?_;refine (impl_RunOk.calls kj As cs t192 false w17 hr2 hc2 A14).mono ?_;rintro e w18 ⟨rfl,B3⟩;refine ⟨_,rfl,?_⟩;have B4:=below_step B2 B3;have hr3:=Kd.C_below hr2 B3))
    go_ret2
    exact ⟨_,rfl,Kd.R_nil _ _ _ _ _,B4⟩
   subst c15
   rw [if_pos rfl] at H
   simp only [Option.some.injEq,Prod.mk.injEq] at H
   obtain ⟨rfl,rfl⟩:=H
   go_wp2_with (first | ((with_reducible refine gate_callee (f:=52) rfl ?_);refine goesL_ (some 18) rfl rfl Try.func52 T13q1 rfl #[.slice (some ⟨wc.heap.size,0,none⟩) 2 2] rfl (by (try simp only [List.map_toArray,List.map_cons,List.map_nil]);first | done | rfl) ?_;refine (concat_calls wc.heap.size A0 A1 c0 c1 l0 l1 _ ?cB ?cb0 ?cb1 ?cr0 ?cr1 g0 g1).mono ?_;(case cB => simp);(case cb0 => simp);(case cb1 => simp);(case cr0 => exact Kd.C_alloc (Kd.C_below HR0.out HB.out) _);(case cr1 => exact Kd.C_alloc (Kd.C_below HR1.out HB.out) _);rintro e w16 ⟨v1,rfl,ho1,hb1⟩;refine ⟨_,rfl,?_⟩;have B1 : Below w.heap.size w w16:=below_step (below_alloc HB.out _) hb1;have O1:=Kd.R_lower ho1 (show w.heap.size ≤ _ from (below_alloc HB.out _).size);rw [hlj] at O1;obtain ⟨As,cs,es⟩:=Kd.R_slice O1;subst es) | ((with_reducible refine gate_callee (f:=53) rfl ?_);refine goesL_ (some 20) rfl rfl Try.func53 T13q1 rfl #[.slice As lj.length cs,.func (.func 54) #[] #[]] rfl (by (try simp only [List.map_toArray,List.map_cons,List.map_nil]);first | done | rfl) ?_;refine (impl_Entry_53.calls kj _ _ lj 0 t192 w w16 B1 O1 A13).mono ?_;rintro e w17 ⟨rfl,O2,B2,K2⟩;refine ⟨_,rfl,?_⟩;have hl2:=(Kd.R_reads' O2).1;have hr2:=(Kd.R_reads' O2).2.2;have hc2:=(Kd.R_reads' O2).2.1;rw [hl2] at hc2;have hb8:=hb9;rw [hl2] at hb8) | ((with_reducible refine gate_callee (f:=28) rfl ?_);refine goesL_ (some 22) rfl rfl Try.func28 T13q1 rfl #[.slice As t192.length cs] rfl (by (try simp only [List.map_toArray,List.map_cons,List.map_nil]);first | done | rfl) ?_;refine (impl_RunOk.calls kj As cs t192 true w17 hr2 hc2 A14).mono ?_;rintro e w18 ⟨rfl,B3⟩;refine ⟨_,rfl,?_⟩;have B4:=below_step B2 B3;have hr3:=Kd.C_below hr2 B3) | ((with_reducible refine gate_callee (f:=55) rfl ?_);refine goesL_ (some 25) rfl rfl Try.func55 T13q1 rfl #[.slice As t192.length cs] rfl (by (try simp only [List.map_toArray,List.map_cons,List.map_nil]);first | done | rfl) ?_;refine (clone_calls As cs t192 w18 hr3 hc2 hb8).mono ?_;rintro e w19 ⟨v4,rfl,O4,B5⟩;refine ⟨_,rfl,?_⟩;have B6:=below_step B4 B5;have O5:=Kd.R_lower O4 B4.size))
   go_ret2
   exact ⟨_,rfl,O5,B6⟩
/-! ### spec_DrawRunJoin: function 32 -/
def spec_DrawRunJoin.f (k : Nat) (l0 : List Int) : Option ((List (S27)) × (List (S27))):=(spec_l6Open.f l0).bind fun bt366 => ((spec_l71Off.f k bt366.1 bt366.2).bind fun bt369 => ((spec_l71Off.f k bt366.1 bt369.2).bind fun bt373 => (some (bt369.1,bt373.1))))
set_option maxHeartbeats 8000000 in
set_option maxRecDepth 100000 in
theorem spec_DrawRunJoin.calls (k : Nat) (A0 : Option Addr) (c0 : Nat) (l0 : List Int) (r1 : List (S27)) (r2 : List (S27)) (w : World) (hr0 : Kd.C (Kd.int .u8) w A0 l0.length l0) (hc0 : l0.length ≤ c0) (h : spec_DrawRunJoin.f k l0 = some (r1,r2)) :
  Calls Try.prog 32 #[.slice A0 l0.length c0] w fun e w' => ∃ v0_ v1_ : Value,e = .returned (.tuple #[v0_,v1_]) ∧ Kd.R k27 27 w' w.heap.size (fun k_ => some k_ ≠ (v1_ : Value).ownBlock) v0_ r1 ∧ Kd.R k27 27 w' w.heap.size (fun k_ => some k_ ≠ (v0_ : Value).ownBlock) v1_ r2 ∧ Below w.heap.size w w':=by
 have HR0:=Aside0.mk hr0
 have HC0:=Aside0.mk hc0
 clear hr0 hc0
 have HB:=Aside0.mk (Below.refl w.heap.size w)
 have H : ((spec_l6Open.f l0).bind fun bt366 => ((spec_l71Off.f k bt366.1 bt366.2).bind fun bt369 => ((spec_l71Off.f k bt366.1 bt369.2).bind fun bt373 => (some (bt369.1,bt373.1))))) = some (r1,r2):=h
 clear h
 replace H:=Option.bind_eq_some_iff.mp H
 obtain ⟨⟨t366,t367⟩,A20,H⟩:=H
 replace H : ((spec_l71Off.f k t366 t367).bind fun bt369 => ((spec_l71Off.f k t366 bt369.2).bind fun bt373 => (some (bt369.1,bt373.1)))) = some (r1,r2):=H
 have A2:=Aside0.mk A20
 clear A20
 replace H:=Option.bind_eq_some_iff.mp H
 obtain ⟨⟨t369,t372⟩,A30,H⟩:=H
 replace H : ((spec_l71Off.f k t366 t372).bind fun bt373 => (some (t369,bt373.1))) = some (r1,r2):=H
 have A3:=Aside0.mk A30
 clear A30
 replace H:=Option.bind_eq_some_iff.mp H
 obtain ⟨⟨t373,t376⟩,A40,H⟩:=H
 replace H : (some (t369,t373)) = some (r1,r2):=H
 have A4:=Aside0.mk A40
 clear A40
 simp only [Option.some.injEq,Prod.mk.injEq] at H
 obtain ⟨rfl,rfl⟩:=H
 go_enter Try.func32,Try.ntmps32
 go_wp2_with (first | ((with_reducible refine gate_callee (f:=34) rfl ?_);refine goesL_ (some 6) rfl rfl Try.func34 T13q1 rfl #[.slice A0 l0.length c0] rfl T13q2 ?_;(with_reducible refine (spec_l6Open.calls _ _ l0 t366 t367 w _ ?side1 ?side2 ?side3 A2.out).mono ?_);(case side1 => repeat (first | (with_reducible first | exact HB.out | apply below_alloc | apply pw_below_drewN | apply below_drew1) | exact HB.out));(case side2 => exact HR0.out);(case side3 => exact HC0.out);rintro e w5 ⟨g368,rfl,hi,hb,hb2⟩;refine ⟨_,rfl,?_⟩;have n0_:=Aside0.mk (hb);have n1_:=Aside0.mk (hi);clear HB;have HB:=n0_;have HI368:=n1_;clear n0_ n1_;(try clear hb);(try clear hb2);(try clear hk);(try clear hi)) | ((with_reducible refine gate_callee (f:=35) rfl ?_);refine goesL_ (some 8) rfl rfl Try.func35 T13q1 rfl #[.pointer (some ⟨g368,0,none⟩)] rfl T13q2 ?_;(with_reducible refine (spec_l71Off.calls k g368 t366 t367 t369 t372 w _ ?side1 ?side2 A3.out).mono ?_);(case side1 => repeat (first | (with_reducible first | exact HI368.out | apply IsS68.alloc | apply IsS68.drewN | apply IsS68.drew | apply IsS68.set_1) | exact HI368.out));(case side2 => repeat (first | (with_reducible first | exact HB.out | apply below_alloc | apply pw_below_drewN | apply below_drew1 | refine below_set ?_ (IsS68.ge HI368.out)) | exact HB.out));rintro e w6 ⟨v370,rfl,ho0,hi,hb,hk⟩;refine ⟨_,rfl,?_⟩;have n0_:=Aside0.mk (Kd.R_lower ho0 (below_size (by repeat (first | (with_reducible first | exact HB.out | apply below_alloc | apply pw_below_drewN | apply below_drew1 | refine below_set ?_ (IsS68.ge HI368.out)) | exact HB.out))));have n1_:=Aside0.mk (hb);have n2_:=Aside0.mk (hi);clear HB;clear HI368;have HO371:=n0_;have HB:=n1_;have HI368:=n2_;clear n0_ n1_ n2_;(try clear hb);(try clear hb2);(try clear hk);(try clear hi);(try clear ho0)) | ((with_reducible refine gate_callee (f:=35) rfl ?_);refine goesL_ (some 10) rfl rfl Try.func35 T13q1 rfl #[.pointer (some ⟨g368,0,none⟩)] rfl T13q2 ?_;(with_reducible refine (spec_l71Off.calls k g368 t366 t372 t373 t376 w _ ?side1 ?side2 A4.out).mono ?_);(case side1 => repeat (first | (with_reducible first | exact HI368.out | apply IsS68.alloc | apply IsS68.drewN | apply IsS68.drew | apply IsS68.set_1) | exact HI368.out));(case side2 => repeat (first | (with_reducible first | exact HB.out | apply below_alloc | apply pw_below_drewN | apply below_drew1 | refine below_set ?_ (IsS68.ge HI368.out)) | exact HB.out));rintro e w7 ⟨v374,rfl,ho0,hi,hb,hk⟩;refine ⟨_,rfl,?_⟩;have n0_:=Aside0.mk (Kd.R_mono (Kd.R_told (Kd.R_oldK (IsS68.apart (show IsS68 w _ g368 t366 t372 from by repeat (first | (with_reducible first | exact HI368.out | apply IsS68.alloc | apply IsS68.drewN | apply IsS68.drew | apply IsS68.set_1) | exact HI368.out)) (by (with_reducible repeat (first | apply Kd.R_alloc | apply Kd.R_drewN | apply Kd.R_drew));exact HO371.out) (by decide)) hk) (Kd.R_base ho0)) (fun _ h_ => h_.1));have n1_:=Aside0.mk (Kd.R_lower (Kd.R_new' ho0 (Kd.R_lt (by (with_reducible repeat (first | apply Kd.R_alloc | apply Kd.R_drewN | apply Kd.R_drew));exact HO371.out))) (below_size (by repeat (first | (with_reducible first | exact HB.out | apply below_alloc | apply pw_below_drewN | apply below_drew1 | refine below_set ?_ (IsS68.ge HI368.out)) | exact HB.out))));have n2_:=Aside0.mk (hb);have n3_:=Aside0.mk (hi);clear HO371;clear HB;clear HI368;have HO371:=n0_;have HO375:=n1_;have HB:=n2_;have HI368:=n3_;clear n0_ n1_ n2_ n3_;(try clear hb);(try clear hb2);(try clear hk);(try clear hi);(try clear ho0)))
 go_ret2
 exact ⟨_,_,by first | rfl | (simp [errW_none,errW_some] <;> rfl) | (simp [*,errW_none,errW_some] <;> rfl),by (with_reducible repeat (first | apply Kd.R_alloc | apply Kd.R_drewN | apply Kd.R_drew));exact Kd.R_mono HO371.out (fun _ hk => hk.2),by (with_reducible repeat (first | apply Kd.R_alloc | apply Kd.R_drewN | apply Kd.R_drew));exact Kd.R_mono HO375.out (fun _ hk => hk.2),by repeat (first | (with_reducible first | exact HB.out | apply below_alloc | apply pw_below_drewN | apply below_drew1 | refine below_set ?_ (IsS68.ge HI368.out)) | exact HB.out)⟩
/-! ### spec_RunJoin: function 33 -/
def spec_RunJoin.j0 : Nat → List (S27) → List (S27) → Bool → Option ((List (S27)) × Bool)
 | 0,_,_,_ => none
 | k + 1,x0,x1,x14 => if x14 = true then (some ((([] : List (S27))),false)) else ((spec_l11Join.f k x0 x1).bind fun t382 => ((spec_RunOk.f k t382).bind fun t385 => (if t385 = true then (some (t382,true)) else (some ((([] : List (S27))),false)))))
def spec_RunJoin.f (k : Nat) (l0 : List (S27)) (l1 : List (S27)) : Option ((List (S27)) × Bool):=(spec_RunOk.f k l0).bind fun t377 => (if t377 = true then ((spec_RunOk.f k l1).bind fun t378 => (spec_RunJoin.j0 k l0 l1 (!t378))) else (spec_RunJoin.j0 k l0 l1 true))
set_option maxHeartbeats 8000000 in
set_option maxRecDepth 100000 in
theorem spec_RunJoin.calls (k : Nat) (A0 : Option Addr) (c0 : Nat) (l0 : List (S27)) (A1 : Option Addr) (c1 : Nat) (l1 : List (S27)) (r1 : List (S27)) (r2 : Bool) (w : World) (hr0 : Kd.C k27 w A0 l0.length l0) (hc0 : l0.length ≤ c0) (hr1 : Kd.C k27 w A1 l1.length l1) (hc1 : l1.length ≤ c1) (h : spec_RunJoin.f k l0 l1 = some (r1,r2)) :
  Calls Try.prog 33 #[.slice A0 l0.length c0,.slice A1 l1.length c1] w fun e w' => ∃ v0_ : Value,e = .returned (.tuple #[v0_,.bool r2]) ∧ Kd.R k27 27 w' w.heap.size (fun _ => True) v0_ r1 ∧ Below w.heap.size w w':=by
 have HR0:=Aside0.mk hr0
 have HC0:=Aside0.mk hc0
 clear hr0 hc0
 have HR1:=Aside0.mk hr1
 have HC1:=Aside0.mk hc1
 clear hr1 hc1
 have HB:=Aside0.mk (Below.refl w.heap.size w)
 have H : ((spec_RunOk.f k l0).bind fun t377 => (if t377 = true then ((spec_RunOk.f k l1).bind fun t378 => (spec_RunJoin.j0 k l0 l1 (!t378))) else (spec_RunJoin.j0 k l0 l1 true))) = some (r1,r2):=h
 clear h
 have HC3:=Aside0.mk H
 clear H
 go_enter Try.func33,Try.ntmps33
 go_upto_region 1 with (fail)
 go_cut [14] (fun v14 wc => ∃ (kq : Nat) (x14_2 : Bool),v14 = .bool x14_2 ∧ Aside0 (spec_RunJoin.j0 kq l0 l1 x14_2 = some (r1,r2)) ∧ Aside0 (kq ≤ k) ∧ Aside0 (Below w.heap.size w wc))
 case first =>
  have H:=HC3.out
  clear HC3
  replace H:=Option.bind_eq_some_iff.mp H
  obtain ⟨t377,A40,H⟩:=H
  replace H : (if t377 = true then ((spec_RunOk.f k l1).bind fun t378 => (spec_RunJoin.j0 k l0 l1 (!t378))) else (spec_RunJoin.j0 k l0 l1 true)) = some (r1,r2):=H
  have A4:=Aside0.mk A40
  clear A40
  by_cases c5 : t377 = true
  rotate_left
  ·replace c5:=Bool.eq_false_iff.mpr c5
   subst c5
   have H1 : (spec_RunJoin.j0 k l0 l1 true) = some (r1,r2):=by rw [if_neg (show ¬ (false = true) by decide)] at H;exact H
   clear H
   have H:=H1
   clear H1
   have H':=Aside0.mk H
   clear H
   go_wp2_with (first | ((with_reducible refine gate_callee (f:=18) rfl ?_);refine goesL_ (some 8) rfl rfl Try.func18 T13q1 rfl #[.slice A0 l0.length c0] rfl T13q2 ?_;(with_reducible refine (spec_RunOk.calls k _ _ l0 false _ ?side1 ?side2 A4.out).mono ?_);(case side1 => repeat (first | exact (Kd.C_below HR0.out HB.out) | (with_reducible refine Kd.C_alloc ?_ _) | (with_reducible refine Kd.C_drewN ?_ _) | (with_reducible refine Kd.C_drew ?_)));(case side2 => exact HC0.out);rintro e w9 ⟨rfl,hb⟩;refine ⟨_,rfl,?_⟩;have n0_:=Aside0.mk (below_step (by repeat (first | (with_reducible first | exact HB.out | apply below_alloc | apply pw_below_drewN | apply below_drew1) | exact HB.out)) hb);clear HB;have HB:=n0_;clear n0_;(try clear hb);(try clear hb2);(try clear hk);(try clear hi)))
   go_meet
   case rel => exact ⟨_,(true),(by first | rfl | (simp;done) | (simp [*];done)),H',⟨by first | omega | exact Nat.le_refl _⟩,⟨by repeat (first | (with_reducible first | exact HB.out | apply below_alloc | apply pw_below_drewN | apply below_drew1) | exact HB.out)⟩⟩
  subst c5
  have H1 : ((spec_RunOk.f k l1).bind fun t378 => (spec_RunJoin.j0 k l0 l1 (!t378))) = some (r1,r2):=by rw [if_pos rfl] at H;exact H
  clear H
  have H:=H1
  clear H1
  replace H:=Option.bind_eq_some_iff.mp H
  obtain ⟨t378,A60,H⟩:=H
  replace H : (spec_RunJoin.j0 k l0 l1 (!t378)) = some (r1,r2):=H
  have A6:=Aside0.mk A60
  clear A60
  have H':=Aside0.mk H
  clear H
  go_wp2_with (first | ((with_reducible refine gate_callee (f:=18) rfl ?_);refine goesL_ (some 8) rfl rfl Try.func18 T13q1 rfl #[.slice A0 l0.length c0] rfl T13q2 ?_;(with_reducible refine (spec_RunOk.calls k _ _ l0 true _ ?side1 ?side2 A4.out).mono ?_);(case side1 => repeat (first | exact (Kd.C_below HR0.out HB.out) | (with_reducible refine Kd.C_alloc ?_ _) | (with_reducible refine Kd.C_drewN ?_ _) | (with_reducible refine Kd.C_drew ?_)));(case side2 => exact HC0.out);rintro e w7 ⟨rfl,hb⟩;refine ⟨_,rfl,?_⟩;have n0_:=Aside0.mk (below_step (by repeat (first | (with_reducible first | exact HB.out | apply below_alloc | apply pw_below_drewN | apply below_drew1) | exact HB.out)) hb);clear HB;have HB:=n0_;clear n0_;(try clear hb);(try clear hb2);(try clear hk);(try clear hi)) | (go_at_call 18;(with_reducible refine (spec_RunOk.calls k _ _ l1 t378 _ ?side1 ?side2 A6.out).mono ?_);(case side1 => repeat (first | exact (Kd.C_below HR1.out HB.out) | (with_reducible refine Kd.C_alloc ?_ _) | (with_reducible refine Kd.C_drewN ?_ _) | (with_reducible refine Kd.C_drew ?_)));(case side2 => exact HC1.out);rintro e w8 ⟨rfl,hb⟩;have n0_:=Aside0.mk (below_step (by repeat (first | (with_reducible first | exact HB.out | apply below_alloc | apply pw_below_drewN | apply below_drew1) | exact HB.out)) hb);clear HB;have HB:=n0_;clear n0_;(try clear hb);(try clear hb2);(try clear hk);(try clear hi)))
  go_meet
  case rel => exact ⟨_,(!t378),(by first | rfl | (simp;done) | (simp [*];done)),H',⟨by first | omega | exact Nat.le_refl _⟩,⟨by repeat (first | (with_reducible first | exact HB.out | apply below_alloc | apply pw_below_drewN | apply below_drew1) | exact HB.out)⟩⟩
 case rest =>
  clear HC3
  try clear c1
  try clear p2
  try clear c3
  try clear c5
  obtain ⟨kq,x14_2,rfl,HA,HJ2,HB⟩:=hcut
  cases kq with
  | zero => exact absurd HA.out (by simp [spec_RunJoin.j0])
  | succ kj2 =>
   have H:=HA.out
   clear HA
   simp only [spec_RunJoin.j0] at H
   by_cases c10 : x14_2 = true
   ·subst c10
    have H1 : (some ((([] : List (S27))),false)) = some (r1,r2):=by rw [if_pos rfl] at H;exact H
    clear H
    have H:=H1
    clear H1
    obtain ⟨y379,hy379⟩ : ∃ y_ : List (S27),y_ = (([] : List (S27))):=⟨_,rfl⟩
    replace H : (some (y379,false)) = some (r1,r2):=by first | (rw [hy379];with_reducible exact H) | (have H2_:=(Option.bind_some _ _).symm.trans H;rw [hy379];with_reducible exact H2_) | (have H2_:=(Option.bind_some _ _).symm.trans H;with_reducible exact H2_) | with_reducible exact H | (rw [hy379];exact H) | exact H
    have Ny379:=Aside0.mk hy379
    clear hy379
    simp only [Option.some.injEq,Prod.mk.injEq] at H
    obtain ⟨rfl,rfl⟩:=H
    go_wp2_with (first | ((with_reducible refine gate_dst (N:=15) rfl ?_);refine Kd.R_lit k27 _ 27 ?hg (N:=15) ?hd (xs:=([] : List (S27))) (inner:=[]) (ok:=fun _ => True) (okp:=fun _ => True) ?hr ?hp (fun _ hk => hk) trivial (Below.refl _ _) (Nat.le_refl _) (by simp) ?_;(case hd => rfl);(case hg => rfl);(case hr => first | (go_simp;done) | (go_simp;rfl));(case hp => exact (Reps.none _ _));intro v380 w11 ho12 hb hg_ hnew_;clear hg_ hnew_;(first | rw [← Ny379.out] at ho12 | (simp only [Int.reduceToNat] at ho12;rw [← Ny379.out] at ho12));have n0_:=Aside0.mk (Kd.R_lower ho12 (below_size (by repeat (first | (with_reducible first | exact HB.out | apply below_alloc | apply pw_below_drewN | apply below_drew1) | exact HB.out))));have n1_:=Aside0.mk (below_step (by repeat (first | (with_reducible first | exact HB.out | apply below_alloc | apply pw_below_drewN | apply below_drew1) | exact HB.out)) hb);clear HB;have HO381:=n0_;have HB:=n1_;clear n0_ n1_;clear hb ho12))
    go_ret2
    exact ⟨_,by first | rfl | (simp [errW_none,errW_some] <;> rfl) | (simp [*,errW_none,errW_some] <;> rfl),by (with_reducible repeat (first | apply Kd.R_alloc | apply Kd.R_drewN | apply Kd.R_drew));exact HO381.out,by repeat (first | (with_reducible first | exact HB.out | apply below_alloc | apply pw_below_drewN | apply below_drew1) | exact HB.out)⟩
   replace c10:=Bool.eq_false_iff.mpr c10
   subst c10
   have H1 : ((spec_l11Join.f kj2 l0 l1).bind fun t382 => ((spec_RunOk.f kj2 t382).bind fun t385 => (if t385 = true then (some (t382,true)) else (some ((([] : List (S27))),false))))) = some (r1,r2):=by rw [if_neg (show ¬ (false = true) by decide)] at H;exact H
   clear H
   have H:=H1
   clear H1
   replace H:=Option.bind_eq_some_iff.mp H
   obtain ⟨t382,A130,H⟩:=H
   replace H : ((spec_RunOk.f kj2 t382).bind fun t385 => (if t385 = true then (some (t382,true)) else (some ((([] : List (S27))),false)))) = some (r1,r2):=H
   have A13:=Aside0.mk A130
   clear A130
   replace H:=Option.bind_eq_some_iff.mp H
   obtain ⟨t385,A140,H⟩:=H
   replace H : (if t385 = true then (some (t382,true)) else (some ((([] : List (S27))),false))) = some (r1,r2):=H
   have A14:=Aside0.mk A140
   clear A140
   by_cases c15 : t385 = true
   ·subst c15
    have H1 : (some (t382,true)) = some (r1,r2):=by rw [if_pos rfl] at H;exact H
    clear H
    have H:=H1
    clear H1
    simp only [Option.some.injEq,Prod.mk.injEq] at H
    obtain ⟨rfl,rfl⟩:=H
    go_wp2_with (first | ((with_reducible refine gate_callee (f:=56) rfl ?_);refine goesL_ (some 18) rfl rfl Try.func56 T13q1 rfl #[.slice A0 l0.length c0,.slice A1 l1.length c1] rfl T13q2 ?_;(with_reducible refine (spec_l11Join.calls kj2 _ _ l0 _ _ l1 t382 _ ?side1 ?side2 ?side3 ?side4 A13.out).mono ?_);(case side1 => repeat (first | exact (Kd.C_below HR0.out HB.out) | (with_reducible refine Kd.C_alloc ?_ _) | (with_reducible refine Kd.C_drewN ?_ _) | (with_reducible refine Kd.C_drew ?_)));(case side2 => exact HC0.out);(case side3 => repeat (first | exact (Kd.C_below HR1.out HB.out) | (with_reducible refine Kd.C_alloc ?_ _) | (with_reducible refine Kd.C_drewN ?_ _) | (with_reducible refine Kd.C_drew ?_)));(case side4 => exact HC1.out);rintro e w16 ⟨v383,rfl,ho0,hb⟩;refine ⟨_,rfl,?_⟩;have n0_:=Aside0.mk (Kd.R_lower ho0 (below_size (by repeat (first | (with_reducible first | exact HB.out | apply below_alloc | apply pw_below_drewN | apply below_drew1) | exact HB.out))));have n1_:=Aside0.mk (below_step (by repeat (first | (with_reducible first | exact HB.out | apply below_alloc | apply pw_below_drewN | apply below_drew1) | exact HB.out)) hb);clear HB;have HO384:=n0_;have HB:=n1_;clear n0_ n1_;(try clear hb);(try clear hb2);(try clear hk);(try clear hi);(try clear ho0);obtain ⟨Ao17,co17,eo17⟩:=Kd.R_slice HO384.out;subst eo17) | ((with_reducible refine gate_callee (f:=18) rfl ?_);refine goesL_ (some 20) rfl rfl Try.func18 T13q1 rfl #[.slice Ao17 t382.length co17] rfl T13q2 ?_;(with_reducible refine (spec_RunOk.calls kj2 _ _ t382 true _ ?side1 ?side2 A14.out).mono ?_);(case side1 => repeat (first | exact (Kd.R_reads' HO384.out).2.2 | (with_reducible refine Kd.C_alloc ?_ _) | (with_reducible refine Kd.C_drewN ?_ _) | (with_reducible refine Kd.C_drew ?_)));(case side2 => exact (Kd.R_reads' HO384.out).2.1);rintro e w18 ⟨rfl,hb⟩;refine ⟨_,rfl,?_⟩;have n0_:=Aside0.mk (Kd.R_below T13q3 hb);have n1_:=Aside0.mk (below_step (by repeat (first | (with_reducible first | exact HB.out | apply below_alloc | apply pw_below_drewN | apply below_drew1) | exact HB.out)) hb);clear HO384;clear HB;have HO384:=n0_;have HB:=n1_;clear n0_ n1_;(try clear hb);(try clear hb2);(try clear hk);(try clear hi)))
    go_ret2
    exact ⟨_,by first | rfl | (simp [errW_none,errW_some] <;> rfl) | (simp [*,errW_none,errW_some] <;> rfl),by (with_reducible repeat (first | apply Kd.R_alloc | apply Kd.R_drewN | apply Kd.R_drew));exact HO384.out,by repeat (first | (with_reducible first | exact HB.out | apply below_alloc | apply pw_below_drewN | apply below_drew1) | exact HB.out)⟩
   replace c15:=Bool.eq_false_iff.mpr c15
   subst c15
   have H1 : (some ((([] : List (S27))),false)) = some (r1,r2):=by rw [if_neg (show ¬ (false = true) by decide)] at H;exact H
   clear H
   have H:=H1
   clear H1
   obtain ⟨y386,hy386⟩ : ∃ y_ : List (S27),y_ = (([] : List (S27))):=⟨_,rfl⟩
   replace H : (some (y386,false)) = some (r1,r2):=by first | (rw [hy386];with_reducible exact H) | (have H2_:=(Option.bind_some _ _).symm.trans H;rw [hy386];with_reducible exact H2_) | (have H2_:=(Option.bind_some _ _).symm.trans H;with_reducible exact H2_) | with_reducible exact H | (rw [hy386];exact H) | exact H
   have Ny386:=Aside0.mk hy386
   clear hy386
   simp only [Option.some.injEq,Prod.mk.injEq] at H
   obtain ⟨rfl,rfl⟩:=H
   go_wp2_with (first | ((with_reducible refine gate_callee (f:=56) rfl ?_);refine goesL_ (some 18) rfl rfl Try.func56 T13q1 rfl #[.slice A0 l0.length c0,.slice A1 l1.length c1] rfl T13q2 ?_;(with_reducible refine (spec_l11Join.calls kj2 _ _ l0 _ _ l1 t382 _ ?side1 ?side2 ?side3 ?side4 A13.out).mono ?_);(case side1 => repeat (first | exact (Kd.C_below HR0.out HB.out) | (with_reducible refine Kd.C_alloc ?_ _) | (with_reducible refine Kd.C_drewN ?_ _) | (with_reducible refine Kd.C_drew ?_)));(case side2 => exact HC0.out);(case side3 => repeat (first | exact (Kd.C_below HR1.out HB.out) | (with_reducible refine Kd.C_alloc ?_ _) | (with_reducible refine Kd.C_drewN ?_ _) | (with_reducible refine Kd.C_drew ?_)));(case side4 => exact HC1.out);rintro e w19 ⟨v383,rfl,ho0,hb⟩;refine ⟨_,rfl,?_⟩;have n0_:=Aside0.mk (Kd.R_lower ho0 (below_size (by repeat (first | (with_reducible first | exact HB.out | apply below_alloc | apply pw_below_drewN | apply below_drew1) | exact HB.out))));have n1_:=Aside0.mk (below_step (by repeat (first | (with_reducible first | exact HB.out | apply below_alloc | apply pw_below_drewN | apply below_drew1) | exact HB.out)) hb);clear HB;have HO384:=n0_;have HB:=n1_;clear n0_ n1_;(try clear hb);(try clear hb2);(try clear hk);(try clear hi);(try clear ho0);obtain ⟨Ao20,co20,eo20⟩:=Kd.R_slice HO384.out;subst eo20) | ((with_reducible refine gate_callee (f:=18) rfl ?_);refine goesL_ (some 20) rfl rfl Try.func18 T13q1 rfl #[.slice Ao20 t382.length co20] rfl T13q2 ?_;(with_reducible refine (spec_RunOk.calls kj2 _ _ t382 false _ ?side1 ?side2 A14.out).mono ?_);(case side1 => repeat (first | exact (Kd.R_reads' HO384.out).2.2 | (with_reducible refine Kd.C_alloc ?_ _) | (with_reducible refine Kd.C_drewN ?_ _) | (with_reducible refine Kd.C_drew ?_)));(case side2 => exact (Kd.R_reads' HO384.out).2.1);rintro e w21 ⟨rfl,hb⟩;refine ⟨_,rfl,?_⟩;have n0_:=Aside0.mk (Kd.R_below T13q3 hb);have n1_:=Aside0.mk (below_step (by repeat (first | (with_reducible first | exact HB.out | apply below_alloc | apply pw_below_drewN | apply below_drew1) | exact HB.out)) hb);clear HO384;clear HB;have HO384:=n0_;have HB:=n1_;clear n0_ n1_;(try clear hb);(try clear hb2);(try clear hk);(try clear hi)) | ((with_reducible refine gate_dst (N:=22) rfl ?_);refine Kd.R_lit k27 _ 27 ?hg (N:=22) ?hd (xs:=([] : List (S27))) (inner:=[]) (ok:=fun _ => True) (okp:=fun _ => True) ?hr ?hp (fun _ hk => hk) trivial (Below.refl _ _) (Nat.le_refl _) (by simp) ?_;(case hd => rfl);(case hg => rfl);(case hr => first | (go_simp;done) | (go_simp;rfl));(case hp => exact (Reps.none _ _));intro v387 w22 ho23 hb hg_ hnew_;clear hg_ hnew_;(first | rw [← Ny386.out] at ho23 | (simp only [Int.reduceToNat] at ho23;rw [← Ny386.out] at ho23));have n0_:=Aside0.mk (Kd.R_elder' T13q3 (Kd.R_base ho23) hb);have n1_:=Aside0.mk (Kd.R_lower (Kd.R_new' ho23 (Kd.R_lt T13q3)) (below_size (by repeat (first | (with_reducible first | exact HB.out | apply below_alloc | apply pw_below_drewN | apply below_drew1) | exact HB.out))));have n2_:=Aside0.mk (below_step (by repeat (first | (with_reducible first | exact HB.out | apply below_alloc | apply pw_below_drewN | apply below_drew1) | exact HB.out)) hb);clear HO384;clear HB;have HO384:=n0_;have HO388:=n1_;have HB:=n2_;clear n0_ n1_ n2_;clear hb ho23))
   go_ret2
   exact ⟨_,by first | rfl | (simp [errW_none,errW_some] <;> rfl) | (simp [*,errW_none,errW_some] <;> rfl),by (with_reducible repeat (first | apply Kd.R_alloc | apply Kd.R_drewN | apply Kd.R_drew));exact Kd.R_mono HO388.out (fun _ hk => trivial),by repeat (first | (with_reducible first | exact HB.out | apply below_alloc | apply pw_below_drewN | apply below_drew1) | exact HB.out)⟩
end Go.Proofs.Ytkifijclehgiaaa.PFnRunJoinAt
