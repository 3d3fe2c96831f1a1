/-
 Functions that FnRunTrimTop reaches,each as a Lean function,and that Go comes to its answer: printed by the kit's printer,impl.seen's part laid by hand. Conditions: those that stand in each statement.
-/
import Derived.Test.YtkifijclehgiaaaPFnRunTrimTopx0
import Derived.Test.YtkifijclehgiaaaPFnRunTrimTopx1
import Derived.Test.YtkifijclehgiaaaPFnRunTrimTopx3
namespace Go.Proofs.Ytkifijclehgiaaa.PFnRunTrimTop
open Go.RowKit Go.Proofs.YtkifijclehgiaaaW.PrintWords Go.Proofs.YtkifijclehgiaaaW.PrintLast Go.Proofs.YtkifijclehgiaaaW.PrintMore
attribute [local go_sem] max2_int min2_int max_two min_two max_three min_three max_four min_four   -- for this text's walks alone
set_option linter.unusedVariables false
set_option linter.unusedSimpArgs false

attribute [local go_sem high] eqA27
theorem T6q1 {p : Prop} (h : p := by first | (with_reducible assumption) | assumption) : p := h
theorem T6q2 {p : Prop} (h : p := by (with_reducible repeat (first | apply Kd.R_alloc | apply Kd.R_drewN | apply Kd.R_drew));exact HO_3.out) : p := h
theorem T6q3 {p : Prop} (h : p := by (with_reducible repeat (first | apply Kd.R_alloc | apply Kd.R_drewN | apply Kd.R_drew));exact Kd.R_mono (Kd.R_far (p:=⟨gb139,3,none⟩) (Kd.R_far (p:=⟨gb139,2,none⟩) (Kd.R_far (p:=⟨gb139,1,none⟩) (Kd.R_far (p:=⟨gb139,0,none⟩) (Kd.R_types HO_3.out BK139.out (by decide)) (fun _ hk => hk.2) (.string ((rd_T27 l0 x8_1).f0))) (fun _ hk => hk.2) (.int .i64 ((rd_T27 l0 x8_1).f1))) (fun _ hk => hk.2) (.bool ((rd_T27 l0 x8_1).f2))) (fun _ hk => hk.2) (.int .i64 ((rd_T27 l0 x8_1).f3))) (fun _ hk => trivial)) : p := h
theorem T6q4 {p : Prop} (h : p := by (try simp only [List.map_toArray,List.map_cons,List.map_nil]);first | done | rfl | (simp only [List.length_drop,List.length_take];rfl)) : p := h
/-! ### laws_ltRuns: function 21 -/
def laws_ltRuns.l0 : Nat → List (S27) → List (S27) → Int → Option (Bool)
 | 0,_,_,_ => none
 | k + 1,x0,x1,x5 => if x5 < (x0.length : Int) then (if 0 ≤ x5 then (if x5 < (x1.length : Int) then (if (!((((rd_T27 x0 x5).f0).toList) == (((rd_T27 x1 x5).f0).toList)) || (!(((rd_T27 x0 x5).f1) == ((rd_T27 x1 x5).f1)) || (!(((rd_T27 x0 x5).f2) == ((rd_T27 x1 x5).f2)) || (!(((rd_T27 x0 x5).f3) == ((rd_T27 x1 x5).f3)))))) = true then (some false) else (laws_ltRuns.l0 k x0 x1 (wrap64 (x5 + 1)))) else (none)) else (none)) else (some true)
def laws_ltRuns.f (k : Nat) (l0 : List (S27)) (l1 : List (S27)) : Option (Bool):=if (l0.length : Int) = (l1.length : Int) then (laws_ltRuns.l0 k l0 l1 0) else (some false)
set_option maxHeartbeats 8000000 in
set_option maxRecDepth 100000 in
theorem laws_ltRuns.calls (k : Nat) (A0 : Option Addr) (c0 : Nat) (l0 : List (S27)) (A1 : Option Addr) (c1 : Nat) (l1 : List (S27)) (r : Bool) (w : World) (hr0 : Kd.C k27 w A0 l0.length l0) (hc0 : l0.length ≤ c0) (hr1 : Kd.C k27 w A1 l1.length l1) (hc1 : l1.length ≤ c1) (h : laws_ltRuns.f k l0 l1 = some r) :
  Calls Try.prog 21 #[.slice A0 l0.length c0,.slice A1 l1.length c1] w fun e w' => e = .returned (.bool r) ∧ Drawn0 w w':=by
 have hu27:=Try.underlying27
 have HR0:=Aside0.mk hr0
 have HC0:=Aside0.mk hc0
 clear hr0 hc0
 have HR1:=Aside0.mk hr1
 have HC1:=Aside0.mk hc1
 clear hr1 hc1
 have H : (if (l0.length : Int) = (l1.length : Int) then (laws_ltRuns.l0 k l0 l1 0) else (some false)) = some r:=h
 clear h
 by_cases c3 : (l0.length : Int) = (l1.length : Int)
 rotate_left
 ·rw [if_neg c3] at H
  have c3b0 : ((l0.length : Int) == (l1.length : Int)) = false:=beq_eq_false_iff_ne.mpr c3
  have c3b1 : ((l0.length : Int) != (l1.length : Int)) = true:=bne_iff_ne.mpr c3
  have c3b2 : (l0.length == l1.length) = false:=by first | simpa using c3 | (simp at c3 ⊢;omega)
  obtain rfl:=Option.some.inj H
  go_enter Try.func21,Try.ntmps21
  go_wp2
  repeat (go_quiet (fail);try go_wp2)
  go_ret
  exact ⟨by first | rfl | (simp;done) | (simp [*];done),by repeat (first | exact Drawn0.refl _ | apply Drawn0.step)⟩
 rw [if_pos c3] at H
 have c3b0 : ((l0.length : Int) == (l1.length : Int)) = true:=beq_iff_eq.mpr c3
 have c3b1 : ((l0.length : Int) != (l1.length : Int)) = false:=bne_eq_false_iff_eq.mpr c3
 have c3b2 : (l0.length == l1.length) = true:=by first | simpa using c3 | (simp at c3 ⊢;omega)
 clear c3
 have H':=Aside0.mk H
 clear H
 go_enter Try.func21,Try.ntmps21
 go_wp2
 repeat (go_quiet (fail);try go_wp2)
 go_loopg [5] k (fun kq v5 w' => ∃ (x5_1 : Int),v5 = .int .i64 x5_1 ∧ Aside0 (laws_ltRuns.l0 kq l0 l1 x5_1 = some r) ∧ Aside0 (kq ≤ k) ∧ Drawn0 w w')
 case atStart => exact ⟨(0),(by first | rfl | (simp;done) | (simp [*];done)),H',⟨Nat.le_refl _⟩,by repeat (first | exact Drawn0.refl _ | apply Drawn0.step)⟩
 case round =>
  clear H'
  try clear c1
  try clear c2
  try clear p2
  try clear c3
  try clear c3b0
  try clear c3b1
  try clear c3b2
  obtain ⟨x5_1,rfl,HA,HK1,⟨m1,rfl⟩⟩:=hrel
  cases gk with
  | zero => exact absurd HA.out (by simp [laws_ltRuns.l0])
  | succ k1 =>
   have H:=HA.out
   clear HA
   simp only [laws_ltRuns.l0] at H
   by_cases c4 : x5_1 < (l0.length : Int)
   rotate_left
   ·rw [if_neg c4] at H
    have c4b0 : decide (x5_1 < (l0.length : Int)) = false:=decide_eq_false c4
    clear c4
    obtain rfl:=Option.some.inj H
    go_wp2
    repeat (go_quiet (fail);try go_wp2)
    go_ret
    exact ⟨by first | rfl | (simp;done) | (simp [*];done),by repeat (first | exact Drawn0.refl _ | apply Drawn0.step)⟩
   rw [if_pos c4] at H
   have c4b0 : decide (x5_1 < (l0.length : Int)) = true:=decide_eq_true c4
   clear c4
   by_cases c5 : 0 ≤ x5_1
   rotate_left
   ·rw [if_neg c5] at H
    exact absurd H (by simp)
   rw [if_pos c5] at H
   have c5b0 : decide (0 ≤ x5_1) = true:=decide_eq_true c5
   clear c5
   by_cases c6 : x5_1 < (l1.length : Int)
   rotate_left
   ·rw [if_neg c6] at H
    exact absurd H (by simp)
   rw [if_pos c6] at H
   have c6b0 : decide (x5_1 < (l1.length : Int)) = true:=decide_eq_true c6
   clear c6
   by_cases c7 : (!((((rd_T27 l0 x5_1).f0).toList) == (((rd_T27 l1 x5_1).f0).toList)) || (!(((rd_T27 l0 x5_1).f1) == ((rd_T27 l1 x5_1).f1)) || (!(((rd_T27 l0 x5_1).f2) == ((rd_T27 l1 x5_1).f2)) || (!(((rd_T27 l0 x5_1).f3) == ((rd_T27 l1 x5_1).f3)))))) = true
   ·rw [if_pos c7] at H
    have c7b0 : (!((((rd_T27 l0 x5_1).f0).toList) == (((rd_T27 l1 x5_1).f0).toList)) || (!(((rd_T27 l0 x5_1).f1) == ((rd_T27 l1 x5_1).f1)) || (!(((rd_T27 l0 x5_1).f2) == ((rd_T27 l1 x5_1).f2)) || (!(((rd_T27 l0 x5_1).f3) == ((rd_T27 l1 x5_1).f3)))))) = true:=c7
    clear c7
    obtain rfl:=Option.some.inj H
    have p136 : 0 ≤ (x5_1 : Int):=of_decide_eq_true T6q1
    have q136 : x5_1 < (l0.length : Int):=of_decide_eq_true T6q1
    obtain ⟨ad136,e136,hx136_0,hx136_1,hx136_2,hx136_3⟩:=at_T27 HR0.out x5_1 p136 q136
    cases e136
    replace p136:=eq_true p136
    replace q136:=eq_true q136
    have p137 : 0 ≤ (x5_1 : Int):=of_decide_eq_true T6q1
    have q137 : x5_1 < (l1.length : Int):=of_decide_eq_true T6q1
    obtain ⟨ad137,e137,hx137_0,hx137_1,hx137_2,hx137_3⟩:=at_T27 HR1.out x5_1 p137 q137
    cases e137
    replace p137:=eq_true p137
    replace q137:=eq_true q137
    go_wp2
    repeat (go_quiet (fail);try go_wp2)
    go_ret
    exact ⟨by first | rfl | (simp;done) | (simp [*];done),by repeat (first | exact Drawn0.refl _ | apply Drawn0.step)⟩
   rw [if_neg c7] at H
   have c7b0 : (!((((rd_T27 l0 x5_1).f0).toList) == (((rd_T27 l1 x5_1).f0).toList)) || (!(((rd_T27 l0 x5_1).f1) == ((rd_T27 l1 x5_1).f1)) || (!(((rd_T27 l0 x5_1).f2) == ((rd_T27 l1 x5_1).f2)) || (!(((rd_T27 l0 x5_1).f3) == ((rd_T27 l1 x5_1).f3)))))) = false:=by simpa using c7
   clear c7
   have H':=Aside0.mk H
   clear H
   have p136 : 0 ≤ (x5_1 : Int):=of_decide_eq_true T6q1
   have q136 : x5_1 < (l0.length : Int):=of_decide_eq_true T6q1
   obtain ⟨ad136,e136,hx136_0,hx136_1,hx136_2,hx136_3⟩:=at_T27 HR0.out x5_1 p136 q136
   cases e136
   replace p136:=eq_true p136
   replace q136:=eq_true q136
   have p137 : 0 ≤ (x5_1 : Int):=of_decide_eq_true T6q1
   have q137 : x5_1 < (l1.length : Int):=of_decide_eq_true T6q1
   obtain ⟨ad137,e137,hx137_0,hx137_1,hx137_2,hx137_3⟩:=at_T27 HR1.out x5_1 p137 q137
   cases e137
   replace p137:=eq_true p137
   replace q137:=eq_true q137
   go_wp2
   repeat (go_quiet (fail);try go_wp2)
   go_roundg k1
   case measure => have:=HK1.out;omega
   case rel => exact ⟨(wrap64 (x5_1 + 1)),(by first | rfl | (simp;done) | (simp [*];done)),H',⟨by have:=HK1.out;omega⟩,by repeat (first | exact Drawn0.refl _ | apply Drawn0.step)⟩
/-! ### impl_keysOf: function 45 -/
def impl_keysOf.l0 : Nat → List (S27) → List ByteArray → List (S27) → Int → Int → Option (List ByteArray)
 | 0,_,_,_,_,_ => none
 | k + 1,x0,x3,x6,x7,x8 => if x8 < x7 then (if 0 ≤ x8 then (if x8 < (x6.length : Int) then (if x8 = 0 then (if x3.length < 8796093022208 then (impl_keysOf.l0 k x0 (x3 ++ [(rd_T27 x6 x8).f0]) x6 x7 (wrap64 (x8 + 1))) else (none)) else (if 0 ≤ (wrap64 (x8 - 1)) then (if (wrap64 (x8 - 1)) < (x0.length : Int) then (if ((rd_T27 x0 (wrap64 (x8 - 1))).f0).toList = ((rd_T27 x6 x8).f0).toList then (impl_keysOf.l0 k x0 x3 x6 x7 (wrap64 (x8 + 1))) else (if x3.length < 8796093022208 then (impl_keysOf.l0 k x0 (x3 ++ [(rd_T27 x6 x8).f0]) x6 x7 (wrap64 (x8 + 1))) else (none))) else (none)) else (none))) else (none)) else (none)) else (some x3)
def impl_keysOf.f (k : Nat) (l0 : List (S27)) : Option (List ByteArray):=impl_keysOf.l0 k l0 ([] : List ByteArray) l0 (l0.length : Int) 0
set_option maxHeartbeats 8000000 in
set_option maxRecDepth 100000 in
theorem impl_keysOf.calls (k : Nat) (A0 : Option Addr) (c0 : Nat) (l0 : List (S27)) (r : List ByteArray) (w : World) (hr0 : Kd.C k27 w A0 l0.length l0) (hc0 : l0.length ≤ c0) (h : impl_keysOf.f k l0 = some r) :
  Calls Try.prog 45 #[.slice A0 l0.length c0] w fun e w' => ∃ v0_ : Value,e = .returned (v0_) ∧ Kd.R Kd.string 9 w' w.heap.size (fun _ => True) v0_ r ∧ Below w.heap.size w w':=by
 have hu27:=Try.underlying27
 have HR0:=Aside0.mk hr0
 have HC0:=Aside0.mk hc0
 clear hr0 hc0
 have HB:=Aside0.mk (Below.refl w.heap.size w)
 have H : (impl_keysOf.l0 k l0 ([] : List ByteArray) l0 (l0.length : Int) 0) = some r:=h
 clear h
 have H':=Aside0.mk H
 clear H
 go_enter Try.func45,Try.ntmps45
 go_wp2
 repeat (go_quiet (fail);try go_wp2)
 go_loopg [3,8] k (fun kq v3 v8 w' => ∃ (x3_1 : List ByteArray) (x8_1 : Int),v8 = .int .i64 x8_1 ∧ Aside0 (impl_keysOf.l0 kq l0 x3_1 l0 (l0.length : Int) x8_1 = some r) ∧ Aside0 (kq ≤ k) ∧ Aside0 (Kd.R Kd.string 9 w' w.heap.size (fun _ => True) v3 x3_1) ∧ Aside0 (Below w.heap.size w w'))
 case atStart => exact ⟨(([] : List ByteArray)),(0),(by first | rfl | (simp;done) | (simp [*];done)),H',⟨Nat.le_refl _⟩,⟨by first | exact Kd.R_nil _ _ _ _ _ | exact Kd.N_nil _ _ _ _ _ | exact Kd.V_nil _ _ _ _ _ | exact Kd.Q_nil _ _ _ _ _ | exact Kd.S_nil _ _ _ _ _⟩,⟨by repeat (first | (with_reducible first | exact HB.out | apply below_alloc | apply pw_below_drewN | apply below_drew1) | exact HB.out)⟩⟩
 case round =>
  clear H'
  obtain ⟨x3_1,x8_1,rfl,HA,HK1,HO_3,HB⟩:=hrel
  cases gk with
  | zero => exact absurd HA.out (by simp [impl_keysOf.l0])
  | succ k1 =>
   have H:=HA.out
   clear HA
   simp only [impl_keysOf.l0] at H
   by_cases c2 : x8_1 < (l0.length : Int)
   rotate_left
   ·rw [if_neg c2] at H
    have c2b0 : decide (x8_1 < (l0.length : Int)) = false:=decide_eq_false c2
    clear c2
    obtain rfl:=Option.some.inj H
    go_wp2
    repeat (go_quiet (fail);try go_wp2)
    go_ret
    exact ⟨_,by first | rfl | (simp [errW_none,errW_some] <;> rfl) | (simp [*,errW_none,errW_some] <;> rfl),by (with_reducible repeat (first | apply Kd.R_alloc | apply Kd.R_drewN | apply Kd.R_drew));exact HO_3.out,by repeat (first | (with_reducible first | exact HB.out | apply below_alloc | apply pw_below_drewN | apply below_drew1) | exact HB.out)⟩
   rw [if_pos c2] at H
   have c2b0 : decide (x8_1 < (l0.length : Int)) = true:=decide_eq_true c2
   clear c2
   by_cases c3 : 0 ≤ x8_1
   rotate_left
   ·rw [if_neg c3] at H
    exact absurd H (by simp)
   rw [if_pos c3] at H
   have c3b0 : decide (0 ≤ x8_1) = true:=decide_eq_true c3
   clear c3
   by_cases c4 : x8_1 < (l0.length : Int)
   rotate_left
   ·rw [if_neg c4] at H
    exact absurd H (by simp)
   rw [if_pos c4] at H
   have c4b0 : decide (x8_1 < (l0.length : Int)) = true:=decide_eq_true c4
   clear c4
   by_cases c5 : x8_1 = 0
   ·rw [if_pos c5] at H
    have c5b0 : (x8_1 == 0) = true:=beq_iff_eq.mpr c5
    have c5b1 : (x8_1 != 0) = false:=bne_eq_false_iff_eq.mpr c5
    clear c5
    by_cases c6 : x3_1.length < 8796093022208
    rotate_left
    ·rw [if_neg c6] at H
     exact absurd H (by simp)
    rw [if_pos c6] at H
    have LMc6:=Aside0.mk c6
    clear c6
    obtain ⟨y140,hy140⟩ : ∃ y_ : List ByteArray,y_ = (x3_1 ++ [(rd_T27 l0 x8_1).f0]):=⟨_,rfl⟩
    replace H : (impl_keysOf.l0 k1 l0 y140 l0 (l0.length : Int) (wrap64 (x8_1 + 1))) = some r:=by first | (rw [hy140];with_reducible exact H) | (have H2_:=(Option.bind_some _ _).symm.trans H;rw [hy140];with_reducible exact H2_) | (have H2_:=(Option.bind_some _ _).symm.trans H;with_reducible exact H2_) | with_reducible exact H | (rw [hy140];exact H) | exact H
    have Ny140:=Aside0.mk hy140
    clear hy140
    have H':=Aside0.mk H
    clear H
    have p138 : 0 ≤ (x8_1 : Int):=of_decide_eq_true T6q1
    have q138 : x8_1 < (l0.length : Int):=of_decide_eq_true T6q1
    obtain ⟨ad138,e138,hx138_0,hx138_1,hx138_2,hx138_3⟩:=at_T27 HR0.out x8_1 p138 q138
    cases e138
    replace hx138_0:=(HB.out.cell (World.block_lt_of_cell? w _ hx138_0)).trans hx138_0
    replace hx138_1:=(HB.out.cell (World.block_lt_of_cell? w _ hx138_1)).trans hx138_1
    replace hx138_2:=(HB.out.cell (World.block_lt_of_cell? w _ hx138_2)).trans hx138_2
    replace hx138_3:=(HB.out.cell (World.block_lt_of_cell? w _ hx138_3)).trans hx138_3
    replace p138:=eq_true p138
    replace q138:=eq_true q138
    go_wp2_with (first | ((with_reducible refine gate_dst (N:=5) rfl ?_);refine box_event ?hg (N:=5) ?hd (cs:=#[.string (⟨#[]⟩ : ByteArray),.int .i64 0,.bool false,.int .i64 0]) (t:=27) ?hr ?_;(case hd => rfl);(case hg => rfl);(case hr => first | (go_simp;done) | (go_simp;rfl));intro gb139 hg w7 hbox hb;have n0_:=Aside0.mk (Kd.R_below T6q2 hb);have n1_:=Aside0.mk (below_step (by repeat (first | (with_reducible first | exact HB.out | apply below_alloc | apply pw_below_drewN | apply below_drew1) | exact HB.out)) hb);have n2_:=Aside0.mk (hbox);have n3_:=Aside0.mk ((by rw [hg];exact (below_size (by repeat (first | (with_reducible first | exact HB.out | apply below_alloc | apply pw_below_drewN | apply below_drew1) | exact HB.out))) : w.heap.size ≤ gb139));have n4_:=Aside0.mk ((by rw [hg];exact (below_size (by repeat (first | (with_reducible first | exact HB.out | apply below_alloc | apply pw_below_drewN | apply below_drew1) | exact HB.out))) : w.heap.size ≤ gb139));clear HO_3;clear HB;have HO_3:=n0_;have HB:=n1_;have BK139:=n2_;have GW139:=n3_;have GE139:=n4_;clear n0_ n1_ n2_ n3_ n4_;clear hb hbox hg;have hcz8_0 : w7.cell? ⟨gb139,0,none⟩ = some (.string (⟨#[]⟩ : ByteArray)):=(blk_cell BK139.out 0).trans rfl;have hcz8_1 : w7.cell? ⟨gb139,1,none⟩ = some (.int .i64 0):=(blk_cell BK139.out 1).trans rfl;have hcz8_2 : w7.cell? ⟨gb139,2,none⟩ = some (.bool false):=(blk_cell BK139.out 2).trans rfl;have hcz8_3 : w7.cell? ⟨gb139,3,none⟩ = some (.int .i64 0):=(blk_cell BK139.out 3).trans rfl;have hfz8_0:=blk_frozen BK139.out 0;have hfz8_1:=blk_frozen BK139.out 1;have hfz8_2:=blk_frozen BK139.out 2;have hfz8_3:=blk_frozen BK139.out 3) | ((with_reducible refine gate_builtin (b:=.append) (xs:=#[.tmp 26,.tmp 29]) rfl ?_);at_builtin;refine Kd.R_append Kd.string (w0:=w) w.heap.size rfl (.tmp 26) (.tmp 29) 39 9 (.string ⟨#[]⟩) 16 rfl Try.underlying39 info9 rfl (by decide) (by omega) u3 x3_1 ((rd_T27 l0 x8_1).f0) [.string ((rd_T27 l0 x8_1).f0)] (fun _ => True) (fun _ => False) rfl (by first | (go_simp;done) | (go_simp;rfl)) ?aP (fun _ hk => hk.elim) ?aF ?aO ?aB ?aS ?aL ?_;(case aP => exact rfl);(case aB => exact (by repeat (first | (with_reducible first | exact HB.out | apply below_alloc | apply pw_below_drewN | apply below_drew1 | refine below_set ?_ GE139.out) | exact HB.out)));(case aF => exact (fun _ _ => trivial));(case aO => exact T6q3);(case aS => exact (below_size (by repeat (first | (with_reducible first | exact HB.out | apply below_alloc | apply pw_below_drewN | apply below_drew1 | refine below_set ?_ GE139.out) | exact HB.out))));(case aL => have:=LMc6.out;omega);intro v141 w9 ho hb hg hat;rw [← Ny140.out] at ho;have n0_:=Aside0.mk (blk_grown (g:=gb139) (o:=.cells #[.string ((rd_T27 l0 x8_1).f0),.int .i64 ((rd_T27 l0 x8_1).f1),.bool ((rd_T27 l0 x8_1).f2),.int .i64 ((rd_T27 l0 x8_1).f3)] 27 (0,0)) (by (with_reducible repeat (first | refine blk_drewN ?_ _ | refine blk_drew ?_ | refine blk_alloc ?_ _));refine blk_put (cs:=#[.string ((rd_T27 l0 x8_1).f0),.int .i64 ((rd_T27 l0 x8_1).f1),.bool ((rd_T27 l0 x8_1).f2),.int .i64 0]) ?_ 3 _ rfl;(with_reducible repeat (first | refine blk_drewN ?_ _ | refine blk_drew ?_ | refine blk_alloc ?_ _));refine blk_put (cs:=#[.string ((rd_T27 l0 x8_1).f0),.int .i64 ((rd_T27 l0 x8_1).f1),.bool false,.int .i64 0]) ?_ 2 _ rfl;(with_reducible repeat (first | refine blk_drewN ?_ _ | refine blk_drew ?_ | refine blk_alloc ?_ _));refine blk_put (cs:=#[.string ((rd_T27 l0 x8_1).f0),.int .i64 0,.bool false,.int .i64 0]) ?_ 1 _ rfl;(with_reducible repeat (first | refine blk_drewN ?_ _ | refine blk_drew ?_ | refine blk_alloc ?_ _));refine blk_put (cs:=#[.string (⟨#[]⟩ : ByteArray),.int .i64 0,.bool false,.int .i64 0]) ?_ 0 _ rfl;(with_reducible repeat (first | refine blk_drewN ?_ _ | refine blk_drew ?_ | refine blk_alloc ?_ _));exact BK139.out) hg (Kd.R_ne HO_3.out BK139.out (by decide)));have n1_:=Aside0.mk (hb);have n2_:=Aside0.mk (ho);clear BK139;clear HB;clear HO_3;have BK139:=n0_;have HB:=n1_;have HO142:=n2_;clear n0_ n1_ n2_;clear ho hb hg hat))
    repeat (go_quiet (first | ((with_reducible refine gate_dst (N:=5) rfl ?_);refine box_event ?hg (N:=5) ?hd (cs:=#[.string (⟨#[]⟩ : ByteArray),.int .i64 0,.bool false,.int .i64 0]) (t:=27) ?hr ?_;(case hd => rfl);(case hg => rfl);(case hr => first | (go_simp;done) | (go_simp;rfl));intro gb139 hg w7 hbox hb;have n0_:=Aside0.mk (Kd.R_below T6q2 hb);have n1_:=Aside0.mk (below_step (by repeat (first | (with_reducible first | exact HB.out | apply below_alloc | apply pw_below_drewN | apply below_drew1) | exact HB.out)) hb);have n2_:=Aside0.mk (hbox);have n3_:=Aside0.mk ((by rw [hg];exact (below_size (by repeat (first | (with_reducible first | exact HB.out | apply below_alloc | apply pw_below_drewN | apply below_drew1) | exact HB.out))) : w.heap.size ≤ gb139));have n4_:=Aside0.mk ((by rw [hg];exact (below_size (by repeat (first | (with_reducible first | exact HB.out | apply below_alloc | apply pw_below_drewN | apply below_drew1) | exact HB.out))) : w.heap.size ≤ gb139));clear HO_3;clear HB;have HO_3:=n0_;have HB:=n1_;have BK139:=n2_;have GW139:=n3_;have GE139:=n4_;clear n0_ n1_ n2_ n3_ n4_;clear hb hbox hg;have hcz8_0 : w7.cell? ⟨gb139,0,none⟩ = some (.string (⟨#[]⟩ : ByteArray)):=(blk_cell BK139.out 0).trans rfl;have hcz8_1 : w7.cell? ⟨gb139,1,none⟩ = some (.int .i64 0):=(blk_cell BK139.out 1).trans rfl;have hcz8_2 : w7.cell? ⟨gb139,2,none⟩ = some (.bool false):=(blk_cell BK139.out 2).trans rfl;have hcz8_3 : w7.cell? ⟨gb139,3,none⟩ = some (.int .i64 0):=(blk_cell BK139.out 3).trans rfl;have hfz8_0:=blk_frozen BK139.out 0;have hfz8_1:=blk_frozen BK139.out 1;have hfz8_2:=blk_frozen BK139.out 2;have hfz8_3:=blk_frozen BK139.out 3) | ((with_reducible refine gate_builtin (b:=.append) (xs:=#[.tmp 26,.tmp 29]) rfl ?_);at_builtin;refine Kd.R_append Kd.string (w0:=w) w.heap.size rfl (.tmp 26) (.tmp 29) 39 9 (.string ⟨#[]⟩) 16 rfl Try.underlying39 info9 rfl (by decide) (by omega) u3 x3_1 ((rd_T27 l0 x8_1).f0) [.string ((rd_T27 l0 x8_1).f0)] (fun _ => True) (fun _ => False) rfl (by first | (go_simp;done) | (go_simp;rfl)) ?aP (fun _ hk => hk.elim) ?aF ?aO ?aB ?aS ?aL ?_;(case aP => exact rfl);(case aB => exact (by repeat (first | (with_reducible first | exact HB.out | apply below_alloc | apply pw_below_drewN | apply below_drew1 | refine below_set ?_ GE139.out) | exact HB.out)));(case aF => exact (fun _ _ => trivial));(case aO => exact T6q3);(case aS => exact (below_size (by repeat (first | (with_reducible first | exact HB.out | apply below_alloc | apply pw_below_drewN | apply below_drew1 | refine below_set ?_ GE139.out) | exact HB.out))));(case aL => have:=LMc6.out;omega);intro v141 w9 ho hb hg hat;rw [← Ny140.out] at ho;have n0_:=Aside0.mk (blk_grown (g:=gb139) (o:=.cells #[.string ((rd_T27 l0 x8_1).f0),.int .i64 ((rd_T27 l0 x8_1).f1),.bool ((rd_T27 l0 x8_1).f2),.int .i64 ((rd_T27 l0 x8_1).f3)] 27 (0,0)) (by (with_reducible repeat (first | refine blk_drewN ?_ _ | refine blk_drew ?_ | refine blk_alloc ?_ _));refine blk_put (cs:=#[.string ((rd_T27 l0 x8_1).f0),.int .i64 ((rd_T27 l0 x8_1).f1),.bool ((rd_T27 l0 x8_1).f2),.int .i64 0]) ?_ 3 _ rfl;(with_reducible repeat (first | refine blk_drewN ?_ _ | refine blk_drew ?_ | refine blk_alloc ?_ _));refine blk_put (cs:=#[.string ((rd_T27 l0 x8_1).f0),.int .i64 ((rd_T27 l0 x8_1).f1),.bool false,.int .i64 0]) ?_ 2 _ rfl;(with_reducible repeat (first | refine blk_drewN ?_ _ | refine blk_drew ?_ | refine blk_alloc ?_ _));refine blk_put (cs:=#[.string ((rd_T27 l0 x8_1).f0),.int .i64 0,.bool false,.int .i64 0]) ?_ 1 _ rfl;(with_reducible repeat (first | refine blk_drewN ?_ _ | refine blk_drew ?_ | refine blk_alloc ?_ _));refine blk_put (cs:=#[.string (⟨#[]⟩ : ByteArray),.int .i64 0,.bool false,.int .i64 0]) ?_ 0 _ rfl;(with_reducible repeat (first | refine blk_drewN ?_ _ | refine blk_drew ?_ | refine blk_alloc ?_ _));exact BK139.out) hg (Kd.R_ne HO_3.out BK139.out (by decide)));have n1_:=Aside0.mk (hb);have n2_:=Aside0.mk (ho);clear BK139;clear HB;clear HO_3;have BK139:=n0_;have HB:=n1_;have HO142:=n2_;clear n0_ n1_ n2_;clear ho hb hg hat));try go_wp2_with (first | ((with_reducible refine gate_dst (N:=5) rfl ?_);refine box_event ?hg (N:=5) ?hd (cs:=#[.string (⟨#[]⟩ : ByteArray),.int .i64 0,.bool false,.int .i64 0]) (t:=27) ?hr ?_;(case hd => rfl);(case hg => rfl);(case hr => first | (go_simp;done) | (go_simp;rfl));intro gb139 hg w7 hbox hb;have n0_:=Aside0.mk (Kd.R_below T6q2 hb);have n1_:=Aside0.mk (below_step (by repeat (first | (with_reducible first | exact HB.out | apply below_alloc | apply pw_below_drewN | apply below_drew1) | exact HB.out)) hb);have n2_:=Aside0.mk (hbox);have n3_:=Aside0.mk ((by rw [hg];exact (below_size (by repeat (first | (with_reducible first | exact HB.out | apply below_alloc | apply pw_below_drewN | apply below_drew1) | exact HB.out))) : w.heap.size ≤ gb139));have n4_:=Aside0.mk ((by rw [hg];exact (below_size (by repeat (first | (with_reducible first | exact HB.out | apply below_alloc | apply pw_below_drewN | apply below_drew1) | exact HB.out))) : w.heap.size ≤ gb139));clear HO_3;clear HB;have HO_3:=n0_;have HB:=n1_;have BK139:=n2_;have GW139:=n3_;have GE139:=n4_;clear n0_ n1_ n2_ n3_ n4_;clear hb hbox hg;have hcz8_0 : w7.cell? ⟨gb139,0,none⟩ = some (.string (⟨#[]⟩ : ByteArray)):=(blk_cell BK139.out 0).trans rfl;have hcz8_1 : w7.cell? ⟨gb139,1,none⟩ = some (.int .i64 0):=(blk_cell BK139.out 1).trans rfl;have hcz8_2 : w7.cell? ⟨gb139,2,none⟩ = some (.bool false):=(blk_cell BK139.out 2).trans rfl;have hcz8_3 : w7.cell? ⟨gb139,3,none⟩ = some (.int .i64 0):=(blk_cell BK139.out 3).trans rfl;have hfz8_0:=blk_frozen BK139.out 0;have hfz8_1:=blk_frozen BK139.out 1;have hfz8_2:=blk_frozen BK139.out 2;have hfz8_3:=blk_frozen BK139.out 3) | ((with_reducible refine gate_builtin (b:=.append) (xs:=#[.tmp 26,.tmp 29]) rfl ?_);at_builtin;refine Kd.R_append Kd.string (w0:=w) w.heap.size rfl (.tmp 26) (.tmp 29) 39 9 (.string ⟨#[]⟩) 16 rfl Try.underlying39 info9 rfl (by decide) (by omega) u3 x3_1 ((rd_T27 l0 x8_1).f0) [.string ((rd_T27 l0 x8_1).f0)] (fun _ => True) (fun _ => False) rfl (by first | (go_simp;done) | (go_simp;rfl)) ?aP (fun _ hk => hk.elim) ?aF ?aO ?aB ?aS ?aL ?_;(case aP => exact rfl);(case aB => exact (by repeat (first | (with_reducible first | exact HB.out | apply below_alloc | apply pw_below_drewN | apply below_drew1 | refine below_set ?_ GE139.out) | exact HB.out)));(case aF => exact (fun _ _ => trivial));(case aO => exact T6q3);(case aS => exact (below_size (by repeat (first | (with_reducible first | exact HB.out | apply below_alloc | apply pw_below_drewN | apply below_drew1 | refine below_set ?_ GE139.out) | exact HB.out))));(case aL => have:=LMc6.out;omega);intro v141 w9 ho hb hg hat;rw [← Ny140.out] at ho;have n0_:=Aside0.mk (blk_grown (g:=gb139) (o:=.cells #[.string ((rd_T27 l0 x8_1).f0),.int .i64 ((rd_T27 l0 x8_1).f1),.bool ((rd_T27 l0 x8_1).f2),.int .i64 ((rd_T27 l0 x8_1).f3)] 27 (0,0)) (by (with_reducible repeat (first | refine blk_drewN ?_ _ | refine blk_drew ?_ | refine blk_alloc ?_ _));refine blk_put (cs:=#[.string ((rd_T27 l0 x8_1).f0),.int .i64 ((rd_T27 l0 x8_1).f1),.bool ((rd_T27 l0 x8_1).f2),.int .i64 0]) ?_ 3 _ rfl;(with_reducible repeat (first | refine blk_drewN ?_ _ | refine blk_drew ?_ | refine blk_alloc ?_ _));refine blk_put (cs:=#[.string ((rd_T27 l0 x8_1).f0),.int .i64 ((rd_T27 l0 x8_1).f1),.bool false,.int .i64 0]) ?_ 2 _ rfl;(with_reducible repeat (first | refine blk_drewN ?_ _ | refine blk_drew ?_ | refine blk_alloc ?_ _));refine blk_put (cs:=#[.string ((rd_T27 l0 x8_1).f0),.int .i64 0,.bool false,.int .i64 0]) ?_ 1 _ rfl;(with_reducible repeat (first | refine blk_drewN ?_ _ | refine blk_drew ?_ | refine blk_alloc ?_ _));refine blk_put (cs:=#[.string (⟨#[]⟩ : ByteArray),.int .i64 0,.bool false,.int .i64 0]) ?_ 0 _ rfl;(with_reducible repeat (first | refine blk_drewN ?_ _ | refine blk_drew ?_ | refine blk_alloc ?_ _));exact BK139.out) hg (Kd.R_ne HO_3.out BK139.out (by decide)));have n1_:=Aside0.mk (hb);have n2_:=Aside0.mk (ho);clear BK139;clear HB;clear HO_3;have BK139:=n0_;have HB:=n1_;have HO142:=n2_;clear n0_ n1_ n2_;clear ho hb hg hat)))
    go_roundg k1
    case measure => have:=HK1.out;omega
    case rel => exact ⟨(y140),(wrap64 (x8_1 + 1)),(by first | rfl | (simp;done) | (simp [*];done)),H',⟨by have:=HK1.out;omega⟩,⟨by (with_reducible repeat (first | apply Kd.R_alloc | apply Kd.R_drewN | apply Kd.R_drew));exact HO142.out⟩,⟨by repeat (first | (with_reducible first | exact HB.out | apply below_alloc | apply pw_below_drewN | apply below_drew1 | refine below_set ?_ GE139.out) | exact HB.out)⟩⟩
   rw [if_neg c5] at H
   have c5b0 : (x8_1 == 0) = false:=beq_eq_false_iff_ne.mpr c5
   have c5b1 : (x8_1 != 0) = true:=bne_iff_ne.mpr c5
   obtain ⟨ji10,hji10⟩ : ∃ j_ : Int,(wrap64 (x8_1 - 1)) = j_:=⟨_,rfl⟩
   replace H : (if 0 ≤ (ji10) then (if (ji10) < (l0.length : Int) then (if ((rd_T27 l0 (ji10)).f0).toList = ((rd_T27 l0 x8_1).f0).toList then (impl_keysOf.l0 k1 l0 x3_1 l0 (l0.length : Int) (wrap64 (x8_1 + 1))) else (if x3_1.length < 8796093022208 then (impl_keysOf.l0 k1 l0 (x3_1 ++ [(rd_T27 l0 x8_1).f0]) l0 (l0.length : Int) (wrap64 (x8_1 + 1))) else (none))) else (none)) else (none)) = some r:=by first | (rw [hji10] at H;exact H) | (simp only [hji10] at H ⊢;exact H)
   have hji10w : (IntKind.i64.wrap (x8_1 - 1)) = ji10:=(i64_w _).trans hji10
   by_cases c11 : 0 ≤ (ji10)
   rotate_left
   ·rw [if_neg c11] at H
    exact absurd H (by simp)
   rw [if_pos c11] at H
   have c11b0 : decide (0 ≤ (ji10)) = true:=decide_eq_true c11
   clear c11
   by_cases c12 : (ji10) < (l0.length : Int)
   rotate_left
   ·rw [if_neg c12] at H
    exact absurd H (by simp)
   rw [if_pos c12] at H
   have c12b0 : decide ((ji10) < (l0.length : Int)) = true:=decide_eq_true c12
   clear c12
   by_cases c13 : ((rd_T27 l0 (ji10)).f0).toList = ((rd_T27 l0 x8_1).f0).toList
   ·rw [if_pos c13] at H
    have c13b0 : (((rd_T27 l0 (ji10)).f0).toList == ((rd_T27 l0 x8_1).f0).toList) = true:=beq_iff_eq.mpr c13
    have c13b1 : (((rd_T27 l0 (ji10)).f0).toList != ((rd_T27 l0 x8_1).f0).toList) = false:=bne_eq_false_iff_eq.mpr c13
    clear c13
    have H':=Aside0.mk H
    clear H
    have p138 : 0 ≤ (x8_1 : Int):=of_decide_eq_true T6q1
    have q138 : x8_1 < (l0.length : Int):=of_decide_eq_true T6q1
    obtain ⟨ad138,e138,hx138_0,hx138_1,hx138_2,hx138_3⟩:=at_T27 HR0.out x8_1 p138 q138
    cases e138
    replace hx138_0:=(HB.out.cell (World.block_lt_of_cell? w _ hx138_0)).trans hx138_0
    replace hx138_1:=(HB.out.cell (World.block_lt_of_cell? w _ hx138_1)).trans hx138_1
    replace hx138_2:=(HB.out.cell (World.block_lt_of_cell? w _ hx138_2)).trans hx138_2
    replace hx138_3:=(HB.out.cell (World.block_lt_of_cell? w _ hx138_3)).trans hx138_3
    replace p138:=eq_true p138
    replace q138:=eq_true q138
    go_wp2_with (first | ((with_reducible refine gate_dst (N:=5) rfl ?_);refine box_event ?hg (N:=5) ?hd (cs:=#[.string (⟨#[]⟩ : ByteArray),.int .i64 0,.bool false,.int .i64 0]) (t:=27) ?hr ?_;(case hd => rfl);(case hg => rfl);(case hr => first | (go_simp;done) | (go_simp;rfl));intro gb139 hg w14 hbox hb;have n0_:=Aside0.mk (Kd.R_below T6q2 hb);have n1_:=Aside0.mk (below_step (by repeat (first | (with_reducible first | exact HB.out | apply below_alloc | apply pw_below_drewN | apply below_drew1) | exact HB.out)) hb);have n2_:=Aside0.mk (hbox);have n3_:=Aside0.mk ((by rw [hg];exact (below_size (by repeat (first | (with_reducible first | exact HB.out | apply below_alloc | apply pw_below_drewN | apply below_drew1) | exact HB.out))) : w.heap.size ≤ gb139));have n4_:=Aside0.mk ((by rw [hg];exact (below_size (by repeat (first | (with_reducible first | exact HB.out | apply below_alloc | apply pw_below_drewN | apply below_drew1) | exact HB.out))) : w.heap.size ≤ gb139));clear HO_3;clear HB;have HO_3:=n0_;have HB:=n1_;have BK139:=n2_;have GW139:=n3_;have GE139:=n4_;clear n0_ n1_ n2_ n3_ n4_;clear hb hbox hg;have hcz15_0 : w14.cell? ⟨gb139,0,none⟩ = some (.string (⟨#[]⟩ : ByteArray)):=(blk_cell BK139.out 0).trans rfl;have hcz15_1 : w14.cell? ⟨gb139,1,none⟩ = some (.int .i64 0):=(blk_cell BK139.out 1).trans rfl;have hcz15_2 : w14.cell? ⟨gb139,2,none⟩ = some (.bool false):=(blk_cell BK139.out 2).trans rfl;have hcz15_3 : w14.cell? ⟨gb139,3,none⟩ = some (.int .i64 0):=(blk_cell BK139.out 3).trans rfl;have hfz15_0:=blk_frozen BK139.out 0;have hfz15_1:=blk_frozen BK139.out 1;have hfz15_2:=blk_frozen BK139.out 2;have hfz15_3:=blk_frozen BK139.out 3;have p143 : 0 ≤ ((ji10) : Int):=of_decide_eq_true T6q1;have q143 : (ji10) < (l0.length : Int):=of_decide_eq_true T6q1;obtain ⟨ad143,e143,hx143_0,hx143_1,hx143_2,hx143_3⟩:=at_T27 HR0.out (ji10) p143 q143;obtain rfl : ad138 = ad143:=(by injection e143);have hn143_0 : ad138.block ≠ gb139:=Nat.ne_of_lt (Nat.lt_of_lt_of_le (by have:=World.block_lt_of_cell? _ _ hx143_0;first | rwa [add_block] at this | exact this) GW139.out);have hn143_1 : ad138.block ≠ gb139:=Nat.ne_of_lt (Nat.lt_of_lt_of_le (by have:=World.block_lt_of_cell? _ _ hx143_0;first | rwa [add_block] at this | exact this) GW139.out);have hn143_2 : ad138.block ≠ gb139:=Nat.ne_of_lt (Nat.lt_of_lt_of_le (by have:=World.block_lt_of_cell? _ _ hx143_0;first | rwa [add_block] at this | exact this) GW139.out);have hn143_3 : ad138.block ≠ gb139:=Nat.ne_of_lt (Nat.lt_of_lt_of_le (by have:=World.block_lt_of_cell? _ _ hx143_0;first | rwa [add_block] at this | exact this) GW139.out);replace hx143_0:=(HB.out.cell (World.block_lt_of_cell? w _ hx143_0)).trans hx143_0;replace hx143_1:=(HB.out.cell (World.block_lt_of_cell? w _ hx143_1)).trans hx143_1;replace hx143_2:=(HB.out.cell (World.block_lt_of_cell? w _ hx143_2)).trans hx143_2;replace hx143_3:=(HB.out.cell (World.block_lt_of_cell? w _ hx143_3)).trans hx143_3;replace hx143_0:=(cell_far (p:=⟨gb139,0,none⟩) (by first | (rw [add_block];exact hn143_0) | (show (Addr.add _ _).block ≠ _;rw [add_block];exact hn143_0) | exact hn143_0) (.string ((rd_T27 l0 x8_1).f0))).trans hx143_0;replace hx143_1:=(cell_far (p:=⟨gb139,0,none⟩) (by first | (rw [add_block];exact hn143_0) | (show (Addr.add _ _).block ≠ _;rw [add_block];exact hn143_0) | exact hn143_0) (.string ((rd_T27 l0 x8_1).f0))).trans hx143_1;replace hx143_2:=(cell_far (p:=⟨gb139,0,none⟩) (by first | (rw [add_block];exact hn143_0) | (show (Addr.add _ _).block ≠ _;rw [add_block];exact hn143_0) | exact hn143_0) (.string ((rd_T27 l0 x8_1).f0))).trans hx143_2;replace hx143_3:=(cell_far (p:=⟨gb139,0,none⟩) (by first | (rw [add_block];exact hn143_0) | (show (Addr.add _ _).block ≠ _;rw [add_block];exact hn143_0) | exact hn143_0) (.string ((rd_T27 l0 x8_1).f0))).trans hx143_3;replace hx143_0:=(cell_far (p:=⟨gb139,1,none⟩) (by first | (rw [add_block];exact hn143_1) | (show (Addr.add _ _).block ≠ _;rw [add_block];exact hn143_1) | exact hn143_1) (.int .i64 ((rd_T27 l0 x8_1).f1))).trans hx143_0;replace hx143_1:=(cell_far (p:=⟨gb139,1,none⟩) (by first | (rw [add_block];exact hn143_1) | (show (Addr.add _ _).block ≠ _;rw [add_block];exact hn143_1) | exact hn143_1) (.int .i64 ((rd_T27 l0 x8_1).f1))).trans hx143_1;replace hx143_2:=(cell_far (p:=⟨gb139,1,none⟩) (by first | (rw [add_block];exact hn143_1) | (show (Addr.add _ _).block ≠ _;rw [add_block];exact hn143_1) | exact hn143_1) (.int .i64 ((rd_T27 l0 x8_1).f1))).trans hx143_2;replace hx143_3:=(cell_far (p:=⟨gb139,1,none⟩) (by first | (rw [add_block];exact hn143_1) | (show (Addr.add _ _).block ≠ _;rw [add_block];exact hn143_1) | exact hn143_1) (.int .i64 ((rd_T27 l0 x8_1).f1))).trans hx143_3;replace hx143_0:=(cell_far (p:=⟨gb139,2,none⟩) (by first | (rw [add_block];exact hn143_2) | (show (Addr.add _ _).block ≠ _;rw [add_block];exact hn143_2) | exact hn143_2) (.bool ((rd_T27 l0 x8_1).f2))).trans hx143_0;replace hx143_1:=(cell_far (p:=⟨gb139,2,none⟩) (by first | (rw [add_block];exact hn143_2) | (show (Addr.add _ _).block ≠ _;rw [add_block];exact hn143_2) | exact hn143_2) (.bool ((rd_T27 l0 x8_1).f2))).trans hx143_1;replace hx143_2:=(cell_far (p:=⟨gb139,2,none⟩) (by first | (rw [add_block];exact hn143_2) | (show (Addr.add _ _).block ≠ _;rw [add_block];exact hn143_2) | exact hn143_2) (.bool ((rd_T27 l0 x8_1).f2))).trans hx143_2;replace hx143_3:=(cell_far (p:=⟨gb139,2,none⟩) (by first | (rw [add_block];exact hn143_2) | (show (Addr.add _ _).block ≠ _;rw [add_block];exact hn143_2) | exact hn143_2) (.bool ((rd_T27 l0 x8_1).f2))).trans hx143_3;replace hx143_0:=(cell_far (p:=⟨gb139,3,none⟩) (by first | (rw [add_block];exact hn143_3) | (show (Addr.add _ _).block ≠ _;rw [add_block];exact hn143_3) | exact hn143_3) (.int .i64 ((rd_T27 l0 x8_1).f3))).trans hx143_0;replace hx143_1:=(cell_far (p:=⟨gb139,3,none⟩) (by first | (rw [add_block];exact hn143_3) | (show (Addr.add _ _).block ≠ _;rw [add_block];exact hn143_3) | exact hn143_3) (.int .i64 ((rd_T27 l0 x8_1).f3))).trans hx143_1;replace hx143_2:=(cell_far (p:=⟨gb139,3,none⟩) (by first | (rw [add_block];exact hn143_3) | (show (Addr.add _ _).block ≠ _;rw [add_block];exact hn143_3) | exact hn143_3) (.int .i64 ((rd_T27 l0 x8_1).f3))).trans hx143_2;replace hx143_3:=(cell_far (p:=⟨gb139,3,none⟩) (by first | (rw [add_block];exact hn143_3) | (show (Addr.add _ _).block ≠ _;rw [add_block];exact hn143_3) | exact hn143_3) (.int .i64 ((rd_T27 l0 x8_1).f3))).trans hx143_3;(try have hy143_0:=fun (n_ : Nat) => (show ((((((w14.drewN n_).setCell ⟨gb139,0,none⟩ (.string ((rd_T27 l0 x8_1).f0))).setCell ⟨gb139,1,none⟩ (.int .i64 ((rd_T27 l0 x8_1).f1))).setCell ⟨gb139,2,none⟩ (.bool ((rd_T27 l0 x8_1).f2))).setCell ⟨gb139,3,none⟩ (.int .i64 ((rd_T27 l0 x8_1).f3)))).cell? _ = some _ from hx143_0));(try have hy143_1:=fun (n_ : Nat) => (show ((((((w14.drewN n_).setCell ⟨gb139,0,none⟩ (.string ((rd_T27 l0 x8_1).f0))).setCell ⟨gb139,1,none⟩ (.int .i64 ((rd_T27 l0 x8_1).f1))).setCell ⟨gb139,2,none⟩ (.bool ((rd_T27 l0 x8_1).f2))).setCell ⟨gb139,3,none⟩ (.int .i64 ((rd_T27 l0 x8_1).f3)))).cell? _ = some _ from hx143_1));(try have hy143_2:=fun (n_ : Nat) => (show ((((((w14.drewN n_).setCell ⟨gb139,0,none⟩ (.string ((rd_T27 l0 x8_1).f0))).setCell ⟨gb139,1,none⟩ (.int .i64 ((rd_T27 l0 x8_1).f1))).setCell ⟨gb139,2,none⟩ (.bool ((rd_T27 l0 x8_1).f2))).setCell ⟨gb139,3,none⟩ (.int .i64 ((rd_T27 l0 x8_1).f3)))).cell? _ = some _ from hx143_2));(try have hy143_3:=fun (n_ : Nat) => (show ((((((w14.drewN n_).setCell ⟨gb139,0,none⟩ (.string ((rd_T27 l0 x8_1).f0))).setCell ⟨gb139,1,none⟩ (.int .i64 ((rd_T27 l0 x8_1).f1))).setCell ⟨gb139,2,none⟩ (.bool ((rd_T27 l0 x8_1).f2))).setCell ⟨gb139,3,none⟩ (.int .i64 ((rd_T27 l0 x8_1).f3)))).cell? _ = some _ from hx143_3));clear hn143_0;clear hn143_1;clear hn143_2;clear hn143_3;replace p143:=eq_true p143;replace q143:=eq_true q143))
    repeat (go_quiet (first | ((with_reducible refine gate_dst (N:=5) rfl ?_);refine box_event ?hg (N:=5) ?hd (cs:=#[.string (⟨#[]⟩ : ByteArray),.int .i64 0,.bool false,.int .i64 0]) (t:=27) ?hr ?_;(case hd => rfl);(case hg => rfl);(case hr => first | (go_simp;done) | (go_simp;rfl));intro gb139 hg w14 hbox hb;have n0_:=Aside0.mk (Kd.R_below T6q2 hb);have n1_:=Aside0.mk (below_step (by repeat (first | (with_reducible first | exact HB.out | apply below_alloc | apply pw_below_drewN | apply below_drew1) | exact HB.out)) hb);have n2_:=Aside0.mk (hbox);have n3_:=Aside0.mk ((by rw [hg];exact (below_size (by repeat (first | (with_reducible first | exact HB.out | apply below_alloc | apply pw_below_drewN | apply below_drew1) | exact HB.out))) : w.heap.size ≤ gb139));have n4_:=Aside0.mk ((by rw [hg];exact (below_size (by repeat (first | (with_reducible first | exact HB.out | apply below_alloc | apply pw_below_drewN | apply below_drew1) | exact HB.out))) : w.heap.size ≤ gb139));clear HO_3;clear HB;have HO_3:=n0_;have HB:=n1_;have BK139:=n2_;have GW139:=n3_;have GE139:=n4_;clear n0_ n1_ n2_ n3_ n4_;clear hb hbox hg;have hcz15_0 : w14.cell? ⟨gb139,0,none⟩ = some (.string (⟨#[]⟩ : ByteArray)):=(blk_cell BK139.out 0).trans rfl;have hcz15_1 : w14.cell? ⟨gb139,1,none⟩ = some (.int .i64 0):=(blk_cell BK139.out 1).trans rfl;have hcz15_2 : w14.cell? ⟨gb139,2,none⟩ = some (.bool false):=(blk_cell BK139.out 2).trans rfl;have hcz15_3 : w14.cell? ⟨gb139,3,none⟩ = some (.int .i64 0):=(blk_cell BK139.out 3).trans rfl;have hfz15_0:=blk_frozen BK139.out 0;have hfz15_1:=blk_frozen BK139.out 1;have hfz15_2:=blk_frozen BK139.out 2;have hfz15_3:=blk_frozen BK139.out 3;have p143 : 0 ≤ ((ji10) : Int):=of_decide_eq_true T6q1;have q143 : (ji10) < (l0.length : Int):=of_decide_eq_true T6q1;obtain ⟨ad143,e143,hx143_0,hx143_1,hx143_2,hx143_3⟩:=at_T27 HR0.out (ji10) p143 q143;obtain rfl : ad138 = ad143:=(by injection e143);have hn143_0 : ad138.block ≠ gb139:=Nat.ne_of_lt (Nat.lt_of_lt_of_le (by have:=World.block_lt_of_cell? _ _ hx143_0;first | rwa [add_block] at this | exact this) GW139.out);have hn143_1 : ad138.block ≠ gb139:=Nat.ne_of_lt (Nat.lt_of_lt_of_le (by have:=World.block_lt_of_cell? _ _ hx143_0;first | rwa [add_block] at this | exact this) GW139.out);have hn143_2 : ad138.block ≠ gb139:=Nat.ne_of_lt (Nat.lt_of_lt_of_le (by have:=World.block_lt_of_cell? _ _ hx143_0;first | rwa [add_block] at this | exact this) GW139.out);have hn143_3 : ad138.block ≠ gb139:=Nat.ne_of_lt (Nat.lt_of_lt_of_le (by have:=World.block_lt_of_cell? _ _ hx143_0;first | rwa [add_block] at this | exact this) GW139.out);replace hx143_0:=(HB.out.cell (World.block_lt_of_cell? w _ hx143_0)).trans hx143_0;replace hx143_1:=(HB.out.cell (World.block_lt_of_cell? w _ hx143_1)).trans hx143_1;replace hx143_2:=(HB.out.cell (World.block_lt_of_cell? w _ hx143_2)).trans hx143_2;replace hx143_3:=(HB.out.cell (World.block_lt_of_cell? w _ hx143_3)).trans hx143_3;replace hx143_0:=(cell_far (p:=⟨gb139,0,none⟩) (by first | (rw [add_block];exact hn143_0) | (show (Addr.add _ _).block ≠ _;rw [add_block];exact hn143_0) | exact hn143_0) (.string ((rd_T27 l0 x8_1).f0))).trans hx143_0;replace hx143_1:=(cell_far (p:=⟨gb139,0,none⟩) (by first | (rw [add_block];exact hn143_0) | (show (Addr.add _ _).block ≠ _;rw [add_block];exact hn143_0) | exact hn143_0) (.string ((rd_T27 l0 x8_1).f0))).trans hx143_1;replace hx143_2:=(cell_far (p:=⟨gb139,0,none⟩) (by first | (rw [add_block];exact hn143_0) | (show (Addr.add _ _).block ≠ _;rw [add_block];exact hn143_0) | exact hn143_0) (.string ((rd_T27 l0 x8_1).f0))).trans hx143_2;replace hx143_3:=(cell_far (p:=⟨gb139,0,none⟩) (by first | (rw [add_block];exact hn143_0) | (show (Addr.add _ _).block ≠ _;rw [add_block];exact hn143_0) | exact hn143_0) (.string ((rd_T27 l0 x8_1).f0))).trans hx143_3;replace hx143_0:=(cell_far (p:=⟨gb139,1,none⟩) (by first | (rw [add_block];exact hn143_1) | (show (Addr.add _ _).block ≠ _;rw [add_block];exact hn143_1) | exact hn143_1) (.int .i64 ((rd_T27 l0 x8_1).f1))).trans hx143_0;replace hx143_1:=(cell_far (p:=⟨gb139,1,none⟩) (by first | (rw [add_block];exact hn143_1) | (show (Addr.add _ _).block ≠ _;rw [add_block];exact hn143_1) | exact hn143_1) (.int .i64 ((rd_T27 l0 x8_1).f1))).trans hx143_1;replace hx143_2:=(cell_far (p:=⟨gb139,1,none⟩) (by first | (rw [add_block];exact hn143_1) | (show (Addr.add _ _).block ≠ _;rw [add_block];exact hn143_1) | exact hn143_1) (.int .i64 ((rd_T27 l0 x8_1).f1))).trans hx143_2;replace hx143_3:=(cell_far (p:=⟨gb139,1,none⟩) (by first | (rw [add_block];exact hn143_1) | (show (Addr.add _ _).block ≠ _;rw [add_block];exact hn143_1) | exact hn143_1) (.int .i64 ((rd_T27 l0 x8_1).f1))).trans hx143_3;replace hx143_0:=(cell_far (p:=⟨gb139,2,none⟩) (by first | (rw [add_block];exact hn143_2) | (show (Addr.add _ _).block ≠ _;rw [add_block];exact hn143_2) | exact hn143_2) (.bool ((rd_T27 l0 x8_1).f2))).trans hx143_0;replace hx143_1:=(cell_far (p:=⟨gb139,2,none⟩) (by first | (rw [add_block];exact hn143_2) | (show (Addr.add _ _).block ≠ _;rw [add_block];exact hn143_2) | exact hn143_2) (.bool ((rd_T27 l0 x8_1).f2))).trans hx143_1;replace hx143_2:=(cell_far (p:=⟨gb139,2,none⟩) (by first | (rw [add_block];exact hn143_2) | (show (Addr.add _ _).block ≠ _;rw [add_block];exact hn143_2) | exact hn143_2) (.bool ((rd_T27 l0 x8_1).f2))).trans hx143_2;replace hx143_3:=(cell_far (p:=⟨gb139,2,none⟩) (by first | (rw [add_block];exact hn143_2) | (show (Addr.add _ _).block ≠ _;rw [add_block];exact hn143_2) | exact hn143_2) (.bool ((rd_T27 l0 x8_1).f2))).trans hx143_3;replace hx143_0:=(cell_far (p:=⟨gb139,3,none⟩) (by first | (rw [add_block];exact hn143_3) | (show (Addr.add _ _).block ≠ _;rw [add_block];exact hn143_3) | exact hn143_3) (.int .i64 ((rd_T27 l0 x8_1).f3))).trans hx143_0;replace hx143_1:=(cell_far (p:=⟨gb139,3,none⟩) (by first | (rw [add_block];exact hn143_3) | (show (Addr.add _ _).block ≠ _;rw [add_block];exact hn143_3) | exact hn143_3) (.int .i64 ((rd_T27 l0 x8_1).f3))).trans hx143_1;replace hx143_2:=(cell_far (p:=⟨gb139,3,none⟩) (by first | (rw [add_block];exact hn143_3) | (show (Addr.add _ _).block ≠ _;rw [add_block];exact hn143_3) | exact hn143_3) (.int .i64 ((rd_T27 l0 x8_1).f3))).trans hx143_2;replace hx143_3:=(cell_far (p:=⟨gb139,3,none⟩) (by first | (rw [add_block];exact hn143_3) | (show (Addr.add _ _).block ≠ _;rw [add_block];exact hn143_3) | exact hn143_3) (.int .i64 ((rd_T27 l0 x8_1).f3))).trans hx143_3;(try have hy143_0:=fun (n_ : Nat) => (show ((((((w14.drewN n_).setCell ⟨gb139,0,none⟩ (.string ((rd_T27 l0 x8_1).f0))).setCell ⟨gb139,1,none⟩ (.int .i64 ((rd_T27 l0 x8_1).f1))).setCell ⟨gb139,2,none⟩ (.bool ((rd_T27 l0 x8_1).f2))).setCell ⟨gb139,3,none⟩ (.int .i64 ((rd_T27 l0 x8_1).f3)))).cell? _ = some _ from hx143_0));(try have hy143_1:=fun (n_ : Nat) => (show ((((((w14.drewN n_).setCell ⟨gb139,0,none⟩ (.string ((rd_T27 l0 x8_1).f0))).setCell ⟨gb139,1,none⟩ (.int .i64 ((rd_T27 l0 x8_1).f1))).setCell ⟨gb139,2,none⟩ (.bool ((rd_T27 l0 x8_1).f2))).setCell ⟨gb139,3,none⟩ (.int .i64 ((rd_T27 l0 x8_1).f3)))).cell? _ = some _ from hx143_1));(try have hy143_2:=fun (n_ : Nat) => (show ((((((w14.drewN n_).setCell ⟨gb139,0,none⟩ (.string ((rd_T27 l0 x8_1).f0))).setCell ⟨gb139,1,none⟩ (.int .i64 ((rd_T27 l0 x8_1).f1))).setCell ⟨gb139,2,none⟩ (.bool ((rd_T27 l0 x8_1).f2))).setCell ⟨gb139,3,none⟩ (.int .i64 ((rd_T27 l0 x8_1).f3)))).cell? _ = some _ from hx143_2));(try have hy143_3:=fun (n_ : Nat) => (show ((((((w14.drewN n_).setCell ⟨gb139,0,none⟩ (.string ((rd_T27 l0 x8_1).f0))).setCell ⟨gb139,1,none⟩ (.int .i64 ((rd_T27 l0 x8_1).f1))).setCell ⟨gb139,2,none⟩ (.bool ((rd_T27 l0 x8_1).f2))).setCell ⟨gb139,3,none⟩ (.int .i64 ((rd_T27 l0 x8_1).f3)))).cell? _ = some _ from hx143_3));clear hn143_0;clear hn143_1;clear hn143_2;clear hn143_3;replace p143:=eq_true p143;replace q143:=eq_true q143));try go_wp2_with (first | ((with_reducible refine gate_dst (N:=5) rfl ?_);refine box_event ?hg (N:=5) ?hd (cs:=#[.string (⟨#[]⟩ : ByteArray),.int .i64 0,.bool false,.int .i64 0]) (t:=27) ?hr ?_;(case hd => rfl);(case hg => rfl);(case hr => first | (go_simp;done) | (go_simp;rfl));intro gb139 hg w14 hbox hb;have n0_:=Aside0.mk (Kd.R_below T6q2 hb);have n1_:=Aside0.mk (below_step (by repeat (first | (with_reducible first | exact HB.out | apply below_alloc | apply pw_below_drewN | apply below_drew1) | exact HB.out)) hb);have n2_:=Aside0.mk (hbox);have n3_:=Aside0.mk ((by rw [hg];exact (below_size (by repeat (first | (with_reducible first | exact HB.out | apply below_alloc | apply pw_below_drewN | apply below_drew1) | exact HB.out))) : w.heap.size ≤ gb139));have n4_:=Aside0.mk ((by rw [hg];exact (below_size (by repeat (first | (with_reducible first | exact HB.out | apply below_alloc | apply pw_below_drewN | apply below_drew1) | exact HB.out))) : w.heap.size ≤ gb139));clear HO_3;clear HB;have HO_3:=n0_;have HB:=n1_;have BK139:=n2_;have GW139:=n3_;have GE139:=n4_;clear n0_ n1_ n2_ n3_ n4_;clear hb hbox hg;have hcz15_0 : w14.cell? ⟨gb139,0,none⟩ = some (.string (⟨#[]⟩ : ByteArray)):=(blk_cell BK139.out 0).trans rfl;have hcz15_1 : w14.cell? ⟨gb139,1,none⟩ = some (.int .i64 0):=(blk_cell BK139.out 1).trans rfl;have hcz15_2 : w14.cell? ⟨gb139,2,none⟩ = some (.bool false):=(blk_cell BK139.out 2).trans rfl;have hcz15_3 : w14.cell? ⟨gb139,3,none⟩ = some (.int .i64 0):=(blk_cell BK139.out 3).trans rfl;have hfz15_0:=blk_frozen BK139.out 0;have hfz15_1:=blk_frozen BK139.out 1;have hfz15_2:=blk_frozen BK139.out 2;have hfz15_3:=blk_frozen BK139.out 3;have p143 : 0 ≤ ((ji10) : Int):=of_decide_eq_true T6q1;have q143 : (ji10) < (l0.length : Int):=of_decide_eq_true T6q1;obtain ⟨ad143,e143,hx143_0,hx143_1,hx143_2,hx143_3⟩:=at_T27 HR0.out (ji10) p143 q143;obtain rfl : ad138 = ad143:=(by injection e143);have hn143_0 : ad138.block ≠ gb139:=Nat.ne_of_lt (Nat.lt_of_lt_of_le (by have:=World.block_lt_of_cell? _ _ hx143_0;first | rwa [add_block] at this | exact this) GW139.out);have hn143_1 : ad138.block ≠ gb139:=Nat.ne_of_lt (Nat.lt_of_lt_of_le (by have:=World.block_lt_of_cell? _ _ hx143_0;first | rwa [add_block] at this | exact this) GW139.out);have hn143_2 : ad138.block ≠ gb139:=Nat.ne_of_lt (Nat.lt_of_lt_of_le (by have:=World.block_lt_of_cell? _ _ hx143_0;first | rwa [add_block] at this | exact this) GW139.out);have hn143_3 : ad138.block ≠ gb139:=Nat.ne_of_lt (Nat.lt_of_lt_of_le (by have:=World.block_lt_of_cell? _ _ hx143_0;first | rwa [add_block] at this | exact this) GW139.out);replace hx143_0:=(HB.out.cell (World.block_lt_of_cell? w _ hx143_0)).trans hx143_0;replace hx143_1:=(HB.out.cell (World.block_lt_of_cell? w _ hx143_1)).trans hx143_1;replace hx143_2:=(HB.out.cell (World.block_lt_of_cell? w _ hx143_2)).trans hx143_2;replace hx143_3:=(HB.out.cell (World.block_lt_of_cell? w _ hx143_3)).trans hx143_3;replace hx143_0:=(cell_far (p:=⟨gb139,0,none⟩) (by first | (rw [add_block];exact hn143_0) | (show (Addr.add _ _).block ≠ _;rw [add_block];exact hn143_0) | exact hn143_0) (.string ((rd_T27 l0 x8_1).f0))).trans hx143_0;replace hx143_1:=(cell_far (p:=⟨gb139,0,none⟩) (by first | (rw [add_block];exact hn143_0) | (show (Addr.add _ _).block ≠ _;rw [add_block];exact hn143_0) | exact hn143_0) (.string ((rd_T27 l0 x8_1).f0))).trans hx143_1;replace hx143_2:=(cell_far (p:=⟨gb139,0,none⟩) (by first | (rw [add_block];exact hn143_0) | (show (Addr.add _ _).block ≠ _;rw [add_block];exact hn143_0) | exact hn143_0) (.string ((rd_T27 l0 x8_1).f0))).trans hx143_2;replace hx143_3:=(cell_far (p:=⟨gb139,0,none⟩) (by first | (rw [add_block];exact hn143_0) | (show (Addr.add _ _).block ≠ _;rw [add_block];exact hn143_0) | exact hn143_0) (.string ((rd_T27 l0 x8_1).f0))).trans hx143_3;replace hx143_0:=(cell_far (p:=⟨gb139,1,none⟩) (by first | (rw [add_block];exact hn143_1) | (show (Addr.add _ _).block ≠ _;rw [add_block];exact hn143_1) | exact hn143_1) (.int .i64 ((rd_T27 l0 x8_1).f1))).trans hx143_0;replace hx143_1:=(cell_far (p:=⟨gb139,1,none⟩) (by first | (rw [add_block];exact hn143_1) | (show (Addr.add _ _).block ≠ _;rw [add_block];exact hn143_1) | exact hn143_1) (.int .i64 ((rd_T27 l0 x8_1).f1))).trans hx143_1;replace hx143_2:=(cell_far (p:=⟨gb139,1,none⟩) (by first | (rw [add_block];exact hn143_1) | (show (Addr.add _ _).block ≠ _;rw [add_block];exact hn143_1) | exact hn143_1) (.int .i64 ((rd_T27 l0 x8_1).f1))).trans hx143_2;replace hx143_3:=(cell_far (p:=⟨gb139,1,none⟩) (by first | (rw [add_block];exact hn143_1) | (show (Addr.add _ _).block ≠ _;rw [add_block];exact hn143_1) | exact hn143_1) (.int .i64 ((rd_T27 l0 x8_1).f1))).trans hx143_3;replace hx143_0:=(cell_far (p:=⟨gb139,2,none⟩) (by first | (rw [add_block];exact hn143_2) | (show (Addr.add _ _).block ≠ _;rw [add_block];exact hn143_2) | exact hn143_2) (.bool ((rd_T27 l0 x8_1).f2))).trans hx143_0;replace hx143_1:=(cell_far (p:=⟨gb139,2,none⟩) (by first | (rw [add_block];exact hn143_2) | (show (Addr.add _ _).block ≠ _;rw [add_block];exact hn143_2) | exact hn143_2) (.bool ((rd_T27 l0 x8_1).f2))).trans hx143_1;replace hx143_2:=(cell_far (p:=⟨gb139,2,none⟩) (by first | (rw [add_block];exact hn143_2) | (show (Addr.add _ _).block ≠ _;rw [add_block];exact hn143_2) | exact hn143_2) (.bool ((rd_T27 l0 x8_1).f2))).trans hx143_2;replace hx143_3:=(cell_far (p:=⟨gb139,2,none⟩) (by first | (rw [add_block];exact hn143_2) | (show (Addr.add _ _).block ≠ _;rw [add_block];exact hn143_2) | exact hn143_2) (.bool ((rd_T27 l0 x8_1).f2))).trans hx143_3;replace hx143_0:=(cell_far (p:=⟨gb139,3,none⟩) (by first | (rw [add_block];exact hn143_3) | (show (Addr.add _ _).block ≠ _;rw [add_block];exact hn143_3) | exact hn143_3) (.int .i64 ((rd_T27 l0 x8_1).f3))).trans hx143_0;replace hx143_1:=(cell_far (p:=⟨gb139,3,none⟩) (by first | (rw [add_block];exact hn143_3) | (show (Addr.add _ _).block ≠ _;rw [add_block];exact hn143_3) | exact hn143_3) (.int .i64 ((rd_T27 l0 x8_1).f3))).trans hx143_1;replace hx143_2:=(cell_far (p:=⟨gb139,3,none⟩) (by first | (rw [add_block];exact hn143_3) | (show (Addr.add _ _).block ≠ _;rw [add_block];exact hn143_3) | exact hn143_3) (.int .i64 ((rd_T27 l0 x8_1).f3))).trans hx143_2;replace hx143_3:=(cell_far (p:=⟨gb139,3,none⟩) (by first | (rw [add_block];exact hn143_3) | (show (Addr.add _ _).block ≠ _;rw [add_block];exact hn143_3) | exact hn143_3) (.int .i64 ((rd_T27 l0 x8_1).f3))).trans hx143_3;(try have hy143_0:=fun (n_ : Nat) => (show ((((((w14.drewN n_).setCell ⟨gb139,0,none⟩ (.string ((rd_T27 l0 x8_1).f0))).setCell ⟨gb139,1,none⟩ (.int .i64 ((rd_T27 l0 x8_1).f1))).setCell ⟨gb139,2,none⟩ (.bool ((rd_T27 l0 x8_1).f2))).setCell ⟨gb139,3,none⟩ (.int .i64 ((rd_T27 l0 x8_1).f3)))).cell? _ = some _ from hx143_0));(try have hy143_1:=fun (n_ : Nat) => (show ((((((w14.drewN n_).setCell ⟨gb139,0,none⟩ (.string ((rd_T27 l0 x8_1).f0))).setCell ⟨gb139,1,none⟩ (.int .i64 ((rd_T27 l0 x8_1).f1))).setCell ⟨gb139,2,none⟩ (.bool ((rd_T27 l0 x8_1).f2))).setCell ⟨gb139,3,none⟩ (.int .i64 ((rd_T27 l0 x8_1).f3)))).cell? _ = some _ from hx143_1));(try have hy143_2:=fun (n_ : Nat) => (show ((((((w14.drewN n_).setCell ⟨gb139,0,none⟩ (.string ((rd_T27 l0 x8_1).f0))).setCell ⟨gb139,1,none⟩ (.int .i64 ((rd_T27 l0 x8_1).f1))).setCell ⟨gb139,2,none⟩ (.bool ((rd_T27 l0 x8_1).f2))).setCell ⟨gb139,3,none⟩ (.int .i64 ((rd_T27 l0 x8_1).f3)))).cell? _ = some _ from hx143_2));(try have hy143_3:=fun (n_ : Nat) => (show ((((((w14.drewN n_).setCell ⟨gb139,0,none⟩ (.string ((rd_T27 l0 x8_1).f0))).setCell ⟨gb139,1,none⟩ (.int .i64 ((rd_T27 l0 x8_1).f1))).setCell ⟨gb139,2,none⟩ (.bool ((rd_T27 l0 x8_1).f2))).setCell ⟨gb139,3,none⟩ (.int .i64 ((rd_T27 l0 x8_1).f3)))).cell? _ = some _ from hx143_3));clear hn143_0;clear hn143_1;clear hn143_2;clear hn143_3;replace p143:=eq_true p143;replace q143:=eq_true q143)))
    go_roundg k1
    case measure => have:=HK1.out;omega
    case rel => exact ⟨(x3_1),(wrap64 (x8_1 + 1)),(by first | rfl | (simp;done) | (simp [*];done)),H',⟨by have:=HK1.out;omega⟩,⟨by (with_reducible repeat (first | apply Kd.R_alloc | apply Kd.R_drewN | apply Kd.R_drew));exact Kd.R_mono (Kd.R_far (p:=⟨gb139,3,none⟩) (Kd.R_far (p:=⟨gb139,2,none⟩) (Kd.R_far (p:=⟨gb139,1,none⟩) (Kd.R_far (p:=⟨gb139,0,none⟩) (Kd.R_types HO_3.out BK139.out (by decide)) (fun _ hk => hk.2) (.string ((rd_T27 l0 x8_1).f0))) (fun _ hk => hk.2) (.int .i64 ((rd_T27 l0 x8_1).f1))) (fun _ hk => hk.2) (.bool ((rd_T27 l0 x8_1).f2))) (fun _ hk => hk.2) (.int .i64 ((rd_T27 l0 x8_1).f3))) (fun _ hk => trivial)⟩,⟨by repeat (first | (with_reducible first | exact HB.out | apply below_alloc | apply pw_below_drewN | apply below_drew1 | refine below_set ?_ GE139.out) | exact HB.out)⟩⟩
   rw [if_neg c13] at H
   have c13b0 : (((rd_T27 l0 (ji10)).f0).toList == ((rd_T27 l0 x8_1).f0).toList) = false:=beq_eq_false_iff_ne.mpr c13
   have c13b1 : (((rd_T27 l0 (ji10)).f0).toList != ((rd_T27 l0 x8_1).f0).toList) = true:=bne_iff_ne.mpr c13
   by_cases c16 : x3_1.length < 8796093022208
   rotate_left
   ·rw [if_neg c16] at H
    exact absurd H (by simp)
   rw [if_pos c16] at H
   have LMc16:=Aside0.mk c16
   clear c16
   obtain ⟨y144,hy144⟩ : ∃ y_ : List ByteArray,y_ = (x3_1 ++ [(rd_T27 l0 x8_1).f0]):=⟨_,rfl⟩
   replace H : (impl_keysOf.l0 k1 l0 y144 l0 (l0.length : Int) (wrap64 (x8_1 + 1))) = some r:=by first | (rw [hy144];with_reducible exact H) | (have H2_:=(Option.bind_some _ _).symm.trans H;rw [hy144];with_reducible exact H2_) | (have H2_:=(Option.bind_some _ _).symm.trans H;with_reducible exact H2_) | with_reducible exact H | (rw [hy144];exact H) | exact H
   have Ny144:=Aside0.mk hy144
   clear hy144
   have H':=Aside0.mk H
   clear H
   have p138 : 0 ≤ (x8_1 : Int):=of_decide_eq_true T6q1
   have q138 : x8_1 < (l0.length : Int):=of_decide_eq_true T6q1
   obtain ⟨ad138,e138,hx138_0,hx138_1,hx138_2,hx138_3⟩:=at_T27 HR0.out x8_1 p138 q138
   cases e138
   replace hx138_0:=(HB.out.cell (World.block_lt_of_cell? w _ hx138_0)).trans hx138_0
   replace hx138_1:=(HB.out.cell (World.block_lt_of_cell? w _ hx138_1)).trans hx138_1
   replace hx138_2:=(HB.out.cell (World.block_lt_of_cell? w _ hx138_2)).trans hx138_2
   replace hx138_3:=(HB.out.cell (World.block_lt_of_cell? w _ hx138_3)).trans hx138_3
   replace p138:=eq_true p138
   replace q138:=eq_true q138
   go_wp2_with (first | ((with_reducible refine gate_dst (N:=5) rfl ?_);refine box_event ?hg (N:=5) ?hd (cs:=#[.string (⟨#[]⟩ : ByteArray),.int .i64 0,.bool false,.int .i64 0]) (t:=27) ?hr ?_;(case hd => rfl);(case hg => rfl);(case hr => first | (go_simp;done) | (go_simp;rfl));intro gb139 hg w17 hbox hb;have n0_:=Aside0.mk (Kd.R_below T6q2 hb);have n1_:=Aside0.mk (below_step (by repeat (first | (with_reducible first | exact HB.out | apply below_alloc | apply pw_below_drewN | apply below_drew1) | exact HB.out)) hb);have n2_:=Aside0.mk (hbox);have n3_:=Aside0.mk ((by rw [hg];exact (below_size (by repeat (first | (with_reducible first | exact HB.out | apply below_alloc | apply pw_below_drewN | apply below_drew1) | exact HB.out))) : w.heap.size ≤ gb139));have n4_:=Aside0.mk ((by rw [hg];exact (below_size (by repeat (first | (with_reducible first | exact HB.out | apply below_alloc | apply pw_below_drewN | apply below_drew1) | exact HB.out))) : w.heap.size ≤ gb139));clear HO_3;clear HB;have HO_3:=n0_;have HB:=n1_;have BK139:=n2_;have GW139:=n3_;have GE139:=n4_;clear n0_ n1_ n2_ n3_ n4_;clear hb hbox hg;have hcz18_0 : w17.cell? ⟨gb139,0,none⟩ = some (.string (⟨#[]⟩ : ByteArray)):=(blk_cell BK139.out 0).trans rfl;have hcz18_1 : w17.cell? ⟨gb139,1,none⟩ = some (.int .i64 0):=(blk_cell BK139.out 1).trans rfl;have hcz18_2 : w17.cell? ⟨gb139,2,none⟩ = some (.bool false):=(blk_cell BK139.out 2).trans rfl;have hcz18_3 : w17.cell? ⟨gb139,3,none⟩ = some (.int .i64 0):=(blk_cell BK139.out 3).trans rfl;have hfz18_0:=blk_frozen BK139.out 0;have hfz18_1:=blk_frozen BK139.out 1;have hfz18_2:=blk_frozen BK139.out 2;have hfz18_3:=blk_frozen BK139.out 3;have p143 : 0 ≤ ((ji10) : Int):=of_decide_eq_true T6q1;have q143 : (ji10) < (l0.length : Int):=of_decide_eq_true T6q1;obtain ⟨ad143,e143,hx143_0,hx143_1,hx143_2,hx143_3⟩:=at_T27 HR0.out (ji10) p143 q143;obtain rfl : ad138 = ad143:=(by injection e143);have hn143_0 : ad138.block ≠ gb139:=Nat.ne_of_lt (Nat.lt_of_lt_of_le (by have:=World.block_lt_of_cell? _ _ hx143_0;first | rwa [add_block] at this | exact this) GW139.out);have hn143_1 : ad138.block ≠ gb139:=Nat.ne_of_lt (Nat.lt_of_lt_of_le (by have:=World.block_lt_of_cell? _ _ hx143_0;first | rwa [add_block] at this | exact this) GW139.out);have hn143_2 : ad138.block ≠ gb139:=Nat.ne_of_lt (Nat.lt_of_lt_of_le (by have:=World.block_lt_of_cell? _ _ hx143_0;first | rwa [add_block] at this | exact this) GW139.out);have hn143_3 : ad138.block ≠ gb139:=Nat.ne_of_lt (Nat.lt_of_lt_of_le (by have:=World.block_lt_of_cell? _ _ hx143_0;first | rwa [add_block] at this | exact this) GW139.out);replace hx143_0:=(HB.out.cell (World.block_lt_of_cell? w _ hx143_0)).trans hx143_0;replace hx143_1:=(HB.out.cell (World.block_lt_of_cell? w _ hx143_1)).trans hx143_1;replace hx143_2:=(HB.out.cell (World.block_lt_of_cell? w _ hx143_2)).trans hx143_2;replace hx143_3:=(HB.out.cell (World.block_lt_of_cell? w _ hx143_3)).trans hx143_3;replace hx143_0:=(cell_far (p:=⟨gb139,0,none⟩) (by first | (rw [add_block];exact hn143_0) | (show (Addr.add _ _).block ≠ _;rw [add_block];exact hn143_0) | exact hn143_0) (.string ((rd_T27 l0 x8_1).f0))).trans hx143_0;replace hx143_1:=(cell_far (p:=⟨gb139,0,none⟩) (by first | (rw [add_block];exact hn143_0) | (show (Addr.add _ _).block ≠ _;rw [add_block];exact hn143_0) | exact hn143_0) (.string ((rd_T27 l0 x8_1).f0))).trans hx143_1;replace hx143_2:=(cell_far (p:=⟨gb139,0,none⟩) (by first | (rw [add_block];exact hn143_0) | (show (Addr.add _ _).block ≠ _;rw [add_block];exact hn143_0) | exact hn143_0) (.string ((rd_T27 l0 x8_1).f0))).trans hx143_2;replace hx143_3:=(cell_far (p:=⟨gb139,0,none⟩) (by first | (rw [add_block];exact hn143_0) | (show (Addr.add _ _).block ≠ _;rw [add_block];exact hn143_0) | exact hn143_0) (.string ((rd_T27 l0 x8_1).f0))).trans hx143_3;replace hx143_0:=(cell_far (p:=⟨gb139,1,none⟩) (by first | (rw [add_block];exact hn143_1) | (show (Addr.add _ _).block ≠ _;rw [add_block];exact hn143_1) | exact hn143_1) (.int .i64 ((rd_T27 l0 x8_1).f1))).trans hx143_0;replace hx143_1:=(cell_far (p:=⟨gb139,1,none⟩) (by first | (rw [add_block];exact hn143_1) | (show (Addr.add _ _).block ≠ _;rw [add_block];exact hn143_1) | exact hn143_1) (.int .i64 ((rd_T27 l0 x8_1).f1))).trans hx143_1;replace hx143_2:=(cell_far (p:=⟨gb139,1,none⟩) (by first | (rw [add_block];exact hn143_1) | (show (Addr.add _ _).block ≠ _;rw [add_block];exact hn143_1) | exact hn143_1) (.int .i64 ((rd_T27 l0 x8_1).f1))).trans hx143_2;replace hx143_3:=(cell_far (p:=⟨gb139,1,none⟩) (by first | (rw [add_block];exact hn143_1) | (show (Addr.add _ _).block ≠ _;rw [add_block];exact hn143_1) | exact hn143_1) (.int .i64 ((rd_T27 l0 x8_1).f1))).trans hx143_3;replace hx143_0:=(cell_far (p:=⟨gb139,2,none⟩) (by first | (rw [add_block];exact hn143_2) | (show (Addr.add _ _).block ≠ _;rw [add_block];exact hn143_2) | exact hn143_2) (.bool ((rd_T27 l0 x8_1).f2))).trans hx143_0;replace hx143_1:=(cell_far (p:=⟨gb139,2,none⟩) (by first | (rw [add_block];exact hn143_2) | (show (Addr.add _ _).block ≠ _;rw [add_block];exact hn143_2) | exact hn143_2) (.bool ((rd_T27 l0 x8_1).f2))).trans hx143_1;replace hx143_2:=(cell_far (p:=⟨gb139,2,none⟩) (by first | (rw [add_block];exact hn143_2) | (show (Addr.add _ _).block ≠ _;rw [add_block];exact hn143_2) | exact hn143_2) (.bool ((rd_T27 l0 x8_1).f2))).trans hx143_2;replace hx143_3:=(cell_far (p:=⟨gb139,2,none⟩) (by first | (rw [add_block];exact hn143_2) | (show (Addr.add _ _).block ≠ _;rw [add_block];exact hn143_2) | exact hn143_2) (.bool ((rd_T27 l0 x8_1).f2))).trans hx143_3;replace hx143_0:=(cell_far (p:=⟨gb139,3,none⟩) (by first | (rw [add_block];exact hn143_3) | (show (Addr.add _ _).block ≠ _;rw [add_block];exact hn143_3) | exact hn143_3) (.int .i64 ((rd_T27 l0 x8_1).f3))).trans hx143_0;replace hx143_1:=(cell_far (p:=⟨gb139,3,none⟩) (by first | (rw [add_block];exact hn143_3) | (show (Addr.add _ _).block ≠ _;rw [add_block];exact hn143_3) | exact hn143_3) (.int .i64 ((rd_T27 l0 x8_1).f3))).trans hx143_1;replace hx143_2:=(cell_far (p:=⟨gb139,3,none⟩) (by first | (rw [add_block];exact hn143_3) | (show (Addr.add _ _).block ≠ _;rw [add_block];exact hn143_3) | exact hn143_3) (.int .i64 ((rd_T27 l0 x8_1).f3))).trans hx143_2;replace hx143_3:=(cell_far (p:=⟨gb139,3,none⟩) (by first | (rw [add_block];exact hn143_3) | (show (Addr.add _ _).block ≠ _;rw [add_block];exact hn143_3) | exact hn143_3) (.int .i64 ((rd_T27 l0 x8_1).f3))).trans hx143_3;(try have hy143_0:=fun (n_ : Nat) => (show ((((((w17.drewN n_).setCell ⟨gb139,0,none⟩ (.string ((rd_T27 l0 x8_1).f0))).setCell ⟨gb139,1,none⟩ (.int .i64 ((rd_T27 l0 x8_1).f1))).setCell ⟨gb139,2,none⟩ (.bool ((rd_T27 l0 x8_1).f2))).setCell ⟨gb139,3,none⟩ (.int .i64 ((rd_T27 l0 x8_1).f3)))).cell? _ = some _ from hx143_0));(try have hy143_1:=fun (n_ : Nat) => (show ((((((w17.drewN n_).setCell ⟨gb139,0,none⟩ (.string ((rd_T27 l0 x8_1).f0))).setCell ⟨gb139,1,none⟩ (.int .i64 ((rd_T27 l0 x8_1).f1))).setCell ⟨gb139,2,none⟩ (.bool ((rd_T27 l0 x8_1).f2))).setCell ⟨gb139,3,none⟩ (.int .i64 ((rd_T27 l0 x8_1).f3)))).cell? _ = some _ from hx143_1));(try have hy143_2:=fun (n_ : Nat) => (show ((((((w17.drewN n_).setCell ⟨gb139,0,none⟩ (.string ((rd_T27 l0 x8_1).f0))).setCell ⟨gb139,1,none⟩ (.int .i64 ((rd_T27 l0 x8_1).f1))).setCell ⟨gb139,2,none⟩ (.bool ((rd_T27 l0 x8_1).f2))).setCell ⟨gb139,3,none⟩ (.int .i64 ((rd_T27 l0 x8_1).f3)))).cell? _ = some _ from hx143_2));(try have hy143_3:=fun (n_ : Nat) => (show ((((((w17.drewN n_).setCell ⟨gb139,0,none⟩ (.string ((rd_T27 l0 x8_1).f0))).setCell ⟨gb139,1,none⟩ (.int .i64 ((rd_T27 l0 x8_1).f1))).setCell ⟨gb139,2,none⟩ (.bool ((rd_T27 l0 x8_1).f2))).setCell ⟨gb139,3,none⟩ (.int .i64 ((rd_T27 l0 x8_1).f3)))).cell? _ = some _ from hx143_3));clear hn143_0;clear hn143_1;clear hn143_2;clear hn143_3;replace p143:=eq_true p143;replace q143:=eq_true q143) | ((with_reducible refine gate_builtin (b:=.append) (xs:=#[.tmp 26,.tmp 29]) rfl ?_);at_builtin;refine Kd.R_append Kd.string (w0:=w) w.heap.size rfl (.tmp 26) (.tmp 29) 39 9 (.string ⟨#[]⟩) 16 rfl Try.underlying39 info9 rfl (by decide) (by omega) u3 x3_1 ((rd_T27 l0 x8_1).f0) [.string ((rd_T27 l0 x8_1).f0)] (fun _ => True) (fun _ => False) rfl (by first | (go_simp;done) | (go_simp;rfl)) ?aP (fun _ hk => hk.elim) ?aF ?aO ?aB ?aS ?aL ?_;(case aP => exact rfl);(case aB => exact (by repeat (first | (with_reducible first | exact HB.out | apply below_alloc | apply pw_below_drewN | apply below_drew1 | refine below_set ?_ GE139.out) | exact HB.out)));(case aF => exact (fun _ _ => trivial));(case aO => exact T6q3);(case aS => exact (below_size (by repeat (first | (with_reducible first | exact HB.out | apply below_alloc | apply pw_below_drewN | apply below_drew1 | refine below_set ?_ GE139.out) | exact HB.out))));(case aL => have:=LMc16.out;omega);intro v145 w19 ho hb hg hat;rw [← Ny144.out] at ho;have n0_:=Aside0.mk (blk_grown (g:=gb139) (o:=.cells #[.string ((rd_T27 l0 x8_1).f0),.int .i64 ((rd_T27 l0 x8_1).f1),.bool ((rd_T27 l0 x8_1).f2),.int .i64 ((rd_T27 l0 x8_1).f3)] 27 (0,0)) (by (with_reducible repeat (first | refine blk_drewN ?_ _ | refine blk_drew ?_ | refine blk_alloc ?_ _));refine blk_put (cs:=#[.string ((rd_T27 l0 x8_1).f0),.int .i64 ((rd_T27 l0 x8_1).f1),.bool ((rd_T27 l0 x8_1).f2),.int .i64 0]) ?_ 3 _ rfl;(with_reducible repeat (first | refine blk_drewN ?_ _ | refine blk_drew ?_ | refine blk_alloc ?_ _));refine blk_put (cs:=#[.string ((rd_T27 l0 x8_1).f0),.int .i64 ((rd_T27 l0 x8_1).f1),.bool false,.int .i64 0]) ?_ 2 _ rfl;(with_reducible repeat (first | refine blk_drewN ?_ _ | refine blk_drew ?_ | refine blk_alloc ?_ _));refine blk_put (cs:=#[.string ((rd_T27 l0 x8_1).f0),.int .i64 0,.bool false,.int .i64 0]) ?_ 1 _ rfl;(with_reducible repeat (first | refine blk_drewN ?_ _ | refine blk_drew ?_ | refine blk_alloc ?_ _));refine blk_put (cs:=#[.string (⟨#[]⟩ : ByteArray),.int .i64 0,.bool false,.int .i64 0]) ?_ 0 _ rfl;(with_reducible repeat (first | refine blk_drewN ?_ _ | refine blk_drew ?_ | refine blk_alloc ?_ _));exact BK139.out) hg (Kd.R_ne HO_3.out BK139.out (by decide)));have n1_:=Aside0.mk (hb);have n2_:=Aside0.mk (ho);clear BK139;clear HB;clear HO_3;have BK139:=n0_;have HB:=n1_;have HO146:=n2_;clear n0_ n1_ n2_;clear ho hb hg hat))
   repeat (go_quiet (first | ((with_reducible refine gate_dst (N:=5) rfl ?_);refine box_event ?hg (N:=5) ?hd (cs:=#[.string (⟨#[]⟩ : ByteArray),.int .i64 0,.bool false,.int .i64 0]) (t:=27) ?hr ?_;(case hd => rfl);(case hg => rfl);(case hr => first | (go_simp;done) | (go_simp;rfl));intro gb139 hg w17 hbox hb;have n0_:=Aside0.mk (Kd.R_below T6q2 hb);have n1_:=Aside0.mk (below_step (by repeat (first | (with_reducible first | exact HB.out | apply below_alloc | apply pw_below_drewN | apply below_drew1) | exact HB.out)) hb);have n2_:=Aside0.mk (hbox);have n3_:=Aside0.mk ((by rw [hg];exact (below_size (by repeat (first | (with_reducible first | exact HB.out | apply below_alloc | apply pw_below_drewN | apply below_drew1) | exact HB.out))) : w.heap.size ≤ gb139));have n4_:=Aside0.mk ((by rw [hg];exact (below_size (by repeat (first | (with_reducible first | exact HB.out | apply below_alloc | apply pw_below_drewN | apply below_drew1) | exact HB.out))) : w.heap.size ≤ gb139));clear HO_3;clear HB;have HO_3:=n0_;have HB:=n1_;have BK139:=n2_;have GW139:=n3_;have GE139:=n4_;clear n0_ n1_ n2_ n3_ n4_;clear hb hbox hg;have hcz18_0 : w17.cell? ⟨gb139,0,none⟩ = some (.string (⟨#[]⟩ : ByteArray)):=(blk_cell BK139.out 0).trans rfl;have hcz18_1 : w17.cell? ⟨gb139,1,none⟩ = some (.int .i64 0):=(blk_cell BK139.out 1).trans rfl;have hcz18_2 : w17.cell? ⟨gb139,2,none⟩ = some (.bool false):=(blk_cell BK139.out 2).trans rfl;have hcz18_3 : w17.cell? ⟨gb139,3,none⟩ = some (.int .i64 0):=(blk_cell BK139.out 3).trans rfl;have hfz18_0:=blk_frozen BK139.out 0;have hfz18_1:=blk_frozen BK139.out 1;have hfz18_2:=blk_frozen BK139.out 2;have hfz18_3:=blk_frozen BK139.out 3;have p143 : 0 ≤ ((ji10) : Int):=of_decide_eq_true T6q1;have q143 : (ji10) < (l0.length : Int):=of_decide_eq_true T6q1;obtain ⟨ad143,e143,hx143_0,hx143_1,hx143_2,hx143_3⟩:=at_T27 HR0.out (ji10) p143 q143;obtain rfl : ad138 = ad143:=(by injection e143);have hn143_0 : ad138.block ≠ gb139:=Nat.ne_of_lt (Nat.lt_of_lt_of_le (by have:=World.block_lt_of_cell? _ _ hx143_0;first | rwa [add_block] at this | exact this) GW139.out);have hn143_1 : ad138.block ≠ gb139:=Nat.ne_of_lt (Nat.lt_of_lt_of_le (by have:=World.block_lt_of_cell? _ _ hx143_0;first | rwa [add_block] at this | exact this) GW139.out);have hn143_2 : ad138.block ≠ gb139:=Nat.ne_of_lt (Nat.lt_of_lt_of_le (by have:=World.block_lt_of_cell? _ _ hx143_0;first | rwa [add_block] at this | exact this) GW139.out);have hn143_3 : ad138.block ≠ gb139:=Nat.ne_of_lt (Nat.lt_of_lt_of_le (by have:=World.block_lt_of_cell? _ _ hx143_0;first | rwa [add_block] at this | exact this) GW139.out);replace hx143_0:=(HB.out.cell (World.block_lt_of_cell? w _ hx143_0)).trans hx143_0;replace hx143_1:=(HB.out.cell (World.block_lt_of_cell? w _ hx143_1)).trans hx143_1;replace hx143_2:=(HB.out.cell (World.block_lt_of_cell? w _ hx143_2)).trans hx143_2;replace hx143_3:=(HB.out.cell (World.block_lt_of_cell? w _ hx143_3)).trans hx143_3;replace hx143_0:=(cell_far (p:=⟨gb139,0,none⟩) (by first | (rw [add_block];exact hn143_0) | (show (Addr.add _ _).block ≠ _;rw [add_block];exact hn143_0) | exact hn143_0) (.string ((rd_T27 l0 x8_1).f0))).trans hx143_0;replace hx143_1:=(cell_far (p:=⟨gb139,0,none⟩) (by first | (rw [add_block];exact hn143_0) | (show (Addr.add _ _).block ≠ _;rw [add_block];exact hn143_0) | exact hn143_0) (.string ((rd_T27 l0 x8_1).f0))).trans hx143_1;replace hx143_2:=(cell_far (p:=⟨gb139,0,none⟩) (by first | (rw [add_block];exact hn143_0) | (show (Addr.add _ _).block ≠ _;rw [add_block];exact hn143_0) | exact hn143_0) (.string ((rd_T27 l0 x8_1).f0))).trans hx143_2;replace hx143_3:=(cell_far (p:=⟨gb139,0,none⟩) (by first | (rw [add_block];exact hn143_0) | (show (Addr.add _ _).block ≠ _;rw [add_block];exact hn143_0) | exact hn143_0) (.string ((rd_T27 l0 x8_1).f0))).trans hx143_3;replace hx143_0:=(cell_far (p:=⟨gb139,1,none⟩) (by first | (rw [add_block];exact hn143_1) | (show (Addr.add _ _).block ≠ _;rw [add_block];exact hn143_1) | exact hn143_1) (.int .i64 ((rd_T27 l0 x8_1).f1))).trans hx143_0;replace hx143_1:=(cell_far (p:=⟨gb139,1,none⟩) (by first | (rw [add_block];exact hn143_1) | (show (Addr.add _ _).block ≠ _;rw [add_block];exact hn143_1) | exact hn143_1) (.int .i64 ((rd_T27 l0 x8_1).f1))).trans hx143_1;replace hx143_2:=(cell_far (p:=⟨gb139,1,none⟩) (by first | (rw [add_block];exact hn143_1) | (show (Addr.add _ _).block ≠ _;rw [add_block];exact hn143_1) | exact hn143_1) (.int .i64 ((rd_T27 l0 x8_1).f1))).trans hx143_2;replace hx143_3:=(cell_far (p:=⟨gb139,1,none⟩) (by first | (rw [add_block];exact hn143_1) | (show (Addr.add _ _).block ≠ _;rw [add_block];exact hn143_1) | exact hn143_1) (.int .i64 ((rd_T27 l0 x8_1).f1))).trans hx143_3;replace hx143_0:=(cell_far (p:=⟨gb139,2,none⟩) (by first | (rw [add_block];exact hn143_2) | (show (Addr.add _ _).block ≠ _;rw [add_block];exact hn143_2) | exact hn143_2) (.bool ((rd_T27 l0 x8_1).f2))).trans hx143_0;replace hx143_1:=(cell_far (p:=⟨gb139,2,none⟩) (by first | (rw [add_block];exact hn143_2) | (show (Addr.add _ _).block ≠ _;rw [add_block];exact hn143_2) | exact hn143_2) (.bool ((rd_T27 l0 x8_1).f2))).trans hx143_1;replace hx143_2:=(cell_far (p:=⟨gb139,2,none⟩) (by first | (rw [add_block];exact hn143_2) | (show (Addr.add _ _).block ≠ _;rw [add_block];exact hn143_2) | exact hn143_2) (.bool ((rd_T27 l0 x8_1).f2))).trans hx143_2;replace hx143_3:=(cell_far (p:=⟨gb139,2,none⟩) (by first | (rw [add_block];exact hn143_2) | (show (Addr.add _ _).block ≠ _;rw [add_block];exact hn143_2) | exact hn143_2) (.bool ((rd_T27 l0 x8_1).f2))).trans hx143_3;replace hx143_0:=(cell_far (p:=⟨gb139,3,none⟩) (by first | (rw [add_block];exact hn143_3) | (show (Addr.add _ _).block ≠ _;rw [add_block];exact hn143_3) | exact hn143_3) (.int .i64 ((rd_T27 l0 x8_1).f3))).trans hx143_0;replace hx143_1:=(cell_far (p:=⟨gb139,3,none⟩) (by first | (rw [add_block];exact hn143_3) | (show (Addr.add _ _).block ≠ _;rw [add_block];exact hn143_3) | exact hn143_3) (.int .i64 ((rd_T27 l0 x8_1).f3))).trans hx143_1;replace hx143_2:=(cell_far (p:=⟨gb139,3,none⟩) (by first | (rw [add_block];exact hn143_3) | (show (Addr.add _ _).block ≠ _;rw [add_block];exact hn143_3) | exact hn143_3) (.int .i64 ((rd_T27 l0 x8_1).f3))).trans hx143_2;replace hx143_3:=(cell_far (p:=⟨gb139,3,none⟩) (by first | (rw [add_block];exact hn143_3) | (show (Addr.add _ _).block ≠ _;rw [add_block];exact hn143_3) | exact hn143_3) (.int .i64 ((rd_T27 l0 x8_1).f3))).trans hx143_3;(try have hy143_0:=fun (n_ : Nat) => (show ((((((w17.drewN n_).setCell ⟨gb139,0,none⟩ (.string ((rd_T27 l0 x8_1).f0))).setCell ⟨gb139,1,none⟩ (.int .i64 ((rd_T27 l0 x8_1).f1))).setCell ⟨gb139,2,none⟩ (.bool ((rd_T27 l0 x8_1).f2))).setCell ⟨gb139,3,none⟩ (.int .i64 ((rd_T27 l0 x8_1).f3)))).cell? _ = some _ from hx143_0));(try have hy143_1:=fun (n_ : Nat) => (show ((((((w17.drewN n_).setCell ⟨gb139,0,none⟩ (.string ((rd_T27 l0 x8_1).f0))).setCell ⟨gb139,1,none⟩ (.int .i64 ((rd_T27 l0 x8_1).f1))).setCell ⟨gb139,2,none⟩ (.bool ((rd_T27 l0 x8_1).f2))).setCell ⟨gb139,3,none⟩ (.int .i64 ((rd_T27 l0 x8_1).f3)))).cell? _ = some _ from hx143_1));(try have hy143_2:=fun (n_ : Nat) => (show ((((((w17.drewN n_).setCell ⟨gb139,0,none⟩ (.string ((rd_T27 l0 x8_1).f0))).setCell ⟨gb139,1,none⟩ (.int .i64 ((rd_T27 l0 x8_1).f1))).setCell ⟨gb139,2,none⟩ (.bool ((rd_T27 l0 x8_1).f2))).setCell ⟨gb139,3,none⟩ (.int .i64 ((rd_T27 l0 x8_1).f3)))).cell? _ = some _ from hx143_2));(try have hy143_3:=fun (n_ : Nat) => (show ((((((w17.drewN n_).setCell ⟨gb139,0,none⟩ (.string ((rd_T27 l0 x8_1).f0))).setCell ⟨gb139,1,none⟩ (.int .i64 ((rd_T27 l0 x8_1).f1))).setCell ⟨gb139,2,none⟩ (.bool ((rd_T27 l0 x8_1).f2))).setCell ⟨gb139,3,none⟩ (.int .i64 ((rd_T27 l0 x8_1).f3)))).cell? _ = some _ from hx143_3));clear hn143_0;clear hn143_1;clear hn143_2;clear hn143_3;replace p143:=eq_true p143;replace q143:=eq_true q143) | ((with_reducible refine gate_builtin (b:=.append) (xs:=#[.tmp 26,.tmp 29]) rfl ?_);at_builtin;refine Kd.R_append Kd.string (w0:=w) w.heap.size rfl (.tmp 26) (.tmp 29) 39 9 (.string ⟨#[]⟩) 16 rfl Try.underlying39 info9 rfl (by decide) (by omega) u3 x3_1 ((rd_T27 l0 x8_1).f0) [.string ((rd_T27 l0 x8_1).f0)] (fun _ => True) (fun _ => False) rfl (by first | (go_simp;done) | (go_simp;rfl)) ?aP (fun _ hk => hk.elim) ?aF ?aO ?aB ?aS ?aL ?_;(case aP => exact rfl);(case aB => exact (by repeat (first | (with_reducible first | exact HB.out | apply below_alloc | apply pw_below_drewN | apply below_drew1 | refine below_set ?_ GE139.out) | exact HB.out)));(case aF => exact (fun _ _ => trivial));(case aO => exact T6q3);(case aS => exact (below_size (by repeat (first | (with_reducible first | exact HB.out | apply below_alloc | apply pw_below_drewN | apply below_drew1 | refine below_set ?_ GE139.out) | exact HB.out))));(case aL => have:=LMc16.out;omega);intro v145 w19 ho hb hg hat;rw [← Ny144.out] at ho;have n0_:=Aside0.mk (blk_grown (g:=gb139) (o:=.cells #[.string ((rd_T27 l0 x8_1).f0),.int .i64 ((rd_T27 l0 x8_1).f1),.bool ((rd_T27 l0 x8_1).f2),.int .i64 ((rd_T27 l0 x8_1).f3)] 27 (0,0)) (by (with_reducible repeat (first | refine blk_drewN ?_ _ | refine blk_drew ?_ | refine blk_alloc ?_ _));refine blk_put (cs:=#[.string ((rd_T27 l0 x8_1).f0),.int .i64 ((rd_T27 l0 x8_1).f1),.bool ((rd_T27 l0 x8_1).f2),.int .i64 0]) ?_ 3 _ rfl;(with_reducible repeat (first | refine blk_drewN ?_ _ | refine blk_drew ?_ | refine blk_alloc ?_ _));refine blk_put (cs:=#[.string ((rd_T27 l0 x8_1).f0),.int .i64 ((rd_T27 l0 x8_1).f1),.bool false,.int .i64 0]) ?_ 2 _ rfl;(with_reducible repeat (first | refine blk_drewN ?_ _ | refine blk_drew ?_ | refine blk_alloc ?_ _));refine blk_put (cs:=#[.string ((rd_T27 l0 x8_1).f0),.int .i64 0,.bool false,.int .i64 0]) ?_ 1 _ rfl;(with_reducible repeat (first | refine blk_drewN ?_ _ | refine blk_drew ?_ | refine blk_alloc ?_ _));refine blk_put (cs:=#[.string (⟨#[]⟩ : ByteArray),.int .i64 0,.bool false,.int .i64 0]) ?_ 0 _ rfl;(with_reducible repeat (first | refine blk_drewN ?_ _ | refine blk_drew ?_ | refine blk_alloc ?_ _));exact BK139.out) hg (Kd.R_ne HO_3.out BK139.out (by decide)));have n1_:=Aside0.mk (hb);have n2_:=Aside0.mk (ho);clear BK139;clear HB;clear HO_3;have BK139:=n0_;have HB:=n1_;have HO146:=n2_;clear n0_ n1_ n2_;clear ho hb hg hat));try go_wp2_with (first | ((with_reducible refine gate_dst (N:=5) rfl ?_);refine box_event ?hg (N:=5) ?hd (cs:=#[.string (⟨#[]⟩ : ByteArray),.int .i64 0,.bool false,.int .i64 0]) (t:=27) ?hr ?_;(case hd => rfl);(case hg => rfl);(case hr => first | (go_simp;done) | (go_simp;rfl));intro gb139 hg w17 hbox hb;have n0_:=Aside0.mk (Kd.R_below T6q2 hb);have n1_:=Aside0.mk (below_step (by repeat (first | (with_reducible first | exact HB.out | apply below_alloc | apply pw_below_drewN | apply below_drew1) | exact HB.out)) hb);have n2_:=Aside0.mk (hbox);have n3_:=Aside0.mk ((by rw [hg];exact (below_size (by repeat (first | (with_reducible first | exact HB.out | apply below_alloc | apply pw_below_drewN | apply below_drew1) | exact HB.out))) : w.heap.size ≤ gb139));have n4_:=Aside0.mk ((by rw [hg];exact (below_size (by repeat (first | (with_reducible first | exact HB.out | apply below_alloc | apply pw_below_drewN | apply below_drew1) | exact HB.out))) : w.heap.size ≤ gb139));clear HO_3;clear HB;have HO_3:=n0_;have HB:=n1_;have BK139:=n2_;have GW139:=n3_;have GE139:=n4_;clear n0_ n1_ n2_ n3_ n4_;clear hb hbox hg;have hcz18_0 : w17.cell? ⟨gb139,0,none⟩ = some (.string (⟨#[]⟩ : ByteArray)):=(blk_cell BK139.out 0).trans rfl;have hcz18_1 : w17.cell? ⟨gb139,1,none⟩ = some (.int .i64 0):=(blk_cell BK139.out 1).trans rfl;have hcz18_2 : w17.cell? ⟨gb139,2,none⟩ = some (.bool false):=(blk_cell BK139.out 2).trans rfl;have hcz18_3 : w17.cell? ⟨gb139,3,none⟩ = some (.int .i64 0):=(blk_cell BK139.out 3).trans rfl;have hfz18_0:=blk_frozen BK139.out 0;have hfz18_1:=blk_frozen BK139.out 1;have hfz18_2:=blk_frozen BK139.out 2;have hfz18_3:=blk_frozen BK139.out 3;have p143 : 0 ≤ ((ji10) : Int):=of_decide_eq_true T6q1;have q143 : (ji10) < (l0.length : Int):=of_decide_eq_true T6q1;obtain ⟨ad143,e143,hx143_0,hx143_1,hx143_2,hx143_3⟩:=at_T27 HR0.out (ji10) p143 q143;obtain rfl : ad138 = ad143:=(by injection e143);have hn143_0 : ad138.block ≠ gb139:=Nat.ne_of_lt (Nat.lt_of_lt_of_le (by have:=World.block_lt_of_cell? _ _ hx143_0;first | rwa [add_block] at this | exact this) GW139.out);have hn143_1 : ad138.block ≠ gb139:=Nat.ne_of_lt (Nat.lt_of_lt_of_le (by have:=World.block_lt_of_cell? _ _ hx143_0;first | rwa [add_block] at this | exact this) GW139.out);have hn143_2 : ad138.block ≠ gb139:=Nat.ne_of_lt (Nat.lt_of_lt_of_le (by have:=World.block_lt_of_cell? _ _ hx143_0;first | rwa [add_block] at this | exact this) GW139.out);have hn143_3 : ad138.block ≠ gb139:=Nat.ne_of_lt (Nat.lt_of_lt_of_le (by have:=World.block_lt_of_cell? _ _ hx143_0;first | rwa [add_block] at this | exact this) GW139.out);replace hx143_0:=(HB.out.cell (World.block_lt_of_cell? w _ hx143_0)).trans hx143_0;replace hx143_1:=(HB.out.cell (World.block_lt_of_cell? w _ hx143_1)).trans hx143_1;replace hx143_2:=(HB.out.cell (World.block_lt_of_cell? w _ hx143_2)).trans hx143_2;replace hx143_3:=(HB.out.cell (World.block_lt_of_cell? w _ hx143_3)).trans hx143_3;replace hx143_0:=(cell_far (p:=⟨gb139,0,none⟩) (by first | (rw [add_block];exact hn143_0) | (show (Addr.add _ _).block ≠ _;rw [add_block];exact hn143_0) | exact hn143_0) (.string ((rd_T27 l0 x8_1).f0))).trans hx143_0;replace hx143_1:=(cell_far (p:=⟨gb139,0,none⟩) (by first | (rw [add_block];exact hn143_0) | (show (Addr.add _ _).block ≠ _;rw [add_block];exact hn143_0) | exact hn143_0) (.string ((rd_T27 l0 x8_1).f0))).trans hx143_1;replace hx143_2:=(cell_far (p:=⟨gb139,0,none⟩) (by first | (rw [add_block];exact hn143_0) | (show (Addr.add _ _).block ≠ _;rw [add_block];exact hn143_0) | exact hn143_0) (.string ((rd_T27 l0 x8_1).f0))).trans hx143_2;replace hx143_3:=(cell_far (p:=⟨gb139,0,none⟩) (by first | (rw [add_block];exact hn143_0) | (show (Addr.add _ _).block ≠ _;rw [add_block];exact hn143_0) | exact hn143_0) (.string ((rd_T27 l0 x8_1).f0))).trans hx143_3;replace hx143_0:=(cell_far (p:=⟨gb139,1,none⟩) (by first | (rw [add_block];exact hn143_1) | (show (Addr.add _ _).block ≠ _;rw [add_block];exact hn143_1) | exact hn143_1) (.int .i64 ((rd_T27 l0 x8_1).f1))).trans hx143_0;replace hx143_1:=(cell_far (p:=⟨gb139,1,none⟩) (by first | (rw [add_block];exact hn143_1) | (show (Addr.add _ _).block ≠ _;rw [add_block];exact hn143_1) | exact hn143_1) (.int .i64 ((rd_T27 l0 x8_1).f1))).trans hx143_1;replace hx143_2:=(cell_far (p:=⟨gb139,1,none⟩) (by first | (rw [add_block];exact hn143_1) | (show (Addr.add _ _).block ≠ _;rw [add_block];exact hn143_1) | exact hn143_1) (.int .i64 ((rd_T27 l0 x8_1).f1))).trans hx143_2;replace hx143_3:=(cell_far (p:=⟨gb139,1,none⟩) (by first | (rw [add_block];exact hn143_1) | (show (Addr.add _ _).block ≠ _;rw [add_block];exact hn143_1) | exact hn143_1) (.int .i64 ((rd_T27 l0 x8_1).f1))).trans hx143_3;replace hx143_0:=(cell_far (p:=⟨gb139,2,none⟩) (by first | (rw [add_block];exact hn143_2) | (show (Addr.add _ _).block ≠ _;rw [add_block];exact hn143_2) | exact hn143_2) (.bool ((rd_T27 l0 x8_1).f2))).trans hx143_0;replace hx143_1:=(cell_far (p:=⟨gb139,2,none⟩) (by first | (rw [add_block];exact hn143_2) | (show (Addr.add _ _).block ≠ _;rw [add_block];exact hn143_2) | exact hn143_2) (.bool ((rd_T27 l0 x8_1).f2))).trans hx143_1;replace hx143_2:=(cell_far (p:=⟨gb139,2,none⟩) (by first | (rw [add_block];exact hn143_2) | (show (Addr.add _ _).block ≠ _;rw [add_block];exact hn143_2) | exact hn143_2) (.bool ((rd_T27 l0 x8_1).f2))).trans hx143_2;replace hx143_3:=(cell_far (p:=⟨gb139,2,none⟩) (by first | (rw [add_block];exact hn143_2) | (show (Addr.add _ _).block ≠ _;rw [add_block];exact hn143_2) | exact hn143_2) (.bool ((rd_T27 l0 x8_1).f2))).trans hx143_3;replace hx143_0:=(cell_far (p:=⟨gb139,3,none⟩) (by first | (rw [add_block];exact hn143_3) | (show (Addr.add _ _).block ≠ _;rw [add_block];exact hn143_3) | exact hn143_3) (.int .i64 ((rd_T27 l0 x8_1).f3))).trans hx143_0;replace hx143_1:=(cell_far (p:=⟨gb139,3,none⟩) (by first | (rw [add_block];exact hn143_3) | (show (Addr.add _ _).block ≠ _;rw [add_block];exact hn143_3) | exact hn143_3) (.int .i64 ((rd_T27 l0 x8_1).f3))).trans hx143_1;replace hx143_2:=(cell_far (p:=⟨gb139,3,none⟩) (by first | (rw [add_block];exact hn143_3) | (show (Addr.add _ _).block ≠ _;rw [add_block];exact hn143_3) | exact hn143_3) (.int .i64 ((rd_T27 l0 x8_1).f3))).trans hx143_2;replace hx143_3:=(cell_far (p:=⟨gb139,3,none⟩) (by first | (rw [add_block];exact hn143_3) | (show (Addr.add _ _).block ≠ _;rw [add_block];exact hn143_3) | exact hn143_3) (.int .i64 ((rd_T27 l0 x8_1).f3))).trans hx143_3;(try have hy143_0:=fun (n_ : Nat) => (show ((((((w17.drewN n_).setCell ⟨gb139,0,none⟩ (.string ((rd_T27 l0 x8_1).f0))).setCell ⟨gb139,1,none⟩ (.int .i64 ((rd_T27 l0 x8_1).f1))).setCell ⟨gb139,2,none⟩ (.bool ((rd_T27 l0 x8_1).f2))).setCell ⟨gb139,3,none⟩ (.int .i64 ((rd_T27 l0 x8_1).f3)))).cell? _ = some _ from hx143_0));(try have hy143_1:=fun (n_ : Nat) => (show ((((((w17.drewN n_).setCell ⟨gb139,0,none⟩ (.string ((rd_T27 l0 x8_1).f0))).setCell ⟨gb139,1,none⟩ (.int .i64 ((rd_T27 l0 x8_1).f1))).setCell ⟨gb139,2,none⟩ (.bool ((rd_T27 l0 x8_1).f2))).setCell ⟨gb139,3,none⟩ (.int .i64 ((rd_T27 l0 x8_1).f3)))).cell? _ = some _ from hx143_1));(try have hy143_2:=fun (n_ : Nat) => (show ((((((w17.drewN n_).setCell ⟨gb139,0,none⟩ (.string ((rd_T27 l0 x8_1).f0))).setCell ⟨gb139,1,none⟩ (.int .i64 ((rd_T27 l0 x8_1).f1))).setCell ⟨gb139,2,none⟩ (.bool ((rd_T27 l0 x8_1).f2))).setCell ⟨gb139,3,none⟩ (.int .i64 ((rd_T27 l0 x8_1).f3)))).cell? _ = some _ from hx143_2));(try have hy143_3:=fun (n_ : Nat) => (show ((((((w17.drewN n_).setCell ⟨gb139,0,none⟩ (.string ((rd_T27 l0 x8_1).f0))).setCell ⟨gb139,1,none⟩ (.int .i64 ((rd_T27 l0 x8_1).f1))).setCell ⟨gb139,2,none⟩ (.bool ((rd_T27 l0 x8_1).f2))).setCell ⟨gb139,3,none⟩ (.int .i64 ((rd_T27 l0 x8_1).f3)))).cell? _ = some _ from hx143_3));clear hn143_0;clear hn143_1;clear hn143_2;clear hn143_3;replace p143:=eq_true p143;replace q143:=eq_true q143) | ((with_reducible refine gate_builtin (b:=.append) (xs:=#[.tmp 26,.tmp 29]) rfl ?_);at_builtin;refine Kd.R_append Kd.string (w0:=w) w.heap.size rfl (.tmp 26) (.tmp 29) 39 9 (.string ⟨#[]⟩) 16 rfl Try.underlying39 info9 rfl (by decide) (by omega) u3 x3_1 ((rd_T27 l0 x8_1).f0) [.string ((rd_T27 l0 x8_1).f0)] (fun _ => True) (fun _ => False) rfl (by first | (go_simp;done) | (go_simp;rfl)) ?aP (fun _ hk => hk.elim) ?aF ?aO ?aB ?aS ?aL ?_;(case aP => exact rfl);(case aB => exact (by repeat (first | (with_reducible first | exact HB.out | apply below_alloc | apply pw_below_drewN | apply below_drew1 | refine below_set ?_ GE139.out) | exact HB.out)));(case aF => exact (fun _ _ => trivial));(case aO => exact T6q3);(case aS => exact (below_size (by repeat (first | (with_reducible first | exact HB.out | apply below_alloc | apply pw_below_drewN | apply below_drew1 | refine below_set ?_ GE139.out) | exact HB.out))));(case aL => have:=LMc16.out;omega);intro v145 w19 ho hb hg hat;rw [← Ny144.out] at ho;have n0_:=Aside0.mk (blk_grown (g:=gb139) (o:=.cells #[.string ((rd_T27 l0 x8_1).f0),.int .i64 ((rd_T27 l0 x8_1).f1),.bool ((rd_T27 l0 x8_1).f2),.int .i64 ((rd_T27 l0 x8_1).f3)] 27 (0,0)) (by (with_reducible repeat (first | refine blk_drewN ?_ _ | refine blk_drew ?_ | refine blk_alloc ?_ _));refine blk_put (cs:=#[.string ((rd_T27 l0 x8_1).f0),.int .i64 ((rd_T27 l0 x8_1).f1),.bool ((rd_T27 l0 x8_1).f2),.int .i64 0]) ?_ 3 _ rfl;(with_reducible repeat (first | refine blk_drewN ?_ _ | refine blk_drew ?_ | refine blk_alloc ?_ _));refine blk_put (cs:=#[.string ((rd_T27 l0 x8_1).f0),.int .i64 ((rd_T27 l0 x8_1).f1),.bool false,.int .i64 0]) ?_ 2 _ rfl;(with_reducible repeat (first | refine blk_drewN ?_ _ | refine blk_drew ?_ | refine blk_alloc ?_ _));refine blk_put (cs:=#[.string ((rd_T27 l0 x8_1).f0),.int .i64 0,.bool false,.int .i64 0]) ?_ 1 _ rfl;(with_reducible repeat (first | refine blk_drewN ?_ _ | refine blk_drew ?_ | refine blk_alloc ?_ _));refine blk_put (cs:=#[.string (⟨#[]⟩ : ByteArray),.int .i64 0,.bool false,.int .i64 0]) ?_ 0 _ rfl;(with_reducible repeat (first | refine blk_drewN ?_ _ | refine blk_drew ?_ | refine blk_alloc ?_ _));exact BK139.out) hg (Kd.R_ne HO_3.out BK139.out (by decide)));have n1_:=Aside0.mk (hb);have n2_:=Aside0.mk (ho);clear BK139;clear HB;clear HO_3;have BK139:=n0_;have HB:=n1_;have HO146:=n2_;clear n0_ n1_ n2_;clear ho hb hg hat)))
   go_roundg k1
   case measure => have:=HK1.out;omega
   case rel => exact ⟨(y144),(wrap64 (x8_1 + 1)),(by first | rfl | (simp;done) | (simp [*];done)),H',⟨by have:=HK1.out;omega⟩,⟨by (with_reducible repeat (first | apply Kd.R_alloc | apply Kd.R_drewN | apply Kd.R_drew));exact HO146.out⟩,⟨by repeat (first | (with_reducible first | exact HB.out | apply below_alloc | apply pw_below_drewN | apply below_drew1 | refine below_set ?_ GE139.out) | exact HB.out)⟩⟩
/-! ### impl_RunKeys: function 24 -/
def impl_RunKeys.f (k : Nat) (l0 : List (S27)) : Option (List ByteArray):=(impl_RunOk.f k l0).bind fun t147 => (if t147 = true then ((impl_keysOf.f k l0).bind fun t148 => (some t148)) else (some ([] : List ByteArray)))
set_option maxHeartbeats 8000000 in
set_option maxRecDepth 100000 in
theorem impl_RunKeys.calls (k : Nat) (A0 : Option Addr) (c0 : Nat) (l0 : List (S27)) (r : List ByteArray) (w : World) (hr0 : Kd.C k27 w A0 l0.length l0) (hc0 : l0.length ≤ c0) (h : impl_RunKeys.f k l0 = some r) :
  Calls Try.prog 24 #[.slice A0 l0.length c0] w fun e w' => ∃ v0_ : Value,e = .returned (v0_) ∧ Kd.R Kd.string 9 w' w.heap.size (fun _ => True) v0_ r ∧ Below w.heap.size w w':=by
 have HR0:=Aside0.mk hr0
 have HC0:=Aside0.mk hc0
 clear hr0 hc0
 have HB:=Aside0.mk (Below.refl w.heap.size w)
 have H : ((impl_RunOk.f k l0).bind fun t147 => (if t147 = true then ((impl_keysOf.f k l0).bind fun t148 => (some t148)) else (some ([] : List ByteArray)))) = some r:=h
 clear h
 replace H:=Option.bind_eq_some_iff.mp H
 obtain ⟨t147,A20,H⟩:=H
 replace H : (if t147 = true then ((impl_keysOf.f k l0).bind fun t148 => (some t148)) else (some ([] : List ByteArray))) = some r:=H
 have A2:=Aside0.mk A20
 clear A20
 by_cases c3 : t147 = true
 rotate_left
 ·replace c3:=Bool.eq_false_iff.mpr c3
  subst c3
  have H1 : (some ([] : List ByteArray)) = some r:=by rw [if_neg (show ¬ (false = true) by decide)] at H;exact H
  clear H
  have H:=H1
  clear H1
  obtain rfl:=Option.some.inj H
  go_enter Try.func24,Try.ntmps24
  go_wp2_with (first | ((with_reducible refine gate_callee (f:=28) rfl ?_);refine goesL_ (some 4) rfl rfl Try.func28 (by kernel_rfl) rfl #[.slice A0 l0.length c0] rfl T6q4 ?_;(with_reducible refine (impl_RunOk.calls k _ _ l0 false _ ?side1 ?side2 A2.out).mono ?_);(case side1 => repeat (first | exact HR0.out | (with_reducible refine Kd.C_alloc ?_ _) | (with_reducible refine Kd.C_drewN ?_ _) | (with_reducible refine Kd.C_drew ?_)));(case side2 => exact HC0.out);rintro e w7 ⟨rfl,hb⟩;refine ⟨_,rfl,?_⟩;have n0_:=Aside0.mk (below_step (by repeat (first | (with_reducible first | exact HB.out | apply below_alloc | apply pw_below_drewN | apply below_drew1) | exact HB.out)) hb);clear HB;have HB:=n0_;clear n0_;(try clear hb);(try clear hb2);(try clear hk);(try clear hi)))
  go_ret
  exact ⟨_,by first | rfl | (simp [errW_none,errW_some] <;> rfl) | (simp [*,errW_none,errW_some] <;> rfl),by first | exact Kd.R_nil _ _ _ _ _ | exact Kd.N_nil _ _ _ _ _ | exact Kd.V_nil _ _ _ _ _ | exact Kd.Q_nil _ _ _ _ _ | exact Kd.S_nil _ _ _ _ _,by repeat (first | (with_reducible first | exact HB.out | apply below_alloc | apply pw_below_drewN | apply below_drew1) | exact HB.out)⟩
 subst c3
 have H1 : ((impl_keysOf.f k l0).bind fun t148 => (some t148)) = some r:=by rw [if_pos rfl] at H;exact H
 clear H
 have H:=H1
 clear H1
 replace H:=Option.bind_eq_some_iff.mp H
 obtain ⟨t148,A40,H⟩:=H
 replace H : (some t148) = some r:=H
 have A4:=Aside0.mk A40
 clear A40
 obtain rfl:=Option.some.inj H
 go_enter Try.func24,Try.ntmps24
 go_wp2_with (first | ((with_reducible refine gate_callee (f:=28) rfl ?_);refine goesL_ (some 4) rfl rfl Try.func28 (by kernel_rfl) rfl #[.slice A0 l0.length c0] rfl T6q4 ?_;(with_reducible refine (impl_RunOk.calls k _ _ l0 true _ ?side1 ?side2 A2.out).mono ?_);(case side1 => repeat (first | exact HR0.out | (with_reducible refine Kd.C_alloc ?_ _) | (with_reducible refine Kd.C_drewN ?_ _) | (with_reducible refine Kd.C_drew ?_)));(case side2 => exact HC0.out);rintro e w5 ⟨rfl,hb⟩;refine ⟨_,rfl,?_⟩;have n0_:=Aside0.mk (below_step (by repeat (first | (with_reducible first | exact HB.out | apply below_alloc | apply pw_below_drewN | apply below_drew1) | exact HB.out)) hb);clear HB;have HB:=n0_;clear n0_;(try clear hb);(try clear hb2);(try clear hk);(try clear hi)) | ((with_reducible refine gate_callee (f:=45) rfl ?_);refine goesL_ (some 7) rfl rfl Try.func45 (by kernel_rfl) rfl #[.slice A0 l0.length c0] rfl T6q4 ?_;(with_reducible refine (impl_keysOf.calls k _ _ l0 t148 _ ?side1 ?side2 A4.out).mono ?_);(case side1 => repeat (first | exact (Kd.C_below HR0.out HB.out) | (with_reducible refine Kd.C_alloc ?_ _) | (with_reducible refine Kd.C_drewN ?_ _) | (with_reducible refine Kd.C_drew ?_)));(case side2 => exact HC0.out);rintro e w6 ⟨v149,rfl,ho0,hb⟩;refine ⟨_,rfl,?_⟩;have n0_:=Aside0.mk (Kd.R_lower ho0 (below_size (by repeat (first | (with_reducible first | exact HB.out | apply below_alloc | apply pw_below_drewN | apply below_drew1) | exact HB.out))));have n1_:=Aside0.mk (below_step (by repeat (first | (with_reducible first | exact HB.out | apply below_alloc | apply pw_below_drewN | apply below_drew1) | exact HB.out)) hb);clear HB;have HO150:=n0_;have HB:=n1_;clear n0_ n1_;(try clear hb);(try clear hb2);(try clear hk);(try clear hi);(try clear ho0)))
 go_ret
 exact ⟨_,by first | rfl | (simp [errW_none,errW_some] <;> rfl) | (simp [*,errW_none,errW_some] <;> rfl),by (with_reducible repeat (first | apply Kd.R_alloc | apply Kd.R_drewN | apply Kd.R_drew));exact HO150.out,by repeat (first | (with_reducible first | exact HB.out | apply below_alloc | apply pw_below_drewN | apply below_drew1) | exact HB.out)⟩
/-- A state of type 68 at block g of W;what its slices lead to came in by w0. -/
def IsS68 (w0 W : World) (g : Nat) (f0 : List Int) (f1 : Int) : Prop:=∃ A0 c0,W.heap[g]? = some (.cells #[.slice A0 f0.length c0,.int .i64 f1] 68 (0,0)) ∧ w0.heap.size ≤ g ∧ Kd.C (Kd.int .u8) w0 A0 f0.length f0
theorem IsS68.grown {w0 W : World} {g : Nat} {f0 : List Int} {f1 : Int} {W1 : World} {row : Option Nat} (h : IsS68 w0 W g f0 f1) (hw : W.grownBy W1 row) (hne : some g ≠ row) : IsS68 w0 W1 g f0 f1:=by
 obtain ⟨A0,c0,hb,hg,hr0⟩:=h
 exact ⟨A0,c0,blk_grown hb hw hne,hg,hr0⟩
theorem IsS68.own_neN {w0 W : World} {g : Nat} {f0 : List Int} {f1 : Int} {α : Type} {d : Kd α} {e : Nat} {base : Nat} {ok : Nat → Prop} {v : Value} {xs : List α} (h : IsS68 w0 W g f0 f1) (ho : Kd.N d e W base ok v xs) (ht : e ≠ 68) : some g ≠ v.ownBlock:=by
 obtain ⟨A0,c0,hb,hg,hr0⟩:=h
 exact Kd.N_ne ho hb ht
theorem IsS68.fresh {w0 W : World} {g : Nat} {f0 : List Int} {f1 : Int} (h : IsS68 w0 W g f0 f1) : ∀ k,W.heap.size ≤ k → k ≠ g:=by
 obtain ⟨A0,c0,hb,hg,hr0⟩:=h
 exact Kd.freshB hb
theorem IsS68.kept {w0 W : World} {g : Nat} {f0 : List Int} {f1 : Int} {W1 : World} {S : Nat → Prop} (h : IsS68 w0 W g f0 f1) (hk : Kept W W1 S) (hne : ¬ S g) : IsS68 w0 W1 g f0 f1:=by
 obtain ⟨A0,c0,hb,hg,hr0⟩:=h
 exact ⟨A0,c0,blk_kept hb hk hne,hg,hr0⟩
theorem IsS68.below {w0 W : World} {g : Nat} {f0 : List Int} {f1 : Int} {W1 : World} (h : IsS68 w0 W g f0 f1) (hw : Below W.heap.size W W1) : IsS68 w0 W1 g f0 f1:=h.grown (grown_of_below hw none) (by simp)
theorem IsS68.alloc {w0 W : World} {g : Nat} {f0 : List Int} {f1 : Int} (h : IsS68 w0 W g f0 f1) (o : Obj) : IsS68 w0 (W.alloc o) g f0 f1:=h.below (below_alloc (Below.refl _ _) o)
theorem IsS68.drewN {w0 W : World} {g : Nat} {f0 : List Int} {f1 : Int} (h : IsS68 w0 W g f0 f1) (m : Nat) : IsS68 w0 (W.drewN m) g f0 f1:=h
theorem IsS68.drew {w0 W : World} {g : Nat} {f0 : List Int} {f1 : Int} (h : IsS68 w0 W g f0 f1) : IsS68 w0 W.drew g f0 f1:=h
theorem IsS68.apart {w0 W : World} {g : Nat} {f0 : List Int} {f1 : Int} {α : Type} {d : Kd α} {e : Nat} {base : Nat} {ok : Nat → Prop} {v : Value} {xs : List α} (h : IsS68 w0 W g f0 f1) (ho : d.R e W base ok v xs) (ht : ∀ q,q ∈ e :: d.E → q ≠ 68) : d.R e W base (fun k => ok k ∧ k ≠ g) v xs:=by
 obtain ⟨A0,c0,hb,hg,hr0⟩:=h
 exact Kd.R_types ho hb ht
theorem IsS68.own_ne {w0 W : World} {g : Nat} {f0 : List Int} {f1 : Int} {α : Type} {d : Kd α} {e : Nat} {base : Nat} {ok : Nat → Prop} {v : Value} {xs : List α} (h : IsS68 w0 W g f0 f1) (ho : d.R e W base ok v xs) (ht : e ≠ 68) : some g ≠ v.ownBlock:=by
 obtain ⟨A0,c0,hb,hg,hr0⟩:=h
 exact Kd.R_ne ho hb ht
theorem IsS68.apartQ {w0 W : World} {g : Nat} {f0 : List Int} {f1 : Int} {α : Type} {d : Kd α} {e : Nat} {base : Nat} {ok : Nat → Prop} {v : Value} {xs : List α} (h : IsS68 w0 W g f0 f1) (ho : d.Q e W base ok v xs) (ht : ∀ q,q ∈ e :: d.E → q ≠ 68) : d.Q e W base (fun k => ok k ∧ k ≠ g) v xs:=by
 obtain ⟨A0,c0,hb,hg,hr0⟩:=h
 exact Kd.Q_types ho hb ht
theorem IsS68.own_neQ {w0 W : World} {g : Nat} {f0 : List Int} {f1 : Int} {α : Type} {d : Kd α} {e : Nat} {base : Nat} {ok : Nat → Prop} {v : Value} {xs : List α} (h : IsS68 w0 W g f0 f1) (ho : d.Q e W base ok v xs) (ht : e ≠ 68) : some g ≠ v.ownBlock:=by
 obtain ⟨A0,c0,hb,hg,hr0⟩:=h
 exact Kd.Q_ne ho hb ht
theorem IsS68.apartS {w0 W : World} {g : Nat} {f0 : List Int} {f1 : Int} {α : Type} {d : Kd α} {e : Nat} {base : Nat} {ok : Nat → Prop} {v : Value} {xs : List α} (h : IsS68 w0 W g f0 f1) (ho : d.S e W base ok v xs) (ht : ∀ q,q ∈ e :: d.E → q ≠ 68) : d.S e W base (fun k => ok k ∧ k ≠ g) v xs:=by
 obtain ⟨A0,c0,hb,hg,hr0⟩:=h
 exact Kd.S_types ho hb ht
theorem IsS68.own_neS {w0 W : World} {g : Nat} {f0 : List Int} {f1 : Int} {α : Type} {d : Kd α} {e : Nat} {base : Nat} {ok : Nat → Prop} {v : Value} {xs : List α} (h : IsS68 w0 W g f0 f1) (ho : d.S e W base ok v xs) (ht : e ≠ 68) : some g ≠ v.ownBlock:=by
 obtain ⟨A0,c0,hb,hg,hr0⟩:=h
 exact Kd.S_ne ho hb ht
theorem IsS68.lt {w0 W : World} {g : Nat} {f0 : List Int} {f1 : Int} (h : IsS68 w0 W g f0 f1) : g < W.heap.size:=by
 obtain ⟨A0,c0,hb,hg,hr0⟩:=h
 exact blk_lt hb
theorem IsS68.ge {w0 W : World} {g : Nat} {f0 : List Int} {f1 : Int} (h : IsS68 w0 W g f0 f1) : w0.heap.size ≤ g:=by
 obtain ⟨A0,c0,hb,hg,hr0⟩:=h
 exact hg
theorem IsS68.ne_blk {w0 W : World} {g : Nat} {f0 : List Int} {f1 : Int} {a : Nat} {cs : Array Value} {t : TypeId} {fr : Nat × Nat} (h : IsS68 w0 W g f0 f1) (hb2 : W.heap[a]? = some (.cells cs t fr)) (ht : t ≠ 68) : g ≠ a:=by
 obtain ⟨A0,c0,hb,hg,hr0⟩:=h
 rintro rfl
 rw [hb] at hb2
 injection hb2 with hb2
 injection hb2 with _ ht2
 exact ht ht2.symm
theorem IsS68.far {w0 W : World} {g : Nat} {f0 : List Int} {f1 : Int} {p : Addr} (h : IsS68 w0 W g f0 f1) (hne : g ≠ p.block) (u : Value) : IsS68 w0 (W.setCell p u) g f0 f1:=by
 obtain ⟨A0,c0,hb,hg,hr0⟩:=h
 exact ⟨A0,c0,blk_far hb hne u,hg,hr0⟩
theorem cellS68_0 {W : World} {g : Nat} {A0 : Option Addr} {c0 : Nat} {f0 : List Int} {f1 : Int} (h : W.heap[g]? = some (.cells #[.slice A0 f0.length c0,.int .i64 f1] 68 (0,0))) : W.cell? ⟨g,0,none⟩ = some (.slice A0 f0.length c0):=(blk_cell h 0).trans rfl
theorem cellS68_1 {W : World} {g : Nat} {A0 : Option Addr} {c0 : Nat} {f0 : List Int} {f1 : Int} (h : W.heap[g]? = some (.cells #[.slice A0 f0.length c0,.int .i64 f1] 68 (0,0))) : W.cell? ⟨g,1,none⟩ = some (.int .i64 f1):=(blk_cell h 1).trans rfl
theorem IsS68.set_1 {w0 W : World} {g : Nat} {f0 : List Int} {f1 : Int} (h : IsS68 w0 W g f0 f1) (x : Int) : IsS68 w0 (W.setCell ⟨g,1,none⟩ (.int .i64 x)) g f0 x:=by
 obtain ⟨A0,c0,hb,hg,hr0⟩:=h
 exact ⟨A0,c0,by simpa using blk_set hb 1 (.int .i64 x),hg,hr0⟩
theorem IsS68.new (w0 W : World) (A0 : Option Addr) (c0 : Nat) (f0 : List Int) (f1 : Int) (hB : Below w0.heap.size w0 W) (hr0 : Kd.C (Kd.int .u8) w0 A0 f0.length f0) : IsS68 w0 (W.alloc (.cells #[.slice A0 f0.length c0,.int .i64 f1] 68)) W.heap.size f0 f1:=⟨A0,c0,by simpa using heap_alloc_new W _,hB.size,hr0⟩

/-! ### spec_l6Open: function 34 -/
def spec_l6Open.f (l0 : List Int) : Option (List Int × Int):=if (l0.length : Int) > 2000 then (if 2000 ≤ (l0.length : Int) then (some (l0.take 2000,0)) else (none)) else (some (l0,0))
set_option maxHeartbeats 8000000 in
set_option maxRecDepth 100000 in
theorem spec_l6Open.calls (A0 : Option Addr) (c0 : Nat) (l0 : List Int) (r1 : List Int) (r2 : Int) (w0 w : World) (hB : Below w0.heap.size w0 w) (hr0 : Kd.C (Kd.int .u8) w0 A0 l0.length l0) (hc0 : l0.length ≤ c0) (h : spec_l6Open.f l0 = some (r1,r2)) :
  Calls Try.prog 34 #[.slice A0 l0.length c0] w fun e w' => ∃ g_ : Nat,e = .returned (.pointer (some ⟨g_,0,none⟩)) ∧ IsS68 w0 w' g_ r1 r2 ∧ Below w0.heap.size w0 w' ∧ Below w.heap.size w w':=by
 have hu68:=Try.underlying68
 have HR0:=Aside0.mk hr0
 have HC0:=Aside0.mk hc0
 clear hr0 hc0
 have HBW:=Aside0.mk (Below.refl w.heap.size w)
 have HW0:=Aside0.mk hB.size
 have HB:=Aside0.mk hB
 clear hB
 have H : (if (l0.length : Int) > 2000 then (if 2000 ≤ (l0.length : Int) then (some (l0.take 2000,0)) else (none)) else (some (l0,0))) = some (r1,r2):=h
 clear h
 by_cases c2 : (l0.length : Int) > 2000
 rotate_left
 ·rw [if_neg c2] at H
  have c2b0 : decide (2000 < (l0.length : Int)) = false:=decide_eq_false c2
  have c2b1 : decide (2000 < l0.length) = false:=decide_eq_false (by omega)
  clear c2
  simp only [Option.some.injEq,Prod.mk.injEq] at H
  obtain ⟨rfl,rfl⟩:=H
  go_enter Try.func34,Try.ntmps34
  go_wp2_with (first | ((with_reducible refine gate_dst (N:=10) rfl ?_);refine box_event ?hg (N:=10) ?hd (cs:=#[.slice A0 l0.length c0,.int .i64 0]) (t:=68) ?hr ?_;(case hd => rfl);(case hg => rfl);(case hr => first | (go_simp;done) | (go_simp;rfl));intro gb153 hg w6 hbox hb;have n0_:=Aside0.mk (below_step HBW.out hb);have n1_:=Aside0.mk (below_step (by repeat (first | (with_reducible first | exact HB.out | apply below_alloc | apply pw_below_drewN | apply below_drew1) | exact HB.out)) hb);have n2_:=Aside0.mk (hbox);have n3_:=Aside0.mk ((by rw [hg];exact (below_size (by repeat (first | (with_reducible first | exact HBW.out | apply below_alloc | apply pw_below_drewN | apply below_drew1) | exact HBW.out))) : w.heap.size ≤ gb153));have n4_:=Aside0.mk ((Nat.le_trans HW0.out (by rw [hg];exact (below_size (by repeat (first | (with_reducible first | exact HBW.out | apply below_alloc | apply pw_below_drewN | apply below_drew1) | exact HBW.out))) : w.heap.size ≤ gb153) : w0.heap.size ≤ gb153));clear HBW;clear HB;have HBW:=n0_;have HB:=n1_;have BK153:=n2_;have GW153:=n3_;have GE153:=n4_;clear n0_ n1_ n2_ n3_ n4_;clear hb hbox hg))
  go_ret
  exact ⟨_,rfl,(show IsS68 w0 _ gb153 l0 0 from ⟨_,_,by (with_reducible repeat (first | refine blk_drewN ?_ _ | refine blk_drew ?_ | refine blk_alloc ?_ _));exact BK153.out,GE153.out,HR0.out⟩),by repeat (first | (with_reducible first | exact HB.out | apply below_alloc | apply pw_below_drewN | apply below_drew1 | refine below_set ?_ GE153.out) | exact HB.out),by repeat (first | (with_reducible first | exact HBW.out | apply below_alloc | apply pw_below_drewN | apply below_drew1 | refine below_set ?_ GW153.out) | exact HBW.out)⟩
 rw [if_pos c2] at H
 have c2b0 : decide (2000 < (l0.length : Int)) = true:=decide_eq_true c2
 have c2b1 : decide (2000 < l0.length) = true:=decide_eq_true (by omega)
 clear c2
 by_cases c3 : 2000 ≤ (l0.length : Int)
 rotate_left
 ·rw [if_neg c3] at H
  exact absurd H (by simp)
 rw [if_pos c3] at H
 have c3b0:=eq_true c3
 have c3b1 : decide (2000 ≤ (l0.length : Int)) = true:=decide_eq_true c3
 clear c3
 simp only [Option.some.injEq,Prod.mk.injEq] at H
 obtain ⟨rfl,rfl⟩:=H
 obtain ⟨i04,hi04,_,hsz4,_⟩:=info_parts info5
 obtain ⟨hcut4,hA4,hC4⟩:=print_take_of (P:=Try.prog) (Value.int .u8) 0 22 5 .i64 Try.underlying22 hi04 hsz4 A0 c0 l0 2000 (by omega) (of_decide_eq_true T6q1) HC0.out
 have HR151:=Aside0.mk (Kd.C_of_reads (h1:=fun _ => rfl) (hA4 _ (Kd.reads_of_C HR0.out)))
 have HC151:=Aside0.mk hC4
 clear hA4 hC4 hi04 hsz4
 go_enter Try.func34,Try.ntmps34
 go_wp2_with (first | ((with_reducible refine gate_dst (N:=10) rfl ?_);refine box_event ?hg (N:=10) ?hd (cs:=#[.slice A0 (l0.take 2000).length c0,.int .i64 0]) (t:=68) ?hr ?_;(case hd => rfl);(case hg => rfl);(case hr => first | (go_simp;done) | (go_simp;rfl));intro gb152 hg w5 hbox hb;have n0_:=Aside0.mk (below_step HBW.out hb);have n1_:=Aside0.mk (below_step (by repeat (first | (with_reducible first | exact HB.out | apply below_alloc | apply pw_below_drewN | apply below_drew1) | exact HB.out)) hb);have n2_:=Aside0.mk (hbox);have n3_:=Aside0.mk ((by rw [hg];exact (below_size (by repeat (first | (with_reducible first | exact HBW.out | apply below_alloc | apply pw_below_drewN | apply below_drew1) | exact HBW.out))) : w.heap.size ≤ gb152));have n4_:=Aside0.mk ((Nat.le_trans HW0.out (by rw [hg];exact (below_size (by repeat (first | (with_reducible first | exact HBW.out | apply below_alloc | apply pw_below_drewN | apply below_drew1) | exact HBW.out))) : w.heap.size ≤ gb152) : w0.heap.size ≤ gb152));clear HBW;clear HB;have HBW:=n0_;have HB:=n1_;have BK152:=n2_;have GW152:=n3_;have GE152:=n4_;clear n0_ n1_ n2_ n3_ n4_;clear hb hbox hg))
 go_ret
 exact ⟨_,rfl,(show IsS68 w0 _ gb152 (l0.take 2000) 0 from ⟨_,_,by (with_reducible repeat (first | refine blk_drewN ?_ _ | refine blk_drew ?_ | refine blk_alloc ?_ _));exact BK152.out,GE152.out,HR151.out⟩),by repeat (first | (with_reducible first | exact HB.out | apply below_alloc | apply pw_below_drewN | apply below_drew1 | refine below_set ?_ GE152.out) | exact HB.out),by repeat (first | (with_reducible first | exact HBW.out | apply below_alloc | apply pw_below_drewN | apply below_drew1 | refine below_set ?_ GW152.out) | exact HBW.out)⟩
/-! ### spec_l6Rd_pick: function 38 -/
def spec_l6Rd_pick.j0 : Nat → Int → Bool → List Int → Int → Option (Int × Int)
 | 0,_,_,_,_ => none
 | k + 1,x1,x24,x1000,x1001 => if x24 = true then (some (0,x1001)) else (if (wrap64 (x1001 - 1)) < (x1000.length : Int) then (if 0 ≤ (wrap64 (x1001 - 1)) then (if x1 = 0 then (none) else (some (Int.tmod (wrap64 (rd x1000 (wrap64 (x1001 - 1)))) x1,x1001))) else (none)) else (if (x1000.length : Int) = 0 then (none) else (if 0 ≤ (Int.tmod (wrap64 (x1001 - 1)) (x1000.length : Int)) then (if (Int.tmod (wrap64 (x1001 - 1)) (x1000.length : Int)) < (x1000.length : Int) then (if 0 ≤ (Int.tmod (wrap64 ((wrap64 ((wrap64 (x1001 - 1)) * 7)) + 3)) (x1000.length : Int)) then (if (Int.tmod (wrap64 ((wrap64 ((wrap64 (x1001 - 1)) * 7)) + 3)) (x1000.length : Int)) < (x1000.length : Int) then (if x1 = 0 then (none) else (some (Int.tmod (Go.bits .xor .i64 (wrap64 ((wrap64 ((wrap64 ((wrap64 ((wrap64 (rd x1000 (Int.tmod (wrap64 (x1001 - 1)) (x1000.length : Int)))) * 131)) + (wrap64 ((wrap64 (rd x1000 (Int.tmod (wrap64 ((wrap64 ((wrap64 (x1001 - 1)) * 7)) + 3)) (x1000.length : Int)))) * 1117)))) + (wrap64 ((wrap64 (x1001 - 1)) * 29)))) + (wrap64 ((wrap64 (Int.tdiv (wrap64 (x1001 - 1)) (x1000.length : Int))) * 53)))) (wrap64 (Int.tdiv (wrap64 ((wrap64 ((wrap64 ((wrap64 ((wrap64 (rd x1000 (Int.tmod (wrap64 (x1001 - 1)) (x1000.length : Int)))) * 131)) + (wrap64 ((wrap64 (rd x1000 (Int.tmod (wrap64 ((wrap64 ((wrap64 (x1001 - 1)) * 7)) + 3)) (x1000.length : Int)))) * 1117)))) + (wrap64 ((wrap64 (x1001 - 1)) * 29)))) + (wrap64 ((wrap64 (Int.tdiv (wrap64 (x1001 - 1)) (x1000.length : Int))) * 53)))) 64))) x1,x1001))) else (none)) else (none)) else (none)) else (none))))
def spec_l6Rd_pick.f (k : Nat) (s0_0 : List Int) (s0_1 : Int) (a1 : Int) : Option (Int × Int):=if a1 < 1 then (spec_l6Rd_pick.j0 k a1 true s0_0 (wrap64 (s0_1 + 1))) else (spec_l6Rd_pick.j0 k a1 ((s0_0.length : Int) == 0) s0_0 (wrap64 (s0_1 + 1)))
set_option maxHeartbeats 8000000 in
set_option maxRecDepth 100000 in
theorem spec_l6Rd_pick.calls (k : Nat) (g : Nat) (s0_0 : List Int) (s0_1 : Int) (a1 : Int) (r1 : Int) (r2 : Int) (w0 w : World) (hI : IsS68 w0 w g s0_0 s0_1) (hB : Below w0.heap.size w0 w) (h : spec_l6Rd_pick.f k s0_0 s0_1 a1 = some (r1,r2)) :
  Calls Try.prog 38 #[.pointer (some ⟨g,0,none⟩),.int .i64 a1] w fun e w' => e = .returned (.int .i64 r1) ∧ IsS68 w0 w' g s0_0 r2 ∧ Below w0.heap.size w0 w' ∧ KeepBut w w' g none:=by
 have HI0:=Aside0.mk hI
 have HK:=Aside0.mk (KeepBut.refl w g none)
 have HL:=Aside0.mk hB.size
 clear hI
 have HW0:=Aside0.mk hB.size
 have HB:=Aside0.mk hB
 clear hB
 have H : (if a1 < 1 then (spec_l6Rd_pick.j0 k a1 true s0_0 (wrap64 (s0_1 + 1))) else (spec_l6Rd_pick.j0 k a1 ((s0_0.length : Int) == 0) s0_0 (wrap64 (s0_1 + 1)))) = some (r1,r2):=h
 clear h
 have HC3:=Aside0.mk H
 clear H
 obtain ⟨ASz4_0,cSz4_0,HGz4,hgz4,HSz4_0⟩:=HI0.out
 have hcz4_0:=cellS68_0 HGz4
 have hcz4_1:=cellS68_1 HGz4
 have hfz4_1:=blk_frozen HGz4 1
 clear HGz4 hgz4
 go_enter Try.func38,Try.ntmps38
 go_upto_region 2 with (fail)
 repeat (go_quiet (fail);go_upto_region 2 with (fail))
 go_cut [24] (fun v24 wc => ∃ (kq : Nat) (x24_2 : Bool),v24 = .bool x24_2 ∧ Aside0 (spec_l6Rd_pick.j0 kq a1 x24_2 s0_0 (wrap64 (s0_1 + 1)) = some (r1,r2)) ∧ Aside0 (kq ≤ k) ∧ Aside0 (IsS68 w0 wc g s0_0 (wrap64 (s0_1 + 1))) ∧ Aside0 (KeepBut w wc g none) ∧ Aside0 (Below w0.heap.size w0 wc))
 case first =>
  have H:=HC3.out
  clear HC3
  by_cases c5 : a1 < 1
  ·rw [if_pos c5] at H
   have c5b0 : decide (a1 < 1) = true:=decide_eq_true c5
   clear c5
   (first | rw [c5b0] | (simp only [i64_w,i32_w];rw [c5b0]) | skip)
   have H':=Aside0.mk H
   clear H
   go_wp2
   repeat (go_quiet (fail);try go_wp2)
   go_meet
   case rel => exact ⟨_,(true),(by first | rfl | (simp;done) | (simp [*];done)),H',⟨by first | omega | exact Nat.le_refl _⟩,⟨by repeat (first | (with_reducible first | exact HI0.out | apply IsS68.alloc | apply IsS68.drewN | apply IsS68.drew | apply IsS68.set_1) | exact HI0.out)⟩,⟨by repeat (first | (with_reducible first | exact HK.out | apply KeepBut.set_ | apply keep_drewN | apply keep_drew | apply keep_alloc) | exact HK.out)⟩,⟨by repeat (first | (with_reducible first | exact HB.out | apply below_alloc | apply pw_below_drewN | apply below_drew1 | refine below_set ?_ (IsS68.ge HI0.out)) | exact HB.out)⟩⟩
  rw [if_neg c5] at H
  have c5b0 : decide (a1 < 1) = false:=decide_eq_false c5
  clear c5
  (first | rw [c5b0] | (simp only [i64_w,i32_w];rw [c5b0]) | skip)
  have H':=Aside0.mk H
  clear H
  obtain ⟨ASz6_0,cSz6_0,HGz6,hgz6,HSz6_0⟩:=HI0.out
  have hcz6_0:=cellS68_0 HGz6
  have hcz6_1:=cellS68_1 HGz6
  have hfz6_1:=blk_frozen HGz6 1
  clear HGz6 hgz6
  go_wp2
  repeat (go_quiet (fail);try go_wp2)
  go_meet
  case rel => exact ⟨_,(((s0_0.length : Int) == 0)),(by first | rfl | (simp;done) | (simp [*];done)),H',⟨by first | omega | exact Nat.le_refl _⟩,⟨by repeat (first | (with_reducible first | exact HI0.out | apply IsS68.alloc | apply IsS68.drewN | apply IsS68.drew | apply IsS68.set_1) | exact HI0.out)⟩,⟨by repeat (first | (with_reducible first | exact HK.out | apply KeepBut.set_ | apply keep_drewN | apply keep_drew | apply keep_alloc) | exact HK.out)⟩,⟨by repeat (first | (with_reducible first | exact HB.out | apply below_alloc | apply pw_below_drewN | apply below_drew1 | refine below_set ?_ (IsS68.ge HI0.out)) | exact HB.out)⟩⟩
 case rest =>
  clear HC3
  try clear p2
  try clear c3
  try clear c5
  try clear c5b0
  try clear p6
  try clear hcz4_0
  try clear hcz4_1
  try clear hcz6_0
  try clear hcz6_1
  try clear hfz4_1
  try clear hfz6_1
  obtain ⟨kq,x24_2,rfl,HA,HJ2,HI0,HK,HB⟩:=hcut
  cases kq with
  | zero => exact absurd HA.out (by simp [spec_l6Rd_pick.j0])
  | succ kj2 =>
   have H:=HA.out
   clear HA
   simp only [spec_l6Rd_pick.j0] at H
   by_cases c7 : x24_2 = true
   ·subst c7
    have H1 : (some (0,(wrap64 (s0_1 + 1)))) = some (r1,r2):=by rw [if_pos rfl] at H;exact H
    clear H
    have H:=H1
    clear H1
    simp only [Option.some.injEq,Prod.mk.injEq] at H
    obtain ⟨rfl,rfl⟩:=H
    go_wp2
    repeat (go_quiet (fail);try go_wp2)
    go_ret
    exact ⟨by first | rfl | (simp [errW_none,errW_some] <;> rfl) | (simp [*,errW_none,errW_some] <;> rfl),by repeat (first | (with_reducible first | exact HI0.out | apply IsS68.alloc | apply IsS68.drewN | apply IsS68.drew | apply IsS68.set_1) | exact HI0.out),by repeat (first | (with_reducible first | exact HB.out | apply below_alloc | apply pw_below_drewN | apply below_drew1 | refine below_set ?_ (IsS68.ge HI0.out)) | exact HB.out),by repeat (first | (with_reducible first | exact HK.out | apply KeepBut.set_ | apply keep_drewN | apply keep_drew | apply keep_alloc) | exact HK.out)⟩
   replace c7:=Bool.eq_false_iff.mpr c7
   subst c7
   have H1 : (if (wrap64 ((wrap64 (s0_1 + 1)) - 1)) < (s0_0.length : Int) then (if 0 ≤ (wrap64 ((wrap64 (s0_1 + 1)) - 1)) then (if a1 = 0 then (none) else (some (Int.tmod (wrap64 (rd s0_0 (wrap64 ((wrap64 (s0_1 + 1)) - 1)))) a1,(wrap64 (s0_1 + 1))))) else (none)) else (if (s0_0.length : Int) = 0 then (none) else (if 0 ≤ (Int.tmod (wrap64 ((wrap64 (s0_1 + 1)) - 1)) (s0_0.length : Int)) then (if (Int.tmod (wrap64 ((wrap64 (s0_1 + 1)) - 1)) (s0_0.length : Int)) < (s0_0.length : Int) then (if 0 ≤ (Int.tmod (wrap64 ((wrap64 ((wrap64 ((wrap64 (s0_1 + 1)) - 1)) * 7)) + 3)) (s0_0.length : Int)) then (if (Int.tmod (wrap64 ((wrap64 ((wrap64 ((wrap64 (s0_1 + 1)) - 1)) * 7)) + 3)) (s0_0.length : Int)) < (s0_0.length : Int) then (if a1 = 0 then (none) else (some (Int.tmod (Go.bits .xor .i64 (wrap64 ((wrap64 ((wrap64 ((wrap64 ((wrap64 (rd s0_0 (Int.tmod (wrap64 ((wrap64 (s0_1 + 1)) - 1)) (s0_0.length : Int)))) * 131)) + (wrap64 ((wrap64 (rd s0_0 (Int.tmod (wrap64 ((wrap64 ((wrap64 ((wrap64 (s0_1 + 1)) - 1)) * 7)) + 3)) (s0_0.length : Int)))) * 1117)))) + (wrap64 ((wrap64 ((wrap64 (s0_1 + 1)) - 1)) * 29)))) + (wrap64 ((wrap64 (Int.tdiv (wrap64 ((wrap64 (s0_1 + 1)) - 1)) (s0_0.length : Int))) * 53)))) (wrap64 (Int.tdiv (wrap64 ((wrap64 ((wrap64 ((wrap64 ((wrap64 (rd s0_0 (Int.tmod (wrap64 ((wrap64 (s0_1 + 1)) - 1)) (s0_0.length : Int)))) * 131)) + (wrap64 ((wrap64 (rd s0_0 (Int.tmod (wrap64 ((wrap64 ((wrap64 ((wrap64 (s0_1 + 1)) - 1)) * 7)) + 3)) (s0_0.length : Int)))) * 1117)))) + (wrap64 ((wrap64 ((wrap64 (s0_1 + 1)) - 1)) * 29)))) + (wrap64 ((wrap64 (Int.tdiv (wrap64 ((wrap64 (s0_1 + 1)) - 1)) (s0_0.length : Int))) * 53)))) 64))) a1,(wrap64 (s0_1 + 1))))) else (none)) else (none)) else (none)) else (none)))) = some (r1,r2):=by rw [if_neg (show ¬ (false = true) by decide)] at H;exact H
   clear H
   have H:=H1
   clear H1
   by_cases c8 : (wrap64 ((wrap64 (s0_1 + 1)) - 1)) < (s0_0.length : Int)
   ·rw [if_pos c8] at H
    have c8b0 : decide ((wrap64 ((wrap64 (s0_1 + 1)) - 1)) < (s0_0.length : Int)) = true:=decide_eq_true c8
    clear c8
    obtain ⟨ji9,hji9⟩ : ∃ j_ : Int,(wrap64 ((wrap64 (s0_1 + 1)) - 1)) = j_:=⟨_,rfl⟩
    replace H : (if 0 ≤ (ji9) then (if a1 = 0 then (none) else (some (Int.tmod (wrap64 (rd s0_0 (ji9))) a1,(wrap64 (s0_1 + 1))))) else (none)) = some (r1,r2):=by first | (rw [hji9] at H;exact H) | (simp only [hji9] at H ⊢;exact H)
    (try rw [hji9] at c8b0)
    have hji9w : (IntKind.i64.wrap ((wrap64 (s0_1 + 1)) - 1)) = ji9:=(i64_w _).trans hji9
    by_cases c10 : 0 ≤ (ji9)
    rotate_left
    ·rw [if_neg c10] at H
     exact absurd H (by simp)
    rw [if_pos c10] at H
    have c10b0 : decide (0 ≤ (ji9)) = true:=decide_eq_true c10
    clear c10
    by_cases c11 : a1 = 0
    ·rw [if_pos c11] at H
     exact absurd H (by simp)
    rw [if_neg c11] at H
    have c11b0 : (a1 == 0) = false:=beq_eq_false_iff_ne.mpr c11
    have c11b1 : (a1 != 0) = true:=bne_iff_ne.mpr c11
    simp only [Option.some.injEq,Prod.mk.injEq] at H
    obtain ⟨rfl,rfl⟩:=H
    obtain ⟨ASz12_0,cSz12_0,HGz12,hgz12,HSz12_0⟩:=HI0.out
    have hcz12_0:=cellS68_0 HGz12
    have hcz12_1:=cellS68_1 HGz12
    have hfz12_1:=blk_frozen HGz12 1
    clear HGz12 hgz12
    have p154 : 0 ≤ ((ji9) : Int):=of_decide_eq_true T6q1
    have q154 : (ji9) < (s0_0.length : Int):=of_decide_eq_true T6q1
    obtain ⟨ad154,e154,hx154_0⟩:=Kd.at_int HSz12_0 (ji9) p154 q154
    cases e154
    replace hx154_0:=pw_cell_below HB.out hx154_0
    replace p154:=eq_true p154
    replace q154:=eq_true q154
    go_wp2
    repeat (go_quiet (fail);try go_wp2)
    go_ret
    exact ⟨by first | rfl | (simp [errW_none,errW_some] <;> rfl) | (simp only [← hji9];first | rfl | (simp [errW_none,errW_some] <;> rfl)) | (simp [*,errW_none,errW_some] <;> rfl),by repeat (first | (with_reducible first | exact HI0.out | apply IsS68.alloc | apply IsS68.drewN | apply IsS68.drew | apply IsS68.set_1) | exact HI0.out),by repeat (first | (with_reducible first | exact HB.out | apply below_alloc | apply pw_below_drewN | apply below_drew1 | refine below_set ?_ (IsS68.ge HI0.out)) | exact HB.out),by repeat (first | (with_reducible first | exact HK.out | apply KeepBut.set_ | apply keep_drewN | apply keep_drew | apply keep_alloc) | exact HK.out)⟩
   rw [if_neg c8] at H
   have c8b0 : decide ((wrap64 ((wrap64 (s0_1 + 1)) - 1)) < (s0_0.length : Int)) = false:=decide_eq_false c8
   clear c8
   by_cases c13 : (s0_0.length : Int) = 0
   ·rw [if_pos c13] at H
    exact absurd H (by simp)
   rw [if_neg c13] at H
   have c13b0 : ((s0_0.length : Int) == 0) = false:=beq_eq_false_iff_ne.mpr c13
   have c13b1 : ((s0_0.length : Int) != 0) = true:=bne_iff_ne.mpr c13
   have c13b2 : ¬ (s0_0 = []):=fun h_ => c13 (by rw [h_];rfl)
   obtain ⟨ji14,hji14⟩ : ∃ j_ : Int,(Int.tmod (wrap64 ((wrap64 (s0_1 + 1)) - 1)) (s0_0.length : Int)) = j_:=⟨_,rfl⟩
   replace H : (if 0 ≤ (ji14) then (if (ji14) < (s0_0.length : Int) then (if 0 ≤ (Int.tmod (wrap64 ((wrap64 ((wrap64 ((wrap64 (s0_1 + 1)) - 1)) * 7)) + 3)) (s0_0.length : Int)) then (if (Int.tmod (wrap64 ((wrap64 ((wrap64 ((wrap64 (s0_1 + 1)) - 1)) * 7)) + 3)) (s0_0.length : Int)) < (s0_0.length : Int) then (if a1 = 0 then (none) else (some (Int.tmod (Go.bits .xor .i64 (wrap64 ((wrap64 ((wrap64 ((wrap64 ((wrap64 (rd s0_0 (ji14))) * 131)) + (wrap64 ((wrap64 (rd s0_0 (Int.tmod (wrap64 ((wrap64 ((wrap64 ((wrap64 (s0_1 + 1)) - 1)) * 7)) + 3)) (s0_0.length : Int)))) * 1117)))) + (wrap64 ((wrap64 ((wrap64 (s0_1 + 1)) - 1)) * 29)))) + (wrap64 ((wrap64 (Int.tdiv (wrap64 ((wrap64 (s0_1 + 1)) - 1)) (s0_0.length : Int))) * 53)))) (wrap64 (Int.tdiv (wrap64 ((wrap64 ((wrap64 ((wrap64 ((wrap64 (rd s0_0 (ji14))) * 131)) + (wrap64 ((wrap64 (rd s0_0 (Int.tmod (wrap64 ((wrap64 ((wrap64 ((wrap64 (s0_1 + 1)) - 1)) * 7)) + 3)) (s0_0.length : Int)))) * 1117)))) + (wrap64 ((wrap64 ((wrap64 (s0_1 + 1)) - 1)) * 29)))) + (wrap64 ((wrap64 (Int.tdiv (wrap64 ((wrap64 (s0_1 + 1)) - 1)) (s0_0.length : Int))) * 53)))) 64))) a1,(wrap64 (s0_1 + 1))))) else (none)) else (none)) else (none)) else (none)) = some (r1,r2):=by first | (rw [hji14] at H;exact H) | (simp only [hji14] at H ⊢;exact H)
   by_cases c15 : 0 ≤ (ji14)
   rotate_left
   ·rw [if_neg c15] at H
    exact absurd H (by simp)
   rw [if_pos c15] at H
   have c15b0 : decide (0 ≤ (ji14)) = true:=decide_eq_true c15
   clear c15
   by_cases c16 : (ji14) < (s0_0.length : Int)
   rotate_left
   ·rw [if_neg c16] at H
    exact absurd H (by simp)
   rw [if_pos c16] at H
   have c16b0 : decide ((ji14) < (s0_0.length : Int)) = true:=decide_eq_true c16
   clear c16
   obtain ⟨ji17,hji17⟩ : ∃ j_ : Int,(Int.tmod (wrap64 ((wrap64 ((wrap64 ((wrap64 (s0_1 + 1)) - 1)) * 7)) + 3)) (s0_0.length : Int)) = j_:=⟨_,rfl⟩
   replace H : (if 0 ≤ (ji17) then (if (ji17) < (s0_0.length : Int) then (if a1 = 0 then (none) else (some (Int.tmod (Go.bits .xor .i64 (wrap64 ((wrap64 ((wrap64 ((wrap64 ((wrap64 (rd s0_0 (ji14))) * 131)) + (wrap64 ((wrap64 (rd s0_0 (ji17))) * 1117)))) + (wrap64 ((wrap64 ((wrap64 (s0_1 + 1)) - 1)) * 29)))) + (wrap64 ((wrap64 (Int.tdiv (wrap64 ((wrap64 (s0_1 + 1)) - 1)) (s0_0.length : Int))) * 53)))) (wrap64 (Int.tdiv (wrap64 ((wrap64 ((wrap64 ((wrap64 ((wrap64 (rd s0_0 (ji14))) * 131)) + (wrap64 ((wrap64 (rd s0_0 (ji17))) * 1117)))) + (wrap64 ((wrap64 ((wrap64 (s0_1 + 1)) - 1)) * 29)))) + (wrap64 ((wrap64 (Int.tdiv (wrap64 ((wrap64 (s0_1 + 1)) - 1)) (s0_0.length : Int))) * 53)))) 64))) a1,(wrap64 (s0_1 + 1))))) else (none)) else (none)) = some (r1,r2):=by first | (rw [hji17] at H;exact H) | (simp only [hji17] at H ⊢;exact H)
   by_cases c18 : 0 ≤ (ji17)
   rotate_left
   ·rw [if_neg c18] at H
    exact absurd H (by simp)
   rw [if_pos c18] at H
   have c18b0 : decide (0 ≤ (ji17)) = true:=decide_eq_true c18
   clear c18
   by_cases c19 : (ji17) < (s0_0.length : Int)
   rotate_left
   ·rw [if_neg c19] at H
    exact absurd H (by simp)
   rw [if_pos c19] at H
   have c19b0 : decide ((ji17) < (s0_0.length : Int)) = true:=decide_eq_true c19
   clear c19
   by_cases c20 : a1 = 0
   ·rw [if_pos c20] at H
    exact absurd H (by simp)
   rw [if_neg c20] at H
   have c20b0 : (a1 == 0) = false:=beq_eq_false_iff_ne.mpr c20
   have c20b1 : (a1 != 0) = true:=bne_iff_ne.mpr c20
   simp only [Option.some.injEq,Prod.mk.injEq] at H
   obtain ⟨rfl,rfl⟩:=H
   obtain ⟨ASz21_0,cSz21_0,HGz21,hgz21,HSz21_0⟩:=HI0.out
   have hcz21_0:=cellS68_0 HGz21
   have hcz21_1:=cellS68_1 HGz21
   have hfz21_1:=blk_frozen HGz21 1
   clear HGz21 hgz21
   have p155 : 0 ≤ ((ji14) : Int):=of_decide_eq_true T6q1
   have q155 : (ji14) < (s0_0.length : Int):=of_decide_eq_true T6q1
   obtain ⟨ad155,e155,hx155_0⟩:=Kd.at_int HSz21_0 (ji14) p155 q155
   cases e155
   replace hx155_0:=pw_cell_below HB.out hx155_0
   replace p155:=eq_true p155
   replace q155:=eq_true q155
   have p156 : 0 ≤ ((ji17) : Int):=of_decide_eq_true T6q1
   have q156 : (ji17) < (s0_0.length : Int):=of_decide_eq_true T6q1
   obtain ⟨ad156,e156,hx156_0⟩:=Kd.at_int HSz21_0 (ji17) p156 q156
   obtain rfl : ad155 = ad156:=(by injection e156)
   replace hx156_0:=pw_cell_below HB.out hx156_0
   replace p156:=eq_true p156
   replace q156:=eq_true q156
   go_wp2
   repeat (go_quiet (fail);try go_wp2)
   go_ret
   exact ⟨by first | rfl | (simp [errW_none,errW_some] <;> rfl) | (simp only [← hji14,← hji17];first | rfl | (simp [errW_none,errW_some] <;> rfl)) | (simp [*,errW_none,errW_some] <;> rfl),by repeat (first | (with_reducible first | exact HI0.out | apply IsS68.alloc | apply IsS68.drewN | apply IsS68.drew | apply IsS68.set_1) | exact HI0.out),by repeat (first | (with_reducible first | exact HB.out | apply below_alloc | apply pw_below_drewN | apply below_drew1 | refine below_set ?_ (IsS68.ge HI0.out)) | exact HB.out),by repeat (first | (with_reducible first | exact HK.out | apply KeepBut.set_ | apply keep_drewN | apply keep_drew | apply keep_alloc) | exact HK.out)⟩
/-! ### spec_l6Rd_of: function 57 -/
def spec_l6Rd_of.f (k : Nat) (s0_0 : List Int) (s0_1 : Int) (l1 : List ByteArray) : Option (ByteArray × Int):=(spec_l6Rd_pick.f k s0_0 s0_1 (l1.length : Int)).bind fun bt157 => (if 0 ≤ bt157.1 then (if bt157.1 < (l1.length : Int) then (some (rdOf ByteArray.empty l1 bt157.1,bt157.2)) else (none)) else (none))
set_option maxHeartbeats 8000000 in
set_option maxRecDepth 100000 in
theorem spec_l6Rd_of.calls (k : Nat) (g : Nat) (s0_0 : List Int) (s0_1 : Int) (A1 : Option Addr) (c1 : Nat) (l1 : List ByteArray) (r1 : ByteArray) (r2 : Int) (w0 w : World) (hI : IsS68 w0 w g s0_0 s0_1) (hB : Below w0.heap.size w0 w) (hr1 : Kd.C Kd.string w A1 l1.length l1) (hc1 : l1.length ≤ c1) (hf1 : ∀ ad,A1 = some ad → 0 < l1.length → ad.block ≠ g) (h : spec_l6Rd_of.f k s0_0 s0_1 l1 = some (r1,r2)) :
  Calls Try.prog 57 #[.pointer (some ⟨g,0,none⟩),.slice A1 l1.length c1] w fun e w' => e = .returned (.string r1) ∧ IsS68 w0 w' g s0_0 r2 ∧ Below w0.heap.size w0 w' ∧ KeepBut w w' g none:=by
 have HR1:=Aside0.mk hr1
 have HC1:=Aside0.mk hc1
 clear hr1 hc1
 have HI0:=Aside0.mk hI
 have HK:=Aside0.mk (KeepBut.refl w g none)
 have HL:=Aside0.mk hB.size
 clear hI
 have HW0:=Aside0.mk hB.size
 have HB:=Aside0.mk hB
 clear hB
 have H : ((spec_l6Rd_pick.f k s0_0 s0_1 (l1.length : Int)).bind fun bt157 => (if 0 ≤ bt157.1 then (if bt157.1 < (l1.length : Int) then (some (rdOf ByteArray.empty l1 bt157.1,bt157.2)) else (none)) else (none))) = some (r1,r2):=h
 clear h
 replace H:=Option.bind_eq_some_iff.mp H
 obtain ⟨⟨t157,t158⟩,A30,H⟩:=H
 replace H : (if 0 ≤ t157 then (if t157 < (l1.length : Int) then (some (rdOf ByteArray.empty l1 t157,t158)) else (none)) else (none)) = some (r1,r2):=H
 have A3:=Aside0.mk A30
 clear A30
 by_cases c4 : 0 ≤ t157
 rotate_left
 ·rw [if_neg c4] at H
  exact absurd H (by simp)
 rw [if_pos c4] at H
 have c4b0 : decide (0 ≤ t157) = true:=decide_eq_true c4
 clear c4
 by_cases c5 : t157 < (l1.length : Int)
 rotate_left
 ·rw [if_neg c5] at H
  exact absurd H (by simp)
 rw [if_pos c5] at H
 have c5b0 : decide (t157 < (l1.length : Int)) = true:=decide_eq_true c5
 clear c5
 simp only [Option.some.injEq,Prod.mk.injEq] at H
 obtain ⟨rfl,rfl⟩:=H
 go_enter Try.func57,Try.ntmps57
 go_wp2_with (first | ((with_reducible refine gate_callee (f:=38) rfl ?_);refine goesL_ (some 9) rfl rfl Try.func38 (by kernel_rfl) rfl #[.pointer (some ⟨g,0,none⟩),.int .i64 (l1.length : Int)] rfl T6q4 ?_;(with_reducible refine (spec_l6Rd_pick.calls k g s0_0 s0_1 (l1.length : Int) t157 t158 w0 _ ?side1 ?side2 A3.out).mono ?_);(case side1 => repeat (first | (with_reducible first | exact HI0.out | apply IsS68.alloc | apply IsS68.drewN | apply IsS68.drew | apply IsS68.set_1) | exact HI0.out));(case side2 => repeat (first | (with_reducible first | exact HB.out | apply below_alloc | apply pw_below_drewN | apply below_drew1 | refine below_set ?_ (IsS68.ge HI0.out)) | exact HB.out));rintro e w6 ⟨rfl,hi,hb,hk⟩;refine ⟨_,rfl,?_⟩;have n0_:=Aside0.mk (KeepBut.trans (by repeat (first | (with_reducible first | exact HK.out | apply KeepBut.set_ | apply keep_drewN | apply keep_drew | apply keep_alloc) | exact HK.out)) hk (.inl rfl));have n1_:=Aside0.mk (hb);have n2_:=Aside0.mk (hi);clear HK;clear HB;clear HI0;have HK:=n0_;have HB:=n1_;have HI0:=n2_;clear n0_ n1_ n2_;(try clear hb);(try clear hb2);(try clear hk);(try clear hi);have p159 : 0 ≤ (t157 : Int):=of_decide_eq_true T6q1;have q159 : t157 < (l1.length : Int):=of_decide_eq_true T6q1;obtain ⟨ad159,e159,hx159_0⟩:=Kd.at_string HR1.out t157 p159 q159;cases e159;replace hx159_0:=keep_cell HK.out hx159_0 (by first | (rw [add_block];exact hf1 _ rfl (by omega)) | exact hf1 _ rfl (by omega) | exact hf1 ad159 rfl (by omega));replace p159:=eq_true p159;replace q159:=eq_true q159))
 go_ret
 exact ⟨by first | rfl | (simp [errW_none,errW_some] <;> rfl) | (simp [*,errW_none,errW_some] <;> rfl),by repeat (first | (with_reducible first | exact HI0.out | apply IsS68.alloc | apply IsS68.drewN | apply IsS68.drew | apply IsS68.set_1) | exact HI0.out),by repeat (first | (with_reducible first | exact HB.out | apply below_alloc | apply pw_below_drewN | apply below_drew1 | refine below_set ?_ (IsS68.ge HI0.out)) | exact HB.out),by repeat (first | (with_reducible first | exact HK.out | apply KeepBut.set_ | apply keep_drewN | apply keep_drew | apply keep_alloc) | exact HK.out)⟩
end Go.Proofs.Ytkifijclehgiaaa.PFnRunTrimTop
