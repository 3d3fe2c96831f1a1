/-
 Functions that FnRunJoinAt reaches,each as a Lean function,and that Go comes to its answer: printed by the kit's printer,the sort's comparing function and impl.RunJoin's part laid by hand. Conditions: those that stand in each statement.
-/
import Derived.Test.YtkifijclehgiaaaPFnRunJoinAtx0
import Derived.Test.YtkifijclehgiaaaPFnRunJoinAtx2
import Derived.Test.YtkifijclehgiaaaPFnRunJoinAtx3
import Derived.Test.YtkifijclehgiaaaPFnRunJoinAtx4
import Derived.Test.YtkifijclehgiaaaPFnRunJoinAtx5
import Derived.Test.YtkifijclehgiaaaGs
namespace Go.Proofs.Ytkifijclehgiaaa.PFnRunJoinAt
open Go.RowKit Go.Proofs.YtkifijclehgiaaaW.PrintWords Go.Proofs.YtkifijclehgiaaaW.PrintLast Go.Proofs.YtkifijclehgiaaaW.PrintMore
attribute [local go_sem] max2_int min2_int max_two min_two max_three min_three max_four min_four   -- for this text's walks alone
set_option linter.unusedVariables false
set_option linter.unusedSimpArgs false

theorem T6q1 {p : Prop} (h : p := by (with_reducible repeat (first | apply Kd.R_alloc | apply Kd.R_drewN | apply Kd.R_drew));exact HO_0.out) : p := h
theorem T6q2 {p : Prop} (h : p := by (with_reducible repeat (first | apply Kd.R_alloc | apply Kd.R_drewN | apply Kd.R_drew));exact HO_5.out) : p := h
theorem T6q3 {p : Prop} (h : p := by first | (with_reducible assumption) | assumption) : p := h
theorem T6q4 {p : Prop} (h : p := by kernel_rfl) : p := h
theorem T6q5 {p : Prop} (h : p := by (try simp only [List.map_toArray,List.map_cons,List.map_nil]);first | done | rfl | (simp only [List.length_drop,List.length_take];rfl)) : p := h
theorem T6q6 {p : Prop} (h : p := by (with_reducible repeat (first | apply Kd.R_alloc | apply Kd.R_drewN | apply Kd.R_drew));exact HO_6.out) : p := h
theorem T6q7 {p : Prop} (h : p := by (with_reducible repeat (first | refine blk_drewN ?_ _ | refine blk_drew ?_ | refine blk_alloc ?_ _));exact BK219.out) : p := h
theorem T6q8 {p : Prop} (h : p := by (with_reducible repeat (first | apply Kd.R_alloc | apply Kd.R_drewN | apply Kd.R_drew));exact HO224.out) : p := h
theorem T6q9 {p : Prop} (h : p := by (with_reducible repeat (first | apply Kd.R_alloc | apply Kd.R_drewN | apply Kd.R_drew));exact HO231.out) : p := h
/-! ### spec_l2Put: function 68 -/
def spec_l2Put.l0 : Nat → List ByteArray → ByteArray → List ByteArray → Bool → Int → Option (List ByteArray)
 | 0,_,_,_,_,_ => none
 | k + 1,x0,x1,x5,x6,x7 => if x7 < (x0.length : Int) then (if 0 ≤ x7 then (if (rdOf ByteArray.empty x0 x7).toList = x1.toList then (some x0) else (if x6 = true then (if x5.length < 8796093022208 then (spec_l2Put.l0 k x0 x1 (x5 ++ [rdOf ByteArray.empty x0 x7]) x6 (wrap64 (x7 + 1))) else (none)) else (if (Op.bytesLess x1.toList ((rdOf ByteArray.empty x0 x7).toList)) = true then (if x5.length < 8796093022208 then ((some (x5 ++ [x1] : List ByteArray)).bind fun y183 => (if y183.length < 8796093022208 then (spec_l2Put.l0 k x0 x1 (y183 ++ [rdOf ByteArray.empty x0 x7]) true (wrap64 (x7 + 1))) else (none))) else (none)) else (if x5.length < 8796093022208 then (spec_l2Put.l0 k x0 x1 (x5 ++ [rdOf ByteArray.empty x0 x7]) x6 (wrap64 (x7 + 1))) else (none))))) else (none)) else (if x6 = true then (some x5) else (if x5.length < 8796093022208 then (some (x5 ++ [x1])) else (none)))
def spec_l2Put.f (k : Nat) (l0 : List ByteArray) (a1 : ByteArray) : Option (List ByteArray):=spec_l2Put.l0 k l0 a1 (([] : List ByteArray)) false 0
set_option maxHeartbeats 8000000 in
set_option maxRecDepth 100000 in
theorem spec_l2Put.calls (k : Nat) (P0_ : Nat → Prop) (u9000_ : Value) (l0 : List ByteArray) (a1 : ByteArray) (r : List ByteArray) (w0 w : World) (hB : Below w0.heap.size w0 w) (ho0 : Kd.R Kd.string 9 w w0.heap.size P0_ u9000_ l0) (h : spec_l2Put.f k l0 a1 = some r) :
  Calls Try.prog 68 #[u9000_,.string a1] w fun e w' => ∃ v0_ : Value,e = .returned (v0_) ∧ Kd.R Kd.string 9 w' w0.heap.size (fun k_ => (P0_ k_ ∨ w.heap.size ≤ k_)) v0_ r ∧ Below w0.heap.size w0 w' ∧ Kept w w' (fun k_ => P0_ k_):=by
 have HO0:=Aside0.mk (show Kd.R Kd.string 9 w w0.heap.size (fun k_ => (P0_ k_ ∨ w.heap.size ≤ k_)) u9000_ l0 from Kd.R_mono ho0 (fun k_ hk => (.inl hk)))
 have HK:=Aside0.mk (Kept.refl w (fun k_ => P0_ k_))
 have HW0:=Aside0.mk hB.size
 have HB:=Aside0.mk hB
 clear hB
 have H : (spec_l2Put.l0 k l0 a1 (([] : List ByteArray)) false 0) = some r:=h
 clear h
 obtain ⟨y171,hy171⟩ : ∃ y_ : List ByteArray,y_ = (([] : List ByteArray)):=⟨_,rfl⟩
 replace H : (spec_l2Put.l0 k l0 a1 y171 false 0) = some r:=by first | (rw [hy171];with_reducible exact H) | (have H2_:=(Option.bind_some _ _).symm.trans H;rw [hy171];with_reducible exact H2_) | (have H2_:=(Option.bind_some _ _).symm.trans H;with_reducible exact H2_) | with_reducible exact H | (rw [hy171];exact H) | exact H
 have Ny171:=Aside0.mk hy171
 clear hy171
 have H':=Aside0.mk H
 clear H
 go_enter Try.func68,Try.ntmps68
 go_wp2_with (first | ((with_reducible refine gate_dst (N:=8) rfl ?_);refine Kd.R_lit Kd.string _ 9 ?hg (N:=8) ?hd (xs:=([] : List ByteArray)) (inner:=[]) (ok:=fun _ => True) (okp:=fun _ => True) ?hr ?hp (fun _ hk => hk) trivial (Below.refl _ _) (Nat.le_refl _) (by simp) ?_;(case hd => rfl);(case hg => rfl);(case hr => first | (go_simp;done) | (go_simp;rfl));(case hp => exact (Reps.none _ _));intro v172 w3 ho4 hb hg_ hnew_;clear hg_ hnew_;(first | rw [← Ny171.out] at ho4 | (simp only [Int.reduceToNat] at ho4;rw [← Ny171.out] at ho4));have n0_:=Aside0.mk (Kd.R_elder' (by (with_reducible repeat (first | apply Kd.R_alloc | apply Kd.R_drewN | apply Kd.R_drew));exact HO0.out) (Kd.R_base ho4) hb);have n1_:=Aside0.mk (Kd.R_lower (Kd.R_new' (Kd.R_newM (M:=fun k_ => (P0_ k_ ∨ w.heap.size ≤ k_)) ho4 (by first | exact HK.out.1 | exact (show Kept w _ (fun k_ => P0_ k_) from by repeat (first | (with_reducible first | exact HK.out | apply Kept.alloc | apply Kept.drewN | apply Kept.drew) | exact HK.out)).1) (fun k_ h_ => .inr h_)) (Kd.R_lt (by (with_reducible repeat (first | apply Kd.R_alloc | apply Kd.R_drewN | apply Kd.R_drew));exact HO0.out))) (below_size (by repeat (first | (with_reducible first | exact HB.out | apply below_alloc | apply pw_below_drewN | apply below_drew1) | exact HB.out))));have n2_:=Aside0.mk (Kept.below (S:=(fun k_ => P0_ k_)) (by repeat (first | (with_reducible first | exact HK.out | apply Kept.alloc | apply Kept.drewN | apply Kept.drew) | exact HK.out)) hb);have n3_:=Aside0.mk (below_step (by repeat (first | (with_reducible first | exact HB.out | apply below_alloc | apply pw_below_drewN | apply below_drew1) | exact HB.out)) hb);clear HO0;clear HK;clear HB;have HO0:=n0_;have HO173:=n1_;have HK:=n2_;have HB:=n3_;clear n0_ n1_ n2_ n3_;clear hb ho4))
 go_loopg [5,6,7] k (fun kq v5 v6 v7 w' => ∃ (x5_1 : List ByteArray) (x6_1 : Bool) (x7_1 : Int),v6 = .bool x6_1 ∧ v7 = .int .i64 x7_1 ∧ Aside0 (spec_l2Put.l0 kq l0 a1 x5_1 x6_1 x7_1 = some r) ∧ Aside0 (kq ≤ k) ∧ Aside0 (Kd.R Kd.string 9 w' w0.heap.size (fun k_ => (P0_ k_ ∨ w.heap.size ≤ k_) ∧ some k_ ≠ (v5 : Value).ownBlock) u9000_ l0) ∧ Aside0 (Kd.R Kd.string 9 w' w0.heap.size (fun k_ => (P0_ k_ ∨ w.heap.size ≤ k_) ∧ some k_ ≠ (u9000_ : Value).ownBlock) v5 x5_1) ∧ Aside0 (Kept w w' (fun k_ => P0_ k_)) ∧ Aside0 (Below w0.heap.size w0 w'))
 case atStart => exact ⟨(y171),(false),(0),(by first | rfl | (simp;done) | (simp [*];done)),(by first | rfl | (simp;done) | (simp [*];done)),H',⟨Nat.le_refl _⟩,⟨by (with_reducible repeat (first | apply Kd.R_alloc | apply Kd.R_drewN | apply Kd.R_drew));exact HO0.out⟩,⟨by (with_reducible repeat (first | apply Kd.R_alloc | apply Kd.R_drewN | apply Kd.R_drew));exact Kd.R_mono HO173.out (fun _ hk => ⟨hk.1.1,hk.2⟩)⟩,⟨by repeat (first | (with_reducible first | exact HK.out | apply Kept.alloc | apply Kept.drewN | apply Kept.drew) | exact HK.out)⟩,⟨by repeat (first | (with_reducible first | exact HB.out | apply below_alloc | apply pw_below_drewN | apply below_drew1) | exact HB.out)⟩⟩
 case round =>
  clear H'
  try clear p2
  obtain ⟨x5_1,x6_1,x7_1,rfl,rfl,HA,HK1,HO_0,HO_5,HK,HB⟩:=hrel
  cases gk with
  | zero => exact absurd HA.out (by simp [spec_l2Put.l0])
  | succ k1 =>
   have H:=HA.out
   clear HA
   simp only [spec_l2Put.l0] at H
   by_cases c5 : x7_1 < (l0.length : Int)
   rotate_left
   ·rw [if_neg c5] at H
    have c5b0 : decide (x7_1 < (l0.length : Int)) = false:=decide_eq_false c5
    clear c5
    by_cases c22 : x6_1 = true
    ·subst c22
     have H1 : (some x5_1) = some r:=by rw [if_pos rfl] at H;exact H
     clear H
     have H:=H1
     clear H1
     obtain rfl:=Option.some.inj H
     obtain ⟨Ao23,co23,eo23⟩:=Kd.R_slice HO_0.out
     subst eo23
     go_wp2
     go_ret
     exact ⟨_,by first | rfl | (simp [errW_none,errW_some] <;> rfl) | (simp [*,errW_none,errW_some] <;> rfl),by (with_reducible repeat (first | apply Kd.R_alloc | apply Kd.R_drewN | apply Kd.R_drew));exact Kd.R_mono HO_5.out (fun _ hk => hk.1),by repeat (first | (with_reducible first | exact HB.out | apply below_alloc | apply pw_below_drewN | apply below_drew1) | exact HB.out),by repeat (first | (with_reducible first | exact HK.out | apply Kept.alloc | apply Kept.drewN | apply Kept.drew) | exact HK.out)⟩
    replace c22:=Bool.eq_false_iff.mpr c22
    subst c22
    have H1 : (if x5_1.length < 8796093022208 then (some (x5_1 ++ [a1])) else (none)) = some r:=by rw [if_neg (show ¬ (false = true) by decide)] at H;exact H
    clear H
    have H:=H1
    clear H1
    by_cases c24 : x5_1.length < 8796093022208
    rotate_left
    ·rw [if_neg c24] at H
     exact absurd H (by simp)
    rw [if_pos c24] at H
    have LMc24:=Aside0.mk c24
    clear c24
    obtain ⟨y174,hy174⟩ : ∃ y_ : List ByteArray,y_ = (x5_1 ++ [a1]):=⟨_,rfl⟩
    replace H : (some y174) = some r:=by first | (rw [hy174];with_reducible exact H) | (have H2_:=(Option.bind_some _ _).symm.trans H;rw [hy174];with_reducible exact H2_) | (have H2_:=(Option.bind_some _ _).symm.trans H;with_reducible exact H2_) | with_reducible exact H | (rw [hy174];exact H) | exact H
    have Ny174:=Aside0.mk hy174
    clear hy174
    obtain rfl:=Option.some.inj H
    obtain ⟨Ao25,co25,eo25⟩:=Kd.R_slice HO_0.out
    subst eo25
    go_wp2_with (first | ((with_reducible refine gate_builtin (b:=.append) (xs:=#[.tmp 45,.tmp 47]) rfl ?_);at_builtin;refine Kd.R_append Kd.string (w0:=w0) w0.heap.size rfl (.tmp 45) (.tmp 47) 39 9 (.string ⟨#[]⟩) 16 rfl Try.underlying39 info9 rfl (by decide) (by omega) u5 x5_1 a1 [.string a1] (fun k_ => (P0_ k_ ∨ w.heap.size ≤ k_) ∧ some k_ ≠ (.slice Ao25 l0.length co25 : Value).ownBlock) (fun _ => False) rfl rfl ?aP (fun _ hk => hk.elim) ?aF ?aO ?aB ?aS ?aL ?_;(case aP => exact rfl);(case aB => exact (by repeat (first | (with_reducible first | exact HB.out | apply below_alloc | apply pw_below_drewN | apply below_drew1) | exact HB.out)));(case aF => exact (fun k_ hk => ⟨(.inr (Nat.le_trans (by first | exact HK.out.1 | exact (show Kept w _ (fun k_ => P0_ k_) from by repeat (first | (with_reducible first | exact HK.out | apply Kept.alloc | apply Kept.drewN | apply Kept.drew) | exact HK.out)).1) hk)),Kd.fresh' (Kd.R_lt T6q1) k_ hk⟩));(case aO => exact T6q2);(case aS => exact (below_size (by repeat (first | (with_reducible first | exact HB.out | apply below_alloc | apply pw_below_drewN | apply below_drew1) | exact HB.out))));(case aL => have:=LMc24.out;omega);intro v175 w26 ho hb hg hat;rw [← Ny174.out] at ho;have n0_:=Aside0.mk (Kd.R_after (ok:=(fun k_ => (P0_ k_ ∨ w.heap.size ≤ k_))) T6q1 hg hat);have n1_:=Aside0.mk (hb);have n2_:=Aside0.mk (Kept.of_grown (S:=(fun k_ => P0_ k_)) hg (by repeat (first | (with_reducible first | exact HK.out | apply Kept.alloc | apply Kept.drewN | apply Kept.drew) | exact HK.out)) (fun k_ e_ => (HO_5.out.1 k_ e_).1));have n3_:=Aside0.mk (ho);clear HO_0;clear HB;clear HK;clear HO_5;have HO_0:=n0_;have HB:=n1_;have HK:=n2_;have HO176:=n3_;clear n0_ n1_ n2_ n3_;clear ho hb hg hat))
    go_ret
    exact ⟨_,by first | rfl | (simp [errW_none,errW_some] <;> rfl) | (simp [*,errW_none,errW_some] <;> rfl),by (with_reducible repeat (first | apply Kd.R_alloc | apply Kd.R_drewN | apply Kd.R_drew));exact Kd.R_mono HO176.out (fun _ hk => hk.1),by repeat (first | (with_reducible first | exact HB.out | apply below_alloc | apply pw_below_drewN | apply below_drew1) | exact HB.out),by repeat (first | (with_reducible first | exact HK.out | apply Kept.alloc | apply Kept.drewN | apply Kept.drew) | exact HK.out)⟩
   rw [if_pos c5] at H
   have c5b0 : decide (x7_1 < (l0.length : Int)) = true:=decide_eq_true c5
   clear c5
   by_cases c6 : 0 ≤ x7_1
   rotate_left
   ·rw [if_neg c6] at H
    exact absurd H (by simp)
   rw [if_pos c6] at H
   have c6b0 : decide (0 ≤ x7_1) = true:=decide_eq_true c6
   clear c6
   by_cases c7 : (rdOf ByteArray.empty l0 x7_1).toList = a1.toList
   ·rw [if_pos c7] at H
    have c7b0 : ((rdOf ByteArray.empty l0 x7_1).toList == a1.toList) = true:=beq_iff_eq.mpr c7
    have c7b1 : ((rdOf ByteArray.empty l0 x7_1).toList != a1.toList) = false:=bne_eq_false_iff_eq.mpr c7
    clear c7
    obtain rfl:=Option.some.inj H
    obtain ⟨Ao8,co8,eo8⟩:=Kd.R_slice HO_0.out
    subst eo8
    have p177 : 0 ≤ (x7_1 : Int):=of_decide_eq_true T6q3
    have q177 : x7_1 < (l0.length : Int):=of_decide_eq_true T6q3
    obtain ⟨ad177,e177,hx177_0⟩:=Kd.at_string (Kd.R_reads' HO_0.out).2.2 x7_1 p177 q177
    cases e177
    replace p177:=eq_true p177
    replace q177:=eq_true q177
    go_wp2
    go_ret
    exact ⟨_,by first | rfl | (simp [errW_none,errW_some] <;> rfl) | (simp [*,errW_none,errW_some] <;> rfl),by (with_reducible repeat (first | apply Kd.R_alloc | apply Kd.R_drewN | apply Kd.R_drew));exact Kd.R_mono HO_0.out (fun _ hk => hk.1),by repeat (first | (with_reducible first | exact HB.out | apply below_alloc | apply pw_below_drewN | apply below_drew1) | exact HB.out),by repeat (first | (with_reducible first | exact HK.out | apply Kept.alloc | apply Kept.drewN | apply Kept.drew) | exact HK.out)⟩
   rw [if_neg c7] at H
   have c7b0 : ((rdOf ByteArray.empty l0 x7_1).toList == a1.toList) = false:=beq_eq_false_iff_ne.mpr c7
   have c7b1 : ((rdOf ByteArray.empty l0 x7_1).toList != a1.toList) = true:=bne_iff_ne.mpr c7
   by_cases c9 : x6_1 = true
   ·subst c9
    have H1 : (if x5_1.length < 8796093022208 then (spec_l2Put.l0 k1 l0 a1 (x5_1 ++ [rdOf ByteArray.empty l0 x7_1]) true (wrap64 (x7_1 + 1))) else (none)) = some r:=by rw [if_pos rfl] at H;exact H
    clear H
    have H:=H1
    clear H1
    by_cases c10 : x5_1.length < 8796093022208
    rotate_left
    ·rw [if_neg c10] at H
     exact absurd H (by simp)
    rw [if_pos c10] at H
    have LMc10:=Aside0.mk c10
    clear c10
    obtain ⟨y179,hy179⟩ : ∃ y_ : List ByteArray,y_ = (x5_1 ++ [rdOf ByteArray.empty l0 x7_1]):=⟨_,rfl⟩
    replace H : (spec_l2Put.l0 k1 l0 a1 y179 true (wrap64 (x7_1 + 1))) = some r:=by first | (rw [hy179];with_reducible exact H) | (have H2_:=(Option.bind_some _ _).symm.trans H;rw [hy179];with_reducible exact H2_) | (have H2_:=(Option.bind_some _ _).symm.trans H;with_reducible exact H2_) | with_reducible exact H | (rw [hy179];exact H) | exact H
    have Ny179:=Aside0.mk hy179
    clear hy179
    have H':=Aside0.mk H
    clear H
    obtain ⟨Ao11,co11,eo11⟩:=Kd.R_slice HO_0.out
    subst eo11
    have p177 : 0 ≤ (x7_1 : Int):=of_decide_eq_true T6q3
    have q177 : x7_1 < (l0.length : Int):=of_decide_eq_true T6q3
    obtain ⟨ad177,e177,hx177_0⟩:=Kd.at_string (Kd.R_reads' HO_0.out).2.2 x7_1 p177 q177
    cases e177
    replace p177:=eq_true p177
    replace q177:=eq_true q177
    have p178 : 0 ≤ (x7_1 : Int):=of_decide_eq_true T6q3
    have q178 : x7_1 < (l0.length : Int):=of_decide_eq_true T6q3
    obtain ⟨ad178,e178,hx178_0⟩:=Kd.at_string (Kd.R_reads' HO_0.out).2.2 x7_1 p178 q178
    obtain rfl : ad177 = ad178:=(by injection e178)
    replace p178:=eq_true p178
    replace q178:=eq_true q178
    go_wp2_with (first | ((with_reducible refine gate_builtin (b:=.append) (xs:=#[.tmp 36,.tmp 41]) rfl ?_);at_builtin;refine Kd.R_append Kd.string (w0:=w0) w0.heap.size rfl (.tmp 36) (.tmp 41) 39 9 (.string ⟨#[]⟩) 16 rfl Try.underlying39 info9 rfl (by decide) (by omega) u5 x5_1 (rdOf ByteArray.empty l0 x7_1) [.string (rdOf ByteArray.empty l0 x7_1)] (fun k_ => (P0_ k_ ∨ w.heap.size ≤ k_) ∧ some k_ ≠ (.slice (some ad177) l0.length co11 : Value).ownBlock) (fun _ => False) rfl rfl ?aP (fun _ hk => hk.elim) ?aF ?aO ?aB ?aS ?aL ?_;(case aP => exact rfl);(case aB => exact (by repeat (first | (with_reducible first | exact HB.out | apply below_alloc | apply pw_below_drewN | apply below_drew1) | exact HB.out)));(case aF => exact (fun k_ hk => ⟨(.inr (Nat.le_trans (by first | exact HK.out.1 | exact (show Kept w _ (fun k_ => P0_ k_) from by repeat (first | (with_reducible first | exact HK.out | apply Kept.alloc | apply Kept.drewN | apply Kept.drew) | exact HK.out)).1) hk)),Kd.fresh' (Kd.R_lt T6q1) k_ hk⟩));(case aO => exact T6q2);(case aS => exact (below_size (by repeat (first | (with_reducible first | exact HB.out | apply below_alloc | apply pw_below_drewN | apply below_drew1) | exact HB.out))));(case aL => have:=LMc10.out;omega);intro v180 w12 ho hb hg hat;rw [← Ny179.out] at ho;have n0_:=Aside0.mk (Kd.R_after (ok:=(fun k_ => (P0_ k_ ∨ w.heap.size ≤ k_))) T6q1 hg hat);have n1_:=Aside0.mk (hb);have n2_:=Aside0.mk (Kept.of_grown (S:=(fun k_ => P0_ k_)) hg (by repeat (first | (with_reducible first | exact HK.out | apply Kept.alloc | apply Kept.drewN | apply Kept.drew) | exact HK.out)) (fun k_ e_ => (HO_5.out.1 k_ e_).1));have n3_:=Aside0.mk (ho);clear HO_0;clear HB;clear HK;clear HO_5;have HO_0:=n0_;have HB:=n1_;have HK:=n2_;have HO181:=n3_;clear n0_ n1_ n2_ n3_;clear ho hb hg hat))
    go_roundg k1
    case measure => have:=HK1.out;omega
    case rel => exact ⟨(y179),(true),(wrap64 (x7_1 + 1)),(by first | rfl | (simp;done) | (simp [*];done)),(by first | rfl | (simp;done) | (simp [*];done)),H',⟨by have:=HK1.out;omega⟩,⟨by (with_reducible repeat (first | apply Kd.R_alloc | apply Kd.R_drewN | apply Kd.R_drew));exact HO_0.out⟩,⟨by (with_reducible repeat (first | apply Kd.R_alloc | apply Kd.R_drewN | apply Kd.R_drew));exact HO181.out⟩,⟨by repeat (first | (with_reducible first | exact HK.out | apply Kept.alloc | apply Kept.drewN | apply Kept.drew) | exact HK.out)⟩,⟨by repeat (first | (with_reducible first | exact HB.out | apply below_alloc | apply pw_below_drewN | apply below_drew1) | exact HB.out)⟩⟩
   replace c9:=Bool.eq_false_iff.mpr c9
   subst c9
   have H1 : (if (Op.bytesLess a1.toList ((rdOf ByteArray.empty l0 x7_1).toList)) = true then (if x5_1.length < 8796093022208 then ((some (x5_1 ++ [a1] : List ByteArray)).bind fun y183 => (if y183.length < 8796093022208 then (spec_l2Put.l0 k1 l0 a1 (y183 ++ [rdOf ByteArray.empty l0 x7_1]) true (wrap64 (x7_1 + 1))) else (none))) else (none)) else (if x5_1.length < 8796093022208 then (spec_l2Put.l0 k1 l0 a1 (x5_1 ++ [rdOf ByteArray.empty l0 x7_1]) false (wrap64 (x7_1 + 1))) else (none))) = some r:=by rw [if_neg (show ¬ (false = true) by decide)] at H;exact H
   clear H
   have H:=H1
   clear H1
   by_cases c13 : (Op.bytesLess a1.toList ((rdOf ByteArray.empty l0 x7_1).toList)) = true
   rotate_left
   ·rw [if_neg c13] at H
    have c13b0 : (Op.bytesLess a1.toList ((rdOf ByteArray.empty l0 x7_1).toList)) = false:=by simpa using c13
    clear c13
    by_cases c19 : x5_1.length < 8796093022208
    rotate_left
    ·rw [if_neg c19] at H
     exact absurd H (by simp)
    rw [if_pos c19] at H
    have LMc19:=Aside0.mk c19
    clear c19
    obtain ⟨y191,hy191⟩ : ∃ y_ : List ByteArray,y_ = (x5_1 ++ [rdOf ByteArray.empty l0 x7_1]):=⟨_,rfl⟩
    replace H : (spec_l2Put.l0 k1 l0 a1 y191 false (wrap64 (x7_1 + 1))) = some r:=by first | (rw [hy191];with_reducible exact H) | (have H2_:=(Option.bind_some _ _).symm.trans H;rw [hy191];with_reducible exact H2_) | (have H2_:=(Option.bind_some _ _).symm.trans H;with_reducible exact H2_) | with_reducible exact H | (rw [hy191];exact H) | exact H
    have Ny191:=Aside0.mk hy191
    clear hy191
    have H':=Aside0.mk H
    clear H
    obtain ⟨Ao20,co20,eo20⟩:=Kd.R_slice HO_0.out
    subst eo20
    have p177 : 0 ≤ (x7_1 : Int):=of_decide_eq_true T6q3
    have q177 : x7_1 < (l0.length : Int):=of_decide_eq_true T6q3
    obtain ⟨ad177,e177,hx177_0⟩:=Kd.at_string (Kd.R_reads' HO_0.out).2.2 x7_1 p177 q177
    cases e177
    replace p177:=eq_true p177
    replace q177:=eq_true q177
    have p182 : 0 ≤ (x7_1 : Int):=of_decide_eq_true T6q3
    have q182 : x7_1 < (l0.length : Int):=of_decide_eq_true T6q3
    obtain ⟨ad182,e182,hx182_0⟩:=Kd.at_string (Kd.R_reads' HO_0.out).2.2 x7_1 p182 q182
    obtain rfl : ad177 = ad182:=(by injection e182)
    replace p182:=eq_true p182
    replace q182:=eq_true q182
    have p190 : 0 ≤ (x7_1 : Int):=of_decide_eq_true T6q3
    have q190 : x7_1 < (l0.length : Int):=of_decide_eq_true T6q3
    obtain ⟨ad190,e190,hx190_0⟩:=Kd.at_string (Kd.R_reads' HO_0.out).2.2 x7_1 p190 q190
    obtain rfl : ad177 = ad190:=(by injection e190)
    replace p190:=eq_true p190
    replace q190:=eq_true q190
    go_wp2_with (first | ((with_reducible refine gate_builtin (b:=.append) (xs:=#[.tmp 36,.tmp 41]) rfl ?_);at_builtin;refine Kd.R_append Kd.string (w0:=w0) w0.heap.size rfl (.tmp 36) (.tmp 41) 39 9 (.string ⟨#[]⟩) 16 rfl Try.underlying39 info9 rfl (by decide) (by omega) u5 x5_1 (rdOf ByteArray.empty l0 x7_1) [.string (rdOf ByteArray.empty l0 x7_1)] (fun k_ => (P0_ k_ ∨ w.heap.size ≤ k_) ∧ some k_ ≠ (.slice (some ad177) l0.length co20 : Value).ownBlock) (fun _ => False) rfl rfl ?aP (fun _ hk => hk.elim) ?aF ?aO ?aB ?aS ?aL ?_;(case aP => exact rfl);(case aB => exact (by repeat (first | (with_reducible first | exact HB.out | apply below_alloc | apply pw_below_drewN | apply below_drew1) | exact HB.out)));(case aF => exact (fun k_ hk => ⟨(.inr (Nat.le_trans (by first | exact HK.out.1 | exact (show Kept w _ (fun k_ => P0_ k_) from by repeat (first | (with_reducible first | exact HK.out | apply Kept.alloc | apply Kept.drewN | apply Kept.drew) | exact HK.out)).1) hk)),Kd.fresh' (Kd.R_lt T6q1) k_ hk⟩));(case aO => exact T6q2);(case aS => exact (below_size (by repeat (first | (with_reducible first | exact HB.out | apply below_alloc | apply pw_below_drewN | apply below_drew1) | exact HB.out))));(case aL => have:=LMc19.out;omega);intro v192 w21 ho hb hg hat;rw [← Ny191.out] at ho;have n0_:=Aside0.mk (Kd.R_after (ok:=(fun k_ => (P0_ k_ ∨ w.heap.size ≤ k_))) T6q1 hg hat);have n1_:=Aside0.mk (hb);have n2_:=Aside0.mk (Kept.of_grown (S:=(fun k_ => P0_ k_)) hg (by repeat (first | (with_reducible first | exact HK.out | apply Kept.alloc | apply Kept.drewN | apply Kept.drew) | exact HK.out)) (fun k_ e_ => (HO_5.out.1 k_ e_).1));have n3_:=Aside0.mk (ho);clear HO_0;clear HB;clear HK;clear HO_5;have HO_0:=n0_;have HB:=n1_;have HK:=n2_;have HO193:=n3_;clear n0_ n1_ n2_ n3_;clear ho hb hg hat))
    go_roundg k1
    case measure => have:=HK1.out;omega
    case rel => exact ⟨(y191),(false),(wrap64 (x7_1 + 1)),(by first | rfl | (simp;done) | (simp [*];done)),(by first | rfl | (simp;done) | (simp [*];done)),H',⟨by have:=HK1.out;omega⟩,⟨by (with_reducible repeat (first | apply Kd.R_alloc | apply Kd.R_drewN | apply Kd.R_drew));exact HO_0.out⟩,⟨by (with_reducible repeat (first | apply Kd.R_alloc | apply Kd.R_drewN | apply Kd.R_drew));exact HO193.out⟩,⟨by repeat (first | (with_reducible first | exact HK.out | apply Kept.alloc | apply Kept.drewN | apply Kept.drew) | exact HK.out)⟩,⟨by repeat (first | (with_reducible first | exact HB.out | apply below_alloc | apply pw_below_drewN | apply below_drew1) | exact HB.out)⟩⟩
   rw [if_pos c13] at H
   have c13b0 : (Op.bytesLess a1.toList ((rdOf ByteArray.empty l0 x7_1).toList)) = true:=c13
   clear c13
   by_cases c14 : x5_1.length < 8796093022208
   rotate_left
   ·rw [if_neg c14] at H
    exact absurd H (by simp)
   rw [if_pos c14] at H
   have LMc14:=Aside0.mk c14
   clear c14
   obtain ⟨y183,hy183⟩ : ∃ y_ : List ByteArray,y_ = (x5_1 ++ [a1]):=⟨_,rfl⟩
   replace H : (if y183.length < 8796093022208 then (spec_l2Put.l0 k1 l0 a1 (y183 ++ [rdOf ByteArray.empty l0 x7_1]) true (wrap64 (x7_1 + 1))) else (none)) = some r:=by first | (rw [hy183];with_reducible exact H) | (have H2_:=(Option.bind_some _ _).symm.trans H;rw [hy183];with_reducible exact H2_) | (have H2_:=(Option.bind_some _ _).symm.trans H;with_reducible exact H2_) | with_reducible exact H | (rw [hy183];exact H) | exact H
   have Ny183:=Aside0.mk hy183
   clear hy183
   by_cases c15 : y183.length < 8796093022208
   rotate_left
   ·rw [if_neg c15] at H
    exact absurd H (by simp)
   rw [if_pos c15] at H
   have LMc15:=Aside0.mk c15
   clear c15
   obtain ⟨y187,hy187⟩ : ∃ y_ : List ByteArray,y_ = (y183 ++ [rdOf ByteArray.empty l0 x7_1]):=⟨_,rfl⟩
   replace H : (spec_l2Put.l0 k1 l0 a1 y187 true (wrap64 (x7_1 + 1))) = some r:=by first | (rw [hy187];with_reducible exact H) | (have H2_:=(Option.bind_some _ _).symm.trans H;rw [hy187];with_reducible exact H2_) | (have H2_:=(Option.bind_some _ _).symm.trans H;with_reducible exact H2_) | with_reducible exact H | (rw [hy187];exact H) | exact H
   have Ny187:=Aside0.mk hy187
   clear hy187
   have H':=Aside0.mk H
   clear H
   obtain ⟨Ao16,co16,eo16⟩:=Kd.R_slice HO_0.out
   subst eo16
   have p177 : 0 ≤ (x7_1 : Int):=of_decide_eq_true T6q3
   have q177 : x7_1 < (l0.length : Int):=of_decide_eq_true T6q3
   obtain ⟨ad177,e177,hx177_0⟩:=Kd.at_string (Kd.R_reads' HO_0.out).2.2 x7_1 p177 q177
   cases e177
   replace p177:=eq_true p177
   replace q177:=eq_true q177
   have p182 : 0 ≤ (x7_1 : Int):=of_decide_eq_true T6q3
   have q182 : x7_1 < (l0.length : Int):=of_decide_eq_true T6q3
   obtain ⟨ad182,e182,hx182_0⟩:=Kd.at_string (Kd.R_reads' HO_0.out).2.2 x7_1 p182 q182
   obtain rfl : ad177 = ad182:=(by injection e182)
   replace p182:=eq_true p182
   replace q182:=eq_true q182
   go_wp2_with (first | ((with_reducible refine gate_builtin (b:=.append) (xs:=#[.tmp 32,.tmp 34]) rfl ?_);at_builtin;refine Kd.R_append Kd.string (w0:=w0) w0.heap.size rfl (.tmp 32) (.tmp 34) 39 9 (.string ⟨#[]⟩) 16 rfl Try.underlying39 info9 rfl (by decide) (by omega) u5 x5_1 a1 [.string a1] (fun k_ => (P0_ k_ ∨ w.heap.size ≤ k_) ∧ some k_ ≠ (.slice (some ad177) l0.length co16 : Value).ownBlock) (fun _ => False) rfl rfl ?aP (fun _ hk => hk.elim) ?aF ?aO ?aB ?aS ?aL ?_;(case aP => exact rfl);(case aB => exact (by repeat (first | (with_reducible first | exact HB.out | apply below_alloc | apply pw_below_drewN | apply below_drew1) | exact HB.out)));(case aF => exact (fun k_ hk => ⟨(.inr (Nat.le_trans (by first | exact HK.out.1 | exact (show Kept w _ (fun k_ => P0_ k_) from by repeat (first | (with_reducible first | exact HK.out | apply Kept.alloc | apply Kept.drewN | apply Kept.drew) | exact HK.out)).1) hk)),Kd.fresh' (Kd.R_lt T6q1) k_ hk⟩));(case aO => exact T6q2);(case aS => exact (below_size (by repeat (first | (with_reducible first | exact HB.out | apply below_alloc | apply pw_below_drewN | apply below_drew1) | exact HB.out))));(case aL => have:=LMc14.out;omega);intro v184 w17 ho hb hg hat;rw [← Ny183.out] at ho;have n0_:=Aside0.mk (Kd.R_after (ok:=(fun k_ => (P0_ k_ ∨ w.heap.size ≤ k_))) T6q1 hg hat);have n1_:=Aside0.mk (hb);have n2_:=Aside0.mk (Kept.of_grown (S:=(fun k_ => P0_ k_)) hg (by repeat (first | (with_reducible first | exact HK.out | apply Kept.alloc | apply Kept.drewN | apply Kept.drew) | exact HK.out)) (fun k_ e_ => (HO_5.out.1 k_ e_).1));have n3_:=Aside0.mk (ho);clear HO_0;clear HB;clear HK;clear HO_5;have HO_0:=n0_;have HB:=n1_;have HK:=n2_;have HO185:=n3_;clear n0_ n1_ n2_ n3_;clear ho hb hg hat;have p186 : 0 ≤ (x7_1 : Int):=of_decide_eq_true T6q3;have q186 : x7_1 < (l0.length : Int):=of_decide_eq_true T6q3;obtain ⟨ad186,e186,hx186_0⟩:=Kd.at_string (Kd.R_reads' HO_0.out).2.2 x7_1 p186 q186;obtain rfl : ad177 = ad186:=(by injection e186);replace p186:=eq_true p186;replace q186:=eq_true q186) | ((with_reducible refine gate_builtin (b:=.append) (xs:=#[.tmp 36,.tmp 41]) rfl ?_);at_builtin;refine Kd.R_append Kd.string (w0:=w0) w0.heap.size rfl (.tmp 36) (.tmp 41) 39 9 (.string ⟨#[]⟩) 16 rfl Try.underlying39 info9 rfl (by decide) (by omega) v184 y183 (rdOf ByteArray.empty l0 x7_1) [.string (rdOf ByteArray.empty l0 x7_1)] (fun k_ => (P0_ k_ ∨ w.heap.size ≤ k_) ∧ some k_ ≠ (.slice (some ad177) l0.length co16 : Value).ownBlock) (fun _ => False) rfl rfl ?aP (fun _ hk => hk.elim) ?aF ?aO ?aB ?aS ?aL ?_;(case aP => exact rfl);(case aB => exact (by repeat (first | (with_reducible first | exact HB.out | apply below_alloc | apply pw_below_drewN | apply below_drew1) | exact HB.out)));(case aF => exact (fun k_ hk => ⟨(.inr (Nat.le_trans (by first | exact HK.out.1 | exact (show Kept w _ (fun k_ => P0_ k_) from by repeat (first | (with_reducible first | exact HK.out | apply Kept.alloc | apply Kept.drewN | apply Kept.drew) | exact HK.out)).1) hk)),Kd.fresh' (Kd.R_lt T6q1) k_ hk⟩));(case aO => exact (by (with_reducible repeat (first | apply Kd.R_alloc | apply Kd.R_drewN | apply Kd.R_drew));exact HO185.out));(case aS => exact (below_size (by repeat (first | (with_reducible first | exact HB.out | apply below_alloc | apply pw_below_drewN | apply below_drew1) | exact HB.out))));(case aL => have:=LMc15.out;omega);intro v188 w18 ho hb hg hat;rw [← Ny187.out] at ho;have n0_:=Aside0.mk (Kd.R_after (ok:=(fun k_ => (P0_ k_ ∨ w.heap.size ≤ k_))) T6q1 hg hat);have n1_:=Aside0.mk (hb);have n2_:=Aside0.mk (Kept.of_grown (S:=(fun k_ => P0_ k_)) hg (by repeat (first | (with_reducible first | exact HK.out | apply Kept.alloc | apply Kept.drewN | apply Kept.drew) | exact HK.out)) (fun k_ e_ => (HO185.out.1 k_ e_).1));have n3_:=Aside0.mk (ho);clear HO_0;clear HB;clear HK;clear HO185;have HO_0:=n0_;have HB:=n1_;have HK:=n2_;have HO189:=n3_;clear n0_ n1_ n2_ n3_;clear ho hb hg hat))
   go_roundg k1
   case measure => have:=HK1.out;omega
   case rel => exact ⟨(y187),(true),(wrap64 (x7_1 + 1)),(by first | rfl | (simp;done) | (simp [*];done)),(by first | rfl | (simp;done) | (simp [*];done)),H',⟨by have:=HK1.out;omega⟩,⟨by (with_reducible repeat (first | apply Kd.R_alloc | apply Kd.R_drewN | apply Kd.R_drew));exact HO_0.out⟩,⟨by (with_reducible repeat (first | apply Kd.R_alloc | apply Kd.R_drewN | apply Kd.R_drew));exact HO189.out⟩,⟨by repeat (first | (with_reducible first | exact HK.out | apply Kept.alloc | apply Kept.drewN | apply Kept.drew) | exact HK.out)⟩,⟨by repeat (first | (with_reducible first | exact HB.out | apply below_alloc | apply pw_below_drewN | apply below_drew1) | exact HB.out)⟩⟩
/-! ### spec_l71Keys: function 60 -/
def spec_l71Keys.l0 : Nat → List ByteArray → Int → List Int → Int → Option (List ByteArray × Int)
 | 0,_,_,_,_ => none
 | k + 1,x5,x6,x1000,x1001 => if x6 > 0 then ((spec_l71Near.f k x1000 x1001 x5).bind fun bt199 => ((spec_l2Put.f k x5 bt199.1).bind fun t201 => (spec_l71Keys.l0 k t201 (wrap64 (x6 - 1)) x1000 bt199.2))) else (some (x5,x1001))
def spec_l71Keys.f (k : Nat) (s0_0 : List Int) (s0_1 : Int) (a1 : Int) : Option (List ByteArray × Int):=(spec_l6Rd_pick.f k s0_0 s0_1 (wrap64 (a1 + 1))).bind fun bt197 => (spec_l71Keys.l0 k (([] : List ByteArray)) bt197.1 s0_0 bt197.2)
set_option maxHeartbeats 8000000 in
set_option maxRecDepth 100000 in
theorem spec_l71Keys.calls (k : Nat) (g : Nat) (s0_0 : List Int) (s0_1 : Int) (a1 : Int) (r1 : List ByteArray) (r2 : Int) (w0 w : World) (hI : IsS68 w0 w g s0_0 s0_1) (hB : Below w0.heap.size w0 w) (h : spec_l71Keys.f k s0_0 s0_1 a1 = some (r1,r2)) :
  Calls Try.prog 60 #[.pointer (some ⟨g,0,none⟩),.int .i64 a1] w fun e w' => ∃ v0_ : Value,e = .returned (v0_) ∧ Kd.R Kd.string 9 w' w.heap.size (fun _ => True) v0_ r1 ∧ IsS68 w0 w' g s0_0 r2 ∧ Below w0.heap.size w0 w' ∧ KeepBut w w' g none:=by
 have HI0:=Aside0.mk hI
 have HK:=Aside0.mk (KeepBut.refl w g none)
 have HL:=Aside0.mk hB.size
 clear hI
 have HW0:=Aside0.mk hB.size
 have HB:=Aside0.mk hB
 clear hB
 have H : ((spec_l6Rd_pick.f k s0_0 s0_1 (wrap64 (a1 + 1))).bind fun bt197 => (spec_l71Keys.l0 k (([] : List ByteArray)) bt197.1 s0_0 bt197.2)) = some (r1,r2):=h
 clear h
 obtain ⟨y194,hy194⟩ : ∃ y_ : List ByteArray,y_ = (([] : List ByteArray)):=⟨_,rfl⟩
 replace H : ((spec_l6Rd_pick.f k s0_0 s0_1 (wrap64 (a1 + 1))).bind fun bt197 => (spec_l71Keys.l0 k y194 bt197.1 s0_0 bt197.2)) = some (r1,r2):=by first | (rw [hy194];with_reducible exact H) | (have H2_:=(Option.bind_some _ _).symm.trans H;rw [hy194];with_reducible exact H2_) | (have H2_:=(Option.bind_some _ _).symm.trans H;with_reducible exact H2_) | with_reducible exact H | (rw [hy194];exact H) | exact H
 have Ny194:=Aside0.mk hy194
 clear hy194
 replace H:=Option.bind_eq_some_iff.mp H
 obtain ⟨⟨t197,t198⟩,A30,H⟩:=H
 replace H : (spec_l71Keys.l0 k y194 t197 s0_0 t198) = some (r1,r2):=H
 have A3:=Aside0.mk A30
 clear A30
 have H':=Aside0.mk H
 clear H
 go_enter Try.func60,Try.ntmps60
 go_wp2_with (first | ((with_reducible refine gate_dst (N:=7) rfl ?_);refine Kd.R_lit Kd.string _ 9 ?hg (N:=7) ?hd (xs:=([] : List ByteArray)) (inner:=[]) (ok:=fun _ => True) (okp:=fun _ => True) ?hr ?hp (fun _ hk => hk) trivial (Below.refl _ _) (Nat.le_refl _) (by simp) ?_;(case hd => rfl);(case hg => rfl);(case hr => first | (go_simp;done) | (go_simp;rfl));(case hp => exact (Reps.none _ _));intro v195 w4 ho5 hb hg_ hnew_;clear hg_ hnew_;(first | rw [← Ny194.out] at ho5 | (simp only [Int.reduceToNat] at ho5;rw [← Ny194.out] at ho5));have n0_:=Aside0.mk (Kd.R_lower ho5 (keep_size (w:=w) (g:=g) (row:=none) (by repeat (first | (with_reducible first | exact HK.out | apply KeepBut.set_ | apply keep_drewN | apply keep_drew | apply keep_alloc) | exact HK.out))));have n1_:=Aside0.mk (IsS68.below (by repeat (first | (with_reducible first | exact HI0.out | apply IsS68.alloc | apply IsS68.drewN | apply IsS68.drew | apply IsS68.set_1) | exact HI0.out)) hb);have n2_:=Aside0.mk (KeepBut.trans (by repeat (first | (with_reducible first | exact HK.out | apply KeepBut.set_ | apply keep_drewN | apply keep_drew | apply keep_alloc) | exact HK.out)) (KeepBut.of_below hb g none) (.inl rfl));have n3_:=Aside0.mk (below_step (by repeat (first | (with_reducible first | exact HB.out | apply below_alloc | apply pw_below_drewN | apply below_drew1 | refine below_set ?_ (IsS68.ge HI0.out)) | exact HB.out)) hb);clear HI0;clear HK;clear HB;have HO196:=n0_;have HI0:=n1_;have HK:=n2_;have HB:=n3_;clear n0_ n1_ n2_ n3_;clear hb ho5) | ((with_reducible refine gate_callee (f:=38) rfl ?_);refine goesL_ (some 11) rfl rfl Try.func38 T6q4 rfl #[.pointer (some ⟨g,0,none⟩),.int .i64 (wrap64 (a1 + 1))] rfl T6q5 ?_;(with_reducible refine (spec_l6Rd_pick.calls k g s0_0 s0_1 (wrap64 (a1 + 1)) t197 t198 w0 _ ?side1 ?side2 A3.out).mono ?_);(case side1 => repeat (first | (with_reducible first | exact HI0.out | apply IsS68.alloc | apply IsS68.drewN | apply IsS68.drew | apply IsS68.set_1) | exact HI0.out));(case side2 => repeat (first | (with_reducible first | exact HB.out | apply below_alloc | apply pw_below_drewN | apply below_drew1 | refine below_set ?_ (IsS68.ge HI0.out)) | exact HB.out));rintro e w6 ⟨rfl,hi,hb,hk⟩;refine ⟨_,rfl,?_⟩;have n0_:=Aside0.mk (Kd.R_mono (Kd.R_keep (IsS68.apart (show IsS68 w0 _ g s0_0 s0_1 from by repeat (first | (with_reducible first | exact HI0.out | apply IsS68.alloc | apply IsS68.drewN | apply IsS68.drew | apply IsS68.set_1) | exact HI0.out)) (by (with_reducible repeat (first | apply Kd.R_alloc | apply Kd.R_drewN | apply Kd.R_drew));exact HO196.out) (by decide)) hk (fun _ h => h.2)) (fun _ h => h.1));have n1_:=Aside0.mk (KeepBut.trans (by repeat (first | (with_reducible first | exact HK.out | apply KeepBut.set_ | apply keep_drewN | apply keep_drew | apply keep_alloc) | exact HK.out)) hk (.inl rfl));have n2_:=Aside0.mk (hb);have n3_:=Aside0.mk (hi);clear HO196;clear HK;clear HB;clear HI0;have HO196:=n0_;have HK:=n1_;have HB:=n2_;have HI0:=n3_;clear n0_ n1_ n2_ n3_;(try clear hb);(try clear hb2);(try clear hk);(try clear hi)))
 go_loopg [5,6] k (fun kq v5 v6 w' => ∃ (x5_1 : List ByteArray) (x6_1 : Int) (x1001_1 : Int),v6 = .int .i64 x6_1 ∧ Aside0 (spec_l71Keys.l0 kq x5_1 x6_1 s0_0 x1001_1 = some (r1,r2)) ∧ Aside0 (kq ≤ k) ∧ Aside0 (Kd.R Kd.string 9 w' w.heap.size (fun _ => True) v5 x5_1) ∧ Aside0 (IsS68 w0 w' g s0_0 x1001_1) ∧ Aside0 (KeepBut w w' g none) ∧ Aside0 (Below w0.heap.size w0 w'))
 case atStart => exact ⟨(y194),(t197),(t198),(by first | rfl | (simp;done) | (simp [*];done)),H',⟨Nat.le_refl _⟩,⟨by (with_reducible repeat (first | apply Kd.R_alloc | apply Kd.R_drewN | apply Kd.R_drew));exact HO196.out⟩,⟨by repeat (first | (with_reducible first | exact HI0.out | apply IsS68.alloc | apply IsS68.drewN | apply IsS68.drew | apply IsS68.set_1) | exact HI0.out)⟩,⟨by repeat (first | (with_reducible first | exact HK.out | apply KeepBut.set_ | apply keep_drewN | apply keep_drew | apply keep_alloc) | exact HK.out)⟩,⟨by repeat (first | (with_reducible first | exact HB.out | apply below_alloc | apply pw_below_drewN | apply below_drew1 | refine below_set ?_ (IsS68.ge HI0.out)) | exact HB.out)⟩⟩
 case round =>
  clear H'
  try clear p2
  try clear c3
  try clear c6
  try clear p6
  obtain ⟨x5_1,x6_1,x1001_1,rfl,HA,HK1,HO_5,HI0,HK,HB⟩:=hrel
  cases gk with
  | zero => exact absurd HA.out (by simp [spec_l71Keys.l0])
  | succ k1 =>
   have H:=HA.out
   clear HA
   simp only [spec_l71Keys.l0] at H
   by_cases c7 : x6_1 > 0
   rotate_left
   ·rw [if_neg c7] at H
    have c7b0 : decide (0 < x6_1) = false:=decide_eq_false c7
    clear c7
    simp only [Option.some.injEq,Prod.mk.injEq] at H
    obtain ⟨rfl,rfl⟩:=H
    go_wp2
    go_ret
    exact ⟨_,by first | rfl | (simp [errW_none,errW_some] <;> rfl) | (simp [*,errW_none,errW_some] <;> rfl),by (with_reducible repeat (first | apply Kd.R_alloc | apply Kd.R_drewN | apply Kd.R_drew));exact HO_5.out,by repeat (first | (with_reducible first | exact HI0.out | apply IsS68.alloc | apply IsS68.drewN | apply IsS68.drew | apply IsS68.set_1) | exact HI0.out),by repeat (first | (with_reducible first | exact HB.out | apply below_alloc | apply pw_below_drewN | apply below_drew1 | refine below_set ?_ (IsS68.ge HI0.out)) | exact HB.out),by repeat (first | (with_reducible first | exact HK.out | apply KeepBut.set_ | apply keep_drewN | apply keep_drew | apply keep_alloc) | exact HK.out)⟩
   rw [if_pos c7] at H
   have c7b0 : decide (0 < x6_1) = true:=decide_eq_true c7
   clear c7
   replace H:=Option.bind_eq_some_iff.mp H
   obtain ⟨⟨t199,t200⟩,A80,H⟩:=H
   replace H : ((spec_l2Put.f k1 x5_1 t199).bind fun t201 => (spec_l71Keys.l0 k1 t201 (wrap64 (x6_1 - 1)) s0_0 t200)) = some (r1,r2):=H
   have A8:=Aside0.mk A80
   clear A80
   replace H:=Option.bind_eq_some_iff.mp H
   obtain ⟨t201,A90,H⟩:=H
   replace H : (spec_l71Keys.l0 k1 t201 (wrap64 (x6_1 - 1)) s0_0 t200) = some (r1,r2):=H
   have A9:=Aside0.mk A90
   clear A90
   have H':=Aside0.mk H
   clear H
   obtain ⟨Ao10,co10,eo10⟩:=Kd.R_slice HO_5.out
   subst eo10
   go_wp2_with (first | ((with_reducible refine gate_callee (f:=36) rfl ?_);refine goesL_ (some 19) rfl rfl Try.func36 T6q4 rfl #[.pointer (some ⟨g,0,none⟩),.slice Ao10 x5_1.length co10] rfl T6q5 ?_;(with_reducible refine (spec_l71Near.calls k1 g s0_0 x1001_1 _ _ x5_1 t199 t200 w0 _ ?side1 ?side2 ?side3 ?side4 ?side5 A8.out).mono ?_);(case side1 => repeat (first | (with_reducible first | exact HI0.out | apply IsS68.alloc | apply IsS68.drewN | apply IsS68.drew | apply IsS68.set_1) | exact HI0.out));(case side2 => repeat (first | (with_reducible first | exact HB.out | apply below_alloc | apply pw_below_drewN | apply below_drew1 | refine below_set ?_ (IsS68.ge HI0.out)) | exact HB.out));(case side3 => repeat (first | exact (Kd.R_reads' HO_5.out).2.2 | (with_reducible refine Kd.C_alloc ?_ _) | (with_reducible refine Kd.C_drewN ?_ _) | (with_reducible refine Kd.C_drew ?_)));(case side4 => exact (Kd.R_reads' HO_5.out).2.1);(case side5 => exact far_slice (IsS68.own_ne HI0.out HO_5.out (by decide)));rintro e w11 ⟨rfl,hi,hb,hk⟩;refine ⟨_,rfl,?_⟩;have n0_:=Aside0.mk (Kd.R_mono (Kd.R_keep (IsS68.apart (show IsS68 w0 _ g s0_0 x1001_1 from by repeat (first | (with_reducible first | exact HI0.out | apply IsS68.alloc | apply IsS68.drewN | apply IsS68.drew | apply IsS68.set_1) | exact HI0.out)) T6q2 (by decide)) hk (fun _ h => h.2)) (fun _ h => h.1));have n1_:=Aside0.mk (KeepBut.trans (by repeat (first | (with_reducible first | exact HK.out | apply KeepBut.set_ | apply keep_drewN | apply keep_drew | apply keep_alloc) | exact HK.out)) hk (.inl rfl));have n2_:=Aside0.mk (hb);have n3_:=Aside0.mk (hi);clear HO_5;clear HK;clear HB;clear HI0;have HO_5:=n0_;have HK:=n1_;have HB:=n2_;have HI0:=n3_;clear n0_ n1_ n2_ n3_;(try clear hb);(try clear hb2);(try clear hk);(try clear hi)) | ((with_reducible refine gate_callee (f:=68) rfl ?_);refine goesL_ (some 20) rfl rfl Try.func68 T6q4 rfl #[.slice Ao10 x5_1.length co10,.string t199] rfl T6q5 ?_;(with_reducible refine (spec_l2Put.calls k1 (fun k_ => some k_ = (.slice Ao10 x5_1.length co10 : Value).ownBlock) (.slice Ao10 x5_1.length co10) x5_1 t199 t201 w0 _ ?side1 ?side2 A9.out).mono ?_);(case side1 => repeat (first | (with_reducible first | exact HB.out | apply below_alloc | apply pw_below_drewN | apply below_drew1 | refine below_set ?_ (IsS68.ge HI0.out)) | exact HB.out));(case side2 => exact Kd.R_lower (Kd.R_tight rfl HO_5.out) HL.out);rintro e w12 ⟨v202,rfl,ho0,hb,hkp⟩;refine ⟨_,rfl,?_⟩;have n0_:=Aside0.mk (IsS68.kept (by repeat (first | (with_reducible first | exact HI0.out | apply IsS68.alloc | apply IsS68.drewN | apply IsS68.drew | apply IsS68.set_1) | exact HI0.out)) hkp (fun hs_ => (fun e_ => (IsS68.own_ne HI0.out HO_5.out (by decide)) e_) hs_));have n1_:=Aside0.mk (Kd.R_mono (ok':=fun k_ => True) (Kd.R_raise (d:=Kd.string) (b:=w0.heap.size) (b':=w.heap.size) (fun _ _ _ _ h_ => h_) ho0 (fun k_ e_ => Or.elim (ho0.1 k_ e_) (fun hs_ => (fun e_ => Kd.R_base HO_5.out k_ e_.symm) hs_) (fun hn_ => Nat.le_trans (keep_size (w:=w) (g:=g) (row:=none) (by repeat (first | (with_reducible first | exact HK.out | apply KeepBut.set_ | apply keep_drewN | apply keep_drew | apply keep_alloc) | exact HK.out))) hn_))) (fun k_ hk_ => trivial));have n2_:=Aside0.mk (Kept.keepG (by repeat (first | (with_reducible first | exact HK.out | apply KeepBut.set_ | apply keep_drewN | apply keep_drew | apply keep_alloc) | exact HK.out)) hkp (fun k_ hs_ => (fun e_ => .inr (Kd.R_base HO_5.out k_ e_.symm)) hs_));have n3_:=Aside0.mk (hb);clear HI0;clear HK;clear HB;clear HO_5;have HI0:=n0_;have HO203:=n1_;have HK:=n2_;have HB:=n3_;clear n0_ n1_ n2_ n3_;(try clear hb);(try clear hkp);(try clear ho0)))
   go_roundg k1
   case measure => have:=HK1.out;omega
   case rel => exact ⟨(t201),(wrap64 (x6_1 - 1)),(t200),(by first | rfl | (simp;done) | (simp [*];done)),H',⟨by have:=HK1.out;omega⟩,⟨by (with_reducible repeat (first | apply Kd.R_alloc | apply Kd.R_drewN | apply Kd.R_drew));exact HO203.out⟩,⟨by repeat (first | (with_reducible first | exact HI0.out | apply IsS68.alloc | apply IsS68.drewN | apply IsS68.drew | apply IsS68.set_1) | exact HI0.out)⟩,⟨by repeat (first | (with_reducible first | exact HK.out | apply KeepBut.set_ | apply keep_drewN | apply keep_drew | apply keep_alloc) | exact HK.out)⟩,⟨by repeat (first | (with_reducible first | exact HB.out | apply below_alloc | apply pw_below_drewN | apply below_drew1 | refine below_set ?_ (IsS68.ge HI0.out)) | exact HB.out)⟩⟩
/-! ### spec_l71Run: function 46 -/
mutual
def spec_l71Run.l0 : Nat → List ByteArray → List (S27) → Int → List Int → Int → Option ((List (S27)) × Int)
 | 0,_,_,_,_,_ => none
 | k + 1,x5,x6,x7,x1000,x1001 => if x7 > 0 then ((spec_l71Near.f k x1000 x1001 x5).bind fun bt213 => ((spec_l6Rd_pick.f k x1000 bt213.2 100).bind fun bt215 => ((spec_l6Rd_pick.f k x1000 bt215.2 60).bind fun bt217 => ((spec_l6Rd_pick.f k x1000 bt217.2 4).bind fun bt220 => (if bt220.1 = 0 then (spec_l71Run.j1 k x5 x6 x7 x1000 bt220.2 bt213.1 0 true (wrap64 (1 + bt217.1))) else (spec_l71Run.j1 k x5 x6 x7 x1000 bt220.2 bt213.1 bt215.1 false (wrap64 (1 + bt217.1)))))))) else (some (x6,x1001))
def spec_l71Run.j1 : Nat → List ByteArray → List (S27) → Int → List Int → Int → ByteArray → Int → Bool → Int → Option ((List (S27)) × Int)
 | 0,_,_,_,_,_,_,_,_,_ => none
 | k + 1,x5,x6,x7,x1000,x1001,x220000,x220001,x220002,x220003 => (spec_l11Join.f k x6 (([(⟨x220000,x220001,x220002,x220003⟩ : S27)] : List (S27)))).bind fun t225 => ((spec_RunOk.f k t225).bind fun t228 => (if t228 = true then (spec_l71Run.l0 k x5 t225 (wrap64 (x7 - 1)) x1000 x1001) else (spec_l71Run.l0 k x5 x6 (wrap64 (x7 - 1)) x1000 x1001)))
end
def spec_l71Run.f (k : Nat) (s0_0 : List Int) (s0_1 : Int) (a1 : Int) : Option ((List (S27)) × Int):=(spec_l71Keys.f k s0_0 s0_1 5).bind fun bt204 => ((spec_l6Rd_pick.f k s0_0 bt204.2 (wrap64 (a1 + 1))).bind fun bt211 => (spec_l71Run.l0 k bt204.1 (([] : List (S27))) bt211.1 s0_0 bt211.2))
set_option maxHeartbeats 8000000 in
set_option maxRecDepth 100000 in
theorem spec_l71Run.calls (k : Nat) (g : Nat) (s0_0 : List Int) (s0_1 : Int) (a1 : Int) (r1 : List (S27)) (r2 : Int) (w0 w : World) (hI : IsS68 w0 w g s0_0 s0_1) (hB : Below w0.heap.size w0 w) (h : spec_l71Run.f k s0_0 s0_1 a1 = some (r1,r2)) :
  Calls Try.prog 46 #[.pointer (some ⟨g,0,none⟩),.int .i64 a1] w fun e w' => ∃ v0_ : Value,e = .returned (v0_) ∧ Kd.R k27 27 w' w.heap.size (fun _ => True) v0_ r1 ∧ IsS68 w0 w' g s0_0 r2 ∧ Below w0.heap.size w0 w' ∧ KeepBut w w' g none:=by
 have hu27:=Try.underlying27
 have HI0:=Aside0.mk hI
 have HK:=Aside0.mk (KeepBut.refl w g none)
 have HL:=Aside0.mk hB.size
 clear hI
 have HW0:=Aside0.mk hB.size
 have HB:=Aside0.mk hB
 clear hB
 have H : ((spec_l71Keys.f k s0_0 s0_1 5).bind fun bt204 => ((spec_l6Rd_pick.f k s0_0 bt204.2 (wrap64 (a1 + 1))).bind fun bt211 => (spec_l71Run.l0 k bt204.1 (([] : List (S27))) bt211.1 s0_0 bt211.2))) = some (r1,r2):=h
 clear h
 replace H:=Option.bind_eq_some_iff.mp H
 obtain ⟨⟨t204,t207⟩,A30,H⟩:=H
 replace H : ((spec_l6Rd_pick.f k s0_0 t207 (wrap64 (a1 + 1))).bind fun bt211 => (spec_l71Run.l0 k t204 (([] : List (S27))) bt211.1 s0_0 bt211.2)) = some (r1,r2):=H
 have A3:=Aside0.mk A30
 clear A30
 obtain ⟨y208,hy208⟩ : ∃ y_ : List (S27),y_ = (([] : List (S27))):=⟨_,rfl⟩
 replace H : ((spec_l6Rd_pick.f k s0_0 t207 (wrap64 (a1 + 1))).bind fun bt211 => (spec_l71Run.l0 k t204 y208 bt211.1 s0_0 bt211.2)) = some (r1,r2):=by first | (rw [hy208];with_reducible exact H) | (have H2_:=(Option.bind_some _ _).symm.trans H;rw [hy208];with_reducible exact H2_) | (have H2_:=(Option.bind_some _ _).symm.trans H;with_reducible exact H2_) | with_reducible exact H | (rw [hy208];exact H) | exact H
 have Ny208:=Aside0.mk hy208
 clear hy208
 replace H:=Option.bind_eq_some_iff.mp H
 obtain ⟨⟨t211,t212⟩,A40,H⟩:=H
 replace H : (spec_l71Run.l0 k t204 y208 t211 s0_0 t212) = some (r1,r2):=H
 have A4:=Aside0.mk A40
 clear A40
 have H':=Aside0.mk H
 clear H
 go_enter Try.func46,Try.ntmps46
 go_wp2_with (first | ((with_reducible refine gate_callee (f:=60) rfl ?_);refine goesL_ (some 11) rfl rfl Try.func60 T6q4 rfl #[.pointer (some ⟨g,0,none⟩),.int .i64 5] rfl T6q5 ?_;(with_reducible refine (spec_l71Keys.calls k g s0_0 s0_1 5 t204 t207 w0 _ ?side1 ?side2 A3.out).mono ?_);(case side1 => repeat (first | (with_reducible first | exact HI0.out | apply IsS68.alloc | apply IsS68.drewN | apply IsS68.drew | apply IsS68.set_1) | exact HI0.out));(case side2 => repeat (first | (with_reducible first | exact HB.out | apply below_alloc | apply pw_below_drewN | apply below_drew1 | refine below_set ?_ (IsS68.ge HI0.out)) | exact HB.out));rintro e w5 ⟨v205,rfl,ho0,hi,hb,hk⟩;refine ⟨_,rfl,?_⟩;have n0_:=Aside0.mk (Kd.R_lower ho0 (keep_size (w:=w) (g:=g) (row:=none) (by repeat (first | (with_reducible first | exact HK.out | apply KeepBut.set_ | apply keep_drewN | apply keep_drew | apply keep_alloc) | exact HK.out))));have n1_:=Aside0.mk (KeepBut.trans (by repeat (first | (with_reducible first | exact HK.out | apply KeepBut.set_ | apply keep_drewN | apply keep_drew | apply keep_alloc) | exact HK.out)) hk (.inl rfl));have n2_:=Aside0.mk (hb);have n3_:=Aside0.mk (hi);clear HK;clear HB;clear HI0;have HO206:=n0_;have HK:=n1_;have HB:=n2_;have HI0:=n3_;clear n0_ n1_ n2_ n3_;(try clear hb);(try clear hb2);(try clear hk);(try clear hi);(try clear ho0)) | ((with_reducible refine gate_dst (N:=12) rfl ?_);refine Kd.R_lit k27 _ 27 ?hg (N:=12) ?hd (xs:=([] : List (S27))) (inner:=[]) (ok:=fun _ => True) (okp:=fun _ => True) ?hr ?hp (fun _ hk => hk) trivial (Below.refl _ _) (Nat.le_refl _) (by simp) ?_;(case hd => rfl);(case hg => rfl);(case hr => first | (go_simp;done) | (go_simp;rfl));(case hp => exact (Reps.none _ _));intro v209 w6 ho7 hb hg_ hnew_;clear hg_ hnew_;(first | rw [← Ny208.out] at ho7 | (simp only [Int.reduceToNat] at ho7;rw [← Ny208.out] at ho7));have n0_:=Aside0.mk (Kd.R_below (by (with_reducible repeat (first | apply Kd.R_alloc | apply Kd.R_drewN | apply Kd.R_drew));exact HO206.out) hb);have n1_:=Aside0.mk (Kd.R_lower ho7 (keep_size (w:=w) (g:=g) (row:=none) (by repeat (first | (with_reducible first | exact HK.out | apply KeepBut.set_ | apply keep_drewN | apply keep_drew | apply keep_alloc) | exact HK.out))));have n2_:=Aside0.mk (IsS68.below (by repeat (first | (with_reducible first | exact HI0.out | apply IsS68.alloc | apply IsS68.drewN | apply IsS68.drew | apply IsS68.set_1) | exact HI0.out)) hb);have n3_:=Aside0.mk (KeepBut.trans (by repeat (first | (with_reducible first | exact HK.out | apply KeepBut.set_ | apply keep_drewN | apply keep_drew | apply keep_alloc) | exact HK.out)) (KeepBut.of_below hb g none) (.inl rfl));have n4_:=Aside0.mk (below_step (by repeat (first | (with_reducible first | exact HB.out | apply below_alloc | apply pw_below_drewN | apply below_drew1 | refine below_set ?_ (IsS68.ge HI0.out)) | exact HB.out)) hb);clear HO206;clear HI0;clear HK;clear HB;have HO206:=n0_;have HO210:=n1_;have HI0:=n2_;have HK:=n3_;have HB:=n4_;clear n0_ n1_ n2_ n3_ n4_;clear hb ho7) | ((with_reducible refine gate_callee (f:=38) rfl ?_);refine goesL_ (some 16) rfl rfl Try.func38 T6q4 rfl #[.pointer (some ⟨g,0,none⟩),.int .i64 (wrap64 (a1 + 1))] rfl T6q5 ?_;(with_reducible refine (spec_l6Rd_pick.calls k g s0_0 t207 (wrap64 (a1 + 1)) t211 t212 w0 _ ?side1 ?side2 A4.out).mono ?_);(case side1 => repeat (first | (with_reducible first | exact HI0.out | apply IsS68.alloc | apply IsS68.drewN | apply IsS68.drew | apply IsS68.set_1) | exact HI0.out));(case side2 => repeat (first | (with_reducible first | exact HB.out | apply below_alloc | apply pw_below_drewN | apply below_drew1 | refine below_set ?_ (IsS68.ge HI0.out)) | exact HB.out));rintro e w8 ⟨rfl,hi,hb,hk⟩;refine ⟨_,rfl,?_⟩;have n0_:=Aside0.mk (Kd.R_mono (Kd.R_keep (IsS68.apart (show IsS68 w0 _ g s0_0 t207 from by repeat (first | (with_reducible first | exact HI0.out | apply IsS68.alloc | apply IsS68.drewN | apply IsS68.drew | apply IsS68.set_1) | exact HI0.out)) (by (with_reducible repeat (first | apply Kd.R_alloc | apply Kd.R_drewN | apply Kd.R_drew));exact HO206.out) (by decide)) hk (fun _ h => h.2)) (fun _ h => h.1));have n1_:=Aside0.mk (Kd.R_mono (Kd.R_keep (IsS68.apart (show IsS68 w0 _ g s0_0 t207 from by repeat (first | (with_reducible first | exact HI0.out | apply IsS68.alloc | apply IsS68.drewN | apply IsS68.drew | apply IsS68.set_1) | exact HI0.out)) (by (with_reducible repeat (first | apply Kd.R_alloc | apply Kd.R_drewN | apply Kd.R_drew));exact HO210.out) (by decide)) hk (fun _ h => h.2)) (fun _ h => h.1));have n2_:=Aside0.mk (KeepBut.trans (by repeat (first | (with_reducible first | exact HK.out | apply KeepBut.set_ | apply keep_drewN | apply keep_drew | apply keep_alloc) | exact HK.out)) hk (.inl rfl));have n3_:=Aside0.mk (hb);have n4_:=Aside0.mk (hi);clear HO206;clear HO210;clear HK;clear HB;clear HI0;have HO206:=n0_;have HO210:=n1_;have HK:=n2_;have HB:=n3_;have HI0:=n4_;clear n0_ n1_ n2_ n3_ n4_;(try clear hb);(try clear hb2);(try clear hk);(try clear hi)))
 go_loopg [6,7] k (fun kq v6 v7 w' => ∃ (x6_1 : List (S27)) (x7_1 : Int) (x1001_1 : Int),v7 = .int .i64 x7_1 ∧ Aside0 (spec_l71Run.l0 kq t204 x6_1 x7_1 s0_0 x1001_1 = some (r1,r2)) ∧ Aside0 (kq ≤ k) ∧ Aside0 (Kd.R Kd.string 9 w' w.heap.size (fun _ => True) v205 t204) ∧ Aside0 (Kd.R k27 27 w' w.heap.size (fun _ => True) v6 x6_1) ∧ Aside0 (IsS68 w0 w' g s0_0 x1001_1) ∧ Aside0 (KeepBut w w' g none) ∧ Aside0 (Below w0.heap.size w0 w'))
 case atStart => exact ⟨(y208),(t211),(t212),(by first | rfl | (simp;done) | (simp [*];done)),H',⟨Nat.le_refl _⟩,⟨by (with_reducible repeat (first | apply Kd.R_alloc | apply Kd.R_drewN | apply Kd.R_drew));exact HO206.out⟩,⟨by (with_reducible repeat (first | apply Kd.R_alloc | apply Kd.R_drewN | apply Kd.R_drew));exact HO210.out⟩,⟨by repeat (first | (with_reducible first | exact HI0.out | apply IsS68.alloc | apply IsS68.drewN | apply IsS68.drew | apply IsS68.set_1) | exact HI0.out)⟩,⟨by repeat (first | (with_reducible first | exact HK.out | apply KeepBut.set_ | apply keep_drewN | apply keep_drew | apply keep_alloc) | exact HK.out)⟩,⟨by repeat (first | (with_reducible first | exact HB.out | apply below_alloc | apply pw_below_drewN | apply below_drew1 | refine below_set ?_ (IsS68.ge HI0.out)) | exact HB.out)⟩⟩
 case round =>
  clear H'
  try clear p2
  try clear c3
  try clear c4
  try clear c6
  try clear p6
  obtain ⟨x6_1,x7_1,x1001_1,rfl,HA,HK1,HO_5,HO_6,HI0,HK,HB⟩:=hrel
  cases gk with
  | zero => exact absurd HA.out (by simp [spec_l71Run.l0])
  | succ k1 =>
   have H:=HA.out
   clear HA
   simp only [spec_l71Run.l0] at H
   by_cases c9 : x7_1 > 0
   rotate_left
   ·rw [if_neg c9] at H
    have c9b0 : decide (0 < x7_1) = false:=decide_eq_false c9
    clear c9
    simp only [Option.some.injEq,Prod.mk.injEq] at H
    obtain ⟨rfl,rfl⟩:=H
    go_wp2
    go_ret
    exact ⟨_,by first | rfl | (simp [errW_none,errW_some] <;> rfl) | (simp [*,errW_none,errW_some] <;> rfl),by (with_reducible repeat (first | apply Kd.R_alloc | apply Kd.R_drewN | apply Kd.R_drew));exact HO_6.out,by repeat (first | (with_reducible first | exact HI0.out | apply IsS68.alloc | apply IsS68.drewN | apply IsS68.drew | apply IsS68.set_1) | exact HI0.out),by repeat (first | (with_reducible first | exact HB.out | apply below_alloc | apply pw_below_drewN | apply below_drew1 | refine below_set ?_ (IsS68.ge HI0.out)) | exact HB.out),by repeat (first | (with_reducible first | exact HK.out | apply KeepBut.set_ | apply keep_drewN | apply keep_drew | apply keep_alloc) | exact HK.out)⟩
   rw [if_pos c9] at H
   have c9b0 : decide (0 < x7_1) = true:=decide_eq_true c9
   clear c9
   replace H:=Option.bind_eq_some_iff.mp H
   obtain ⟨⟨t213,t214⟩,A100,H⟩:=H
   replace H : ((spec_l6Rd_pick.f k1 s0_0 t214 100).bind fun bt215 => ((spec_l6Rd_pick.f k1 s0_0 bt215.2 60).bind fun bt217 => ((spec_l6Rd_pick.f k1 s0_0 bt217.2 4).bind fun bt220 => (if bt220.1 = 0 then (spec_l71Run.j1 k1 t204 x6_1 x7_1 s0_0 bt220.2 t213 0 true (wrap64 (1 + bt217.1))) else (spec_l71Run.j1 k1 t204 x6_1 x7_1 s0_0 bt220.2 t213 bt215.1 false (wrap64 (1 + bt217.1))))))) = some (r1,r2):=H
   have A10:=Aside0.mk A100
   clear A100
   replace H:=Option.bind_eq_some_iff.mp H
   obtain ⟨⟨t215,t216⟩,A110,H⟩:=H
   replace H : ((spec_l6Rd_pick.f k1 s0_0 t216 60).bind fun bt217 => ((spec_l6Rd_pick.f k1 s0_0 bt217.2 4).bind fun bt220 => (if bt220.1 = 0 then (spec_l71Run.j1 k1 t204 x6_1 x7_1 s0_0 bt220.2 t213 0 true (wrap64 (1 + bt217.1))) else (spec_l71Run.j1 k1 t204 x6_1 x7_1 s0_0 bt220.2 t213 t215 false (wrap64 (1 + bt217.1)))))) = some (r1,r2):=H
   have A11:=Aside0.mk A110
   clear A110
   replace H:=Option.bind_eq_some_iff.mp H
   obtain ⟨⟨t217,t218⟩,A120,H⟩:=H
   replace H : ((spec_l6Rd_pick.f k1 s0_0 t218 4).bind fun bt220 => (if bt220.1 = 0 then (spec_l71Run.j1 k1 t204 x6_1 x7_1 s0_0 bt220.2 t213 0 true (wrap64 (1 + t217))) else (spec_l71Run.j1 k1 t204 x6_1 x7_1 s0_0 bt220.2 t213 t215 false (wrap64 (1 + t217))))) = some (r1,r2):=H
   have A12:=Aside0.mk A120
   clear A120
   replace H:=Option.bind_eq_some_iff.mp H
   obtain ⟨⟨t220,t221⟩,A130,H⟩:=H
   replace H : (if t220 = 0 then (spec_l71Run.j1 k1 t204 x6_1 x7_1 s0_0 t221 t213 0 true (wrap64 (1 + t217))) else (spec_l71Run.j1 k1 t204 x6_1 x7_1 s0_0 t221 t213 t215 false (wrap64 (1 + t217)))) = some (r1,r2):=H
   have A13:=Aside0.mk A130
   clear A130
   have HC14:=Aside0.mk H
   clear H
   obtain ⟨Ao15,co15,eo15⟩:=Kd.R_slice HO_5.out
   subst eo15
   go_upto_if 32 with (first | ((with_reducible refine gate_callee (f:=36) rfl ?_);refine goesL_ (some 23) rfl rfl Try.func36 T6q4 rfl #[.pointer (some ⟨g,0,none⟩),.slice Ao15 t204.length co15] rfl T6q5 ?_;(with_reducible refine (spec_l71Near.calls k1 g s0_0 x1001_1 _ _ t204 t213 t214 w0 _ ?side1 ?side2 ?side3 ?side4 ?side5 A10.out).mono ?_);(case side1 => repeat (first | (with_reducible first | exact HI0.out | apply IsS68.alloc | apply IsS68.drewN | apply IsS68.drew | apply IsS68.set_1) | exact HI0.out));(case side2 => repeat (first | (with_reducible first | exact HB.out | apply below_alloc | apply pw_below_drewN | apply below_drew1 | refine below_set ?_ (IsS68.ge HI0.out)) | exact HB.out));(case side3 => repeat (first | exact (Kd.R_reads' HO_5.out).2.2 | (with_reducible refine Kd.C_alloc ?_ _) | (with_reducible refine Kd.C_drewN ?_ _) | (with_reducible refine Kd.C_drew ?_)));(case side4 => exact (Kd.R_reads' HO_5.out).2.1);(case side5 => exact far_slice (IsS68.own_ne HI0.out HO_5.out (by decide)));rintro e w16 ⟨rfl,hi,hb,hk⟩;refine ⟨_,rfl,?_⟩;have n0_:=Aside0.mk (Kd.R_mono (Kd.R_keep (IsS68.apart (show IsS68 w0 _ g s0_0 x1001_1 from by repeat (first | (with_reducible first | exact HI0.out | apply IsS68.alloc | apply IsS68.drewN | apply IsS68.drew | apply IsS68.set_1) | exact HI0.out)) T6q2 (by decide)) hk (fun _ h => h.2)) (fun _ h => h.1));have n1_:=Aside0.mk (Kd.R_mono (Kd.R_keep (IsS68.apart (show IsS68 w0 _ g s0_0 x1001_1 from by repeat (first | (with_reducible first | exact HI0.out | apply IsS68.alloc | apply IsS68.drewN | apply IsS68.drew | apply IsS68.set_1) | exact HI0.out)) T6q6 (by decide)) hk (fun _ h => h.2)) (fun _ h => h.1));have n2_:=Aside0.mk (KeepBut.trans (by repeat (first | (with_reducible first | exact HK.out | apply KeepBut.set_ | apply keep_drewN | apply keep_drew | apply keep_alloc) | exact HK.out)) hk (.inl rfl));have n3_:=Aside0.mk (hb);have n4_:=Aside0.mk (hi);clear HO_5;clear HO_6;clear HK;clear HB;clear HI0;have HO_5:=n0_;have HO_6:=n1_;have HK:=n2_;have HB:=n3_;have HI0:=n4_;clear n0_ n1_ n2_ n3_ n4_;(try clear hb);(try clear hb2);(try clear hk);(try clear hi)) | ((with_reducible refine gate_callee (f:=38) rfl ?_);refine goesL_ (some 25) rfl rfl Try.func38 T6q4 rfl #[.pointer (some ⟨g,0,none⟩),.int .i64 100] rfl T6q5 ?_;(with_reducible refine (spec_l6Rd_pick.calls k1 g s0_0 t214 100 t215 t216 w0 _ ?side1 ?side2 A11.out).mono ?_);(case side1 => repeat (first | (with_reducible first | exact HI0.out | apply IsS68.alloc | apply IsS68.drewN | apply IsS68.drew | apply IsS68.set_1) | exact HI0.out));(case side2 => repeat (first | (with_reducible first | exact HB.out | apply below_alloc | apply pw_below_drewN | apply below_drew1 | refine below_set ?_ (IsS68.ge HI0.out)) | exact HB.out));rintro e w17 ⟨rfl,hi,hb,hk⟩;refine ⟨_,rfl,?_⟩;have n0_:=Aside0.mk (Kd.R_mono (Kd.R_keep (IsS68.apart (show IsS68 w0 _ g s0_0 t214 from by repeat (first | (with_reducible first | exact HI0.out | apply IsS68.alloc | apply IsS68.drewN | apply IsS68.drew | apply IsS68.set_1) | exact HI0.out)) T6q2 (by decide)) hk (fun _ h => h.2)) (fun _ h => h.1));have n1_:=Aside0.mk (Kd.R_mono (Kd.R_keep (IsS68.apart (show IsS68 w0 _ g s0_0 t214 from by repeat (first | (with_reducible first | exact HI0.out | apply IsS68.alloc | apply IsS68.drewN | apply IsS68.drew | apply IsS68.set_1) | exact HI0.out)) T6q6 (by decide)) hk (fun _ h => h.2)) (fun _ h => h.1));have n2_:=Aside0.mk (KeepBut.trans (by repeat (first | (with_reducible first | exact HK.out | apply KeepBut.set_ | apply keep_drewN | apply keep_drew | apply keep_alloc) | exact HK.out)) hk (.inl rfl));have n3_:=Aside0.mk (hb);have n4_:=Aside0.mk (hi);clear HO_5;clear HO_6;clear HK;clear HB;clear HI0;have HO_5:=n0_;have HO_6:=n1_;have HK:=n2_;have HB:=n3_;have HI0:=n4_;clear n0_ n1_ n2_ n3_ n4_;(try clear hb);(try clear hb2);(try clear hk);(try clear hi)) | ((with_reducible refine gate_callee (f:=38) rfl ?_);refine goesL_ (some 27) rfl rfl Try.func38 T6q4 rfl #[.pointer (some ⟨g,0,none⟩),.int .i64 60] rfl T6q5 ?_;(with_reducible refine (spec_l6Rd_pick.calls k1 g s0_0 t216 60 t217 t218 w0 _ ?side1 ?side2 A12.out).mono ?_);(case side1 => repeat (first | (with_reducible first | exact HI0.out | apply IsS68.alloc | apply IsS68.drewN | apply IsS68.drew | apply IsS68.set_1) | exact HI0.out));(case side2 => repeat (first | (with_reducible first | exact HB.out | apply below_alloc | apply pw_below_drewN | apply below_drew1 | refine below_set ?_ (IsS68.ge HI0.out)) | exact HB.out));rintro e w18 ⟨rfl,hi,hb,hk⟩;refine ⟨_,rfl,?_⟩;have n0_:=Aside0.mk (Kd.R_mono (Kd.R_keep (IsS68.apart (show IsS68 w0 _ g s0_0 t216 from by repeat (first | (with_reducible first | exact HI0.out | apply IsS68.alloc | apply IsS68.drewN | apply IsS68.drew | apply IsS68.set_1) | exact HI0.out)) T6q2 (by decide)) hk (fun _ h => h.2)) (fun _ h => h.1));have n1_:=Aside0.mk (Kd.R_mono (Kd.R_keep (IsS68.apart (show IsS68 w0 _ g s0_0 t216 from by repeat (first | (with_reducible first | exact HI0.out | apply IsS68.alloc | apply IsS68.drewN | apply IsS68.drew | apply IsS68.set_1) | exact HI0.out)) T6q6 (by decide)) hk (fun _ h => h.2)) (fun _ h => h.1));have n2_:=Aside0.mk (KeepBut.trans (by repeat (first | (with_reducible first | exact HK.out | apply KeepBut.set_ | apply keep_drewN | apply keep_drew | apply keep_alloc) | exact HK.out)) hk (.inl rfl));have n3_:=Aside0.mk (hb);have n4_:=Aside0.mk (hi);clear HO_5;clear HO_6;clear HK;clear HB;clear HI0;have HO_5:=n0_;have HO_6:=n1_;have HK:=n2_;have HB:=n3_;have HI0:=n4_;clear n0_ n1_ n2_ n3_ n4_;(try clear hb);(try clear hb2);(try clear hk);(try clear hi)) | ((with_reducible refine gate_dst (N:=8) rfl ?_);refine box_event ?hg (N:=8) ?hd (cs:=#[.string (⟨#[]⟩ : ByteArray),.int .i64 0,.bool false,.int .i64 0]) (t:=27) ?hr ?_;(case hd => rfl);(case hg => rfl);(case hr => first | (go_simp;done) | (go_simp;rfl));intro gb219 hg w19 hbox hb;have n0_:=Aside0.mk (Kd.R_below T6q2 hb);have n1_:=Aside0.mk (Kd.R_below (Kd.R_elderB T6q6 gb219 (Nat.le_of_eq hg.symm)) hb);have n2_:=Aside0.mk (IsS68.below (by repeat (first | (with_reducible first | exact HI0.out | apply IsS68.alloc | apply IsS68.drewN | apply IsS68.drew | apply IsS68.set_1) | exact HI0.out)) hb);have n3_:=Aside0.mk (KeepBut.trans (by repeat (first | (with_reducible first | exact HK.out | apply KeepBut.set_ | apply keep_drewN | apply keep_drew | apply keep_alloc) | exact HK.out)) (KeepBut.of_below hb g none) (.inl rfl));have n4_:=Aside0.mk (below_step (by repeat (first | (with_reducible first | exact HB.out | apply below_alloc | apply pw_below_drewN | apply below_drew1 | refine below_set ?_ (IsS68.ge HI0.out)) | exact HB.out)) hb);have n5_:=Aside0.mk (hbox);have n6_:=Aside0.mk ((by rw [hg];exact (keep_size (w:=w) (g:=g) (row:=none) (by repeat (first | (with_reducible first | exact HK.out | apply KeepBut.set_ | apply keep_drewN | apply keep_drew | apply keep_alloc) | exact HK.out))) : w.heap.size ≤ gb219));have n7_:=Aside0.mk ((Nat.le_trans HW0.out (by rw [hg];exact (keep_size (w:=w) (g:=g) (row:=none) (by repeat (first | (with_reducible first | exact HK.out | apply KeepBut.set_ | apply keep_drewN | apply keep_drew | apply keep_alloc) | exact HK.out))) : w.heap.size ≤ gb219) : w0.heap.size ≤ gb219));have n8_:=Aside0.mk ((by rw [hg];exact Nat.ne_of_lt (IsS68.lt (show IsS68 w0 _ g s0_0 t218 from by repeat (first | (with_reducible first | exact HI0.out | apply IsS68.alloc | apply IsS68.drewN | apply IsS68.drew | apply IsS68.set_1) | exact HI0.out))) : g ≠ gb219));have n9_:=Aside0.mk ((by rw [hg];exact Nat.ne_of_gt (IsS68.lt (show IsS68 w0 _ g s0_0 t218 from by repeat (first | (with_reducible first | exact HI0.out | apply IsS68.alloc | apply IsS68.drewN | apply IsS68.drew | apply IsS68.set_1) | exact HI0.out))) : gb219 ≠ g));clear HO_5;clear HO_6;clear HI0;clear HK;clear HB;have HO_5:=n0_;have HO_6:=n1_;have HI0:=n2_;have HK:=n3_;have HB:=n4_;have BK219:=n5_;have GW219:=n6_;have GE219:=n7_;have NB0_219:=n8_;have NB219_0:=n9_;clear n0_ n1_ n2_ n3_ n4_ n5_ n6_ n7_ n8_ n9_;clear hb hbox hg;have hnb20:=NB219_0.out;have hnc20:=NB0_219.out;have hcz21_0 : w19.cell? ⟨gb219,0,none⟩ = some (.string (⟨#[]⟩ : ByteArray)):=(blk_cell BK219.out 0).trans rfl;have hcz21_1 : w19.cell? ⟨gb219,1,none⟩ = some (.int .i64 0):=(blk_cell BK219.out 1).trans rfl;have hcz21_2 : w19.cell? ⟨gb219,2,none⟩ = some (.bool false):=(blk_cell BK219.out 2).trans rfl;have hcz21_3 : w19.cell? ⟨gb219,3,none⟩ = some (.int .i64 0):=(blk_cell BK219.out 3).trans rfl;have hfz21_0:=blk_frozen BK219.out 0;have hfz21_1:=blk_frozen BK219.out 1;have hfz21_2:=blk_frozen BK219.out 2;have hfz21_3:=blk_frozen BK219.out 3) | ((with_reducible refine gate_callee (f:=38) rfl ?_);refine goesL_ (some 31) rfl rfl Try.func38 T6q4 rfl #[.pointer (some ⟨g,0,none⟩),.int .i64 4] rfl T6q5 ?_;(with_reducible refine (spec_l6Rd_pick.calls k1 g s0_0 t218 4 t220 t221 w0 _ ?side1 ?side2 A13.out).mono ?_);(case side1 => repeat (first | (with_reducible first | exact HI0.out | apply IsS68.alloc | apply IsS68.drewN | apply IsS68.drew | apply IsS68.set_1 | refine IsS68.far ?_ NB0_219.out _) | exact HI0.out));(case side2 => repeat (first | (with_reducible first | exact HB.out | apply below_alloc | apply pw_below_drewN | apply below_drew1 | refine below_set ?_ (IsS68.ge HI0.out) | refine below_set ?_ GE219.out) | exact HB.out));rintro e w22 ⟨rfl,hi,hb,hk⟩;refine ⟨_,rfl,?_⟩;have n0_:=Aside0.mk (Kd.R_mono (Kd.R_keep (IsS68.apart (show IsS68 w0 _ g s0_0 t218 from by repeat (first | (with_reducible first | exact HI0.out | apply IsS68.alloc | apply IsS68.drewN | apply IsS68.drew | apply IsS68.set_1 | refine IsS68.far ?_ NB0_219.out _) | exact HI0.out)) (by (with_reducible repeat (first | apply Kd.R_alloc | apply Kd.R_drewN | apply Kd.R_drew));exact (Kd.R_mono (Kd.R_far (p:=⟨gb219,3,none⟩) (Kd.R_far (p:=⟨gb219,2,none⟩) (Kd.R_far (p:=⟨gb219,1,none⟩) (Kd.R_far (p:=⟨gb219,0,none⟩) (Kd.R_types HO_5.out BK219.out (by decide)) (fun _ hk => hk.2) (.string t213)) (fun _ hk => hk.2) (.int .i64 t215)) (fun _ hk => hk.2) (.bool false)) (fun _ hk => hk.2) (.int .i64 (wrap64 (1 + t217)))) (fun _ h_ => h_.1))) (by decide)) hk (fun _ h => h.2)) (fun _ h => h.1));have n1_:=Aside0.mk (Kd.R_mono (Kd.R_keep (IsS68.apart (show IsS68 w0 _ g s0_0 t218 from by repeat (first | (with_reducible first | exact HI0.out | apply IsS68.alloc | apply IsS68.drewN | apply IsS68.drew | apply IsS68.set_1 | refine IsS68.far ?_ NB0_219.out _) | exact HI0.out)) (by (with_reducible repeat (first | apply Kd.R_alloc | apply Kd.R_drewN | apply Kd.R_drew));exact (Kd.R_mono (Kd.R_far (p:=⟨gb219,3,none⟩) (Kd.R_far (p:=⟨gb219,2,none⟩) (Kd.R_far (p:=⟨gb219,1,none⟩) (Kd.R_far (p:=⟨gb219,0,none⟩) (Kd.R_mono HO_6.out (fun k_ hk => (⟨hk,hk.2⟩ : _ ∧ k_ ≠ gb219))) (fun _ hk => hk.2) (.string t213)) (fun _ hk => hk.2) (.int .i64 t215)) (fun _ hk => hk.2) (.bool false)) (fun _ hk => hk.2) (.int .i64 (wrap64 (1 + t217)))) (fun _ h_ => h_.1))) (by decide)) hk (fun _ h => h.2)) (fun _ h => h.1));have n2_:=Aside0.mk (KeepBut.blk hk (g':=gb219) (o:=.cells #[.string t213,.int .i64 t215,.bool false,.int .i64 (wrap64 (1 + t217))] 27 (0,0)) (by (with_reducible repeat (first | refine blk_drewN ?_ _ | refine blk_drew ?_ | refine blk_alloc ?_ _));refine blk_put (cs:=#[.string t213,.int .i64 t215,.bool false,.int .i64 0]) ?_ 3 _ rfl;(with_reducible repeat (first | refine blk_drewN ?_ _ | refine blk_drew ?_ | refine blk_alloc ?_ _));refine blk_put (cs:=#[.string t213,.int .i64 t215,.bool false,.int .i64 0]) ?_ 2 _ rfl;(with_reducible repeat (first | refine blk_drewN ?_ _ | refine blk_drew ?_ | refine blk_alloc ?_ _));refine blk_put (cs:=#[.string t213,.int .i64 0,.bool false,.int .i64 0]) ?_ 1 _ rfl;(with_reducible repeat (first | refine blk_drewN ?_ _ | refine blk_drew ?_ | refine blk_alloc ?_ _));refine blk_put (cs:=#[.string (⟨#[]⟩ : ByteArray),.int .i64 0,.bool false,.int .i64 0]) ?_ 0 _ rfl;(with_reducible repeat (first | refine blk_drewN ?_ _ | refine blk_drew ?_ | refine blk_alloc ?_ _));exact BK219.out) NB219_0.out (by simp));have n3_:=Aside0.mk (KeepBut.trans (by repeat (first | (with_reducible first | exact HK.out | apply KeepBut.set_ | apply keep_drewN | apply keep_drew | apply keep_alloc | refine keep_far ?_ GW219.out _) | exact HK.out)) hk (.inl rfl));have n4_:=Aside0.mk (hb);have n5_:=Aside0.mk (hi);clear HO_5;clear HO_6;clear BK219;clear HK;clear HB;clear HI0;have HO_5:=n0_;have HO_6:=n1_;have BK219:=n2_;have HK:=n3_;have HB:=n4_;have HI0:=n5_;clear n0_ n1_ n2_ n3_ n4_ n5_;(try clear hb);(try clear hb2);(try clear hk);(try clear hi)))
   (try simp only [Act.put,List.setIfInBounds_toArray,List.set_cons_zero,List.set_cons_succ])
   go_cut [] (fun wc => ∃ (kq : Nat) (x220001_13 : Int) (x220002_13 : Bool),Aside0 (spec_l71Run.j1 kq t204 x6_1 x7_1 s0_0 t221 t213 x220001_13 x220002_13 (wrap64 (1 + t217)) = some (r1,r2)) ∧ Aside0 (kq ≤ k1) ∧ Aside0 (Kd.R Kd.string 9 wc w.heap.size (fun _ => True) (.slice Ao15 t204.length co15) t204) ∧ Aside0 (Kd.R k27 27 wc w.heap.size (fun k_ => k_ ≠ gb219) u6 x6_1) ∧ Aside0 (wc.heap[gb219]? = some (.cells #[.string t213,.int .i64 x220001_13,.bool x220002_13,.int .i64 (wrap64 (1 + t217))] 27 (0,0))) ∧ Aside0 (IsS68 w0 wc g s0_0 t221) ∧ Aside0 (KeepBut w wc g none) ∧ Aside0 (Below w0.heap.size w0 wc))
   case first =>
    have H:=HC14.out
    clear HC14
    by_cases c23 : t220 = 0
    rotate_left
    ·rw [if_neg c23] at H
     have c23b0 : (t220 == 0) = false:=beq_eq_false_iff_ne.mpr c23
     have c23b1 : (t220 != 0) = true:=bne_iff_ne.mpr c23
     (first | rw [c23b0] | (simp only [i64_w,i32_w];rw [c23b0]) | skip)
     have H':=Aside0.mk H
     clear H
     go_wp2
     go_meet
     case rel => exact ⟨_,(t215),(false),H',⟨by have:=HK1.out;first | omega | exact Nat.le_refl _⟩,⟨by (with_reducible repeat (first | apply Kd.R_alloc | apply Kd.R_drewN | apply Kd.R_drew));exact HO_5.out⟩,⟨by (with_reducible repeat (first | apply Kd.R_alloc | apply Kd.R_drewN | apply Kd.R_drew));exact Kd.R_mono HO_6.out (fun _ hk => hk.2)⟩,⟨by (with_reducible repeat (first | refine blk_drewN ?_ _ | refine blk_drew ?_ | refine blk_alloc ?_ _));exact BK219.out⟩,⟨by repeat (first | (with_reducible first | exact HI0.out | apply IsS68.alloc | apply IsS68.drewN | apply IsS68.drew | apply IsS68.set_1 | refine IsS68.far ?_ NB0_219.out _) | exact HI0.out)⟩,⟨by repeat (first | (with_reducible first | exact HK.out | apply KeepBut.set_ | apply keep_drewN | apply keep_drew | apply keep_alloc | refine keep_far ?_ GW219.out _) | exact HK.out)⟩,⟨by repeat (first | (with_reducible first | exact HB.out | apply below_alloc | apply pw_below_drewN | apply below_drew1 | refine below_set ?_ (IsS68.ge HI0.out) | refine below_set ?_ GE219.out) | exact HB.out)⟩⟩
    rw [if_pos c23] at H
    have c23b0 : (t220 == 0) = true:=beq_iff_eq.mpr c23
    have c23b1 : (t220 != 0) = false:=bne_eq_false_iff_eq.mpr c23
    clear c23
    (first | rw [c23b0] | (simp only [i64_w,i32_w];rw [c23b0]) | skip)
    have H':=Aside0.mk H
    clear H
    have hnb24:=NB219_0.out
    have hnc24:=NB0_219.out
    have hcz25_0 : w22.cell? ⟨gb219,0,none⟩ = some (.string t213):=(blk_cell BK219.out 0).trans rfl
    have hcz25_1 : w22.cell? ⟨gb219,1,none⟩ = some (.int .i64 t215):=(blk_cell BK219.out 1).trans rfl
    have hcz25_2 : w22.cell? ⟨gb219,2,none⟩ = some (.bool false):=(blk_cell BK219.out 2).trans rfl
    have hcz25_3 : w22.cell? ⟨gb219,3,none⟩ = some (.int .i64 (wrap64 (1 + t217))):=(blk_cell BK219.out 3).trans rfl
    have hfz25_0:=blk_frozen BK219.out 0
    have hfz25_1:=blk_frozen BK219.out 1
    have hfz25_2:=blk_frozen BK219.out 2
    have hfz25_3:=blk_frozen BK219.out 3
    go_wp2
    go_meet
    case rel => exact ⟨_,(0),(true),H',⟨by have:=HK1.out;first | omega | exact Nat.le_refl _⟩,⟨by (with_reducible repeat (first | apply Kd.R_alloc | apply Kd.R_drewN | apply Kd.R_drew));exact Kd.R_mono (Kd.R_far (p:=⟨gb219,1,none⟩) (Kd.R_far (p:=⟨gb219,2,none⟩) (Kd.R_types HO_5.out BK219.out (by decide)) (fun _ hk => hk.2) (.bool true)) (fun _ hk => hk.2) (.int .i64 0)) (fun _ hk => trivial)⟩,⟨by (with_reducible repeat (first | apply Kd.R_alloc | apply Kd.R_drewN | apply Kd.R_drew));exact Kd.R_mono (Kd.R_far (p:=⟨gb219,1,none⟩) (Kd.R_far (p:=⟨gb219,2,none⟩) (Kd.R_mono HO_6.out (fun k_ hk => (⟨hk,hk.2⟩ : _ ∧ k_ ≠ gb219))) (fun _ hk => hk.2) (.bool true)) (fun _ hk => hk.2) (.int .i64 0)) (fun _ hk => hk.1.2)⟩,⟨by (with_reducible repeat (first | refine blk_drewN ?_ _ | refine blk_drew ?_ | refine blk_alloc ?_ _));refine blk_put (cs:=#[.string t213,.int .i64 t215,.bool true,.int .i64 (wrap64 (1 + t217))]) ?_ 1 _ rfl;(with_reducible repeat (first | refine blk_drewN ?_ _ | refine blk_drew ?_ | refine blk_alloc ?_ _));refine blk_put (cs:=#[.string t213,.int .i64 t215,.bool false,.int .i64 (wrap64 (1 + t217))]) ?_ 2 _ rfl;(with_reducible repeat (first | refine blk_drewN ?_ _ | refine blk_drew ?_ | refine blk_alloc ?_ _));exact BK219.out⟩,⟨by repeat (first | (with_reducible first | exact HI0.out | apply IsS68.alloc | apply IsS68.drewN | apply IsS68.drew | apply IsS68.set_1 | refine IsS68.far ?_ NB0_219.out _) | exact HI0.out)⟩,⟨by repeat (first | (with_reducible first | exact HK.out | apply KeepBut.set_ | apply keep_drewN | apply keep_drew | apply keep_alloc | refine keep_far ?_ GW219.out _) | exact HK.out)⟩,⟨by repeat (first | (with_reducible first | exact HB.out | apply below_alloc | apply pw_below_drewN | apply below_drew1 | refine below_set ?_ (IsS68.ge HI0.out) | refine below_set ?_ GE219.out) | exact HB.out)⟩⟩
   case rest =>
    clear HC14
    try clear c2
    try clear p2
    try clear c3
    try clear c4
    try clear c6
    try clear p6
    try clear c9
    try clear c9b0
    try clear c20
    try clear c23
    try clear c23b0
    try clear c23b1
    try clear c24
    try clear hcz21_0
    try clear hcz21_1
    try clear hcz21_2
    try clear hcz21_3
    try clear hcz25_0
    try clear hcz25_1
    try clear hcz25_2
    try clear hcz25_3
    try clear hfz21_0
    try clear hfz21_1
    try clear hfz21_2
    try clear hfz21_3
    try clear hfz25_0
    try clear hfz25_1
    try clear hfz25_2
    try clear hfz25_3
    try clear p2
    try clear p6
    obtain ⟨kq,x220001_13,x220002_13,HA,HJ13,HO_5,HO_6,BK219,HI0,HK,HB⟩:=hcut
    cases kq with
    | zero => exact absurd HA.out (by simp [spec_l71Run.j1])
    | succ kj13 =>
     have H:=HA.out
     clear HA
     simp only [spec_l71Run.j1] at H
     obtain ⟨y222,hy222⟩ : ∃ y_ : List (S27),y_ = (([(⟨t213,x220001_13,x220002_13,(wrap64 (1 + t217))⟩ : S27)] : List (S27))):=⟨_,rfl⟩
     replace H : ((spec_l11Join.f kj13 x6_1 y222).bind fun t225 => ((spec_RunOk.f kj13 t225).bind fun t228 => (if t228 = true then (spec_l71Run.l0 kj13 t204 t225 (wrap64 (x7_1 - 1)) s0_0 t221) else (spec_l71Run.l0 kj13 t204 x6_1 (wrap64 (x7_1 - 1)) s0_0 t221)))) = some (r1,r2):=by first | (rw [hy222];with_reducible exact H) | (have H2_:=(Option.bind_some _ _).symm.trans H;rw [hy222];with_reducible exact H2_) | (have H2_:=(Option.bind_some _ _).symm.trans H;with_reducible exact H2_) | with_reducible exact H | (rw [hy222];exact H) | exact H
     have Ny222:=Aside0.mk hy222
     clear hy222
     replace H:=Option.bind_eq_some_iff.mp H
     obtain ⟨t225,A260,H⟩:=H
     replace H : ((spec_RunOk.f kj13 t225).bind fun t228 => (if t228 = true then (spec_l71Run.l0 kj13 t204 t225 (wrap64 (x7_1 - 1)) s0_0 t221) else (spec_l71Run.l0 kj13 t204 x6_1 (wrap64 (x7_1 - 1)) s0_0 t221))) = some (r1,r2):=H
     have A26:=Aside0.mk A260
     clear A260
     replace H:=Option.bind_eq_some_iff.mp H
     obtain ⟨t228,A270,H⟩:=H
     replace H : (if t228 = true then (spec_l71Run.l0 kj13 t204 t225 (wrap64 (x7_1 - 1)) s0_0 t221) else (spec_l71Run.l0 kj13 t204 x6_1 (wrap64 (x7_1 - 1)) s0_0 t221)) = some (r1,r2):=H
     have A27:=Aside0.mk A270
     clear A270
     by_cases c28 : t228 = true
     ·subst c28
      have H1 : (spec_l71Run.l0 kj13 t204 t225 (wrap64 (x7_1 - 1)) s0_0 t221) = some (r1,r2):=by rw [if_pos rfl] at H;exact H
      clear H
      have H:=H1
      clear H1
      have H':=Aside0.mk H
      clear H
      have hnb29:=NB219_0.out
      have hnc29:=NB0_219.out
      have hcz30_0 : wc.cell? ⟨gb219,0,none⟩ = some (.string t213):=(blk_cell BK219.out 0).trans rfl
      have hcz30_1 : wc.cell? ⟨gb219,1,none⟩ = some (.int .i64 x220001_13):=(blk_cell BK219.out 1).trans rfl
      have hcz30_2 : wc.cell? ⟨gb219,2,none⟩ = some (.bool x220002_13):=(blk_cell BK219.out 2).trans rfl
      have hcz30_3 : wc.cell? ⟨gb219,3,none⟩ = some (.int .i64 (wrap64 (1 + t217))):=(blk_cell BK219.out 3).trans rfl
      have hfz30_0:=blk_frozen BK219.out 0
      have hfz30_1:=blk_frozen BK219.out 1
      have hfz30_2:=blk_frozen BK219.out 2
      have hfz30_3:=blk_frozen BK219.out 3
      go_wp2_with (first | ((with_reducible refine gate_dst (N:=37) rfl ?_);refine Kd.R_lit k27 _ 27 ?hg (N:=37) ?hd (xs:=([(⟨t213,x220001_13,x220002_13,(wrap64 (1 + t217))⟩ : S27)] : List (S27))) (inner:=[.string t213,.int .i64 x220001_13,.bool x220002_13,.int .i64 (wrap64 (1 + t217))]) (ok:=fun _ => True) (okp:=fun _ => True) ?hr ?hp (fun _ hk => hk) trivial (Below.refl _ _) (Nat.le_refl _) (by simp) ?_;(case hd => rfl);(case hg => rfl);(case hr => first | (go_simp;done) | (go_simp;rfl));(case hp => exact (Reps.c4 (show Kd.M k27 _ _ _ (⟨t213,x220001_13,x220002_13,(wrap64 (1 + t217))⟩ : S27) [.string t213,.int .i64 x220001_13,.bool x220002_13,.int .i64 (wrap64 (1 + t217))] from (k27_mkM _ _ _ (⟨t213,x220001_13,x220002_13,(wrap64 (1 + t217))⟩ : S27) )) (Reps.none _ _)));intro v223 w31 ho32 hb hg_ hnew_;clear hg_ hnew_;(first | rw [← Ny222.out] at ho32 | (simp only [Int.reduceToNat] at ho32;rw [← Ny222.out] at ho32));have n0_:=Aside0.mk (Kd.R_below T6q2 hb);have n1_:=Aside0.mk (Kd.R_elder' T6q6 (Kd.R_base ho32) hb);have n2_:=Aside0.mk (Kd.R_lower (Kd.R_newB (Kd.R_new' ho32 (Kd.R_lt T6q6)) (g:=gb219) (o:=.cells #[.string t213,.int .i64 x220001_13,.bool x220002_13,.int .i64 (wrap64 (1 + t217))] 27 (0,0)) T6q7) (keep_size (w:=w) (g:=g) (row:=none) (by repeat (first | (with_reducible first | exact HK.out | apply KeepBut.set_ | apply keep_drewN | apply keep_drew | apply keep_alloc | refine keep_far ?_ GW219.out _) | exact HK.out))));have n3_:=Aside0.mk (blk_below (g:=gb219) (o:=.cells #[.string t213,.int .i64 x220001_13,.bool x220002_13,.int .i64 (wrap64 (1 + t217))] 27 (0,0)) T6q7 hb);have n4_:=Aside0.mk (IsS68.below (by repeat (first | (with_reducible first | exact HI0.out | apply IsS68.alloc | apply IsS68.drewN | apply IsS68.drew | apply IsS68.set_1 | refine IsS68.far ?_ NB0_219.out _) | exact HI0.out)) hb);have n5_:=Aside0.mk (KeepBut.trans (by repeat (first | (with_reducible first | exact HK.out | apply KeepBut.set_ | apply keep_drewN | apply keep_drew | apply keep_alloc | refine keep_far ?_ GW219.out _) | exact HK.out)) (KeepBut.of_below hb g none) (.inl rfl));have n6_:=Aside0.mk (below_step (by repeat (first | (with_reducible first | exact HB.out | apply below_alloc | apply pw_below_drewN | apply below_drew1 | refine below_set ?_ (IsS68.ge HI0.out) | refine below_set ?_ GE219.out) | exact HB.out)) hb);clear HO_5;clear HO_6;clear BK219;clear HI0;clear HK;clear HB;have HO_5:=n0_;have HO_6:=n1_;have HO224:=n2_;have BK219:=n3_;have HI0:=n4_;have HK:=n5_;have HB:=n6_;clear n0_ n1_ n2_ n3_ n4_ n5_ n6_;clear hb ho32;obtain ⟨Ao33,co33,eo33⟩:=Kd.R_slice HO_6.out;subst eo33;obtain ⟨Ao34,co34,eo34⟩:=Kd.R_slice HO224.out;subst eo34) | ((with_reducible refine gate_callee (f:=56) rfl ?_);refine goesL_ (some 38) rfl rfl Try.func56 T6q4 rfl #[.slice Ao33 x6_1.length co33,.slice Ao34 y222.length co34] rfl T6q5 ?_;(with_reducible refine (spec_l11Join.calls kj13 _ _ x6_1 _ _ y222 t225 _ ?side1 ?side2 ?side3 ?side4 A26.out).mono ?_);(case side1 => repeat (first | exact (Kd.R_reads' HO_6.out).2.2 | (with_reducible refine Kd.C_alloc ?_ _) | (with_reducible refine Kd.C_drewN ?_ _) | (with_reducible refine Kd.C_drew ?_)));(case side2 => exact (Kd.R_reads' HO_6.out).2.1);(case side3 => repeat (first | exact (Kd.R_reads' HO224.out).2.2 | (with_reducible refine Kd.C_alloc ?_ _) | (with_reducible refine Kd.C_drewN ?_ _) | (with_reducible refine Kd.C_drew ?_)));(case side4 => exact (Kd.R_reads' HO224.out).2.1);rintro e w35 ⟨v226,rfl,ho0,hb⟩;refine ⟨_,rfl,?_⟩;have n0_:=Aside0.mk (Kd.R_below T6q2 hb);have n1_:=Aside0.mk (Kd.R_elder' T6q6 (Kd.R_base ho0) hb);have n2_:=Aside0.mk (Kd.R_elder' T6q8 (Kd.R_base ho0) hb);have n3_:=Aside0.mk (Kd.R_lower (Kd.R_newB (Kd.R_new' (Kd.R_new' ho0 (Kd.R_lt T6q6)) (Kd.R_lt T6q8)) (g:=gb219) (o:=.cells #[.string t213,.int .i64 x220001_13,.bool x220002_13,.int .i64 (wrap64 (1 + t217))] 27 (0,0)) T6q7) (keep_size (w:=w) (g:=g) (row:=none) (by repeat (first | (with_reducible first | exact HK.out | apply KeepBut.set_ | apply keep_drewN | apply keep_drew | apply keep_alloc | refine keep_far ?_ GW219.out _) | exact HK.out))));have n4_:=Aside0.mk (blk_below (g:=gb219) (o:=.cells #[.string t213,.int .i64 x220001_13,.bool x220002_13,.int .i64 (wrap64 (1 + t217))] 27 (0,0)) T6q7 hb);have n5_:=Aside0.mk (IsS68.below (by repeat (first | (with_reducible first | exact HI0.out | apply IsS68.alloc | apply IsS68.drewN | apply IsS68.drew | apply IsS68.set_1 | refine IsS68.far ?_ NB0_219.out _) | exact HI0.out)) hb);have n6_:=Aside0.mk (KeepBut.trans (by repeat (first | (with_reducible first | exact HK.out | apply KeepBut.set_ | apply keep_drewN | apply keep_drew | apply keep_alloc | refine keep_far ?_ GW219.out _) | exact HK.out)) (KeepBut.of_below hb g none) (.inl rfl));have n7_:=Aside0.mk (below_step (by repeat (first | (with_reducible first | exact HB.out | apply below_alloc | apply pw_below_drewN | apply below_drew1 | refine below_set ?_ (IsS68.ge HI0.out) | refine below_set ?_ GE219.out) | exact HB.out)) hb);clear HO_5;clear HO_6;clear HO224;clear BK219;clear HI0;clear HK;clear HB;have HO_5:=n0_;have HO_6:=n1_;have HO224:=n2_;have HO227:=n3_;have BK219:=n4_;have HI0:=n5_;have HK:=n6_;have HB:=n7_;clear n0_ n1_ n2_ n3_ n4_ n5_ n6_ n7_;(try clear hb);(try clear hb2);(try clear hk);(try clear hi);(try clear ho0);obtain ⟨Ao36,co36,eo36⟩:=Kd.R_slice HO227.out;subst eo36) | ((with_reducible refine gate_callee (f:=18) rfl ?_);refine goesL_ (some 40) rfl rfl Try.func18 T6q4 rfl #[.slice Ao36 t225.length co36] rfl T6q5 ?_;(with_reducible refine (spec_RunOk.calls kj13 _ _ t225 true _ ?side1 ?side2 A27.out).mono ?_);(case side1 => repeat (first | exact (Kd.R_reads' HO227.out).2.2 | (with_reducible refine Kd.C_alloc ?_ _) | (with_reducible refine Kd.C_drewN ?_ _) | (with_reducible refine Kd.C_drew ?_)));(case side2 => exact (Kd.R_reads' HO227.out).2.1);rintro e w37 ⟨rfl,hb⟩;refine ⟨_,rfl,?_⟩;have n0_:=Aside0.mk (Kd.R_below T6q2 hb);have n1_:=Aside0.mk (Kd.R_below T6q6 hb);have n2_:=Aside0.mk (Kd.R_below T6q8 hb);have n3_:=Aside0.mk (Kd.R_below (by (with_reducible repeat (first | apply Kd.R_alloc | apply Kd.R_drewN | apply Kd.R_drew));exact HO227.out) hb);have n4_:=Aside0.mk (blk_below (g:=gb219) (o:=.cells #[.string t213,.int .i64 x220001_13,.bool x220002_13,.int .i64 (wrap64 (1 + t217))] 27 (0,0)) T6q7 hb);have n5_:=Aside0.mk (IsS68.below (by repeat (first | (with_reducible first | exact HI0.out | apply IsS68.alloc | apply IsS68.drewN | apply IsS68.drew | apply IsS68.set_1 | refine IsS68.far ?_ NB0_219.out _) | exact HI0.out)) hb);have n6_:=Aside0.mk (KeepBut.trans (by repeat (first | (with_reducible first | exact HK.out | apply KeepBut.set_ | apply keep_drewN | apply keep_drew | apply keep_alloc | refine keep_far ?_ GW219.out _) | exact HK.out)) (KeepBut.of_below hb g none) (.inl rfl));have n7_:=Aside0.mk (below_step (by repeat (first | (with_reducible first | exact HB.out | apply below_alloc | apply pw_below_drewN | apply below_drew1 | refine below_set ?_ (IsS68.ge HI0.out) | refine below_set ?_ GE219.out) | exact HB.out)) hb);clear HO_5;clear HO_6;clear HO224;clear HO227;clear BK219;clear HI0;clear HK;clear HB;have HO_5:=n0_;have HO_6:=n1_;have HO224:=n2_;have HO227:=n3_;have BK219:=n4_;have HI0:=n5_;have HK:=n6_;have HB:=n7_;clear n0_ n1_ n2_ n3_ n4_ n5_ n6_ n7_;(try clear hb);(try clear hb2);(try clear hk);(try clear hi)))
      go_roundg kj13
      case measure => have:=HK1.out;have:=HJ13.out;omega
      case rel => exact ⟨(t225),(wrap64 (x7_1 - 1)),(t221),(by first | rfl | (simp;done) | (simp [*];done)),H',⟨by have:=HK1.out;have:=HJ13.out;omega⟩,⟨by (with_reducible repeat (first | apply Kd.R_alloc | apply Kd.R_drewN | apply Kd.R_drew));exact HO_5.out⟩,⟨by (with_reducible repeat (first | apply Kd.R_alloc | apply Kd.R_drewN | apply Kd.R_drew));exact Kd.R_mono HO227.out (fun _ hk => trivial)⟩,⟨by repeat (first | (with_reducible first | exact HI0.out | apply IsS68.alloc | apply IsS68.drewN | apply IsS68.drew | apply IsS68.set_1 | refine IsS68.far ?_ NB0_219.out _) | exact HI0.out)⟩,⟨by repeat (first | (with_reducible first | exact HK.out | apply KeepBut.set_ | apply keep_drewN | apply keep_drew | apply keep_alloc | refine keep_far ?_ GW219.out _) | exact HK.out)⟩,⟨by repeat (first | (with_reducible first | exact HB.out | apply below_alloc | apply pw_below_drewN | apply below_drew1 | refine below_set ?_ (IsS68.ge HI0.out) | refine below_set ?_ GE219.out) | exact HB.out)⟩⟩
     replace c28:=Bool.eq_false_iff.mpr c28
     subst c28
     have H1 : (spec_l71Run.l0 kj13 t204 x6_1 (wrap64 (x7_1 - 1)) s0_0 t221) = some (r1,r2):=by rw [if_neg (show ¬ (false = true) by decide)] at H;exact H
     clear H
     have H:=H1
     clear H1
     have H':=Aside0.mk H
     clear H
     have hnb38:=NB219_0.out
     have hnc38:=NB0_219.out
     have hcz39_0 : wc.cell? ⟨gb219,0,none⟩ = some (.string t213):=(blk_cell BK219.out 0).trans rfl
     have hcz39_1 : wc.cell? ⟨gb219,1,none⟩ = some (.int .i64 x220001_13):=(blk_cell BK219.out 1).trans rfl
     have hcz39_2 : wc.cell? ⟨gb219,2,none⟩ = some (.bool x220002_13):=(blk_cell BK219.out 2).trans rfl
     have hcz39_3 : wc.cell? ⟨gb219,3,none⟩ = some (.int .i64 (wrap64 (1 + t217))):=(blk_cell BK219.out 3).trans rfl
     have hfz39_0:=blk_frozen BK219.out 0
     have hfz39_1:=blk_frozen BK219.out 1
     have hfz39_2:=blk_frozen BK219.out 2
     have hfz39_3:=blk_frozen BK219.out 3
     go_wp2_with (first | ((with_reducible refine gate_dst (N:=37) rfl ?_);refine Kd.R_lit k27 _ 27 ?hg (N:=37) ?hd (xs:=([(⟨t213,x220001_13,x220002_13,(wrap64 (1 + t217))⟩ : S27)] : List (S27))) (inner:=[.string t213,.int .i64 x220001_13,.bool x220002_13,.int .i64 (wrap64 (1 + t217))]) (ok:=fun _ => True) (okp:=fun _ => True) ?hr ?hp (fun _ hk => hk) trivial (Below.refl _ _) (Nat.le_refl _) (by simp) ?_;(case hd => rfl);(case hg => rfl);(case hr => first | (go_simp;done) | (go_simp;rfl));(case hp => exact (Reps.c4 (show Kd.M k27 _ _ _ (⟨t213,x220001_13,x220002_13,(wrap64 (1 + t217))⟩ : S27) [.string t213,.int .i64 x220001_13,.bool x220002_13,.int .i64 (wrap64 (1 + t217))] from (k27_mkM _ _ _ (⟨t213,x220001_13,x220002_13,(wrap64 (1 + t217))⟩ : S27) )) (Reps.none _ _)));intro v223 w40 ho41 hb hg_ hnew_;clear hg_ hnew_;(first | rw [← Ny222.out] at ho41 | (simp only [Int.reduceToNat] at ho41;rw [← Ny222.out] at ho41));have n0_:=Aside0.mk (Kd.R_below T6q2 hb);have n1_:=Aside0.mk (Kd.R_elder' T6q6 (Kd.R_base ho41) hb);have n2_:=Aside0.mk (Kd.R_lower (Kd.R_newB (Kd.R_new' ho41 (Kd.R_lt T6q6)) (g:=gb219) (o:=.cells #[.string t213,.int .i64 x220001_13,.bool x220002_13,.int .i64 (wrap64 (1 + t217))] 27 (0,0)) T6q7) (keep_size (w:=w) (g:=g) (row:=none) (by repeat (first | (with_reducible first | exact HK.out | apply KeepBut.set_ | apply keep_drewN | apply keep_drew | apply keep_alloc | refine keep_far ?_ GW219.out _) | exact HK.out))));have n3_:=Aside0.mk (blk_below (g:=gb219) (o:=.cells #[.string t213,.int .i64 x220001_13,.bool x220002_13,.int .i64 (wrap64 (1 + t217))] 27 (0,0)) T6q7 hb);have n4_:=Aside0.mk (IsS68.below (by repeat (first | (with_reducible first | exact HI0.out | apply IsS68.alloc | apply IsS68.drewN | apply IsS68.drew | apply IsS68.set_1 | refine IsS68.far ?_ NB0_219.out _) | exact HI0.out)) hb);have n5_:=Aside0.mk (KeepBut.trans (by repeat (first | (with_reducible first | exact HK.out | apply KeepBut.set_ | apply keep_drewN | apply keep_drew | apply keep_alloc | refine keep_far ?_ GW219.out _) | exact HK.out)) (KeepBut.of_below hb g none) (.inl rfl));have n6_:=Aside0.mk (below_step (by repeat (first | (with_reducible first | exact HB.out | apply below_alloc | apply pw_below_drewN | apply below_drew1 | refine below_set ?_ (IsS68.ge HI0.out) | refine below_set ?_ GE219.out) | exact HB.out)) hb);clear HO_5;clear HO_6;clear BK219;clear HI0;clear HK;clear HB;have HO_5:=n0_;have HO_6:=n1_;have HO224:=n2_;have BK219:=n3_;have HI0:=n4_;have HK:=n5_;have HB:=n6_;clear n0_ n1_ n2_ n3_ n4_ n5_ n6_;clear hb ho41;obtain ⟨Ao42,co42,eo42⟩:=Kd.R_slice HO_6.out;subst eo42;obtain ⟨Ao43,co43,eo43⟩:=Kd.R_slice HO224.out;subst eo43) | ((with_reducible refine gate_callee (f:=56) rfl ?_);refine goesL_ (some 38) rfl rfl Try.func56 T6q4 rfl #[.slice Ao42 x6_1.length co42,.slice Ao43 y222.length co43] rfl T6q5 ?_;(with_reducible refine (spec_l11Join.calls kj13 _ _ x6_1 _ _ y222 t225 _ ?side1 ?side2 ?side3 ?side4 A26.out).mono ?_);(case side1 => repeat (first | exact (Kd.R_reads' HO_6.out).2.2 | (with_reducible refine Kd.C_alloc ?_ _) | (with_reducible refine Kd.C_drewN ?_ _) | (with_reducible refine Kd.C_drew ?_)));(case side2 => exact (Kd.R_reads' HO_6.out).2.1);(case side3 => repeat (first | exact (Kd.R_reads' HO224.out).2.2 | (with_reducible refine Kd.C_alloc ?_ _) | (with_reducible refine Kd.C_drewN ?_ _) | (with_reducible refine Kd.C_drew ?_)));(case side4 => exact (Kd.R_reads' HO224.out).2.1);rintro e w44 ⟨v226,rfl,ho0,hb⟩;refine ⟨_,rfl,?_⟩;have n0_:=Aside0.mk (Kd.R_below T6q2 hb);have n1_:=Aside0.mk (Kd.R_elder' T6q6 (Kd.R_base ho0) hb);have n2_:=Aside0.mk (Kd.R_elder' T6q8 (Kd.R_base ho0) hb);have n3_:=Aside0.mk (Kd.R_lower (Kd.R_newB (Kd.R_new' (Kd.R_new' ho0 (Kd.R_lt T6q6)) (Kd.R_lt T6q8)) (g:=gb219) (o:=.cells #[.string t213,.int .i64 x220001_13,.bool x220002_13,.int .i64 (wrap64 (1 + t217))] 27 (0,0)) T6q7) (keep_size (w:=w) (g:=g) (row:=none) (by repeat (first | (with_reducible first | exact HK.out | apply KeepBut.set_ | apply keep_drewN | apply keep_drew | apply keep_alloc | refine keep_far ?_ GW219.out _) | exact HK.out))));have n4_:=Aside0.mk (blk_below (g:=gb219) (o:=.cells #[.string t213,.int .i64 x220001_13,.bool x220002_13,.int .i64 (wrap64 (1 + t217))] 27 (0,0)) T6q7 hb);have n5_:=Aside0.mk (IsS68.below (by repeat (first | (with_reducible first | exact HI0.out | apply IsS68.alloc | apply IsS68.drewN | apply IsS68.drew | apply IsS68.set_1 | refine IsS68.far ?_ NB0_219.out _) | exact HI0.out)) hb);have n6_:=Aside0.mk (KeepBut.trans (by repeat (first | (with_reducible first | exact HK.out | apply KeepBut.set_ | apply keep_drewN | apply keep_drew | apply keep_alloc | refine keep_far ?_ GW219.out _) | exact HK.out)) (KeepBut.of_below hb g none) (.inl rfl));have n7_:=Aside0.mk (below_step (by repeat (first | (with_reducible first | exact HB.out | apply below_alloc | apply pw_below_drewN | apply below_drew1 | refine below_set ?_ (IsS68.ge HI0.out) | refine below_set ?_ GE219.out) | exact HB.out)) hb);clear HO_5;clear HO_6;clear HO224;clear BK219;clear HI0;clear HK;clear HB;have HO_5:=n0_;have HO_6:=n1_;have HO224:=n2_;have HO227:=n3_;have BK219:=n4_;have HI0:=n5_;have HK:=n6_;have HB:=n7_;clear n0_ n1_ n2_ n3_ n4_ n5_ n6_ n7_;(try clear hb);(try clear hb2);(try clear hk);(try clear hi);(try clear ho0);obtain ⟨Ao45,co45,eo45⟩:=Kd.R_slice HO227.out;subst eo45) | ((with_reducible refine gate_callee (f:=18) rfl ?_);refine goesL_ (some 40) rfl rfl Try.func18 T6q4 rfl #[.slice Ao45 t225.length co45] rfl T6q5 ?_;(with_reducible refine (spec_RunOk.calls kj13 _ _ t225 false _ ?side1 ?side2 A27.out).mono ?_);(case side1 => repeat (first | exact (Kd.R_reads' HO227.out).2.2 | (with_reducible refine Kd.C_alloc ?_ _) | (with_reducible refine Kd.C_drewN ?_ _) | (with_reducible refine Kd.C_drew ?_)));(case side2 => exact (Kd.R_reads' HO227.out).2.1);rintro e w46 ⟨rfl,hb⟩;refine ⟨_,rfl,?_⟩;have n0_:=Aside0.mk (Kd.R_below T6q2 hb);have n1_:=Aside0.mk (Kd.R_below T6q6 hb);have n2_:=Aside0.mk (Kd.R_below T6q8 hb);have n3_:=Aside0.mk (Kd.R_below (by (with_reducible repeat (first | apply Kd.R_alloc | apply Kd.R_drewN | apply Kd.R_drew));exact HO227.out) hb);have n4_:=Aside0.mk (blk_below (g:=gb219) (o:=.cells #[.string t213,.int .i64 x220001_13,.bool x220002_13,.int .i64 (wrap64 (1 + t217))] 27 (0,0)) T6q7 hb);have n5_:=Aside0.mk (IsS68.below (by repeat (first | (with_reducible first | exact HI0.out | apply IsS68.alloc | apply IsS68.drewN | apply IsS68.drew | apply IsS68.set_1 | refine IsS68.far ?_ NB0_219.out _) | exact HI0.out)) hb);have n6_:=Aside0.mk (KeepBut.trans (by repeat (first | (with_reducible first | exact HK.out | apply KeepBut.set_ | apply keep_drewN | apply keep_drew | apply keep_alloc | refine keep_far ?_ GW219.out _) | exact HK.out)) (KeepBut.of_below hb g none) (.inl rfl));have n7_:=Aside0.mk (below_step (by repeat (first | (with_reducible first | exact HB.out | apply below_alloc | apply pw_below_drewN | apply below_drew1 | refine below_set ?_ (IsS68.ge HI0.out) | refine below_set ?_ GE219.out) | exact HB.out)) hb);clear HO_5;clear HO_6;clear HO224;clear HO227;clear BK219;clear HI0;clear HK;clear HB;have HO_5:=n0_;have HO_6:=n1_;have HO224:=n2_;have HO227:=n3_;have BK219:=n4_;have HI0:=n5_;have HK:=n6_;have HB:=n7_;clear n0_ n1_ n2_ n3_ n4_ n5_ n6_ n7_;(try clear hb);(try clear hb2);(try clear hk);(try clear hi)))
     go_roundg kj13
     case measure => have:=HK1.out;have:=HJ13.out;omega
     case rel => exact ⟨(x6_1),(wrap64 (x7_1 - 1)),(t221),(by first | rfl | (simp;done) | (simp [*];done)),H',⟨by have:=HK1.out;have:=HJ13.out;omega⟩,⟨by (with_reducible repeat (first | apply Kd.R_alloc | apply Kd.R_drewN | apply Kd.R_drew));exact HO_5.out⟩,⟨by (with_reducible repeat (first | apply Kd.R_alloc | apply Kd.R_drewN | apply Kd.R_drew));exact Kd.R_mono HO_6.out (fun _ hk => trivial)⟩,⟨by repeat (first | (with_reducible first | exact HI0.out | apply IsS68.alloc | apply IsS68.drewN | apply IsS68.drew | apply IsS68.set_1 | refine IsS68.far ?_ NB0_219.out _) | exact HI0.out)⟩,⟨by repeat (first | (with_reducible first | exact HK.out | apply KeepBut.set_ | apply keep_drewN | apply keep_drew | apply keep_alloc | refine keep_far ?_ GW219.out _) | exact HK.out)⟩,⟨by repeat (first | (with_reducible first | exact HB.out | apply below_alloc | apply pw_below_drewN | apply below_drew1 | refine below_set ?_ (IsS68.ge HI0.out) | refine below_set ?_ GE219.out) | exact HB.out)⟩⟩
/-! ### spec_l71Off: function 35 -/
def spec_l71Off.f (k : Nat) (s0_0 : List Int) (s0_1 : Int) : Option ((List (S27)) × Int):=(spec_l71Run.f k s0_0 s0_1 10).bind fun bt229 => ((spec_l6Rd_pick.f k s0_0 bt229.2 12).bind fun bt233 => (if bt233.1 > 0 then (some (bt229.1,bt233.2)) else ((spec_l6Rd_pick.f k s0_0 bt233.2 5).bind fun bt235 => (if bt235.1 = 0 then (if bt229.1.length < 3518437208883 then (some ((bt229.1 ++ [(⟨(⟨#[]⟩ : ByteArray),0,false,1⟩ : S27)]),bt235.2)) else (none)) else (if bt235.1 = 1 then (if bt229.1.length < 3518437208883 then (some ((bt229.1 ++ [(⟨(⟨#[100,100,100,100,100,100]⟩ : ByteArray),0,false,1⟩ : S27)]),bt235.2)) else (none)) else (if bt235.1 = 2 then (if bt229.1.length < 3518437208883 then (some ((bt229.1 ++ [(⟨(⟨#[100,100,100,100,100]⟩ : ByteArray),100,false,1⟩ : S27)]),bt235.2)) else (none)) else (if bt235.1 = 3 then ((some (([0,1000] : List Int) : List Int)).bind fun y246 => ((spec_l6Rd_pick.f k s0_0 bt235.2 2).bind fun bt249 => (if 0 ≤ bt249.1 then (if bt249.1 < (y246.length : Int) then (if bt229.1.length < 3518437208883 then (some ((bt229.1 ++ [(⟨(⟨#[100,100,100,100,100]⟩ : ByteArray),0,false,rd y246 bt249.1⟩ : S27)]),bt249.2)) else (none)) else (none)) else (none)))) else (if bt229.1.length < 3518437208883 then (some ((bt229.1 ++ [(⟨(⟨#[100,100,100,100,100]⟩ : ByteArray),1,true,1⟩ : S27)]),bt235.2)) else (none)))))))))
set_option maxHeartbeats 8000000 in
set_option maxRecDepth 100000 in
theorem spec_l71Off.calls (k : Nat) (g : Nat) (s0_0 : List Int) (s0_1 : Int) (r1 : List (S27)) (r2 : Int) (w0 w : World) (hI : IsS68 w0 w g s0_0 s0_1) (hB : Below w0.heap.size w0 w) (h : spec_l71Off.f k s0_0 s0_1 = some (r1,r2)) :
  Calls Try.prog 35 #[.pointer (some ⟨g,0,none⟩)] w fun e w' => ∃ v0_ : Value,e = .returned (v0_) ∧ Kd.R k27 27 w' w.heap.size (fun _ => True) v0_ r1 ∧ IsS68 w0 w' g s0_0 r2 ∧ Below w0.heap.size w0 w' ∧ KeepBut w w' g none:=by
 have hu27:=Try.underlying27
 have HI0:=Aside0.mk hI
 have HK:=Aside0.mk (KeepBut.refl w g none)
 have HL:=Aside0.mk hB.size
 clear hI
 have HW0:=Aside0.mk hB.size
 have HB:=Aside0.mk hB
 clear hB
 have H : ((spec_l71Run.f k s0_0 s0_1 10).bind fun bt229 => ((spec_l6Rd_pick.f k s0_0 bt229.2 12).bind fun bt233 => (if bt233.1 > 0 then (some (bt229.1,bt233.2)) else ((spec_l6Rd_pick.f k s0_0 bt233.2 5).bind fun bt235 => (if bt235.1 = 0 then (if bt229.1.length < 3518437208883 then (some ((bt229.1 ++ [(⟨(⟨#[]⟩ : ByteArray),0,false,1⟩ : S27)]),bt235.2)) else (none)) else (if bt235.1 = 1 then (if bt229.1.length < 3518437208883 then (some ((bt229.1 ++ [(⟨(⟨#[100,100,100,100,100,100]⟩ : ByteArray),0,false,1⟩ : S27)]),bt235.2)) else (none)) else (if bt235.1 = 2 then (if bt229.1.length < 3518437208883 then (some ((bt229.1 ++ [(⟨(⟨#[100,100,100,100,100]⟩ : ByteArray),100,false,1⟩ : S27)]),bt235.2)) else (none)) else (if bt235.1 = 3 then ((some (([0,1000] : List Int) : List Int)).bind fun y246 => ((spec_l6Rd_pick.f k s0_0 bt235.2 2).bind fun bt249 => (if 0 ≤ bt249.1 then (if bt249.1 < (y246.length : Int) then (if bt229.1.length < 3518437208883 then (some ((bt229.1 ++ [(⟨(⟨#[100,100,100,100,100]⟩ : ByteArray),0,false,rd y246 bt249.1⟩ : S27)]),bt249.2)) else (none)) else (none)) else (none)))) else (if bt229.1.length < 3518437208883 then (some ((bt229.1 ++ [(⟨(⟨#[100,100,100,100,100]⟩ : ByteArray),1,true,1⟩ : S27)]),bt235.2)) else (none)))))))))) = some (r1,r2):=h
 clear h
 replace H:=Option.bind_eq_some_iff.mp H
 obtain ⟨⟨t229,t232⟩,A20,H⟩:=H
 replace H : ((spec_l6Rd_pick.f k s0_0 t232 12).bind fun bt233 => (if bt233.1 > 0 then (some (t229,bt233.2)) else ((spec_l6Rd_pick.f k s0_0 bt233.2 5).bind fun bt235 => (if bt235.1 = 0 then (if t229.length < 3518437208883 then (some ((t229 ++ [(⟨(⟨#[]⟩ : ByteArray),0,false,1⟩ : S27)]),bt235.2)) else (none)) else (if bt235.1 = 1 then (if t229.length < 3518437208883 then (some ((t229 ++ [(⟨(⟨#[100,100,100,100,100,100]⟩ : ByteArray),0,false,1⟩ : S27)]),bt235.2)) else (none)) else (if bt235.1 = 2 then (if t229.length < 3518437208883 then (some ((t229 ++ [(⟨(⟨#[100,100,100,100,100]⟩ : ByteArray),100,false,1⟩ : S27)]),bt235.2)) else (none)) else (if bt235.1 = 3 then ((some (([0,1000] : List Int) : List Int)).bind fun y246 => ((spec_l6Rd_pick.f k s0_0 bt235.2 2).bind fun bt249 => (if 0 ≤ bt249.1 then (if bt249.1 < (y246.length : Int) then (if t229.length < 3518437208883 then (some ((t229 ++ [(⟨(⟨#[100,100,100,100,100]⟩ : ByteArray),0,false,rd y246 bt249.1⟩ : S27)]),bt249.2)) else (none)) else (none)) else (none)))) else (if t229.length < 3518437208883 then (some ((t229 ++ [(⟨(⟨#[100,100,100,100,100]⟩ : ByteArray),1,true,1⟩ : S27)]),bt235.2)) else (none))))))))) = some (r1,r2):=H
 have A2:=Aside0.mk A20
 clear A20
 replace H:=Option.bind_eq_some_iff.mp H
 obtain ⟨⟨t233,t234⟩,A30,H⟩:=H
 replace H : (if t233 > 0 then (some (t229,t234)) else ((spec_l6Rd_pick.f k s0_0 t234 5).bind fun bt235 => (if bt235.1 = 0 then (if t229.length < 3518437208883 then (some ((t229 ++ [(⟨(⟨#[]⟩ : ByteArray),0,false,1⟩ : S27)]),bt235.2)) else (none)) else (if bt235.1 = 1 then (if t229.length < 3518437208883 then (some ((t229 ++ [(⟨(⟨#[100,100,100,100,100,100]⟩ : ByteArray),0,false,1⟩ : S27)]),bt235.2)) else (none)) else (if bt235.1 = 2 then (if t229.length < 3518437208883 then (some ((t229 ++ [(⟨(⟨#[100,100,100,100,100]⟩ : ByteArray),100,false,1⟩ : S27)]),bt235.2)) else (none)) else (if bt235.1 = 3 then ((some (([0,1000] : List Int) : List Int)).bind fun y246 => ((spec_l6Rd_pick.f k s0_0 bt235.2 2).bind fun bt249 => (if 0 ≤ bt249.1 then (if bt249.1 < (y246.length : Int) then (if t229.length < 3518437208883 then (some ((t229 ++ [(⟨(⟨#[100,100,100,100,100]⟩ : ByteArray),0,false,rd y246 bt249.1⟩ : S27)]),bt249.2)) else (none)) else (none)) else (none)))) else (if t229.length < 3518437208883 then (some ((t229 ++ [(⟨(⟨#[100,100,100,100,100]⟩ : ByteArray),1,true,1⟩ : S27)]),bt235.2)) else (none)))))))) = some (r1,r2):=H
 have A3:=Aside0.mk A30
 clear A30
 by_cases c4 : t233 > 0
 ·rw [if_pos c4] at H
  have c4b0 : decide (0 < t233) = true:=decide_eq_true c4
  clear c4
  simp only [Option.some.injEq,Prod.mk.injEq] at H
  obtain ⟨rfl,rfl⟩:=H
  go_enter Try.func35,Try.ntmps35
  go_wp2_with (first | ((with_reducible refine gate_callee (f:=46) rfl ?_);refine goesL_ (some 5) rfl rfl Try.func46 T6q4 rfl #[.pointer (some ⟨g,0,none⟩),.int .i64 10] rfl T6q5 ?_;(with_reducible refine (spec_l71Run.calls k g s0_0 s0_1 10 t229 t232 w0 _ ?side1 ?side2 A2.out).mono ?_);(case side1 => repeat (first | (with_reducible first | exact HI0.out | apply IsS68.alloc | apply IsS68.drewN | apply IsS68.drew | apply IsS68.set_1) | exact HI0.out));(case side2 => repeat (first | (with_reducible first | exact HB.out | apply below_alloc | apply pw_below_drewN | apply below_drew1 | refine below_set ?_ (IsS68.ge HI0.out)) | exact HB.out));rintro e w5 ⟨v230,rfl,ho0,hi,hb,hk⟩;refine ⟨_,rfl,?_⟩;have n0_:=Aside0.mk (Kd.R_lower ho0 (keep_size (w:=w) (g:=g) (row:=none) (by repeat (first | (with_reducible first | exact HK.out | apply KeepBut.set_ | apply keep_drewN | apply keep_drew | apply keep_alloc) | exact HK.out))));have n1_:=Aside0.mk (KeepBut.trans (by repeat (first | (with_reducible first | exact HK.out | apply KeepBut.set_ | apply keep_drewN | apply keep_drew | apply keep_alloc) | exact HK.out)) hk (.inl rfl));have n2_:=Aside0.mk (hb);have n3_:=Aside0.mk (hi);clear HK;clear HB;clear HI0;have HO231:=n0_;have HK:=n1_;have HB:=n2_;have HI0:=n3_;clear n0_ n1_ n2_ n3_;(try clear hb);(try clear hb2);(try clear hk);(try clear hi);(try clear ho0)) | ((with_reducible refine gate_callee (f:=38) rfl ?_);refine goesL_ (some 7) rfl rfl Try.func38 T6q4 rfl #[.pointer (some ⟨g,0,none⟩),.int .i64 12] rfl T6q5 ?_;(with_reducible refine (spec_l6Rd_pick.calls k g s0_0 t232 12 t233 t234 w0 _ ?side1 ?side2 A3.out).mono ?_);(case side1 => repeat (first | (with_reducible first | exact HI0.out | apply IsS68.alloc | apply IsS68.drewN | apply IsS68.drew | apply IsS68.set_1) | exact HI0.out));(case side2 => repeat (first | (with_reducible first | exact HB.out | apply below_alloc | apply pw_below_drewN | apply below_drew1 | refine below_set ?_ (IsS68.ge HI0.out)) | exact HB.out));rintro e w6 ⟨rfl,hi,hb,hk⟩;refine ⟨_,rfl,?_⟩;have n0_:=Aside0.mk (Kd.R_mono (Kd.R_keep (IsS68.apart (show IsS68 w0 _ g s0_0 t232 from by repeat (first | (with_reducible first | exact HI0.out | apply IsS68.alloc | apply IsS68.drewN | apply IsS68.drew | apply IsS68.set_1) | exact HI0.out)) T6q9 (by decide)) hk (fun _ h => h.2)) (fun _ h => h.1));have n1_:=Aside0.mk (KeepBut.trans (by repeat (first | (with_reducible first | exact HK.out | apply KeepBut.set_ | apply keep_drewN | apply keep_drew | apply keep_alloc) | exact HK.out)) hk (.inl rfl));have n2_:=Aside0.mk (hb);have n3_:=Aside0.mk (hi);clear HO231;clear HK;clear HB;clear HI0;have HO231:=n0_;have HK:=n1_;have HB:=n2_;have HI0:=n3_;clear n0_ n1_ n2_ n3_;(try clear hb);(try clear hb2);(try clear hk);(try clear hi)))
  go_ret
  exact ⟨_,by first | rfl | (simp [errW_none,errW_some] <;> rfl) | (simp [*,errW_none,errW_some] <;> rfl),by (with_reducible repeat (first | apply Kd.R_alloc | apply Kd.R_drewN | apply Kd.R_drew));exact HO231.out,by repeat (first | (with_reducible first | exact HI0.out | apply IsS68.alloc | apply IsS68.drewN | apply IsS68.drew | apply IsS68.set_1) | exact HI0.out),by repeat (first | (with_reducible first | exact HB.out | apply below_alloc | apply pw_below_drewN | apply below_drew1 | refine below_set ?_ (IsS68.ge HI0.out)) | exact HB.out),by repeat (first | (with_reducible first | exact HK.out | apply KeepBut.set_ | apply keep_drewN | apply keep_drew | apply keep_alloc) | exact HK.out)⟩
 rw [if_neg c4] at H
 have c4b0 : decide (0 < t233) = false:=decide_eq_false c4
 clear c4
 replace H:=Option.bind_eq_some_iff.mp H
 obtain ⟨⟨t235,t236⟩,A70,H⟩:=H
 replace H : (if t235 = 0 then (if t229.length < 3518437208883 then (some ((t229 ++ [(⟨(⟨#[]⟩ : ByteArray),0,false,1⟩ : S27)]),t236)) else (none)) else (if t235 = 1 then (if t229.length < 3518437208883 then (some ((t229 ++ [(⟨(⟨#[100,100,100,100,100,100]⟩ : ByteArray),0,false,1⟩ : S27)]),t236)) else (none)) else (if t235 = 2 then (if t229.length < 3518437208883 then (some ((t229 ++ [(⟨(⟨#[100,100,100,100,100]⟩ : ByteArray),100,false,1⟩ : S27)]),t236)) else (none)) else (if t235 = 3 then ((some (([0,1000] : List Int) : List Int)).bind fun y246 => ((spec_l6Rd_pick.f k s0_0 t236 2).bind fun bt249 => (if 0 ≤ bt249.1 then (if bt249.1 < (y246.length : Int) then (if t229.length < 3518437208883 then (some ((t229 ++ [(⟨(⟨#[100,100,100,100,100]⟩ : ByteArray),0,false,rd y246 bt249.1⟩ : S27)]),bt249.2)) else (none)) else (none)) else (none)))) else (if t229.length < 3518437208883 then (some ((t229 ++ [(⟨(⟨#[100,100,100,100,100]⟩ : ByteArray),1,true,1⟩ : S27)]),t236)) else (none)))))) = some (r1,r2):=H
 have A7:=Aside0.mk A70
 clear A70
 by_cases c8 : t235 = 0
 ·rw [if_pos c8] at H
  have c8b0 : (t235 == 0) = true:=beq_iff_eq.mpr c8
  have c8b1 : (t235 != 0) = false:=bne_eq_false_iff_eq.mpr c8
  clear c8
  by_cases c9 : t229.length < 3518437208883
  rotate_left
  ·rw [if_neg c9] at H
   exact absurd H (by simp)
  rw [if_pos c9] at H
  have LMc9:=Aside0.mk c9
  clear c9
  obtain ⟨y237,hy237⟩ : ∃ y_ : List (S27),y_ = (t229 ++ [(⟨(⟨#[]⟩ : ByteArray),0,false,1⟩ : S27)]):=⟨_,rfl⟩
  replace H : (some (y237,t236)) = some (r1,r2):=by first | (rw [hy237];with_reducible exact H) | (have H2_:=(Option.bind_some _ _).symm.trans H;rw [hy237];with_reducible exact H2_) | (have H2_:=(Option.bind_some _ _).symm.trans H;with_reducible exact H2_) | with_reducible exact H | (rw [hy237];exact H) | exact H
  have Ny237:=Aside0.mk hy237
  clear hy237
  simp only [Option.some.injEq,Prod.mk.injEq] at H
  obtain ⟨rfl,rfl⟩:=H
  go_enter Try.func35,Try.ntmps35
  go_wp2_with (first | ((with_reducible refine gate_callee (f:=46) rfl ?_);refine goesL_ (some 5) rfl rfl Try.func46 T6q4 rfl #[.pointer (some ⟨g,0,none⟩),.int .i64 10] rfl T6q5 ?_;(with_reducible refine (spec_l71Run.calls k g s0_0 s0_1 10 t229 t232 w0 _ ?side1 ?side2 A2.out).mono ?_);(case side1 => repeat (first | (with_reducible first | exact HI0.out | apply IsS68.alloc | apply IsS68.drewN | apply IsS68.drew | apply IsS68.set_1) | exact HI0.out));(case side2 => repeat (first | (with_reducible first | exact HB.out | apply below_alloc | apply pw_below_drewN | apply below_drew1 | refine below_set ?_ (IsS68.ge HI0.out)) | exact HB.out));rintro e w10 ⟨v230,rfl,ho0,hi,hb,hk⟩;refine ⟨_,rfl,?_⟩;have n0_:=Aside0.mk (Kd.R_lower ho0 (keep_size (w:=w) (g:=g) (row:=none) (by repeat (first | (with_reducible first | exact HK.out | apply KeepBut.set_ | apply keep_drewN | apply keep_drew | apply keep_alloc) | exact HK.out))));have n1_:=Aside0.mk (KeepBut.trans (by repeat (first | (with_reducible first | exact HK.out | apply KeepBut.set_ | apply keep_drewN | apply keep_drew | apply keep_alloc) | exact HK.out)) hk (.inl rfl));have n2_:=Aside0.mk (hb);have n3_:=Aside0.mk (hi);clear HK;clear HB;clear HI0;have HO231:=n0_;have HK:=n1_;have HB:=n2_;have HI0:=n3_;clear n0_ n1_ n2_ n3_;(try clear hb);(try clear hb2);(try clear hk);(try clear hi);(try clear ho0)) | ((with_reducible refine gate_callee (f:=38) rfl ?_);refine goesL_ (some 7) rfl rfl Try.func38 T6q4 rfl #[.pointer (some ⟨g,0,none⟩),.int .i64 12] rfl T6q5 ?_;(with_reducible refine (spec_l6Rd_pick.calls k g s0_0 t232 12 t233 t234 w0 _ ?side1 ?side2 A3.out).mono ?_);(case side1 => repeat (first | (with_reducible first | exact HI0.out | apply IsS68.alloc | apply IsS68.drewN | apply IsS68.drew | apply IsS68.set_1) | exact HI0.out));(case side2 => repeat (first | (with_reducible first | exact HB.out | apply below_alloc | apply pw_below_drewN | apply below_drew1 | refine below_set ?_ (IsS68.ge HI0.out)) | exact HB.out));rintro e w11 ⟨rfl,hi,hb,hk⟩;refine ⟨_,rfl,?_⟩;have n0_:=Aside0.mk (Kd.R_mono (Kd.R_keep (IsS68.apart (show IsS68 w0 _ g s0_0 t232 from by repeat (first | (with_reducible first | exact HI0.out | apply IsS68.alloc | apply IsS68.drewN | apply IsS68.drew | apply IsS68.set_1) | exact HI0.out)) T6q9 (by decide)) hk (fun _ h => h.2)) (fun _ h => h.1));have n1_:=Aside0.mk (KeepBut.trans (by repeat (first | (with_reducible first | exact HK.out | apply KeepBut.set_ | apply keep_drewN | apply keep_drew | apply keep_alloc) | exact HK.out)) hk (.inl rfl));have n2_:=Aside0.mk (hb);have n3_:=Aside0.mk (hi);clear HO231;clear HK;clear HB;clear HI0;have HO231:=n0_;have HK:=n1_;have HB:=n2_;have HI0:=n3_;clear n0_ n1_ n2_ n3_;(try clear hb);(try clear hb2);(try clear hk);(try clear hi)) | ((with_reducible refine gate_callee (f:=38) rfl ?_);refine goesL_ (some 11) rfl rfl Try.func38 T6q4 rfl #[.pointer (some ⟨g,0,none⟩),.int .i64 5] rfl T6q5 ?_;(with_reducible refine (spec_l6Rd_pick.calls k g s0_0 t234 5 t235 t236 w0 _ ?side1 ?side2 A7.out).mono ?_);(case side1 => repeat (first | (with_reducible first | exact HI0.out | apply IsS68.alloc | apply IsS68.drewN | apply IsS68.drew | apply IsS68.set_1) | exact HI0.out));(case side2 => repeat (first | (with_reducible first | exact HB.out | apply below_alloc | apply pw_below_drewN | apply below_drew1 | refine below_set ?_ (IsS68.ge HI0.out)) | exact HB.out));rintro e w12 ⟨rfl,hi,hb,hk⟩;refine ⟨_,rfl,?_⟩;have n0_:=Aside0.mk (Kd.R_mono (Kd.R_keep (IsS68.apart (show IsS68 w0 _ g s0_0 t234 from by repeat (first | (with_reducible first | exact HI0.out | apply IsS68.alloc | apply IsS68.drewN | apply IsS68.drew | apply IsS68.set_1) | exact HI0.out)) T6q9 (by decide)) hk (fun _ h => h.2)) (fun _ h => h.1));have n1_:=Aside0.mk (KeepBut.trans (by repeat (first | (with_reducible first | exact HK.out | apply KeepBut.set_ | apply keep_drewN | apply keep_drew | apply keep_alloc) | exact HK.out)) hk (.inl rfl));have n2_:=Aside0.mk (hb);have n3_:=Aside0.mk (hi);clear HO231;clear HK;clear HB;clear HI0;have HO231:=n0_;have HK:=n1_;have HB:=n2_;have HI0:=n3_;clear n0_ n1_ n2_ n3_;(try clear hb);(try clear hb2);(try clear hk);(try clear hi)) | ((with_reducible refine gate_builtin (b:=.append) (xs:=#[.tmp 14,.tmp 16]) rfl ?_);at_builtin;refine Kd.R_append k27 w.heap.size rfl (.tmp 14) (.tmp 16) 23 27 (.agg #[(.string ⟨#[]⟩),(.int .i64 0),(.bool false),(.int .i64 0)]) 40 rfl Try.underlying23 info27 rfl (by decide) (by omega) v230 t229 (⟨(⟨#[]⟩ : ByteArray),0,false,1⟩ : S27) [.string (⟨#[]⟩ : ByteArray),.int .i64 0,.bool false,.int .i64 1] (fun _ => True) (fun _ => False) rfl rfl ?aP (fun _ hk => hk.elim) ?aF ?aO (Below.refl _ _) ?aS ?aL ?_;(case aP => exact k27_mkM _ _ _ (⟨(⟨#[]⟩ : ByteArray),0,false,1⟩ : S27));(case aF => exact (fun _ _ => trivial));(case aO => exact T6q9);(case aS => exact (keep_size (w:=w) (g:=g) (row:=none) (by repeat (first | (with_reducible first | exact HK.out | apply KeepBut.set_ | apply keep_drewN | apply keep_drew | apply keep_alloc) | exact HK.out))));(case aL => have:=LMc9.out;omega);intro v238 w13 ho hb hg hat;rw [← Ny237.out] at ho;have n0_:=Aside0.mk (IsS68.grown (by repeat (first | (with_reducible first | exact HI0.out | apply IsS68.alloc | apply IsS68.drewN | apply IsS68.drew | apply IsS68.set_1) | exact HI0.out)) hg (IsS68.own_ne HI0.out HO231.out (by decide)));have n1_:=Aside0.mk (below_weaken (by repeat (first | (with_reducible first | exact HB.out | apply below_alloc | apply pw_below_drewN | apply below_drew1 | refine below_set ?_ (IsS68.ge HI0.out)) | exact HB.out)) HL.out hb);have n2_:=Aside0.mk (KeepBut.trans (by repeat (first | (with_reducible first | exact HK.out | apply KeepBut.set_ | apply keep_drewN | apply keep_drew | apply keep_alloc) | exact HK.out)) (KeepBut.of_grown hg g) (Kd.R_base2 HO231.out));have n3_:=Aside0.mk (ho);clear HI0;clear HB;clear HK;clear HO231;have HI0:=n0_;have HB:=n1_;have HK:=n2_;have HO239:=n3_;clear n0_ n1_ n2_ n3_;clear ho hb hg hat))
  go_ret
  exact ⟨_,by first | rfl | (simp [errW_none,errW_some] <;> rfl) | (simp [*,errW_none,errW_some] <;> rfl),by (with_reducible repeat (first | apply Kd.R_alloc | apply Kd.R_drewN | apply Kd.R_drew));exact HO239.out,by repeat (first | (with_reducible first | exact HI0.out | apply IsS68.alloc | apply IsS68.drewN | apply IsS68.drew | apply IsS68.set_1) | exact HI0.out),by repeat (first | (with_reducible first | exact HB.out | apply below_alloc | apply pw_below_drewN | apply below_drew1 | refine below_set ?_ (IsS68.ge HI0.out)) | exact HB.out),by repeat (first | (with_reducible first | exact HK.out | apply KeepBut.set_ | apply keep_drewN | apply keep_drew | apply keep_alloc) | exact HK.out)⟩
 rw [if_neg c8] at H
 have c8b0 : (t235 == 0) = false:=beq_eq_false_iff_ne.mpr c8
 have c8b1 : (t235 != 0) = true:=bne_iff_ne.mpr c8
 by_cases c14 : t235 = 1
 ·rw [if_pos c14] at H
  have c14b0 : (t235 == 1) = true:=beq_iff_eq.mpr c14
  have c14b1 : (t235 != 1) = false:=bne_eq_false_iff_eq.mpr c14
  clear c14
  by_cases c15 : t229.length < 3518437208883
  rotate_left
  ·rw [if_neg c15] at H
   exact absurd H (by simp)
  rw [if_pos c15] at H
  have LMc15:=Aside0.mk c15
  clear c15
  obtain ⟨y240,hy240⟩ : ∃ y_ : List (S27),y_ = (t229 ++ [(⟨(⟨#[100,100,100,100,100,100]⟩ : ByteArray),0,false,1⟩ : S27)]):=⟨_,rfl⟩
  replace H : (some (y240,t236)) = some (r1,r2):=by first | (rw [hy240];with_reducible exact H) | (have H2_:=(Option.bind_some _ _).symm.trans H;rw [hy240];with_reducible exact H2_) | (have H2_:=(Option.bind_some _ _).symm.trans H;with_reducible exact H2_) | with_reducible exact H | (rw [hy240];exact H) | exact H
  have Ny240:=Aside0.mk hy240
  clear hy240
  simp only [Option.some.injEq,Prod.mk.injEq] at H
  obtain ⟨rfl,rfl⟩:=H
  go_enter Try.func35,Try.ntmps35
  go_wp2_with (first | ((with_reducible refine gate_callee (f:=46) rfl ?_);refine goesL_ (some 5) rfl rfl Try.func46 T6q4 rfl #[.pointer (some ⟨g,0,none⟩),.int .i64 10] rfl T6q5 ?_;(with_reducible refine (spec_l71Run.calls k g s0_0 s0_1 10 t229 t232 w0 _ ?side1 ?side2 A2.out).mono ?_);(case side1 => repeat (first | (with_reducible first | exact HI0.out | apply IsS68.alloc | apply IsS68.drewN | apply IsS68.drew | apply IsS68.set_1) | exact HI0.out));(case side2 => repeat (first | (with_reducible first | exact HB.out | apply below_alloc | apply pw_below_drewN | apply below_drew1 | refine below_set ?_ (IsS68.ge HI0.out)) | exact HB.out));rintro e w16 ⟨v230,rfl,ho0,hi,hb,hk⟩;refine ⟨_,rfl,?_⟩;have n0_:=Aside0.mk (Kd.R_lower ho0 (keep_size (w:=w) (g:=g) (row:=none) (by repeat (first | (with_reducible first | exact HK.out | apply KeepBut.set_ | apply keep_drewN | apply keep_drew | apply keep_alloc) | exact HK.out))));have n1_:=Aside0.mk (KeepBut.trans (by repeat (first | (with_reducible first | exact HK.out | apply KeepBut.set_ | apply keep_drewN | apply keep_drew | apply keep_alloc) | exact HK.out)) hk (.inl rfl));have n2_:=Aside0.mk (hb);have n3_:=Aside0.mk (hi);clear HK;clear HB;clear HI0;have HO231:=n0_;have HK:=n1_;have HB:=n2_;have HI0:=n3_;clear n0_ n1_ n2_ n3_;(try clear hb);(try clear hb2);(try clear hk);(try clear hi);(try clear ho0)) | ((with_reducible refine gate_callee (f:=38) rfl ?_);refine goesL_ (some 7) rfl rfl Try.func38 T6q4 rfl #[.pointer (some ⟨g,0,none⟩),.int .i64 12] rfl T6q5 ?_;(with_reducible refine (spec_l6Rd_pick.calls k g s0_0 t232 12 t233 t234 w0 _ ?side1 ?side2 A3.out).mono ?_);(case side1 => repeat (first | (with_reducible first | exact HI0.out | apply IsS68.alloc | apply IsS68.drewN | apply IsS68.drew | apply IsS68.set_1) | exact HI0.out));(case side2 => repeat (first | (with_reducible first | exact HB.out | apply below_alloc | apply pw_below_drewN | apply below_drew1 | refine below_set ?_ (IsS68.ge HI0.out)) | exact HB.out));rintro e w17 ⟨rfl,hi,hb,hk⟩;refine ⟨_,rfl,?_⟩;have n0_:=Aside0.mk (Kd.R_mono (Kd.R_keep (IsS68.apart (show IsS68 w0 _ g s0_0 t232 from by repeat (first | (with_reducible first | exact HI0.out | apply IsS68.alloc | apply IsS68.drewN | apply IsS68.drew | apply IsS68.set_1) | exact HI0.out)) T6q9 (by decide)) hk (fun _ h => h.2)) (fun _ h => h.1));have n1_:=Aside0.mk (KeepBut.trans (by repeat (first | (with_reducible first | exact HK.out | apply KeepBut.set_ | apply keep_drewN | apply keep_drew | apply keep_alloc) | exact HK.out)) hk (.inl rfl));have n2_:=Aside0.mk (hb);have n3_:=Aside0.mk (hi);clear HO231;clear HK;clear HB;clear HI0;have HO231:=n0_;have HK:=n1_;have HB:=n2_;have HI0:=n3_;clear n0_ n1_ n2_ n3_;(try clear hb);(try clear hb2);(try clear hk);(try clear hi)) | ((with_reducible refine gate_callee (f:=38) rfl ?_);refine goesL_ (some 11) rfl rfl Try.func38 T6q4 rfl #[.pointer (some ⟨g,0,none⟩),.int .i64 5] rfl T6q5 ?_;(with_reducible refine (spec_l6Rd_pick.calls k g s0_0 t234 5 t235 t236 w0 _ ?side1 ?side2 A7.out).mono ?_);(case side1 => repeat (first | (with_reducible first | exact HI0.out | apply IsS68.alloc | apply IsS68.drewN | apply IsS68.drew | apply IsS68.set_1) | exact HI0.out));(case side2 => repeat (first | (with_reducible first | exact HB.out | apply below_alloc | apply pw_below_drewN | apply below_drew1 | refine below_set ?_ (IsS68.ge HI0.out)) | exact HB.out));rintro e w18 ⟨rfl,hi,hb,hk⟩;refine ⟨_,rfl,?_⟩;have n0_:=Aside0.mk (Kd.R_mono (Kd.R_keep (IsS68.apart (show IsS68 w0 _ g s0_0 t234 from by repeat (first | (with_reducible first | exact HI0.out | apply IsS68.alloc | apply IsS68.drewN | apply IsS68.drew | apply IsS68.set_1) | exact HI0.out)) T6q9 (by decide)) hk (fun _ h => h.2)) (fun _ h => h.1));have n1_:=Aside0.mk (KeepBut.trans (by repeat (first | (with_reducible first | exact HK.out | apply KeepBut.set_ | apply keep_drewN | apply keep_drew | apply keep_alloc) | exact HK.out)) hk (.inl rfl));have n2_:=Aside0.mk (hb);have n3_:=Aside0.mk (hi);clear HO231;clear HK;clear HB;clear HI0;have HO231:=n0_;have HK:=n1_;have HB:=n2_;have HI0:=n3_;clear n0_ n1_ n2_ n3_;(try clear hb);(try clear hb2);(try clear hk);(try clear hi)) | ((with_reducible refine gate_builtin (b:=.append) (xs:=#[.tmp 20,.tmp 22]) rfl ?_);at_builtin;refine Kd.R_append k27 w.heap.size rfl (.tmp 20) (.tmp 22) 23 27 (.agg #[(.string ⟨#[]⟩),(.int .i64 0),(.bool false),(.int .i64 0)]) 40 rfl Try.underlying23 info27 rfl (by decide) (by omega) v230 t229 (⟨(⟨#[100,100,100,100,100,100]⟩ : ByteArray),0,false,1⟩ : S27) [.string (⟨#[100,100,100,100,100,100]⟩ : ByteArray),.int .i64 0,.bool false,.int .i64 1] (fun _ => True) (fun _ => False) rfl rfl ?aP (fun _ hk => hk.elim) ?aF ?aO (Below.refl _ _) ?aS ?aL ?_;(case aP => exact k27_mkM _ _ _ (⟨(⟨#[100,100,100,100,100,100]⟩ : ByteArray),0,false,1⟩ : S27));(case aF => exact (fun _ _ => trivial));(case aO => exact T6q9);(case aS => exact (keep_size (w:=w) (g:=g) (row:=none) (by repeat (first | (with_reducible first | exact HK.out | apply KeepBut.set_ | apply keep_drewN | apply keep_drew | apply keep_alloc) | exact HK.out))));(case aL => have:=LMc15.out;omega);intro v241 w19 ho hb hg hat;rw [← Ny240.out] at ho;have n0_:=Aside0.mk (IsS68.grown (by repeat (first | (with_reducible first | exact HI0.out | apply IsS68.alloc | apply IsS68.drewN | apply IsS68.drew | apply IsS68.set_1) | exact HI0.out)) hg (IsS68.own_ne HI0.out HO231.out (by decide)));have n1_:=Aside0.mk (below_weaken (by repeat (first | (with_reducible first | exact HB.out | apply below_alloc | apply pw_below_drewN | apply below_drew1 | refine below_set ?_ (IsS68.ge HI0.out)) | exact HB.out)) HL.out hb);have n2_:=Aside0.mk (KeepBut.trans (by repeat (first | (with_reducible first | exact HK.out | apply KeepBut.set_ | apply keep_drewN | apply keep_drew | apply keep_alloc) | exact HK.out)) (KeepBut.of_grown hg g) (Kd.R_base2 HO231.out));have n3_:=Aside0.mk (ho);clear HI0;clear HB;clear HK;clear HO231;have HI0:=n0_;have HB:=n1_;have HK:=n2_;have HO242:=n3_;clear n0_ n1_ n2_ n3_;clear ho hb hg hat))
  go_ret
  exact ⟨_,by first | rfl | (simp [errW_none,errW_some] <;> rfl) | (simp [*,errW_none,errW_some] <;> rfl),by (with_reducible repeat (first | apply Kd.R_alloc | apply Kd.R_drewN | apply Kd.R_drew));exact HO242.out,by repeat (first | (with_reducible first | exact HI0.out | apply IsS68.alloc | apply IsS68.drewN | apply IsS68.drew | apply IsS68.set_1) | exact HI0.out),by repeat (first | (with_reducible first | exact HB.out | apply below_alloc | apply pw_below_drewN | apply below_drew1 | refine below_set ?_ (IsS68.ge HI0.out)) | exact HB.out),by repeat (first | (with_reducible first | exact HK.out | apply KeepBut.set_ | apply keep_drewN | apply keep_drew | apply keep_alloc) | exact HK.out)⟩
 rw [if_neg c14] at H
 have c14b0 : (t235 == 1) = false:=beq_eq_false_iff_ne.mpr c14
 have c14b1 : (t235 != 1) = true:=bne_iff_ne.mpr c14
 by_cases c20 : t235 = 2
 ·rw [if_pos c20] at H
  have c20b0 : (t235 == 2) = true:=beq_iff_eq.mpr c20
  have c20b1 : (t235 != 2) = false:=bne_eq_false_iff_eq.mpr c20
  clear c20
  by_cases c21 : t229.length < 3518437208883
  rotate_left
  ·rw [if_neg c21] at H
   exact absurd H (by simp)
  rw [if_pos c21] at H
  have LMc21:=Aside0.mk c21
  clear c21
  obtain ⟨y243,hy243⟩ : ∃ y_ : List (S27),y_ = (t229 ++ [(⟨(⟨#[100,100,100,100,100]⟩ : ByteArray),100,false,1⟩ : S27)]):=⟨_,rfl⟩
  replace H : (some (y243,t236)) = some (r1,r2):=by first | (rw [hy243];with_reducible exact H) | (have H2_:=(Option.bind_some _ _).symm.trans H;rw [hy243];with_reducible exact H2_) | (have H2_:=(Option.bind_some _ _).symm.trans H;with_reducible exact H2_) | with_reducible exact H | (rw [hy243];exact H) | exact H
  have Ny243:=Aside0.mk hy243
  clear hy243
  simp only [Option.some.injEq,Prod.mk.injEq] at H
  obtain ⟨rfl,rfl⟩:=H
  go_enter Try.func35,Try.ntmps35
  go_wp2_with (first | ((with_reducible refine gate_callee (f:=46) rfl ?_);refine goesL_ (some 5) rfl rfl Try.func46 T6q4 rfl #[.pointer (some ⟨g,0,none⟩),.int .i64 10] rfl T6q5 ?_;(with_reducible refine (spec_l71Run.calls k g s0_0 s0_1 10 t229 t232 w0 _ ?side1 ?side2 A2.out).mono ?_);(case side1 => repeat (first | (with_reducible first | exact HI0.out | apply IsS68.alloc | apply IsS68.drewN | apply IsS68.drew | apply IsS68.set_1) | exact HI0.out));(case side2 => repeat (first | (with_reducible first | exact HB.out | apply below_alloc | apply pw_below_drewN | apply below_drew1 | refine below_set ?_ (IsS68.ge HI0.out)) | exact HB.out));rintro e w22 ⟨v230,rfl,ho0,hi,hb,hk⟩;refine ⟨_,rfl,?_⟩;have n0_:=Aside0.mk (Kd.R_lower ho0 (keep_size (w:=w) (g:=g) (row:=none) (by repeat (first | (with_reducible first | exact HK.out | apply KeepBut.set_ | apply keep_drewN | apply keep_drew | apply keep_alloc) | exact HK.out))));have n1_:=Aside0.mk (KeepBut.trans (by repeat (first | (with_reducible first | exact HK.out | apply KeepBut.set_ | apply keep_drewN | apply keep_drew | apply keep_alloc) | exact HK.out)) hk (.inl rfl));have n2_:=Aside0.mk (hb);have n3_:=Aside0.mk (hi);clear HK;clear HB;clear HI0;have HO231:=n0_;have HK:=n1_;have HB:=n2_;have HI0:=n3_;clear n0_ n1_ n2_ n3_;(try clear hb);(try clear hb2);(try clear hk);(try clear hi);(try clear ho0)) | ((with_reducible refine gate_callee (f:=38) rfl ?_);refine goesL_ (some 7) rfl rfl Try.func38 T6q4 rfl #[.pointer (some ⟨g,0,none⟩),.int .i64 12] rfl T6q5 ?_;(with_reducible refine (spec_l6Rd_pick.calls k g s0_0 t232 12 t233 t234 w0 _ ?side1 ?side2 A3.out).mono ?_);(case side1 => repeat (first | (with_reducible first | exact HI0.out | apply IsS68.alloc | apply IsS68.drewN | apply IsS68.drew | apply IsS68.set_1) | exact HI0.out));(case side2 => repeat (first | (with_reducible first | exact HB.out | apply below_alloc | apply pw_below_drewN | apply below_drew1 | refine below_set ?_ (IsS68.ge HI0.out)) | exact HB.out));rintro e w23 ⟨rfl,hi,hb,hk⟩;refine ⟨_,rfl,?_⟩;have n0_:=Aside0.mk (Kd.R_mono (Kd.R_keep (IsS68.apart (show IsS68 w0 _ g s0_0 t232 from by repeat (first | (with_reducible first | exact HI0.out | apply IsS68.alloc | apply IsS68.drewN | apply IsS68.drew | apply IsS68.set_1) | exact HI0.out)) T6q9 (by decide)) hk (fun _ h => h.2)) (fun _ h => h.1));have n1_:=Aside0.mk (KeepBut.trans (by repeat (first | (with_reducible first | exact HK.out | apply KeepBut.set_ | apply keep_drewN | apply keep_drew | apply keep_alloc) | exact HK.out)) hk (.inl rfl));have n2_:=Aside0.mk (hb);have n3_:=Aside0.mk (hi);clear HO231;clear HK;clear HB;clear HI0;have HO231:=n0_;have HK:=n1_;have HB:=n2_;have HI0:=n3_;clear n0_ n1_ n2_ n3_;(try clear hb);(try clear hb2);(try clear hk);(try clear hi)) | ((with_reducible refine gate_callee (f:=38) rfl ?_);refine goesL_ (some 11) rfl rfl Try.func38 T6q4 rfl #[.pointer (some ⟨g,0,none⟩),.int .i64 5] rfl T6q5 ?_;(with_reducible refine (spec_l6Rd_pick.calls k g s0_0 t234 5 t235 t236 w0 _ ?side1 ?side2 A7.out).mono ?_);(case side1 => repeat (first | (with_reducible first | exact HI0.out | apply IsS68.alloc | apply IsS68.drewN | apply IsS68.drew | apply IsS68.set_1) | exact HI0.out));(case side2 => repeat (first | (with_reducible first | exact HB.out | apply below_alloc | apply pw_below_drewN | apply below_drew1 | refine below_set ?_ (IsS68.ge HI0.out)) | exact HB.out));rintro e w24 ⟨rfl,hi,hb,hk⟩;refine ⟨_,rfl,?_⟩;have n0_:=Aside0.mk (Kd.R_mono (Kd.R_keep (IsS68.apart (show IsS68 w0 _ g s0_0 t234 from by repeat (first | (with_reducible first | exact HI0.out | apply IsS68.alloc | apply IsS68.drewN | apply IsS68.drew | apply IsS68.set_1) | exact HI0.out)) T6q9 (by decide)) hk (fun _ h => h.2)) (fun _ h => h.1));have n1_:=Aside0.mk (KeepBut.trans (by repeat (first | (with_reducible first | exact HK.out | apply KeepBut.set_ | apply keep_drewN | apply keep_drew | apply keep_alloc) | exact HK.out)) hk (.inl rfl));have n2_:=Aside0.mk (hb);have n3_:=Aside0.mk (hi);clear HO231;clear HK;clear HB;clear HI0;have HO231:=n0_;have HK:=n1_;have HB:=n2_;have HI0:=n3_;clear n0_ n1_ n2_ n3_;(try clear hb);(try clear hb2);(try clear hk);(try clear hi)) | ((with_reducible refine gate_builtin (b:=.append) (xs:=#[.tmp 26,.tmp 28]) rfl ?_);at_builtin;refine Kd.R_append k27 w.heap.size rfl (.tmp 26) (.tmp 28) 23 27 (.agg #[(.string ⟨#[]⟩),(.int .i64 0),(.bool false),(.int .i64 0)]) 40 rfl Try.underlying23 info27 rfl (by decide) (by omega) v230 t229 (⟨(⟨#[100,100,100,100,100]⟩ : ByteArray),100,false,1⟩ : S27) [.string (⟨#[100,100,100,100,100]⟩ : ByteArray),.int .i64 100,.bool false,.int .i64 1] (fun _ => True) (fun _ => False) rfl rfl ?aP (fun _ hk => hk.elim) ?aF ?aO (Below.refl _ _) ?aS ?aL ?_;(case aP => exact k27_mkM _ _ _ (⟨(⟨#[100,100,100,100,100]⟩ : ByteArray),100,false,1⟩ : S27));(case aF => exact (fun _ _ => trivial));(case aO => exact T6q9);(case aS => exact (keep_size (w:=w) (g:=g) (row:=none) (by repeat (first | (with_reducible first | exact HK.out | apply KeepBut.set_ | apply keep_drewN | apply keep_drew | apply keep_alloc) | exact HK.out))));(case aL => have:=LMc21.out;omega);intro v244 w25 ho hb hg hat;rw [← Ny243.out] at ho;have n0_:=Aside0.mk (IsS68.grown (by repeat (first | (with_reducible first | exact HI0.out | apply IsS68.alloc | apply IsS68.drewN | apply IsS68.drew | apply IsS68.set_1) | exact HI0.out)) hg (IsS68.own_ne HI0.out HO231.out (by decide)));have n1_:=Aside0.mk (below_weaken (by repeat (first | (with_reducible first | exact HB.out | apply below_alloc | apply pw_below_drewN | apply below_drew1 | refine below_set ?_ (IsS68.ge HI0.out)) | exact HB.out)) HL.out hb);have n2_:=Aside0.mk (KeepBut.trans (by repeat (first | (with_reducible first | exact HK.out | apply KeepBut.set_ | apply keep_drewN | apply keep_drew | apply keep_alloc) | exact HK.out)) (KeepBut.of_grown hg g) (Kd.R_base2 HO231.out));have n3_:=Aside0.mk (ho);clear HI0;clear HB;clear HK;clear HO231;have HI0:=n0_;have HB:=n1_;have HK:=n2_;have HO245:=n3_;clear n0_ n1_ n2_ n3_;clear ho hb hg hat))
  go_ret
  exact ⟨_,by first | rfl | (simp [errW_none,errW_some] <;> rfl) | (simp [*,errW_none,errW_some] <;> rfl),by (with_reducible repeat (first | apply Kd.R_alloc | apply Kd.R_drewN | apply Kd.R_drew));exact HO245.out,by repeat (first | (with_reducible first | exact HI0.out | apply IsS68.alloc | apply IsS68.drewN | apply IsS68.drew | apply IsS68.set_1) | exact HI0.out),by repeat (first | (with_reducible first | exact HB.out | apply below_alloc | apply pw_below_drewN | apply below_drew1 | refine below_set ?_ (IsS68.ge HI0.out)) | exact HB.out),by repeat (first | (with_reducible first | exact HK.out | apply KeepBut.set_ | apply keep_drewN | apply keep_drew | apply keep_alloc) | exact HK.out)⟩
 rw [if_neg c20] at H
 have c20b0 : (t235 == 2) = false:=beq_eq_false_iff_ne.mpr c20
 have c20b1 : (t235 != 2) = true:=bne_iff_ne.mpr c20
 by_cases c26 : t235 = 3
 rotate_left
 ·rw [if_neg c26] at H
  have c26b0 : (t235 == 3) = false:=beq_eq_false_iff_ne.mpr c26
  have c26b1 : (t235 != 3) = true:=bne_iff_ne.mpr c26
  by_cases c39 : t229.length < 3518437208883
  rotate_left
  ·rw [if_neg c39] at H
   exact absurd H (by simp)
  rw [if_pos c39] at H
  have LMc39:=Aside0.mk c39
  clear c39
  obtain ⟨y255,hy255⟩ : ∃ y_ : List (S27),y_ = (t229 ++ [(⟨(⟨#[100,100,100,100,100]⟩ : ByteArray),1,true,1⟩ : S27)]):=⟨_,rfl⟩
  replace H : (some (y255,t236)) = some (r1,r2):=by first | (rw [hy255];with_reducible exact H) | (have H2_:=(Option.bind_some _ _).symm.trans H;rw [hy255];with_reducible exact H2_) | (have H2_:=(Option.bind_some _ _).symm.trans H;with_reducible exact H2_) | with_reducible exact H | (rw [hy255];exact H) | exact H
  have Ny255:=Aside0.mk hy255
  clear hy255
  simp only [Option.some.injEq,Prod.mk.injEq] at H
  obtain ⟨rfl,rfl⟩:=H
  go_enter Try.func35,Try.ntmps35
  go_wp2_with (first | ((with_reducible refine gate_callee (f:=46) rfl ?_);refine goesL_ (some 5) rfl rfl Try.func46 T6q4 rfl #[.pointer (some ⟨g,0,none⟩),.int .i64 10] rfl T6q5 ?_;(with_reducible refine (spec_l71Run.calls k g s0_0 s0_1 10 t229 t232 w0 _ ?side1 ?side2 A2.out).mono ?_);(case side1 => repeat (first | (with_reducible first | exact HI0.out | apply IsS68.alloc | apply IsS68.drewN | apply IsS68.drew | apply IsS68.set_1) | exact HI0.out));(case side2 => repeat (first | (with_reducible first | exact HB.out | apply below_alloc | apply pw_below_drewN | apply below_drew1 | refine below_set ?_ (IsS68.ge HI0.out)) | exact HB.out));rintro e w40 ⟨v230,rfl,ho0,hi,hb,hk⟩;refine ⟨_,rfl,?_⟩;have n0_:=Aside0.mk (Kd.R_lower ho0 (keep_size (w:=w) (g:=g) (row:=none) (by repeat (first | (with_reducible first | exact HK.out | apply KeepBut.set_ | apply keep_drewN | apply keep_drew | apply keep_alloc) | exact HK.out))));have n1_:=Aside0.mk (KeepBut.trans (by repeat (first | (with_reducible first | exact HK.out | apply KeepBut.set_ | apply keep_drewN | apply keep_drew | apply keep_alloc) | exact HK.out)) hk (.inl rfl));have n2_:=Aside0.mk (hb);have n3_:=Aside0.mk (hi);clear HK;clear HB;clear HI0;have HO231:=n0_;have HK:=n1_;have HB:=n2_;have HI0:=n3_;clear n0_ n1_ n2_ n3_;(try clear hb);(try clear hb2);(try clear hk);(try clear hi);(try clear ho0)) | ((with_reducible refine gate_callee (f:=38) rfl ?_);refine goesL_ (some 7) rfl rfl Try.func38 T6q4 rfl #[.pointer (some ⟨g,0,none⟩),.int .i64 12] rfl T6q5 ?_;(with_reducible refine (spec_l6Rd_pick.calls k g s0_0 t232 12 t233 t234 w0 _ ?side1 ?side2 A3.out).mono ?_);(case side1 => repeat (first | (with_reducible first | exact HI0.out | apply IsS68.alloc | apply IsS68.drewN | apply IsS68.drew | apply IsS68.set_1) | exact HI0.out));(case side2 => repeat (first | (with_reducible first | exact HB.out | apply below_alloc | apply pw_below_drewN | apply below_drew1 | refine below_set ?_ (IsS68.ge HI0.out)) | exact HB.out));rintro e w41 ⟨rfl,hi,hb,hk⟩;refine ⟨_,rfl,?_⟩;have n0_:=Aside0.mk (Kd.R_mono (Kd.R_keep (IsS68.apart (show IsS68 w0 _ g s0_0 t232 from by repeat (first | (with_reducible first | exact HI0.out | apply IsS68.alloc | apply IsS68.drewN | apply IsS68.drew | apply IsS68.set_1) | exact HI0.out)) T6q9 (by decide)) hk (fun _ h => h.2)) (fun _ h => h.1));have n1_:=Aside0.mk (KeepBut.trans (by repeat (first | (with_reducible first | exact HK.out | apply KeepBut.set_ | apply keep_drewN | apply keep_drew | apply keep_alloc) | exact HK.out)) hk (.inl rfl));have n2_:=Aside0.mk (hb);have n3_:=Aside0.mk (hi);clear HO231;clear HK;clear HB;clear HI0;have HO231:=n0_;have HK:=n1_;have HB:=n2_;have HI0:=n3_;clear n0_ n1_ n2_ n3_;(try clear hb);(try clear hb2);(try clear hk);(try clear hi)) | ((with_reducible refine gate_callee (f:=38) rfl ?_);refine goesL_ (some 11) rfl rfl Try.func38 T6q4 rfl #[.pointer (some ⟨g,0,none⟩),.int .i64 5] rfl T6q5 ?_;(with_reducible refine (spec_l6Rd_pick.calls k g s0_0 t234 5 t235 t236 w0 _ ?side1 ?side2 A7.out).mono ?_);(case side1 => repeat (first | (with_reducible first | exact HI0.out | apply IsS68.alloc | apply IsS68.drewN | apply IsS68.drew | apply IsS68.set_1) | exact HI0.out));(case side2 => repeat (first | (with_reducible first | exact HB.out | apply below_alloc | apply pw_below_drewN | apply below_drew1 | refine below_set ?_ (IsS68.ge HI0.out)) | exact HB.out));rintro e w42 ⟨rfl,hi,hb,hk⟩;refine ⟨_,rfl,?_⟩;have n0_:=Aside0.mk (Kd.R_mono (Kd.R_keep (IsS68.apart (show IsS68 w0 _ g s0_0 t234 from by repeat (first | (with_reducible first | exact HI0.out | apply IsS68.alloc | apply IsS68.drewN | apply IsS68.drew | apply IsS68.set_1) | exact HI0.out)) T6q9 (by decide)) hk (fun _ h => h.2)) (fun _ h => h.1));have n1_:=Aside0.mk (KeepBut.trans (by repeat (first | (with_reducible first | exact HK.out | apply KeepBut.set_ | apply keep_drewN | apply keep_drew | apply keep_alloc) | exact HK.out)) hk (.inl rfl));have n2_:=Aside0.mk (hb);have n3_:=Aside0.mk (hi);clear HO231;clear HK;clear HB;clear HI0;have HO231:=n0_;have HK:=n1_;have HB:=n2_;have HI0:=n3_;clear n0_ n1_ n2_ n3_;(try clear hb);(try clear hb2);(try clear hk);(try clear hi)) | ((with_reducible refine gate_builtin (b:=.append) (xs:=#[.tmp 41,.tmp 43]) rfl ?_);at_builtin;refine Kd.R_append k27 w.heap.size rfl (.tmp 41) (.tmp 43) 23 27 (.agg #[(.string ⟨#[]⟩),(.int .i64 0),(.bool false),(.int .i64 0)]) 40 rfl Try.underlying23 info27 rfl (by decide) (by omega) v230 t229 (⟨(⟨#[100,100,100,100,100]⟩ : ByteArray),1,true,1⟩ : S27) [.string (⟨#[100,100,100,100,100]⟩ : ByteArray),.int .i64 1,.bool true,.int .i64 1] (fun _ => True) (fun _ => False) rfl rfl ?aP (fun _ hk => hk.elim) ?aF ?aO (Below.refl _ _) ?aS ?aL ?_;(case aP => exact k27_mkM _ _ _ (⟨(⟨#[100,100,100,100,100]⟩ : ByteArray),1,true,1⟩ : S27));(case aF => exact (fun _ _ => trivial));(case aO => exact T6q9);(case aS => exact (keep_size (w:=w) (g:=g) (row:=none) (by repeat (first | (with_reducible first | exact HK.out | apply KeepBut.set_ | apply keep_drewN | apply keep_drew | apply keep_alloc) | exact HK.out))));(case aL => have:=LMc39.out;omega);intro v256 w43 ho hb hg hat;rw [← Ny255.out] at ho;have n0_:=Aside0.mk (IsS68.grown (by repeat (first | (with_reducible first | exact HI0.out | apply IsS68.alloc | apply IsS68.drewN | apply IsS68.drew | apply IsS68.set_1) | exact HI0.out)) hg (IsS68.own_ne HI0.out HO231.out (by decide)));have n1_:=Aside0.mk (below_weaken (by repeat (first | (with_reducible first | exact HB.out | apply below_alloc | apply pw_below_drewN | apply below_drew1 | refine below_set ?_ (IsS68.ge HI0.out)) | exact HB.out)) HL.out hb);have n2_:=Aside0.mk (KeepBut.trans (by repeat (first | (with_reducible first | exact HK.out | apply KeepBut.set_ | apply keep_drewN | apply keep_drew | apply keep_alloc) | exact HK.out)) (KeepBut.of_grown hg g) (Kd.R_base2 HO231.out));have n3_:=Aside0.mk (ho);clear HI0;clear HB;clear HK;clear HO231;have HI0:=n0_;have HB:=n1_;have HK:=n2_;have HO257:=n3_;clear n0_ n1_ n2_ n3_;clear ho hb hg hat))
  go_ret
  exact ⟨_,by first | rfl | (simp [errW_none,errW_some] <;> rfl) | (simp [*,errW_none,errW_some] <;> rfl),by (with_reducible repeat (first | apply Kd.R_alloc | apply Kd.R_drewN | apply Kd.R_drew));exact HO257.out,by repeat (first | (with_reducible first | exact HI0.out | apply IsS68.alloc | apply IsS68.drewN | apply IsS68.drew | apply IsS68.set_1) | exact HI0.out),by repeat (first | (with_reducible first | exact HB.out | apply below_alloc | apply pw_below_drewN | apply below_drew1 | refine below_set ?_ (IsS68.ge HI0.out)) | exact HB.out),by repeat (first | (with_reducible first | exact HK.out | apply KeepBut.set_ | apply keep_drewN | apply keep_drew | apply keep_alloc) | exact HK.out)⟩
 rw [if_pos c26] at H
 have c26b0 : (t235 == 3) = true:=beq_iff_eq.mpr c26
 have c26b1 : (t235 != 3) = false:=bne_eq_false_iff_eq.mpr c26
 clear c26
 obtain ⟨y246,hy246⟩ : ∃ y_ : List Int,y_ = (([0,1000] : List Int)):=⟨_,rfl⟩
 replace H : ((spec_l6Rd_pick.f k s0_0 t236 2).bind fun bt249 => (if 0 ≤ bt249.1 then (if bt249.1 < (y246.length : Int) then (if t229.length < 3518437208883 then (some ((t229 ++ [(⟨(⟨#[100,100,100,100,100]⟩ : ByteArray),0,false,rd y246 bt249.1⟩ : S27)]),bt249.2)) else (none)) else (none)) else (none))) = some (r1,r2):=by first | (rw [hy246];with_reducible exact H) | (have H2_:=(Option.bind_some _ _).symm.trans H;rw [hy246];with_reducible exact H2_) | (have H2_:=(Option.bind_some _ _).symm.trans H;with_reducible exact H2_) | with_reducible exact H | (rw [hy246];exact H) | exact H
 have Ny246:=Aside0.mk hy246
 clear hy246
 replace H:=Option.bind_eq_some_iff.mp H
 obtain ⟨⟨t249,t250⟩,A270,H⟩:=H
 replace H : (if 0 ≤ t249 then (if t249 < (y246.length : Int) then (if t229.length < 3518437208883 then (some ((t229 ++ [(⟨(⟨#[100,100,100,100,100]⟩ : ByteArray),0,false,rd y246 t249⟩ : S27)]),t250)) else (none)) else (none)) else (none)) = some (r1,r2):=H
 have A27:=Aside0.mk A270
 clear A270
 by_cases c28 : 0 ≤ t249
 rotate_left
 ·rw [if_neg c28] at H
  exact absurd H (by simp)
 rw [if_pos c28] at H
 have c28b0 : decide (0 ≤ t249) = true:=decide_eq_true c28
 clear c28
 by_cases c29 : t249 < (y246.length : Int)
 rotate_left
 ·rw [if_neg c29] at H
  exact absurd H (by simp)
 rw [if_pos c29] at H
 have c29b0 : decide (t249 < (y246.length : Int)) = true:=decide_eq_true c29
 clear c29
 by_cases c30 : t229.length < 3518437208883
 rotate_left
 ·rw [if_neg c30] at H
  exact absurd H (by simp)
 rw [if_pos c30] at H
 have LMc30:=Aside0.mk c30
 clear c30
 obtain ⟨y252,hy252⟩ : ∃ y_ : List (S27),y_ = (t229 ++ [(⟨(⟨#[100,100,100,100,100]⟩ : ByteArray),0,false,rd y246 t249⟩ : S27)]):=⟨_,rfl⟩
 replace H : (some (y252,t250)) = some (r1,r2):=by first | (rw [hy252];with_reducible exact H) | (have H2_:=(Option.bind_some _ _).symm.trans H;rw [hy252];with_reducible exact H2_) | (have H2_:=(Option.bind_some _ _).symm.trans H;with_reducible exact H2_) | with_reducible exact H | (rw [hy252];exact H) | exact H
 have Ny252:=Aside0.mk hy252
 clear hy252
 simp only [Option.some.injEq,Prod.mk.injEq] at H
 obtain ⟨rfl,rfl⟩:=H
 go_enter Try.func35,Try.ntmps35
 go_wp2_with (first | ((with_reducible refine gate_callee (f:=46) rfl ?_);refine goesL_ (some 5) rfl rfl Try.func46 T6q4 rfl #[.pointer (some ⟨g,0,none⟩),.int .i64 10] rfl T6q5 ?_;(with_reducible refine (spec_l71Run.calls k g s0_0 s0_1 10 t229 t232 w0 _ ?side1 ?side2 A2.out).mono ?_);(case side1 => repeat (first | (with_reducible first | exact HI0.out | apply IsS68.alloc | apply IsS68.drewN | apply IsS68.drew | apply IsS68.set_1) | exact HI0.out));(case side2 => repeat (first | (with_reducible first | exact HB.out | apply below_alloc | apply pw_below_drewN | apply below_drew1 | refine below_set ?_ (IsS68.ge HI0.out)) | exact HB.out));rintro e w31 ⟨v230,rfl,ho0,hi,hb,hk⟩;refine ⟨_,rfl,?_⟩;have n0_:=Aside0.mk (Kd.R_lower ho0 (keep_size (w:=w) (g:=g) (row:=none) (by repeat (first | (with_reducible first | exact HK.out | apply KeepBut.set_ | apply keep_drewN | apply keep_drew | apply keep_alloc) | exact HK.out))));have n1_:=Aside0.mk (KeepBut.trans (by repeat (first | (with_reducible first | exact HK.out | apply KeepBut.set_ | apply keep_drewN | apply keep_drew | apply keep_alloc) | exact HK.out)) hk (.inl rfl));have n2_:=Aside0.mk (hb);have n3_:=Aside0.mk (hi);clear HK;clear HB;clear HI0;have HO231:=n0_;have HK:=n1_;have HB:=n2_;have HI0:=n3_;clear n0_ n1_ n2_ n3_;(try clear hb);(try clear hb2);(try clear hk);(try clear hi);(try clear ho0)) | ((with_reducible refine gate_callee (f:=38) rfl ?_);refine goesL_ (some 7) rfl rfl Try.func38 T6q4 rfl #[.pointer (some ⟨g,0,none⟩),.int .i64 12] rfl T6q5 ?_;(with_reducible refine (spec_l6Rd_pick.calls k g s0_0 t232 12 t233 t234 w0 _ ?side1 ?side2 A3.out).mono ?_);(case side1 => repeat (first | (with_reducible first | exact HI0.out | apply IsS68.alloc | apply IsS68.drewN | apply IsS68.drew | apply IsS68.set_1) | exact HI0.out));(case side2 => repeat (first | (with_reducible first | exact HB.out | apply below_alloc | apply pw_below_drewN | apply below_drew1 | refine below_set ?_ (IsS68.ge HI0.out)) | exact HB.out));rintro e w32 ⟨rfl,hi,hb,hk⟩;refine ⟨_,rfl,?_⟩;have n0_:=Aside0.mk (Kd.R_mono (Kd.R_keep (IsS68.apart (show IsS68 w0 _ g s0_0 t232 from by repeat (first | (with_reducible first | exact HI0.out | apply IsS68.alloc | apply IsS68.drewN | apply IsS68.drew | apply IsS68.set_1) | exact HI0.out)) T6q9 (by decide)) hk (fun _ h => h.2)) (fun _ h => h.1));have n1_:=Aside0.mk (KeepBut.trans (by repeat (first | (with_reducible first | exact HK.out | apply KeepBut.set_ | apply keep_drewN | apply keep_drew | apply keep_alloc) | exact HK.out)) hk (.inl rfl));have n2_:=Aside0.mk (hb);have n3_:=Aside0.mk (hi);clear HO231;clear HK;clear HB;clear HI0;have HO231:=n0_;have HK:=n1_;have HB:=n2_;have HI0:=n3_;clear n0_ n1_ n2_ n3_;(try clear hb);(try clear hb2);(try clear hk);(try clear hi)) | ((with_reducible refine gate_callee (f:=38) rfl ?_);refine goesL_ (some 11) rfl rfl Try.func38 T6q4 rfl #[.pointer (some ⟨g,0,none⟩),.int .i64 5] rfl T6q5 ?_;(with_reducible refine (spec_l6Rd_pick.calls k g s0_0 t234 5 t235 t236 w0 _ ?side1 ?side2 A7.out).mono ?_);(case side1 => repeat (first | (with_reducible first | exact HI0.out | apply IsS68.alloc | apply IsS68.drewN | apply IsS68.drew | apply IsS68.set_1) | exact HI0.out));(case side2 => repeat (first | (with_reducible first | exact HB.out | apply below_alloc | apply pw_below_drewN | apply below_drew1 | refine below_set ?_ (IsS68.ge HI0.out)) | exact HB.out));rintro e w33 ⟨rfl,hi,hb,hk⟩;refine ⟨_,rfl,?_⟩;have n0_:=Aside0.mk (Kd.R_mono (Kd.R_keep (IsS68.apart (show IsS68 w0 _ g s0_0 t234 from by repeat (first | (with_reducible first | exact HI0.out | apply IsS68.alloc | apply IsS68.drewN | apply IsS68.drew | apply IsS68.set_1) | exact HI0.out)) T6q9 (by decide)) hk (fun _ h => h.2)) (fun _ h => h.1));have n1_:=Aside0.mk (KeepBut.trans (by repeat (first | (with_reducible first | exact HK.out | apply KeepBut.set_ | apply keep_drewN | apply keep_drew | apply keep_alloc) | exact HK.out)) hk (.inl rfl));have n2_:=Aside0.mk (hb);have n3_:=Aside0.mk (hi);clear HO231;clear HK;clear HB;clear HI0;have HO231:=n0_;have HK:=n1_;have HB:=n2_;have HI0:=n3_;clear n0_ n1_ n2_ n3_;(try clear hb);(try clear hb2);(try clear hk);(try clear hi)) | ((with_reducible refine gate_dst (N:=33) rfl ?_);refine Kd.R_lit (Kd.int .i64) _ 3 ?hg (N:=33) ?hd (xs:=([0,1000] : List Int)) (inner:=[.int .i64 0,.int .i64 1000]) (ok:=fun _ => True) (okp:=fun _ => True) ?hr ?hp (fun _ hk => hk) trivial (Below.refl _ _) (Nat.le_refl _) (by simp) ?_;(case hd => rfl);(case hg => rfl);(case hr => first | (go_simp;done) | (go_simp;rfl));(case hp => exact (Reps.one (show Kd.M (Kd.int .i64) _ _ _ 0 [.int .i64 0] from rfl) (Reps.one (show Kd.M (Kd.int .i64) _ _ _ 1000 [.int .i64 1000] from rfl) (Reps.none _ _))));intro v247 w34 ho35 hb hg_ hnew_;clear hg_ hnew_;(first | rw [← Ny246.out] at ho35 | (simp only [Int.reduceToNat] at ho35;rw [← Ny246.out] at ho35));have n0_:=Aside0.mk (Kd.R_below T6q9 hb);have n1_:=Aside0.mk (Kd.R_lower ho35 (keep_size (w:=w) (g:=g) (row:=none) (by repeat (first | (with_reducible first | exact HK.out | apply KeepBut.set_ | apply keep_drewN | apply keep_drew | apply keep_alloc) | exact HK.out))));have n2_:=Aside0.mk (IsS68.below (by repeat (first | (with_reducible first | exact HI0.out | apply IsS68.alloc | apply IsS68.drewN | apply IsS68.drew | apply IsS68.set_1) | exact HI0.out)) hb);have n3_:=Aside0.mk (KeepBut.trans (by repeat (first | (with_reducible first | exact HK.out | apply KeepBut.set_ | apply keep_drewN | apply keep_drew | apply keep_alloc) | exact HK.out)) (KeepBut.of_below hb g none) (.inl rfl));have n4_:=Aside0.mk (below_step (by repeat (first | (with_reducible first | exact HB.out | apply below_alloc | apply pw_below_drewN | apply below_drew1 | refine below_set ?_ (IsS68.ge HI0.out)) | exact HB.out)) hb);clear HO231;clear HI0;clear HK;clear HB;have HO231:=n0_;have HO248:=n1_;have HI0:=n2_;have HK:=n3_;have HB:=n4_;clear n0_ n1_ n2_ n3_ n4_;clear hb ho35) | ((with_reducible refine gate_callee (f:=38) rfl ?_);refine goesL_ (some 35) rfl rfl Try.func38 T6q4 rfl #[.pointer (some ⟨g,0,none⟩),.int .i64 2] rfl T6q5 ?_;(with_reducible refine (spec_l6Rd_pick.calls k g s0_0 t236 2 t249 t250 w0 _ ?side1 ?side2 A27.out).mono ?_);(case side1 => repeat (first | (with_reducible first | exact HI0.out | apply IsS68.alloc | apply IsS68.drewN | apply IsS68.drew | apply IsS68.set_1) | exact HI0.out));(case side2 => repeat (first | (with_reducible first | exact HB.out | apply below_alloc | apply pw_below_drewN | apply below_drew1 | refine below_set ?_ (IsS68.ge HI0.out)) | exact HB.out));rintro e w36 ⟨rfl,hi,hb,hk⟩;refine ⟨_,rfl,?_⟩;have n0_:=Aside0.mk (Kd.R_mono (Kd.R_keep (IsS68.apart (show IsS68 w0 _ g s0_0 t236 from by repeat (first | (with_reducible first | exact HI0.out | apply IsS68.alloc | apply IsS68.drewN | apply IsS68.drew | apply IsS68.set_1) | exact HI0.out)) T6q9 (by decide)) hk (fun _ h => h.2)) (fun _ h => h.1));have n1_:=Aside0.mk (Kd.R_mono (Kd.R_keep (IsS68.apart (show IsS68 w0 _ g s0_0 t236 from by repeat (first | (with_reducible first | exact HI0.out | apply IsS68.alloc | apply IsS68.drewN | apply IsS68.drew | apply IsS68.set_1) | exact HI0.out)) (by (with_reducible repeat (first | apply Kd.R_alloc | apply Kd.R_drewN | apply Kd.R_drew));exact HO248.out) (by decide)) hk (fun _ h => h.2)) (fun _ h => h.1));have n2_:=Aside0.mk (KeepBut.trans (by repeat (first | (with_reducible first | exact HK.out | apply KeepBut.set_ | apply keep_drewN | apply keep_drew | apply keep_alloc) | exact HK.out)) hk (.inl rfl));have n3_:=Aside0.mk (hb);have n4_:=Aside0.mk (hi);clear HO231;clear HO248;clear HK;clear HB;clear HI0;have HO231:=n0_;have HO248:=n1_;have HK:=n2_;have HB:=n3_;have HI0:=n4_;clear n0_ n1_ n2_ n3_ n4_;(try clear hb);(try clear hb2);(try clear hk);(try clear hi);obtain ⟨Ao37,co37,eo37⟩:=Kd.R_slice HO248.out;subst eo37;have p251 : 0 ≤ (t249 : Int):=of_decide_eq_true T6q3;have q251 : t249 < (y246.length : Int):=of_decide_eq_true T6q3;obtain ⟨ad251,e251,hx251_0⟩:=Kd.at_int (Kd.R_reads' HO248.out).2.2 t249 p251 q251;cases e251;replace p251:=eq_true p251;replace q251:=eq_true q251) | ((with_reducible refine gate_builtin (b:=.append) (xs:=#[.tmp 32,.tmp 39]) rfl ?_);at_builtin;refine Kd.R_append k27 w.heap.size rfl (.tmp 32) (.tmp 39) 23 27 (.agg #[(.string ⟨#[]⟩),(.int .i64 0),(.bool false),(.int .i64 0)]) 40 rfl Try.underlying23 info27 rfl (by decide) (by omega) v230 t229 (⟨(⟨#[100,100,100,100,100]⟩ : ByteArray),0,false,rd y246 t249⟩ : S27) [.string (⟨#[100,100,100,100,100]⟩ : ByteArray),.int .i64 0,.bool false,.int .i64 (rd y246 t249)] (fun _ => True) (fun _ => False) rfl rfl ?aP (fun _ hk => hk.elim) ?aF ?aO (Below.refl _ _) ?aS ?aL ?_;(case aP => exact k27_mkM _ _ _ (⟨(⟨#[100,100,100,100,100]⟩ : ByteArray),0,false,rd y246 t249⟩ : S27));(case aF => exact (fun _ _ => trivial));(case aO => exact T6q9);(case aS => exact (keep_size (w:=w) (g:=g) (row:=none) (by repeat (first | (with_reducible first | exact HK.out | apply KeepBut.set_ | apply keep_drewN | apply keep_drew | apply keep_alloc) | exact HK.out))));(case aL => have:=LMc30.out;omega);intro v253 w38 ho hb hg hat;rw [← Ny252.out] at ho;have n0_:=Aside0.mk (IsS68.grown (by repeat (first | (with_reducible first | exact HI0.out | apply IsS68.alloc | apply IsS68.drewN | apply IsS68.drew | apply IsS68.set_1) | exact HI0.out)) hg (IsS68.own_ne HI0.out HO231.out (by decide)));have n1_:=Aside0.mk (Kd.R_over' (by (with_reducible repeat (first | apply Kd.R_alloc | apply Kd.R_drewN | apply Kd.R_drew));exact HO248.out) (Kd.R_typed T6q9) (by decide) hg);have n2_:=Aside0.mk (below_weaken (by repeat (first | (with_reducible first | exact HB.out | apply below_alloc | apply pw_below_drewN | apply below_drew1 | refine below_set ?_ (IsS68.ge HI0.out)) | exact HB.out)) HL.out hb);have n3_:=Aside0.mk (KeepBut.trans (by repeat (first | (with_reducible first | exact HK.out | apply KeepBut.set_ | apply keep_drewN | apply keep_drew | apply keep_alloc) | exact HK.out)) (KeepBut.of_grown hg g) (Kd.R_base2 HO231.out));have n4_:=Aside0.mk (ho);clear HI0;clear HO248;clear HB;clear HK;clear HO231;have HI0:=n0_;have HO248:=n1_;have HB:=n2_;have HK:=n3_;have HO254:=n4_;clear n0_ n1_ n2_ n3_ n4_;clear ho hb hg hat))
 go_ret
 exact ⟨_,by first | rfl | (simp [errW_none,errW_some] <;> rfl) | (simp [*,errW_none,errW_some] <;> rfl),by (with_reducible repeat (first | apply Kd.R_alloc | apply Kd.R_drewN | apply Kd.R_drew));exact HO254.out,by repeat (first | (with_reducible first | exact HI0.out | apply IsS68.alloc | apply IsS68.drewN | apply IsS68.drew | apply IsS68.set_1) | exact HI0.out),by repeat (first | (with_reducible first | exact HB.out | apply below_alloc | apply pw_below_drewN | apply below_drew1 | refine below_set ?_ (IsS68.ge HI0.out)) | exact HB.out),by repeat (first | (with_reducible first | exact HK.out | apply KeepBut.set_ | apply keep_drewN | apply keep_drew | apply keep_alloc) | exact HK.out)⟩
end Go.Proofs.Ytkifijclehgiaaa.PFnRunJoinAt
