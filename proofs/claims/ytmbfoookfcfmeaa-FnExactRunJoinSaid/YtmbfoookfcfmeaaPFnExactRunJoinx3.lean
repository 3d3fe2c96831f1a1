/-
 Functions that FnExactRunJoin reaches,each as a Lean function,and that Go comes to its answer: printed by the kit's printer,the sort's comparing function and impl.RunJoin's part laid by hand. Conditions: those that stand in each statement.
-/
import Derived.Test.YtmbfoookfcfmeaaPFnExactRunJoinx0
import Derived.Test.YtmbfoookfcfmeaaPFnExactRunJoinx1
namespace Go.Proofs.Ytmbfoookfcfmeaa.PFnExactRunJoin
open Go.RowKit Go.Proofs.YtmbfoookfcfmeaaW.PrintWords Go.Proofs.YtmbfoookfcfmeaaW.PrintLast Go.Proofs.YtmbfoookfcfmeaaW.PrintMore
attribute [local go_sem] max2_int min2_int max_two min_two max_three min_three max_four min_four   -- for this text's walks alone
set_option linter.unusedVariables false
set_option linter.unusedSimpArgs false

/-! ### spec_l11Join: function 13 -/
mutual
def spec_l11Join.l0 : Nat → List (S36) → List (S36) → List (S36) → Int → Int → Option ((List (S36)))
 | 0,_,_,_,_,_ => none
 | k + 1,x0,x1,x5,x6,x7 => if x7 < (x1.length : Int) then (spec_l11Join.l1 k x0 x1 x5 x6 x7) else (if 0 ≤ x6 then (if x6 ≤ (x0.length : Int) then ((some (x0.drop (x6 : Int).toNat : List (S36))).bind fun y120 => (if x5.length + y120.length < 3518437208883 then (some (x5 ++ y120)) else (none))) else (none)) else (none))
def spec_l11Join.l1 : Nat → List (S36) → List (S36) → List (S36) → Int → Int → Option ((List (S36)))
 | 0,_,_,_,_,_ => none
 | k + 1,x0,x1,x5,x6,x7 => if x6 < (x0.length : Int) then (if 0 ≤ x6 then (if 0 ≤ x7 then (if x7 < (x1.length : Int) then ((spec_l11Ahead.f ((rd_T36 x0 x6).f0) ((rd_T36 x0 x6).f1) ((rd_T36 x0 x6).f2) ((rd_T36 x0 x6).f3) ((rd_T36 x1 x7).f0) ((rd_T36 x1 x7).f1) ((rd_T36 x1 x7).f2) ((rd_T36 x1 x7).f3)).bind fun t129 => (if t129 = true then (if x5.length < 3518437208883 then (spec_l11Join.l1 k x0 x1 (x5 ++ [(⟨(rd_T36 x0 x6).f0,(rd_T36 x0 x6).f1,(rd_T36 x0 x6).f2,(rd_T36 x0 x6).f3⟩ : S36)]) (wrap64 (x6 + 1)) x7) else (none)) else (if x5.length < 3518437208883 then (spec_l11Join.l0 k x0 x1 (x5 ++ [(⟨(rd_T36 x1 x7).f0,(rd_T36 x1 x7).f1,(rd_T36 x1 x7).f2,(rd_T36 x1 x7).f3⟩ : S36)]) x6 (wrap64 (x7 + 1))) else (none)))) else (none)) else (none)) else (none)) else (if 0 ≤ x7 then (if x7 < (x1.length : Int) then (if x5.length < 3518437208883 then (spec_l11Join.l0 k x0 x1 (x5 ++ [(⟨(rd_T36 x1 x7).f0,(rd_T36 x1 x7).f1,(rd_T36 x1 x7).f2,(rd_T36 x1 x7).f3⟩ : S36)]) x6 (wrap64 (x7 + 1))) else (none)) else (none)) else (none))
end
def spec_l11Join.f (k : Nat) (l0 : List (S36)) (l1 : List (S36)) : Option ((List (S36))):=spec_l11Join.l0 k l0 l1 (([] : List (S36))) 0 0
def spec_l11Join.T6 : Bool × List (List Nat × List Nat):=(true,[([],[]),([],[]),([1],[1]),([0,2],[0,2]),([3],[3]),([4],[4]),([4],[4]),([5,6,4],[4,5,6]),([7,4],[4,7]),([4],[4]),([4],[4]),([9,10,4],[4,9,10]),([11,4],[4,11]),([8,12,4,4],[4,8,12]),([4,13],[4,13])])
def spec_l11Join.B6 : List Nat:=[0,0,2,7,15,31,31,127,255,31,31,1567,3615,8191,16383]
theorem spec_l11Join.tab6 : rtab .any (opsOf Try.f13 6) = spec_l11Join.T6:=by kernel_rfl
theorem spec_l11Join.bits6 : waitsOk spec_l11Join.T6.2 spec_l11Join.B6 = true:=by kernel_rfl
set_option maxHeartbeats 8000000 in
set_option maxRecDepth 100000 in
theorem spec_l11Join.calls (k : Nat) (A0 : Option Addr) (c0 : Nat) (l0 : List (S36)) (A1 : Option Addr) (c1 : Nat) (l1 : List (S36)) (r : List (S36)) (w : World) (hr0 : Kd.C k36 w A0 l0.length l0) (hc0 : l0.length ≤ c0) (hr1 : Kd.C k36 w A1 l1.length l1) (hc1 : l1.length ≤ c1) (h : spec_l11Join.f k l0 l1 = some r) :
  Calls Try.prog 13 #[.slice A0 l0.length c0,.slice A1 l1.length c1] w fun e w' => ∃ v0_ : Value,e = .returned (v0_) ∧ Kd.R k36 36 w' w.heap.size (fun _ => True) v0_ r ∧ Below w.heap.size w w':=by
 have hu36:=Try.underlying36
 have HR0:=Aside0.mk hr0
 have HC0:=Aside0.mk hc0
 clear hr0 hc0
 have HR1:=Aside0.mk hr1
 have HC1:=Aside0.mk hc1
 clear hr1 hc1
 have HB:=Aside0.mk (Below.refl w.heap.size w)
 have H : (spec_l11Join.l0 k l0 l1 (([] : List (S36))) 0 0) = some r:=h
 clear h
 obtain ⟨y117,hy117⟩ : ∃ y_ : List (S36),y_ = (([] : List (S36))):=⟨_,rfl⟩
 replace H : (spec_l11Join.l0 k l0 l1 y117 0 0) = some r:=by first | (rw [hy117];with_reducible exact H) | (have H2_:=(Option.bind_some _ _).symm.trans H;rw [hy117];with_reducible exact H2_) | (have H2_:=(Option.bind_some _ _).symm.trans H;with_reducible exact H2_) | with_reducible exact H | (rw [hy117];exact H) | exact H
 have Ny117:=Aside0.mk hy117
 clear hy117
 have H':=Aside0.mk H
 clear H
 go_enter Try.func13,Try.ntmps13
 go_wp2_with (first | ((with_reducible refine gate_dst (N:=8) rfl ?_);refine Kd.R_lit k36 _ 36 ?hg (N:=8) ?hd (xs:=([] : List (S36))) (inner:=[]) (ok:=fun _ => True) (okp:=fun _ => True) ?hr ?hp (fun _ hk => hk) trivial (Below.refl _ _) (Nat.le_refl _) (by simp) ?_;(case hd => rfl);(case hg => rfl);(case hr => first | (go_simp;done) | (go_simp;rfl));(case hp => exact (Reps.none _ _));intro v118 w3 ho4 hb hg_ hnew_;clear hg_ hnew_;(first | rw [← Ny117.out] at ho4 | (simp only [Int.reduceToNat] at ho4;rw [← Ny117.out] at ho4));have n0_:=Aside0.mk (Kd.R_lower ho4 (below_size (by repeat (first | (with_reducible first | exact HB.out | apply below_alloc | apply pw_below_drewN | apply below_drew1) | exact HB.out))));have n1_:=Aside0.mk (below_step (by repeat (first | (with_reducible first | exact HB.out | apply below_alloc | apply pw_below_drewN | apply below_drew1) | exact HB.out)) hb);clear HB;have HO119:=n0_;have HB:=n1_;clear n0_ n1_;clear hb ho4))
 go_loopg [5,6,7] k (fun kq v5 v6 v7 w' => ∃ (x5_1 : List (S36)) (x6_1 : Int) (x7_1 : Int),v6 = .int .i64 x6_1 ∧ v7 = .int .i64 x7_1 ∧ Aside0 (spec_l11Join.l0 kq l0 l1 x5_1 x6_1 x7_1 = some r) ∧ Aside0 (kq ≤ k) ∧ Aside0 (Kd.R k36 36 w' w.heap.size (fun _ => True) v5 x5_1) ∧ Aside0 (Below w.heap.size w w'))
 case atStart => exact ⟨(y117),(0),(0),(by first | rfl | (simp;done) | (simp [*];done)),(by first | rfl | (simp;done) | (simp [*];done)),H',⟨Nat.le_refl _⟩,⟨by (with_reducible repeat (first | apply Kd.R_alloc | apply Kd.R_drewN | apply Kd.R_drew));exact HO119.out⟩,⟨by repeat (first | (with_reducible first | exact HB.out | apply below_alloc | apply pw_below_drewN | apply below_drew1) | exact HB.out)⟩⟩
 case round =>
  clear H'
  try clear c1
  try clear p2
  obtain ⟨x5_1,x6_1,x7_1,rfl,rfl,HA,HK1,HO_5,HB⟩:=hrel
  cases gk with
  | zero => exact absurd HA.out (by simp [spec_l11Join.l0])
  | succ k1 =>
   have H:=HA.out
   clear HA
   simp only [spec_l11Join.l0] at H
   by_cases c5 : x7_1 < (l1.length : Int)
   rotate_left
   ·rw [if_neg c5] at H
    have c5b0 : decide (x7_1 < (l1.length : Int)) = false:=decide_eq_false c5
    clear c5
    by_cases c25 : 0 ≤ x6_1
    rotate_left
    ·rw [if_neg c25] at H
     exact absurd H (by simp)
    rw [if_pos c25] at H
    have c25b0:=eq_true c25
    have c25b1 : decide (0 ≤ x6_1) = true:=decide_eq_true c25
    clear c25
    by_cases c26 : x6_1 ≤ (l0.length : Int)
    rotate_left
    ·rw [if_neg c26] at H
     exact absurd H (by simp)
    rw [if_pos c26] at H
    have c26b0:=eq_true c26
    have c26b1 : decide (x6_1 ≤ (l0.length : Int)) = true:=decide_eq_true c26
    clear c26
    obtain ⟨y120,hy120⟩ : ∃ y_ : List (S36),y_ = (l0.drop (x6_1 : Int).toNat):=⟨_,rfl⟩
    replace H : (if x5_1.length + y120.length < 3518437208883 then (some (x5_1 ++ y120)) else (none)) = some r:=by first | (rw [hy120];with_reducible exact H) | (have H2_:=(Option.bind_some _ _).symm.trans H;rw [hy120];with_reducible exact H2_) | (have H2_:=(Option.bind_some _ _).symm.trans H;with_reducible exact H2_) | with_reducible exact H | (rw [hy120];exact H) | exact H
    have Ny120:=Aside0.mk hy120
    clear hy120
    by_cases c27 : x5_1.length + y120.length < 3518437208883
    rotate_left
    ·rw [if_neg c27] at H
     exact absurd H (by simp)
    rw [if_pos c27] at H
    have LMc27:=Aside0.mk c27
    clear c27
    obtain ⟨y124,hy124⟩ : ∃ y_ : List (S36),y_ = (x5_1 ++ y120):=⟨_,rfl⟩
    replace H : (some y124) = some r:=by first | (rw [hy124];with_reducible exact H) | (have H2_:=(Option.bind_some _ _).symm.trans H;rw [hy124];with_reducible exact H2_) | (have H2_:=(Option.bind_some _ _).symm.trans H;with_reducible exact H2_) | with_reducible exact H | (rw [hy124];exact H) | exact H
    have Ny124:=Aside0.mk hy124
    clear hy124
    obtain rfl:=Option.some.inj H
    have q28 : (x6_1 : Int) ≤ ((l0.length : Int) : Int):=of_decide_eq_true (by first | (with_reducible assumption) | assumption)
    obtain ⟨i028,hi028,_,hsz28,_⟩:=info_parts info36
    have hroom28 : l0.length ≤ c0:=HC0.out
    have hC28 : Kd.C k36 _ A0 l0.length l0:=HR0.out
    have q028 : (0 : Int) ≤ (x6_1 : Int):=of_decide_eq_true (by first | (with_reducible assumption) | assumption)
    have hcut28:=cut_from (P:=Try.prog) 24 36 .i64 Try.underlying24 hi028 4 hsz28 A0 l0.length c0 x6_1 q028 q28
    have hr28:=Kd.C_drop (m:=(x6_1 : Int).toNat) (c:=c0) hC28 (by omega) hroom28
    obtain ⟨A28,hA28⟩ : ∃ A1,A1 = (if c0 = (x6_1 : Int).toNat then A0 else (A0 : Option Addr).map (·.add ((x6_1 : Int).toNat * 4))):=⟨_,rfl⟩
    obtain ⟨c28,hc28⟩ : ∃ c1,c1 = c0 - (x6_1 : Int).toNat:=⟨_,rfl⟩
    have hy28 : y120.length = l0.length - (x6_1 : Int).toNat:=(by rw [Ny120.out,List.length_drop] <;> omega)
    rw [show (l0).drop (x6_1 : Int).toNat = y120 from Ny120.out.symm] at hr28
    replace hr28 : Kd.C k36 _ A28 y120.length y120:=(by rw [hA28];exact hr28)
    rw [← hy28,← hA28,← hc28] at hcut28
    have HR123:=Aside0.mk hr28
    have HC123:=Aside0.mk (show y120.length ≤ c28 from by rw [hy28,hc28];exact Nat.sub_le_sub_right hroom28 _)
    clear hr28 hC28 hroom28 hi028 hsz28 hc28
    have KY28:=Aside0.mk hy28
    have KA28:=Aside0.mk hA28
    clear hy28 hA28
    replace q28:=eq_true q28
    go_wp2_with (first | ((with_reducible refine gate_builtin (b:=.append) (xs:=#[.tmp 46,.tmp 49]) rfl ?_);at_builtin;refine Kd.R_append_rows k36 (w0:=w) w.heap.size rfl (.tmp 46) (.tmp 49) 24 36 (.agg #[(.string ⟨#[]⟩),(.int .i64 0),(.bool false),(.int .i64 0)]) 40 rfl Try.underlying24 info36 rfl (by decide) (by omega) u5 x5_1 y120 _ _ _ (fun _ => True) (fun _ => False) rfl rfl ?aO ?aR (fun _ _ h => h) (fun _ h => h.elim) ?aF ?aB ?aS ?aL ?_;(case aR => repeat (first | exact (Kd.C_below HR123.out HB.out) | (with_reducible refine Kd.C_alloc ?_ _) | (with_reducible refine Kd.C_drewN ?_ _) | (with_reducible refine Kd.C_drew ?_)));(case aB => exact (by repeat (first | (with_reducible first | exact HB.out | apply below_alloc | apply pw_below_drewN | apply below_drew1) | exact HB.out)));(case aF => exact (fun _ _ => trivial));(case aO => exact (by (with_reducible repeat (first | apply Kd.R_alloc | apply Kd.R_drewN | apply Kd.R_drew));exact HO_5.out));(case aS => exact (below_size (by repeat (first | (with_reducible first | exact HB.out | apply below_alloc | apply pw_below_drewN | apply below_drew1) | exact HB.out))));(case aL => have:=LMc27.out;omega);intro v125 w29 ho hb hg hat;rw [← Ny124.out] at ho;have n0_:=Aside0.mk (hb);have n1_:=Aside0.mk (ho);clear HB;clear HO_5;have HB:=n0_;have HO126:=n1_;clear n0_ n1_;clear ho hb hg hat))
    go_ret
    exact ⟨_,by first | rfl | (simp [errW_none,errW_some] <;> rfl) | (simp [*,errW_none,errW_some] <;> rfl),by (with_reducible repeat (first | apply Kd.R_alloc | apply Kd.R_drewN | apply Kd.R_drew));exact HO126.out,by repeat (first | (with_reducible first | exact HB.out | apply below_alloc | apply pw_below_drewN | apply below_drew1) | exact HB.out)⟩
   rw [if_pos c5] at H
   have c5b0 : decide (x7_1 < (l1.length : Int)) = true:=decide_eq_true c5
   clear c5
   have H':=Aside0.mk H
   clear H
   go_wp2
   go_loopg [5,6] k1 (fun kq v5 v6 w' => ∃ (x5_2 : List (S36)) (x6_2 : Int),v6 = .int .i64 x6_2 ∧ Aside0 (spec_l11Join.l1 kq l0 l1 x5_2 x6_2 x7_1 = some r) ∧ Aside0 (kq ≤ k1) ∧ Aside0 (Kd.R k36 36 w' w.heap.size (fun _ => True) v5 x5_2) ∧ Aside0 (Below w.heap.size w w'))
   case atStart => exact ⟨(x5_1),(x6_1),(by first | rfl | (simp;done) | (simp [*];done)),H',⟨Nat.le_refl _⟩,⟨by (with_reducible repeat (first | apply Kd.R_alloc | apply Kd.R_drewN | apply Kd.R_drew));exact HO_5.out⟩,⟨by repeat (first | (with_reducible first | exact HB.out | apply below_alloc | apply pw_below_drewN | apply below_drew1) | exact HB.out)⟩⟩
   case round =>
    clear H'
    try clear c1
    try clear p2
    try clear c5
    try clear c5b0
    try clear p2
    obtain ⟨x5_2,x6_2,rfl,HA,HK2,HO_5,HB⟩:=hrel
    cases gk with
    | zero => exact absurd HA.out (by simp [spec_l11Join.l1])
    | succ k2 =>
     have H:=HA.out
     clear HA
     simp only [spec_l11Join.l1] at H
     by_cases c6 : x6_2 < (l0.length : Int)
     rotate_left
     ·rw [if_neg c6] at H
      have c6b0 : decide (x6_2 < (l0.length : Int)) = false:=decide_eq_false c6
      clear c6
      by_cases c20 : 0 ≤ x7_1
      rotate_left
      ·rw [if_neg c20] at H
       exact absurd H (by simp)
      rw [if_pos c20] at H
      have c20b0 : decide (0 ≤ x7_1) = true:=decide_eq_true c20
      clear c20
      by_cases c21 : x7_1 < (l1.length : Int)
      rotate_left
      ·rw [if_neg c21] at H
       exact absurd H (by simp)
      rw [if_pos c21] at H
      have c21b0 : decide (x7_1 < (l1.length : Int)) = true:=decide_eq_true c21
      clear c21
      by_cases c22 : x5_2.length < 3518437208883
      rotate_left
      ·rw [if_neg c22] at H
       exact absurd H (by simp)
      rw [if_pos c22] at H
      have LMc22:=Aside0.mk c22
      clear c22
      obtain ⟨y139,hy139⟩ : ∃ y_ : List (S36),y_ = (x5_2 ++ [(⟨(rd_T36 l1 x7_1).f0,(rd_T36 l1 x7_1).f1,(rd_T36 l1 x7_1).f2,(rd_T36 l1 x7_1).f3⟩ : S36)]):=⟨_,rfl⟩
      replace H : (spec_l11Join.l0 k2 l0 l1 y139 x6_2 (wrap64 (x7_1 + 1))) = some r:=by first | (rw [hy139];with_reducible exact H) | (have H2_:=(Option.bind_some _ _).symm.trans H;rw [hy139];with_reducible exact H2_) | (have H2_:=(Option.bind_some _ _).symm.trans H;with_reducible exact H2_) | with_reducible exact H | (rw [hy139];exact H) | exact H
      have Ny139:=Aside0.mk hy139
      clear hy139
      have H':=Aside0.mk H
      clear H
      try go_wp2
      have n0_:=Aside0.mk (Kd.R_drew HO_5.out)
      have n1_:=Aside0.mk (below_drew1 HB.out)
      clear HO_5
      clear HB
      have HO_5:=n0_
      have HB:=n1_
      clear n0_ n1_
      refine start_ (n:=15) (S:=fun w' => True) (ds:=[]) #[false,false,false,false,false,false,false,false,false,false,false,false,false,false,false] (by kernel_rfl) rfl rfl trivial (fun hHeld => ?_);refine with_tabW spec_l11Join.tab6 spec_l11Join.bits6 (fun HT_ HW_ => ?_)
      generalize wr.drew = w23 at HO_5 HB hHeld ⊢
      refine pure_ (i:=0) (N:=some 15) (v:=?_) (a':=?_) #[true,false,false,false,false,false,false,false,false,false,false,false,false,false,false] rfl rfl (any_of HT_.out (by kernel_rfl)) (fun _ _ _ h => h) (Or.inl ⟨by rfl,?_⟩) ?_ ?_
      rotate_left
      ·intro w'
       go_simp
       with_reducible rfl
      rotate_left
      ·simp only [Act.put,List.setIfInBounds_toArray,List.set_cons_zero,List.set_cons_succ,i64_w,i32_w]
       rfl
      refine pure_ (i:=1) (N:=some 16) (v:=?_) (a':=?_) #[true,true,false,false,false,false,false,false,false,false,false,false,false,false,false] rfl rfl (any_of HT_.out (by kernel_rfl)) (fun _ _ _ h => h) (Or.inl ⟨by rfl,?_⟩) ?_ ?_
      rotate_left
      ·intro w'
       go_simp
       with_reducible rfl
      rotate_left
      ·simp only [Act.put,List.setIfInBounds_toArray,List.set_cons_zero,List.set_cons_succ,i64_w,i32_w]
       rfl
      refine pure_ (i:=2) (N:=some 17) (v:=?_) (a':=?_) #[true,true,true,false,false,false,false,false,false,false,false,false,false,false,false] rfl rfl (any_of HT_.out (by kernel_rfl)) (fun _ _ _ h => h) (Or.inl ⟨by rfl,?_⟩) ?_ ?_
      rotate_left
      ·intro w'
       go_simp
       with_reducible rfl
      rotate_left
      ·simp only [Act.put,List.setIfInBounds_toArray,List.set_cons_zero,List.set_cons_succ,i64_w,i32_w]
       rfl
      refine pure_ (i:=3) (N:=some 18) (v:=?_) (a':=?_) #[true,true,true,true,false,false,false,false,false,false,false,false,false,false,false] rfl rfl (any_of HT_.out (by kernel_rfl)) (fun _ _ _ h => h) (Or.inl ⟨by rfl,?_⟩) ?_ ?_
      rotate_left
      ·intro w'
       go_simp
       with_reducible rfl
      rotate_left
      ·simp only [Act.put,List.setIfInBounds_toArray,List.set_cons_zero,List.set_cons_succ,i64_w,i32_w]
       rfl
      refine pure_ (i:=4) (N:=some 19) (v:=?_) (a':=?_) #[true,true,true,true,true,false,false,false,false,false,false,false,false,false,false] rfl rfl (any_of HT_.out (by kernel_rfl)) (fun _ _ _ h => h) (Or.inl ⟨by rfl,?_⟩) ?_ ?_
      rotate_left
      ·intro w'
       go_simp
       with_reducible rfl
      rotate_left
      ·simp only [Act.put,List.setIfInBounds_toArray,List.set_cons_zero,List.set_cons_succ,i64_w,i32_w]
       rfl
      refine pure_ (i:=5) (N:=some 20) (v:=undef) (a':=?_) #[true,true,true,true,true,true,false,false,false,false,false,false,false,false,false] rfl rfl (any_of HT_.out (by kernel_rfl)) (fun _ _ _ h => h) (Or.inr ⟨by rfl,rfl⟩) ?_ ?_
      rotate_left
      ·simp only [Act.put,List.setIfInBounds_toArray,List.set_cons_zero,List.set_cons_succ,i64_w,i32_w]
       rfl
      refine pure_ (i:=6) (N:=some 21) (v:=undef) (a':=?_) #[true,true,true,true,true,true,true,false,false,false,false,false,false,false,false] rfl rfl (any_of HT_.out (by kernel_rfl)) (fun _ _ _ h => h) (Or.inr ⟨by rfl,rfl⟩) ?_ ?_
      rotate_left
      ·simp only [Act.put,List.setIfInBounds_toArray,List.set_cons_zero,List.set_cons_succ,i64_w,i32_w]
       rfl
      refine pure_ (i:=7) (N:=some 22) (v:=undef) (a':=?_) #[true,true,true,true,true,true,true,true,false,false,false,false,false,false,false] rfl rfl (any_of HT_.out (by kernel_rfl)) (fun _ _ _ h => h) (Or.inr ⟨by rfl,rfl⟩) ?_ ?_
      rotate_left
      ·simp only [Act.put,List.setIfInBounds_toArray,List.set_cons_zero,List.set_cons_succ,i64_w,i32_w]
       rfl
      refine pure_ (i:=8) (N:=some 23) (v:=undef) (a':=?_) #[true,true,true,true,true,true,true,true,true,false,false,false,false,false,false] rfl rfl (any_of HT_.out (by kernel_rfl)) (fun _ _ _ h => h) (Or.inr ⟨by rfl,rfl⟩) ?_ ?_
      rotate_left
      ·simp only [Act.put,List.setIfInBounds_toArray,List.set_cons_zero,List.set_cons_succ,i64_w,i32_w]
       rfl
      refine pure_ (i:=9) (N:=some 24) (v:=undef) (a':=?_) #[true,true,true,true,true,true,true,true,true,true,false,false,false,false,false] rfl rfl (any_of HT_.out (by kernel_rfl)) (fun _ _ _ h => h) (Or.inr ⟨by rfl,rfl⟩) ?_ ?_
      rotate_left
      ·simp only [Act.put,List.setIfInBounds_toArray,List.set_cons_zero,List.set_cons_succ,i64_w,i32_w]
       rfl
      refine pure_ (i:=10) (N:=some 25) (v:=undef) (a':=?_) #[true,true,true,true,true,true,true,true,true,true,true,false,false,false,false] rfl rfl (any_of HT_.out (by kernel_rfl)) (fun _ _ _ h => h) (Or.inr ⟨by rfl,rfl⟩) ?_ ?_
      rotate_left
      ·simp only [Act.put,List.setIfInBounds_toArray,List.set_cons_zero,List.set_cons_succ,i64_w,i32_w]
       rfl
      refine pure_ (i:=11) (N:=some 26) (v:=undef) (a':=?_) #[true,true,true,true,true,true,true,true,true,true,true,true,false,false,false] rfl rfl (any_of HT_.out (by kernel_rfl)) (fun _ _ _ h => h) (Or.inr ⟨by rfl,rfl⟩) ?_ ?_
      rotate_left
      ·simp only [Act.put,List.setIfInBounds_toArray,List.set_cons_zero,List.set_cons_succ,i64_w,i32_w]
       rfl
      refine pure_ (i:=12) (N:=some 27) (v:=undef) (a':=?_) #[true,true,true,true,true,true,true,true,true,true,true,true,true,false,false] rfl rfl (any_of HT_.out (by kernel_rfl)) (fun _ _ _ h => h) (Or.inr ⟨by rfl,rfl⟩) ?_ ?_
      rotate_left
      ·simp only [Act.put,List.setIfInBounds_toArray,List.set_cons_zero,List.set_cons_succ,i64_w,i32_w]
       rfl
      refine pure_ (i:=13) (N:=some 28) (v:=undef) (a':=?_) #[true,true,true,true,true,true,true,true,true,true,true,true,true,true,false] rfl rfl (any_of HT_.out (by kernel_rfl)) (fun _ _ _ h => h) (Or.inr ⟨by rfl,rfl⟩) ?_ ?_
      rotate_left
      ·simp only [Act.put,List.setIfInBounds_toArray,List.set_cons_zero,List.set_cons_succ,i64_w,i32_w]
       rfl
      refine pure_ (i:=14) (N:=some 29) (v:=?_) (a':=?_) #[true,true,true,true,true,true,true,true,true,true,true,true,true,true,true] rfl rfl (any_of HT_.out (by kernel_rfl)) (fun _ _ _ h => h) (Or.inl ⟨by rfl,?_⟩) ?_ ?_
      rotate_left
      ·intro w'
       go_simp
       with_reducible rfl
      rotate_left
      ·simp only [Act.put,List.setIfInBounds_toArray,List.set_cons_zero,List.set_cons_succ,i64_w,i32_w]
       rfl
      refine done_ (done_of HT_.out (by kernel_rfl)) ?_
      have p138 : 0 ≤ (x7_1 : Int):=of_decide_eq_true (by first | (with_reducible assumption) | assumption)
      have q138 : x7_1 < (l1.length : Int):=of_decide_eq_true (by first | (with_reducible assumption) | assumption)
      obtain ⟨ad138,e138,hx138_0,hx138_1,hx138_2,hx138_3⟩:=at_T36 HR1.out x7_1 p138 q138
      cases e138
      replace hx138_0:=(HB.out.cell (World.block_lt_of_cell? w _ hx138_0)).trans hx138_0
      replace hx138_1:=(HB.out.cell (World.block_lt_of_cell? w _ hx138_1)).trans hx138_1
      replace hx138_2:=(HB.out.cell (World.block_lt_of_cell? w _ hx138_2)).trans hx138_2
      replace hx138_3:=(HB.out.cell (World.block_lt_of_cell? w _ hx138_3)).trans hx138_3
      replace p138:=eq_true p138
      replace q138:=eq_true q138
      try go_wp2_with (first | ((with_reducible refine gate_builtin (b:=.append) (xs:=#[.tmp 39,.tmp 44]) rfl ?_);at_builtin;refine Kd.R_append k36 (w0:=w) w.heap.size rfl (.tmp 39) (.tmp 44) 24 36 (.agg #[(.string ⟨#[]⟩),(.int .i64 0),(.bool false),(.int .i64 0)]) 40 rfl Try.underlying24 info36 rfl (by decide) (by omega) u5 x5_2 (⟨(rd_T36 l1 x7_1).f0,(rd_T36 l1 x7_1).f1,(rd_T36 l1 x7_1).f2,(rd_T36 l1 x7_1).f3⟩ : S36) [.string ((rd_T36 l1 x7_1).f0),.int .i64 ((rd_T36 l1 x7_1).f1),.bool ((rd_T36 l1 x7_1).f2),.int .i64 ((rd_T36 l1 x7_1).f3)] (fun _ => True) (fun _ => False) rfl rfl ?aP (fun _ hk => hk.elim) ?aF ?aO ?aB ?aS ?aL ?_;(case aP => exact k36_mkM _ _ _ (⟨(rd_T36 l1 x7_1).f0,(rd_T36 l1 x7_1).f1,(rd_T36 l1 x7_1).f2,(rd_T36 l1 x7_1).f3⟩ : S36));(case aB => exact (by repeat (first | (with_reducible first | exact HB.out | apply below_alloc | apply pw_below_drewN | apply below_drew1) | exact HB.out)));(case aF => exact (fun _ _ => trivial));(case aO => exact (by (with_reducible repeat (first | apply Kd.R_alloc | apply Kd.R_drewN | apply Kd.R_drew));exact HO_5.out));(case aS => exact (below_size (by repeat (first | (with_reducible first | exact HB.out | apply below_alloc | apply pw_below_drewN | apply below_drew1) | exact HB.out))));(case aL => have:=LMc22.out;omega);intro v140 w24 ho hb hg hat;rw [← Ny139.out] at ho;have n0_:=Aside0.mk (hb);have n1_:=Aside0.mk (ho);clear HB;clear HO_5;have HB:=n0_;have HO141:=n1_;clear n0_ n1_;clear ho hb hg hat))
      go_roundg k2
      case measure => have:=HK1.out;have:=HK2.out;omega
      case rel => exact ⟨(y139),(x6_2),(wrap64 (x7_1 + 1)),(by first | rfl | (simp;done) | (simp [*];done)),(by first | rfl | (simp;done) | (simp [*];done)),H',⟨by have:=HK1.out;have:=HK2.out;omega⟩,⟨by (with_reducible repeat (first | apply Kd.R_alloc | apply Kd.R_drewN | apply Kd.R_drew));exact HO141.out⟩,⟨by repeat (first | (with_reducible first | exact HB.out | apply below_alloc | apply pw_below_drewN | apply below_drew1) | exact HB.out)⟩⟩
     rw [if_pos c6] at H
     have c6b0 : decide (x6_2 < (l0.length : Int)) = true:=decide_eq_true c6
     clear c6
     by_cases c7 : 0 ≤ x6_2
     rotate_left
     ·rw [if_neg c7] at H
      exact absurd H (by simp)
     rw [if_pos c7] at H
     have c7b0 : decide (0 ≤ x6_2) = true:=decide_eq_true c7
     clear c7
     by_cases c8 : 0 ≤ x7_1
     rotate_left
     ·rw [if_neg c8] at H
      exact absurd H (by simp)
     rw [if_pos c8] at H
     have c8b0 : decide (0 ≤ x7_1) = true:=decide_eq_true c8
     clear c8
     by_cases c9 : x7_1 < (l1.length : Int)
     rotate_left
     ·rw [if_neg c9] at H
      exact absurd H (by simp)
     rw [if_pos c9] at H
     have c9b0 : decide (x7_1 < (l1.length : Int)) = true:=decide_eq_true c9
     clear c9
     replace H:=Option.bind_eq_some_iff.mp H
     obtain ⟨t129,A100,H⟩:=H
     replace H : (if t129 = true then (if x5_2.length < 3518437208883 then (spec_l11Join.l1 k2 l0 l1 (x5_2 ++ [(⟨(rd_T36 l0 x6_2).f0,(rd_T36 l0 x6_2).f1,(rd_T36 l0 x6_2).f2,(rd_T36 l0 x6_2).f3⟩ : S36)]) (wrap64 (x6_2 + 1)) x7_1) else (none)) else (if x5_2.length < 3518437208883 then (spec_l11Join.l0 k2 l0 l1 (x5_2 ++ [(⟨(rd_T36 l1 x7_1).f0,(rd_T36 l1 x7_1).f1,(rd_T36 l1 x7_1).f2,(rd_T36 l1 x7_1).f3⟩ : S36)]) x6_2 (wrap64 (x7_1 + 1))) else (none))) = some r:=H
     have A10:=Aside0.mk A100
     clear A100
     by_cases c11 : t129 = true
     ·subst c11
      have H1 : (if x5_2.length < 3518437208883 then (spec_l11Join.l1 k2 l0 l1 (x5_2 ++ [(⟨(rd_T36 l0 x6_2).f0,(rd_T36 l0 x6_2).f1,(rd_T36 l0 x6_2).f2,(rd_T36 l0 x6_2).f3⟩ : S36)]) (wrap64 (x6_2 + 1)) x7_1) else (none)) = some r:=by rw [if_pos rfl] at H;exact H
      clear H
      have H:=H1
      clear H1
      by_cases c12 : x5_2.length < 3518437208883
      rotate_left
      ·rw [if_neg c12] at H
       exact absurd H (by simp)
      rw [if_pos c12] at H
      have LMc12:=Aside0.mk c12
      clear c12
      obtain ⟨y131,hy131⟩ : ∃ y_ : List (S36),y_ = (x5_2 ++ [(⟨(rd_T36 l0 x6_2).f0,(rd_T36 l0 x6_2).f1,(rd_T36 l0 x6_2).f2,(rd_T36 l0 x6_2).f3⟩ : S36)]):=⟨_,rfl⟩
      replace H : (spec_l11Join.l1 k2 l0 l1 y131 (wrap64 (x6_2 + 1)) x7_1) = some r:=by first | (rw [hy131];with_reducible exact H) | (have H2_:=(Option.bind_some _ _).symm.trans H;rw [hy131];with_reducible exact H2_) | (have H2_:=(Option.bind_some _ _).symm.trans H;with_reducible exact H2_) | with_reducible exact H | (rw [hy131];exact H) | exact H
      have Ny131:=Aside0.mk hy131
      clear hy131
      have H':=Aside0.mk H
      clear H
      try go_wp2
      have n0_:=Aside0.mk (Kd.R_drew HO_5.out)
      have n1_:=Aside0.mk (below_drew1 HB.out)
      clear HO_5
      clear HB
      have HO_5:=n0_
      have HB:=n1_
      clear n0_ n1_
      have p127 : 0 ≤ (x6_2 : Int):=of_decide_eq_true (by first | (with_reducible assumption) | assumption)
      have q127 : x6_2 < (l0.length : Int):=of_decide_eq_true (by first | (with_reducible assumption) | assumption)
      obtain ⟨ad127,e127,hx127_0,hx127_1,hx127_2,hx127_3⟩:=at_T36 HR0.out x6_2 p127 q127
      have hw127_3:=hx127_3
      have hw127_2:=hx127_2
      have hw127_1:=hx127_1
      have hw127_0:=hx127_0
      cases e127
      replace hx127_0:=(HB.out.cell (World.block_lt_of_cell? w _ hx127_0)).trans hx127_0
      replace hx127_1:=(HB.out.cell (World.block_lt_of_cell? w _ hx127_1)).trans hx127_1
      replace hx127_2:=(HB.out.cell (World.block_lt_of_cell? w _ hx127_2)).trans hx127_2
      replace hx127_3:=(HB.out.cell (World.block_lt_of_cell? w _ hx127_3)).trans hx127_3
      replace p127:=eq_true p127
      replace q127:=eq_true q127
      have p128 : 0 ≤ (x7_1 : Int):=of_decide_eq_true (by first | (with_reducible assumption) | assumption)
      have q128 : x7_1 < (l1.length : Int):=of_decide_eq_true (by first | (with_reducible assumption) | assumption)
      obtain ⟨ad128,e128,hx128_0,hx128_1,hx128_2,hx128_3⟩:=at_T36 HR1.out x7_1 p128 q128
      have hw128_3:=hx128_3
      have hw128_2:=hx128_2
      have hw128_1:=hx128_1
      have hw128_0:=hx128_0
      cases e128
      replace hx128_0:=(HB.out.cell (World.block_lt_of_cell? w _ hx128_0)).trans hx128_0
      replace hx128_1:=(HB.out.cell (World.block_lt_of_cell? w _ hx128_1)).trans hx128_1
      replace hx128_2:=(HB.out.cell (World.block_lt_of_cell? w _ hx128_2)).trans hx128_2
      replace hx128_3:=(HB.out.cell (World.block_lt_of_cell? w _ hx128_3)).trans hx128_3
      replace p128:=eq_true p128
      replace q128:=eq_true q128
      refine start_ (n:=15) (S:=fun w' => w'.cell? (ad127.add ((x6_2).toNat * 4)) = some (.string ((rd_T36 l0 x6_2).f0)) ∧ w'.cell? ⟨(ad127.add ((x6_2).toNat * 4)).block,(ad127.add ((x6_2).toNat * 4)).off + 1,none⟩ = some (.int .i64 ((rd_T36 l0 x6_2).f1)) ∧ w'.cell? ⟨(ad127.add ((x6_2).toNat * 4)).block,(ad127.add ((x6_2).toNat * 4)).off + 2,none⟩ = some (.bool ((rd_T36 l0 x6_2).f2)) ∧ w'.cell? ⟨(ad127.add ((x6_2).toNat * 4)).block,(ad127.add ((x6_2).toNat * 4)).off + 3,none⟩ = some (.int .i64 ((rd_T36 l0 x6_2).f3)) ∧ w'.cell? (ad128.add ((x7_1).toNat * 4)) = some (.string ((rd_T36 l1 x7_1).f0)) ∧ w'.cell? ⟨(ad128.add ((x7_1).toNat * 4)).block,(ad128.add ((x7_1).toNat * 4)).off + 1,none⟩ = some (.int .i64 ((rd_T36 l1 x7_1).f1)) ∧ w'.cell? ⟨(ad128.add ((x7_1).toNat * 4)).block,(ad128.add ((x7_1).toNat * 4)).off + 2,none⟩ = some (.bool ((rd_T36 l1 x7_1).f2)) ∧ w'.cell? ⟨(ad128.add ((x7_1).toNat * 4)).block,(ad128.add ((x7_1).toNat * 4)).off + 3,none⟩ = some (.int .i64 ((rd_T36 l1 x7_1).f3))) (ds:=[]) #[false,false,false,false,false,false,false,false,false,false,false,false,false,false,false] (by kernel_rfl) rfl rfl ⟨((HB.out.cell (World.block_lt_of_cell? w _ hw127_0)).trans hw127_0),((HB.out.cell (World.block_lt_of_cell? w _ hw127_1)).trans hw127_1),((HB.out.cell (World.block_lt_of_cell? w _ hw127_2)).trans hw127_2),((HB.out.cell (World.block_lt_of_cell? w _ hw127_3)).trans hw127_3),((HB.out.cell (World.block_lt_of_cell? w _ hw128_0)).trans hw128_0),((HB.out.cell (World.block_lt_of_cell? w _ hw128_1)).trans hw128_1),((HB.out.cell (World.block_lt_of_cell? w _ hw128_2)).trans hw128_2),((HB.out.cell (World.block_lt_of_cell? w _ hw128_3)).trans hw128_3)⟩ (fun hHeld => ?_);refine with_tabW spec_l11Join.tab6 spec_l11Join.bits6 (fun HT_ HW_ => ?_)
      generalize wr.drew = w13 at HO_5 HB hx127_0 hx127_1 hx127_2 hx127_3 hx128_0 hx128_1 hx128_2 hx128_3 hHeld ⊢
      refine pure_ (i:=0) (N:=some 15) (v:=?_) (a':=?_) #[true,false,false,false,false,false,false,false,false,false,false,false,false,false,false] rfl rfl (any_of HT_.out (by kernel_rfl)) (fun _ _ _ h => h) (Or.inl ⟨by rfl,?_⟩) ?_ ?_
      rotate_left
      ·intro w'
       go_simp
       with_reducible rfl
      rotate_left
      ·simp only [Act.put,List.setIfInBounds_toArray,List.set_cons_zero,List.set_cons_succ,i64_w,i32_w]
       rfl
      refine pure_ (i:=1) (N:=some 16) (v:=?_) (a':=?_) #[true,true,false,false,false,false,false,false,false,false,false,false,false,false,false] rfl rfl (any_of HT_.out (by kernel_rfl)) (fun _ _ _ h => h) (Or.inl ⟨by rfl,?_⟩) ?_ ?_
      rotate_left
      ·intro w'
       go_simp
       with_reducible rfl
      rotate_left
      ·simp only [Act.put,List.setIfInBounds_toArray,List.set_cons_zero,List.set_cons_succ,i64_w,i32_w]
       rfl
      refine pure_ (i:=2) (N:=some 17) (v:=?_) (a':=?_) #[true,true,true,false,false,false,false,false,false,false,false,false,false,false,false] rfl rfl (any_of HT_.out (by kernel_rfl)) (fun _ _ _ h => h) (Or.inl ⟨by rfl,?_⟩) ?_ ?_
      rotate_left
      ·intro w'
       go_simp
       with_reducible rfl
      rotate_left
      ·simp only [Act.put,List.setIfInBounds_toArray,List.set_cons_zero,List.set_cons_succ,i64_w,i32_w]
       rfl
      refine pure_ (i:=3) (N:=some 18) (v:=?_) (a':=?_) #[true,true,true,true,false,false,false,false,false,false,false,false,false,false,false] rfl rfl (any_of HT_.out (by kernel_rfl)) (fun _ _ _ h => h) (Or.inl ⟨by rfl,?_⟩) ?_ ?_
      rotate_left
      ·intro w'
       go_simp
       with_reducible rfl
      rotate_left
      ·simp only [Act.put,List.setIfInBounds_toArray,List.set_cons_zero,List.set_cons_succ,i64_w,i32_w]
       rfl
      refine pure_ (i:=4) (N:=some 19) (v:=?_) (a':=?_) #[true,true,true,true,true,false,false,false,false,false,false,false,false,false,false] rfl rfl (any_of HT_.out (by kernel_rfl)) (fun _ _ _ h => h) (Or.inl ⟨by rfl,?_⟩) ?_ ?_
      rotate_left
      ·intro w'
       go_simp
       with_reducible rfl
      rotate_left
      ·simp only [Act.put,List.setIfInBounds_toArray,List.set_cons_zero,List.set_cons_succ,i64_w,i32_w]
       rfl
      refine pure_ (i:=5) (N:=some 20) (v:=?_) (a':=?_) #[true,true,true,true,true,true,false,false,false,false,false,false,false,false,false] rfl rfl (any_of HT_.out (by kernel_rfl)) (fun _ _ _ h => h) (Or.inl ⟨by rfl,?_⟩) ?_ ?_
      rotate_left
      ·intro w'
       go_simp
       with_reducible rfl
      rotate_left
      ·simp only [Act.put,List.setIfInBounds_toArray,List.set_cons_zero,List.set_cons_succ,i64_w,i32_w]
       rfl
      refine pure_ (i:=6) (N:=some 21) (v:=?_) (a':=?_) #[true,true,true,true,true,true,true,false,false,false,false,false,false,false,false] rfl rfl (any_of HT_.out (by kernel_rfl)) (fun _ _ _ h => h) (Or.inl ⟨by rfl,?_⟩) ?_ ?_
      rotate_left
      ·intro w'
       go_simp
       with_reducible rfl
      rotate_left
      ·simp only [Act.put,List.setIfInBounds_toArray,List.set_cons_zero,List.set_cons_succ,i64_w,i32_w]
       rfl
      refine pure_ (i:=7) (N:=some 22) (v:=?_) (a':=?_) #[true,true,true,true,true,true,true,true,false,false,false,false,false,false,false] rfl rfl (any_of HT_.out (by kernel_rfl)) (fun _ _ _ h => h) (Or.inl ⟨by rfl,?_⟩) ?_ ?_
      rotate_left
      ·intro w'
       go_simp
       with_reducible rfl
      rotate_left
      ·simp only [Act.put,List.setIfInBounds_toArray,List.set_cons_zero,List.set_cons_succ,i64_w,i32_w]
       rfl
      refine pure_ (i:=9) (N:=some 24) (v:=?_) (a':=?_) #[true,true,true,true,true,true,true,true,false,true,false,false,false,false,false] rfl rfl (any_of HT_.out (by kernel_rfl)) (fun _ _ _ h => h) (Or.inl ⟨by rfl,?_⟩) ?_ ?_
      rotate_left
      ·intro w'
       go_simp
       with_reducible rfl
      rotate_left
      ·simp only [Act.put,List.setIfInBounds_toArray,List.set_cons_zero,List.set_cons_succ,i64_w,i32_w]
       rfl
      refine pure_ (i:=10) (N:=some 25) (v:=?_) (a':=?_) #[true,true,true,true,true,true,true,true,false,true,true,false,false,false,false] rfl rfl (any_of HT_.out (by kernel_rfl)) (fun _ _ _ h => h) (Or.inl ⟨by rfl,?_⟩) ?_ ?_
      rotate_left
      ·intro w'
       go_simp
       with_reducible rfl
      rotate_left
      ·simp only [Act.put,List.setIfInBounds_toArray,List.set_cons_zero,List.set_cons_succ,i64_w,i32_w]
       rfl
      refine pure_ (i:=11) (N:=some 26) (v:=?_) (a':=?_) #[true,true,true,true,true,true,true,true,false,true,true,true,false,false,false] rfl rfl (any_of HT_.out (by kernel_rfl)) (fun _ _ _ h => h) (Or.inl ⟨by rfl,?_⟩) ?_ ?_
      rotate_left
      ·intro w'
       go_simp
       with_reducible rfl
      rotate_left
      ·simp only [Act.put,List.setIfInBounds_toArray,List.set_cons_zero,List.set_cons_succ,i64_w,i32_w]
       rfl
      refine take_ (i:=8) (N:=some 23) (v:=?_) (a':=?_) #[true,true,true,true,true,true,true,true,true,true,true,true,false,false,false] rfl rfl (take_ofW HT_.out HW_.out (by kernel_rfl)) (fun _ _ _ h => h) (Or.inl ⟨by rfl,?_⟩) hHeld ?_ ?_
      rotate_left
      ·rintro w' ⟨s0,s1,s2,s3,s4,s5,s6,s7⟩
       go_simp
       with_reducible rfl
      rotate_left
      ·simp only [Act.put,List.setIfInBounds_toArray,List.set_cons_zero,List.set_cons_succ,i64_w,i32_w]
       rfl
      refine take_ (i:=12) (N:=some 27) (v:=?_) (a':=?_) #[true,true,true,true,true,true,true,true,true,true,true,true,true,false,false] rfl rfl (take_ofW HT_.out HW_.out (by kernel_rfl)) (fun _ _ _ h => h) (Or.inl ⟨by rfl,?_⟩) hHeld ?_ ?_
      rotate_left
      ·rintro w' ⟨s0,s1,s2,s3,s4,s5,s6,s7⟩
       go_simp
       with_reducible rfl
      rotate_left
      ·simp only [Act.put,List.setIfInBounds_toArray,List.set_cons_zero,List.set_cons_succ,i64_w,i32_w]
       rfl
      refine one_ (i:=13) (N:=some 28) #[true,true,true,true,true,true,true,true,true,true,true,true,true,true,false] rfl rfl (one_of HT_.out (by kernel_rfl)) (by decide) (fun K hK => ?_)
      refine goes_ Try.func24 (by kernel_rfl) rfl #[.agg #[.string ((rd_T36 l0 x6_2).f0),.int .i64 ((rd_T36 l0 x6_2).f1),.bool ((rd_T36 l0 x6_2).f2),.int .i64 ((rd_T36 l0 x6_2).f3)],.agg #[.string ((rd_T36 l1 x7_1).f0),.int .i64 ((rd_T36 l1 x7_1).f1),.bool ((rd_T36 l1 x7_1).f2),.int .i64 ((rd_T36 l1 x7_1).f3)]] (by rfl) rfl rfl (by (try simp only [List.map_toArray,List.map_cons,List.map_nil]);first | done | rfl | (simp only [List.length_drop,List.length_take];rfl)) ?_
      with_reducible refine (spec_l11Ahead.calls ((rd_T36 l0 x6_2).f0) ((rd_T36 l0 x6_2).f1) ((rd_T36 l0 x6_2).f2) ((rd_T36 l0 x6_2).f3) ((rd_T36 l1 x7_1).f0) ((rd_T36 l1 x7_1).f1) ((rd_T36 l1 x7_1).f2) ((rd_T36 l1 x7_1).f3) true _ A10.out).mono ?_
      rintro e w14 ⟨rfl,hb⟩
      refine ⟨_,rfl,?_⟩
      have n0_:=Aside0.mk (Kd.R_below (by (with_reducible repeat (first | apply Kd.R_alloc | apply Kd.R_drewN | apply Kd.R_drew));exact HO_5.out) hb)
      have n1_:=Aside0.mk (below_step (by repeat (first | (with_reducible first | exact HB.out | apply below_alloc | apply pw_below_drewN | apply below_drew1) | exact HB.out)) hb)
      clear HO_5
      clear HB
      have HO_5:=n0_
      have HB:=n1_
      clear n0_ n1_
      (try clear hb)
      (try clear hb2)
      (try clear hk)
      (try clear hi)
      refine hK.out _ _ ⟨((HB.out.cell (World.block_lt_of_cell? w _ hw127_0)).trans hw127_0),((HB.out.cell (World.block_lt_of_cell? w _ hw127_1)).trans hw127_1),((HB.out.cell (World.block_lt_of_cell? w _ hw127_2)).trans hw127_2),((HB.out.cell (World.block_lt_of_cell? w _ hw127_3)).trans hw127_3),((HB.out.cell (World.block_lt_of_cell? w _ hw128_0)).trans hw128_0),((HB.out.cell (World.block_lt_of_cell? w _ hw128_1)).trans hw128_1),((HB.out.cell (World.block_lt_of_cell? w _ hw128_2)).trans hw128_2),((HB.out.cell (World.block_lt_of_cell? w _ hw128_3)).trans hw128_3)⟩ (fun hHeld => ?_)
      clear hK K
      refine norm_ (a':=?_) ?_ ?_
      rotate_left
      ·show Act.put _ (some 28) _ = _
       simp only [Act.put,List.setIfInBounds_toArray,List.set_cons_zero,List.set_cons_succ,i64_w,i32_w]
       rfl
      refine pure_ (i:=14) (N:=some 29) (v:=?_) (a':=?_) #[true,true,true,true,true,true,true,true,true,true,true,true,true,true,true] rfl rfl (any_of HT_.out (by kernel_rfl)) (fun _ _ _ h => h) (Or.inl ⟨by rfl,?_⟩) ?_ ?_
      rotate_left
      ·intro w'
       go_simp
       with_reducible rfl
      rotate_left
      ·simp only [Act.put,List.setIfInBounds_toArray,List.set_cons_zero,List.set_cons_succ,i64_w,i32_w]
       rfl
      refine done_ (done_of HT_.out (by kernel_rfl)) ?_
      have p130 : 0 ≤ (x6_2 : Int):=of_decide_eq_true (by first | (with_reducible assumption) | assumption)
      have q130 : x6_2 < (l0.length : Int):=of_decide_eq_true (by first | (with_reducible assumption) | assumption)
      obtain ⟨ad130,e130,hx130_0,hx130_1,hx130_2,hx130_3⟩:=at_T36 HR0.out x6_2 p130 q130
      obtain rfl : ad127 = ad130:=(by injection e130)
      replace hx130_0:=(HB.out.cell (World.block_lt_of_cell? w _ hx130_0)).trans hx130_0
      replace hx130_1:=(HB.out.cell (World.block_lt_of_cell? w _ hx130_1)).trans hx130_1
      replace hx130_2:=(HB.out.cell (World.block_lt_of_cell? w _ hx130_2)).trans hx130_2
      replace hx130_3:=(HB.out.cell (World.block_lt_of_cell? w _ hx130_3)).trans hx130_3
      replace p130:=eq_true p130
      replace q130:=eq_true q130
      try go_wp2_with (first | ((with_reducible refine gate_builtin (b:=.append) (xs:=#[.tmp 30,.tmp 35]) rfl ?_);at_builtin;refine Kd.R_append k36 (w0:=w) w.heap.size rfl (.tmp 30) (.tmp 35) 24 36 (.agg #[(.string ⟨#[]⟩),(.int .i64 0),(.bool false),(.int .i64 0)]) 40 rfl Try.underlying24 info36 rfl (by decide) (by omega) u5 x5_2 (⟨(rd_T36 l0 x6_2).f0,(rd_T36 l0 x6_2).f1,(rd_T36 l0 x6_2).f2,(rd_T36 l0 x6_2).f3⟩ : S36) [.string ((rd_T36 l0 x6_2).f0),.int .i64 ((rd_T36 l0 x6_2).f1),.bool ((rd_T36 l0 x6_2).f2),.int .i64 ((rd_T36 l0 x6_2).f3)] (fun _ => True) (fun _ => False) rfl rfl ?aP (fun _ hk => hk.elim) ?aF ?aO ?aB ?aS ?aL ?_;(case aP => exact k36_mkM _ _ _ (⟨(rd_T36 l0 x6_2).f0,(rd_T36 l0 x6_2).f1,(rd_T36 l0 x6_2).f2,(rd_T36 l0 x6_2).f3⟩ : S36));(case aB => exact (by repeat (first | (with_reducible first | exact HB.out | apply below_alloc | apply pw_below_drewN | apply below_drew1) | exact HB.out)));(case aF => exact (fun _ _ => trivial));(case aO => exact (by (with_reducible repeat (first | apply Kd.R_alloc | apply Kd.R_drewN | apply Kd.R_drew));exact HO_5.out));(case aS => exact (below_size (by repeat (first | (with_reducible first | exact HB.out | apply below_alloc | apply pw_below_drewN | apply below_drew1) | exact HB.out))));(case aL => have:=LMc12.out;omega);intro v132 w15 ho hb hg hat;rw [← Ny131.out] at ho;have n0_:=Aside0.mk (hb);have n1_:=Aside0.mk (ho);clear HB;clear HO_5;have HB:=n0_;have HO133:=n1_;clear n0_ n1_;clear ho hb hg hat))
      go_roundg k2
      case measure => have:=HK1.out;have:=HK2.out;omega
      case rel => exact ⟨(y131),(wrap64 (x6_2 + 1)),(by first | rfl | (simp;done) | (simp [*];done)),H',⟨by have:=HK1.out;have:=HK2.out;omega⟩,⟨by (with_reducible repeat (first | apply Kd.R_alloc | apply Kd.R_drewN | apply Kd.R_drew));exact HO133.out⟩,⟨by repeat (first | (with_reducible first | exact HB.out | apply below_alloc | apply pw_below_drewN | apply below_drew1) | exact HB.out)⟩⟩
     replace c11:=Bool.eq_false_iff.mpr c11
     subst c11
     have H1 : (if x5_2.length < 3518437208883 then (spec_l11Join.l0 k2 l0 l1 (x5_2 ++ [(⟨(rd_T36 l1 x7_1).f0,(rd_T36 l1 x7_1).f1,(rd_T36 l1 x7_1).f2,(rd_T36 l1 x7_1).f3⟩ : S36)]) x6_2 (wrap64 (x7_1 + 1))) else (none)) = some r:=by rw [if_neg (show ¬ (false = true) by decide)] at H;exact H
     clear H
     have H:=H1
     clear H1
     by_cases c16 : x5_2.length < 3518437208883
     rotate_left
     ·rw [if_neg c16] at H
      exact absurd H (by simp)
     rw [if_pos c16] at H
     have LMc16:=Aside0.mk c16
     clear c16
     obtain ⟨y135,hy135⟩ : ∃ y_ : List (S36),y_ = (x5_2 ++ [(⟨(rd_T36 l1 x7_1).f0,(rd_T36 l1 x7_1).f1,(rd_T36 l1 x7_1).f2,(rd_T36 l1 x7_1).f3⟩ : S36)]):=⟨_,rfl⟩
     replace H : (spec_l11Join.l0 k2 l0 l1 y135 x6_2 (wrap64 (x7_1 + 1))) = some r:=by first | (rw [hy135];with_reducible exact H) | (have H2_:=(Option.bind_some _ _).symm.trans H;rw [hy135];with_reducible exact H2_) | (have H2_:=(Option.bind_some _ _).symm.trans H;with_reducible exact H2_) | with_reducible exact H | (rw [hy135];exact H) | exact H
     have Ny135:=Aside0.mk hy135
     clear hy135
     have H':=Aside0.mk H
     clear H
     try go_wp2
     have n0_:=Aside0.mk (Kd.R_drew HO_5.out)
     have n1_:=Aside0.mk (below_drew1 HB.out)
     clear HO_5
     clear HB
     have HO_5:=n0_
     have HB:=n1_
     clear n0_ n1_
     have p127 : 0 ≤ (x6_2 : Int):=of_decide_eq_true (by first | (with_reducible assumption) | assumption)
     have q127 : x6_2 < (l0.length : Int):=of_decide_eq_true (by first | (with_reducible assumption) | assumption)
     obtain ⟨ad127,e127,hx127_0,hx127_1,hx127_2,hx127_3⟩:=at_T36 HR0.out x6_2 p127 q127
     have hw127_3:=hx127_3
     have hw127_2:=hx127_2
     have hw127_1:=hx127_1
     have hw127_0:=hx127_0
     cases e127
     replace hx127_0:=(HB.out.cell (World.block_lt_of_cell? w _ hx127_0)).trans hx127_0
     replace hx127_1:=(HB.out.cell (World.block_lt_of_cell? w _ hx127_1)).trans hx127_1
     replace hx127_2:=(HB.out.cell (World.block_lt_of_cell? w _ hx127_2)).trans hx127_2
     replace hx127_3:=(HB.out.cell (World.block_lt_of_cell? w _ hx127_3)).trans hx127_3
     replace p127:=eq_true p127
     replace q127:=eq_true q127
     have p128 : 0 ≤ (x7_1 : Int):=of_decide_eq_true (by first | (with_reducible assumption) | assumption)
     have q128 : x7_1 < (l1.length : Int):=of_decide_eq_true (by first | (with_reducible assumption) | assumption)
     obtain ⟨ad128,e128,hx128_0,hx128_1,hx128_2,hx128_3⟩:=at_T36 HR1.out x7_1 p128 q128
     have hw128_3:=hx128_3
     have hw128_2:=hx128_2
     have hw128_1:=hx128_1
     have hw128_0:=hx128_0
     cases e128
     replace hx128_0:=(HB.out.cell (World.block_lt_of_cell? w _ hx128_0)).trans hx128_0
     replace hx128_1:=(HB.out.cell (World.block_lt_of_cell? w _ hx128_1)).trans hx128_1
     replace hx128_2:=(HB.out.cell (World.block_lt_of_cell? w _ hx128_2)).trans hx128_2
     replace hx128_3:=(HB.out.cell (World.block_lt_of_cell? w _ hx128_3)).trans hx128_3
     replace p128:=eq_true p128
     replace q128:=eq_true q128
     refine start_ (n:=15) (S:=fun w' => w'.cell? (ad127.add ((x6_2).toNat * 4)) = some (.string ((rd_T36 l0 x6_2).f0)) ∧ w'.cell? ⟨(ad127.add ((x6_2).toNat * 4)).block,(ad127.add ((x6_2).toNat * 4)).off + 1,none⟩ = some (.int .i64 ((rd_T36 l0 x6_2).f1)) ∧ w'.cell? ⟨(ad127.add ((x6_2).toNat * 4)).block,(ad127.add ((x6_2).toNat * 4)).off + 2,none⟩ = some (.bool ((rd_T36 l0 x6_2).f2)) ∧ w'.cell? ⟨(ad127.add ((x6_2).toNat * 4)).block,(ad127.add ((x6_2).toNat * 4)).off + 3,none⟩ = some (.int .i64 ((rd_T36 l0 x6_2).f3)) ∧ w'.cell? (ad128.add ((x7_1).toNat * 4)) = some (.string ((rd_T36 l1 x7_1).f0)) ∧ w'.cell? ⟨(ad128.add ((x7_1).toNat * 4)).block,(ad128.add ((x7_1).toNat * 4)).off + 1,none⟩ = some (.int .i64 ((rd_T36 l1 x7_1).f1)) ∧ w'.cell? ⟨(ad128.add ((x7_1).toNat * 4)).block,(ad128.add ((x7_1).toNat * 4)).off + 2,none⟩ = some (.bool ((rd_T36 l1 x7_1).f2)) ∧ w'.cell? ⟨(ad128.add ((x7_1).toNat * 4)).block,(ad128.add ((x7_1).toNat * 4)).off + 3,none⟩ = some (.int .i64 ((rd_T36 l1 x7_1).f3))) (ds:=[]) #[false,false,false,false,false,false,false,false,false,false,false,false,false,false,false] (by kernel_rfl) rfl rfl ⟨((HB.out.cell (World.block_lt_of_cell? w _ hw127_0)).trans hw127_0),((HB.out.cell (World.block_lt_of_cell? w _ hw127_1)).trans hw127_1),((HB.out.cell (World.block_lt_of_cell? w _ hw127_2)).trans hw127_2),((HB.out.cell (World.block_lt_of_cell? w _ hw127_3)).trans hw127_3),((HB.out.cell (World.block_lt_of_cell? w _ hw128_0)).trans hw128_0),((HB.out.cell (World.block_lt_of_cell? w _ hw128_1)).trans hw128_1),((HB.out.cell (World.block_lt_of_cell? w _ hw128_2)).trans hw128_2),((HB.out.cell (World.block_lt_of_cell? w _ hw128_3)).trans hw128_3)⟩ (fun hHeld => ?_);refine with_tabW spec_l11Join.tab6 spec_l11Join.bits6 (fun HT_ HW_ => ?_)
     generalize wr.drew = w17 at HO_5 HB hx127_0 hx127_1 hx127_2 hx127_3 hx128_0 hx128_1 hx128_2 hx128_3 hHeld ⊢
     refine pure_ (i:=0) (N:=some 15) (v:=?_) (a':=?_) #[true,false,false,false,false,false,false,false,false,false,false,false,false,false,false] rfl rfl (any_of HT_.out (by kernel_rfl)) (fun _ _ _ h => h) (Or.inl ⟨by rfl,?_⟩) ?_ ?_
     rotate_left
     ·intro w'
      go_simp
      with_reducible rfl
     rotate_left
     ·simp only [Act.put,List.setIfInBounds_toArray,List.set_cons_zero,List.set_cons_succ,i64_w,i32_w]
      rfl
     refine pure_ (i:=1) (N:=some 16) (v:=?_) (a':=?_) #[true,true,false,false,false,false,false,false,false,false,false,false,false,false,false] rfl rfl (any_of HT_.out (by kernel_rfl)) (fun _ _ _ h => h) (Or.inl ⟨by rfl,?_⟩) ?_ ?_
     rotate_left
     ·intro w'
      go_simp
      with_reducible rfl
     rotate_left
     ·simp only [Act.put,List.setIfInBounds_toArray,List.set_cons_zero,List.set_cons_succ,i64_w,i32_w]
      rfl
     refine pure_ (i:=2) (N:=some 17) (v:=?_) (a':=?_) #[true,true,true,false,false,false,false,false,false,false,false,false,false,false,false] rfl rfl (any_of HT_.out (by kernel_rfl)) (fun _ _ _ h => h) (Or.inl ⟨by rfl,?_⟩) ?_ ?_
     rotate_left
     ·intro w'
      go_simp
      with_reducible rfl
     rotate_left
     ·simp only [Act.put,List.setIfInBounds_toArray,List.set_cons_zero,List.set_cons_succ,i64_w,i32_w]
      rfl
     refine pure_ (i:=3) (N:=some 18) (v:=?_) (a':=?_) #[true,true,true,true,false,false,false,false,false,false,false,false,false,false,false] rfl rfl (any_of HT_.out (by kernel_rfl)) (fun _ _ _ h => h) (Or.inl ⟨by rfl,?_⟩) ?_ ?_
     rotate_left
     ·intro w'
      go_simp
      with_reducible rfl
     rotate_left
     ·simp only [Act.put,List.setIfInBounds_toArray,List.set_cons_zero,List.set_cons_succ,i64_w,i32_w]
      rfl
     refine pure_ (i:=4) (N:=some 19) (v:=?_) (a':=?_) #[true,true,true,true,true,false,false,false,false,false,false,false,false,false,false] rfl rfl (any_of HT_.out (by kernel_rfl)) (fun _ _ _ h => h) (Or.inl ⟨by rfl,?_⟩) ?_ ?_
     rotate_left
     ·intro w'
      go_simp
      with_reducible rfl
     rotate_left
     ·simp only [Act.put,List.setIfInBounds_toArray,List.set_cons_zero,List.set_cons_succ,i64_w,i32_w]
      rfl
     refine pure_ (i:=5) (N:=some 20) (v:=?_) (a':=?_) #[true,true,true,true,true,true,false,false,false,false,false,false,false,false,false] rfl rfl (any_of HT_.out (by kernel_rfl)) (fun _ _ _ h => h) (Or.inl ⟨by rfl,?_⟩) ?_ ?_
     rotate_left
     ·intro w'
      go_simp
      with_reducible rfl
     rotate_left
     ·simp only [Act.put,List.setIfInBounds_toArray,List.set_cons_zero,List.set_cons_succ,i64_w,i32_w]
      rfl
     refine pure_ (i:=6) (N:=some 21) (v:=?_) (a':=?_) #[true,true,true,true,true,true,true,false,false,false,false,false,false,false,false] rfl rfl (any_of HT_.out (by kernel_rfl)) (fun _ _ _ h => h) (Or.inl ⟨by rfl,?_⟩) ?_ ?_
     rotate_left
     ·intro w'
      go_simp
      with_reducible rfl
     rotate_left
     ·simp only [Act.put,List.setIfInBounds_toArray,List.set_cons_zero,List.set_cons_succ,i64_w,i32_w]
      rfl
     refine pure_ (i:=7) (N:=some 22) (v:=?_) (a':=?_) #[true,true,true,true,true,true,true,true,false,false,false,false,false,false,false] rfl rfl (any_of HT_.out (by kernel_rfl)) (fun _ _ _ h => h) (Or.inl ⟨by rfl,?_⟩) ?_ ?_
     rotate_left
     ·intro w'
      go_simp
      with_reducible rfl
     rotate_left
     ·simp only [Act.put,List.setIfInBounds_toArray,List.set_cons_zero,List.set_cons_succ,i64_w,i32_w]
      rfl
     refine pure_ (i:=9) (N:=some 24) (v:=?_) (a':=?_) #[true,true,true,true,true,true,true,true,false,true,false,false,false,false,false] rfl rfl (any_of HT_.out (by kernel_rfl)) (fun _ _ _ h => h) (Or.inl ⟨by rfl,?_⟩) ?_ ?_
     rotate_left
     ·intro w'
      go_simp
      with_reducible rfl
     rotate_left
     ·simp only [Act.put,List.setIfInBounds_toArray,List.set_cons_zero,List.set_cons_succ,i64_w,i32_w]
      rfl
     refine pure_ (i:=10) (N:=some 25) (v:=?_) (a':=?_) #[true,true,true,true,true,true,true,true,false,true,true,false,false,false,false] rfl rfl (any_of HT_.out (by kernel_rfl)) (fun _ _ _ h => h) (Or.inl ⟨by rfl,?_⟩) ?_ ?_
     rotate_left
     ·intro w'
      go_simp
      with_reducible rfl
     rotate_left
     ·simp only [Act.put,List.setIfInBounds_toArray,List.set_cons_zero,List.set_cons_succ,i64_w,i32_w]
      rfl
     refine pure_ (i:=11) (N:=some 26) (v:=?_) (a':=?_) #[true,true,true,true,true,true,true,true,false,true,true,true,false,false,false] rfl rfl (any_of HT_.out (by kernel_rfl)) (fun _ _ _ h => h) (Or.inl ⟨by rfl,?_⟩) ?_ ?_
     rotate_left
     ·intro w'
      go_simp
      with_reducible rfl
     rotate_left
     ·simp only [Act.put,List.setIfInBounds_toArray,List.set_cons_zero,List.set_cons_succ,i64_w,i32_w]
      rfl
     refine take_ (i:=8) (N:=some 23) (v:=?_) (a':=?_) #[true,true,true,true,true,true,true,true,true,true,true,true,false,false,false] rfl rfl (take_ofW HT_.out HW_.out (by kernel_rfl)) (fun _ _ _ h => h) (Or.inl ⟨by rfl,?_⟩) hHeld ?_ ?_
     rotate_left
     ·rintro w' ⟨s0,s1,s2,s3,s4,s5,s6,s7⟩
      go_simp
      with_reducible rfl
     rotate_left
     ·simp only [Act.put,List.setIfInBounds_toArray,List.set_cons_zero,List.set_cons_succ,i64_w,i32_w]
      rfl
     refine take_ (i:=12) (N:=some 27) (v:=?_) (a':=?_) #[true,true,true,true,true,true,true,true,true,true,true,true,true,false,false] rfl rfl (take_ofW HT_.out HW_.out (by kernel_rfl)) (fun _ _ _ h => h) (Or.inl ⟨by rfl,?_⟩) hHeld ?_ ?_
     rotate_left
     ·rintro w' ⟨s0,s1,s2,s3,s4,s5,s6,s7⟩
      go_simp
      with_reducible rfl
     rotate_left
     ·simp only [Act.put,List.setIfInBounds_toArray,List.set_cons_zero,List.set_cons_succ,i64_w,i32_w]
      rfl
     refine one_ (i:=13) (N:=some 28) #[true,true,true,true,true,true,true,true,true,true,true,true,true,true,false] rfl rfl (one_of HT_.out (by kernel_rfl)) (by decide) (fun K hK => ?_)
     refine goes_ Try.func24 (by kernel_rfl) rfl #[.agg #[.string ((rd_T36 l0 x6_2).f0),.int .i64 ((rd_T36 l0 x6_2).f1),.bool ((rd_T36 l0 x6_2).f2),.int .i64 ((rd_T36 l0 x6_2).f3)],.agg #[.string ((rd_T36 l1 x7_1).f0),.int .i64 ((rd_T36 l1 x7_1).f1),.bool ((rd_T36 l1 x7_1).f2),.int .i64 ((rd_T36 l1 x7_1).f3)]] (by rfl) rfl rfl (by (try simp only [List.map_toArray,List.map_cons,List.map_nil]);first | done | rfl | (simp only [List.length_drop,List.length_take];rfl)) ?_
     with_reducible refine (spec_l11Ahead.calls ((rd_T36 l0 x6_2).f0) ((rd_T36 l0 x6_2).f1) ((rd_T36 l0 x6_2).f2) ((rd_T36 l0 x6_2).f3) ((rd_T36 l1 x7_1).f0) ((rd_T36 l1 x7_1).f1) ((rd_T36 l1 x7_1).f2) ((rd_T36 l1 x7_1).f3) false _ A10.out).mono ?_
     rintro e w18 ⟨rfl,hb⟩
     refine ⟨_,rfl,?_⟩
     have n0_:=Aside0.mk (Kd.R_below (by (with_reducible repeat (first | apply Kd.R_alloc | apply Kd.R_drewN | apply Kd.R_drew));exact HO_5.out) hb)
     have n1_:=Aside0.mk (below_step (by repeat (first | (with_reducible first | exact HB.out | apply below_alloc | apply pw_below_drewN | apply below_drew1) | exact HB.out)) hb)
     clear HO_5
     clear HB
     have HO_5:=n0_
     have HB:=n1_
     clear n0_ n1_
     (try clear hb)
     (try clear hb2)
     (try clear hk)
     (try clear hi)
     refine hK.out _ _ ⟨((HB.out.cell (World.block_lt_of_cell? w _ hw127_0)).trans hw127_0),((HB.out.cell (World.block_lt_of_cell? w _ hw127_1)).trans hw127_1),((HB.out.cell (World.block_lt_of_cell? w _ hw127_2)).trans hw127_2),((HB.out.cell (World.block_lt_of_cell? w _ hw127_3)).trans hw127_3),((HB.out.cell (World.block_lt_of_cell? w _ hw128_0)).trans hw128_0),((HB.out.cell (World.block_lt_of_cell? w _ hw128_1)).trans hw128_1),((HB.out.cell (World.block_lt_of_cell? w _ hw128_2)).trans hw128_2),((HB.out.cell (World.block_lt_of_cell? w _ hw128_3)).trans hw128_3)⟩ (fun hHeld => ?_)
     clear hK K
     refine norm_ (a':=?_) ?_ ?_
     rotate_left
     ·show Act.put _ (some 28) _ = _
      simp only [Act.put,List.setIfInBounds_toArray,List.set_cons_zero,List.set_cons_succ,i64_w,i32_w]
      rfl
     refine pure_ (i:=14) (N:=some 29) (v:=?_) (a':=?_) #[true,true,true,true,true,true,true,true,true,true,true,true,true,true,true] rfl rfl (any_of HT_.out (by kernel_rfl)) (fun _ _ _ h => h) (Or.inl ⟨by rfl,?_⟩) ?_ ?_
     rotate_left
     ·intro w'
      go_simp
      with_reducible rfl
     rotate_left
     ·simp only [Act.put,List.setIfInBounds_toArray,List.set_cons_zero,List.set_cons_succ,i64_w,i32_w]
      rfl
     refine done_ (done_of HT_.out (by kernel_rfl)) ?_
     have p134 : 0 ≤ (x7_1 : Int):=of_decide_eq_true (by first | (with_reducible assumption) | assumption)
     have q134 : x7_1 < (l1.length : Int):=of_decide_eq_true (by first | (with_reducible assumption) | assumption)
     obtain ⟨ad134,e134,hx134_0,hx134_1,hx134_2,hx134_3⟩:=at_T36 HR1.out x7_1 p134 q134
     obtain rfl : ad128 = ad134:=(by injection e134)
     replace hx134_0:=(HB.out.cell (World.block_lt_of_cell? w _ hx134_0)).trans hx134_0
     replace hx134_1:=(HB.out.cell (World.block_lt_of_cell? w _ hx134_1)).trans hx134_1
     replace hx134_2:=(HB.out.cell (World.block_lt_of_cell? w _ hx134_2)).trans hx134_2
     replace hx134_3:=(HB.out.cell (World.block_lt_of_cell? w _ hx134_3)).trans hx134_3
     replace p134:=eq_true p134
     replace q134:=eq_true q134
     try go_wp2_with (first | ((with_reducible refine gate_builtin (b:=.append) (xs:=#[.tmp 39,.tmp 44]) rfl ?_);at_builtin;refine Kd.R_append k36 (w0:=w) w.heap.size rfl (.tmp 39) (.tmp 44) 24 36 (.agg #[(.string ⟨#[]⟩),(.int .i64 0),(.bool false),(.int .i64 0)]) 40 rfl Try.underlying24 info36 rfl (by decide) (by omega) u5 x5_2 (⟨(rd_T36 l1 x7_1).f0,(rd_T36 l1 x7_1).f1,(rd_T36 l1 x7_1).f2,(rd_T36 l1 x7_1).f3⟩ : S36) [.string ((rd_T36 l1 x7_1).f0),.int .i64 ((rd_T36 l1 x7_1).f1),.bool ((rd_T36 l1 x7_1).f2),.int .i64 ((rd_T36 l1 x7_1).f3)] (fun _ => True) (fun _ => False) rfl rfl ?aP (fun _ hk => hk.elim) ?aF ?aO ?aB ?aS ?aL ?_;(case aP => exact k36_mkM _ _ _ (⟨(rd_T36 l1 x7_1).f0,(rd_T36 l1 x7_1).f1,(rd_T36 l1 x7_1).f2,(rd_T36 l1 x7_1).f3⟩ : S36));(case aB => exact (by repeat (first | (with_reducible first | exact HB.out | apply below_alloc | apply pw_below_drewN | apply below_drew1) | exact HB.out)));(case aF => exact (fun _ _ => trivial));(case aO => exact (by (with_reducible repeat (first | apply Kd.R_alloc | apply Kd.R_drewN | apply Kd.R_drew));exact HO_5.out));(case aS => exact (below_size (by repeat (first | (with_reducible first | exact HB.out | apply below_alloc | apply pw_below_drewN | apply below_drew1) | exact HB.out))));(case aL => have:=LMc16.out;omega);intro v136 w19 ho hb hg hat;rw [← Ny135.out] at ho;have n0_:=Aside0.mk (hb);have n1_:=Aside0.mk (ho);clear HB;clear HO_5;have HB:=n0_;have HO137:=n1_;clear n0_ n1_;clear ho hb hg hat))
     go_roundg k2
     case measure => have:=HK1.out;have:=HK2.out;omega
     case rel => exact ⟨(y135),(x6_2),(wrap64 (x7_1 + 1)),(by first | rfl | (simp;done) | (simp [*];done)),(by first | rfl | (simp;done) | (simp [*];done)),H',⟨by have:=HK1.out;have:=HK2.out;omega⟩,⟨by (with_reducible repeat (first | apply Kd.R_alloc | apply Kd.R_drewN | apply Kd.R_drew));exact HO137.out⟩,⟨by repeat (first | (with_reducible first | exact HB.out | apply below_alloc | apply pw_below_drewN | apply below_drew1) | exact HB.out)⟩⟩
end Go.Proofs.Ytmbfoookfcfmeaa.PFnExactRunJoin
