/-
 Functions that FnRunTrimTop reaches,each as a Lean function,and that Go comes to its answer: printed by the kit's printer,impl.seen's part laid by hand. Conditions: those that stand in each statement.
-/
import Derived.Test.YtkifijclehgiaaaPFnRunTrimTopx0
import Derived.Test.YtkifijclehgiaaaPFnRunTrimTopx4
import Derived.Test.YtkifijclehgiaaaPu
namespace Go.Proofs.Ytkifijclehgiaaa.PFnRunTrimTop
open Go.RowKit Go.Proofs.YtkifijclehgiaaaW.PrintWords Go.Proofs.YtkifijclehgiaaaW.PrintLast Go.Proofs.YtkifijclehgiaaaW.PrintMore
attribute [local go_sem] max2_int min2_int max_two min_two max_three min_three max_four min_four   -- for this text's walks alone
set_option linter.unusedVariables false
set_option linter.unusedSimpArgs false

theorem T8q1 {p : Prop} (h : p := by first | (with_reducible assumption) | assumption) : p := h
theorem T8q2 {p : Prop} (h : p := by (with_reducible repeat (first | apply Kd.R_alloc | apply Kd.R_drewN | apply Kd.R_drew));exact HO_5.out) : p := h
theorem T8q3 {p : Prop} (h : p := by kernel_rfl) : p := h
theorem T8q4 {p : Prop} (h : p := by (try simp only [List.map_toArray,List.map_cons,List.map_nil]);first | done | rfl | (simp only [List.length_drop,List.length_take];rfl)) : p := h
/-! ### spec_l11Join: function 56 -/
mutual
def spec_l11Join.l0 : Nat → List (S27) → List (S27) → List (S27) → Int → Int → Option ((List (S27)))
 | 0,_,_,_,_,_ => none
 | k + 1,x0,x1,x5,x6,x7 => if x7 < (x1.length : Int) then (spec_l11Join.l1 k x0 x1 x5 x6 x7) else (if 0 ≤ x6 then (if x6 ≤ (x0.length : Int) then ((some (x0.drop (x6 : Int).toNat : List (S27))).bind fun y186 => (if x5.length + y186.length < 3518437208883 then (some (x5 ++ y186)) else (none))) else (none)) else (none))
def spec_l11Join.l1 : Nat → List (S27) → List (S27) → List (S27) → Int → Int → Option ((List (S27)))
 | 0,_,_,_,_,_ => none
 | k + 1,x0,x1,x5,x6,x7 => if x6 < (x0.length : Int) then (if 0 ≤ x6 then (if 0 ≤ x7 then (if x7 < (x1.length : Int) then ((spec_l11Ahead.f ((rd_T27 x0 x6).f0) ((rd_T27 x0 x6).f1) ((rd_T27 x0 x6).f2) ((rd_T27 x0 x6).f3) ((rd_T27 x1 x7).f0) ((rd_T27 x1 x7).f1) ((rd_T27 x1 x7).f2) ((rd_T27 x1 x7).f3)).bind fun t195 => (if t195 = true then (if x5.length < 3518437208883 then (spec_l11Join.l1 k x0 x1 (x5 ++ [(⟨(rd_T27 x0 x6).f0,(rd_T27 x0 x6).f1,(rd_T27 x0 x6).f2,(rd_T27 x0 x6).f3⟩ : S27)]) (wrap64 (x6 + 1)) x7) else (none)) else (if x5.length < 3518437208883 then (spec_l11Join.l0 k x0 x1 (x5 ++ [(⟨(rd_T27 x1 x7).f0,(rd_T27 x1 x7).f1,(rd_T27 x1 x7).f2,(rd_T27 x1 x7).f3⟩ : S27)]) x6 (wrap64 (x7 + 1))) else (none)))) else (none)) else (none)) else (none)) else (if 0 ≤ x7 then (if x7 < (x1.length : Int) then (if x5.length < 3518437208883 then (spec_l11Join.l0 k x0 x1 (x5 ++ [(⟨(rd_T27 x1 x7).f0,(rd_T27 x1 x7).f1,(rd_T27 x1 x7).f2,(rd_T27 x1 x7).f3⟩ : S27)]) x6 (wrap64 (x7 + 1))) else (none)) else (none)) else (none))
end
def spec_l11Join.f (k : Nat) (l0 : List (S27)) (l1 : List (S27)) : Option ((List (S27))):=spec_l11Join.l0 k l0 l1 (([] : List (S27))) 0 0
def spec_l11Join.T6 : Bool × List (List Nat × List Nat):=(true,[([],[]),([],[]),([1],[1]),([0,2],[0,2]),([3],[3]),([4],[4]),([4],[4]),([5,6,4],[4,5,6]),([7,4],[4,7]),([4],[4]),([4],[4]),([9,10,4],[4,9,10]),([11,4],[4,11]),([8,12,4,4],[4,8,12]),([4,13],[4,13])])
def spec_l11Join.B6 : List Nat:=[0,0,2,7,15,31,31,127,255,31,31,1567,3615,8191,16383]
theorem spec_l11Join.tab6 : rtab .any (opsOf Try.f56 6) = spec_l11Join.T6:=by kernel_rfl
theorem spec_l11Join.bits6 : waitsOk spec_l11Join.T6.2 spec_l11Join.B6 = true:=by kernel_rfl
set_option maxHeartbeats 8000000 in
set_option maxRecDepth 100000 in
theorem spec_l11Join.calls (k : Nat) (A0 : Option Addr) (c0 : Nat) (l0 : List (S27)) (A1 : Option Addr) (c1 : Nat) (l1 : List (S27)) (r : List (S27)) (w : World) (hr0 : Kd.C k27 w A0 l0.length l0) (hc0 : l0.length ≤ c0) (hr1 : Kd.C k27 w A1 l1.length l1) (hc1 : l1.length ≤ c1) (h : spec_l11Join.f k l0 l1 = some r) :
  Calls Try.prog 56 #[.slice A0 l0.length c0,.slice A1 l1.length c1] w fun e w' => ∃ v0_ : Value,e = .returned (v0_) ∧ Kd.R k27 27 w' w.heap.size (fun _ => True) v0_ r ∧ Below w.heap.size w w':=by
 have hu27:=Try.underlying27
 have HR0:=Aside0.mk hr0
 have HC0:=Aside0.mk hc0
 clear hr0 hc0
 have HR1:=Aside0.mk hr1
 have HC1:=Aside0.mk hc1
 clear hr1 hc1
 have HB:=Aside0.mk (Below.refl w.heap.size w)
 have H : (spec_l11Join.l0 k l0 l1 (([] : List (S27))) 0 0) = some r:=h
 clear h
 obtain ⟨y183,hy183⟩ : ∃ y_ : List (S27),y_ = (([] : List (S27))):=⟨_,rfl⟩
 replace H : (spec_l11Join.l0 k l0 l1 y183 0 0) = some r:=by first | (rw [hy183];with_reducible exact H) | (have H2_:=(Option.bind_some _ _).symm.trans H;rw [hy183];with_reducible exact H2_) | (have H2_:=(Option.bind_some _ _).symm.trans H;with_reducible exact H2_) | with_reducible exact H | (rw [hy183];exact H) | exact H
 have Ny183:=Aside0.mk hy183
 clear hy183
 have H':=Aside0.mk H
 clear H
 go_enter Try.func56,Try.ntmps56
 go_wp2_with (first | ((with_reducible refine gate_dst (N:=8) rfl ?_);refine Kd.R_lit k27 _ 27 ?hg (N:=8) ?hd (xs:=([] : List (S27))) (inner:=[]) (ok:=fun _ => True) (okp:=fun _ => True) ?hr ?hp (fun _ hk => hk) trivial (Below.refl _ _) (Nat.le_refl _) (by simp) ?_;(case hd => rfl);(case hg => rfl);(case hr => first | (go_simp;done) | (go_simp;rfl));(case hp => exact (Reps.none _ _));intro v184 w3 ho4 hb hg_ hnew_;clear hg_ hnew_;(first | rw [← Ny183.out] at ho4 | (simp only [Int.reduceToNat] at ho4;rw [← Ny183.out] at ho4));have n0_:=Aside0.mk (Kd.R_lower ho4 (below_size (by repeat (first | (with_reducible first | exact HB.out | apply below_alloc | apply pw_below_drewN | apply below_drew1) | exact HB.out))));have n1_:=Aside0.mk (below_step (by repeat (first | (with_reducible first | exact HB.out | apply below_alloc | apply pw_below_drewN | apply below_drew1) | exact HB.out)) hb);clear HB;have HO185:=n0_;have HB:=n1_;clear n0_ n1_;clear hb ho4))
 go_loopg [5,6,7] k (fun kq v5 v6 v7 w' => ∃ (x5_1 : List (S27)) (x6_1 : Int) (x7_1 : Int),v6 = .int .i64 x6_1 ∧ v7 = .int .i64 x7_1 ∧ Aside0 (spec_l11Join.l0 kq l0 l1 x5_1 x6_1 x7_1 = some r) ∧ Aside0 (kq ≤ k) ∧ Aside0 (Kd.R k27 27 w' w.heap.size (fun _ => True) v5 x5_1) ∧ Aside0 (Below w.heap.size w w'))
 case atStart => exact ⟨(y183),(0),(0),(by first | rfl | (simp;done) | (simp [*];done)),(by first | rfl | (simp;done) | (simp [*];done)),H',⟨Nat.le_refl _⟩,⟨by (with_reducible repeat (first | apply Kd.R_alloc | apply Kd.R_drewN | apply Kd.R_drew));exact HO185.out⟩,⟨by repeat (first | (with_reducible first | exact HB.out | apply below_alloc | apply pw_below_drewN | apply below_drew1) | exact HB.out)⟩⟩
 case round =>
  clear H'
  try clear c1
  try clear p2
  obtain ⟨x5_1,x6_1,x7_1,rfl,rfl,HA,HK1,HO_5,HB⟩:=hrel
  cases gk with
  | zero => exact absurd HA.out (by simp [spec_l11Join.l0])
  | succ k1 =>
   have H:=HA.out
   clear HA
   simp only [spec_l11Join.l0] at H
   by_cases c5 : x7_1 < (l1.length : Int)
   rotate_left
   ·rw [if_neg c5] at H
    have c5b0 : decide (x7_1 < (l1.length : Int)) = false:=decide_eq_false c5
    clear c5
    by_cases c25 : 0 ≤ x6_1
    rotate_left
    ·rw [if_neg c25] at H
     exact absurd H (by simp)
    rw [if_pos c25] at H
    have c25b0:=eq_true c25
    have c25b1 : decide (0 ≤ x6_1) = true:=decide_eq_true c25
    clear c25
    by_cases c26 : x6_1 ≤ (l0.length : Int)
    rotate_left
    ·rw [if_neg c26] at H
     exact absurd H (by simp)
    rw [if_pos c26] at H
    have c26b0:=eq_true c26
    have c26b1 : decide (x6_1 ≤ (l0.length : Int)) = true:=decide_eq_true c26
    clear c26
    obtain ⟨y186,hy186⟩ : ∃ y_ : List (S27),y_ = (l0.drop (x6_1 : Int).toNat):=⟨_,rfl⟩
    replace H : (if x5_1.length + y186.length < 3518437208883 then (some (x5_1 ++ y186)) else (none)) = some r:=by first | (rw [hy186];with_reducible exact H) | (have H2_:=(Option.bind_some _ _).symm.trans H;rw [hy186];with_reducible exact H2_) | (have H2_:=(Option.bind_some _ _).symm.trans H;with_reducible exact H2_) | with_reducible exact H | (rw [hy186];exact H) | exact H
    have Ny186:=Aside0.mk hy186
    clear hy186
    by_cases c27 : x5_1.length + y186.length < 3518437208883
    rotate_left
    ·rw [if_neg c27] at H
     exact absurd H (by simp)
    rw [if_pos c27] at H
    have LMc27:=Aside0.mk c27
    clear c27
    obtain ⟨y190,hy190⟩ : ∃ y_ : List (S27),y_ = (x5_1 ++ y186):=⟨_,rfl⟩
    replace H : (some y190) = some r:=by first | (rw [hy190];with_reducible exact H) | (have H2_:=(Option.bind_some _ _).symm.trans H;rw [hy190];with_reducible exact H2_) | (have H2_:=(Option.bind_some _ _).symm.trans H;with_reducible exact H2_) | with_reducible exact H | (rw [hy190];exact H) | exact H
    have Ny190:=Aside0.mk hy190
    clear hy190
    obtain rfl:=Option.some.inj H
    have q28 : (x6_1 : Int) ≤ ((l0.length : Int) : Int):=of_decide_eq_true T8q1
    obtain ⟨i028,hi028,_,hsz28,_⟩:=info_parts info27
    have hroom28 : l0.length ≤ c0:=HC0.out
    have hC28 : Kd.C k27 _ A0 l0.length l0:=HR0.out
    have q028 : (0 : Int) ≤ (x6_1 : Int):=of_decide_eq_true T8q1
    have hcut28:=cut_from (P:=Try.prog) 23 27 .i64 Try.underlying23 hi028 4 hsz28 A0 l0.length c0 x6_1 q028 q28
    have hr28:=Kd.C_drop (m:=(x6_1 : Int).toNat) (c:=c0) hC28 (by omega) hroom28
    obtain ⟨A28,hA28⟩ : ∃ A1,A1 = (if c0 = (x6_1 : Int).toNat then A0 else (A0 : Option Addr).map (·.add ((x6_1 : Int).toNat * 4))):=⟨_,rfl⟩
    obtain ⟨c28,hc28⟩ : ∃ c1,c1 = c0 - (x6_1 : Int).toNat:=⟨_,rfl⟩
    have hy28 : y186.length = l0.length - (x6_1 : Int).toNat:=(by rw [Ny186.out,List.length_drop] <;> omega)
    rw [show (l0).drop (x6_1 : Int).toNat = y186 from Ny186.out.symm] at hr28
    replace hr28 : Kd.C k27 _ A28 y186.length y186:=(by rw [hA28];exact hr28)
    rw [← hy28,← hA28,← hc28] at hcut28
    have HR189:=Aside0.mk hr28
    have HC189:=Aside0.mk (show y186.length ≤ c28 from by rw [hy28,hc28];exact Nat.sub_le_sub_right hroom28 _)
    clear hr28 hC28 hroom28 hi028 hsz28 hc28
    have KY28:=Aside0.mk hy28
    have KA28:=Aside0.mk hA28
    clear hy28 hA28
    replace q28:=eq_true q28
    go_wp2_with (first | ((with_reducible refine gate_builtin (b:=.append) (xs:=#[.tmp 46,.tmp 49]) rfl ?_);at_builtin;refine Kd.R_append_rows k27 (w0:=w) w.heap.size rfl (.tmp 46) (.tmp 49) 23 27 (.agg #[(.string ⟨#[]⟩),(.int .i64 0),(.bool false),(.int .i64 0)]) 40 rfl Try.underlying23 info27 rfl (by decide) (by omega) u5 x5_1 y186 _ _ _ (fun _ => True) (fun _ => False) rfl rfl ?aO ?aR (fun _ _ h => h) (fun _ h => h.elim) ?aF ?aB ?aS ?aL ?_;(case aR => repeat (first | exact (Kd.C_below HR189.out HB.out) | (with_reducible refine Kd.C_alloc ?_ _) | (with_reducible refine Kd.C_drewN ?_ _) | (with_reducible refine Kd.C_drew ?_)));(case aB => exact (by repeat (first | (with_reducible first | exact HB.out | apply below_alloc | apply pw_below_drewN | apply below_drew1) | exact HB.out)));(case aF => exact (fun _ _ => trivial));(case aO => exact T8q2);(case aS => exact (below_size (by repeat (first | (with_reducible first | exact HB.out | apply below_alloc | apply pw_below_drewN | apply below_drew1) | exact HB.out))));(case aL => have:=LMc27.out;omega);intro v191 w29 ho hb hg hat;rw [← Ny190.out] at ho;have n0_:=Aside0.mk (hb);have n1_:=Aside0.mk (ho);clear HB;clear HO_5;have HB:=n0_;have HO192:=n1_;clear n0_ n1_;clear ho hb hg hat))
    go_ret
    exact ⟨_,by first | rfl | (simp [errW_none,errW_some] <;> rfl) | (simp [*,errW_none,errW_some] <;> rfl),by (with_reducible repeat (first | apply Kd.R_alloc | apply Kd.R_drewN | apply Kd.R_drew));exact HO192.out,by repeat (first | (with_reducible first | exact HB.out | apply below_alloc | apply pw_below_drewN | apply below_drew1) | exact HB.out)⟩
   rw [if_pos c5] at H
   have c5b0 : decide (x7_1 < (l1.length : Int)) = true:=decide_eq_true c5
   clear c5
   have H':=Aside0.mk H
   clear H
   go_wp2
   go_loopg [5,6] k1 (fun kq v5 v6 w' => ∃ (x5_2 : List (S27)) (x6_2 : Int),v6 = .int .i64 x6_2 ∧ Aside0 (spec_l11Join.l1 kq l0 l1 x5_2 x6_2 x7_1 = some r) ∧ Aside0 (kq ≤ k1) ∧ Aside0 (Kd.R k27 27 w' w.heap.size (fun _ => True) v5 x5_2) ∧ Aside0 (Below w.heap.size w w'))
   case atStart => exact ⟨(x5_1),(x6_1),(by first | rfl | (simp;done) | (simp [*];done)),H',⟨Nat.le_refl _⟩,⟨by (with_reducible repeat (first | apply Kd.R_alloc | apply Kd.R_drewN | apply Kd.R_drew));exact HO_5.out⟩,⟨by repeat (first | (with_reducible first | exact HB.out | apply below_alloc | apply pw_below_drewN | apply below_drew1) | exact HB.out)⟩⟩
   case round =>
    clear H'
    try clear c1
    try clear p2
    try clear c5
    try clear c5b0
    try clear p2
    obtain ⟨x5_2,x6_2,rfl,HA,HK2,HO_5,HB⟩:=hrel
    cases gk with
    | zero => exact absurd HA.out (by simp [spec_l11Join.l1])
    | succ k2 =>
     have H:=HA.out
     clear HA
     simp only [spec_l11Join.l1] at H
     by_cases c6 : x6_2 < (l0.length : Int)
     rotate_left
     ·rw [if_neg c6] at H
      have c6b0 : decide (x6_2 < (l0.length : Int)) = false:=decide_eq_false c6
      clear c6
      by_cases c20 : 0 ≤ x7_1
      rotate_left
      ·rw [if_neg c20] at H
       exact absurd H (by simp)
      rw [if_pos c20] at H
      have c20b0 : decide (0 ≤ x7_1) = true:=decide_eq_true c20
      clear c20
      by_cases c21 : x7_1 < (l1.length : Int)
      rotate_left
      ·rw [if_neg c21] at H
       exact absurd H (by simp)
      rw [if_pos c21] at H
      have c21b0 : decide (x7_1 < (l1.length : Int)) = true:=decide_eq_true c21
      clear c21
      by_cases c22 : x5_2.length < 3518437208883
      rotate_left
      ·rw [if_neg c22] at H
       exact absurd H (by simp)
      rw [if_pos c22] at H
      have LMc22:=Aside0.mk c22
      clear c22
      obtain ⟨y205,hy205⟩ : ∃ y_ : List (S27),y_ = (x5_2 ++ [(⟨(rd_T27 l1 x7_1).f0,(rd_T27 l1 x7_1).f1,(rd_T27 l1 x7_1).f2,(rd_T27 l1 x7_1).f3⟩ : S27)]):=⟨_,rfl⟩
      replace H : (spec_l11Join.l0 k2 l0 l1 y205 x6_2 (wrap64 (x7_1 + 1))) = some r:=by first | (rw [hy205];with_reducible exact H) | (have H2_:=(Option.bind_some _ _).symm.trans H;rw [hy205];with_reducible exact H2_) | (have H2_:=(Option.bind_some _ _).symm.trans H;with_reducible exact H2_) | with_reducible exact H | (rw [hy205];exact H) | exact H
      have Ny205:=Aside0.mk hy205
      clear hy205
      have H':=Aside0.mk H
      clear H
      try go_wp2
      have n0_:=Aside0.mk (Kd.R_drew HO_5.out)
      have n1_:=Aside0.mk (below_drew1 HB.out)
      clear HO_5
      clear HB
      have HO_5:=n0_
      have HB:=n1_
      clear n0_ n1_
      refine start_ (n:=15) (S:=fun w' => True) (ds:=[]) #[false,false,false,false,false,false,false,false,false,false,false,false,false,false,false] T8q3 rfl rfl trivial (fun hHeld => ?_);refine with_tabW spec_l11Join.tab6 spec_l11Join.bits6 (fun HT_ HW_ => ?_)
      generalize wr.drew = w23 at HO_5 HB hHeld ⊢
      refine pm_ (i:=0) (N:=some 15) (v:=?_) (a':=?_) rfl rfl (any_of HT_.out T8q3) (fun _ _ _ h => h) (Or.inl ⟨by rfl,?_⟩) ?_ ?_
      rotate_left
      ·intro w'
       go_simp
       with_reducible rfl
      rotate_left
      ·simp only [PU]
       rfl
      refine pm_ (i:=1) (N:=some 16) (v:=?_) (a':=?_) rfl rfl (any_of HT_.out T8q3) (fun _ _ _ h => h) (Or.inl ⟨by rfl,?_⟩) ?_ ?_
      rotate_left
      ·intro w'
       go_simp
       with_reducible rfl
      rotate_left
      ·simp only [PU]
       rfl
      refine pm_ (i:=2) (N:=some 17) (v:=?_) (a':=?_) rfl rfl (any_of HT_.out T8q3) (fun _ _ _ h => h) (Or.inl ⟨by rfl,?_⟩) ?_ ?_
      rotate_left
      ·intro w'
       go_simp
       with_reducible rfl
      rotate_left
      ·simp only [PU]
       rfl
      refine pm_ (i:=3) (N:=some 18) (v:=?_) (a':=?_) rfl rfl (any_of HT_.out T8q3) (fun _ _ _ h => h) (Or.inl ⟨by rfl,?_⟩) ?_ ?_
      rotate_left
      ·intro w'
       go_simp
       with_reducible rfl
      rotate_left
      ·simp only [PU]
       rfl
      refine pm_ (i:=4) (N:=some 19) (v:=?_) (a':=?_) rfl rfl (any_of HT_.out T8q3) (fun _ _ _ h => h) (Or.inl ⟨by rfl,?_⟩) ?_ ?_
      rotate_left
      ·intro w'
       go_simp
       with_reducible rfl
      rotate_left
      ·simp only [PU]
       rfl
      refine pm_ (i:=5) (N:=some 20) (v:=undef) (a':=?_) rfl rfl (any_of HT_.out T8q3) (fun _ _ _ h => h) (Or.inr ⟨by rfl,rfl⟩) ?_ ?_
      rotate_left
      ·simp only [PU]
       rfl
      refine pm_ (i:=6) (N:=some 21) (v:=undef) (a':=?_) rfl rfl (any_of HT_.out T8q3) (fun _ _ _ h => h) (Or.inr ⟨by rfl,rfl⟩) ?_ ?_
      rotate_left
      ·simp only [PU]
       rfl
      refine pm_ (i:=7) (N:=some 22) (v:=undef) (a':=?_) rfl rfl (any_of HT_.out T8q3) (fun _ _ _ h => h) (Or.inr ⟨by rfl,rfl⟩) ?_ ?_
      rotate_left
      ·simp only [PU]
       rfl
      refine pm_ (i:=8) (N:=some 23) (v:=undef) (a':=?_) rfl rfl (any_of HT_.out T8q3) (fun _ _ _ h => h) (Or.inr ⟨by rfl,rfl⟩) ?_ ?_
      rotate_left
      ·simp only [PU]
       rfl
      refine pm_ (i:=9) (N:=some 24) (v:=undef) (a':=?_) rfl rfl (any_of HT_.out T8q3) (fun _ _ _ h => h) (Or.inr ⟨by rfl,rfl⟩) ?_ ?_
      rotate_left
      ·simp only [PU]
       rfl
      refine pm_ (i:=10) (N:=some 25) (v:=undef) (a':=?_) rfl rfl (any_of HT_.out T8q3) (fun _ _ _ h => h) (Or.inr ⟨by rfl,rfl⟩) ?_ ?_
      rotate_left
      ·simp only [PU]
       rfl
      refine pm_ (i:=11) (N:=some 26) (v:=undef) (a':=?_) rfl rfl (any_of HT_.out T8q3) (fun _ _ _ h => h) (Or.inr ⟨by rfl,rfl⟩) ?_ ?_
      rotate_left
      ·simp only [PU]
       rfl
      refine pm_ (i:=12) (N:=some 27) (v:=undef) (a':=?_) rfl rfl (any_of HT_.out T8q3) (fun _ _ _ h => h) (Or.inr ⟨by rfl,rfl⟩) ?_ ?_
      rotate_left
      ·simp only [PU]
       rfl
      refine pm_ (i:=13) (N:=some 28) (v:=undef) (a':=?_) rfl rfl (any_of HT_.out T8q3) (fun _ _ _ h => h) (Or.inr ⟨by rfl,rfl⟩) ?_ ?_
      rotate_left
      ·simp only [PU]
       rfl
      refine pm_ (i:=14) (N:=some 29) (v:=?_) (a':=?_) rfl rfl (any_of HT_.out T8q3) (fun _ _ _ h => h) (Or.inl ⟨by rfl,?_⟩) ?_ ?_
      rotate_left
      ·intro w'
       go_simp
       with_reducible rfl
      rotate_left
      ·simp only [PU]
       rfl
      refine done_ (done_of HT_.out T8q3) ?_
      have p204 : 0 ≤ (x7_1 : Int):=of_decide_eq_true T8q1
      have q204 : x7_1 < (l1.length : Int):=of_decide_eq_true T8q1
      obtain ⟨ad204,e204,hx204_0,hx204_1,hx204_2,hx204_3⟩:=at_T27 HR1.out x7_1 p204 q204
      cases e204
      replace hx204_0:=(HB.out.cell (World.block_lt_of_cell? w _ hx204_0)).trans hx204_0
      replace hx204_1:=(HB.out.cell (World.block_lt_of_cell? w _ hx204_1)).trans hx204_1
      replace hx204_2:=(HB.out.cell (World.block_lt_of_cell? w _ hx204_2)).trans hx204_2
      replace hx204_3:=(HB.out.cell (World.block_lt_of_cell? w _ hx204_3)).trans hx204_3
      replace p204:=eq_true p204
      replace q204:=eq_true q204
      try go_wp2_with (first | ((with_reducible refine gate_builtin (b:=.append) (xs:=#[.tmp 39,.tmp 44]) rfl ?_);at_builtin;refine Kd.R_append k27 (w0:=w) w.heap.size rfl (.tmp 39) (.tmp 44) 23 27 (.agg #[(.string ⟨#[]⟩),(.int .i64 0),(.bool false),(.int .i64 0)]) 40 rfl Try.underlying23 info27 rfl (by decide) (by omega) u5 x5_2 (⟨(rd_T27 l1 x7_1).f0,(rd_T27 l1 x7_1).f1,(rd_T27 l1 x7_1).f2,(rd_T27 l1 x7_1).f3⟩ : S27) [.string ((rd_T27 l1 x7_1).f0),.int .i64 ((rd_T27 l1 x7_1).f1),.bool ((rd_T27 l1 x7_1).f2),.int .i64 ((rd_T27 l1 x7_1).f3)] (fun _ => True) (fun _ => False) rfl rfl ?aP (fun _ hk => hk.elim) ?aF ?aO ?aB ?aS ?aL ?_;(case aP => exact k27_mkM _ _ _ (⟨(rd_T27 l1 x7_1).f0,(rd_T27 l1 x7_1).f1,(rd_T27 l1 x7_1).f2,(rd_T27 l1 x7_1).f3⟩ : S27));(case aB => exact (by repeat (first | (with_reducible first | exact HB.out | apply below_alloc | apply pw_below_drewN | apply below_drew1) | exact HB.out)));(case aF => exact (fun _ _ => trivial));(case aO => exact T8q2);(case aS => exact (below_size (by repeat (first | (with_reducible first | exact HB.out | apply below_alloc | apply pw_below_drewN | apply below_drew1) | exact HB.out))));(case aL => have:=LMc22.out;omega);intro v206 w24 ho hb hg hat;rw [← Ny205.out] at ho;have n0_:=Aside0.mk (hb);have n1_:=Aside0.mk (ho);clear HB;clear HO_5;have HB:=n0_;have HO207:=n1_;clear n0_ n1_;clear ho hb hg hat))
      go_roundg k2
      case measure => have:=HK1.out;have:=HK2.out;omega
      case rel => exact ⟨(y205),(x6_2),(wrap64 (x7_1 + 1)),(by first | rfl | (simp;done) | (simp [*];done)),(by first | rfl | (simp;done) | (simp [*];done)),H',⟨by have:=HK1.out;have:=HK2.out;omega⟩,⟨by (with_reducible repeat (first | apply Kd.R_alloc | apply Kd.R_drewN | apply Kd.R_drew));exact HO207.out⟩,⟨by repeat (first | (with_reducible first | exact HB.out | apply below_alloc | apply pw_below_drewN | apply below_drew1) | exact HB.out)⟩⟩
     rw [if_pos c6] at H
     have c6b0 : decide (x6_2 < (l0.length : Int)) = true:=decide_eq_true c6
     clear c6
     by_cases c7 : 0 ≤ x6_2
     rotate_left
     ·rw [if_neg c7] at H
      exact absurd H (by simp)
     rw [if_pos c7] at H
     have c7b0 : decide (0 ≤ x6_2) = true:=decide_eq_true c7
     clear c7
     by_cases c8 : 0 ≤ x7_1
     rotate_left
     ·rw [if_neg c8] at H
      exact absurd H (by simp)
     rw [if_pos c8] at H
     have c8b0 : decide (0 ≤ x7_1) = true:=decide_eq_true c8
     clear c8
     by_cases c9 : x7_1 < (l1.length : Int)
     rotate_left
     ·rw [if_neg c9] at H
      exact absurd H (by simp)
     rw [if_pos c9] at H
     have c9b0 : decide (x7_1 < (l1.length : Int)) = true:=decide_eq_true c9
     clear c9
     replace H:=Option.bind_eq_some_iff.mp H
     obtain ⟨t195,A100,H⟩:=H
     replace H : (if t195 = true then (if x5_2.length < 3518437208883 then (spec_l11Join.l1 k2 l0 l1 (x5_2 ++ [(⟨(rd_T27 l0 x6_2).f0,(rd_T27 l0 x6_2).f1,(rd_T27 l0 x6_2).f2,(rd_T27 l0 x6_2).f3⟩ : S27)]) (wrap64 (x6_2 + 1)) x7_1) else (none)) else (if x5_2.length < 3518437208883 then (spec_l11Join.l0 k2 l0 l1 (x5_2 ++ [(⟨(rd_T27 l1 x7_1).f0,(rd_T27 l1 x7_1).f1,(rd_T27 l1 x7_1).f2,(rd_T27 l1 x7_1).f3⟩ : S27)]) x6_2 (wrap64 (x7_1 + 1))) else (none))) = some r:=H
     have A10:=Aside0.mk A100
     clear A100
     by_cases c11 : t195 = true
     ·subst c11
      have H1 : (if x5_2.length < 3518437208883 then (spec_l11Join.l1 k2 l0 l1 (x5_2 ++ [(⟨(rd_T27 l0 x6_2).f0,(rd_T27 l0 x6_2).f1,(rd_T27 l0 x6_2).f2,(rd_T27 l0 x6_2).f3⟩ : S27)]) (wrap64 (x6_2 + 1)) x7_1) else (none)) = some r:=by rw [if_pos rfl] at H;exact H
      clear H
      have H:=H1
      clear H1
      by_cases c12 : x5_2.length < 3518437208883
      rotate_left
      ·rw [if_neg c12] at H
       exact absurd H (by simp)
      rw [if_pos c12] at H
      have LMc12:=Aside0.mk c12
      clear c12
      obtain ⟨y197,hy197⟩ : ∃ y_ : List (S27),y_ = (x5_2 ++ [(⟨(rd_T27 l0 x6_2).f0,(rd_T27 l0 x6_2).f1,(rd_T27 l0 x6_2).f2,(rd_T27 l0 x6_2).f3⟩ : S27)]):=⟨_,rfl⟩
      replace H : (spec_l11Join.l1 k2 l0 l1 y197 (wrap64 (x6_2 + 1)) x7_1) = some r:=by first | (rw [hy197];with_reducible exact H) | (have H2_:=(Option.bind_some _ _).symm.trans H;rw [hy197];with_reducible exact H2_) | (have H2_:=(Option.bind_some _ _).symm.trans H;with_reducible exact H2_) | with_reducible exact H | (rw [hy197];exact H) | exact H
      have Ny197:=Aside0.mk hy197
      clear hy197
      have H':=Aside0.mk H
      clear H
      try go_wp2
      have n0_:=Aside0.mk (Kd.R_drew HO_5.out)
      have n1_:=Aside0.mk (below_drew1 HB.out)
      clear HO_5
      clear HB
      have HO_5:=n0_
      have HB:=n1_
      clear n0_ n1_
      have p193 : 0 ≤ (x6_2 : Int):=of_decide_eq_true T8q1
      have q193 : x6_2 < (l0.length : Int):=of_decide_eq_true T8q1
      obtain ⟨ad193,e193,hx193_0,hx193_1,hx193_2,hx193_3⟩:=at_T27 HR0.out x6_2 p193 q193
      have hw193_3:=hx193_3
      have hw193_2:=hx193_2
      have hw193_1:=hx193_1
      have hw193_0:=hx193_0
      cases e193
      replace hx193_0:=(HB.out.cell (World.block_lt_of_cell? w _ hx193_0)).trans hx193_0
      replace hx193_1:=(HB.out.cell (World.block_lt_of_cell? w _ hx193_1)).trans hx193_1
      replace hx193_2:=(HB.out.cell (World.block_lt_of_cell? w _ hx193_2)).trans hx193_2
      replace hx193_3:=(HB.out.cell (World.block_lt_of_cell? w _ hx193_3)).trans hx193_3
      replace p193:=eq_true p193
      replace q193:=eq_true q193
      have p194 : 0 ≤ (x7_1 : Int):=of_decide_eq_true T8q1
      have q194 : x7_1 < (l1.length : Int):=of_decide_eq_true T8q1
      obtain ⟨ad194,e194,hx194_0,hx194_1,hx194_2,hx194_3⟩:=at_T27 HR1.out x7_1 p194 q194
      have hw194_3:=hx194_3
      have hw194_2:=hx194_2
      have hw194_1:=hx194_1
      have hw194_0:=hx194_0
      cases e194
      replace hx194_0:=(HB.out.cell (World.block_lt_of_cell? w _ hx194_0)).trans hx194_0
      replace hx194_1:=(HB.out.cell (World.block_lt_of_cell? w _ hx194_1)).trans hx194_1
      replace hx194_2:=(HB.out.cell (World.block_lt_of_cell? w _ hx194_2)).trans hx194_2
      replace hx194_3:=(HB.out.cell (World.block_lt_of_cell? w _ hx194_3)).trans hx194_3
      replace p194:=eq_true p194
      replace q194:=eq_true q194
      refine start_ (n:=15) (S:=fun w' => w'.cell? (ad193.add ((x6_2).toNat * 4)) = some (.string ((rd_T27 l0 x6_2).f0)) ∧ w'.cell? ⟨(ad193.add ((x6_2).toNat * 4)).block,(ad193.add ((x6_2).toNat * 4)).off + 1,none⟩ = some (.int .i64 ((rd_T27 l0 x6_2).f1)) ∧ w'.cell? ⟨(ad193.add ((x6_2).toNat * 4)).block,(ad193.add ((x6_2).toNat * 4)).off + 2,none⟩ = some (.bool ((rd_T27 l0 x6_2).f2)) ∧ w'.cell? ⟨(ad193.add ((x6_2).toNat * 4)).block,(ad193.add ((x6_2).toNat * 4)).off + 3,none⟩ = some (.int .i64 ((rd_T27 l0 x6_2).f3)) ∧ w'.cell? (ad194.add ((x7_1).toNat * 4)) = some (.string ((rd_T27 l1 x7_1).f0)) ∧ w'.cell? ⟨(ad194.add ((x7_1).toNat * 4)).block,(ad194.add ((x7_1).toNat * 4)).off + 1,none⟩ = some (.int .i64 ((rd_T27 l1 x7_1).f1)) ∧ w'.cell? ⟨(ad194.add ((x7_1).toNat * 4)).block,(ad194.add ((x7_1).toNat * 4)).off + 2,none⟩ = some (.bool ((rd_T27 l1 x7_1).f2)) ∧ w'.cell? ⟨(ad194.add ((x7_1).toNat * 4)).block,(ad194.add ((x7_1).toNat * 4)).off + 3,none⟩ = some (.int .i64 ((rd_T27 l1 x7_1).f3))) (ds:=[]) #[false,false,false,false,false,false,false,false,false,false,false,false,false,false,false] T8q3 rfl rfl ⟨((HB.out.cell (World.block_lt_of_cell? w _ hw193_0)).trans hw193_0),((HB.out.cell (World.block_lt_of_cell? w _ hw193_1)).trans hw193_1),((HB.out.cell (World.block_lt_of_cell? w _ hw193_2)).trans hw193_2),((HB.out.cell (World.block_lt_of_cell? w _ hw193_3)).trans hw193_3),((HB.out.cell (World.block_lt_of_cell? w _ hw194_0)).trans hw194_0),((HB.out.cell (World.block_lt_of_cell? w _ hw194_1)).trans hw194_1),((HB.out.cell (World.block_lt_of_cell? w _ hw194_2)).trans hw194_2),((HB.out.cell (World.block_lt_of_cell? w _ hw194_3)).trans hw194_3)⟩ (fun hHeld => ?_);refine with_tabW spec_l11Join.tab6 spec_l11Join.bits6 (fun HT_ HW_ => ?_)
      generalize wr.drew = w13 at HO_5 HB hx193_0 hx193_1 hx193_2 hx193_3 hx194_0 hx194_1 hx194_2 hx194_3 hHeld ⊢
      refine pm_ (i:=0) (N:=some 15) (v:=?_) (a':=?_) rfl rfl (any_of HT_.out T8q3) (fun _ _ _ h => h) (Or.inl ⟨by rfl,?_⟩) ?_ ?_
      rotate_left
      ·intro w'
       go_simp
       with_reducible rfl
      rotate_left
      ·simp only [PU]
       rfl
      refine pm_ (i:=1) (N:=some 16) (v:=?_) (a':=?_) rfl rfl (any_of HT_.out T8q3) (fun _ _ _ h => h) (Or.inl ⟨by rfl,?_⟩) ?_ ?_
      rotate_left
      ·intro w'
       go_simp
       with_reducible rfl
      rotate_left
      ·simp only [PU]
       rfl
      refine pm_ (i:=2) (N:=some 17) (v:=?_) (a':=?_) rfl rfl (any_of HT_.out T8q3) (fun _ _ _ h => h) (Or.inl ⟨by rfl,?_⟩) ?_ ?_
      rotate_left
      ·intro w'
       go_simp
       with_reducible rfl
      rotate_left
      ·simp only [PU]
       rfl
      refine pm_ (i:=3) (N:=some 18) (v:=?_) (a':=?_) rfl rfl (any_of HT_.out T8q3) (fun _ _ _ h => h) (Or.inl ⟨by rfl,?_⟩) ?_ ?_
      rotate_left
      ·intro w'
       go_simp
       with_reducible rfl
      rotate_left
      ·simp only [PU]
       rfl
      refine pm_ (i:=4) (N:=some 19) (v:=?_) (a':=?_) rfl rfl (any_of HT_.out T8q3) (fun _ _ _ h => h) (Or.inl ⟨by rfl,?_⟩) ?_ ?_
      rotate_left
      ·intro w'
       go_simp
       with_reducible rfl
      rotate_left
      ·simp only [PU]
       rfl
      refine pm_ (i:=5) (N:=some 20) (v:=?_) (a':=?_) rfl rfl (any_of HT_.out T8q3) (fun _ _ _ h => h) (Or.inl ⟨by rfl,?_⟩) ?_ ?_
      rotate_left
      ·intro w'
       go_simp
       with_reducible rfl
      rotate_left
      ·simp only [PU]
       rfl
      refine pm_ (i:=6) (N:=some 21) (v:=?_) (a':=?_) rfl rfl (any_of HT_.out T8q3) (fun _ _ _ h => h) (Or.inl ⟨by rfl,?_⟩) ?_ ?_
      rotate_left
      ·intro w'
       go_simp
       with_reducible rfl
      rotate_left
      ·simp only [PU]
       rfl
      refine pm_ (i:=7) (N:=some 22) (v:=?_) (a':=?_) rfl rfl (any_of HT_.out T8q3) (fun _ _ _ h => h) (Or.inl ⟨by rfl,?_⟩) ?_ ?_
      rotate_left
      ·intro w'
       go_simp
       with_reducible rfl
      rotate_left
      ·simp only [PU]
       rfl
      refine pm_ (i:=9) (N:=some 24) (v:=?_) (a':=?_) rfl rfl (any_of HT_.out T8q3) (fun _ _ _ h => h) (Or.inl ⟨by rfl,?_⟩) ?_ ?_
      rotate_left
      ·intro w'
       go_simp
       with_reducible rfl
      rotate_left
      ·simp only [PU]
       rfl
      refine pm_ (i:=10) (N:=some 25) (v:=?_) (a':=?_) rfl rfl (any_of HT_.out T8q3) (fun _ _ _ h => h) (Or.inl ⟨by rfl,?_⟩) ?_ ?_
      rotate_left
      ·intro w'
       go_simp
       with_reducible rfl
      rotate_left
      ·simp only [PU]
       rfl
      refine pm_ (i:=11) (N:=some 26) (v:=?_) (a':=?_) rfl rfl (any_of HT_.out T8q3) (fun _ _ _ h => h) (Or.inl ⟨by rfl,?_⟩) ?_ ?_
      rotate_left
      ·intro w'
       go_simp
       with_reducible rfl
      rotate_left
      ·simp only [PU]
       rfl
      refine tm_ (i:=8) (N:=some 23) (v:=?_) (a':=?_) rfl rfl (take_ofW HT_.out HW_.out T8q3) (fun _ _ _ h => h) (Or.inl ⟨by rfl,?_⟩) hHeld ?_ ?_
      rotate_left
      ·rintro w' ⟨s0,s1,s2,s3,s4,s5,s6,s7⟩
       go_simp
       with_reducible rfl
      rotate_left
      ·simp only [PU]
       rfl
      refine tm_ (i:=12) (N:=some 27) (v:=?_) (a':=?_) rfl rfl (take_ofW HT_.out HW_.out T8q3) (fun _ _ _ h => h) (Or.inl ⟨by rfl,?_⟩) hHeld ?_ ?_
      rotate_left
      ·rintro w' ⟨s0,s1,s2,s3,s4,s5,s6,s7⟩
       go_simp
       with_reducible rfl
      rotate_left
      ·simp only [PU]
       rfl
      refine om_ (i:=13) (N:=some 28) rfl rfl (one_of HT_.out T8q3) (by decide) (fun K hK => ?_)
      refine goes_ Try.func42 T8q3 rfl #[.agg #[.string ((rd_T27 l0 x6_2).f0),.int .i64 ((rd_T27 l0 x6_2).f1),.bool ((rd_T27 l0 x6_2).f2),.int .i64 ((rd_T27 l0 x6_2).f3)],.agg #[.string ((rd_T27 l1 x7_1).f0),.int .i64 ((rd_T27 l1 x7_1).f1),.bool ((rd_T27 l1 x7_1).f2),.int .i64 ((rd_T27 l1 x7_1).f3)]] (by rfl) rfl rfl T8q4 ?_
      with_reducible refine (spec_l11Ahead.calls ((rd_T27 l0 x6_2).f0) ((rd_T27 l0 x6_2).f1) ((rd_T27 l0 x6_2).f2) ((rd_T27 l0 x6_2).f3) ((rd_T27 l1 x7_1).f0) ((rd_T27 l1 x7_1).f1) ((rd_T27 l1 x7_1).f2) ((rd_T27 l1 x7_1).f3) true _ A10.out).mono ?_
      rintro e w14 ⟨rfl,hb⟩
      refine ⟨_,rfl,?_⟩
      have n0_:=Aside0.mk (Kd.R_below T8q2 hb)
      have n1_:=Aside0.mk (below_step (by repeat (first | (with_reducible first | exact HB.out | apply below_alloc | apply pw_below_drewN | apply below_drew1) | exact HB.out)) hb)
      clear HO_5
      clear HB
      have HO_5:=n0_
      have HB:=n1_
      clear n0_ n1_
      (try clear hb)
      (try clear hb2)
      (try clear hk)
      (try clear hi)
      refine hK.out _ _ ⟨((HB.out.cell (World.block_lt_of_cell? w _ hw193_0)).trans hw193_0),((HB.out.cell (World.block_lt_of_cell? w _ hw193_1)).trans hw193_1),((HB.out.cell (World.block_lt_of_cell? w _ hw193_2)).trans hw193_2),((HB.out.cell (World.block_lt_of_cell? w _ hw193_3)).trans hw193_3),((HB.out.cell (World.block_lt_of_cell? w _ hw194_0)).trans hw194_0),((HB.out.cell (World.block_lt_of_cell? w _ hw194_1)).trans hw194_1),((HB.out.cell (World.block_lt_of_cell? w _ hw194_2)).trans hw194_2),((HB.out.cell (World.block_lt_of_cell? w _ hw194_3)).trans hw194_3)⟩ (fun hHeld => ?_)
      clear hK K
      refine norm_ (a':=?_) ?_ ?_
      rotate_left
      ·show Act.put _ (some 28) _ = _
       simp only [PU]
       rfl
      refine pm_ (i:=14) (N:=some 29) (v:=?_) (a':=?_) rfl rfl (any_of HT_.out T8q3) (fun _ _ _ h => h) (Or.inl ⟨by rfl,?_⟩) ?_ ?_
      rotate_left
      ·intro w'
       go_simp
       with_reducible rfl
      rotate_left
      ·simp only [PU]
       rfl
      refine done_ (done_of HT_.out T8q3) ?_
      have p196 : 0 ≤ (x6_2 : Int):=of_decide_eq_true T8q1
      have q196 : x6_2 < (l0.length : Int):=of_decide_eq_true T8q1
      obtain ⟨ad196,e196,hx196_0,hx196_1,hx196_2,hx196_3⟩:=at_T27 HR0.out x6_2 p196 q196
      obtain rfl : ad193 = ad196:=(by injection e196)
      replace hx196_0:=(HB.out.cell (World.block_lt_of_cell? w _ hx196_0)).trans hx196_0
      replace hx196_1:=(HB.out.cell (World.block_lt_of_cell? w _ hx196_1)).trans hx196_1
      replace hx196_2:=(HB.out.cell (World.block_lt_of_cell? w _ hx196_2)).trans hx196_2
      replace hx196_3:=(HB.out.cell (World.block_lt_of_cell? w _ hx196_3)).trans hx196_3
      replace p196:=eq_true p196
      replace q196:=eq_true q196
      try go_wp2_with (first | ((with_reducible refine gate_builtin (b:=.append) (xs:=#[.tmp 30,.tmp 35]) rfl ?_);at_builtin;refine Kd.R_append k27 (w0:=w) w.heap.size rfl (.tmp 30) (.tmp 35) 23 27 (.agg #[(.string ⟨#[]⟩),(.int .i64 0),(.bool false),(.int .i64 0)]) 40 rfl Try.underlying23 info27 rfl (by decide) (by omega) u5 x5_2 (⟨(rd_T27 l0 x6_2).f0,(rd_T27 l0 x6_2).f1,(rd_T27 l0 x6_2).f2,(rd_T27 l0 x6_2).f3⟩ : S27) [.string ((rd_T27 l0 x6_2).f0),.int .i64 ((rd_T27 l0 x6_2).f1),.bool ((rd_T27 l0 x6_2).f2),.int .i64 ((rd_T27 l0 x6_2).f3)] (fun _ => True) (fun _ => False) rfl rfl ?aP (fun _ hk => hk.elim) ?aF ?aO ?aB ?aS ?aL ?_;(case aP => exact k27_mkM _ _ _ (⟨(rd_T27 l0 x6_2).f0,(rd_T27 l0 x6_2).f1,(rd_T27 l0 x6_2).f2,(rd_T27 l0 x6_2).f3⟩ : S27));(case aB => exact (by repeat (first | (with_reducible first | exact HB.out | apply below_alloc | apply pw_below_drewN | apply below_drew1) | exact HB.out)));(case aF => exact (fun _ _ => trivial));(case aO => exact T8q2);(case aS => exact (below_size (by repeat (first | (with_reducible first | exact HB.out | apply below_alloc | apply pw_below_drewN | apply below_drew1) | exact HB.out))));(case aL => have:=LMc12.out;omega);intro v198 w15 ho hb hg hat;rw [← Ny197.out] at ho;have n0_:=Aside0.mk (hb);have n1_:=Aside0.mk (ho);clear HB;clear HO_5;have HB:=n0_;have HO199:=n1_;clear n0_ n1_;clear ho hb hg hat))
      go_roundg k2
      case measure => have:=HK1.out;have:=HK2.out;omega
      case rel => exact ⟨(y197),(wrap64 (x6_2 + 1)),(by first | rfl | (simp;done) | (simp [*];done)),H',⟨by have:=HK1.out;have:=HK2.out;omega⟩,⟨by (with_reducible repeat (first | apply Kd.R_alloc | apply Kd.R_drewN | apply Kd.R_drew));exact HO199.out⟩,⟨by repeat (first | (with_reducible first | exact HB.out | apply below_alloc | apply pw_below_drewN | apply below_drew1) | exact HB.out)⟩⟩
     replace c11:=Bool.eq_false_iff.mpr c11
     subst c11
     have H1 : (if x5_2.length < 3518437208883 then (spec_l11Join.l0 k2 l0 l1 (x5_2 ++ [(⟨(rd_T27 l1 x7_1).f0,(rd_T27 l1 x7_1).f1,(rd_T27 l1 x7_1).f2,(rd_T27 l1 x7_1).f3⟩ : S27)]) x6_2 (wrap64 (x7_1 + 1))) else (none)) = some r:=by rw [if_neg (show ¬ (false = true) by decide)] at H;exact H
     clear H
     have H:=H1
     clear H1
     by_cases c16 : x5_2.length < 3518437208883
     rotate_left
     ·rw [if_neg c16] at H
      exact absurd H (by simp)
     rw [if_pos c16] at H
     have LMc16:=Aside0.mk c16
     clear c16
     obtain ⟨y201,hy201⟩ : ∃ y_ : List (S27),y_ = (x5_2 ++ [(⟨(rd_T27 l1 x7_1).f0,(rd_T27 l1 x7_1).f1,(rd_T27 l1 x7_1).f2,(rd_T27 l1 x7_1).f3⟩ : S27)]):=⟨_,rfl⟩
     replace H : (spec_l11Join.l0 k2 l0 l1 y201 x6_2 (wrap64 (x7_1 + 1))) = some r:=by first | (rw [hy201];with_reducible exact H) | (have H2_:=(Option.bind_some _ _).symm.trans H;rw [hy201];with_reducible exact H2_) | (have H2_:=(Option.bind_some _ _).symm.trans H;with_reducible exact H2_) | with_reducible exact H | (rw [hy201];exact H) | exact H
     have Ny201:=Aside0.mk hy201
     clear hy201
     have H':=Aside0.mk H
     clear H
     try go_wp2
     have n0_:=Aside0.mk (Kd.R_drew HO_5.out)
     have n1_:=Aside0.mk (below_drew1 HB.out)
     clear HO_5
     clear HB
     have HO_5:=n0_
     have HB:=n1_
     clear n0_ n1_
     have p193 : 0 ≤ (x6_2 : Int):=of_decide_eq_true T8q1
     have q193 : x6_2 < (l0.length : Int):=of_decide_eq_true T8q1
     obtain ⟨ad193,e193,hx193_0,hx193_1,hx193_2,hx193_3⟩:=at_T27 HR0.out x6_2 p193 q193
     have hw193_3:=hx193_3
     have hw193_2:=hx193_2
     have hw193_1:=hx193_1
     have hw193_0:=hx193_0
     cases e193
     replace hx193_0:=(HB.out.cell (World.block_lt_of_cell? w _ hx193_0)).trans hx193_0
     replace hx193_1:=(HB.out.cell (World.block_lt_of_cell? w _ hx193_1)).trans hx193_1
     replace hx193_2:=(HB.out.cell (World.block_lt_of_cell? w _ hx193_2)).trans hx193_2
     replace hx193_3:=(HB.out.cell (World.block_lt_of_cell? w _ hx193_3)).trans hx193_3
     replace p193:=eq_true p193
     replace q193:=eq_true q193
     have p194 : 0 ≤ (x7_1 : Int):=of_decide_eq_true T8q1
     have q194 : x7_1 < (l1.length : Int):=of_decide_eq_true T8q1
     obtain ⟨ad194,e194,hx194_0,hx194_1,hx194_2,hx194_3⟩:=at_T27 HR1.out x7_1 p194 q194
     have hw194_3:=hx194_3
     have hw194_2:=hx194_2
     have hw194_1:=hx194_1
     have hw194_0:=hx194_0
     cases e194
     replace hx194_0:=(HB.out.cell (World.block_lt_of_cell? w _ hx194_0)).trans hx194_0
     replace hx194_1:=(HB.out.cell (World.block_lt_of_cell? w _ hx194_1)).trans hx194_1
     replace hx194_2:=(HB.out.cell (World.block_lt_of_cell? w _ hx194_2)).trans hx194_2
     replace hx194_3:=(HB.out.cell (World.block_lt_of_cell? w _ hx194_3)).trans hx194_3
     replace p194:=eq_true p194
     replace q194:=eq_true q194
     refine start_ (n:=15) (S:=fun w' => w'.cell? (ad193.add ((x6_2).toNat * 4)) = some (.string ((rd_T27 l0 x6_2).f0)) ∧ w'.cell? ⟨(ad193.add ((x6_2).toNat * 4)).block,(ad193.add ((x6_2).toNat * 4)).off + 1,none⟩ = some (.int .i64 ((rd_T27 l0 x6_2).f1)) ∧ w'.cell? ⟨(ad193.add ((x6_2).toNat * 4)).block,(ad193.add ((x6_2).toNat * 4)).off + 2,none⟩ = some (.bool ((rd_T27 l0 x6_2).f2)) ∧ w'.cell? ⟨(ad193.add ((x6_2).toNat * 4)).block,(ad193.add ((x6_2).toNat * 4)).off + 3,none⟩ = some (.int .i64 ((rd_T27 l0 x6_2).f3)) ∧ w'.cell? (ad194.add ((x7_1).toNat * 4)) = some (.string ((rd_T27 l1 x7_1).f0)) ∧ w'.cell? ⟨(ad194.add ((x7_1).toNat * 4)).block,(ad194.add ((x7_1).toNat * 4)).off + 1,none⟩ = some (.int .i64 ((rd_T27 l1 x7_1).f1)) ∧ w'.cell? ⟨(ad194.add ((x7_1).toNat * 4)).block,(ad194.add ((x7_1).toNat * 4)).off + 2,none⟩ = some (.bool ((rd_T27 l1 x7_1).f2)) ∧ w'.cell? ⟨(ad194.add ((x7_1).toNat * 4)).block,(ad194.add ((x7_1).toNat * 4)).off + 3,none⟩ = some (.int .i64 ((rd_T27 l1 x7_1).f3))) (ds:=[]) #[false,false,false,false,false,false,false,false,false,false,false,false,false,false,false] T8q3 rfl rfl ⟨((HB.out.cell (World.block_lt_of_cell? w _ hw193_0)).trans hw193_0),((HB.out.cell (World.block_lt_of_cell? w _ hw193_1)).trans hw193_1),((HB.out.cell (World.block_lt_of_cell? w _ hw193_2)).trans hw193_2),((HB.out.cell (World.block_lt_of_cell? w _ hw193_3)).trans hw193_3),((HB.out.cell (World.block_lt_of_cell? w _ hw194_0)).trans hw194_0),((HB.out.cell (World.block_lt_of_cell? w _ hw194_1)).trans hw194_1),((HB.out.cell (World.block_lt_of_cell? w _ hw194_2)).trans hw194_2),((HB.out.cell (World.block_lt_of_cell? w _ hw194_3)).trans hw194_3)⟩ (fun hHeld => ?_);refine with_tabW spec_l11Join.tab6 spec_l11Join.bits6 (fun HT_ HW_ => ?_)
     generalize wr.drew = w17 at HO_5 HB hx193_0 hx193_1 hx193_2 hx193_3 hx194_0 hx194_1 hx194_2 hx194_3 hHeld ⊢
     refine pm_ (i:=0) (N:=some 15) (v:=?_) (a':=?_) rfl rfl (any_of HT_.out T8q3) (fun _ _ _ h => h) (Or.inl ⟨by rfl,?_⟩) ?_ ?_
     rotate_left
     ·intro w'
      go_simp
      with_reducible rfl
     rotate_left
     ·simp only [PU]
      rfl
     refine pm_ (i:=1) (N:=some 16) (v:=?_) (a':=?_) rfl rfl (any_of HT_.out T8q3) (fun _ _ _ h => h) (Or.inl ⟨by rfl,?_⟩) ?_ ?_
     rotate_left
     ·intro w'
      go_simp
      with_reducible rfl
     rotate_left
     ·simp only [PU]
      rfl
     refine pm_ (i:=2) (N:=some 17) (v:=?_) (a':=?_) rfl rfl (any_of HT_.out T8q3) (fun _ _ _ h => h) (Or.inl ⟨by rfl,?_⟩) ?_ ?_
     rotate_left
     ·intro w'
      go_simp
      with_reducible rfl
     rotate_left
     ·simp only [PU]
      rfl
     refine pm_ (i:=3) (N:=some 18) (v:=?_) (a':=?_) rfl rfl (any_of HT_.out T8q3) (fun _ _ _ h => h) (Or.inl ⟨by rfl,?_⟩) ?_ ?_
     rotate_left
     ·intro w'
      go_simp
      with_reducible rfl
     rotate_left
     ·simp only [PU]
      rfl
     refine pm_ (i:=4) (N:=some 19) (v:=?_) (a':=?_) rfl rfl (any_of HT_.out T8q3) (fun _ _ _ h => h) (Or.inl ⟨by rfl,?_⟩) ?_ ?_
     rotate_left
     ·intro w'
      go_simp
      with_reducible rfl
     rotate_left
     ·simp only [PU]
      rfl
     refine pm_ (i:=5) (N:=some 20) (v:=?_) (a':=?_) rfl rfl (any_of HT_.out T8q3) (fun _ _ _ h => h) (Or.inl ⟨by rfl,?_⟩) ?_ ?_
     rotate_left
     ·intro w'
      go_simp
      with_reducible rfl
     rotate_left
     ·simp only [PU]
      rfl
     refine pm_ (i:=6) (N:=some 21) (v:=?_) (a':=?_) rfl rfl (any_of HT_.out T8q3) (fun _ _ _ h => h) (Or.inl ⟨by rfl,?_⟩) ?_ ?_
     rotate_left
     ·intro w'
      go_simp
      with_reducible rfl
     rotate_left
     ·simp only [PU]
      rfl
     refine pm_ (i:=7) (N:=some 22) (v:=?_) (a':=?_) rfl rfl (any_of HT_.out T8q3) (fun _ _ _ h => h) (Or.inl ⟨by rfl,?_⟩) ?_ ?_
     rotate_left
     ·intro w'
      go_simp
      with_reducible rfl
     rotate_left
     ·simp only [PU]
      rfl
     refine pm_ (i:=9) (N:=some 24) (v:=?_) (a':=?_) rfl rfl (any_of HT_.out T8q3) (fun _ _ _ h => h) (Or.inl ⟨by rfl,?_⟩) ?_ ?_
     rotate_left
     ·intro w'
      go_simp
      with_reducible rfl
     rotate_left
     ·simp only [PU]
      rfl
     refine pm_ (i:=10) (N:=some 25) (v:=?_) (a':=?_) rfl rfl (any_of HT_.out T8q3) (fun _ _ _ h => h) (Or.inl ⟨by rfl,?_⟩) ?_ ?_
     rotate_left
     ·intro w'
      go_simp
      with_reducible rfl
     rotate_left
     ·simp only [PU]
      rfl
     refine pm_ (i:=11) (N:=some 26) (v:=?_) (a':=?_) rfl rfl (any_of HT_.out T8q3) (fun _ _ _ h => h) (Or.inl ⟨by rfl,?_⟩) ?_ ?_
     rotate_left
     ·intro w'
      go_simp
      with_reducible rfl
     rotate_left
     ·simp only [PU]
      rfl
     refine tm_ (i:=8) (N:=some 23) (v:=?_) (a':=?_) rfl rfl (take_ofW HT_.out HW_.out T8q3) (fun _ _ _ h => h) (Or.inl ⟨by rfl,?_⟩) hHeld ?_ ?_
     rotate_left
     ·rintro w' ⟨s0,s1,s2,s3,s4,s5,s6,s7⟩
      go_simp
      with_reducible rfl
     rotate_left
     ·simp only [PU]
      rfl
     refine tm_ (i:=12) (N:=some 27) (v:=?_) (a':=?_) rfl rfl (take_ofW HT_.out HW_.out T8q3) (fun _ _ _ h => h) (Or.inl ⟨by rfl,?_⟩) hHeld ?_ ?_
     rotate_left
     ·rintro w' ⟨s0,s1,s2,s3,s4,s5,s6,s7⟩
      go_simp
      with_reducible rfl
     rotate_left
     ·simp only [PU]
      rfl
     refine om_ (i:=13) (N:=some 28) rfl rfl (one_of HT_.out T8q3) (by decide) (fun K hK => ?_)
     refine goes_ Try.func42 T8q3 rfl #[.agg #[.string ((rd_T27 l0 x6_2).f0),.int .i64 ((rd_T27 l0 x6_2).f1),.bool ((rd_T27 l0 x6_2).f2),.int .i64 ((rd_T27 l0 x6_2).f3)],.agg #[.string ((rd_T27 l1 x7_1).f0),.int .i64 ((rd_T27 l1 x7_1).f1),.bool ((rd_T27 l1 x7_1).f2),.int .i64 ((rd_T27 l1 x7_1).f3)]] (by rfl) rfl rfl T8q4 ?_
     with_reducible refine (spec_l11Ahead.calls ((rd_T27 l0 x6_2).f0) ((rd_T27 l0 x6_2).f1) ((rd_T27 l0 x6_2).f2) ((rd_T27 l0 x6_2).f3) ((rd_T27 l1 x7_1).f0) ((rd_T27 l1 x7_1).f1) ((rd_T27 l1 x7_1).f2) ((rd_T27 l1 x7_1).f3) false _ A10.out).mono ?_
     rintro e w18 ⟨rfl,hb⟩
     refine ⟨_,rfl,?_⟩
     have n0_:=Aside0.mk (Kd.R_below T8q2 hb)
     have n1_:=Aside0.mk (below_step (by repeat (first | (with_reducible first | exact HB.out | apply below_alloc | apply pw_below_drewN | apply below_drew1) | exact HB.out)) hb)
     clear HO_5
     clear HB
     have HO_5:=n0_
     have HB:=n1_
     clear n0_ n1_
     (try clear hb)
     (try clear hb2)
     (try clear hk)
     (try clear hi)
     refine hK.out _ _ ⟨((HB.out.cell (World.block_lt_of_cell? w _ hw193_0)).trans hw193_0),((HB.out.cell (World.block_lt_of_cell? w _ hw193_1)).trans hw193_1),((HB.out.cell (World.block_lt_of_cell? w _ hw193_2)).trans hw193_2),((HB.out.cell (World.block_lt_of_cell? w _ hw193_3)).trans hw193_3),((HB.out.cell (World.block_lt_of_cell? w _ hw194_0)).trans hw194_0),((HB.out.cell (World.block_lt_of_cell? w _ hw194_1)).trans hw194_1),((HB.out.cell (World.block_lt_of_cell? w _ hw194_2)).trans hw194_2),((HB.out.cell (World.block_lt_of_cell? w _ hw194_3)).trans hw194_3)⟩ (fun hHeld => ?_)
     clear hK K
     refine norm_ (a':=?_) ?_ ?_
     rotate_left
     ·show Act.put _ (some 28) _ = _
      simp only [PU]
      rfl
     refine pm_ (i:=14) (N:=some 29) (v:=?_) (a':=?_) rfl rfl (any_of HT_.out T8q3) (fun _ _ _ h => h) (Or.inl ⟨by rfl,?_⟩) ?_ ?_
     rotate_left
     ·intro w'
      go_simp
      with_reducible rfl
     rotate_left
     ·simp only [PU]
      rfl
     refine done_ (done_of HT_.out T8q3) ?_
     have p200 : 0 ≤ (x7_1 : Int):=of_decide_eq_true T8q1
     have q200 : x7_1 < (l1.length : Int):=of_decide_eq_true T8q1
     obtain ⟨ad200,e200,hx200_0,hx200_1,hx200_2,hx200_3⟩:=at_T27 HR1.out x7_1 p200 q200
     obtain rfl : ad194 = ad200:=(by injection e200)
     replace hx200_0:=(HB.out.cell (World.block_lt_of_cell? w _ hx200_0)).trans hx200_0
     replace hx200_1:=(HB.out.cell (World.block_lt_of_cell? w _ hx200_1)).trans hx200_1
     replace hx200_2:=(HB.out.cell (World.block_lt_of_cell? w _ hx200_2)).trans hx200_2
     replace hx200_3:=(HB.out.cell (World.block_lt_of_cell? w _ hx200_3)).trans hx200_3
     replace p200:=eq_true p200
     replace q200:=eq_true q200
     try go_wp2_with (first | ((with_reducible refine gate_builtin (b:=.append) (xs:=#[.tmp 39,.tmp 44]) rfl ?_);at_builtin;refine Kd.R_append k27 (w0:=w) w.heap.size rfl (.tmp 39) (.tmp 44) 23 27 (.agg #[(.string ⟨#[]⟩),(.int .i64 0),(.bool false),(.int .i64 0)]) 40 rfl Try.underlying23 info27 rfl (by decide) (by omega) u5 x5_2 (⟨(rd_T27 l1 x7_1).f0,(rd_T27 l1 x7_1).f1,(rd_T27 l1 x7_1).f2,(rd_T27 l1 x7_1).f3⟩ : S27) [.string ((rd_T27 l1 x7_1).f0),.int .i64 ((rd_T27 l1 x7_1).f1),.bool ((rd_T27 l1 x7_1).f2),.int .i64 ((rd_T27 l1 x7_1).f3)] (fun _ => True) (fun _ => False) rfl rfl ?aP (fun _ hk => hk.elim) ?aF ?aO ?aB ?aS ?aL ?_;(case aP => exact k27_mkM _ _ _ (⟨(rd_T27 l1 x7_1).f0,(rd_T27 l1 x7_1).f1,(rd_T27 l1 x7_1).f2,(rd_T27 l1 x7_1).f3⟩ : S27));(case aB => exact (by repeat (first | (with_reducible first | exact HB.out | apply below_alloc | apply pw_below_drewN | apply below_drew1) | exact HB.out)));(case aF => exact (fun _ _ => trivial));(case aO => exact T8q2);(case aS => exact (below_size (by repeat (first | (with_reducible first | exact HB.out | apply below_alloc | apply pw_below_drewN | apply below_drew1) | exact HB.out))));(case aL => have:=LMc16.out;omega);intro v202 w19 ho hb hg hat;rw [← Ny201.out] at ho;have n0_:=Aside0.mk (hb);have n1_:=Aside0.mk (ho);clear HB;clear HO_5;have HB:=n0_;have HO203:=n1_;clear n0_ n1_;clear ho hb hg hat))
     go_roundg k2
     case measure => have:=HK1.out;have:=HK2.out;omega
     case rel => exact ⟨(y201),(x6_2),(wrap64 (x7_1 + 1)),(by first | rfl | (simp;done) | (simp [*];done)),(by first | rfl | (simp;done) | (simp [*];done)),H',⟨by have:=HK1.out;have:=HK2.out;omega⟩,⟨by (with_reducible repeat (first | apply Kd.R_alloc | apply Kd.R_drewN | apply Kd.R_drew));exact HO203.out⟩,⟨by repeat (first | (with_reducible first | exact HB.out | apply below_alloc | apply pw_below_drewN | apply below_drew1) | exact HB.out)⟩⟩
end Go.Proofs.Ytkifijclehgiaaa.PFnRunTrimTop
