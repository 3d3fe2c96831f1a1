/-
 Functions that FnRunJoinAt reaches,each as a Lean function,and that Go comes to its answer: printed by the kit's printer,the sort's comparing function and impl.RunJoin's part laid by hand. Conditions: those that stand in each statement.
-/
import Derived.Test.YtkifijclehgiaaaPFnRunJoinAtx0
import Derived.Test.YtkifijclehgiaaaPFnRunJoinAtx2
import Derived.Test.YtkifijclehgiaaaPu
namespace Go.Proofs.Ytkifijclehgiaaa.PFnRunJoinAt
open Go.RowKit Go.Proofs.YtkifijclehgiaaaW.PrintWords Go.Proofs.YtkifijclehgiaaaW.PrintLast Go.Proofs.YtkifijclehgiaaaW.PrintMore
attribute [local go_sem] max2_int min2_int max_two min_two max_three min_three max_four min_four   -- for this text's walks alone
set_option linter.unusedVariables false
set_option linter.unusedSimpArgs false

theorem T5q1 {p : Prop} (h : p := by first | (with_reducible assumption) | assumption) : p := h
theorem T5q2 {p : Prop} (h : p := by (with_reducible repeat (first | apply Kd.R_alloc | apply Kd.R_drewN | apply Kd.R_drew));exact HO_5.out) : p := h
theorem T5q3 {p : Prop} (h : p := by kernel_rfl) : p := h
theorem T5q4 {p : Prop} (h : p := by (try simp only [List.map_toArray,List.map_cons,List.map_nil]);first | done | rfl | (simp only [List.length_drop,List.length_take];rfl)) : p := h
/-! ### spec_l11Join: function 56 -/
mutual
def spec_l11Join.l0 : Nat → List (S27) → List (S27) → List (S27) → Int → Int → Option ((List (S27)))
 | 0,_,_,_,_,_ => none
 | k + 1,x0,x1,x5,x6,x7 => if x7 < (x1.length : Int) then (spec_l11Join.l1 k x0 x1 x5 x6 x7) else (if 0 ≤ x6 then (if x6 ≤ (x0.length : Int) then ((some (x0.drop (x6 : Int).toNat : List (S27))).bind fun y149 => (if x5.length + y149.length < 3518437208883 then (some (x5 ++ y149)) else (none))) else (none)) else (none))
def spec_l11Join.l1 : Nat → List (S27) → List (S27) → List (S27) → Int → Int → Option ((List (S27)))
 | 0,_,_,_,_,_ => none
 | k + 1,x0,x1,x5,x6,x7 => if x6 < (x0.length : Int) then (if 0 ≤ x6 then (if 0 ≤ x7 then (if x7 < (x1.length : Int) then ((spec_l11Ahead.f ((rd_T27 x0 x6).f0) ((rd_T27 x0 x6).f1) ((rd_T27 x0 x6).f2) ((rd_T27 x0 x6).f3) ((rd_T27 x1 x7).f0) ((rd_T27 x1 x7).f1) ((rd_T27 x1 x7).f2) ((rd_T27 x1 x7).f3)).bind fun t158 => (if t158 = true then (if x5.length < 3518437208883 then (spec_l11Join.l1 k x0 x1 (x5 ++ [(⟨(rd_T27 x0 x6).f0,(rd_T27 x0 x6).f1,(rd_T27 x0 x6).f2,(rd_T27 x0 x6).f3⟩ : S27)]) (wrap64 (x6 + 1)) x7) else (none)) else (if x5.length < 3518437208883 then (spec_l11Join.l0 k x0 x1 (x5 ++ [(⟨(rd_T27 x1 x7).f0,(rd_T27 x1 x7).f1,(rd_T27 x1 x7).f2,(rd_T27 x1 x7).f3⟩ : S27)]) x6 (wrap64 (x7 + 1))) else (none)))) else (none)) else (none)) else (none)) else (if 0 ≤ x7 then (if x7 < (x1.length : Int) then (if x5.length < 3518437208883 then (spec_l11Join.l0 k x0 x1 (x5 ++ [(⟨(rd_T27 x1 x7).f0,(rd_T27 x1 x7).f1,(rd_T27 x1 x7).f2,(rd_T27 x1 x7).f3⟩ : S27)]) x6 (wrap64 (x7 + 1))) else (none)) else (none)) else (none))
end
def spec_l11Join.f (k : Nat) (l0 : List (S27)) (l1 : List (S27)) : Option ((List (S27))):=spec_l11Join.l0 k l0 l1 (([] : List (S27))) 0 0
def spec_l11Join.T6 : Bool × List (List Nat × List Nat):=(true,[([],[]),([],[]),([1],[1]),([0,2],[0,2]),([3],[3]),([4],[4]),([4],[4]),([5,6,4],[4,5,6]),([7,4],[4,7]),([4],[4]),([4],[4]),([9,10,4],[4,9,10]),([11,4],[4,11]),([8,12,4,4],[4,8,12]),([4,13],[4,13])])
def spec_l11Join.B6 : List Nat:=[0,0,2,7,15,31,31,127,255,31,31,1567,3615,8191,16383]
theorem spec_l11Join.tab6 : rtab .any (opsOf Try.f56 6) = spec_l11Join.T6:=by kernel_rfl
theorem spec_l11Join.bits6 : waitsOk spec_l11Join.T6.2 spec_l11Join.B6 = true:=by kernel_rfl
set_option maxHeartbeats 8000000 in
set_option maxRecDepth 100000 in
theorem spec_l11Join.calls (k : Nat) (A0 : Option Addr) (c0 : Nat) (l0 : List (S27)) (A1 : Option Addr) (c1 : Nat) (l1 : List (S27)) (r : List (S27)) (w : World) (hr0 : Kd.C k27 w A0 l0.length l0) (hc0 : l0.length ≤ c0) (hr1 : Kd.C k27 w A1 l1.length l1) (hc1 : l1.length ≤ c1) (h : spec_l11Join.f k l0 l1 = some r) :
  Calls Try.prog 56 #[.slice A0 l0.length c0,.slice A1 l1.length c1] w fun e w' => ∃ v0_ : Value,e = .returned (v0_) ∧ Kd.R k27 27 w' w.heap.size (fun _ => True) v0_ r ∧ Below w.heap.size w w':=by
 have hu27:=Try.underlying27
 have HR0:=Aside0.mk hr0
 have HC0:=Aside0.mk hc0
 clear hr0 hc0
 have HR1:=Aside0.mk hr1
 have HC1:=Aside0.mk hc1
 clear hr1 hc1
 have HB:=Aside0.mk (Below.refl w.heap.size w)
 have H : (spec_l11Join.l0 k l0 l1 (([] : List (S27))) 0 0) = some r:=h
 clear h
 obtain ⟨y146,hy146⟩ : ∃ y_ : List (S27),y_ = (([] : List (S27))):=⟨_,rfl⟩
 replace H : (spec_l11Join.l0 k l0 l1 y146 0 0) = some r:=by first | (rw [hy146];with_reducible exact H) | (have H2_:=(Option.bind_some _ _).symm.trans H;rw [hy146];with_reducible exact H2_) | (have H2_:=(Option.bind_some _ _).symm.trans H;with_reducible exact H2_) | with_reducible exact H | (rw [hy146];exact H) | exact H
 have Ny146:=Aside0.mk hy146
 clear hy146
 have H':=Aside0.mk H
 clear H
 go_enter Try.func56,Try.ntmps56
 go_wp2_with (first | ((with_reducible refine gate_dst (N:=8) rfl ?_);refine Kd.R_lit k27 _ 27 ?hg (N:=8) ?hd (xs:=([] : List (S27))) (inner:=[]) (ok:=fun _ => True) (okp:=fun _ => True) ?hr ?hp (fun _ hk => hk) trivial (Below.refl _ _) (Nat.le_refl _) (by simp) ?_;(case hd => rfl);(case hg => rfl);(case hr => first | (go_simp;done) | (go_simp;rfl));(case hp => exact (Reps.none _ _));intro v147 w3 ho4 hb hg_ hnew_;clear hg_ hnew_;(first | rw [← Ny146.out] at ho4 | (simp only [Int.reduceToNat] at ho4;rw [← Ny146.out] at ho4));have n0_:=Aside0.mk (Kd.R_lower ho4 (below_size (by repeat (first | (with_reducible first | exact HB.out | apply below_alloc | apply pw_below_drewN | apply below_drew1) | exact HB.out))));have n1_:=Aside0.mk (below_step (by repeat (first | (with_reducible first | exact HB.out | apply below_alloc | apply pw_below_drewN | apply below_drew1) | exact HB.out)) hb);clear HB;have HO148:=n0_;have HB:=n1_;clear n0_ n1_;clear hb ho4))
 go_loopg [5,6,7] k (fun kq v5 v6 v7 w' => ∃ (x5_1 : List (S27)) (x6_1 : Int) (x7_1 : Int),v6 = .int .i64 x6_1 ∧ v7 = .int .i64 x7_1 ∧ Aside0 (spec_l11Join.l0 kq l0 l1 x5_1 x6_1 x7_1 = some r) ∧ Aside0 (kq ≤ k) ∧ Aside0 (Kd.R k27 27 w' w.heap.size (fun _ => True) v5 x5_1) ∧ Aside0 (Below w.heap.size w w'))
 case atStart => exact ⟨(y146),(0),(0),(by first | rfl | (simp;done) | (simp [*];done)),(by first | rfl | (simp;done) | (simp [*];done)),H',⟨Nat.le_refl _⟩,⟨by (with_reducible repeat (first | apply Kd.R_alloc | apply Kd.R_drewN | apply Kd.R_drew));exact HO148.out⟩,⟨by repeat (first | (with_reducible first | exact HB.out | apply below_alloc | apply pw_below_drewN | apply below_drew1) | exact HB.out)⟩⟩
 case round =>
  clear H'
  try clear c1
  try clear p2
  obtain ⟨x5_1,x6_1,x7_1,rfl,rfl,HA,HK1,HO_5,HB⟩:=hrel
  cases gk with
  | zero => exact absurd HA.out (by simp [spec_l11Join.l0])
  | succ k1 =>
   have H:=HA.out
   clear HA
   simp only [spec_l11Join.l0] at H
   by_cases c5 : x7_1 < (l1.length : Int)
   rotate_left
   ·rw [if_neg c5] at H
    have c5b0 : decide (x7_1 < (l1.length : Int)) = false:=decide_eq_false c5
    clear c5
    by_cases c25 : 0 ≤ x6_1
    rotate_left
    ·rw [if_neg c25] at H
     exact absurd H (by simp)
    rw [if_pos c25] at H
    have c25b0:=eq_true c25
    have c25b1 : decide (0 ≤ x6_1) = true:=decide_eq_true c25
    clear c25
    by_cases c26 : x6_1 ≤ (l0.length : Int)
    rotate_left
    ·rw [if_neg c26] at H
     exact absurd H (by simp)
    rw [if_pos c26] at H
    have c26b0:=eq_true c26
    have c26b1 : decide (x6_1 ≤ (l0.length : Int)) = true:=decide_eq_true c26
    clear c26
    obtain ⟨y149,hy149⟩ : ∃ y_ : List (S27),y_ = (l0.drop (x6_1 : Int).toNat):=⟨_,rfl⟩
    replace H : (if x5_1.length + y149.length < 3518437208883 then (some (x5_1 ++ y149)) else (none)) = some r:=by first | (rw [hy149];with_reducible exact H) | (have H2_:=(Option.bind_some _ _).symm.trans H;rw [hy149];with_reducible exact H2_) | (have H2_:=(Option.bind_some _ _).symm.trans H;with_reducible exact H2_) | with_reducible exact H | (rw [hy149];exact H) | exact H
    have Ny149:=Aside0.mk hy149
    clear hy149
    by_cases c27 : x5_1.length + y149.length < 3518437208883
    rotate_left
    ·rw [if_neg c27] at H
     exact absurd H (by simp)
    rw [if_pos c27] at H
    have LMc27:=Aside0.mk c27
    clear c27
    obtain ⟨y153,hy153⟩ : ∃ y_ : List (S27),y_ = (x5_1 ++ y149):=⟨_,rfl⟩
    replace H : (some y153) = some r:=by first | (rw [hy153];with_reducible exact H) | (have H2_:=(Option.bind_some _ _).symm.trans H;rw [hy153];with_reducible exact H2_) | (have H2_:=(Option.bind_some _ _).symm.trans H;with_reducible exact H2_) | with_reducible exact H | (rw [hy153];exact H) | exact H
    have Ny153:=Aside0.mk hy153
    clear hy153
    obtain rfl:=Option.some.inj H
    have q28 : (x6_1 : Int) ≤ ((l0.length : Int) : Int):=of_decide_eq_true T5q1
    obtain ⟨i028,hi028,_,hsz28,_⟩:=info_parts info27
    have hroom28 : l0.length ≤ c0:=HC0.out
    have hC28 : Kd.C k27 _ A0 l0.length l0:=HR0.out
    have q028 : (0 : Int) ≤ (x6_1 : Int):=of_decide_eq_true T5q1
    have hcut28:=cut_from (P:=Try.prog) 23 27 .i64 Try.underlying23 hi028 4 hsz28 A0 l0.length c0 x6_1 q028 q28
    have hr28:=Kd.C_drop (m:=(x6_1 : Int).toNat) (c:=c0) hC28 (by omega) hroom28
    obtain ⟨A28,hA28⟩ : ∃ A1,A1 = (if c0 = (x6_1 : Int).toNat then A0 else (A0 : Option Addr).map (·.add ((x6_1 : Int).toNat * 4))):=⟨_,rfl⟩
    obtain ⟨c28,hc28⟩ : ∃ c1,c1 = c0 - (x6_1 : Int).toNat:=⟨_,rfl⟩
    have hy28 : y149.length = l0.length - (x6_1 : Int).toNat:=(by rw [Ny149.out,List.length_drop] <;> omega)
    rw [show (l0).drop (x6_1 : Int).toNat = y149 from Ny149.out.symm] at hr28
    replace hr28 : Kd.C k27 _ A28 y149.length y149:=(by rw [hA28];exact hr28)
    rw [← hy28,← hA28,← hc28] at hcut28
    have HR152:=Aside0.mk hr28
    have HC152:=Aside0.mk (show y149.length ≤ c28 from by rw [hy28,hc28];exact Nat.sub_le_sub_right hroom28 _)
    clear hr28 hC28 hroom28 hi028 hsz28 hc28
    have KY28:=Aside0.mk hy28
    have KA28:=Aside0.mk hA28
    clear hy28 hA28
    replace q28:=eq_true q28
    go_wp2_with (first | ((with_reducible refine gate_builtin (b:=.append) (xs:=#[.tmp 46,.tmp 49]) rfl ?_);at_builtin;refine Kd.R_append_rows k27 (w0:=w) w.heap.size rfl (.tmp 46) (.tmp 49) 23 27 (.agg #[(.string ⟨#[]⟩),(.int .i64 0),(.bool false),(.int .i64 0)]) 40 rfl Try.underlying23 info27 rfl (by decide) (by omega) u5 x5_1 y149 _ _ _ (fun _ => True) (fun _ => False) rfl rfl ?aO ?aR (fun _ _ h => h) (fun _ h => h.elim) ?aF ?aB ?aS ?aL ?_;(case aR => repeat (first | exact (Kd.C_below HR152.out HB.out) | (with_reducible refine Kd.C_alloc ?_ _) | (with_reducible refine Kd.C_drewN ?_ _) | (with_reducible refine Kd.C_drew ?_)));(case aB => exact (by repeat (first | (with_reducible first | exact HB.out | apply below_alloc | apply pw_below_drewN | apply below_drew1) | exact HB.out)));(case aF => exact (fun _ _ => trivial));(case aO => exact T5q2);(case aS => exact (below_size (by repeat (first | (with_reducible first | exact HB.out | apply below_alloc | apply pw_below_drewN | apply below_drew1) | exact HB.out))));(case aL => have:=LMc27.out;omega);intro v154 w29 ho hb hg hat;rw [← Ny153.out] at ho;have n0_:=Aside0.mk (hb);have n1_:=Aside0.mk (ho);clear HB;clear HO_5;have HB:=n0_;have HO155:=n1_;clear n0_ n1_;clear ho hb hg hat))
    go_ret
    exact ⟨_,by first | rfl | (simp [errW_none,errW_some] <;> rfl) | (simp [*,errW_none,errW_some] <;> rfl),by (with_reducible repeat (first | apply Kd.R_alloc | apply Kd.R_drewN | apply Kd.R_drew));exact HO155.out,by repeat (first | (with_reducible first | exact HB.out | apply below_alloc | apply pw_below_drewN | apply below_drew1) | exact HB.out)⟩
   rw [if_pos c5] at H
   have c5b0 : decide (x7_1 < (l1.length : Int)) = true:=decide_eq_true c5
   clear c5
   have H':=Aside0.mk H
   clear H
   go_wp2
   go_loopg [5,6] k1 (fun kq v5 v6 w' => ∃ (x5_2 : List (S27)) (x6_2 : Int),v6 = .int .i64 x6_2 ∧ Aside0 (spec_l11Join.l1 kq l0 l1 x5_2 x6_2 x7_1 = some r) ∧ Aside0 (kq ≤ k1) ∧ Aside0 (Kd.R k27 27 w' w.heap.size (fun _ => True) v5 x5_2) ∧ Aside0 (Below w.heap.size w w'))
   case atStart => exact ⟨(x5_1),(x6_1),(by first | rfl | (simp;done) | (simp [*];done)),H',⟨Nat.le_refl _⟩,⟨by (with_reducible repeat (first | apply Kd.R_alloc | apply Kd.R_drewN | apply Kd.R_drew));exact HO_5.out⟩,⟨by repeat (first | (with_reducible first | exact HB.out | apply below_alloc | apply pw_below_drewN | apply below_drew1) | exact HB.out)⟩⟩
   case round =>
    clear H'
    try clear c1
    try clear p2
    try clear c5
    try clear c5b0
    try clear p2
    obtain ⟨x5_2,x6_2,rfl,HA,HK2,HO_5,HB⟩:=hrel
    cases gk with
    | zero => exact absurd HA.out (by simp [spec_l11Join.l1])
    | succ k2 =>
     have H:=HA.out
     clear HA
     simp only [spec_l11Join.l1] at H
     by_cases c6 : x6_2 < (l0.length : Int)
     rotate_left
     ·rw [if_neg c6] at H
      have c6b0 : decide (x6_2 < (l0.length : Int)) = false:=decide_eq_false c6
      clear c6
      by_cases c20 : 0 ≤ x7_1
      rotate_left
      ·rw [if_neg c20] at H
       exact absurd H (by simp)
      rw [if_pos c20] at H
      have c20b0 : decide (0 ≤ x7_1) = true:=decide_eq_true c20
      clear c20
      by_cases c21 : x7_1 < (l1.length : Int)
      rotate_left
      ·rw [if_neg c21] at H
       exact absurd H (by simp)
      rw [if_pos c21] at H
      have c21b0 : decide (x7_1 < (l1.length : Int)) = true:=decide_eq_true c21
      clear c21
      by_cases c22 : x5_2.length < 3518437208883
      rotate_left
      ·rw [if_neg c22] at H
       exact absurd H (by simp)
      rw [if_pos c22] at H
      have LMc22:=Aside0.mk c22
      clear c22
      obtain ⟨y168,hy168⟩ : ∃ y_ : List (S27),y_ = (x5_2 ++ [(⟨(rd_T27 l1 x7_1).f0,(rd_T27 l1 x7_1).f1,(rd_T27 l1 x7_1).f2,(rd_T27 l1 x7_1).f3⟩ : S27)]):=⟨_,rfl⟩
      replace H : (spec_l11Join.l0 k2 l0 l1 y168 x6_2 (wrap64 (x7_1 + 1))) = some r:=by first | (rw [hy168];with_reducible exact H) | (have H2_:=(Option.bind_some _ _).symm.trans H;rw [hy168];with_reducible exact H2_) | (have H2_:=(Option.bind_some _ _).symm.trans H;with_reducible exact H2_) | with_reducible exact H | (rw [hy168];exact H) | exact H
      have Ny168:=Aside0.mk hy168
      clear hy168
      have H':=Aside0.mk H
      clear H
      try go_wp2
      have n0_:=Aside0.mk (Kd.R_drew HO_5.out)
      have n1_:=Aside0.mk (below_drew1 HB.out)
      clear HO_5
      clear HB
      have HO_5:=n0_
      have HB:=n1_
      clear n0_ n1_
      refine start_ (n:=15) (S:=fun w' => True) (ds:=[]) #[false,false,false,false,false,false,false,false,false,false,false,false,false,false,false] T5q3 rfl rfl trivial (fun hHeld => ?_);refine with_tabW spec_l11Join.tab6 spec_l11Join.bits6 (fun HT_ HW_ => ?_)
      generalize wr.drew = w23 at HO_5 HB hHeld ⊢
      refine pm_ (i:=0) (N:=some 15) (v:=?_) (a':=?_) rfl rfl (any_of HT_.out T5q3) (fun _ _ _ h => h) (Or.inl ⟨by rfl,?_⟩) ?_ ?_
      rotate_left
      ·intro w'
       go_simp
       with_reducible rfl
      rotate_left
      ·simp only [PU]
       rfl
      refine pm_ (i:=1) (N:=some 16) (v:=?_) (a':=?_) rfl rfl (any_of HT_.out T5q3) (fun _ _ _ h => h) (Or.inl ⟨by rfl,?_⟩) ?_ ?_
      rotate_left
      ·intro w'
       go_simp
       with_reducible rfl
      rotate_left
      ·simp only [PU]
       rfl
      refine pm_ (i:=2) (N:=some 17) (v:=?_) (a':=?_) rfl rfl (any_of HT_.out T5q3) (fun _ _ _ h => h) (Or.inl ⟨by rfl,?_⟩) ?_ ?_
      rotate_left
      ·intro w'
       go_simp
       with_reducible rfl
      rotate_left
      ·simp only [PU]
       rfl
      refine pm_ (i:=3) (N:=some 18) (v:=?_) (a':=?_) rfl rfl (any_of HT_.out T5q3) (fun _ _ _ h => h) (Or.inl ⟨by rfl,?_⟩) ?_ ?_
      rotate_left
      ·intro w'
       go_simp
       with_reducible rfl
      rotate_left
      ·simp only [PU]
       rfl
      refine pm_ (i:=4) (N:=some 19) (v:=?_) (a':=?_) rfl rfl (any_of HT_.out T5q3) (fun _ _ _ h => h) (Or.inl ⟨by rfl,?_⟩) ?_ ?_
      rotate_left
      ·intro w'
       go_simp
       with_reducible rfl
      rotate_left
      ·simp only [PU]
       rfl
      refine pm_ (i:=5) (N:=some 20) (v:=undef) (a':=?_) rfl rfl (any_of HT_.out T5q3) (fun _ _ _ h => h) (Or.inr ⟨by rfl,rfl⟩) ?_ ?_
      rotate_left
      ·simp only [PU]
       rfl
      refine pm_ (i:=6) (N:=some 21) (v:=undef) (a':=?_) rfl rfl (any_of HT_.out T5q3) (fun _ _ _ h => h) (Or.inr ⟨by rfl,rfl⟩) ?_ ?_
      rotate_left
      ·simp only [PU]
       rfl
      refine pm_ (i:=7) (N:=some 22) (v:=undef) (a':=?_) rfl rfl (any_of HT_.out T5q3) (fun _ _ _ h => h) (Or.inr ⟨by rfl,rfl⟩) ?_ ?_
      rotate_left
      ·simp only [PU]
       rfl
      refine pm_ (i:=8) (N:=some 23) (v:=undef) (a':=?_) rfl rfl (any_of HT_.out T5q3) (fun _ _ _ h => h) (Or.inr ⟨by rfl,rfl⟩) ?_ ?_
      rotate_left
      ·simp only [PU]
       rfl
      refine pm_ (i:=9) (N:=some 24) (v:=undef) (a':=?_) rfl rfl (any_of HT_.out T5q3) (fun _ _ _ h => h) (Or.inr ⟨by rfl,rfl⟩) ?_ ?_
      rotate_left
      ·simp only [PU]
       rfl
      refine pm_ (i:=10) (N:=some 25) (v:=undef) (a':=?_) rfl rfl (any_of HT_.out T5q3) (fun _ _ _ h => h) (Or.inr ⟨by rfl,rfl⟩) ?_ ?_
      rotate_left
      ·simp only [PU]
       rfl
      refine pm_ (i:=11) (N:=some 26) (v:=undef) (a':=?_) rfl rfl (any_of HT_.out T5q3) (fun _ _ _ h => h) (Or.inr ⟨by rfl,rfl⟩) ?_ ?_
      rotate_left
      ·simp only [PU]
       rfl
      refine pm_ (i:=12) (N:=some 27) (v:=undef) (a':=?_) rfl rfl (any_of HT_.out T5q3) (fun _ _ _ h => h) (Or.inr ⟨by rfl,rfl⟩) ?_ ?_
      rotate_left
      ·simp only [PU]
       rfl
      refine pm_ (i:=13) (N:=some 28) (v:=undef) (a':=?_) rfl rfl (any_of HT_.out T5q3) (fun _ _ _ h => h) (Or.inr ⟨by rfl,rfl⟩) ?_ ?_
      rotate_left
      ·simp only [PU]
       rfl
      refine pm_ (i:=14) (N:=some 29) (v:=?_) (a':=?_) rfl rfl (any_of HT_.out T5q3) (fun _ _ _ h => h) (Or.inl ⟨by rfl,?_⟩) ?_ ?_
      rotate_left
      ·intro w'
       go_simp
       with_reducible rfl
      rotate_left
      ·simp only [PU]
       rfl
      refine done_ (done_of HT_.out T5q3) ?_
      have p167 : 0 ≤ (x7_1 : Int):=of_decide_eq_true T5q1
      have q167 : x7_1 < (l1.length : Int):=of_decide_eq_true T5q1
      obtain ⟨ad167,e167,hx167_0,hx167_1,hx167_2,hx167_3⟩:=at_T27 HR1.out x7_1 p167 q167
      cases e167
      replace hx167_0:=(HB.out.cell (World.block_lt_of_cell? w _ hx167_0)).trans hx167_0
      replace hx167_1:=(HB.out.cell (World.block_lt_of_cell? w _ hx167_1)).trans hx167_1
      replace hx167_2:=(HB.out.cell (World.block_lt_of_cell? w _ hx167_2)).trans hx167_2
      replace hx167_3:=(HB.out.cell (World.block_lt_of_cell? w _ hx167_3)).trans hx167_3
      replace p167:=eq_true p167
      replace q167:=eq_true q167
      try go_wp2_with (first | ((with_reducible refine gate_builtin (b:=.append) (xs:=#[.tmp 39,.tmp 44]) rfl ?_);at_builtin;refine Kd.R_append k27 (w0:=w) w.heap.size rfl (.tmp 39) (.tmp 44) 23 27 (.agg #[(.string ⟨#[]⟩),(.int .i64 0),(.bool false),(.int .i64 0)]) 40 rfl Try.underlying23 info27 rfl (by decide) (by omega) u5 x5_2 (⟨(rd_T27 l1 x7_1).f0,(rd_T27 l1 x7_1).f1,(rd_T27 l1 x7_1).f2,(rd_T27 l1 x7_1).f3⟩ : S27) [.string ((rd_T27 l1 x7_1).f0),.int .i64 ((rd_T27 l1 x7_1).f1),.bool ((rd_T27 l1 x7_1).f2),.int .i64 ((rd_T27 l1 x7_1).f3)] (fun _ => True) (fun _ => False) rfl rfl ?aP (fun _ hk => hk.elim) ?aF ?aO ?aB ?aS ?aL ?_;(case aP => exact k27_mkM _ _ _ (⟨(rd_T27 l1 x7_1).f0,(rd_T27 l1 x7_1).f1,(rd_T27 l1 x7_1).f2,(rd_T27 l1 x7_1).f3⟩ : S27));(case aB => exact (by repeat (first | (with_reducible first | exact HB.out | apply below_alloc | apply pw_below_drewN | apply below_drew1) | exact HB.out)));(case aF => exact (fun _ _ => trivial));(case aO => exact T5q2);(case aS => exact (below_size (by repeat (first | (with_reducible first | exact HB.out | apply below_alloc | apply pw_below_drewN | apply below_drew1) | exact HB.out))));(case aL => have:=LMc22.out;omega);intro v169 w24 ho hb hg hat;rw [← Ny168.out] at ho;have n0_:=Aside0.mk (hb);have n1_:=Aside0.mk (ho);clear HB;clear HO_5;have HB:=n0_;have HO170:=n1_;clear n0_ n1_;clear ho hb hg hat))
      go_roundg k2
      case measure => have:=HK1.out;have:=HK2.out;omega
      case rel => exact ⟨(y168),(x6_2),(wrap64 (x7_1 + 1)),(by first | rfl | (simp;done) | (simp [*];done)),(by first | rfl | (simp;done) | (simp [*];done)),H',⟨by have:=HK1.out;have:=HK2.out;omega⟩,⟨by (with_reducible repeat (first | apply Kd.R_alloc | apply Kd.R_drewN | apply Kd.R_drew));exact HO170.out⟩,⟨by repeat (first | (with_reducible first | exact HB.out | apply below_alloc | apply pw_below_drewN | apply below_drew1) | exact HB.out)⟩⟩
     rw [if_pos c6] at H
     have c6b0 : decide (x6_2 < (l0.length : Int)) = true:=decide_eq_true c6
     clear c6
     by_cases c7 : 0 ≤ x6_2
     rotate_left
     ·rw [if_neg c7] at H
      exact absurd H (by simp)
     rw [if_pos c7] at H
     have c7b0 : decide (0 ≤ x6_2) = true:=decide_eq_true c7
     clear c7
     by_cases c8 : 0 ≤ x7_1
     rotate_left
     ·rw [if_neg c8] at H
      exact absurd H (by simp)
     rw [if_pos c8] at H
     have c8b0 : decide (0 ≤ x7_1) = true:=decide_eq_true c8
     clear c8
     by_cases c9 : x7_1 < (l1.length : Int)
     rotate_left
     ·rw [if_neg c9] at H
      exact absurd H (by simp)
     rw [if_pos c9] at H
     have c9b0 : decide (x7_1 < (l1.length : Int)) = true:=decide_eq_true c9
     clear c9
     replace H:=Option.bind_eq_some_iff.mp H
     obtain ⟨t158,A100,H⟩:=H
     replace H : (if t158 = true then (if x5_2.length < 3518437208883 then (spec_l11Join.l1 k2 l0 l1 (x5_2 ++ [(⟨(rd_T27 l0 x6_2).f0,(rd_T27 l0 x6_2).f1,(rd_T27 l0 x6_2).f2,(rd_T27 l0 x6_2).f3⟩ : S27)]) (wrap64 (x6_2 + 1)) x7_1) else (none)) else (if x5_2.length < 3518437208883 then (spec_l11Join.l0 k2 l0 l1 (x5_2 ++ [(⟨(rd_T27 l1 x7_1).f0,(rd_T27 l1 x7_1).f1,(rd_T27 l1 x7_1).f2,(rd_T27 l1 x7_1).f3⟩ : S27)]) x6_2 (wrap64 (x7_1 + 1))) else (none))) = some r:=H
     have A10:=Aside0.mk A100
     clear A100
     by_cases c11 : t158 = true
     ·subst c11
      have H1 : (if x5_2.length < 3518437208883 then (spec_l11Join.l1 k2 l0 l1 (x5_2 ++ [(⟨(rd_T27 l0 x6_2).f0,(rd_T27 l0 x6_2).f1,(rd_T27 l0 x6_2).f2,(rd_T27 l0 x6_2).f3⟩ : S27)]) (wrap64 (x6_2 + 1)) x7_1) else (none)) = some r:=by rw [if_pos rfl] at H;exact H
      clear H
      have H:=H1
      clear H1
      by_cases c12 : x5_2.length < 3518437208883
      rotate_left
      ·rw [if_neg c12] at H
       exact absurd H (by simp)
      rw [if_pos c12] at H
      have LMc12:=Aside0.mk c12
      clear c12
      obtain ⟨y160,hy160⟩ : ∃ y_ : List (S27),y_ = (x5_2 ++ [(⟨(rd_T27 l0 x6_2).f0,(rd_T27 l0 x6_2).f1,(rd_T27 l0 x6_2).f2,(rd_T27 l0 x6_2).f3⟩ : S27)]):=⟨_,rfl⟩
      replace H : (spec_l11Join.l1 k2 l0 l1 y160 (wrap64 (x6_2 + 1)) x7_1) = some r:=by first | (rw [hy160];with_reducible exact H) | (have H2_:=(Option.bind_some _ _).symm.trans H;rw [hy160];with_reducible exact H2_) | (have H2_:=(Option.bind_some _ _).symm.trans H;with_reducible exact H2_) | with_reducible exact H | (rw [hy160];exact H) | exact H
      have Ny160:=Aside0.mk hy160
      clear hy160
      have H':=Aside0.mk H
      clear H
      try go_wp2
      have n0_:=Aside0.mk (Kd.R_drew HO_5.out)
      have n1_:=Aside0.mk (below_drew1 HB.out)
      clear HO_5
      clear HB
      have HO_5:=n0_
      have HB:=n1_
      clear n0_ n1_
      have p156 : 0 ≤ (x6_2 : Int):=of_decide_eq_true T5q1
      have q156 : x6_2 < (l0.length : Int):=of_decide_eq_true T5q1
      obtain ⟨ad156,e156,hx156_0,hx156_1,hx156_2,hx156_3⟩:=at_T27 HR0.out x6_2 p156 q156
      have hw156_3:=hx156_3
      have hw156_2:=hx156_2
      have hw156_1:=hx156_1
      have hw156_0:=hx156_0
      cases e156
      replace hx156_0:=(HB.out.cell (World.block_lt_of_cell? w _ hx156_0)).trans hx156_0
      replace hx156_1:=(HB.out.cell (World.block_lt_of_cell? w _ hx156_1)).trans hx156_1
      replace hx156_2:=(HB.out.cell (World.block_lt_of_cell? w _ hx156_2)).trans hx156_2
      replace hx156_3:=(HB.out.cell (World.block_lt_of_cell? w _ hx156_3)).trans hx156_3
      replace p156:=eq_true p156
      replace q156:=eq_true q156
      have p157 : 0 ≤ (x7_1 : Int):=of_decide_eq_true T5q1
      have q157 : x7_1 < (l1.length : Int):=of_decide_eq_true T5q1
      obtain ⟨ad157,e157,hx157_0,hx157_1,hx157_2,hx157_3⟩:=at_T27 HR1.out x7_1 p157 q157
      have hw157_3:=hx157_3
      have hw157_2:=hx157_2
      have hw157_1:=hx157_1
      have hw157_0:=hx157_0
      cases e157
      replace hx157_0:=(HB.out.cell (World.block_lt_of_cell? w _ hx157_0)).trans hx157_0
      replace hx157_1:=(HB.out.cell (World.block_lt_of_cell? w _ hx157_1)).trans hx157_1
      replace hx157_2:=(HB.out.cell (World.block_lt_of_cell? w _ hx157_2)).trans hx157_2
      replace hx157_3:=(HB.out.cell (World.block_lt_of_cell? w _ hx157_3)).trans hx157_3
      replace p157:=eq_true p157
      replace q157:=eq_true q157
      refine start_ (n:=15) (S:=fun w' => w'.cell? (ad156.add ((x6_2).toNat * 4)) = some (.string ((rd_T27 l0 x6_2).f0)) ∧ w'.cell? ⟨(ad156.add ((x6_2).toNat * 4)).block,(ad156.add ((x6_2).toNat * 4)).off + 1,none⟩ = some (.int .i64 ((rd_T27 l0 x6_2).f1)) ∧ w'.cell? ⟨(ad156.add ((x6_2).toNat * 4)).block,(ad156.add ((x6_2).toNat * 4)).off + 2,none⟩ = some (.bool ((rd_T27 l0 x6_2).f2)) ∧ w'.cell? ⟨(ad156.add ((x6_2).toNat * 4)).block,(ad156.add ((x6_2).toNat * 4)).off + 3,none⟩ = some (.int .i64 ((rd_T27 l0 x6_2).f3)) ∧ w'.cell? (ad157.add ((x7_1).toNat * 4)) = some (.string ((rd_T27 l1 x7_1).f0)) ∧ w'.cell? ⟨(ad157.add ((x7_1).toNat * 4)).block,(ad157.add ((x7_1).toNat * 4)).off + 1,none⟩ = some (.int .i64 ((rd_T27 l1 x7_1).f1)) ∧ w'.cell? ⟨(ad157.add ((x7_1).toNat * 4)).block,(ad157.add ((x7_1).toNat * 4)).off + 2,none⟩ = some (.bool ((rd_T27 l1 x7_1).f2)) ∧ w'.cell? ⟨(ad157.add ((x7_1).toNat * 4)).block,(ad157.add ((x7_1).toNat * 4)).off + 3,none⟩ = some (.int .i64 ((rd_T27 l1 x7_1).f3))) (ds:=[]) #[false,false,false,false,false,false,false,false,false,false,false,false,false,false,false] T5q3 rfl rfl ⟨((HB.out.cell (World.block_lt_of_cell? w _ hw156_0)).trans hw156_0),((HB.out.cell (World.block_lt_of_cell? w _ hw156_1)).trans hw156_1),((HB.out.cell (World.block_lt_of_cell? w _ hw156_2)).trans hw156_2),((HB.out.cell (World.block_lt_of_cell? w _ hw156_3)).trans hw156_3),((HB.out.cell (World.block_lt_of_cell? w _ hw157_0)).trans hw157_0),((HB.out.cell (World.block_lt_of_cell? w _ hw157_1)).trans hw157_1),((HB.out.cell (World.block_lt_of_cell? w _ hw157_2)).trans hw157_2),((HB.out.cell (World.block_lt_of_cell? w _ hw157_3)).trans hw157_3)⟩ (fun hHeld => ?_);refine with_tabW spec_l11Join.tab6 spec_l11Join.bits6 (fun HT_ HW_ => ?_)
      generalize wr.drew = w13 at HO_5 HB hx156_0 hx156_1 hx156_2 hx156_3 hx157_0 hx157_1 hx157_2 hx157_3 hHeld ⊢
      refine pm_ (i:=0) (N:=some 15) (v:=?_) (a':=?_) rfl rfl (any_of HT_.out T5q3) (fun _ _ _ h => h) (Or.inl ⟨by rfl,?_⟩) ?_ ?_
      rotate_left
      ·intro w'
       go_simp
       with_reducible rfl
      rotate_left
      ·simp only [PU]
       rfl
      refine pm_ (i:=1) (N:=some 16) (v:=?_) (a':=?_) rfl rfl (any_of HT_.out T5q3) (fun _ _ _ h => h) (Or.inl ⟨by rfl,?_⟩) ?_ ?_
      rotate_left
      ·intro w'
       go_simp
       with_reducible rfl
      rotate_left
      ·simp only [PU]
       rfl
      refine pm_ (i:=2) (N:=some 17) (v:=?_) (a':=?_) rfl rfl (any_of HT_.out T5q3) (fun _ _ _ h => h) (Or.inl ⟨by rfl,?_⟩) ?_ ?_
      rotate_left
      ·intro w'
       go_simp
       with_reducible rfl
      rotate_left
      ·simp only [PU]
       rfl
      refine pm_ (i:=3) (N:=some 18) (v:=?_) (a':=?_) rfl rfl (any_of HT_.out T5q3) (fun _ _ _ h => h) (Or.inl ⟨by rfl,?_⟩) ?_ ?_
      rotate_left
      ·intro w'
       go_simp
       with_reducible rfl
      rotate_left
      ·simp only [PU]
       rfl
      refine pm_ (i:=4) (N:=some 19) (v:=?_) (a':=?_) rfl rfl (any_of HT_.out T5q3) (fun _ _ _ h => h) (Or.inl ⟨by rfl,?_⟩) ?_ ?_
      rotate_left
      ·intro w'
       go_simp
       with_reducible rfl
      rotate_left
      ·simp only [PU]
       rfl
      refine pm_ (i:=5) (N:=some 20) (v:=?_) (a':=?_) rfl rfl (any_of HT_.out T5q3) (fun _ _ _ h => h) (Or.inl ⟨by rfl,?_⟩) ?_ ?_
      rotate_left
      ·intro w'
       go_simp
       with_reducible rfl
      rotate_left
      ·simp only [PU]
       rfl
      refine pm_ (i:=6) (N:=some 21) (v:=?_) (a':=?_) rfl rfl (any_of HT_.out T5q3) (fun _ _ _ h => h) (Or.inl ⟨by rfl,?_⟩) ?_ ?_
      rotate_left
      ·intro w'
       go_simp
       with_reducible rfl
      rotate_left
      ·simp only [PU]
       rfl
      refine pm_ (i:=7) (N:=some 22) (v:=?_) (a':=?_) rfl rfl (any_of HT_.out T5q3) (fun _ _ _ h => h) (Or.inl ⟨by rfl,?_⟩) ?_ ?_
      rotate_left
      ·intro w'
       go_simp
       with_reducible rfl
      rotate_left
      ·simp only [PU]
       rfl
      refine pm_ (i:=9) (N:=some 24) (v:=?_) (a':=?_) rfl rfl (any_of HT_.out T5q3) (fun _ _ _ h => h) (Or.inl ⟨by rfl,?_⟩) ?_ ?_
      rotate_left
      ·intro w'
       go_simp
       with_reducible rfl
      rotate_left
      ·simp only [PU]
       rfl
      refine pm_ (i:=10) (N:=some 25) (v:=?_) (a':=?_) rfl rfl (any_of HT_.out T5q3) (fun _ _ _ h => h) (Or.inl ⟨by rfl,?_⟩) ?_ ?_
      rotate_left
      ·intro w'
       go_simp
       with_reducible rfl
      rotate_left
      ·simp only [PU]
       rfl
      refine pm_ (i:=11) (N:=some 26) (v:=?_) (a':=?_) rfl rfl (any_of HT_.out T5q3) (fun _ _ _ h => h) (Or.inl ⟨by rfl,?_⟩) ?_ ?_
      rotate_left
      ·intro w'
       go_simp
       with_reducible rfl
      rotate_left
      ·simp only [PU]
       rfl
      refine tm_ (i:=8) (N:=some 23) (v:=?_) (a':=?_) rfl rfl (take_ofW HT_.out HW_.out T5q3) (fun _ _ _ h => h) (Or.inl ⟨by rfl,?_⟩) hHeld ?_ ?_
      rotate_left
      ·rintro w' ⟨s0,s1,s2,s3,s4,s5,s6,s7⟩
       go_simp
       with_reducible rfl
      rotate_left
      ·simp only [PU]
       rfl
      refine tm_ (i:=12) (N:=some 27) (v:=?_) (a':=?_) rfl rfl (take_ofW HT_.out HW_.out T5q3) (fun _ _ _ h => h) (Or.inl ⟨by rfl,?_⟩) hHeld ?_ ?_
      rotate_left
      ·rintro w' ⟨s0,s1,s2,s3,s4,s5,s6,s7⟩
       go_simp
       with_reducible rfl
      rotate_left
      ·simp only [PU]
       rfl
      refine om_ (i:=13) (N:=some 28) rfl rfl (one_of HT_.out T5q3) (by decide) (fun K hK => ?_)
      refine goes_ Try.func42 T5q3 rfl #[.agg #[.string ((rd_T27 l0 x6_2).f0),.int .i64 ((rd_T27 l0 x6_2).f1),.bool ((rd_T27 l0 x6_2).f2),.int .i64 ((rd_T27 l0 x6_2).f3)],.agg #[.string ((rd_T27 l1 x7_1).f0),.int .i64 ((rd_T27 l1 x7_1).f1),.bool ((rd_T27 l1 x7_1).f2),.int .i64 ((rd_T27 l1 x7_1).f3)]] (by rfl) rfl rfl T5q4 ?_
      with_reducible refine (spec_l11Ahead.calls ((rd_T27 l0 x6_2).f0) ((rd_T27 l0 x6_2).f1) ((rd_T27 l0 x6_2).f2) ((rd_T27 l0 x6_2).f3) ((rd_T27 l1 x7_1).f0) ((rd_T27 l1 x7_1).f1) ((rd_T27 l1 x7_1).f2) ((rd_T27 l1 x7_1).f3) true _ A10.out).mono ?_
      rintro e w14 ⟨rfl,hb⟩
      refine ⟨_,rfl,?_⟩
      have n0_:=Aside0.mk (Kd.R_below T5q2 hb)
      have n1_:=Aside0.mk (below_step (by repeat (first | (with_reducible first | exact HB.out | apply below_alloc | apply pw_below_drewN | apply below_drew1) | exact HB.out)) hb)
      clear HO_5
      clear HB
      have HO_5:=n0_
      have HB:=n1_
      clear n0_ n1_
      (try clear hb)
      (try clear hb2)
      (try clear hk)
      (try clear hi)
      refine hK.out _ _ ⟨((HB.out.cell (World.block_lt_of_cell? w _ hw156_0)).trans hw156_0),((HB.out.cell (World.block_lt_of_cell? w _ hw156_1)).trans hw156_1),((HB.out.cell (World.block_lt_of_cell? w _ hw156_2)).trans hw156_2),((HB.out.cell (World.block_lt_of_cell? w _ hw156_3)).trans hw156_3),((HB.out.cell (World.block_lt_of_cell? w _ hw157_0)).trans hw157_0),((HB.out.cell (World.block_lt_of_cell? w _ hw157_1)).trans hw157_1),((HB.out.cell (World.block_lt_of_cell? w _ hw157_2)).trans hw157_2),((HB.out.cell (World.block_lt_of_cell? w _ hw157_3)).trans hw157_3)⟩ (fun hHeld => ?_)
      clear hK K
      refine norm_ (a':=?_) ?_ ?_
      rotate_left
      ·show Act.put _ (some 28) _ = _
       simp only [PU]
       rfl
      refine pm_ (i:=14) (N:=some 29) (v:=?_) (a':=?_) rfl rfl (any_of HT_.out T5q3) (fun _ _ _ h => h) (Or.inl ⟨by rfl,?_⟩) ?_ ?_
      rotate_left
      ·intro w'
       go_simp
       with_reducible rfl
      rotate_left
      ·simp only [PU]
       rfl
      refine done_ (done_of HT_.out T5q3) ?_
      have p159 : 0 ≤ (x6_2 : Int):=of_decide_eq_true T5q1
      have q159 : x6_2 < (l0.length : Int):=of_decide_eq_true T5q1
      obtain ⟨ad159,e159,hx159_0,hx159_1,hx159_2,hx159_3⟩:=at_T27 HR0.out x6_2 p159 q159
      obtain rfl : ad156 = ad159:=(by injection e159)
      replace hx159_0:=(HB.out.cell (World.block_lt_of_cell? w _ hx159_0)).trans hx159_0
      replace hx159_1:=(HB.out.cell (World.block_lt_of_cell? w _ hx159_1)).trans hx159_1
      replace hx159_2:=(HB.out.cell (World.block_lt_of_cell? w _ hx159_2)).trans hx159_2
      replace hx159_3:=(HB.out.cell (World.block_lt_of_cell? w _ hx159_3)).trans hx159_3
      replace p159:=eq_true p159
      replace q159:=eq_true q159
      try go_wp2_with (first | ((with_reducible refine gate_builtin (b:=.append) (xs:=#[.tmp 30,.tmp 35]) rfl ?_);at_builtin;refine Kd.R_append k27 (w0:=w) w.heap.size rfl (.tmp 30) (.tmp 35) 23 27 (.agg #[(.string ⟨#[]⟩),(.int .i64 0),(.bool false),(.int .i64 0)]) 40 rfl Try.underlying23 info27 rfl (by decide) (by omega) u5 x5_2 (⟨(rd_T27 l0 x6_2).f0,(rd_T27 l0 x6_2).f1,(rd_T27 l0 x6_2).f2,(rd_T27 l0 x6_2).f3⟩ : S27) [.string ((rd_T27 l0 x6_2).f0),.int .i64 ((rd_T27 l0 x6_2).f1),.bool ((rd_T27 l0 x6_2).f2),.int .i64 ((rd_T27 l0 x6_2).f3)] (fun _ => True) (fun _ => False) rfl rfl ?aP (fun _ hk => hk.elim) ?aF ?aO ?aB ?aS ?aL ?_;(case aP => exact k27_mkM _ _ _ (⟨(rd_T27 l0 x6_2).f0,(rd_T27 l0 x6_2).f1,(rd_T27 l0 x6_2).f2,(rd_T27 l0 x6_2).f3⟩ : S27));(case aB => exact (by repeat (first | (with_reducible first | exact HB.out | apply below_alloc | apply pw_below_drewN | apply below_drew1) | exact HB.out)));(case aF => exact (fun _ _ => trivial));(case aO => exact T5q2);(case aS => exact (below_size (by repeat (first | (with_reducible first | exact HB.out | apply below_alloc | apply pw_below_drewN | apply below_drew1) | exact HB.out))));(case aL => have:=LMc12.out;omega);intro v161 w15 ho hb hg hat;rw [← Ny160.out] at ho;have n0_:=Aside0.mk (hb);have n1_:=Aside0.mk (ho);clear HB;clear HO_5;have HB:=n0_;have HO162:=n1_;clear n0_ n1_;clear ho hb hg hat))
      go_roundg k2
      case measure => have:=HK1.out;have:=HK2.out;omega
      case rel => exact ⟨(y160),(wrap64 (x6_2 + 1)),(by first | rfl | (simp;done) | (simp [*];done)),H',⟨by have:=HK1.out;have:=HK2.out;omega⟩,⟨by (with_reducible repeat (first | apply Kd.R_alloc | apply Kd.R_drewN | apply Kd.R_drew));exact HO162.out⟩,⟨by repeat (first | (with_reducible first | exact HB.out | apply below_alloc | apply pw_below_drewN | apply below_drew1) | exact HB.out)⟩⟩
     replace c11:=Bool.eq_false_iff.mpr c11
     subst c11
     have H1 : (if x5_2.length < 3518437208883 then (spec_l11Join.l0 k2 l0 l1 (x5_2 ++ [(⟨(rd_T27 l1 x7_1).f0,(rd_T27 l1 x7_1).f1,(rd_T27 l1 x7_1).f2,(rd_T27 l1 x7_1).f3⟩ : S27)]) x6_2 (wrap64 (x7_1 + 1))) else (none)) = some r:=by rw [if_neg (show ¬ (false = true) by decide)] at H;exact H
     clear H
     have H:=H1
     clear H1
     by_cases c16 : x5_2.length < 3518437208883
     rotate_left
     ·rw [if_neg c16] at H
      exact absurd H (by simp)
     rw [if_pos c16] at H
     have LMc16:=Aside0.mk c16
     clear c16
     obtain ⟨y164,hy164⟩ : ∃ y_ : List (S27),y_ = (x5_2 ++ [(⟨(rd_T27 l1 x7_1).f0,(rd_T27 l1 x7_1).f1,(rd_T27 l1 x7_1).f2,(rd_T27 l1 x7_1).f3⟩ : S27)]):=⟨_,rfl⟩
     replace H : (spec_l11Join.l0 k2 l0 l1 y164 x6_2 (wrap64 (x7_1 + 1))) = some r:=by first | (rw [hy164];with_reducible exact H) | (have H2_:=(Option.bind_some _ _).symm.trans H;rw [hy164];with_reducible exact H2_) | (have H2_:=(Option.bind_some _ _).symm.trans H;with_reducible exact H2_) | with_reducible exact H | (rw [hy164];exact H) | exact H
     have Ny164:=Aside0.mk hy164
     clear hy164
     have H':=Aside0.mk H
     clear H
     try go_wp2
     have n0_:=Aside0.mk (Kd.R_drew HO_5.out)
     have n1_:=Aside0.mk (below_drew1 HB.out)
     clear HO_5
     clear HB
     have HO_5:=n0_
     have HB:=n1_
     clear n0_ n1_
     have p156 : 0 ≤ (x6_2 : Int):=of_decide_eq_true T5q1
     have q156 : x6_2 < (l0.length : Int):=of_decide_eq_true T5q1
     obtain ⟨ad156,e156,hx156_0,hx156_1,hx156_2,hx156_3⟩:=at_T27 HR0.out x6_2 p156 q156
     have hw156_3:=hx156_3
     have hw156_2:=hx156_2
     have hw156_1:=hx156_1
     have hw156_0:=hx156_0
     cases e156
     replace hx156_0:=(HB.out.cell (World.block_lt_of_cell? w _ hx156_0)).trans hx156_0
     replace hx156_1:=(HB.out.cell (World.block_lt_of_cell? w _ hx156_1)).trans hx156_1
     replace hx156_2:=(HB.out.cell (World.block_lt_of_cell? w _ hx156_2)).trans hx156_2
     replace hx156_3:=(HB.out.cell (World.block_lt_of_cell? w _ hx156_3)).trans hx156_3
     replace p156:=eq_true p156
     replace q156:=eq_true q156
     have p157 : 0 ≤ (x7_1 : Int):=of_decide_eq_true T5q1
     have q157 : x7_1 < (l1.length : Int):=of_decide_eq_true T5q1
     obtain ⟨ad157,e157,hx157_0,hx157_1,hx157_2,hx157_3⟩:=at_T27 HR1.out x7_1 p157 q157
     have hw157_3:=hx157_3
     have hw157_2:=hx157_2
     have hw157_1:=hx157_1
     have hw157_0:=hx157_0
     cases e157
     replace hx157_0:=(HB.out.cell (World.block_lt_of_cell? w _ hx157_0)).trans hx157_0
     replace hx157_1:=(HB.out.cell (World.block_lt_of_cell? w _ hx157_1)).trans hx157_1
     replace hx157_2:=(HB.out.cell (World.block_lt_of_cell? w _ hx157_2)).trans hx157_2
     replace hx157_3:=(HB.out.cell (World.block_lt_of_cell? w _ hx157_3)).trans hx157_3
     replace p157:=eq_true p157
     replace q157:=eq_true q157
     refine start_ (n:=15) (S:=fun w' => w'.cell? (ad156.add ((x6_2).toNat * 4)) = some (.string ((rd_T27 l0 x6_2).f0)) ∧ w'.cell? ⟨(ad156.add ((x6_2).toNat * 4)).block,(ad156.add ((x6_2).toNat * 4)).off + 1,none⟩ = some (.int .i64 ((rd_T27 l0 x6_2).f1)) ∧ w'.cell? ⟨(ad156.add ((x6_2).toNat * 4)).block,(ad156.add ((x6_2).toNat * 4)).off + 2,none⟩ = some (.bool ((rd_T27 l0 x6_2).f2)) ∧ w'.cell? ⟨(ad156.add ((x6_2).toNat * 4)).block,(ad156.add ((x6_2).toNat * 4)).off + 3,none⟩ = some (.int .i64 ((rd_T27 l0 x6_2).f3)) ∧ w'.cell? (ad157.add ((x7_1).toNat * 4)) = some (.string ((rd_T27 l1 x7_1).f0)) ∧ w'.cell? ⟨(ad157.add ((x7_1).toNat * 4)).block,(ad157.add ((x7_1).toNat * 4)).off + 1,none⟩ = some (.int .i64 ((rd_T27 l1 x7_1).f1)) ∧ w'.cell? ⟨(ad157.add ((x7_1).toNat * 4)).block,(ad157.add ((x7_1).toNat * 4)).off + 2,none⟩ = some (.bool ((rd_T27 l1 x7_1).f2)) ∧ w'.cell? ⟨(ad157.add ((x7_1).toNat * 4)).block,(ad157.add ((x7_1).toNat * 4)).off + 3,none⟩ = some (.int .i64 ((rd_T27 l1 x7_1).f3))) (ds:=[]) #[false,false,false,false,false,false,false,false,false,false,false,false,false,false,false] T5q3 rfl rfl ⟨((HB.out.cell (World.block_lt_of_cell? w _ hw156_0)).trans hw156_0),((HB.out.cell (World.block_lt_of_cell? w _ hw156_1)).trans hw156_1),((HB.out.cell (World.block_lt_of_cell? w _ hw156_2)).trans hw156_2),((HB.out.cell (World.block_lt_of_cell? w _ hw156_3)).trans hw156_3),((HB.out.cell (World.block_lt_of_cell? w _ hw157_0)).trans hw157_0),((HB.out.cell (World.block_lt_of_cell? w _ hw157_1)).trans hw157_1),((HB.out.cell (World.block_lt_of_cell? w _ hw157_2)).trans hw157_2),((HB.out.cell (World.block_lt_of_cell? w _ hw157_3)).trans hw157_3)⟩ (fun hHeld => ?_);refine with_tabW spec_l11Join.tab6 spec_l11Join.bits6 (fun HT_ HW_ => ?_)
     generalize wr.drew = w17 at HO_5 HB hx156_0 hx156_1 hx156_2 hx156_3 hx157_0 hx157_1 hx157_2 hx157_3 hHeld ⊢
     refine pm_ (i:=0) (N:=some 15) (v:=?_) (a':=?_) rfl rfl (any_of HT_.out T5q3) (fun _ _ _ h => h) (Or.inl ⟨by rfl,?_⟩) ?_ ?_
     rotate_left
     ·intro w'
      go_simp
      with_reducible rfl
     rotate_left
     ·simp only [PU]
      rfl
     refine pm_ (i:=1) (N:=some 16) (v:=?_) (a':=?_) rfl rfl (any_of HT_.out T5q3) (fun _ _ _ h => h) (Or.inl ⟨by rfl,?_⟩) ?_ ?_
     rotate_left
     ·intro w'
      go_simp
      with_reducible rfl
     rotate_left
     ·simp only [PU]
      rfl
     refine pm_ (i:=2) (N:=some 17) (v:=?_) (a':=?_) rfl rfl (any_of HT_.out T5q3) (fun _ _ _ h => h) (Or.inl ⟨by rfl,?_⟩) ?_ ?_
     rotate_left
     ·intro w'
      go_simp
      with_reducible rfl
     rotate_left
     ·simp only [PU]
      rfl
     refine pm_ (i:=3) (N:=some 18) (v:=?_) (a':=?_) rfl rfl (any_of HT_.out T5q3) (fun _ _ _ h => h) (Or.inl ⟨by rfl,?_⟩) ?_ ?_
     rotate_left
     ·intro w'
      go_simp
      with_reducible rfl
     rotate_left
     ·simp only [PU]
      rfl
     refine pm_ (i:=4) (N:=some 19) (v:=?_) (a':=?_) rfl rfl (any_of HT_.out T5q3) (fun _ _ _ h => h) (Or.inl ⟨by rfl,?_⟩) ?_ ?_
     rotate_left
     ·intro w'
      go_simp
      with_reducible rfl
     rotate_left
     ·simp only [PU]
      rfl
     refine pm_ (i:=5) (N:=some 20) (v:=?_) (a':=?_) rfl rfl (any_of HT_.out T5q3) (fun _ _ _ h => h) (Or.inl ⟨by rfl,?_⟩) ?_ ?_
     rotate_left
     ·intro w'
      go_simp
      with_reducible rfl
     rotate_left
     ·simp only [PU]
      rfl
     refine pm_ (i:=6) (N:=some 21) (v:=?_) (a':=?_) rfl rfl (any_of HT_.out T5q3) (fun _ _ _ h => h) (Or.inl ⟨by rfl,?_⟩) ?_ ?_
     rotate_left
     ·intro w'
      go_simp
      with_reducible rfl
     rotate_left
     ·simp only [PU]
      rfl
     refine pm_ (i:=7) (N:=some 22) (v:=?_) (a':=?_) rfl rfl (any_of HT_.out T5q3) (fun _ _ _ h => h) (Or.inl ⟨by rfl,?_⟩) ?_ ?_
     rotate_left
     ·intro w'
      go_simp
      with_reducible rfl
     rotate_left
     ·simp only [PU]
      rfl
     refine pm_ (i:=9) (N:=some 24) (v:=?_) (a':=?_) rfl rfl (any_of HT_.out T5q3) (fun _ _ _ h => h) (Or.inl ⟨by rfl,?_⟩) ?_ ?_
     rotate_left
     ·intro w'
      go_simp
      with_reducible rfl
     rotate_left
     ·simp only [PU]
      rfl
     refine pm_ (i:=10) (N:=some 25) (v:=?_) (a':=?_) rfl rfl (any_of HT_.out T5q3) (fun _ _ _ h => h) (Or.inl ⟨by rfl,?_⟩) ?_ ?_
     rotate_left
     ·intro w'
      go_simp
      with_reducible rfl
     rotate_left
     ·simp only [PU]
      rfl
     refine pm_ (i:=11) (N:=some 26) (v:=?_) (a':=?_) rfl rfl (any_of HT_.out T5q3) (fun _ _ _ h => h) (Or.inl ⟨by rfl,?_⟩) ?_ ?_
     rotate_left
     ·intro w'
      go_simp
      with_reducible rfl
     rotate_left
     ·simp only [PU]
      rfl
     refine tm_ (i:=8) (N:=some 23) (v:=?_) (a':=?_) rfl rfl (take_ofW HT_.out HW_.out T5q3) (fun _ _ _ h => h) (Or.inl ⟨by rfl,?_⟩) hHeld ?_ ?_
     rotate_left
     ·rintro w' ⟨s0,s1,s2,s3,s4,s5,s6,s7⟩
      go_simp
      with_reducible rfl
     rotate_left
     ·simp only [PU]
      rfl
     refine tm_ (i:=12) (N:=some 27) (v:=?_) (a':=?_) rfl rfl (take_ofW HT_.out HW_.out T5q3) (fun _ _ _ h => h) (Or.inl ⟨by rfl,?_⟩) hHeld ?_ ?_
     rotate_left
     ·rintro w' ⟨s0,s1,s2,s3,s4,s5,s6,s7⟩
      go_simp
      with_reducible rfl
     rotate_left
     ·simp only [PU]
      rfl
     refine om_ (i:=13) (N:=some 28) rfl rfl (one_of HT_.out T5q3) (by decide) (fun K hK => ?_)
     refine goes_ Try.func42 T5q3 rfl #[.agg #[.string ((rd_T27 l0 x6_2).f0),.int .i64 ((rd_T27 l0 x6_2).f1),.bool ((rd_T27 l0 x6_2).f2),.int .i64 ((rd_T27 l0 x6_2).f3)],.agg #[.string ((rd_T27 l1 x7_1).f0),.int .i64 ((rd_T27 l1 x7_1).f1),.bool ((rd_T27 l1 x7_1).f2),.int .i64 ((rd_T27 l1 x7_1).f3)]] (by rfl) rfl rfl T5q4 ?_
     with_reducible refine (spec_l11Ahead.calls ((rd_T27 l0 x6_2).f0) ((rd_T27 l0 x6_2).f1) ((rd_T27 l0 x6_2).f2) ((rd_T27 l0 x6_2).f3) ((rd_T27 l1 x7_1).f0) ((rd_T27 l1 x7_1).f1) ((rd_T27 l1 x7_1).f2) ((rd_T27 l1 x7_1).f3) false _ A10.out).mono ?_
     rintro e w18 ⟨rfl,hb⟩
     refine ⟨_,rfl,?_⟩
     have n0_:=Aside0.mk (Kd.R_below T5q2 hb)
     have n1_:=Aside0.mk (below_step (by repeat (first | (with_reducible first | exact HB.out | apply below_alloc | apply pw_below_drewN | apply below_drew1) | exact HB.out)) hb)
     clear HO_5
     clear HB
     have HO_5:=n0_
     have HB:=n1_
     clear n0_ n1_
     (try clear hb)
     (try clear hb2)
     (try clear hk)
     (try clear hi)
     refine hK.out _ _ ⟨((HB.out.cell (World.block_lt_of_cell? w _ hw156_0)).trans hw156_0),((HB.out.cell (World.block_lt_of_cell? w _ hw156_1)).trans hw156_1),((HB.out.cell (World.block_lt_of_cell? w _ hw156_2)).trans hw156_2),((HB.out.cell (World.block_lt_of_cell? w _ hw156_3)).trans hw156_3),((HB.out.cell (World.block_lt_of_cell? w _ hw157_0)).trans hw157_0),((HB.out.cell (World.block_lt_of_cell? w _ hw157_1)).trans hw157_1),((HB.out.cell (World.block_lt_of_cell? w _ hw157_2)).trans hw157_2),((HB.out.cell (World.block_lt_of_cell? w _ hw157_3)).trans hw157_3)⟩ (fun hHeld => ?_)
     clear hK K
     refine norm_ (a':=?_) ?_ ?_
     rotate_left
     ·show Act.put _ (some 28) _ = _
      simp only [PU]
      rfl
     refine pm_ (i:=14) (N:=some 29) (v:=?_) (a':=?_) rfl rfl (any_of HT_.out T5q3) (fun _ _ _ h => h) (Or.inl ⟨by rfl,?_⟩) ?_ ?_
     rotate_left
     ·intro w'
      go_simp
      with_reducible rfl
     rotate_left
     ·simp only [PU]
      rfl
     refine done_ (done_of HT_.out T5q3) ?_
     have p163 : 0 ≤ (x7_1 : Int):=of_decide_eq_true T5q1
     have q163 : x7_1 < (l1.length : Int):=of_decide_eq_true T5q1
     obtain ⟨ad163,e163,hx163_0,hx163_1,hx163_2,hx163_3⟩:=at_T27 HR1.out x7_1 p163 q163
     obtain rfl : ad157 = ad163:=(by injection e163)
     replace hx163_0:=(HB.out.cell (World.block_lt_of_cell? w _ hx163_0)).trans hx163_0
     replace hx163_1:=(HB.out.cell (World.block_lt_of_cell? w _ hx163_1)).trans hx163_1
     replace hx163_2:=(HB.out.cell (World.block_lt_of_cell? w _ hx163_2)).trans hx163_2
     replace hx163_3:=(HB.out.cell (World.block_lt_of_cell? w _ hx163_3)).trans hx163_3
     replace p163:=eq_true p163
     replace q163:=eq_true q163
     try go_wp2_with (first | ((with_reducible refine gate_builtin (b:=.append) (xs:=#[.tmp 39,.tmp 44]) rfl ?_);at_builtin;refine Kd.R_append k27 (w0:=w) w.heap.size rfl (.tmp 39) (.tmp 44) 23 27 (.agg #[(.string ⟨#[]⟩),(.int .i64 0),(.bool false),(.int .i64 0)]) 40 rfl Try.underlying23 info27 rfl (by decide) (by omega) u5 x5_2 (⟨(rd_T27 l1 x7_1).f0,(rd_T27 l1 x7_1).f1,(rd_T27 l1 x7_1).f2,(rd_T27 l1 x7_1).f3⟩ : S27) [.string ((rd_T27 l1 x7_1).f0),.int .i64 ((rd_T27 l1 x7_1).f1),.bool ((rd_T27 l1 x7_1).f2),.int .i64 ((rd_T27 l1 x7_1).f3)] (fun _ => True) (fun _ => False) rfl rfl ?aP (fun _ hk => hk.elim) ?aF ?aO ?aB ?aS ?aL ?_;(case aP => exact k27_mkM _ _ _ (⟨(rd_T27 l1 x7_1).f0,(rd_T27 l1 x7_1).f1,(rd_T27 l1 x7_1).f2,(rd_T27 l1 x7_1).f3⟩ : S27));(case aB => exact (by repeat (first | (with_reducible first | exact HB.out | apply below_alloc | apply pw_below_drewN | apply below_drew1) | exact HB.out)));(case aF => exact (fun _ _ => trivial));(case aO => exact T5q2);(case aS => exact (below_size (by repeat (first | (with_reducible first | exact HB.out | apply below_alloc | apply pw_below_drewN | apply below_drew1) | exact HB.out))));(case aL => have:=LMc16.out;omega);intro v165 w19 ho hb hg hat;rw [← Ny164.out] at ho;have n0_:=Aside0.mk (hb);have n1_:=Aside0.mk (ho);clear HB;clear HO_5;have HB:=n0_;have HO166:=n1_;clear n0_ n1_;clear ho hb hg hat))
     go_roundg k2
     case measure => have:=HK1.out;have:=HK2.out;omega
     case rel => exact ⟨(y164),(x6_2),(wrap64 (x7_1 + 1)),(by first | rfl | (simp;done) | (simp [*];done)),(by first | rfl | (simp;done) | (simp [*];done)),H',⟨by have:=HK1.out;have:=HK2.out;omega⟩,⟨by (with_reducible repeat (first | apply Kd.R_alloc | apply Kd.R_drewN | apply Kd.R_drew));exact HO166.out⟩,⟨by repeat (first | (with_reducible first | exact HB.out | apply below_alloc | apply pw_below_drewN | apply below_drew1) | exact HB.out)⟩⟩
end Go.Proofs.Ytkifijclehgiaaa.PFnRunJoinAt
