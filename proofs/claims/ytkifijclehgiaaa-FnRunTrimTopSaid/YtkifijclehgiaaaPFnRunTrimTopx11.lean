/-
 Functions that FnRunTrimTop reaches,each as a Lean function,and that Go comes to its answer: printed by the kit's printer,impl.seen's part laid by hand. Conditions: those that stand in each statement.
-/
import Derived.Test.YtkifijclehgiaaaPFnRunTrimTopx0
import Derived.Test.YtkifijclehgiaaaPFnRunTrimTopx3
import Derived.Test.YtkifijclehgiaaaPFnRunTrimTopx10
import Derived.Test.YtkifijclehgiaaaPu
namespace Go.Proofs.Ytkifijclehgiaaa.PFnRunTrimTop
open Go.RowKit Go.Proofs.YtkifijclehgiaaaW.PrintWords Go.Proofs.YtkifijclehgiaaaW.PrintLast Go.Proofs.YtkifijclehgiaaaW.PrintMore
attribute [local go_sem] max2_int min2_int max_two min_two max_three min_three max_four min_four   -- for this text's walks alone
set_option linter.unusedVariables false
set_option linter.unusedSimpArgs false

theorem T11q1 {p : Prop} (h : p := by kernel_rfl) : p := h
theorem T11q2 {p : Prop} (h : p := by (try simp only [List.map_toArray,List.map_cons,List.map_nil]);first | done | rfl | (simp only [List.length_drop,List.length_take];rfl)) : p := h
theorem T11q3 {p : Prop} (h : p := by first | (with_reducible assumption) | assumption) : p := h
theorem T11q4 {p : Prop} (h : p := by (with_reducible repeat (first | apply Kd.R_alloc | apply Kd.R_drewN | apply Kd.R_drew));exact HO_7.out) : p := h
theorem T11q5 {p : Prop} (h : p := by (with_reducible repeat (first | refine blk_drewN ?_ _ | refine blk_drew ?_ | refine blk_alloc ?_ _));exact BK334.out) : p := h
theorem T11q6 {p : Prop} (h : p := by (try simp only [List.map_toArray,List.map_cons,List.map_nil]);first | done | (simp only [hji18];rfl) | rfl | (simp only [List.length_drop,List.length_take];rfl)) : p := h
theorem T11q7 {p : Prop} (h : p := by (with_reducible repeat (first | apply Kd.R_alloc | apply Kd.R_drewN | apply Kd.R_drew));exact HO_10.out) : p := h
theorem T11q8 {p : Prop} (h : p := by (with_reducible repeat (first | apply Kd.R_alloc | apply Kd.R_drewN | apply Kd.R_drew));exact HO_52.out) : p := h
theorem T11q9 {p : Prop} (h : p := by (with_reducible repeat (first | refine blk_drewN ?_ _ | refine blk_drew ?_ | refine blk_alloc ?_ _));exact BK348.out) : p := h
theorem T11q10 {p : Prop} (h : p := by (with_reducible repeat (first | apply Kd.R_alloc | apply Kd.R_drewN | apply Kd.R_drew));exact Kd.R_mono HO_7.out (fun _ hk => ⟨hk.2,hk.1⟩)) : p := h
theorem T11q11 {p : Prop} (h : p := by (with_reducible repeat (first | apply Kd.R_alloc | apply Kd.R_drewN | apply Kd.R_drew));exact Kd.R_mono HO_52.out (fun _ hk => ⟨hk.2,hk.1⟩)) : p := h
/-! ### impl_RunTrim: function 26 -/
mutual
def impl_RunTrim.l0 : Nat → List (S27) → List Int → Bool → List (S27) → List (S27) → Int → Int → Option ((List (S27)))
 | 0,_,_,_,_,_,_,_ => none
 | k + 1,x0,x1,x2,x7,x17,x18,x19 => if x19 < x18 then (if 0 ≤ x19 then (if x19 < (x17.length : Int) then (if x19 = 0 then (if x7.length < 3518437208883 then (impl_RunTrim.l0 k x0 x1 x2 (x7 ++ [(⟨(rd_T27 x17 x19).f0,(rd_T27 x17 x19).f1,(rd_T27 x17 x19).f2,(rd_T27 x17 x19).f3⟩ : S27)]) x17 x18 (wrap64 (x19 + 1))) else (none)) else (if 0 ≤ (wrap64 (x19 - 1)) then (if (wrap64 (x19 - 1)) < (x0.length : Int) then (if ((rd_T27 x0 (wrap64 (x19 - 1))).f0).toList = ((rd_T27 x17 x19).f0).toList then ((impl_seen.f x1 ((rd_T27 x17 x19).f0) ((rd_T27 x17 x19).f1) ((rd_T27 x17 x19).f2) ((rd_T27 x17 x19).f3) ((rd_T27 x0 (wrap64 (x19 - 1))).f0) ((rd_T27 x0 (wrap64 (x19 - 1))).f1) ((rd_T27 x0 (wrap64 (x19 - 1))).f2) ((rd_T27 x0 (wrap64 (x19 - 1))).f3)).bind fun t340 => (if t340 = true then (if x7.length < 3518437208883 then (impl_RunTrim.l0 k x0 x1 x2 (x7 ++ [(⟨(rd_T27 x17 x19).f0,(rd_T27 x17 x19).f1,(rd_T27 x17 x19).f2,(rd_T27 x17 x19).f3⟩ : S27)]) x17 x18 (wrap64 (x19 + 1))) else (none)) else (impl_RunTrim.l0 k x0 x1 x2 x7 x17 x18 (wrap64 (x19 + 1))))) else (if x7.length < 3518437208883 then (impl_RunTrim.l0 k x0 x1 x2 (x7 ++ [(⟨(rd_T27 x17 x19).f0,(rd_T27 x17 x19).f1,(rd_T27 x17 x19).f2,(rd_T27 x17 x19).f3⟩ : S27)]) x17 x18 (wrap64 (x19 + 1))) else (none))) else (none)) else (none))) else (none)) else (none)) else (impl_RunTrim.l1 k x2 x7 ([] : List (S27)) x7 (x7.length : Int) 0)
def impl_RunTrim.l1 : Nat → Bool → List (S27) → List (S27) → List (S27) → Int → Int → Option ((List (S27)))
 | 0,_,_,_,_,_,_ => none
 | k + 1,x2,x7,x10,x52,x53,x54 => if x54 < x53 then (if 0 ≤ x54 then (if x54 < (x52.length : Int) then (if (wrap64 (x54 + 1)) = (x7.length : Int) then (if x2 = true then (if ((rd_T27 x52 x54).f2 = true) then (impl_RunTrim.l1 k x2 x7 x10 x52 x53 (wrap64 (x54 + 1))) else (if x10.length < 3518437208883 then (impl_RunTrim.l1 k x2 x7 (x10 ++ [(⟨(rd_T27 x52 x54).f0,(rd_T27 x52 x54).f1,(rd_T27 x52 x54).f2,(rd_T27 x52 x54).f3⟩ : S27)]) x52 x53 (wrap64 (x54 + 1))) else (none))) else (if x10.length < 3518437208883 then (impl_RunTrim.l1 k x2 x7 (x10 ++ [(⟨(rd_T27 x52 x54).f0,(rd_T27 x52 x54).f1,(rd_T27 x52 x54).f2,(rd_T27 x52 x54).f3⟩ : S27)]) x52 x53 (wrap64 (x54 + 1))) else (none))) else (if 0 ≤ (wrap64 (x54 + 1)) then (if (wrap64 (x54 + 1)) < (x7.length : Int) then (if x2 = true then (if (¬ ((rd_T27 x7 (wrap64 (x54 + 1))).f0).toList = ((rd_T27 x52 x54).f0).toList) then (if ((rd_T27 x52 x54).f2 = true) then (impl_RunTrim.l1 k x2 x7 x10 x52 x53 (wrap64 (x54 + 1))) else (if x10.length < 3518437208883 then (impl_RunTrim.l1 k x2 x7 (x10 ++ [(⟨(rd_T27 x52 x54).f0,(rd_T27 x52 x54).f1,(rd_T27 x52 x54).f2,(rd_T27 x52 x54).f3⟩ : S27)]) x52 x53 (wrap64 (x54 + 1))) else (none))) else (if x10.length < 3518437208883 then (impl_RunTrim.l1 k x2 x7 (x10 ++ [(⟨(rd_T27 x52 x54).f0,(rd_T27 x52 x54).f1,(rd_T27 x52 x54).f2,(rd_T27 x52 x54).f3⟩ : S27)]) x52 x53 (wrap64 (x54 + 1))) else (none))) else (if x10.length < 3518437208883 then (impl_RunTrim.l1 k x2 x7 (x10 ++ [(⟨(rd_T27 x52 x54).f0,(rd_T27 x52 x54).f1,(rd_T27 x52 x54).f2,(rd_T27 x52 x54).f3⟩ : S27)]) x52 x53 (wrap64 (x54 + 1))) else (none))) else (none)) else (none))) else (none)) else (none)) else (some x10)
end
def impl_RunTrim.f (k : Nat) (l0 : List (S27)) (l1 : List Int) (a2 : Bool) : Option ((List (S27))):=(impl_RunOk.f k l0).bind fun t332 => (if t332 = true then (impl_RunTrim.l0 k l0 l1 a2 ([] : List (S27)) l0 (l0.length : Int) 0) else (some ([] : List (S27))))
def impl_RunTrim.T7 : Bool × List (List Nat × List Nat):=(true,[([],[]),([0],[0]),([1],[1]),([2],[2]),([2],[2]),([4,2],[2,4]),([3,5,2],[2,3,5]),([6,2],[2,6]),([7,2],[2,7]),([2],[2]),([9,2],[2,9]),([8,10,2],[2,8,10]),([2,11],[2,11]),([12,2],[12]),([13],[13]),([13],[13]),([13],[13]),([13],[13]),([17,13],[13,17]),([16,18,13],[13,16,18]),([19,13],[13,19]),([14,15,20,13,13],[13,14,15,20]),([13,21],[13,21])])
def impl_RunTrim.B7 : List Nat:=[0,1,3,7,7,23,63,127,255,7,519,2047,4095,8191,16383,16383,16383,16383,147455,475135,999423,2097151,4194303]
theorem impl_RunTrim.tab7 : rtab .any (opsOf Try.f26 7) = impl_RunTrim.T7:=by kernel_rfl
theorem impl_RunTrim.bits7 : waitsOk impl_RunTrim.T7.2 impl_RunTrim.B7 = true:=by kernel_rfl
def impl_RunTrim.T14 : Bool × List (List Nat × List Nat):=(true,[([],[]),([0],[0]),([],[]),([2],[2]),([1,3],[1,3]),([4],[4]),([5],[5]),([5],[5]),([7,5],[5,7]),([6,8,5],[5,6,8]),([9,5],[5,9]),([10,5],[5,10]),([5],[5]),([12,5],[5,12]),([11,13,5],[5,11,13]),([5,14],[5,14]),([15,5,0,1,2,3,4,5,6,7,8,9,10,11,12,13,14,15],[15])])
def impl_RunTrim.B14 : List Nat:=[0,1,0,4,15,31,63,63,191,511,1023,2047,63,4159,16383,32767,65535]
theorem impl_RunTrim.tab14 : rtab .any (opsOf Try.f26 14) = impl_RunTrim.T14:=by kernel_rfl
theorem impl_RunTrim.bits14 : waitsOk impl_RunTrim.T14.2 impl_RunTrim.B14 = true:=by kernel_rfl
set_option maxHeartbeats 8000000 in
set_option maxRecDepth 100000 in
theorem impl_RunTrim.calls (k : Nat) (A0 : Option Addr) (c0 : Nat) (l0 : List (S27)) (A1 : Option Addr) (c1 : Nat) (l1 : List Int) (a2 : Bool) (r : List (S27)) (w : World) (hr0 : Kd.C k27 w A0 l0.length l0) (hc0 : l0.length ≤ c0) (hr1 : Kd.C (Kd.int .i64) w A1 l1.length l1) (hc1 : l1.length ≤ c1) (h : impl_RunTrim.f k l0 l1 a2 = some r) :
  Calls Try.prog 26 #[.slice A0 l0.length c0,.slice A1 l1.length c1,.bool a2] w fun e w' => ∃ v0_ : Value,e = .returned (v0_) ∧ Kd.R k27 27 w' w.heap.size (fun _ => True) v0_ r ∧ Below w.heap.size w w':=by
 have hu27:=Try.underlying27
 have HR0:=Aside0.mk hr0
 have HC0:=Aside0.mk hc0
 clear hr0 hc0
 have HR1:=Aside0.mk hr1
 have HC1:=Aside0.mk hc1
 clear hr1 hc1
 have HB:=Aside0.mk (Below.refl w.heap.size w)
 have H : ((impl_RunOk.f k l0).bind fun t332 => (if t332 = true then (impl_RunTrim.l0 k l0 l1 a2 ([] : List (S27)) l0 (l0.length : Int) 0) else (some ([] : List (S27))))) = some r:=h
 clear h
 replace H:=Option.bind_eq_some_iff.mp H
 obtain ⟨t332,A40,H⟩:=H
 replace H : (if t332 = true then (impl_RunTrim.l0 k l0 l1 a2 ([] : List (S27)) l0 (l0.length : Int) 0) else (some ([] : List (S27)))) = some r:=H
 have A4:=Aside0.mk A40
 clear A40
 by_cases c5 : t332 = true
 rotate_left
 ·replace c5:=Bool.eq_false_iff.mpr c5
  subst c5
  have H1 : (some ([] : List (S27))) = some r:=by rw [if_neg (show ¬ (false = true) by decide)] at H;exact H
  clear H
  have H:=H1
  clear H1
  obtain rfl:=Option.some.inj H
  go_enter Try.func26,Try.ntmps26
  go_wp2_with (first | ((with_reducible refine gate_callee (f:=28) rfl ?_);refine goesL_ (some 15) rfl rfl Try.func28 T11q1 rfl #[.slice A0 l0.length c0] rfl T11q2 ?_;(with_reducible refine (impl_RunOk.calls k _ _ l0 false _ ?side1 ?side2 A4.out).mono ?_);(case side1 => repeat (first | exact HR0.out | (with_reducible refine Kd.C_alloc ?_ _) | (with_reducible refine Kd.C_drewN ?_ _) | (with_reducible refine Kd.C_drew ?_)));(case side2 => exact HC0.out);rintro e w104 ⟨rfl,hb⟩;refine ⟨_,rfl,?_⟩;have n0_:=Aside0.mk (below_step (by repeat (first | (with_reducible first | exact HB.out | apply below_alloc | apply pw_below_drewN | apply below_drew1) | exact HB.out)) hb);clear HB;have HB:=n0_;clear n0_;(try clear hb);(try clear hb2);(try clear hk);(try clear hi)))
  go_ret
  exact ⟨_,by first | rfl | (simp [errW_none,errW_some] <;> rfl) | (simp [*,errW_none,errW_some] <;> rfl),by first | exact Kd.R_nil _ _ _ _ _ | exact Kd.N_nil _ _ _ _ _ | exact Kd.V_nil _ _ _ _ _ | exact Kd.Q_nil _ _ _ _ _ | exact Kd.S_nil _ _ _ _ _,by repeat (first | (with_reducible first | exact HB.out | apply below_alloc | apply pw_below_drewN | apply below_drew1) | exact HB.out)⟩
 subst c5
 have H1 : (impl_RunTrim.l0 k l0 l1 a2 ([] : List (S27)) l0 (l0.length : Int) 0) = some r:=by rw [if_pos rfl] at H;exact H
 clear H
 have H:=H1
 clear H1
 have H':=Aside0.mk H
 clear H
 go_enter Try.func26,Try.ntmps26
 go_wp2_with (first | ((with_reducible refine gate_callee (f:=28) rfl ?_);refine goesL_ (some 15) rfl rfl Try.func28 T11q1 rfl #[.slice A0 l0.length c0] rfl T11q2 ?_;(with_reducible refine (impl_RunOk.calls k _ _ l0 true _ ?side1 ?side2 A4.out).mono ?_);(case side1 => repeat (first | exact HR0.out | (with_reducible refine Kd.C_alloc ?_ _) | (with_reducible refine Kd.C_drewN ?_ _) | (with_reducible refine Kd.C_drew ?_)));(case side2 => exact HC0.out);rintro e w6 ⟨rfl,hb⟩;refine ⟨_,rfl,?_⟩;have n0_:=Aside0.mk (below_step (by repeat (first | (with_reducible first | exact HB.out | apply below_alloc | apply pw_below_drewN | apply below_drew1) | exact HB.out)) hb);clear HB;have HB:=n0_;clear n0_;(try clear hb);(try clear hb2);(try clear hk);(try clear hi)))
 go_loopg [7,19] k (fun kq v7 v19 w' => ∃ (x7_1 : List (S27)) (x19_1 : Int),v19 = .int .i64 x19_1 ∧ Aside0 (impl_RunTrim.l0 kq l0 l1 a2 x7_1 l0 (l0.length : Int) x19_1 = some r) ∧ Aside0 (kq ≤ k) ∧ Aside0 (Kd.R k27 27 w' w.heap.size (fun _ => True) v7 x7_1) ∧ Aside0 (Below w.heap.size w w'))
 case atStart => exact ⟨(([] : List (S27))),(0),(by first | rfl | (simp;done) | (simp [*];done)),H',⟨Nat.le_refl _⟩,⟨by first | exact Kd.R_nil _ _ _ _ _ | exact Kd.N_nil _ _ _ _ _ | exact Kd.V_nil _ _ _ _ _ | exact Kd.Q_nil _ _ _ _ _ | exact Kd.S_nil _ _ _ _ _⟩,⟨by repeat (first | (with_reducible first | exact HB.out | apply below_alloc | apply pw_below_drewN | apply below_drew1) | exact HB.out)⟩⟩
 case round =>
  clear H'
  try clear c1
  try clear c2
  try clear p2
  try clear c5
  obtain ⟨x7_1,x19_1,rfl,HA,HK1,HO_7,HB⟩:=hrel
  cases gk with
  | zero => exact absurd HA.out (by simp [impl_RunTrim.l0])
  | succ k1 =>
   have H:=HA.out
   clear HA
   simp only [impl_RunTrim.l0] at H
   by_cases c7 : x19_1 < (l0.length : Int)
   ·rw [if_pos c7] at H
    have c7b0 : decide (x19_1 < (l0.length : Int)) = true:=decide_eq_true c7
    clear c7
    by_cases c8 : 0 ≤ x19_1
    rotate_left
    ·rw [if_neg c8] at H
     exact absurd H (by simp)
    rw [if_pos c8] at H
    have c8b0 : decide (0 ≤ x19_1) = true:=decide_eq_true c8
    clear c8
    by_cases c9 : x19_1 < (l0.length : Int)
    rotate_left
    ·rw [if_neg c9] at H
     exact absurd H (by simp)
    rw [if_pos c9] at H
    have c9b0 : decide (x19_1 < (l0.length : Int)) = true:=decide_eq_true c9
    clear c9
    by_cases c10 : x19_1 = 0
    ·rw [if_pos c10] at H
     have c10b0 : (x19_1 == 0) = true:=beq_iff_eq.mpr c10
     have c10b1 : (x19_1 != 0) = false:=bne_eq_false_iff_eq.mpr c10
     clear c10
     by_cases c11 : x7_1.length < 3518437208883
     rotate_left
     ·rw [if_neg c11] at H
      exact absurd H (by simp)
     rw [if_pos c11] at H
     have LMc11:=Aside0.mk c11
     clear c11
     obtain ⟨y335,hy335⟩ : ∃ y_ : List (S27),y_ = (x7_1 ++ [(⟨(rd_T27 l0 x19_1).f0,(rd_T27 l0 x19_1).f1,(rd_T27 l0 x19_1).f2,(rd_T27 l0 x19_1).f3⟩ : S27)]):=⟨_,rfl⟩
     replace H : (impl_RunTrim.l0 k1 l0 l1 a2 y335 l0 (l0.length : Int) (wrap64 (x19_1 + 1))) = some r:=by first | (rw [hy335];with_reducible exact H) | (have H2_:=(Option.bind_some _ _).symm.trans H;rw [hy335];with_reducible exact H2_) | (have H2_:=(Option.bind_some _ _).symm.trans H;with_reducible exact H2_) | with_reducible exact H | (rw [hy335];exact H) | exact H
     have Ny335:=Aside0.mk hy335
     clear hy335
     have H':=Aside0.mk H
     clear H
     have p333 : 0 ≤ (x19_1 : Int):=of_decide_eq_true T11q3
     have q333 : x19_1 < (l0.length : Int):=of_decide_eq_true T11q3
     obtain ⟨ad333,e333,hx333_0,hx333_1,hx333_2,hx333_3⟩:=at_T27 HR0.out x19_1 p333 q333
     cases e333
     replace hx333_0:=(HB.out.cell (World.block_lt_of_cell? w _ hx333_0)).trans hx333_0
     replace hx333_1:=(HB.out.cell (World.block_lt_of_cell? w _ hx333_1)).trans hx333_1
     replace hx333_2:=(HB.out.cell (World.block_lt_of_cell? w _ hx333_2)).trans hx333_2
     replace hx333_3:=(HB.out.cell (World.block_lt_of_cell? w _ hx333_3)).trans hx333_3
     replace p333:=eq_true p333
     replace q333:=eq_true q333
     try go_wp2_with (first | ((with_reducible refine gate_dst (N:=9) rfl ?_);refine box_event ?hg (N:=9) ?hd (cs:=#[.string (⟨#[]⟩ : ByteArray),.int .i64 0,.bool false,.int .i64 0]) (t:=27) ?hr ?_;(case hd => rfl);(case hg => rfl);(case hr => first | (go_simp;done) | (go_simp;rfl));intro gb334 hg w12 hbox hb;have n0_:=Aside0.mk (Kd.R_below (Kd.R_elderB T11q4 gb334 (Nat.le_of_eq hg.symm)) hb);have n1_:=Aside0.mk (below_step (by repeat (first | (with_reducible first | exact HB.out | apply below_alloc | apply pw_below_drewN | apply below_drew1) | exact HB.out)) hb);have n2_:=Aside0.mk (hbox);have n3_:=Aside0.mk ((by rw [hg];exact (below_size (by repeat (first | (with_reducible first | exact HB.out | apply below_alloc | apply pw_below_drewN | apply below_drew1) | exact HB.out))) : w.heap.size ≤ gb334));have n4_:=Aside0.mk ((by rw [hg];exact (below_size (by repeat (first | (with_reducible first | exact HB.out | apply below_alloc | apply pw_below_drewN | apply below_drew1) | exact HB.out))) : w.heap.size ≤ gb334));clear HO_7;clear HB;have HO_7:=n0_;have HB:=n1_;have BK334:=n2_;have GW334:=n3_;have GE334:=n4_;clear n0_ n1_ n2_ n3_ n4_;clear hb hbox hg;have hcz13_0 : w12.cell? ⟨gb334,0,none⟩ = some (.string (⟨#[]⟩ : ByteArray)):=(blk_cell BK334.out 0).trans rfl;have hcz13_1 : w12.cell? ⟨gb334,1,none⟩ = some (.int .i64 0):=(blk_cell BK334.out 1).trans rfl;have hcz13_2 : w12.cell? ⟨gb334,2,none⟩ = some (.bool false):=(blk_cell BK334.out 2).trans rfl;have hcz13_3 : w12.cell? ⟨gb334,3,none⟩ = some (.int .i64 0):=(blk_cell BK334.out 3).trans rfl;have hfz13_0:=blk_frozen BK334.out 0;have hfz13_1:=blk_frozen BK334.out 1;have hfz13_2:=blk_frozen BK334.out 2;have hfz13_3:=blk_frozen BK334.out 3))
     have n0_ : Aside0 (Kd.R k27 27 ((((w12.setCell ⟨gb334,0,none⟩ (.string ((rd_T27 l0 x19_1).f0))).setCell ⟨gb334,1,none⟩ (.int .i64 ((rd_T27 l0 x19_1).f1))).setCell ⟨gb334,2,none⟩ (.bool ((rd_T27 l0 x19_1).f2))).setCell ⟨gb334,3,none⟩ (.int .i64 ((rd_T27 l0 x19_1).f3))) w.heap.size (fun k_ => k_ ≠ gb334) u7 x7_1):=⟨by (with_reducible repeat (first | apply Kd.R_alloc | apply Kd.R_drewN | apply Kd.R_drew));exact Kd.R_mono (Kd.R_far (p:=⟨gb334,3,none⟩) (Kd.R_far (p:=⟨gb334,2,none⟩) (Kd.R_far (p:=⟨gb334,1,none⟩) (Kd.R_far (p:=⟨gb334,0,none⟩) (Kd.R_mono HO_7.out (fun k_ hk => (⟨hk,hk.2⟩ : _ ∧ k_ ≠ gb334))) (fun _ hk => hk.2) (.string ((rd_T27 l0 x19_1).f0))) (fun _ hk => hk.2) (.int .i64 ((rd_T27 l0 x19_1).f1))) (fun _ hk => hk.2) (.bool ((rd_T27 l0 x19_1).f2))) (fun _ hk => hk.2) (.int .i64 ((rd_T27 l0 x19_1).f3))) (fun _ hk => hk.1.2)⟩
     have n1_ : Aside0 (((((w12.setCell ⟨gb334,0,none⟩ (.string ((rd_T27 l0 x19_1).f0))).setCell ⟨gb334,1,none⟩ (.int .i64 ((rd_T27 l0 x19_1).f1))).setCell ⟨gb334,2,none⟩ (.bool ((rd_T27 l0 x19_1).f2))).setCell ⟨gb334,3,none⟩ (.int .i64 ((rd_T27 l0 x19_1).f3))).heap[gb334]? = some (.cells #[.string ((rd_T27 l0 x19_1).f0),.int .i64 ((rd_T27 l0 x19_1).f1),.bool ((rd_T27 l0 x19_1).f2),.int .i64 ((rd_T27 l0 x19_1).f3)] 27 (0,0))):=⟨by (with_reducible repeat (first | refine blk_drewN ?_ _ | refine blk_drew ?_ | refine blk_alloc ?_ _));refine blk_put (cs:=#[.string ((rd_T27 l0 x19_1).f0),.int .i64 ((rd_T27 l0 x19_1).f1),.bool ((rd_T27 l0 x19_1).f2),.int .i64 0]) ?_ 3 _ rfl;(with_reducible repeat (first | refine blk_drewN ?_ _ | refine blk_drew ?_ | refine blk_alloc ?_ _));refine blk_put (cs:=#[.string ((rd_T27 l0 x19_1).f0),.int .i64 ((rd_T27 l0 x19_1).f1),.bool false,.int .i64 0]) ?_ 2 _ rfl;(with_reducible repeat (first | refine blk_drewN ?_ _ | refine blk_drew ?_ | refine blk_alloc ?_ _));refine blk_put (cs:=#[.string ((rd_T27 l0 x19_1).f0),.int .i64 0,.bool false,.int .i64 0]) ?_ 1 _ rfl;(with_reducible repeat (first | refine blk_drewN ?_ _ | refine blk_drew ?_ | refine blk_alloc ?_ _));refine blk_put (cs:=#[.string (⟨#[]⟩ : ByteArray),.int .i64 0,.bool false,.int .i64 0]) ?_ 0 _ rfl;(with_reducible repeat (first | refine blk_drewN ?_ _ | refine blk_drew ?_ | refine blk_alloc ?_ _));exact BK334.out⟩
     have n2_ : Aside0 (Below w.heap.size w ((((w12.setCell ⟨gb334,0,none⟩ (.string ((rd_T27 l0 x19_1).f0))).setCell ⟨gb334,1,none⟩ (.int .i64 ((rd_T27 l0 x19_1).f1))).setCell ⟨gb334,2,none⟩ (.bool ((rd_T27 l0 x19_1).f2))).setCell ⟨gb334,3,none⟩ (.int .i64 ((rd_T27 l0 x19_1).f3)))):=⟨by repeat (first | (with_reducible first | exact HB.out | apply below_alloc | apply pw_below_drewN | apply below_drew1 | refine below_set ?_ GE334.out) | exact HB.out)⟩
     (try clear HO_7)
     (try clear BK334)
     (try clear HB)
     generalize ((((w12.setCell ⟨gb334,0,none⟩ (.string ((rd_T27 l0 x19_1).f0))).setCell ⟨gb334,1,none⟩ (.int .i64 ((rd_T27 l0 x19_1).f1))).setCell ⟨gb334,2,none⟩ (.bool ((rd_T27 l0 x19_1).f2))).setCell ⟨gb334,3,none⟩ (.int .i64 ((rd_T27 l0 x19_1).f3))) = w14 at n0_ n1_ n2_ ⊢
     have HO_7:=n0_
     have BK334:=n1_
     have HB:=n2_
     clear n0_ n1_ n2_
     have n0_:=Aside0.mk (Kd.R_drew HO_7.out)
     have n1_:=Aside0.mk (blk_drew BK334.out)
     have n2_:=Aside0.mk (below_drew1 HB.out)
     clear HO_7
     clear BK334
     clear HB
     have HO_7:=n0_
     have BK334:=n1_
     have HB:=n2_
     clear n0_ n1_ n2_
     refine start_ (n:=23) (S:=fun w' => True) (ds:=[]) #[false,false,false,false,false,false,false,false,false,false,false,false,false,false,false,false,false,false,false,false,false,false,false] T11q1 rfl rfl trivial (fun hHeld => ?_);refine with_tabW impl_RunTrim.tab7 impl_RunTrim.bits7 (fun HT_ HW_ => ?_)
     generalize w14.drew = w15 at HO_7 BK334 HB hHeld ⊢
     refine pm_ (i:=0) (N:=some 24) (v:=?_) (a':=?_) rfl rfl (any_of HT_.out T11q1) (fun _ _ _ h => h) (Or.inl ⟨by rfl,?_⟩) ?_ ?_
     rotate_left
     ·intro w'
      go_simp
      with_reducible rfl
     rotate_left
     ·simp only [PU]
      rfl
     refine pm_ (i:=1) (N:=some 25) (v:=?_) (a':=?_) rfl rfl (any_of HT_.out T11q1) (fun _ _ _ h => h) (Or.inl ⟨by rfl,?_⟩) ?_ ?_
     rotate_left
     ·intro w'
      go_simp
      with_reducible rfl
     rotate_left
     ·simp only [PU]
      rfl
     refine pm_ (i:=2) (N:=some 26) (v:=?_) (a':=?_) rfl rfl (any_of HT_.out T11q1) (fun _ _ _ h => h) (Or.inl ⟨by rfl,?_⟩) ?_ ?_
     rotate_left
     ·intro w'
      go_simp
      with_reducible rfl
     rotate_left
     ·simp only [PU]
      rfl
     refine pm_ (i:=3) (N:=some 27) (v:=undef) (a':=?_) rfl rfl (any_of HT_.out T11q1) (fun _ _ _ h => h) (Or.inr ⟨by rfl,rfl⟩) ?_ ?_
     rotate_left
     ·simp only [PU]
      rfl
     refine pm_ (i:=4) (N:=some 28) (v:=undef) (a':=?_) rfl rfl (any_of HT_.out T11q1) (fun _ _ _ h => h) (Or.inr ⟨by rfl,rfl⟩) ?_ ?_
     rotate_left
     ·simp only [PU]
      rfl
     refine pm_ (i:=5) (N:=some 29) (v:=undef) (a':=?_) rfl rfl (any_of HT_.out T11q1) (fun _ _ _ h => h) (Or.inr ⟨by rfl,rfl⟩) ?_ ?_
     rotate_left
     ·simp only [PU]
      rfl
     refine pm_ (i:=6) (N:=some 30) (v:=undef) (a':=?_) rfl rfl (any_of HT_.out T11q1) (fun _ _ _ h => h) (Or.inr ⟨by rfl,rfl⟩) ?_ ?_
     rotate_left
     ·simp only [PU]
      rfl
     refine pm_ (i:=7) (N:=some 31) (v:=undef) (a':=?_) rfl rfl (any_of HT_.out T11q1) (fun _ _ _ h => h) (Or.inr ⟨by rfl,rfl⟩) ?_ ?_
     rotate_left
     ·simp only [PU]
      rfl
     refine pm_ (i:=8) (N:=some 32) (v:=undef) (a':=?_) rfl rfl (any_of HT_.out T11q1) (fun _ _ _ h => h) (Or.inr ⟨by rfl,rfl⟩) ?_ ?_
     rotate_left
     ·simp only [PU]
      rfl
     refine pm_ (i:=9) (N:=some 33) (v:=undef) (a':=?_) rfl rfl (any_of HT_.out T11q1) (fun _ _ _ h => h) (Or.inr ⟨by rfl,rfl⟩) ?_ ?_
     rotate_left
     ·simp only [PU]
      rfl
     refine pm_ (i:=10) (N:=some 34) (v:=undef) (a':=?_) rfl rfl (any_of HT_.out T11q1) (fun _ _ _ h => h) (Or.inr ⟨by rfl,rfl⟩) ?_ ?_
     rotate_left
     ·simp only [PU]
      rfl
     refine pm_ (i:=11) (N:=some 35) (v:=undef) (a':=?_) rfl rfl (any_of HT_.out T11q1) (fun _ _ _ h => h) (Or.inr ⟨by rfl,rfl⟩) ?_ ?_
     rotate_left
     ·simp only [PU]
      rfl
     refine pm_ (i:=12) (N:=some 36) (v:=?_) (a':=?_) rfl rfl (any_of HT_.out T11q1) (fun _ _ _ h => h) (Or.inl ⟨by rfl,?_⟩) ?_ ?_
     rotate_left
     ·intro w'
      go_simp
      with_reducible rfl
     rotate_left
     ·simp only [PU]
      rfl
     refine pm_ (i:=13) (N:=some 37) (v:=?_) (a':=?_) rfl rfl (any_of HT_.out T11q1) (fun _ _ _ h => h) (Or.inl ⟨by rfl,?_⟩) ?_ ?_
     rotate_left
     ·intro w'
      go_simp
      with_reducible rfl
     rotate_left
     ·simp only [PU]
      rfl
     refine pm_ (i:=14) (N:=some 38) (v:=undef) (a':=?_) rfl rfl (any_of HT_.out T11q1) (fun _ _ _ h => h) (Or.inr ⟨by rfl,rfl⟩) ?_ ?_
     rotate_left
     ·simp only [PU]
      rfl
     refine pm_ (i:=15) (N:=some 39) (v:=undef) (a':=?_) rfl rfl (any_of HT_.out T11q1) (fun _ _ _ h => h) (Or.inr ⟨by rfl,rfl⟩) ?_ ?_
     rotate_left
     ·simp only [PU]
      rfl
     refine pm_ (i:=16) (N:=some 40) (v:=undef) (a':=?_) rfl rfl (any_of HT_.out T11q1) (fun _ _ _ h => h) (Or.inr ⟨by rfl,rfl⟩) ?_ ?_
     rotate_left
     ·simp only [PU]
      rfl
     refine pm_ (i:=17) (N:=some 41) (v:=undef) (a':=?_) rfl rfl (any_of HT_.out T11q1) (fun _ _ _ h => h) (Or.inr ⟨by rfl,rfl⟩) ?_ ?_
     rotate_left
     ·simp only [PU]
      rfl
     refine pm_ (i:=18) (N:=some 42) (v:=undef) (a':=?_) rfl rfl (any_of HT_.out T11q1) (fun _ _ _ h => h) (Or.inr ⟨by rfl,rfl⟩) ?_ ?_
     rotate_left
     ·simp only [PU]
      rfl
     refine pm_ (i:=19) (N:=some 43) (v:=undef) (a':=?_) rfl rfl (any_of HT_.out T11q1) (fun _ _ _ h => h) (Or.inr ⟨by rfl,rfl⟩) ?_ ?_
     rotate_left
     ·simp only [PU]
      rfl
     refine pm_ (i:=20) (N:=some 44) (v:=undef) (a':=?_) rfl rfl (any_of HT_.out T11q1) (fun _ _ _ h => h) (Or.inr ⟨by rfl,rfl⟩) ?_ ?_
     rotate_left
     ·simp only [PU]
      rfl
     refine pm_ (i:=21) (N:=some 45) (v:=undef) (a':=?_) rfl rfl (any_of HT_.out T11q1) (fun _ _ _ h => h) (Or.inr ⟨by rfl,rfl⟩) ?_ ?_
     rotate_left
     ·simp only [PU]
      rfl
     refine pm_ (i:=22) (N:=some 46) (v:=?_) (a':=?_) rfl rfl (any_of HT_.out T11q1) (fun _ _ _ h => h) (Or.inl ⟨by rfl,?_⟩) ?_ ?_
     rotate_left
     ·intro w'
      go_simp
      with_reducible rfl
     rotate_left
     ·simp only [PU]
      rfl
     refine done_ (done_of HT_.out T11q1) ?_
     have hcz16_0 : w15.cell? ⟨gb334,0,none⟩ = some (.string ((rd_T27 l0 x19_1).f0)):=(blk_cell BK334.out 0).trans rfl
     have hcz16_1 : w15.cell? ⟨gb334,1,none⟩ = some (.int .i64 ((rd_T27 l0 x19_1).f1)):=(blk_cell BK334.out 1).trans rfl
     have hcz16_2 : w15.cell? ⟨gb334,2,none⟩ = some (.bool ((rd_T27 l0 x19_1).f2)):=(blk_cell BK334.out 2).trans rfl
     have hcz16_3 : w15.cell? ⟨gb334,3,none⟩ = some (.int .i64 ((rd_T27 l0 x19_1).f3)):=(blk_cell BK334.out 3).trans rfl
     have hfz16_0:=blk_frozen BK334.out 0
     have hfz16_1:=blk_frozen BK334.out 1
     have hfz16_2:=blk_frozen BK334.out 2
     have hfz16_3:=blk_frozen BK334.out 3
     try go_wp2_with (first | ((with_reducible refine gate_builtin (b:=.append) (xs:=#[.tmp 47,.tmp 49]) rfl ?_);at_builtin;refine Kd.R_append k27 (w0:=w) w.heap.size rfl (.tmp 47) (.tmp 49) 23 27 (.agg #[(.string ⟨#[]⟩),(.int .i64 0),(.bool false),(.int .i64 0)]) 40 rfl Try.underlying23 info27 rfl (by decide) (by omega) u7 x7_1 (⟨(rd_T27 l0 x19_1).f0,(rd_T27 l0 x19_1).f1,(rd_T27 l0 x19_1).f2,(rd_T27 l0 x19_1).f3⟩ : S27) [.string ((rd_T27 l0 x19_1).f0),.int .i64 ((rd_T27 l0 x19_1).f1),.bool ((rd_T27 l0 x19_1).f2),.int .i64 ((rd_T27 l0 x19_1).f3)] (fun k_ => k_ ≠ gb334) (fun _ => False) rfl rfl ?aP (fun _ hk => hk.elim) ?aF ?aO ?aB ?aS ?aL ?_;(case aP => exact k27_mkM _ _ _ (⟨(rd_T27 l0 x19_1).f0,(rd_T27 l0 x19_1).f1,(rd_T27 l0 x19_1).f2,(rd_T27 l0 x19_1).f3⟩ : S27));(case aB => exact (by repeat (first | (with_reducible first | exact HB.out | apply below_alloc | apply pw_below_drewN | apply below_drew1 | refine below_set ?_ GE334.out) | exact HB.out)));(case aF => exact (fun k_ hk => Kd.freshB (g:=gb334) (o:=.cells #[.string ((rd_T27 l0 x19_1).f0),.int .i64 ((rd_T27 l0 x19_1).f1),.bool ((rd_T27 l0 x19_1).f2),.int .i64 ((rd_T27 l0 x19_1).f3)] 27 (0,0)) T11q5 k_ hk));(case aO => exact T11q4);(case aS => exact (below_size (by repeat (first | (with_reducible first | exact HB.out | apply below_alloc | apply pw_below_drewN | apply below_drew1 | refine below_set ?_ GE334.out) | exact HB.out))));(case aL => have:=LMc11.out;omega);intro v336 w17 ho hb hg hat;rw [← Ny335.out] at ho;have n0_:=Aside0.mk (blk_grown (g:=gb334) (o:=.cells #[.string ((rd_T27 l0 x19_1).f0),.int .i64 ((rd_T27 l0 x19_1).f1),.bool ((rd_T27 l0 x19_1).f2),.int .i64 ((rd_T27 l0 x19_1).f3)] 27 (0,0)) T11q5 hg (Kd.R_away HO_7.out (fun _ hk => hk)));have n1_:=Aside0.mk (hb);have n2_:=Aside0.mk (ho);clear BK334;clear HB;clear HO_7;have BK334:=n0_;have HB:=n1_;have HO337:=n2_;clear n0_ n1_ n2_;clear ho hb hg hat))
     go_roundg k1
     case measure => have:=HK1.out;omega
     case rel => exact ⟨(y335),(wrap64 (x19_1 + 1)),(by first | rfl | (simp;done) | (simp [*];done)),H',⟨by have:=HK1.out;omega⟩,⟨by (with_reducible repeat (first | apply Kd.R_alloc | apply Kd.R_drewN | apply Kd.R_drew));exact Kd.R_mono HO337.out (fun _ hk => trivial)⟩,⟨by repeat (first | (with_reducible first | exact HB.out | apply below_alloc | apply pw_below_drewN | apply below_drew1 | refine below_set ?_ GE334.out) | exact HB.out)⟩⟩
    rw [if_neg c10] at H
    have c10b0 : (x19_1 == 0) = false:=beq_eq_false_iff_ne.mpr c10
    have c10b1 : (x19_1 != 0) = true:=bne_iff_ne.mpr c10
    obtain ⟨ji18,hji18⟩ : ∃ j_ : Int,(wrap64 (x19_1 - 1)) = j_:=⟨_,rfl⟩
    replace H : (if 0 ≤ (ji18) then (if (ji18) < (l0.length : Int) then (if ((rd_T27 l0 (ji18)).f0).toList = ((rd_T27 l0 x19_1).f0).toList then ((impl_seen.f l1 ((rd_T27 l0 x19_1).f0) ((rd_T27 l0 x19_1).f1) ((rd_T27 l0 x19_1).f2) ((rd_T27 l0 x19_1).f3) ((rd_T27 l0 (ji18)).f0) ((rd_T27 l0 (ji18)).f1) ((rd_T27 l0 (ji18)).f2) ((rd_T27 l0 (ji18)).f3)).bind fun t340 => (if t340 = true then (if x7_1.length < 3518437208883 then (impl_RunTrim.l0 k1 l0 l1 a2 (x7_1 ++ [(⟨(rd_T27 l0 x19_1).f0,(rd_T27 l0 x19_1).f1,(rd_T27 l0 x19_1).f2,(rd_T27 l0 x19_1).f3⟩ : S27)]) l0 (l0.length : Int) (wrap64 (x19_1 + 1))) else (none)) else (impl_RunTrim.l0 k1 l0 l1 a2 x7_1 l0 (l0.length : Int) (wrap64 (x19_1 + 1))))) else (if x7_1.length < 3518437208883 then (impl_RunTrim.l0 k1 l0 l1 a2 (x7_1 ++ [(⟨(rd_T27 l0 x19_1).f0,(rd_T27 l0 x19_1).f1,(rd_T27 l0 x19_1).f2,(rd_T27 l0 x19_1).f3⟩ : S27)]) l0 (l0.length : Int) (wrap64 (x19_1 + 1))) else (none))) else (none)) else (none)) = some r:=by first | (rw [hji18] at H;exact H) | (simp only [hji18] at H ⊢;exact H)
    have hji18w : (IntKind.i64.wrap (x19_1 - 1)) = ji18:=(i64_w _).trans hji18
    by_cases c19 : 0 ≤ (ji18)
    rotate_left
    ·rw [if_neg c19] at H
     exact absurd H (by simp)
    rw [if_pos c19] at H
    have c19b0 : decide (0 ≤ (ji18)) = true:=decide_eq_true c19
    clear c19
    by_cases c20 : (ji18) < (l0.length : Int)
    rotate_left
    ·rw [if_neg c20] at H
     exact absurd H (by simp)
    rw [if_pos c20] at H
    have c20b0 : decide ((ji18) < (l0.length : Int)) = true:=decide_eq_true c20
    clear c20
    by_cases c21 : ((rd_T27 l0 (ji18)).f0).toList = ((rd_T27 l0 x19_1).f0).toList
    rotate_left
    ·rw [if_neg c21] at H
     have c21b0 : (((rd_T27 l0 (ji18)).f0).toList == ((rd_T27 l0 x19_1).f0).toList) = false:=beq_eq_false_iff_ne.mpr c21
     have c21b1 : (((rd_T27 l0 (ji18)).f0).toList != ((rd_T27 l0 x19_1).f0).toList) = true:=bne_iff_ne.mpr c21
     by_cases c37 : x7_1.length < 3518437208883
     rotate_left
     ·rw [if_neg c37] at H
      exact absurd H (by simp)
     rw [if_pos c37] at H
     have LMc37:=Aside0.mk c37
     clear c37
     obtain ⟨y344,hy344⟩ : ∃ y_ : List (S27),y_ = (x7_1 ++ [(⟨(rd_T27 l0 x19_1).f0,(rd_T27 l0 x19_1).f1,(rd_T27 l0 x19_1).f2,(rd_T27 l0 x19_1).f3⟩ : S27)]):=⟨_,rfl⟩
     replace H : (impl_RunTrim.l0 k1 l0 l1 a2 y344 l0 (l0.length : Int) (wrap64 (x19_1 + 1))) = some r:=by first | (rw [hy344];with_reducible exact H) | (have H2_:=(Option.bind_some _ _).symm.trans H;rw [hy344];with_reducible exact H2_) | (have H2_:=(Option.bind_some _ _).symm.trans H;with_reducible exact H2_) | with_reducible exact H | (rw [hy344];exact H) | exact H
     have Ny344:=Aside0.mk hy344
     clear hy344
     have H':=Aside0.mk H
     clear H
     have p333 : 0 ≤ (x19_1 : Int):=of_decide_eq_true T11q3
     have q333 : x19_1 < (l0.length : Int):=of_decide_eq_true T11q3
     obtain ⟨ad333,e333,hx333_0,hx333_1,hx333_2,hx333_3⟩:=at_T27 HR0.out x19_1 p333 q333
     cases e333
     replace hx333_0:=(HB.out.cell (World.block_lt_of_cell? w _ hx333_0)).trans hx333_0
     replace hx333_1:=(HB.out.cell (World.block_lt_of_cell? w _ hx333_1)).trans hx333_1
     replace hx333_2:=(HB.out.cell (World.block_lt_of_cell? w _ hx333_2)).trans hx333_2
     replace hx333_3:=(HB.out.cell (World.block_lt_of_cell? w _ hx333_3)).trans hx333_3
     replace p333:=eq_true p333
     replace q333:=eq_true q333
     try go_wp2_with (first | ((with_reducible refine gate_dst (N:=9) rfl ?_);refine box_event ?hg (N:=9) ?hd (cs:=#[.string (⟨#[]⟩ : ByteArray),.int .i64 0,.bool false,.int .i64 0]) (t:=27) ?hr ?_;(case hd => rfl);(case hg => rfl);(case hr => first | (go_simp;done) | (go_simp;rfl));intro gb334 hg w38 hbox hb;have n0_:=Aside0.mk (Kd.R_below (Kd.R_elderB T11q4 gb334 (Nat.le_of_eq hg.symm)) hb);have n1_:=Aside0.mk (below_step (by repeat (first | (with_reducible first | exact HB.out | apply below_alloc | apply pw_below_drewN | apply below_drew1) | exact HB.out)) hb);have n2_:=Aside0.mk (hbox);have n3_:=Aside0.mk ((by rw [hg];exact (below_size (by repeat (first | (with_reducible first | exact HB.out | apply below_alloc | apply pw_below_drewN | apply below_drew1) | exact HB.out))) : w.heap.size ≤ gb334));have n4_:=Aside0.mk ((by rw [hg];exact (below_size (by repeat (first | (with_reducible first | exact HB.out | apply below_alloc | apply pw_below_drewN | apply below_drew1) | exact HB.out))) : w.heap.size ≤ gb334));clear HO_7;clear HB;have HO_7:=n0_;have HB:=n1_;have BK334:=n2_;have GW334:=n3_;have GE334:=n4_;clear n0_ n1_ n2_ n3_ n4_;clear hb hbox hg;have hcz39_0 : w38.cell? ⟨gb334,0,none⟩ = some (.string (⟨#[]⟩ : ByteArray)):=(blk_cell BK334.out 0).trans rfl;have hcz39_1 : w38.cell? ⟨gb334,1,none⟩ = some (.int .i64 0):=(blk_cell BK334.out 1).trans rfl;have hcz39_2 : w38.cell? ⟨gb334,2,none⟩ = some (.bool false):=(blk_cell BK334.out 2).trans rfl;have hcz39_3 : w38.cell? ⟨gb334,3,none⟩ = some (.int .i64 0):=(blk_cell BK334.out 3).trans rfl;have hfz39_0:=blk_frozen BK334.out 0;have hfz39_1:=blk_frozen BK334.out 1;have hfz39_2:=blk_frozen BK334.out 2;have hfz39_3:=blk_frozen BK334.out 3))
     have n0_ : Aside0 (Kd.R k27 27 ((((w38.setCell ⟨gb334,0,none⟩ (.string ((rd_T27 l0 x19_1).f0))).setCell ⟨gb334,1,none⟩ (.int .i64 ((rd_T27 l0 x19_1).f1))).setCell ⟨gb334,2,none⟩ (.bool ((rd_T27 l0 x19_1).f2))).setCell ⟨gb334,3,none⟩ (.int .i64 ((rd_T27 l0 x19_1).f3))) w.heap.size (fun k_ => k_ ≠ gb334) u7 x7_1):=⟨by (with_reducible repeat (first | apply Kd.R_alloc | apply Kd.R_drewN | apply Kd.R_drew));exact Kd.R_mono (Kd.R_far (p:=⟨gb334,3,none⟩) (Kd.R_far (p:=⟨gb334,2,none⟩) (Kd.R_far (p:=⟨gb334,1,none⟩) (Kd.R_far (p:=⟨gb334,0,none⟩) (Kd.R_mono HO_7.out (fun k_ hk => (⟨hk,hk.2⟩ : _ ∧ k_ ≠ gb334))) (fun _ hk => hk.2) (.string ((rd_T27 l0 x19_1).f0))) (fun _ hk => hk.2) (.int .i64 ((rd_T27 l0 x19_1).f1))) (fun _ hk => hk.2) (.bool ((rd_T27 l0 x19_1).f2))) (fun _ hk => hk.2) (.int .i64 ((rd_T27 l0 x19_1).f3))) (fun _ hk => hk.1.2)⟩
     have n1_ : Aside0 (((((w38.setCell ⟨gb334,0,none⟩ (.string ((rd_T27 l0 x19_1).f0))).setCell ⟨gb334,1,none⟩ (.int .i64 ((rd_T27 l0 x19_1).f1))).setCell ⟨gb334,2,none⟩ (.bool ((rd_T27 l0 x19_1).f2))).setCell ⟨gb334,3,none⟩ (.int .i64 ((rd_T27 l0 x19_1).f3))).heap[gb334]? = some (.cells #[.string ((rd_T27 l0 x19_1).f0),.int .i64 ((rd_T27 l0 x19_1).f1),.bool ((rd_T27 l0 x19_1).f2),.int .i64 ((rd_T27 l0 x19_1).f3)] 27 (0,0))):=⟨by (with_reducible repeat (first | refine blk_drewN ?_ _ | refine blk_drew ?_ | refine blk_alloc ?_ _));refine blk_put (cs:=#[.string ((rd_T27 l0 x19_1).f0),.int .i64 ((rd_T27 l0 x19_1).f1),.bool ((rd_T27 l0 x19_1).f2),.int .i64 0]) ?_ 3 _ rfl;(with_reducible repeat (first | refine blk_drewN ?_ _ | refine blk_drew ?_ | refine blk_alloc ?_ _));refine blk_put (cs:=#[.string ((rd_T27 l0 x19_1).f0),.int .i64 ((rd_T27 l0 x19_1).f1),.bool false,.int .i64 0]) ?_ 2 _ rfl;(with_reducible repeat (first | refine blk_drewN ?_ _ | refine blk_drew ?_ | refine blk_alloc ?_ _));refine blk_put (cs:=#[.string ((rd_T27 l0 x19_1).f0),.int .i64 0,.bool false,.int .i64 0]) ?_ 1 _ rfl;(with_reducible repeat (first | refine blk_drewN ?_ _ | refine blk_drew ?_ | refine blk_alloc ?_ _));refine blk_put (cs:=#[.string (⟨#[]⟩ : ByteArray),.int .i64 0,.bool false,.int .i64 0]) ?_ 0 _ rfl;(with_reducible repeat (first | refine blk_drewN ?_ _ | refine blk_drew ?_ | refine blk_alloc ?_ _));exact BK334.out⟩
     have n2_ : Aside0 (Below w.heap.size w ((((w38.setCell ⟨gb334,0,none⟩ (.string ((rd_T27 l0 x19_1).f0))).setCell ⟨gb334,1,none⟩ (.int .i64 ((rd_T27 l0 x19_1).f1))).setCell ⟨gb334,2,none⟩ (.bool ((rd_T27 l0 x19_1).f2))).setCell ⟨gb334,3,none⟩ (.int .i64 ((rd_T27 l0 x19_1).f3)))):=⟨by repeat (first | (with_reducible first | exact HB.out | apply below_alloc | apply pw_below_drewN | apply below_drew1 | refine below_set ?_ GE334.out) | exact HB.out)⟩
     (try clear HO_7)
     (try clear BK334)
     (try clear HB)
     generalize ((((w38.setCell ⟨gb334,0,none⟩ (.string ((rd_T27 l0 x19_1).f0))).setCell ⟨gb334,1,none⟩ (.int .i64 ((rd_T27 l0 x19_1).f1))).setCell ⟨gb334,2,none⟩ (.bool ((rd_T27 l0 x19_1).f2))).setCell ⟨gb334,3,none⟩ (.int .i64 ((rd_T27 l0 x19_1).f3))) = w40 at n0_ n1_ n2_ ⊢
     have HO_7:=n0_
     have BK334:=n1_
     have HB:=n2_
     clear n0_ n1_ n2_
     have n0_:=Aside0.mk (Kd.R_drew HO_7.out)
     have n1_:=Aside0.mk (blk_drew BK334.out)
     have n2_:=Aside0.mk (below_drew1 HB.out)
     clear HO_7
     clear BK334
     clear HB
     have HO_7:=n0_
     have BK334:=n1_
     have HB:=n2_
     clear n0_ n1_ n2_
     have p338 : 0 ≤ ((ji18) : Int):=of_decide_eq_true T11q3
     have q338 : (ji18) < (l0.length : Int):=of_decide_eq_true T11q3
     obtain ⟨ad338,e338,hx338_0,hx338_1,hx338_2,hx338_3⟩:=at_T27 HR0.out (ji18) p338 q338
     have hw338_3:=hx338_3
     have hw338_2:=hx338_2
     have hw338_1:=hx338_1
     have hw338_0:=hx338_0
     obtain rfl : ad333 = ad338:=(by injection e338)
     replace hx338_0:=(HB.out.cell (World.block_lt_of_cell? w _ hx338_0)).trans hx338_0
     replace hx338_1:=(HB.out.cell (World.block_lt_of_cell? w _ hx338_1)).trans hx338_1
     replace hx338_2:=(HB.out.cell (World.block_lt_of_cell? w _ hx338_2)).trans hx338_2
     replace hx338_3:=(HB.out.cell (World.block_lt_of_cell? w _ hx338_3)).trans hx338_3
     replace p338:=eq_true p338
     replace q338:=eq_true q338
     refine start_ (n:=23) (S:=fun w' => w'.cell? ⟨gb334,0,none⟩ = some (.string ((rd_T27 l0 x19_1).f0)) ∧ w'.cell? ⟨gb334,1,none⟩ = some (.int .i64 ((rd_T27 l0 x19_1).f1)) ∧ w'.cell? ⟨gb334,2,none⟩ = some (.bool ((rd_T27 l0 x19_1).f2)) ∧ w'.cell? ⟨gb334,3,none⟩ = some (.int .i64 ((rd_T27 l0 x19_1).f3)) ∧ w'.cell? (ad333.add (((ji18)).toNat * 4)) = some (.string ((rd_T27 l0 (ji18)).f0)) ∧ w'.cell? ⟨(ad333.add (((ji18)).toNat * 4)).block,(ad333.add (((ji18)).toNat * 4)).off + 1,none⟩ = some (.int .i64 ((rd_T27 l0 (ji18)).f1)) ∧ w'.cell? ⟨(ad333.add (((ji18)).toNat * 4)).block,(ad333.add (((ji18)).toNat * 4)).off + 2,none⟩ = some (.bool ((rd_T27 l0 (ji18)).f2)) ∧ w'.cell? ⟨(ad333.add (((ji18)).toNat * 4)).block,(ad333.add (((ji18)).toNat * 4)).off + 3,none⟩ = some (.int .i64 ((rd_T27 l0 (ji18)).f3))) (ds:=[]) #[false,false,false,false,false,false,false,false,false,false,false,false,false,false,false,false,false,false,false,false,false,false,false] T11q1 rfl rfl ⟨(blk_cell BK334.out 0).trans rfl,(blk_cell BK334.out 1).trans rfl,(blk_cell BK334.out 2).trans rfl,(blk_cell BK334.out 3).trans rfl,((HB.out.cell (World.block_lt_of_cell? w _ hw338_0)).trans hw338_0),((HB.out.cell (World.block_lt_of_cell? w _ hw338_1)).trans hw338_1),((HB.out.cell (World.block_lt_of_cell? w _ hw338_2)).trans hw338_2),((HB.out.cell (World.block_lt_of_cell? w _ hw338_3)).trans hw338_3)⟩ (fun hHeld => ?_);refine with_tabW impl_RunTrim.tab7 impl_RunTrim.bits7 (fun HT_ HW_ => ?_)
     generalize w40.drew = w41 at HO_7 BK334 HB hx338_0 hx338_1 hx338_2 hx338_3 hHeld ⊢
     refine pm_ (i:=0) (N:=some 24) (v:=?_) (a':=?_) rfl rfl (any_of HT_.out T11q1) (fun _ _ _ h => h) (Or.inl ⟨by rfl,?_⟩) ?_ ?_
     rotate_left
     ·intro w'
      go_simp
      with_reducible rfl
     rotate_left
     ·simp only [PU]
      rfl
     refine pm_ (i:=1) (N:=some 25) (v:=?_) (a':=?_) rfl rfl (any_of HT_.out T11q1) (fun _ _ _ h => h) (Or.inl ⟨by rfl,?_⟩) ?_ ?_
     rotate_left
     ·intro w'
      go_simp
      with_reducible rfl
     rotate_left
     ·simp only [PU]
      rfl
     refine pm_ (i:=2) (N:=some 26) (v:=?_) (a':=?_) rfl rfl (any_of HT_.out T11q1) (fun _ _ _ h => h) (Or.inl ⟨by rfl,?_⟩) ?_ ?_
     rotate_left
     ·intro w'
      go_simp
      with_reducible rfl
     rotate_left
     ·simp only [PU]
      rfl
     refine pm_ (i:=3) (N:=some 27) (v:=?_) (a':=?_) rfl rfl (any_of HT_.out T11q1) (fun _ _ _ h => h) (Or.inl ⟨by rfl,?_⟩) ?_ ?_
     rotate_left
     ·intro w'
      go_simp
      with_reducible rfl
     rotate_left
     ·simp only [PU]
      rfl
     refine pm_ (i:=4) (N:=some 28) (v:=?_) (a':=?_) rfl rfl (any_of HT_.out T11q1) (fun _ _ _ h => h) (Or.inl ⟨by rfl,?_⟩) ?_ ?_
     rotate_left
     ·intro w'
      go_simp
      with_reducible rfl
     rotate_left
     ·simp only [PU]
      rfl
     refine pm_ (i:=5) (N:=some 29) (v:=?_) (a':=?_) rfl rfl (any_of HT_.out T11q1) (fun _ _ _ h => h) (Or.inl ⟨by rfl,?_⟩) ?_ ?_
     rotate_left
     ·intro w'
      go_simp
      with_reducible rfl
     rotate_left
     ·simp only [PU]
      rfl
     refine pm_ (i:=6) (N:=some 30) (v:=?_) (a':=?_) rfl rfl (any_of HT_.out T11q1) (fun _ _ _ h => h) (Or.inl ⟨by rfl,?_⟩) ?_ ?_
     rotate_left
     ·intro w'
      go_simp
      with_reducible rfl
     rotate_left
     ·simp only [PU]
      rfl
     refine pm_ (i:=7) (N:=some 31) (v:=?_) (a':=?_) rfl rfl (any_of HT_.out T11q1) (fun _ _ _ h => h) (Or.inl ⟨by rfl,?_⟩) ?_ ?_
     rotate_left
     ·intro w'
      go_simp
      with_reducible rfl
     rotate_left
     ·simp only [PU]
      rfl
     refine pm_ (i:=9) (N:=some 33) (v:=?_) (a':=?_) rfl rfl (any_of HT_.out T11q1) (fun _ _ _ h => h) (Or.inl ⟨by rfl,?_⟩) ?_ ?_
     rotate_left
     ·intro w'
      go_simp
      with_reducible rfl
     rotate_left
     ·simp only [PU]
      rfl
     refine tm_ (i:=8) (N:=some 32) (v:=?_) (a':=?_) rfl rfl (take_ofW HT_.out HW_.out T11q1) (fun _ _ _ h => h) (Or.inl ⟨by rfl,?_⟩) hHeld ?_ ?_
     rotate_left
     ·rintro w' ⟨s0,s1,s2,s3,s4,s5,s6,s7⟩
      go_simp
      with_reducible rfl
     rotate_left
     ·simp only [PU]
      rfl
     refine tm_ (i:=10) (N:=some 34) (v:=?_) (a':=?_) rfl rfl (take_ofW HT_.out HW_.out T11q1) (fun _ _ _ h => h) (Or.inl ⟨by rfl,?_⟩) hHeld ?_ ?_
     rotate_left
     ·rintro w' ⟨s0,s1,s2,s3,s4,s5,s6,s7⟩
      go_simp
      with_reducible rfl
     rotate_left
     ·simp only [PU]
      rfl
     refine pm_ (i:=11) (N:=some 35) (v:=?_) (a':=?_) rfl rfl (any_of HT_.out T11q1) (fun _ _ _ h => h) (Or.inl ⟨by rfl,?_⟩) ?_ ?_
     rotate_left
     ·intro w'
      go_simp
      with_reducible rfl
     rotate_left
     ·simp only [PU]
      rfl
     refine pm_ (i:=12) (N:=some 36) (v:=?_) (a':=?_) rfl rfl (any_of HT_.out T11q1) (fun _ _ _ h => h) (Or.inl ⟨by rfl,?_⟩) ?_ ?_
     rotate_left
     ·intro w'
      go_simp
      with_reducible rfl
     rotate_left
     ·simp only [PU]
      rfl
     refine pm_ (i:=13) (N:=some 37) (v:=?_) (a':=?_) rfl rfl (any_of HT_.out T11q1) (fun _ _ _ h => h) (Or.inl ⟨by rfl,?_⟩) ?_ ?_
     rotate_left
     ·intro w'
      go_simp
      with_reducible rfl
     rotate_left
     ·simp only [PU]
      rfl
     refine pm_ (i:=14) (N:=some 38) (v:=undef) (a':=?_) rfl rfl (any_of HT_.out T11q1) (fun _ _ _ h => h) (Or.inr ⟨by rfl,rfl⟩) ?_ ?_
     rotate_left
     ·simp only [PU]
      rfl
     refine pm_ (i:=15) (N:=some 39) (v:=undef) (a':=?_) rfl rfl (any_of HT_.out T11q1) (fun _ _ _ h => h) (Or.inr ⟨by rfl,rfl⟩) ?_ ?_
     rotate_left
     ·simp only [PU]
      rfl
     refine pm_ (i:=16) (N:=some 40) (v:=undef) (a':=?_) rfl rfl (any_of HT_.out T11q1) (fun _ _ _ h => h) (Or.inr ⟨by rfl,rfl⟩) ?_ ?_
     rotate_left
     ·simp only [PU]
      rfl
     refine pm_ (i:=17) (N:=some 41) (v:=undef) (a':=?_) rfl rfl (any_of HT_.out T11q1) (fun _ _ _ h => h) (Or.inr ⟨by rfl,rfl⟩) ?_ ?_
     rotate_left
     ·simp only [PU]
      rfl
     refine pm_ (i:=18) (N:=some 42) (v:=undef) (a':=?_) rfl rfl (any_of HT_.out T11q1) (fun _ _ _ h => h) (Or.inr ⟨by rfl,rfl⟩) ?_ ?_
     rotate_left
     ·simp only [PU]
      rfl
     refine pm_ (i:=19) (N:=some 43) (v:=undef) (a':=?_) rfl rfl (any_of HT_.out T11q1) (fun _ _ _ h => h) (Or.inr ⟨by rfl,rfl⟩) ?_ ?_
     rotate_left
     ·simp only [PU]
      rfl
     refine pm_ (i:=20) (N:=some 44) (v:=undef) (a':=?_) rfl rfl (any_of HT_.out T11q1) (fun _ _ _ h => h) (Or.inr ⟨by rfl,rfl⟩) ?_ ?_
     rotate_left
     ·simp only [PU]
      rfl
     refine pm_ (i:=21) (N:=some 45) (v:=undef) (a':=?_) rfl rfl (any_of HT_.out T11q1) (fun _ _ _ h => h) (Or.inr ⟨by rfl,rfl⟩) ?_ ?_
     rotate_left
     ·simp only [PU]
      rfl
     refine pm_ (i:=22) (N:=some 46) (v:=?_) (a':=?_) rfl rfl (any_of HT_.out T11q1) (fun _ _ _ h => h) (Or.inl ⟨by rfl,?_⟩) ?_ ?_
     rotate_left
     ·intro w'
      go_simp
      with_reducible rfl
     rotate_left
     ·simp only [PU]
      rfl
     refine done_ (done_of HT_.out T11q1) ?_
     have hcz42_0 : w41.cell? ⟨gb334,0,none⟩ = some (.string ((rd_T27 l0 x19_1).f0)):=(blk_cell BK334.out 0).trans rfl
     have hcz42_1 : w41.cell? ⟨gb334,1,none⟩ = some (.int .i64 ((rd_T27 l0 x19_1).f1)):=(blk_cell BK334.out 1).trans rfl
     have hcz42_2 : w41.cell? ⟨gb334,2,none⟩ = some (.bool ((rd_T27 l0 x19_1).f2)):=(blk_cell BK334.out 2).trans rfl
     have hcz42_3 : w41.cell? ⟨gb334,3,none⟩ = some (.int .i64 ((rd_T27 l0 x19_1).f3)):=(blk_cell BK334.out 3).trans rfl
     have hfz42_0:=blk_frozen BK334.out 0
     have hfz42_1:=blk_frozen BK334.out 1
     have hfz42_2:=blk_frozen BK334.out 2
     have hfz42_3:=blk_frozen BK334.out 3
     try go_wp2_with (first | ((with_reducible refine gate_builtin (b:=.append) (xs:=#[.tmp 47,.tmp 49]) rfl ?_);at_builtin;refine Kd.R_append k27 (w0:=w) w.heap.size rfl (.tmp 47) (.tmp 49) 23 27 (.agg #[(.string ⟨#[]⟩),(.int .i64 0),(.bool false),(.int .i64 0)]) 40 rfl Try.underlying23 info27 rfl (by decide) (by omega) u7 x7_1 (⟨(rd_T27 l0 x19_1).f0,(rd_T27 l0 x19_1).f1,(rd_T27 l0 x19_1).f2,(rd_T27 l0 x19_1).f3⟩ : S27) [.string ((rd_T27 l0 x19_1).f0),.int .i64 ((rd_T27 l0 x19_1).f1),.bool ((rd_T27 l0 x19_1).f2),.int .i64 ((rd_T27 l0 x19_1).f3)] (fun k_ => k_ ≠ gb334) (fun _ => False) rfl rfl ?aP (fun _ hk => hk.elim) ?aF ?aO ?aB ?aS ?aL ?_;(case aP => exact k27_mkM _ _ _ (⟨(rd_T27 l0 x19_1).f0,(rd_T27 l0 x19_1).f1,(rd_T27 l0 x19_1).f2,(rd_T27 l0 x19_1).f3⟩ : S27));(case aB => exact (by repeat (first | (with_reducible first | exact HB.out | apply below_alloc | apply pw_below_drewN | apply below_drew1 | refine below_set ?_ GE334.out) | exact HB.out)));(case aF => exact (fun k_ hk => Kd.freshB (g:=gb334) (o:=.cells #[.string ((rd_T27 l0 x19_1).f0),.int .i64 ((rd_T27 l0 x19_1).f1),.bool ((rd_T27 l0 x19_1).f2),.int .i64 ((rd_T27 l0 x19_1).f3)] 27 (0,0)) T11q5 k_ hk));(case aO => exact T11q4);(case aS => exact (below_size (by repeat (first | (with_reducible first | exact HB.out | apply below_alloc | apply pw_below_drewN | apply below_drew1 | refine below_set ?_ GE334.out) | exact HB.out))));(case aL => have:=LMc37.out;omega);intro v345 w43 ho hb hg hat;rw [← Ny344.out] at ho;have n0_:=Aside0.mk (blk_grown (g:=gb334) (o:=.cells #[.string ((rd_T27 l0 x19_1).f0),.int .i64 ((rd_T27 l0 x19_1).f1),.bool ((rd_T27 l0 x19_1).f2),.int .i64 ((rd_T27 l0 x19_1).f3)] 27 (0,0)) T11q5 hg (Kd.R_away HO_7.out (fun _ hk => hk)));have n1_:=Aside0.mk (hb);have n2_:=Aside0.mk (ho);clear BK334;clear HB;clear HO_7;have BK334:=n0_;have HB:=n1_;have HO346:=n2_;clear n0_ n1_ n2_;clear ho hb hg hat))
     go_roundg k1
     case measure => have:=HK1.out;omega
     case rel => exact ⟨(y344),(wrap64 (x19_1 + 1)),(by first | rfl | (simp;done) | (simp [*];done)),H',⟨by have:=HK1.out;omega⟩,⟨by (with_reducible repeat (first | apply Kd.R_alloc | apply Kd.R_drewN | apply Kd.R_drew));exact Kd.R_mono HO346.out (fun _ hk => trivial)⟩,⟨by repeat (first | (with_reducible first | exact HB.out | apply below_alloc | apply pw_below_drewN | apply below_drew1 | refine below_set ?_ GE334.out) | exact HB.out)⟩⟩
    rw [if_pos c21] at H
    have c21b0 : (((rd_T27 l0 (ji18)).f0).toList == ((rd_T27 l0 x19_1).f0).toList) = true:=beq_iff_eq.mpr c21
    have c21b1 : (((rd_T27 l0 (ji18)).f0).toList != ((rd_T27 l0 x19_1).f0).toList) = false:=bne_eq_false_iff_eq.mpr c21
    clear c21
    replace H:=Option.bind_eq_some_iff.mp H
    obtain ⟨t340,A220,H⟩:=H
    replace H : (if t340 = true then (if x7_1.length < 3518437208883 then (impl_RunTrim.l0 k1 l0 l1 a2 (x7_1 ++ [(⟨(rd_T27 l0 x19_1).f0,(rd_T27 l0 x19_1).f1,(rd_T27 l0 x19_1).f2,(rd_T27 l0 x19_1).f3⟩ : S27)]) l0 (l0.length : Int) (wrap64 (x19_1 + 1))) else (none)) else (impl_RunTrim.l0 k1 l0 l1 a2 x7_1 l0 (l0.length : Int) (wrap64 (x19_1 + 1)))) = some r:=H
    have A22:=Aside0.mk A220
    clear A220
    by_cases c23 : t340 = true
    rotate_left
    ·replace c23:=Bool.eq_false_iff.mpr c23
     subst c23
     have H1 : (impl_RunTrim.l0 k1 l0 l1 a2 x7_1 l0 (l0.length : Int) (wrap64 (x19_1 + 1))) = some r:=by rw [if_neg (show ¬ (false = true) by decide)] at H;exact H
     clear H
     have H:=H1
     clear H1
     have H':=Aside0.mk H
     clear H
     have p333 : 0 ≤ (x19_1 : Int):=of_decide_eq_true T11q3
     have q333 : x19_1 < (l0.length : Int):=of_decide_eq_true T11q3
     obtain ⟨ad333,e333,hx333_0,hx333_1,hx333_2,hx333_3⟩:=at_T27 HR0.out x19_1 p333 q333
     cases e333
     replace hx333_0:=(HB.out.cell (World.block_lt_of_cell? w _ hx333_0)).trans hx333_0
     replace hx333_1:=(HB.out.cell (World.block_lt_of_cell? w _ hx333_1)).trans hx333_1
     replace hx333_2:=(HB.out.cell (World.block_lt_of_cell? w _ hx333_2)).trans hx333_2
     replace hx333_3:=(HB.out.cell (World.block_lt_of_cell? w _ hx333_3)).trans hx333_3
     replace p333:=eq_true p333
     replace q333:=eq_true q333
     try go_wp2_with (first | ((with_reducible refine gate_dst (N:=9) rfl ?_);refine box_event ?hg (N:=9) ?hd (cs:=#[.string (⟨#[]⟩ : ByteArray),.int .i64 0,.bool false,.int .i64 0]) (t:=27) ?hr ?_;(case hd => rfl);(case hg => rfl);(case hr => first | (go_simp;done) | (go_simp;rfl));intro gb334 hg w32 hbox hb;have n0_:=Aside0.mk (Kd.R_below (Kd.R_elderB T11q4 gb334 (Nat.le_of_eq hg.symm)) hb);have n1_:=Aside0.mk (below_step (by repeat (first | (with_reducible first | exact HB.out | apply below_alloc | apply pw_below_drewN | apply below_drew1) | exact HB.out)) hb);have n2_:=Aside0.mk (hbox);have n3_:=Aside0.mk ((by rw [hg];exact (below_size (by repeat (first | (with_reducible first | exact HB.out | apply below_alloc | apply pw_below_drewN | apply below_drew1) | exact HB.out))) : w.heap.size ≤ gb334));have n4_:=Aside0.mk ((by rw [hg];exact (below_size (by repeat (first | (with_reducible first | exact HB.out | apply below_alloc | apply pw_below_drewN | apply below_drew1) | exact HB.out))) : w.heap.size ≤ gb334));clear HO_7;clear HB;have HO_7:=n0_;have HB:=n1_;have BK334:=n2_;have GW334:=n3_;have GE334:=n4_;clear n0_ n1_ n2_ n3_ n4_;clear hb hbox hg;have hcz33_0 : w32.cell? ⟨gb334,0,none⟩ = some (.string (⟨#[]⟩ : ByteArray)):=(blk_cell BK334.out 0).trans rfl;have hcz33_1 : w32.cell? ⟨gb334,1,none⟩ = some (.int .i64 0):=(blk_cell BK334.out 1).trans rfl;have hcz33_2 : w32.cell? ⟨gb334,2,none⟩ = some (.bool false):=(blk_cell BK334.out 2).trans rfl;have hcz33_3 : w32.cell? ⟨gb334,3,none⟩ = some (.int .i64 0):=(blk_cell BK334.out 3).trans rfl;have hfz33_0:=blk_frozen BK334.out 0;have hfz33_1:=blk_frozen BK334.out 1;have hfz33_2:=blk_frozen BK334.out 2;have hfz33_3:=blk_frozen BK334.out 3))
     have n0_ : Aside0 (Kd.R k27 27 ((((w32.setCell ⟨gb334,0,none⟩ (.string ((rd_T27 l0 x19_1).f0))).setCell ⟨gb334,1,none⟩ (.int .i64 ((rd_T27 l0 x19_1).f1))).setCell ⟨gb334,2,none⟩ (.bool ((rd_T27 l0 x19_1).f2))).setCell ⟨gb334,3,none⟩ (.int .i64 ((rd_T27 l0 x19_1).f3))) w.heap.size (fun k_ => k_ ≠ gb334) u7 x7_1):=⟨by (with_reducible repeat (first | apply Kd.R_alloc | apply Kd.R_drewN | apply Kd.R_drew));exact Kd.R_mono (Kd.R_far (p:=⟨gb334,3,none⟩) (Kd.R_far (p:=⟨gb334,2,none⟩) (Kd.R_far (p:=⟨gb334,1,none⟩) (Kd.R_far (p:=⟨gb334,0,none⟩) (Kd.R_mono HO_7.out (fun k_ hk => (⟨hk,hk.2⟩ : _ ∧ k_ ≠ gb334))) (fun _ hk => hk.2) (.string ((rd_T27 l0 x19_1).f0))) (fun _ hk => hk.2) (.int .i64 ((rd_T27 l0 x19_1).f1))) (fun _ hk => hk.2) (.bool ((rd_T27 l0 x19_1).f2))) (fun _ hk => hk.2) (.int .i64 ((rd_T27 l0 x19_1).f3))) (fun _ hk => hk.1.2)⟩
     have n1_ : Aside0 (((((w32.setCell ⟨gb334,0,none⟩ (.string ((rd_T27 l0 x19_1).f0))).setCell ⟨gb334,1,none⟩ (.int .i64 ((rd_T27 l0 x19_1).f1))).setCell ⟨gb334,2,none⟩ (.bool ((rd_T27 l0 x19_1).f2))).setCell ⟨gb334,3,none⟩ (.int .i64 ((rd_T27 l0 x19_1).f3))).heap[gb334]? = some (.cells #[.string ((rd_T27 l0 x19_1).f0),.int .i64 ((rd_T27 l0 x19_1).f1),.bool ((rd_T27 l0 x19_1).f2),.int .i64 ((rd_T27 l0 x19_1).f3)] 27 (0,0))):=⟨by (with_reducible repeat (first | refine blk_drewN ?_ _ | refine blk_drew ?_ | refine blk_alloc ?_ _));refine blk_put (cs:=#[.string ((rd_T27 l0 x19_1).f0),.int .i64 ((rd_T27 l0 x19_1).f1),.bool ((rd_T27 l0 x19_1).f2),.int .i64 0]) ?_ 3 _ rfl;(with_reducible repeat (first | refine blk_drewN ?_ _ | refine blk_drew ?_ | refine blk_alloc ?_ _));refine blk_put (cs:=#[.string ((rd_T27 l0 x19_1).f0),.int .i64 ((rd_T27 l0 x19_1).f1),.bool false,.int .i64 0]) ?_ 2 _ rfl;(with_reducible repeat (first | refine blk_drewN ?_ _ | refine blk_drew ?_ | refine blk_alloc ?_ _));refine blk_put (cs:=#[.string ((rd_T27 l0 x19_1).f0),.int .i64 0,.bool false,.int .i64 0]) ?_ 1 _ rfl;(with_reducible repeat (first | refine blk_drewN ?_ _ | refine blk_drew ?_ | refine blk_alloc ?_ _));refine blk_put (cs:=#[.string (⟨#[]⟩ : ByteArray),.int .i64 0,.bool false,.int .i64 0]) ?_ 0 _ rfl;(with_reducible repeat (first | refine blk_drewN ?_ _ | refine blk_drew ?_ | refine blk_alloc ?_ _));exact BK334.out⟩
     have n2_ : Aside0 (Below w.heap.size w ((((w32.setCell ⟨gb334,0,none⟩ (.string ((rd_T27 l0 x19_1).f0))).setCell ⟨gb334,1,none⟩ (.int .i64 ((rd_T27 l0 x19_1).f1))).setCell ⟨gb334,2,none⟩ (.bool ((rd_T27 l0 x19_1).f2))).setCell ⟨gb334,3,none⟩ (.int .i64 ((rd_T27 l0 x19_1).f3)))):=⟨by repeat (first | (with_reducible first | exact HB.out | apply below_alloc | apply pw_below_drewN | apply below_drew1 | refine below_set ?_ GE334.out) | exact HB.out)⟩
     (try clear HO_7)
     (try clear BK334)
     (try clear HB)
     generalize ((((w32.setCell ⟨gb334,0,none⟩ (.string ((rd_T27 l0 x19_1).f0))).setCell ⟨gb334,1,none⟩ (.int .i64 ((rd_T27 l0 x19_1).f1))).setCell ⟨gb334,2,none⟩ (.bool ((rd_T27 l0 x19_1).f2))).setCell ⟨gb334,3,none⟩ (.int .i64 ((rd_T27 l0 x19_1).f3))) = w34 at n0_ n1_ n2_ ⊢
     have HO_7:=n0_
     have BK334:=n1_
     have HB:=n2_
     clear n0_ n1_ n2_
     have n0_:=Aside0.mk (Kd.R_drew HO_7.out)
     have n1_:=Aside0.mk (blk_drew BK334.out)
     have n2_:=Aside0.mk (below_drew1 HB.out)
     clear HO_7
     clear BK334
     clear HB
     have HO_7:=n0_
     have BK334:=n1_
     have HB:=n2_
     clear n0_ n1_ n2_
     have p338 : 0 ≤ ((ji18) : Int):=of_decide_eq_true T11q3
     have q338 : (ji18) < (l0.length : Int):=of_decide_eq_true T11q3
     obtain ⟨ad338,e338,hx338_0,hx338_1,hx338_2,hx338_3⟩:=at_T27 HR0.out (ji18) p338 q338
     have hw338_3:=hx338_3
     have hw338_2:=hx338_2
     have hw338_1:=hx338_1
     have hw338_0:=hx338_0
     obtain rfl : ad333 = ad338:=(by injection e338)
     replace hx338_0:=(HB.out.cell (World.block_lt_of_cell? w _ hx338_0)).trans hx338_0
     replace hx338_1:=(HB.out.cell (World.block_lt_of_cell? w _ hx338_1)).trans hx338_1
     replace hx338_2:=(HB.out.cell (World.block_lt_of_cell? w _ hx338_2)).trans hx338_2
     replace hx338_3:=(HB.out.cell (World.block_lt_of_cell? w _ hx338_3)).trans hx338_3
     replace p338:=eq_true p338
     replace q338:=eq_true q338
     have p339 : 0 ≤ ((ji18) : Int):=of_decide_eq_true T11q3
     have q339 : (ji18) < (l0.length : Int):=of_decide_eq_true T11q3
     obtain ⟨ad339,e339,hx339_0,hx339_1,hx339_2,hx339_3⟩:=at_T27 HR0.out (ji18) p339 q339
     have hw339_3:=hx339_3
     have hw339_2:=hx339_2
     have hw339_1:=hx339_1
     have hw339_0:=hx339_0
     obtain rfl : ad333 = ad339:=(by injection e339)
     replace hx339_0:=(HB.out.cell (World.block_lt_of_cell? w _ hx339_0)).trans hx339_0
     replace hx339_1:=(HB.out.cell (World.block_lt_of_cell? w _ hx339_1)).trans hx339_1
     replace hx339_2:=(HB.out.cell (World.block_lt_of_cell? w _ hx339_2)).trans hx339_2
     replace hx339_3:=(HB.out.cell (World.block_lt_of_cell? w _ hx339_3)).trans hx339_3
     replace p339:=eq_true p339
     replace q339:=eq_true q339
     refine start_ (n:=23) (S:=fun w' => w'.cell? ⟨gb334,0,none⟩ = some (.string ((rd_T27 l0 x19_1).f0)) ∧ w'.cell? ⟨gb334,1,none⟩ = some (.int .i64 ((rd_T27 l0 x19_1).f1)) ∧ w'.cell? ⟨gb334,2,none⟩ = some (.bool ((rd_T27 l0 x19_1).f2)) ∧ w'.cell? ⟨gb334,3,none⟩ = some (.int .i64 ((rd_T27 l0 x19_1).f3)) ∧ w'.cell? (ad333.add (((ji18)).toNat * 4)) = some (.string ((rd_T27 l0 (ji18)).f0)) ∧ w'.cell? ⟨(ad333.add (((ji18)).toNat * 4)).block,(ad333.add (((ji18)).toNat * 4)).off + 1,none⟩ = some (.int .i64 ((rd_T27 l0 (ji18)).f1)) ∧ w'.cell? ⟨(ad333.add (((ji18)).toNat * 4)).block,(ad333.add (((ji18)).toNat * 4)).off + 2,none⟩ = some (.bool ((rd_T27 l0 (ji18)).f2)) ∧ w'.cell? ⟨(ad333.add (((ji18)).toNat * 4)).block,(ad333.add (((ji18)).toNat * 4)).off + 3,none⟩ = some (.int .i64 ((rd_T27 l0 (ji18)).f3)) ∧ w'.cell? (ad333.add (((ji18)).toNat * 4)) = some (.string ((rd_T27 l0 (ji18)).f0)) ∧ w'.cell? ⟨(ad333.add (((ji18)).toNat * 4)).block,(ad333.add (((ji18)).toNat * 4)).off + 1,none⟩ = some (.int .i64 ((rd_T27 l0 (ji18)).f1)) ∧ w'.cell? ⟨(ad333.add (((ji18)).toNat * 4)).block,(ad333.add (((ji18)).toNat * 4)).off + 2,none⟩ = some (.bool ((rd_T27 l0 (ji18)).f2)) ∧ w'.cell? ⟨(ad333.add (((ji18)).toNat * 4)).block,(ad333.add (((ji18)).toNat * 4)).off + 3,none⟩ = some (.int .i64 ((rd_T27 l0 (ji18)).f3))) (ds:=[]) #[false,false,false,false,false,false,false,false,false,false,false,false,false,false,false,false,false,false,false,false,false,false,false] T11q1 rfl rfl ⟨(blk_cell BK334.out 0).trans rfl,(blk_cell BK334.out 1).trans rfl,(blk_cell BK334.out 2).trans rfl,(blk_cell BK334.out 3).trans rfl,((HB.out.cell (World.block_lt_of_cell? w _ hw338_0)).trans hw338_0),((HB.out.cell (World.block_lt_of_cell? w _ hw338_1)).trans hw338_1),((HB.out.cell (World.block_lt_of_cell? w _ hw338_2)).trans hw338_2),((HB.out.cell (World.block_lt_of_cell? w _ hw338_3)).trans hw338_3),((HB.out.cell (World.block_lt_of_cell? w _ hw339_0)).trans hw339_0),((HB.out.cell (World.block_lt_of_cell? w _ hw339_1)).trans hw339_1),((HB.out.cell (World.block_lt_of_cell? w _ hw339_2)).trans hw339_2),((HB.out.cell (World.block_lt_of_cell? w _ hw339_3)).trans hw339_3)⟩ (fun hHeld => ?_);refine with_tabW impl_RunTrim.tab7 impl_RunTrim.bits7 (fun HT_ HW_ => ?_)
     generalize w34.drew = w35 at HO_7 BK334 HB hx338_0 hx338_1 hx338_2 hx338_3 hx339_0 hx339_1 hx339_2 hx339_3 hHeld ⊢
     refine pm_ (i:=0) (N:=some 24) (v:=?_) (a':=?_) rfl rfl (any_of HT_.out T11q1) (fun _ _ _ h => h) (Or.inl ⟨by rfl,?_⟩) ?_ ?_
     rotate_left
     ·intro w'
      go_simp
      with_reducible rfl
     rotate_left
     ·simp only [PU]
      rfl
     refine pm_ (i:=1) (N:=some 25) (v:=?_) (a':=?_) rfl rfl (any_of HT_.out T11q1) (fun _ _ _ h => h) (Or.inl ⟨by rfl,?_⟩) ?_ ?_
     rotate_left
     ·intro w'
      go_simp
      with_reducible rfl
     rotate_left
     ·simp only [PU]
      rfl
     refine pm_ (i:=2) (N:=some 26) (v:=?_) (a':=?_) rfl rfl (any_of HT_.out T11q1) (fun _ _ _ h => h) (Or.inl ⟨by rfl,?_⟩) ?_ ?_
     rotate_left
     ·intro w'
      go_simp
      with_reducible rfl
     rotate_left
     ·simp only [PU]
      rfl
     refine pm_ (i:=3) (N:=some 27) (v:=?_) (a':=?_) rfl rfl (any_of HT_.out T11q1) (fun _ _ _ h => h) (Or.inl ⟨by rfl,?_⟩) ?_ ?_
     rotate_left
     ·intro w'
      go_simp
      with_reducible rfl
     rotate_left
     ·simp only [PU]
      rfl
     refine pm_ (i:=4) (N:=some 28) (v:=?_) (a':=?_) rfl rfl (any_of HT_.out T11q1) (fun _ _ _ h => h) (Or.inl ⟨by rfl,?_⟩) ?_ ?_
     rotate_left
     ·intro w'
      go_simp
      with_reducible rfl
     rotate_left
     ·simp only [PU]
      rfl
     refine pm_ (i:=5) (N:=some 29) (v:=?_) (a':=?_) rfl rfl (any_of HT_.out T11q1) (fun _ _ _ h => h) (Or.inl ⟨by rfl,?_⟩) ?_ ?_
     rotate_left
     ·intro w'
      go_simp
      with_reducible rfl
     rotate_left
     ·simp only [PU]
      rfl
     refine pm_ (i:=6) (N:=some 30) (v:=?_) (a':=?_) rfl rfl (any_of HT_.out T11q1) (fun _ _ _ h => h) (Or.inl ⟨by rfl,?_⟩) ?_ ?_
     rotate_left
     ·intro w'
      go_simp
      with_reducible rfl
     rotate_left
     ·simp only [PU]
      rfl
     refine pm_ (i:=7) (N:=some 31) (v:=?_) (a':=?_) rfl rfl (any_of HT_.out T11q1) (fun _ _ _ h => h) (Or.inl ⟨by rfl,?_⟩) ?_ ?_
     rotate_left
     ·intro w'
      go_simp
      with_reducible rfl
     rotate_left
     ·simp only [PU]
      rfl
     refine pm_ (i:=9) (N:=some 33) (v:=?_) (a':=?_) rfl rfl (any_of HT_.out T11q1) (fun _ _ _ h => h) (Or.inl ⟨by rfl,?_⟩) ?_ ?_
     rotate_left
     ·intro w'
      go_simp
      with_reducible rfl
     rotate_left
     ·simp only [PU]
      rfl
     refine tm_ (i:=8) (N:=some 32) (v:=?_) (a':=?_) rfl rfl (take_ofW HT_.out HW_.out T11q1) (fun _ _ _ h => h) (Or.inl ⟨by rfl,?_⟩) hHeld ?_ ?_
     rotate_left
     ·rintro w' ⟨s0,s1,s2,s3,s4,s5,s6,s7,s8,s9,s10,s11⟩
      go_simp
      with_reducible rfl
     rotate_left
     ·simp only [PU]
      rfl
     refine tm_ (i:=10) (N:=some 34) (v:=?_) (a':=?_) rfl rfl (take_ofW HT_.out HW_.out T11q1) (fun _ _ _ h => h) (Or.inl ⟨by rfl,?_⟩) hHeld ?_ ?_
     rotate_left
     ·rintro w' ⟨s0,s1,s2,s3,s4,s5,s6,s7,s8,s9,s10,s11⟩
      go_simp
      with_reducible rfl
     rotate_left
     ·simp only [PU]
      rfl
     refine pm_ (i:=11) (N:=some 35) (v:=?_) (a':=?_) rfl rfl (any_of HT_.out T11q1) (fun _ _ _ h => h) (Or.inl ⟨by rfl,?_⟩) ?_ ?_
     rotate_left
     ·intro w'
      go_simp
      with_reducible rfl
     rotate_left
     ·simp only [PU]
      rfl
     refine pm_ (i:=12) (N:=some 36) (v:=?_) (a':=?_) rfl rfl (any_of HT_.out T11q1) (fun _ _ _ h => h) (Or.inl ⟨by rfl,?_⟩) ?_ ?_
     rotate_left
     ·intro w'
      go_simp
      with_reducible rfl
     rotate_left
     ·simp only [PU]
      rfl
     refine pm_ (i:=13) (N:=some 37) (v:=?_) (a':=?_) rfl rfl (any_of HT_.out T11q1) (fun _ _ _ h => h) (Or.inl ⟨by rfl,?_⟩) ?_ ?_
     rotate_left
     ·intro w'
      go_simp
      with_reducible rfl
     rotate_left
     ·simp only [PU]
      rfl
     refine pm_ (i:=14) (N:=some 38) (v:=?_) (a':=?_) rfl rfl (any_of HT_.out T11q1) (fun _ _ _ h => h) (Or.inl ⟨by rfl,?_⟩) ?_ ?_
     rotate_left
     ·intro w'
      go_simp
      with_reducible rfl
     rotate_left
     ·simp only [PU]
      rfl
     refine pm_ (i:=16) (N:=some 40) (v:=?_) (a':=?_) rfl rfl (any_of HT_.out T11q1) (fun _ _ _ h => h) (Or.inl ⟨by rfl,?_⟩) ?_ ?_
     rotate_left
     ·intro w'
      go_simp
      with_reducible rfl
     rotate_left
     ·simp only [PU]
      rfl
     refine pm_ (i:=17) (N:=some 41) (v:=?_) (a':=?_) rfl rfl (any_of HT_.out T11q1) (fun _ _ _ h => h) (Or.inl ⟨by rfl,?_⟩) ?_ ?_
     rotate_left
     ·intro w'
      go_simp
      with_reducible rfl
     rotate_left
     ·simp only [PU]
      rfl
     refine pm_ (i:=18) (N:=some 42) (v:=?_) (a':=?_) rfl rfl (any_of HT_.out T11q1) (fun _ _ _ h => h) (Or.inl ⟨by rfl,?_⟩) ?_ ?_
     rotate_left
     ·intro w'
      go_simp
      with_reducible rfl
     rotate_left
     ·simp only [PU]
      rfl
     refine pm_ (i:=19) (N:=some 43) (v:=?_) (a':=?_) rfl rfl (any_of HT_.out T11q1) (fun _ _ _ h => h) (Or.inl ⟨by rfl,?_⟩) ?_ ?_
     rotate_left
     ·intro w'
      go_simp
      with_reducible rfl
     rotate_left
     ·simp only [PU]
      rfl
     refine tm_ (i:=15) (N:=some 39) (v:=?_) (a':=?_) rfl rfl (take_ofW HT_.out HW_.out T11q1) (fun _ _ _ h => h) (Or.inl ⟨by rfl,?_⟩) hHeld ?_ ?_
     rotate_left
     ·rintro w' ⟨s0,s1,s2,s3,s4,s5,s6,s7,s8,s9,s10,s11⟩
      go_simp
      with_reducible rfl
     rotate_left
     ·simp only [PU]
      rfl
     refine tm_ (i:=20) (N:=some 44) (v:=?_) (a':=?_) rfl rfl (take_ofW HT_.out HW_.out T11q1) (fun _ _ _ h => h) (Or.inl ⟨by rfl,?_⟩) hHeld ?_ ?_
     rotate_left
     ·rintro w' ⟨s0,s1,s2,s3,s4,s5,s6,s7,s8,s9,s10,s11⟩
      go_simp
      with_reducible rfl
     rotate_left
     ·simp only [PU]
      rfl
     refine om_ (i:=21) (N:=some 45) rfl rfl (one_of HT_.out T11q1) (by decide) (fun K hK => ?_)
     refine goes_ Try.func48 T11q1 rfl #[.slice A1 l1.length c1,.agg #[.string ((rd_T27 l0 x19_1).f0),.int .i64 ((rd_T27 l0 x19_1).f1),.bool ((rd_T27 l0 x19_1).f2),.int .i64 ((rd_T27 l0 x19_1).f3)],.agg #[.string ((rd_T27 l0 (ji18)).f0),.int .i64 ((rd_T27 l0 (ji18)).f1),.bool ((rd_T27 l0 (ji18)).f2),.int .i64 ((rd_T27 l0 (ji18)).f3)]] (by rfl) rfl rfl T11q6 ?_
     with_reducible refine (impl_seen.calls _ _ l1 ((rd_T27 l0 x19_1).f0) ((rd_T27 l0 x19_1).f1) ((rd_T27 l0 x19_1).f2) ((rd_T27 l0 x19_1).f3) ((rd_T27 l0 (ji18)).f0) ((rd_T27 l0 (ji18)).f1) ((rd_T27 l0 (ji18)).f2) ((rd_T27 l0 (ji18)).f3) false _ ?side1 ?side2 A22.out).mono ?_
     (case side1 => repeat (first | exact (Kd.C_below HR1.out HB.out) | (with_reducible refine Kd.C_alloc ?_ _) | (with_reducible refine Kd.C_drewN ?_ _) | (with_reducible refine Kd.C_drew ?_)))
     (case side2 => exact HC1.out)
     rintro e w36 ⟨rfl,hb⟩
     refine ⟨_,rfl,?_⟩
     have n0_:=Aside0.mk (Kd.R_below T11q4 hb)
     have n1_:=Aside0.mk (blk_below (g:=gb334) (o:=.cells #[.string ((rd_T27 l0 x19_1).f0),.int .i64 ((rd_T27 l0 x19_1).f1),.bool ((rd_T27 l0 x19_1).f2),.int .i64 ((rd_T27 l0 x19_1).f3)] 27 (0,0)) T11q5 hb)
     have n2_:=Aside0.mk (below_step (by repeat (first | (with_reducible first | exact HB.out | apply below_alloc | apply pw_below_drewN | apply below_drew1 | refine below_set ?_ GE334.out) | exact HB.out)) hb)
     clear HO_7
     clear BK334
     clear HB
     have HO_7:=n0_
     have BK334:=n1_
     have HB:=n2_
     clear n0_ n1_ n2_
     (try clear hb)
     (try clear hb2)
     (try clear hk)
     (try clear hi)
     refine hK.out _ _ ⟨(blk_cell BK334.out 0).trans rfl,(blk_cell BK334.out 1).trans rfl,(blk_cell BK334.out 2).trans rfl,(blk_cell BK334.out 3).trans rfl,((HB.out.cell (World.block_lt_of_cell? w _ hw338_0)).trans hw338_0),((HB.out.cell (World.block_lt_of_cell? w _ hw338_1)).trans hw338_1),((HB.out.cell (World.block_lt_of_cell? w _ hw338_2)).trans hw338_2),((HB.out.cell (World.block_lt_of_cell? w _ hw338_3)).trans hw338_3),((HB.out.cell (World.block_lt_of_cell? w _ hw339_0)).trans hw339_0),((HB.out.cell (World.block_lt_of_cell? w _ hw339_1)).trans hw339_1),((HB.out.cell (World.block_lt_of_cell? w _ hw339_2)).trans hw339_2),((HB.out.cell (World.block_lt_of_cell? w _ hw339_3)).trans hw339_3)⟩ (fun hHeld => ?_)
     clear hK K
     refine norm_ (a':=?_) ?_ ?_
     rotate_left
     ·show Act.put _ (some 45) _ = _
      simp only [PU]
      rfl
     refine pm_ (i:=22) (N:=some 46) (v:=?_) (a':=?_) rfl rfl (any_of HT_.out T11q1) (fun _ _ _ h => h) (Or.inl ⟨by rfl,?_⟩) ?_ ?_
     rotate_left
     ·intro w'
      go_simp
      with_reducible rfl
     rotate_left
     ·simp only [PU]
      rfl
     refine done_ (done_of HT_.out T11q1) ?_
     try go_wp2
     go_roundg k1
     case measure => have:=HK1.out;omega
     case rel => exact ⟨(x7_1),(wrap64 (x19_1 + 1)),(by first | rfl | (simp;done) | (simp [*];done)),H',⟨by have:=HK1.out;omega⟩,⟨by (with_reducible repeat (first | apply Kd.R_alloc | apply Kd.R_drewN | apply Kd.R_drew));exact Kd.R_mono HO_7.out (fun _ hk => trivial)⟩,⟨by repeat (first | (with_reducible first | exact HB.out | apply below_alloc | apply pw_below_drewN | apply below_drew1 | refine below_set ?_ GE334.out) | exact HB.out)⟩⟩
    subst c23
    have H1 : (if x7_1.length < 3518437208883 then (impl_RunTrim.l0 k1 l0 l1 a2 (x7_1 ++ [(⟨(rd_T27 l0 x19_1).f0,(rd_T27 l0 x19_1).f1,(rd_T27 l0 x19_1).f2,(rd_T27 l0 x19_1).f3⟩ : S27)]) l0 (l0.length : Int) (wrap64 (x19_1 + 1))) else (none)) = some r:=by rw [if_pos rfl] at H;exact H
    clear H
    have H:=H1
    clear H1
    by_cases c24 : x7_1.length < 3518437208883
    rotate_left
    ·rw [if_neg c24] at H
     exact absurd H (by simp)
    rw [if_pos c24] at H
    have LMc24:=Aside0.mk c24
    clear c24
    obtain ⟨y341,hy341⟩ : ∃ y_ : List (S27),y_ = (x7_1 ++ [(⟨(rd_T27 l0 x19_1).f0,(rd_T27 l0 x19_1).f1,(rd_T27 l0 x19_1).f2,(rd_T27 l0 x19_1).f3⟩ : S27)]):=⟨_,rfl⟩
    replace H : (impl_RunTrim.l0 k1 l0 l1 a2 y341 l0 (l0.length : Int) (wrap64 (x19_1 + 1))) = some r:=by first | (rw [hy341];with_reducible exact H) | (have H2_:=(Option.bind_some _ _).symm.trans H;rw [hy341];with_reducible exact H2_) | (have H2_:=(Option.bind_some _ _).symm.trans H;with_reducible exact H2_) | with_reducible exact H | (rw [hy341];exact H) | exact H
    have Ny341:=Aside0.mk hy341
    clear hy341
    have H':=Aside0.mk H
    clear H
    have p333 : 0 ≤ (x19_1 : Int):=of_decide_eq_true T11q3
    have q333 : x19_1 < (l0.length : Int):=of_decide_eq_true T11q3
    obtain ⟨ad333,e333,hx333_0,hx333_1,hx333_2,hx333_3⟩:=at_T27 HR0.out x19_1 p333 q333
    cases e333
    replace hx333_0:=(HB.out.cell (World.block_lt_of_cell? w _ hx333_0)).trans hx333_0
    replace hx333_1:=(HB.out.cell (World.block_lt_of_cell? w _ hx333_1)).trans hx333_1
    replace hx333_2:=(HB.out.cell (World.block_lt_of_cell? w _ hx333_2)).trans hx333_2
    replace hx333_3:=(HB.out.cell (World.block_lt_of_cell? w _ hx333_3)).trans hx333_3
    replace p333:=eq_true p333
    replace q333:=eq_true q333
    try go_wp2_with (first | ((with_reducible refine gate_dst (N:=9) rfl ?_);refine box_event ?hg (N:=9) ?hd (cs:=#[.string (⟨#[]⟩ : ByteArray),.int .i64 0,.bool false,.int .i64 0]) (t:=27) ?hr ?_;(case hd => rfl);(case hg => rfl);(case hr => first | (go_simp;done) | (go_simp;rfl));intro gb334 hg w25 hbox hb;have n0_:=Aside0.mk (Kd.R_below (Kd.R_elderB T11q4 gb334 (Nat.le_of_eq hg.symm)) hb);have n1_:=Aside0.mk (below_step (by repeat (first | (with_reducible first | exact HB.out | apply below_alloc | apply pw_below_drewN | apply below_drew1) | exact HB.out)) hb);have n2_:=Aside0.mk (hbox);have n3_:=Aside0.mk ((by rw [hg];exact (below_size (by repeat (first | (with_reducible first | exact HB.out | apply below_alloc | apply pw_below_drewN | apply below_drew1) | exact HB.out))) : w.heap.size ≤ gb334));have n4_:=Aside0.mk ((by rw [hg];exact (below_size (by repeat (first | (with_reducible first | exact HB.out | apply below_alloc | apply pw_below_drewN | apply below_drew1) | exact HB.out))) : w.heap.size ≤ gb334));clear HO_7;clear HB;have HO_7:=n0_;have HB:=n1_;have BK334:=n2_;have GW334:=n3_;have GE334:=n4_;clear n0_ n1_ n2_ n3_ n4_;clear hb hbox hg;have hcz26_0 : w25.cell? ⟨gb334,0,none⟩ = some (.string (⟨#[]⟩ : ByteArray)):=(blk_cell BK334.out 0).trans rfl;have hcz26_1 : w25.cell? ⟨gb334,1,none⟩ = some (.int .i64 0):=(blk_cell BK334.out 1).trans rfl;have hcz26_2 : w25.cell? ⟨gb334,2,none⟩ = some (.bool false):=(blk_cell BK334.out 2).trans rfl;have hcz26_3 : w25.cell? ⟨gb334,3,none⟩ = some (.int .i64 0):=(blk_cell BK334.out 3).trans rfl;have hfz26_0:=blk_frozen BK334.out 0;have hfz26_1:=blk_frozen BK334.out 1;have hfz26_2:=blk_frozen BK334.out 2;have hfz26_3:=blk_frozen BK334.out 3))
    have n0_ : Aside0 (Kd.R k27 27 ((((w25.setCell ⟨gb334,0,none⟩ (.string ((rd_T27 l0 x19_1).f0))).setCell ⟨gb334,1,none⟩ (.int .i64 ((rd_T27 l0 x19_1).f1))).setCell ⟨gb334,2,none⟩ (.bool ((rd_T27 l0 x19_1).f2))).setCell ⟨gb334,3,none⟩ (.int .i64 ((rd_T27 l0 x19_1).f3))) w.heap.size (fun k_ => k_ ≠ gb334) u7 x7_1):=⟨by (with_reducible repeat (first | apply Kd.R_alloc | apply Kd.R_drewN | apply Kd.R_drew));exact Kd.R_mono (Kd.R_far (p:=⟨gb334,3,none⟩) (Kd.R_far (p:=⟨gb334,2,none⟩) (Kd.R_far (p:=⟨gb334,1,none⟩) (Kd.R_far (p:=⟨gb334,0,none⟩) (Kd.R_mono HO_7.out (fun k_ hk => (⟨hk,hk.2⟩ : _ ∧ k_ ≠ gb334))) (fun _ hk => hk.2) (.string ((rd_T27 l0 x19_1).f0))) (fun _ hk => hk.2) (.int .i64 ((rd_T27 l0 x19_1).f1))) (fun _ hk => hk.2) (.bool ((rd_T27 l0 x19_1).f2))) (fun _ hk => hk.2) (.int .i64 ((rd_T27 l0 x19_1).f3))) (fun _ hk => hk.1.2)⟩
    have n1_ : Aside0 (((((w25.setCell ⟨gb334,0,none⟩ (.string ((rd_T27 l0 x19_1).f0))).setCell ⟨gb334,1,none⟩ (.int .i64 ((rd_T27 l0 x19_1).f1))).setCell ⟨gb334,2,none⟩ (.bool ((rd_T27 l0 x19_1).f2))).setCell ⟨gb334,3,none⟩ (.int .i64 ((rd_T27 l0 x19_1).f3))).heap[gb334]? = some (.cells #[.string ((rd_T27 l0 x19_1).f0),.int .i64 ((rd_T27 l0 x19_1).f1),.bool ((rd_T27 l0 x19_1).f2),.int .i64 ((rd_T27 l0 x19_1).f3)] 27 (0,0))):=⟨by (with_reducible repeat (first | refine blk_drewN ?_ _ | refine blk_drew ?_ | refine blk_alloc ?_ _));refine blk_put (cs:=#[.string ((rd_T27 l0 x19_1).f0),.int .i64 ((rd_T27 l0 x19_1).f1),.bool ((rd_T27 l0 x19_1).f2),.int .i64 0]) ?_ 3 _ rfl;(with_reducible repeat (first | refine blk_drewN ?_ _ | refine blk_drew ?_ | refine blk_alloc ?_ _));refine blk_put (cs:=#[.string ((rd_T27 l0 x19_1).f0),.int .i64 ((rd_T27 l0 x19_1).f1),.bool false,.int .i64 0]) ?_ 2 _ rfl;(with_reducible repeat (first | refine blk_drewN ?_ _ | refine blk_drew ?_ | refine blk_alloc ?_ _));refine blk_put (cs:=#[.string ((rd_T27 l0 x19_1).f0),.int .i64 0,.bool false,.int .i64 0]) ?_ 1 _ rfl;(with_reducible repeat (first | refine blk_drewN ?_ _ | refine blk_drew ?_ | refine blk_alloc ?_ _));refine blk_put (cs:=#[.string (⟨#[]⟩ : ByteArray),.int .i64 0,.bool false,.int .i64 0]) ?_ 0 _ rfl;(with_reducible repeat (first | refine blk_drewN ?_ _ | refine blk_drew ?_ | refine blk_alloc ?_ _));exact BK334.out⟩
    have n2_ : Aside0 (Below w.heap.size w ((((w25.setCell ⟨gb334,0,none⟩ (.string ((rd_T27 l0 x19_1).f0))).setCell ⟨gb334,1,none⟩ (.int .i64 ((rd_T27 l0 x19_1).f1))).setCell ⟨gb334,2,none⟩ (.bool ((rd_T27 l0 x19_1).f2))).setCell ⟨gb334,3,none⟩ (.int .i64 ((rd_T27 l0 x19_1).f3)))):=⟨by repeat (first | (with_reducible first | exact HB.out | apply below_alloc | apply pw_below_drewN | apply below_drew1 | refine below_set ?_ GE334.out) | exact HB.out)⟩
    (try clear HO_7)
    (try clear BK334)
    (try clear HB)
    generalize ((((w25.setCell ⟨gb334,0,none⟩ (.string ((rd_T27 l0 x19_1).f0))).setCell ⟨gb334,1,none⟩ (.int .i64 ((rd_T27 l0 x19_1).f1))).setCell ⟨gb334,2,none⟩ (.bool ((rd_T27 l0 x19_1).f2))).setCell ⟨gb334,3,none⟩ (.int .i64 ((rd_T27 l0 x19_1).f3))) = w27 at n0_ n1_ n2_ ⊢
    have HO_7:=n0_
    have BK334:=n1_
    have HB:=n2_
    clear n0_ n1_ n2_
    have n0_:=Aside0.mk (Kd.R_drew HO_7.out)
    have n1_:=Aside0.mk (blk_drew BK334.out)
    have n2_:=Aside0.mk (below_drew1 HB.out)
    clear HO_7
    clear BK334
    clear HB
    have HO_7:=n0_
    have BK334:=n1_
    have HB:=n2_
    clear n0_ n1_ n2_
    have p338 : 0 ≤ ((ji18) : Int):=of_decide_eq_true T11q3
    have q338 : (ji18) < (l0.length : Int):=of_decide_eq_true T11q3
    obtain ⟨ad338,e338,hx338_0,hx338_1,hx338_2,hx338_3⟩:=at_T27 HR0.out (ji18) p338 q338
    have hw338_3:=hx338_3
    have hw338_2:=hx338_2
    have hw338_1:=hx338_1
    have hw338_0:=hx338_0
    obtain rfl : ad333 = ad338:=(by injection e338)
    replace hx338_0:=(HB.out.cell (World.block_lt_of_cell? w _ hx338_0)).trans hx338_0
    replace hx338_1:=(HB.out.cell (World.block_lt_of_cell? w _ hx338_1)).trans hx338_1
    replace hx338_2:=(HB.out.cell (World.block_lt_of_cell? w _ hx338_2)).trans hx338_2
    replace hx338_3:=(HB.out.cell (World.block_lt_of_cell? w _ hx338_3)).trans hx338_3
    replace p338:=eq_true p338
    replace q338:=eq_true q338
    have p339 : 0 ≤ ((ji18) : Int):=of_decide_eq_true T11q3
    have q339 : (ji18) < (l0.length : Int):=of_decide_eq_true T11q3
    obtain ⟨ad339,e339,hx339_0,hx339_1,hx339_2,hx339_3⟩:=at_T27 HR0.out (ji18) p339 q339
    have hw339_3:=hx339_3
    have hw339_2:=hx339_2
    have hw339_1:=hx339_1
    have hw339_0:=hx339_0
    obtain rfl : ad333 = ad339:=(by injection e339)
    replace hx339_0:=(HB.out.cell (World.block_lt_of_cell? w _ hx339_0)).trans hx339_0
    replace hx339_1:=(HB.out.cell (World.block_lt_of_cell? w _ hx339_1)).trans hx339_1
    replace hx339_2:=(HB.out.cell (World.block_lt_of_cell? w _ hx339_2)).trans hx339_2
    replace hx339_3:=(HB.out.cell (World.block_lt_of_cell? w _ hx339_3)).trans hx339_3
    replace p339:=eq_true p339
    replace q339:=eq_true q339
    refine start_ (n:=23) (S:=fun w' => w'.cell? ⟨gb334,0,none⟩ = some (.string ((rd_T27 l0 x19_1).f0)) ∧ w'.cell? ⟨gb334,1,none⟩ = some (.int .i64 ((rd_T27 l0 x19_1).f1)) ∧ w'.cell? ⟨gb334,2,none⟩ = some (.bool ((rd_T27 l0 x19_1).f2)) ∧ w'.cell? ⟨gb334,3,none⟩ = some (.int .i64 ((rd_T27 l0 x19_1).f3)) ∧ w'.cell? (ad333.add (((ji18)).toNat * 4)) = some (.string ((rd_T27 l0 (ji18)).f0)) ∧ w'.cell? ⟨(ad333.add (((ji18)).toNat * 4)).block,(ad333.add (((ji18)).toNat * 4)).off + 1,none⟩ = some (.int .i64 ((rd_T27 l0 (ji18)).f1)) ∧ w'.cell? ⟨(ad333.add (((ji18)).toNat * 4)).block,(ad333.add (((ji18)).toNat * 4)).off + 2,none⟩ = some (.bool ((rd_T27 l0 (ji18)).f2)) ∧ w'.cell? ⟨(ad333.add (((ji18)).toNat * 4)).block,(ad333.add (((ji18)).toNat * 4)).off + 3,none⟩ = some (.int .i64 ((rd_T27 l0 (ji18)).f3)) ∧ w'.cell? (ad333.add (((ji18)).toNat * 4)) = some (.string ((rd_T27 l0 (ji18)).f0)) ∧ w'.cell? ⟨(ad333.add (((ji18)).toNat * 4)).block,(ad333.add (((ji18)).toNat * 4)).off + 1,none⟩ = some (.int .i64 ((rd_T27 l0 (ji18)).f1)) ∧ w'.cell? ⟨(ad333.add (((ji18)).toNat * 4)).block,(ad333.add (((ji18)).toNat * 4)).off + 2,none⟩ = some (.bool ((rd_T27 l0 (ji18)).f2)) ∧ w'.cell? ⟨(ad333.add (((ji18)).toNat * 4)).block,(ad333.add (((ji18)).toNat * 4)).off + 3,none⟩ = some (.int .i64 ((rd_T27 l0 (ji18)).f3))) (ds:=[]) #[false,false,false,false,false,false,false,false,false,false,false,false,false,false,false,false,false,false,false,false,false,false,false] T11q1 rfl rfl ⟨(blk_cell BK334.out 0).trans rfl,(blk_cell BK334.out 1).trans rfl,(blk_cell BK334.out 2).trans rfl,(blk_cell BK334.out 3).trans rfl,((HB.out.cell (World.block_lt_of_cell? w _ hw338_0)).trans hw338_0),((HB.out.cell (World.block_lt_of_cell? w _ hw338_1)).trans hw338_1),((HB.out.cell (World.block_lt_of_cell? w _ hw338_2)).trans hw338_2),((HB.out.cell (World.block_lt_of_cell? w _ hw338_3)).trans hw338_3),((HB.out.cell (World.block_lt_of_cell? w _ hw339_0)).trans hw339_0),((HB.out.cell (World.block_lt_of_cell? w _ hw339_1)).trans hw339_1),((HB.out.cell (World.block_lt_of_cell? w _ hw339_2)).trans hw339_2),((HB.out.cell (World.block_lt_of_cell? w _ hw339_3)).trans hw339_3)⟩ (fun hHeld => ?_);refine with_tabW impl_RunTrim.tab7 impl_RunTrim.bits7 (fun HT_ HW_ => ?_)
    generalize w27.drew = w28 at HO_7 BK334 HB hx338_0 hx338_1 hx338_2 hx338_3 hx339_0 hx339_1 hx339_2 hx339_3 hHeld ⊢
    refine pm_ (i:=0) (N:=some 24) (v:=?_) (a':=?_) rfl rfl (any_of HT_.out T11q1) (fun _ _ _ h => h) (Or.inl ⟨by rfl,?_⟩) ?_ ?_
    rotate_left
    ·intro w'
     go_simp
     with_reducible rfl
    rotate_left
    ·simp only [PU]
     rfl
    refine pm_ (i:=1) (N:=some 25) (v:=?_) (a':=?_) rfl rfl (any_of HT_.out T11q1) (fun _ _ _ h => h) (Or.inl ⟨by rfl,?_⟩) ?_ ?_
    rotate_left
    ·intro w'
     go_simp
     with_reducible rfl
    rotate_left
    ·simp only [PU]
     rfl
    refine pm_ (i:=2) (N:=some 26) (v:=?_) (a':=?_) rfl rfl (any_of HT_.out T11q1) (fun _ _ _ h => h) (Or.inl ⟨by rfl,?_⟩) ?_ ?_
    rotate_left
    ·intro w'
     go_simp
     with_reducible rfl
    rotate_left
    ·simp only [PU]
     rfl
    refine pm_ (i:=3) (N:=some 27) (v:=?_) (a':=?_) rfl rfl (any_of HT_.out T11q1) (fun _ _ _ h => h) (Or.inl ⟨by rfl,?_⟩) ?_ ?_
    rotate_left
    ·intro w'
     go_simp
     with_reducible rfl
    rotate_left
    ·simp only [PU]
     rfl
    refine pm_ (i:=4) (N:=some 28) (v:=?_) (a':=?_) rfl rfl (any_of HT_.out T11q1) (fun _ _ _ h => h) (Or.inl ⟨by rfl,?_⟩) ?_ ?_
    rotate_left
    ·intro w'
     go_simp
     with_reducible rfl
    rotate_left
    ·simp only [PU]
     rfl
    refine pm_ (i:=5) (N:=some 29) (v:=?_) (a':=?_) rfl rfl (any_of HT_.out T11q1) (fun _ _ _ h => h) (Or.inl ⟨by rfl,?_⟩) ?_ ?_
    rotate_left
    ·intro w'
     go_simp
     with_reducible rfl
    rotate_left
    ·simp only [PU]
     rfl
    refine pm_ (i:=6) (N:=some 30) (v:=?_) (a':=?_) rfl rfl (any_of HT_.out T11q1) (fun _ _ _ h => h) (Or.inl ⟨by rfl,?_⟩) ?_ ?_
    rotate_left
    ·intro w'
     go_simp
     with_reducible rfl
    rotate_left
    ·simp only [PU]
     rfl
    refine pm_ (i:=7) (N:=some 31) (v:=?_) (a':=?_) rfl rfl (any_of HT_.out T11q1) (fun _ _ _ h => h) (Or.inl ⟨by rfl,?_⟩) ?_ ?_
    rotate_left
    ·intro w'
     go_simp
     with_reducible rfl
    rotate_left
    ·simp only [PU]
     rfl
    refine pm_ (i:=9) (N:=some 33) (v:=?_) (a':=?_) rfl rfl (any_of HT_.out T11q1) (fun _ _ _ h => h) (Or.inl ⟨by rfl,?_⟩) ?_ ?_
    rotate_left
    ·intro w'
     go_simp
     with_reducible rfl
    rotate_left
    ·simp only [PU]
     rfl
    refine tm_ (i:=8) (N:=some 32) (v:=?_) (a':=?_) rfl rfl (take_ofW HT_.out HW_.out T11q1) (fun _ _ _ h => h) (Or.inl ⟨by rfl,?_⟩) hHeld ?_ ?_
    rotate_left
    ·rintro w' ⟨s0,s1,s2,s3,s4,s5,s6,s7,s8,s9,s10,s11⟩
     go_simp
     with_reducible rfl
    rotate_left
    ·simp only [PU]
     rfl
    refine tm_ (i:=10) (N:=some 34) (v:=?_) (a':=?_) rfl rfl (take_ofW HT_.out HW_.out T11q1) (fun _ _ _ h => h) (Or.inl ⟨by rfl,?_⟩) hHeld ?_ ?_
    rotate_left
    ·rintro w' ⟨s0,s1,s2,s3,s4,s5,s6,s7,s8,s9,s10,s11⟩
     go_simp
     with_reducible rfl
    rotate_left
    ·simp only [PU]
     rfl
    refine pm_ (i:=11) (N:=some 35) (v:=?_) (a':=?_) rfl rfl (any_of HT_.out T11q1) (fun _ _ _ h => h) (Or.inl ⟨by rfl,?_⟩) ?_ ?_
    rotate_left
    ·intro w'
     go_simp
     with_reducible rfl
    rotate_left
    ·simp only [PU]
     rfl
    refine pm_ (i:=12) (N:=some 36) (v:=?_) (a':=?_) rfl rfl (any_of HT_.out T11q1) (fun _ _ _ h => h) (Or.inl ⟨by rfl,?_⟩) ?_ ?_
    rotate_left
    ·intro w'
     go_simp
     with_reducible rfl
    rotate_left
    ·simp only [PU]
     rfl
    refine pm_ (i:=13) (N:=some 37) (v:=?_) (a':=?_) rfl rfl (any_of HT_.out T11q1) (fun _ _ _ h => h) (Or.inl ⟨by rfl,?_⟩) ?_ ?_
    rotate_left
    ·intro w'
     go_simp
     with_reducible rfl
    rotate_left
    ·simp only [PU]
     rfl
    refine pm_ (i:=14) (N:=some 38) (v:=?_) (a':=?_) rfl rfl (any_of HT_.out T11q1) (fun _ _ _ h => h) (Or.inl ⟨by rfl,?_⟩) ?_ ?_
    rotate_left
    ·intro w'
     go_simp
     with_reducible rfl
    rotate_left
    ·simp only [PU]
     rfl
    refine pm_ (i:=16) (N:=some 40) (v:=?_) (a':=?_) rfl rfl (any_of HT_.out T11q1) (fun _ _ _ h => h) (Or.inl ⟨by rfl,?_⟩) ?_ ?_
    rotate_left
    ·intro w'
     go_simp
     with_reducible rfl
    rotate_left
    ·simp only [PU]
     rfl
    refine pm_ (i:=17) (N:=some 41) (v:=?_) (a':=?_) rfl rfl (any_of HT_.out T11q1) (fun _ _ _ h => h) (Or.inl ⟨by rfl,?_⟩) ?_ ?_
    rotate_left
    ·intro w'
     go_simp
     with_reducible rfl
    rotate_left
    ·simp only [PU]
     rfl
    refine pm_ (i:=18) (N:=some 42) (v:=?_) (a':=?_) rfl rfl (any_of HT_.out T11q1) (fun _ _ _ h => h) (Or.inl ⟨by rfl,?_⟩) ?_ ?_
    rotate_left
    ·intro w'
     go_simp
     with_reducible rfl
    rotate_left
    ·simp only [PU]
     rfl
    refine pm_ (i:=19) (N:=some 43) (v:=?_) (a':=?_) rfl rfl (any_of HT_.out T11q1) (fun _ _ _ h => h) (Or.inl ⟨by rfl,?_⟩) ?_ ?_
    rotate_left
    ·intro w'
     go_simp
     with_reducible rfl
    rotate_left
    ·simp only [PU]
     rfl
    refine tm_ (i:=15) (N:=some 39) (v:=?_) (a':=?_) rfl rfl (take_ofW HT_.out HW_.out T11q1) (fun _ _ _ h => h) (Or.inl ⟨by rfl,?_⟩) hHeld ?_ ?_
    rotate_left
    ·rintro w' ⟨s0,s1,s2,s3,s4,s5,s6,s7,s8,s9,s10,s11⟩
     go_simp
     with_reducible rfl
    rotate_left
    ·simp only [PU]
     rfl
    refine tm_ (i:=20) (N:=some 44) (v:=?_) (a':=?_) rfl rfl (take_ofW HT_.out HW_.out T11q1) (fun _ _ _ h => h) (Or.inl ⟨by rfl,?_⟩) hHeld ?_ ?_
    rotate_left
    ·rintro w' ⟨s0,s1,s2,s3,s4,s5,s6,s7,s8,s9,s10,s11⟩
     go_simp
     with_reducible rfl
    rotate_left
    ·simp only [PU]
     rfl
    refine om_ (i:=21) (N:=some 45) rfl rfl (one_of HT_.out T11q1) (by decide) (fun K hK => ?_)
    refine goes_ Try.func48 T11q1 rfl #[.slice A1 l1.length c1,.agg #[.string ((rd_T27 l0 x19_1).f0),.int .i64 ((rd_T27 l0 x19_1).f1),.bool ((rd_T27 l0 x19_1).f2),.int .i64 ((rd_T27 l0 x19_1).f3)],.agg #[.string ((rd_T27 l0 (ji18)).f0),.int .i64 ((rd_T27 l0 (ji18)).f1),.bool ((rd_T27 l0 (ji18)).f2),.int .i64 ((rd_T27 l0 (ji18)).f3)]] (by rfl) rfl rfl T11q6 ?_
    with_reducible refine (impl_seen.calls _ _ l1 ((rd_T27 l0 x19_1).f0) ((rd_T27 l0 x19_1).f1) ((rd_T27 l0 x19_1).f2) ((rd_T27 l0 x19_1).f3) ((rd_T27 l0 (ji18)).f0) ((rd_T27 l0 (ji18)).f1) ((rd_T27 l0 (ji18)).f2) ((rd_T27 l0 (ji18)).f3) true _ ?side1 ?side2 A22.out).mono ?_
    (case side1 => repeat (first | exact (Kd.C_below HR1.out HB.out) | (with_reducible refine Kd.C_alloc ?_ _) | (with_reducible refine Kd.C_drewN ?_ _) | (with_reducible refine Kd.C_drew ?_)))
    (case side2 => exact HC1.out)
    rintro e w29 ⟨rfl,hb⟩
    refine ⟨_,rfl,?_⟩
    have n0_:=Aside0.mk (Kd.R_below T11q4 hb)
    have n1_:=Aside0.mk (blk_below (g:=gb334) (o:=.cells #[.string ((rd_T27 l0 x19_1).f0),.int .i64 ((rd_T27 l0 x19_1).f1),.bool ((rd_T27 l0 x19_1).f2),.int .i64 ((rd_T27 l0 x19_1).f3)] 27 (0,0)) T11q5 hb)
    have n2_:=Aside0.mk (below_step (by repeat (first | (with_reducible first | exact HB.out | apply below_alloc | apply pw_below_drewN | apply below_drew1 | refine below_set ?_ GE334.out) | exact HB.out)) hb)
    clear HO_7
    clear BK334
    clear HB
    have HO_7:=n0_
    have BK334:=n1_
    have HB:=n2_
    clear n0_ n1_ n2_
    (try clear hb)
    (try clear hb2)
    (try clear hk)
    (try clear hi)
    refine hK.out _ _ ⟨(blk_cell BK334.out 0).trans rfl,(blk_cell BK334.out 1).trans rfl,(blk_cell BK334.out 2).trans rfl,(blk_cell BK334.out 3).trans rfl,((HB.out.cell (World.block_lt_of_cell? w _ hw338_0)).trans hw338_0),((HB.out.cell (World.block_lt_of_cell? w _ hw338_1)).trans hw338_1),((HB.out.cell (World.block_lt_of_cell? w _ hw338_2)).trans hw338_2),((HB.out.cell (World.block_lt_of_cell? w _ hw338_3)).trans hw338_3),((HB.out.cell (World.block_lt_of_cell? w _ hw339_0)).trans hw339_0),((HB.out.cell (World.block_lt_of_cell? w _ hw339_1)).trans hw339_1),((HB.out.cell (World.block_lt_of_cell? w _ hw339_2)).trans hw339_2),((HB.out.cell (World.block_lt_of_cell? w _ hw339_3)).trans hw339_3)⟩ (fun hHeld => ?_)
    clear hK K
    refine norm_ (a':=?_) ?_ ?_
    rotate_left
    ·show Act.put _ (some 45) _ = _
     simp only [PU]
     rfl
    refine pm_ (i:=22) (N:=some 46) (v:=?_) (a':=?_) rfl rfl (any_of HT_.out T11q1) (fun _ _ _ h => h) (Or.inl ⟨by rfl,?_⟩) ?_ ?_
    rotate_left
    ·intro w'
     go_simp
     with_reducible rfl
    rotate_left
    ·simp only [PU]
     rfl
    refine done_ (done_of HT_.out T11q1) ?_
    have hcz30_0 : w29.cell? ⟨gb334,0,none⟩ = some (.string ((rd_T27 l0 x19_1).f0)):=(blk_cell BK334.out 0).trans rfl
    have hcz30_1 : w29.cell? ⟨gb334,1,none⟩ = some (.int .i64 ((rd_T27 l0 x19_1).f1)):=(blk_cell BK334.out 1).trans rfl
    have hcz30_2 : w29.cell? ⟨gb334,2,none⟩ = some (.bool ((rd_T27 l0 x19_1).f2)):=(blk_cell BK334.out 2).trans rfl
    have hcz30_3 : w29.cell? ⟨gb334,3,none⟩ = some (.int .i64 ((rd_T27 l0 x19_1).f3)):=(blk_cell BK334.out 3).trans rfl
    have hfz30_0:=blk_frozen BK334.out 0
    have hfz30_1:=blk_frozen BK334.out 1
    have hfz30_2:=blk_frozen BK334.out 2
    have hfz30_3:=blk_frozen BK334.out 3
    try go_wp2_with (first | ((with_reducible refine gate_builtin (b:=.append) (xs:=#[.tmp 47,.tmp 49]) rfl ?_);at_builtin;refine Kd.R_append k27 (w0:=w) w.heap.size rfl (.tmp 47) (.tmp 49) 23 27 (.agg #[(.string ⟨#[]⟩),(.int .i64 0),(.bool false),(.int .i64 0)]) 40 rfl Try.underlying23 info27 rfl (by decide) (by omega) u7 x7_1 (⟨(rd_T27 l0 x19_1).f0,(rd_T27 l0 x19_1).f1,(rd_T27 l0 x19_1).f2,(rd_T27 l0 x19_1).f3⟩ : S27) [.string ((rd_T27 l0 x19_1).f0),.int .i64 ((rd_T27 l0 x19_1).f1),.bool ((rd_T27 l0 x19_1).f2),.int .i64 ((rd_T27 l0 x19_1).f3)] (fun k_ => k_ ≠ gb334) (fun _ => False) rfl rfl ?aP (fun _ hk => hk.elim) ?aF ?aO ?aB ?aS ?aL ?_;(case aP => exact k27_mkM _ _ _ (⟨(rd_T27 l0 x19_1).f0,(rd_T27 l0 x19_1).f1,(rd_T27 l0 x19_1).f2,(rd_T27 l0 x19_1).f3⟩ : S27));(case aB => exact (by repeat (first | (with_reducible first | exact HB.out | apply below_alloc | apply pw_below_drewN | apply below_drew1 | refine below_set ?_ GE334.out) | exact HB.out)));(case aF => exact (fun k_ hk => Kd.freshB (g:=gb334) (o:=.cells #[.string ((rd_T27 l0 x19_1).f0),.int .i64 ((rd_T27 l0 x19_1).f1),.bool ((rd_T27 l0 x19_1).f2),.int .i64 ((rd_T27 l0 x19_1).f3)] 27 (0,0)) T11q5 k_ hk));(case aO => exact T11q4);(case aS => exact (below_size (by repeat (first | (with_reducible first | exact HB.out | apply below_alloc | apply pw_below_drewN | apply below_drew1 | refine below_set ?_ GE334.out) | exact HB.out))));(case aL => have:=LMc24.out;omega);intro v342 w31 ho hb hg hat;rw [← Ny341.out] at ho;have n0_:=Aside0.mk (blk_grown (g:=gb334) (o:=.cells #[.string ((rd_T27 l0 x19_1).f0),.int .i64 ((rd_T27 l0 x19_1).f1),.bool ((rd_T27 l0 x19_1).f2),.int .i64 ((rd_T27 l0 x19_1).f3)] 27 (0,0)) T11q5 hg (Kd.R_away HO_7.out (fun _ hk => hk)));have n1_:=Aside0.mk (hb);have n2_:=Aside0.mk (ho);clear BK334;clear HB;clear HO_7;have BK334:=n0_;have HB:=n1_;have HO343:=n2_;clear n0_ n1_ n2_;clear ho hb hg hat))
    go_roundg k1
    case measure => have:=HK1.out;omega
    case rel => exact ⟨(y341),(wrap64 (x19_1 + 1)),(by first | rfl | (simp;done) | (simp [*];done)),H',⟨by have:=HK1.out;omega⟩,⟨by (with_reducible repeat (first | apply Kd.R_alloc | apply Kd.R_drewN | apply Kd.R_drew));exact Kd.R_mono HO343.out (fun _ hk => trivial)⟩,⟨by repeat (first | (with_reducible first | exact HB.out | apply below_alloc | apply pw_below_drewN | apply below_drew1 | refine below_set ?_ GE334.out) | exact HB.out)⟩⟩
   rw [if_neg c7] at H
   have c7b0 : decide (x19_1 < (l0.length : Int)) = false:=decide_eq_false c7
   clear c7
   have H':=Aside0.mk H
   clear H
   obtain ⟨Ao44,co44,eo44⟩:=Kd.R_slice HO_7.out
   subst eo44
   go_wp2
   go_loopg [10,54] k1 (fun kq v10 v54 w' => ∃ (x10_2 : List (S27)) (x54_2 : Int),v54 = .int .i64 x54_2 ∧ Aside0 (impl_RunTrim.l1 kq a2 x7_1 x10_2 x7_1 (x7_1.length : Int) x54_2 = some r) ∧ Aside0 (kq ≤ k1) ∧ Aside0 (Kd.R k27 27 w' w.heap.size (fun k_ => some k_ ≠ (v10 : Value).ownBlock) (.slice Ao44 x7_1.length co44) x7_1) ∧ Aside0 (Kd.R k27 27 w' w.heap.size (fun k_ => some k_ ≠ ((.slice Ao44 x7_1.length co44) : Value).ownBlock ∧ some k_ ≠ ((.slice Ao44 x7_1.length co44) : Value).ownBlock) v10 x10_2) ∧ Aside0 (Kd.R k27 27 w' w.heap.size (fun k_ => some k_ ≠ (v10 : Value).ownBlock) (.slice Ao44 x7_1.length co44) x7_1) ∧ Aside0 (Below w.heap.size w w'))
   case atStart => exact ⟨(([] : List (S27))),(0),(by first | rfl | (simp;done) | (simp [*];done)),H',⟨Nat.le_refl _⟩,⟨by (with_reducible repeat (first | apply Kd.R_alloc | apply Kd.R_drewN | apply Kd.R_drew));exact Kd.R_mono HO_7.out (fun _ hk => (by simp [Value.ownBlock]))⟩,⟨by first | exact Kd.R_nil _ _ _ _ _ | exact Kd.N_nil _ _ _ _ _ | exact Kd.V_nil _ _ _ _ _ | exact Kd.Q_nil _ _ _ _ _ | exact Kd.S_nil _ _ _ _ _⟩,⟨by (with_reducible repeat (first | apply Kd.R_alloc | apply Kd.R_drewN | apply Kd.R_drew));exact Kd.R_mono HO_7.out (fun _ hk => (by simp [Value.ownBlock]))⟩,⟨by repeat (first | (with_reducible first | exact HB.out | apply below_alloc | apply pw_below_drewN | apply below_drew1) | exact HB.out)⟩⟩
   case round =>
    clear H'
    try clear c1
    try clear c2
    try clear p2
    try clear c3
    try clear p3
    try clear q3
    try clear hx3
    try clear c4
    try clear p6
    try clear c7
    try clear c7b0
    try clear c8
    try clear c9
    try clear c19
    try clear c20
    try clear c21
    try clear c21b0
    try clear c21b1
    try clear c23
    try clear c24
    try clear p33
    try clear q33
    try clear hx33
    try clear c37
    try clear hcz30_0
    try clear hcz30_1
    try clear hcz30_2
    try clear hcz30_3
    try clear hcz33_0
    try clear hcz33_1
    try clear hcz33_2
    try clear hcz33_3
    try clear hcz39_0
    try clear hcz39_1
    try clear hcz39_2
    try clear hcz39_3
    try clear hcz42_0
    try clear hcz42_1
    try clear hcz42_2
    try clear hcz42_3
    try clear hfz30_0
    try clear hfz30_1
    try clear hfz30_2
    try clear hfz30_3
    try clear hfz33_0
    try clear hfz33_1
    try clear hfz33_2
    try clear hfz33_3
    try clear hfz39_0
    try clear hfz39_1
    try clear hfz39_2
    try clear hfz39_3
    try clear hfz42_0
    try clear hfz42_1
    try clear hfz42_2
    try clear hfz42_3
    try clear hx333_0
    try clear hx333_1
    try clear hx333_2
    try clear hx333_3
    try clear hx338_0
    try clear hx338_1
    try clear hx338_2
    try clear hx338_3
    try clear hx339_0
    try clear hx339_1
    try clear hx339_2
    try clear hx339_3
    try clear p333
    try clear p338
    try clear p339
    try clear q333
    try clear q338
    try clear q339
    obtain ⟨x10_2,x54_2,rfl,HA,HK2,HO_7,HO_10,HO_52,HB⟩:=hrel
    cases gk with
    | zero => exact absurd HA.out (by simp [impl_RunTrim.l1])
    | succ k2 =>
     have H:=HA.out
     clear HA
     simp only [impl_RunTrim.l1] at H
     by_cases c45 : x54_2 < (x7_1.length : Int)
     rotate_left
     ·rw [if_neg c45] at H
      have c45b0 : decide (x54_2 < (x7_1.length : Int)) = false:=decide_eq_false c45
      clear c45
      obtain rfl:=Option.some.inj H
      go_wp2
      go_ret
      exact ⟨_,by first | rfl | (simp [errW_none,errW_some] <;> rfl) | (simp [*,errW_none,errW_some] <;> rfl),by (with_reducible repeat (first | apply Kd.R_alloc | apply Kd.R_drewN | apply Kd.R_drew));exact Kd.R_mono HO_10.out (fun _ hk => trivial),by repeat (first | (with_reducible first | exact HB.out | apply below_alloc | apply pw_below_drewN | apply below_drew1) | exact HB.out)⟩
     rw [if_pos c45] at H
     have c45b0 : decide (x54_2 < (x7_1.length : Int)) = true:=decide_eq_true c45
     clear c45
     by_cases c46 : 0 ≤ x54_2
     rotate_left
     ·rw [if_neg c46] at H
      exact absurd H (by simp)
     rw [if_pos c46] at H
     have c46b0 : decide (0 ≤ x54_2) = true:=decide_eq_true c46
     clear c46
     by_cases c47 : x54_2 < (x7_1.length : Int)
     rotate_left
     ·rw [if_neg c47] at H
      exact absurd H (by simp)
     rw [if_pos c47] at H
     have c47b0 : decide (x54_2 < (x7_1.length : Int)) = true:=decide_eq_true c47
     clear c47
     by_cases c48 : (wrap64 (x54_2 + 1)) = (x7_1.length : Int)
     ·rw [if_pos c48] at H
      have c48b0 : ((wrap64 (x54_2 + 1)) == (x7_1.length : Int)) = true:=beq_iff_eq.mpr c48
      have c48b1 : ((wrap64 (x54_2 + 1)) != (x7_1.length : Int)) = false:=bne_eq_false_iff_eq.mpr c48
      clear c48
      by_cases c49 : a2 = true
      rotate_left
      ·replace c49:=Bool.eq_false_iff.mpr c49
       subst c49
       have H1 : (if x10_2.length < 3518437208883 then (impl_RunTrim.l1 k2 false x7_1 (x10_2 ++ [(⟨(rd_T27 x7_1 x54_2).f0,(rd_T27 x7_1 x54_2).f1,(rd_T27 x7_1 x54_2).f2,(rd_T27 x7_1 x54_2).f3⟩ : S27)]) x7_1 (x7_1.length : Int) (wrap64 (x54_2 + 1))) else (none)) = some r:=by rw [if_neg (show ¬ (false = true) by decide)] at H;exact H
       clear H
       have H:=H1
       clear H1
       by_cases c64 : x10_2.length < 3518437208883
       rotate_left
       ·rw [if_neg c64] at H
        exact absurd H (by simp)
       rw [if_pos c64] at H
       have LMc64:=Aside0.mk c64
       clear c64
       obtain ⟨y352,hy352⟩ : ∃ y_ : List (S27),y_ = (x10_2 ++ [(⟨(rd_T27 x7_1 x54_2).f0,(rd_T27 x7_1 x54_2).f1,(rd_T27 x7_1 x54_2).f2,(rd_T27 x7_1 x54_2).f3⟩ : S27)]):=⟨_,rfl⟩
       replace H : (impl_RunTrim.l1 k2 false x7_1 y352 x7_1 (x7_1.length : Int) (wrap64 (x54_2 + 1))) = some r:=by first | (rw [hy352];with_reducible exact H) | (have H2_:=(Option.bind_some _ _).symm.trans H;rw [hy352];with_reducible exact H2_) | (have H2_:=(Option.bind_some _ _).symm.trans H;with_reducible exact H2_) | with_reducible exact H | (rw [hy352];exact H) | exact H
       have Ny352:=Aside0.mk hy352
       clear hy352
       have H':=Aside0.mk H
       clear H
       have p347 : 0 ≤ (x54_2 : Int):=of_decide_eq_true T11q3
       have q347 : x54_2 < (x7_1.length : Int):=of_decide_eq_true T11q3
       obtain ⟨ad347,e347,hx347_0,hx347_1,hx347_2,hx347_3⟩:=at_T27 (Kd.R_reads' HO_52.out).2.2 x54_2 p347 q347
       cases e347
       replace p347:=eq_true p347
       replace q347:=eq_true q347
       try go_wp2_with (first | ((with_reducible refine gate_dst (N:=12) rfl ?_);refine box_event ?hg (N:=12) ?hd (cs:=#[.string (⟨#[]⟩ : ByteArray),.int .i64 0,.bool false,.int .i64 0]) (t:=27) ?hr ?_;(case hd => rfl);(case hg => rfl);(case hr => first | (go_simp;done) | (go_simp;rfl));intro gb348 hg w65 hbox hb;have n0_:=Aside0.mk (Kd.R_below (Kd.R_elderB T11q4 gb348 (Nat.le_of_eq hg.symm)) hb);have n1_:=Aside0.mk (Kd.R_below (Kd.R_elderB T11q7 gb348 (Nat.le_of_eq hg.symm)) hb);have n2_:=Aside0.mk (Kd.R_below (Kd.R_elderB T11q8 gb348 (Nat.le_of_eq hg.symm)) hb);have n3_:=Aside0.mk (below_step (by repeat (first | (with_reducible first | exact HB.out | apply below_alloc | apply pw_below_drewN | apply below_drew1) | exact HB.out)) hb);have n4_:=Aside0.mk (hbox);have n5_:=Aside0.mk ((by rw [hg];exact (below_size (by repeat (first | (with_reducible first | exact HB.out | apply below_alloc | apply pw_below_drewN | apply below_drew1) | exact HB.out))) : w.heap.size ≤ gb348));have n6_:=Aside0.mk ((by rw [hg];exact (below_size (by repeat (first | (with_reducible first | exact HB.out | apply below_alloc | apply pw_below_drewN | apply below_drew1) | exact HB.out))) : w.heap.size ≤ gb348));clear HO_7;clear HO_10;clear HO_52;clear HB;have HO_7:=n0_;have HO_10:=n1_;have HO_52:=n2_;have HB:=n3_;have BK348:=n4_;have GW348:=n5_;have GE348:=n6_;clear n0_ n1_ n2_ n3_ n4_ n5_ n6_;clear hb hbox hg;have hcz66_0 : w65.cell? ⟨gb348,0,none⟩ = some (.string (⟨#[]⟩ : ByteArray)):=(blk_cell BK348.out 0).trans rfl;have hcz66_1 : w65.cell? ⟨gb348,1,none⟩ = some (.int .i64 0):=(blk_cell BK348.out 1).trans rfl;have hcz66_2 : w65.cell? ⟨gb348,2,none⟩ = some (.bool false):=(blk_cell BK348.out 2).trans rfl;have hcz66_3 : w65.cell? ⟨gb348,3,none⟩ = some (.int .i64 0):=(blk_cell BK348.out 3).trans rfl;have hfz66_0:=blk_frozen BK348.out 0;have hfz66_1:=blk_frozen BK348.out 1;have hfz66_2:=blk_frozen BK348.out 2;have hfz66_3:=blk_frozen BK348.out 3))
       have n0_ : Aside0 (Kd.R k27 27 ((((w65.setCell ⟨gb348,0,none⟩ (.string ((rd_T27 x7_1 x54_2).f0))).setCell ⟨gb348,1,none⟩ (.int .i64 ((rd_T27 x7_1 x54_2).f1))).setCell ⟨gb348,2,none⟩ (.bool ((rd_T27 x7_1 x54_2).f2))).setCell ⟨gb348,3,none⟩ (.int .i64 ((rd_T27 x7_1 x54_2).f3))) w.heap.size (fun k_ => some k_ ≠ (u10 : Value).ownBlock ∧ k_ ≠ gb348) (.slice (some ad347) x7_1.length co44) x7_1):=⟨by (with_reducible repeat (first | apply Kd.R_alloc | apply Kd.R_drewN | apply Kd.R_drew));exact Kd.R_mono (Kd.R_far (p:=⟨gb348,3,none⟩) (Kd.R_far (p:=⟨gb348,2,none⟩) (Kd.R_far (p:=⟨gb348,1,none⟩) (Kd.R_far (p:=⟨gb348,0,none⟩) (Kd.R_mono HO_7.out (fun k_ hk => (⟨hk,hk.2⟩ : _ ∧ k_ ≠ gb348))) (fun _ hk => hk.2) (.string ((rd_T27 x7_1 x54_2).f0))) (fun _ hk => hk.2) (.int .i64 ((rd_T27 x7_1 x54_2).f1))) (fun _ hk => hk.2) (.bool ((rd_T27 x7_1 x54_2).f2))) (fun _ hk => hk.2) (.int .i64 ((rd_T27 x7_1 x54_2).f3))) (fun _ hk => ⟨hk.1.1,hk.1.2⟩)⟩
       have n1_ : Aside0 (Kd.R k27 27 ((((w65.setCell ⟨gb348,0,none⟩ (.string ((rd_T27 x7_1 x54_2).f0))).setCell ⟨gb348,1,none⟩ (.int .i64 ((rd_T27 x7_1 x54_2).f1))).setCell ⟨gb348,2,none⟩ (.bool ((rd_T27 x7_1 x54_2).f2))).setCell ⟨gb348,3,none⟩ (.int .i64 ((rd_T27 x7_1 x54_2).f3))) w.heap.size (fun k_ => some k_ ≠ (.slice (some ad347) x7_1.length co44 : Value).ownBlock ∧ some k_ ≠ (.slice (some ad347) x7_1.length co44 : Value).ownBlock ∧ k_ ≠ gb348) u10 x10_2):=⟨by (with_reducible repeat (first | apply Kd.R_alloc | apply Kd.R_drewN | apply Kd.R_drew));exact Kd.R_mono (Kd.R_far (p:=⟨gb348,3,none⟩) (Kd.R_far (p:=⟨gb348,2,none⟩) (Kd.R_far (p:=⟨gb348,1,none⟩) (Kd.R_far (p:=⟨gb348,0,none⟩) (Kd.R_mono HO_10.out (fun k_ hk => (⟨hk,hk.2⟩ : _ ∧ k_ ≠ gb348))) (fun _ hk => hk.2) (.string ((rd_T27 x7_1 x54_2).f0))) (fun _ hk => hk.2) (.int .i64 ((rd_T27 x7_1 x54_2).f1))) (fun _ hk => hk.2) (.bool ((rd_T27 x7_1 x54_2).f2))) (fun _ hk => hk.2) (.int .i64 ((rd_T27 x7_1 x54_2).f3))) (fun _ hk => ⟨hk.1.1.1,⟨hk.1.1.2,hk.1.2⟩⟩)⟩
       have n2_ : Aside0 (Kd.R k27 27 ((((w65.setCell ⟨gb348,0,none⟩ (.string ((rd_T27 x7_1 x54_2).f0))).setCell ⟨gb348,1,none⟩ (.int .i64 ((rd_T27 x7_1 x54_2).f1))).setCell ⟨gb348,2,none⟩ (.bool ((rd_T27 x7_1 x54_2).f2))).setCell ⟨gb348,3,none⟩ (.int .i64 ((rd_T27 x7_1 x54_2).f3))) w.heap.size (fun k_ => some k_ ≠ (u10 : Value).ownBlock ∧ k_ ≠ gb348) (.slice (some ad347) x7_1.length co44) x7_1):=⟨by (with_reducible repeat (first | apply Kd.R_alloc | apply Kd.R_drewN | apply Kd.R_drew));exact Kd.R_mono (Kd.R_far (p:=⟨gb348,3,none⟩) (Kd.R_far (p:=⟨gb348,2,none⟩) (Kd.R_far (p:=⟨gb348,1,none⟩) (Kd.R_far (p:=⟨gb348,0,none⟩) (Kd.R_mono HO_52.out (fun k_ hk => (⟨hk,hk.2⟩ : _ ∧ k_ ≠ gb348))) (fun _ hk => hk.2) (.string ((rd_T27 x7_1 x54_2).f0))) (fun _ hk => hk.2) (.int .i64 ((rd_T27 x7_1 x54_2).f1))) (fun _ hk => hk.2) (.bool ((rd_T27 x7_1 x54_2).f2))) (fun _ hk => hk.2) (.int .i64 ((rd_T27 x7_1 x54_2).f3))) (fun _ hk => ⟨hk.1.1,hk.1.2⟩)⟩
       have n3_ : Aside0 (((((w65.setCell ⟨gb348,0,none⟩ (.string ((rd_T27 x7_1 x54_2).f0))).setCell ⟨gb348,1,none⟩ (.int .i64 ((rd_T27 x7_1 x54_2).f1))).setCell ⟨gb348,2,none⟩ (.bool ((rd_T27 x7_1 x54_2).f2))).setCell ⟨gb348,3,none⟩ (.int .i64 ((rd_T27 x7_1 x54_2).f3))).heap[gb348]? = some (.cells #[.string ((rd_T27 x7_1 x54_2).f0),.int .i64 ((rd_T27 x7_1 x54_2).f1),.bool ((rd_T27 x7_1 x54_2).f2),.int .i64 ((rd_T27 x7_1 x54_2).f3)] 27 (0,0))):=⟨by (with_reducible repeat (first | refine blk_drewN ?_ _ | refine blk_drew ?_ | refine blk_alloc ?_ _));refine blk_put (cs:=#[.string ((rd_T27 x7_1 x54_2).f0),.int .i64 ((rd_T27 x7_1 x54_2).f1),.bool ((rd_T27 x7_1 x54_2).f2),.int .i64 0]) ?_ 3 _ rfl;(with_reducible repeat (first | refine blk_drewN ?_ _ | refine blk_drew ?_ | refine blk_alloc ?_ _));refine blk_put (cs:=#[.string ((rd_T27 x7_1 x54_2).f0),.int .i64 ((rd_T27 x7_1 x54_2).f1),.bool false,.int .i64 0]) ?_ 2 _ rfl;(with_reducible repeat (first | refine blk_drewN ?_ _ | refine blk_drew ?_ | refine blk_alloc ?_ _));refine blk_put (cs:=#[.string ((rd_T27 x7_1 x54_2).f0),.int .i64 0,.bool false,.int .i64 0]) ?_ 1 _ rfl;(with_reducible repeat (first | refine blk_drewN ?_ _ | refine blk_drew ?_ | refine blk_alloc ?_ _));refine blk_put (cs:=#[.string (⟨#[]⟩ : ByteArray),.int .i64 0,.bool false,.int .i64 0]) ?_ 0 _ rfl;(with_reducible repeat (first | refine blk_drewN ?_ _ | refine blk_drew ?_ | refine blk_alloc ?_ _));exact BK348.out⟩
       have n4_ : Aside0 (Below w.heap.size w ((((w65.setCell ⟨gb348,0,none⟩ (.string ((rd_T27 x7_1 x54_2).f0))).setCell ⟨gb348,1,none⟩ (.int .i64 ((rd_T27 x7_1 x54_2).f1))).setCell ⟨gb348,2,none⟩ (.bool ((rd_T27 x7_1 x54_2).f2))).setCell ⟨gb348,3,none⟩ (.int .i64 ((rd_T27 x7_1 x54_2).f3)))):=⟨by repeat (first | (with_reducible first | exact HB.out | apply below_alloc | apply pw_below_drewN | apply below_drew1 | refine below_set ?_ GE348.out) | exact HB.out)⟩
       (try clear HO_7)
       (try clear HO_10)
       (try clear HO_52)
       (try clear BK348)
       (try clear HB)
       generalize ((((w65.setCell ⟨gb348,0,none⟩ (.string ((rd_T27 x7_1 x54_2).f0))).setCell ⟨gb348,1,none⟩ (.int .i64 ((rd_T27 x7_1 x54_2).f1))).setCell ⟨gb348,2,none⟩ (.bool ((rd_T27 x7_1 x54_2).f2))).setCell ⟨gb348,3,none⟩ (.int .i64 ((rd_T27 x7_1 x54_2).f3))) = w67 at n0_ n1_ n2_ n3_ n4_ ⊢
       have HO_7:=n0_
       have HO_10:=n1_
       have HO_52:=n2_
       have BK348:=n3_
       have HB:=n4_
       clear n0_ n1_ n2_ n3_ n4_
       have n0_:=Aside0.mk (Kd.R_drew HO_7.out)
       have n1_:=Aside0.mk (Kd.R_drew HO_10.out)
       have n2_:=Aside0.mk (Kd.R_drew HO_52.out)
       have n3_:=Aside0.mk (blk_drew BK348.out)
       have n4_:=Aside0.mk (below_drew1 HB.out)
       clear HO_7
       clear HO_10
       clear HO_52
       clear BK348
       clear HB
       have HO_7:=n0_
       have HO_10:=n1_
       have HO_52:=n2_
       have BK348:=n3_
       have HB:=n4_
       clear n0_ n1_ n2_ n3_ n4_
       refine start_ (n:=17) (S:=fun w' => True) (ds:=[]) #[false,false,false,false,false,false,false,false,false,false,false,false,false,false,false,false,false] T11q1 rfl rfl trivial (fun hHeld => ?_);refine with_tabW impl_RunTrim.tab14 impl_RunTrim.bits14 (fun HT_ HW_ => ?_)
       generalize w67.drew = w68 at HO_7 HO_10 HO_52 BK348 HB hHeld ⊢
       refine pm_ (i:=0) (N:=some 59) (v:=?_) (a':=?_) rfl rfl (any_of HT_.out T11q1) (fun _ _ _ h => h) (Or.inl ⟨by rfl,?_⟩) ?_ ?_
       rotate_left
       ·intro w'
        go_simp
        with_reducible rfl
       rotate_left
       ·simp only [PU]
        rfl
       refine pm_ (i:=1) (N:=some 60) (v:=?_) (a':=?_) rfl rfl (any_of HT_.out T11q1) (fun _ _ _ h => h) (Or.inl ⟨by rfl,?_⟩) ?_ ?_
       rotate_left
       ·intro w'
        go_simp
        with_reducible rfl
       rotate_left
       ·simp only [PU]
        rfl
       refine pm_ (i:=2) (N:=some 61) (v:=?_) (a':=?_) rfl rfl (any_of HT_.out T11q1) (fun _ _ _ h => h) (Or.inl ⟨by rfl,?_⟩) ?_ ?_
       rotate_left
       ·intro w'
        go_simp
        with_reducible rfl
       rotate_left
       ·simp only [PU]
        rfl
       refine pm_ (i:=3) (N:=some 62) (v:=?_) (a':=?_) rfl rfl (any_of HT_.out T11q1) (fun _ _ _ h => h) (Or.inl ⟨by rfl,?_⟩) ?_ ?_
       rotate_left
       ·intro w'
        go_simp
        with_reducible rfl
       rotate_left
       ·simp only [PU]
        rfl
       refine pm_ (i:=4) (N:=some 63) (v:=?_) (a':=?_) rfl rfl (any_of HT_.out T11q1) (fun _ _ _ h => h) (Or.inl ⟨by rfl,?_⟩) ?_ ?_
       rotate_left
       ·intro w'
        go_simp
        with_reducible rfl
       rotate_left
       ·simp only [PU]
        rfl
       refine pm_ (i:=5) (N:=some 64) (v:=?_) (a':=?_) rfl rfl (any_of HT_.out T11q1) (fun _ _ _ h => h) (Or.inl ⟨by rfl,?_⟩) ?_ ?_
       rotate_left
       ·intro w'
        go_simp
        with_reducible rfl
       rotate_left
       ·simp only [PU]
        rfl
       refine pm_ (i:=6) (N:=some 65) (v:=undef) (a':=?_) rfl rfl (any_of HT_.out T11q1) (fun _ _ _ h => h) (Or.inr ⟨by rfl,rfl⟩) ?_ ?_
       rotate_left
       ·simp only [PU]
        rfl
       refine pm_ (i:=7) (N:=some 66) (v:=undef) (a':=?_) rfl rfl (any_of HT_.out T11q1) (fun _ _ _ h => h) (Or.inr ⟨by rfl,rfl⟩) ?_ ?_
       rotate_left
       ·simp only [PU]
        rfl
       refine pm_ (i:=8) (N:=some 67) (v:=undef) (a':=?_) rfl rfl (any_of HT_.out T11q1) (fun _ _ _ h => h) (Or.inr ⟨by rfl,rfl⟩) ?_ ?_
       rotate_left
       ·simp only [PU]
        rfl
       refine pm_ (i:=9) (N:=some 68) (v:=undef) (a':=?_) rfl rfl (any_of HT_.out T11q1) (fun _ _ _ h => h) (Or.inr ⟨by rfl,rfl⟩) ?_ ?_
       rotate_left
       ·simp only [PU]
        rfl
       refine pm_ (i:=10) (N:=some 69) (v:=undef) (a':=?_) rfl rfl (any_of HT_.out T11q1) (fun _ _ _ h => h) (Or.inr ⟨by rfl,rfl⟩) ?_ ?_
       rotate_left
       ·simp only [PU]
        rfl
       refine pm_ (i:=11) (N:=some 70) (v:=undef) (a':=?_) rfl rfl (any_of HT_.out T11q1) (fun _ _ _ h => h) (Or.inr ⟨by rfl,rfl⟩) ?_ ?_
       rotate_left
       ·simp only [PU]
        rfl
       refine pm_ (i:=12) (N:=some 71) (v:=undef) (a':=?_) rfl rfl (any_of HT_.out T11q1) (fun _ _ _ h => h) (Or.inr ⟨by rfl,rfl⟩) ?_ ?_
       rotate_left
       ·simp only [PU]
        rfl
       refine pm_ (i:=13) (N:=some 72) (v:=undef) (a':=?_) rfl rfl (any_of HT_.out T11q1) (fun _ _ _ h => h) (Or.inr ⟨by rfl,rfl⟩) ?_ ?_
       rotate_left
       ·simp only [PU]
        rfl
       refine pm_ (i:=14) (N:=some 73) (v:=undef) (a':=?_) rfl rfl (any_of HT_.out T11q1) (fun _ _ _ h => h) (Or.inr ⟨by rfl,rfl⟩) ?_ ?_
       rotate_left
       ·simp only [PU]
        rfl
       refine pm_ (i:=15) (N:=some 74) (v:=?_) (a':=?_) rfl rfl (any_of HT_.out T11q1) (fun _ _ _ h => h) (Or.inl ⟨by rfl,?_⟩) ?_ ?_
       rotate_left
       ·intro w'
        go_simp
        with_reducible rfl
       rotate_left
       ·simp only [PU]
        rfl
       refine pm_ (i:=16) (N:=some 13) (v:=?_) (a':=?_) rfl rfl (any_of HT_.out T11q1) (fun _ _ _ h => h) (Or.inl ⟨by rfl,?_⟩) ?_ ?_
       rotate_left
       ·intro w'
        go_simp
        with_reducible rfl
       rotate_left
       ·simp only [PU]
        rfl
       refine done_ (done_of HT_.out T11q1) ?_
       have hcz69_0 : w68.cell? ⟨gb348,0,none⟩ = some (.string ((rd_T27 x7_1 x54_2).f0)):=(blk_cell BK348.out 0).trans rfl
       have hcz69_1 : w68.cell? ⟨gb348,1,none⟩ = some (.int .i64 ((rd_T27 x7_1 x54_2).f1)):=(blk_cell BK348.out 1).trans rfl
       have hcz69_2 : w68.cell? ⟨gb348,2,none⟩ = some (.bool ((rd_T27 x7_1 x54_2).f2)):=(blk_cell BK348.out 2).trans rfl
       have hcz69_3 : w68.cell? ⟨gb348,3,none⟩ = some (.int .i64 ((rd_T27 x7_1 x54_2).f3)):=(blk_cell BK348.out 3).trans rfl
       have hfz69_0:=blk_frozen BK348.out 0
       have hfz69_1:=blk_frozen BK348.out 1
       have hfz69_2:=blk_frozen BK348.out 2
       have hfz69_3:=blk_frozen BK348.out 3
       try go_wp2_with (first | ((with_reducible refine gate_builtin (b:=.append) (xs:=#[.tmp 86,.tmp 88]) rfl ?_);at_builtin;refine Kd.R_append k27 (w0:=w) w.heap.size rfl (.tmp 86) (.tmp 88) 23 27 (.agg #[(.string ⟨#[]⟩),(.int .i64 0),(.bool false),(.int .i64 0)]) 40 rfl Try.underlying23 info27 rfl (by decide) (by omega) u10 x10_2 (⟨(rd_T27 x7_1 x54_2).f0,(rd_T27 x7_1 x54_2).f1,(rd_T27 x7_1 x54_2).f2,(rd_T27 x7_1 x54_2).f3⟩ : S27) [.string ((rd_T27 x7_1 x54_2).f0),.int .i64 ((rd_T27 x7_1 x54_2).f1),.bool ((rd_T27 x7_1 x54_2).f2),.int .i64 ((rd_T27 x7_1 x54_2).f3)] (fun k_ => some k_ ≠ (.slice (some ad347) x7_1.length co44 : Value).ownBlock ∧ some k_ ≠ (.slice (some ad347) x7_1.length co44 : Value).ownBlock ∧ k_ ≠ gb348) (fun _ => False) rfl rfl ?aP (fun _ hk => hk.elim) ?aF ?aO ?aB ?aS ?aL ?_;(case aP => exact k27_mkM _ _ _ (⟨(rd_T27 x7_1 x54_2).f0,(rd_T27 x7_1 x54_2).f1,(rd_T27 x7_1 x54_2).f2,(rd_T27 x7_1 x54_2).f3⟩ : S27));(case aB => exact (by repeat (first | (with_reducible first | exact HB.out | apply below_alloc | apply pw_below_drewN | apply below_drew1 | refine below_set ?_ GE348.out) | exact HB.out)));(case aF => exact (fun k_ hk => ⟨Kd.fresh' (Kd.R_lt T11q4) k_ hk,Kd.fresh' (Kd.R_lt T11q8) k_ hk,Kd.freshB (g:=gb348) (o:=.cells #[.string ((rd_T27 x7_1 x54_2).f0),.int .i64 ((rd_T27 x7_1 x54_2).f1),.bool ((rd_T27 x7_1 x54_2).f2),.int .i64 ((rd_T27 x7_1 x54_2).f3)] 27 (0,0)) T11q9 k_ hk⟩));(case aO => exact T11q7);(case aS => exact (below_size (by repeat (first | (with_reducible first | exact HB.out | apply below_alloc | apply pw_below_drewN | apply below_drew1 | refine below_set ?_ GE348.out) | exact HB.out))));(case aL => have:=LMc64.out;omega);intro v353 w70 ho hb hg hat;rw [← Ny352.out] at ho;have n0_:=Aside0.mk (Kd.R_after (ok:=(fun k_ => k_ ≠ gb348)) T11q10 hg hat);have n1_:=Aside0.mk (Kd.R_after (ok:=(fun k_ => k_ ≠ gb348)) T11q11 hg hat);have n2_:=Aside0.mk (blk_grown (g:=gb348) (o:=.cells #[.string ((rd_T27 x7_1 x54_2).f0),.int .i64 ((rd_T27 x7_1 x54_2).f1),.bool ((rd_T27 x7_1 x54_2).f2),.int .i64 ((rd_T27 x7_1 x54_2).f3)] 27 (0,0)) T11q9 hg (Kd.R_away HO_10.out (fun _ hk => hk.2.2)));have n3_:=Aside0.mk (hb);have n4_:=Aside0.mk (ho);clear HO_7;clear HO_52;clear BK348;clear HB;clear HO_10;have HO_7:=n0_;have HO_52:=n1_;have BK348:=n2_;have HB:=n3_;have HO354:=n4_;clear n0_ n1_ n2_ n3_ n4_;clear ho hb hg hat))
       go_roundg k2
       case measure => have:=HK1.out;have:=HK2.out;omega
       case rel => exact ⟨(y352),(wrap64 (x54_2 + 1)),(by first | rfl | (simp;done) | (simp [*];done)),H',⟨by have:=HK1.out;have:=HK2.out;omega⟩,⟨by (with_reducible repeat (first | apply Kd.R_alloc | apply Kd.R_drewN | apply Kd.R_drew));exact Kd.R_mono HO_7.out (fun _ hk => hk.2)⟩,⟨by (with_reducible repeat (first | apply Kd.R_alloc | apply Kd.R_drewN | apply Kd.R_drew));exact Kd.R_mono HO354.out (fun _ hk => ⟨hk.1,hk.2.1⟩)⟩,⟨by (with_reducible repeat (first | apply Kd.R_alloc | apply Kd.R_drewN | apply Kd.R_drew));exact Kd.R_mono HO_52.out (fun _ hk => hk.2)⟩,⟨by repeat (first | (with_reducible first | exact HB.out | apply below_alloc | apply pw_below_drewN | apply below_drew1 | refine below_set ?_ GE348.out) | exact HB.out)⟩⟩
      subst c49
      have H1 : (if ((rd_T27 x7_1 x54_2).f2 = true) then (impl_RunTrim.l1 k2 true x7_1 x10_2 x7_1 (x7_1.length : Int) (wrap64 (x54_2 + 1))) else (if x10_2.length < 3518437208883 then (impl_RunTrim.l1 k2 true x7_1 (x10_2 ++ [(⟨(rd_T27 x7_1 x54_2).f0,(rd_T27 x7_1 x54_2).f1,(rd_T27 x7_1 x54_2).f2,(rd_T27 x7_1 x54_2).f3⟩ : S27)]) x7_1 (x7_1.length : Int) (wrap64 (x54_2 + 1))) else (none))) = some r:=by rw [if_pos rfl] at H;exact H
      clear H
      have H:=H1
      clear H1
      obtain ⟨bq50,hbq50⟩ : ∃ b_ : Bool,b_ = ((rd_T27 x7_1 x54_2).f2):=⟨_,rfl⟩
      replace H : (if (bq50 = true) then (impl_RunTrim.l1 k2 true x7_1 x10_2 x7_1 (x7_1.length : Int) (wrap64 (x54_2 + 1))) else (if x10_2.length < 3518437208883 then (impl_RunTrim.l1 k2 true x7_1 (x10_2 ++ [(⟨(rd_T27 x7_1 x54_2).f0,(rd_T27 x7_1 x54_2).f1,bq50,(rd_T27 x7_1 x54_2).f3⟩ : S27)]) x7_1 (x7_1.length : Int) (wrap64 (x54_2 + 1))) else (none))) = some r:=by rw [← hbq50] at H;exact H
      have Nbq50:=Aside0.mk hbq50
      clear hbq50
      by_cases c51 : (bq50 = true)
      ·subst c51
       have H1 : (impl_RunTrim.l1 k2 true x7_1 x10_2 x7_1 (x7_1.length : Int) (wrap64 (x54_2 + 1))) = some r:=by rw [if_pos rfl] at H;exact H
       clear H
       have H:=H1
       clear H1
       have H':=Aside0.mk H
       clear H
       have p347 : 0 ≤ (x54_2 : Int):=of_decide_eq_true T11q3
       have q347 : x54_2 < (x7_1.length : Int):=of_decide_eq_true T11q3
       obtain ⟨ad347,e347,hx347_0,hx347_1,hx347_2,hx347_3⟩:=at_T27 (Kd.R_reads' HO_52.out).2.2 x54_2 p347 q347
       (try rw [← Nbq50.out] at hx347_2)
       cases e347
       replace p347:=eq_true p347
       replace q347:=eq_true q347
       try go_wp2_with (first | ((with_reducible refine gate_dst (N:=12) rfl ?_);refine box_event ?hg (N:=12) ?hd (cs:=#[.string (⟨#[]⟩ : ByteArray),.int .i64 0,.bool false,.int .i64 0]) (t:=27) ?hr ?_;(case hd => rfl);(case hg => rfl);(case hr => first | (go_simp;done) | (go_simp;rfl));intro gb348 hg w52 hbox hb;have n0_:=Aside0.mk (Kd.R_below (Kd.R_elderB T11q4 gb348 (Nat.le_of_eq hg.symm)) hb);have n1_:=Aside0.mk (Kd.R_below (Kd.R_elderB T11q7 gb348 (Nat.le_of_eq hg.symm)) hb);have n2_:=Aside0.mk (Kd.R_below (Kd.R_elderB T11q8 gb348 (Nat.le_of_eq hg.symm)) hb);have n3_:=Aside0.mk (below_step (by repeat (first | (with_reducible first | exact HB.out | apply below_alloc | apply pw_below_drewN | apply below_drew1) | exact HB.out)) hb);have n4_:=Aside0.mk (hbox);have n5_:=Aside0.mk ((by rw [hg];exact (below_size (by repeat (first | (with_reducible first | exact HB.out | apply below_alloc | apply pw_below_drewN | apply below_drew1) | exact HB.out))) : w.heap.size ≤ gb348));have n6_:=Aside0.mk ((by rw [hg];exact (below_size (by repeat (first | (with_reducible first | exact HB.out | apply below_alloc | apply pw_below_drewN | apply below_drew1) | exact HB.out))) : w.heap.size ≤ gb348));clear HO_7;clear HO_10;clear HO_52;clear HB;have HO_7:=n0_;have HO_10:=n1_;have HO_52:=n2_;have HB:=n3_;have BK348:=n4_;have GW348:=n5_;have GE348:=n6_;clear n0_ n1_ n2_ n3_ n4_ n5_ n6_;clear hb hbox hg;have hcz53_0 : w52.cell? ⟨gb348,0,none⟩ = some (.string (⟨#[]⟩ : ByteArray)):=(blk_cell BK348.out 0).trans rfl;have hcz53_1 : w52.cell? ⟨gb348,1,none⟩ = some (.int .i64 0):=(blk_cell BK348.out 1).trans rfl;have hcz53_2 : w52.cell? ⟨gb348,2,none⟩ = some (.bool false):=(blk_cell BK348.out 2).trans rfl;have hcz53_3 : w52.cell? ⟨gb348,3,none⟩ = some (.int .i64 0):=(blk_cell BK348.out 3).trans rfl;have hfz53_0:=blk_frozen BK348.out 0;have hfz53_1:=blk_frozen BK348.out 1;have hfz53_2:=blk_frozen BK348.out 2;have hfz53_3:=blk_frozen BK348.out 3))
       have n0_ : Aside0 (Kd.R k27 27 ((((w52.setCell ⟨gb348,0,none⟩ (.string ((rd_T27 x7_1 x54_2).f0))).setCell ⟨gb348,1,none⟩ (.int .i64 ((rd_T27 x7_1 x54_2).f1))).setCell ⟨gb348,2,none⟩ (.bool true)).setCell ⟨gb348,3,none⟩ (.int .i64 ((rd_T27 x7_1 x54_2).f3))) w.heap.size (fun k_ => some k_ ≠ (u10 : Value).ownBlock ∧ k_ ≠ gb348) (.slice (some ad347) x7_1.length co44) x7_1):=⟨by (with_reducible repeat (first | apply Kd.R_alloc | apply Kd.R_drewN | apply Kd.R_drew));exact Kd.R_mono (Kd.R_far (p:=⟨gb348,3,none⟩) (Kd.R_far (p:=⟨gb348,2,none⟩) (Kd.R_far (p:=⟨gb348,1,none⟩) (Kd.R_far (p:=⟨gb348,0,none⟩) (Kd.R_mono HO_7.out (fun k_ hk => (⟨hk,hk.2⟩ : _ ∧ k_ ≠ gb348))) (fun _ hk => hk.2) (.string ((rd_T27 x7_1 x54_2).f0))) (fun _ hk => hk.2) (.int .i64 ((rd_T27 x7_1 x54_2).f1))) (fun _ hk => hk.2) (.bool true)) (fun _ hk => hk.2) (.int .i64 ((rd_T27 x7_1 x54_2).f3))) (fun _ hk => ⟨hk.1.1,hk.1.2⟩)⟩
       have n1_ : Aside0 (Kd.R k27 27 ((((w52.setCell ⟨gb348,0,none⟩ (.string ((rd_T27 x7_1 x54_2).f0))).setCell ⟨gb348,1,none⟩ (.int .i64 ((rd_T27 x7_1 x54_2).f1))).setCell ⟨gb348,2,none⟩ (.bool true)).setCell ⟨gb348,3,none⟩ (.int .i64 ((rd_T27 x7_1 x54_2).f3))) w.heap.size (fun k_ => some k_ ≠ (.slice (some ad347) x7_1.length co44 : Value).ownBlock ∧ some k_ ≠ (.slice (some ad347) x7_1.length co44 : Value).ownBlock ∧ k_ ≠ gb348) u10 x10_2):=⟨by (with_reducible repeat (first | apply Kd.R_alloc | apply Kd.R_drewN | apply Kd.R_drew));exact Kd.R_mono (Kd.R_far (p:=⟨gb348,3,none⟩) (Kd.R_far (p:=⟨gb348,2,none⟩) (Kd.R_far (p:=⟨gb348,1,none⟩) (Kd.R_far (p:=⟨gb348,0,none⟩) (Kd.R_mono HO_10.out (fun k_ hk => (⟨hk,hk.2⟩ : _ ∧ k_ ≠ gb348))) (fun _ hk => hk.2) (.string ((rd_T27 x7_1 x54_2).f0))) (fun _ hk => hk.2) (.int .i64 ((rd_T27 x7_1 x54_2).f1))) (fun _ hk => hk.2) (.bool true)) (fun _ hk => hk.2) (.int .i64 ((rd_T27 x7_1 x54_2).f3))) (fun _ hk => ⟨hk.1.1.1,⟨hk.1.1.2,hk.1.2⟩⟩)⟩
       have n2_ : Aside0 (Kd.R k27 27 ((((w52.setCell ⟨gb348,0,none⟩ (.string ((rd_T27 x7_1 x54_2).f0))).setCell ⟨gb348,1,none⟩ (.int .i64 ((rd_T27 x7_1 x54_2).f1))).setCell ⟨gb348,2,none⟩ (.bool true)).setCell ⟨gb348,3,none⟩ (.int .i64 ((rd_T27 x7_1 x54_2).f3))) w.heap.size (fun k_ => some k_ ≠ (u10 : Value).ownBlock ∧ k_ ≠ gb348) (.slice (some ad347) x7_1.length co44) x7_1):=⟨by (with_reducible repeat (first | apply Kd.R_alloc | apply Kd.R_drewN | apply Kd.R_drew));exact Kd.R_mono (Kd.R_far (p:=⟨gb348,3,none⟩) (Kd.R_far (p:=⟨gb348,2,none⟩) (Kd.R_far (p:=⟨gb348,1,none⟩) (Kd.R_far (p:=⟨gb348,0,none⟩) (Kd.R_mono HO_52.out (fun k_ hk => (⟨hk,hk.2⟩ : _ ∧ k_ ≠ gb348))) (fun _ hk => hk.2) (.string ((rd_T27 x7_1 x54_2).f0))) (fun _ hk => hk.2) (.int .i64 ((rd_T27 x7_1 x54_2).f1))) (fun _ hk => hk.2) (.bool true)) (fun _ hk => hk.2) (.int .i64 ((rd_T27 x7_1 x54_2).f3))) (fun _ hk => ⟨hk.1.1,hk.1.2⟩)⟩
       have n3_ : Aside0 (((((w52.setCell ⟨gb348,0,none⟩ (.string ((rd_T27 x7_1 x54_2).f0))).setCell ⟨gb348,1,none⟩ (.int .i64 ((rd_T27 x7_1 x54_2).f1))).setCell ⟨gb348,2,none⟩ (.bool true)).setCell ⟨gb348,3,none⟩ (.int .i64 ((rd_T27 x7_1 x54_2).f3))).heap[gb348]? = some (.cells #[.string ((rd_T27 x7_1 x54_2).f0),.int .i64 ((rd_T27 x7_1 x54_2).f1),.bool true,.int .i64 ((rd_T27 x7_1 x54_2).f3)] 27 (0,0))):=⟨by (with_reducible repeat (first | refine blk_drewN ?_ _ | refine blk_drew ?_ | refine blk_alloc ?_ _));refine blk_put (cs:=#[.string ((rd_T27 x7_1 x54_2).f0),.int .i64 ((rd_T27 x7_1 x54_2).f1),.bool true,.int .i64 0]) ?_ 3 _ rfl;(with_reducible repeat (first | refine blk_drewN ?_ _ | refine blk_drew ?_ | refine blk_alloc ?_ _));refine blk_put (cs:=#[.string ((rd_T27 x7_1 x54_2).f0),.int .i64 ((rd_T27 x7_1 x54_2).f1),.bool false,.int .i64 0]) ?_ 2 _ rfl;(with_reducible repeat (first | refine blk_drewN ?_ _ | refine blk_drew ?_ | refine blk_alloc ?_ _));refine blk_put (cs:=#[.string ((rd_T27 x7_1 x54_2).f0),.int .i64 0,.bool false,.int .i64 0]) ?_ 1 _ rfl;(with_reducible repeat (first | refine blk_drewN ?_ _ | refine blk_drew ?_ | refine blk_alloc ?_ _));refine blk_put (cs:=#[.string (⟨#[]⟩ : ByteArray),.int .i64 0,.bool false,.int .i64 0]) ?_ 0 _ rfl;(with_reducible repeat (first | refine blk_drewN ?_ _ | refine blk_drew ?_ | refine blk_alloc ?_ _));exact BK348.out⟩
       have n4_ : Aside0 (Below w.heap.size w ((((w52.setCell ⟨gb348,0,none⟩ (.string ((rd_T27 x7_1 x54_2).f0))).setCell ⟨gb348,1,none⟩ (.int .i64 ((rd_T27 x7_1 x54_2).f1))).setCell ⟨gb348,2,none⟩ (.bool true)).setCell ⟨gb348,3,none⟩ (.int .i64 ((rd_T27 x7_1 x54_2).f3)))):=⟨by repeat (first | (with_reducible first | exact HB.out | apply below_alloc | apply pw_below_drewN | apply below_drew1 | refine below_set ?_ GE348.out) | exact HB.out)⟩
       (try clear HO_7)
       (try clear HO_10)
       (try clear HO_52)
       (try clear BK348)
       (try clear HB)
       generalize ((((w52.setCell ⟨gb348,0,none⟩ (.string ((rd_T27 x7_1 x54_2).f0))).setCell ⟨gb348,1,none⟩ (.int .i64 ((rd_T27 x7_1 x54_2).f1))).setCell ⟨gb348,2,none⟩ (.bool true)).setCell ⟨gb348,3,none⟩ (.int .i64 ((rd_T27 x7_1 x54_2).f3))) = w54 at n0_ n1_ n2_ n3_ n4_ ⊢
       have HO_7:=n0_
       have HO_10:=n1_
       have HO_52:=n2_
       have BK348:=n3_
       have HB:=n4_
       clear n0_ n1_ n2_ n3_ n4_
       have n0_:=Aside0.mk (Kd.R_drew HO_7.out)
       have n1_:=Aside0.mk (Kd.R_drew HO_10.out)
       have n2_:=Aside0.mk (Kd.R_drew HO_52.out)
       have n3_:=Aside0.mk (blk_drew BK348.out)
       have n4_:=Aside0.mk (below_drew1 HB.out)
       clear HO_7
       clear HO_10
       clear HO_52
       clear BK348
       clear HB
       have HO_7:=n0_
       have HO_10:=n1_
       have HO_52:=n2_
       have BK348:=n3_
       have HB:=n4_
       clear n0_ n1_ n2_ n3_ n4_
       refine start_ (n:=17) (S:=fun w' => True) (ds:=[]) #[false,false,false,false,false,false,false,false,false,false,false,false,false,false,false,false,false] T11q1 rfl rfl trivial (fun hHeld => ?_);refine with_tabW impl_RunTrim.tab14 impl_RunTrim.bits14 (fun HT_ HW_ => ?_)
       generalize w54.drew = w55 at HO_7 HO_10 HO_52 BK348 HB hHeld ⊢
       refine pm_ (i:=0) (N:=some 59) (v:=?_) (a':=?_) rfl rfl (any_of HT_.out T11q1) (fun _ _ _ h => h) (Or.inl ⟨by rfl,?_⟩) ?_ ?_
       rotate_left
       ·intro w'
        go_simp
        with_reducible rfl
       rotate_left
       ·simp only [PU]
        rfl
       refine pm_ (i:=1) (N:=some 60) (v:=?_) (a':=?_) rfl rfl (any_of HT_.out T11q1) (fun _ _ _ h => h) (Or.inl ⟨by rfl,?_⟩) ?_ ?_
       rotate_left
       ·intro w'
        go_simp
        with_reducible rfl
       rotate_left
       ·simp only [PU]
        rfl
       refine pm_ (i:=2) (N:=some 61) (v:=?_) (a':=?_) rfl rfl (any_of HT_.out T11q1) (fun _ _ _ h => h) (Or.inl ⟨by rfl,?_⟩) ?_ ?_
       rotate_left
       ·intro w'
        go_simp
        with_reducible rfl
       rotate_left
       ·simp only [PU]
        rfl
       refine pm_ (i:=3) (N:=some 62) (v:=?_) (a':=?_) rfl rfl (any_of HT_.out T11q1) (fun _ _ _ h => h) (Or.inl ⟨by rfl,?_⟩) ?_ ?_
       rotate_left
       ·intro w'
        go_simp
        with_reducible rfl
       rotate_left
       ·simp only [PU]
        rfl
       refine pm_ (i:=4) (N:=some 63) (v:=?_) (a':=?_) rfl rfl (any_of HT_.out T11q1) (fun _ _ _ h => h) (Or.inl ⟨by rfl,?_⟩) ?_ ?_
       rotate_left
       ·intro w'
        go_simp
        with_reducible rfl
       rotate_left
       ·simp only [PU]
        rfl
       refine pm_ (i:=5) (N:=some 64) (v:=?_) (a':=?_) rfl rfl (any_of HT_.out T11q1) (fun _ _ _ h => h) (Or.inl ⟨by rfl,?_⟩) ?_ ?_
       rotate_left
       ·intro w'
        go_simp
        with_reducible rfl
       rotate_left
       ·simp only [PU]
        rfl
       refine pm_ (i:=6) (N:=some 65) (v:=undef) (a':=?_) rfl rfl (any_of HT_.out T11q1) (fun _ _ _ h => h) (Or.inr ⟨by rfl,rfl⟩) ?_ ?_
       rotate_left
       ·simp only [PU]
        rfl
       refine pm_ (i:=7) (N:=some 66) (v:=undef) (a':=?_) rfl rfl (any_of HT_.out T11q1) (fun _ _ _ h => h) (Or.inr ⟨by rfl,rfl⟩) ?_ ?_
       rotate_left
       ·simp only [PU]
        rfl
       refine pm_ (i:=8) (N:=some 67) (v:=undef) (a':=?_) rfl rfl (any_of HT_.out T11q1) (fun _ _ _ h => h) (Or.inr ⟨by rfl,rfl⟩) ?_ ?_
       rotate_left
       ·simp only [PU]
        rfl
       refine pm_ (i:=9) (N:=some 68) (v:=undef) (a':=?_) rfl rfl (any_of HT_.out T11q1) (fun _ _ _ h => h) (Or.inr ⟨by rfl,rfl⟩) ?_ ?_
       rotate_left
       ·simp only [PU]
        rfl
       refine pm_ (i:=10) (N:=some 69) (v:=undef) (a':=?_) rfl rfl (any_of HT_.out T11q1) (fun _ _ _ h => h) (Or.inr ⟨by rfl,rfl⟩) ?_ ?_
       rotate_left
       ·simp only [PU]
        rfl
       refine pm_ (i:=11) (N:=some 70) (v:=undef) (a':=?_) rfl rfl (any_of HT_.out T11q1) (fun _ _ _ h => h) (Or.inr ⟨by rfl,rfl⟩) ?_ ?_
       rotate_left
       ·simp only [PU]
        rfl
       refine pm_ (i:=12) (N:=some 71) (v:=undef) (a':=?_) rfl rfl (any_of HT_.out T11q1) (fun _ _ _ h => h) (Or.inr ⟨by rfl,rfl⟩) ?_ ?_
       rotate_left
       ·simp only [PU]
        rfl
       refine pm_ (i:=13) (N:=some 72) (v:=undef) (a':=?_) rfl rfl (any_of HT_.out T11q1) (fun _ _ _ h => h) (Or.inr ⟨by rfl,rfl⟩) ?_ ?_
       rotate_left
       ·simp only [PU]
        rfl
       refine pm_ (i:=14) (N:=some 73) (v:=undef) (a':=?_) rfl rfl (any_of HT_.out T11q1) (fun _ _ _ h => h) (Or.inr ⟨by rfl,rfl⟩) ?_ ?_
       rotate_left
       ·simp only [PU]
        rfl
       refine pm_ (i:=15) (N:=some 74) (v:=?_) (a':=?_) rfl rfl (any_of HT_.out T11q1) (fun _ _ _ h => h) (Or.inl ⟨by rfl,?_⟩) ?_ ?_
       rotate_left
       ·intro w'
        go_simp
        with_reducible rfl
       rotate_left
       ·simp only [PU]
        rfl
       refine pm_ (i:=16) (N:=some 13) (v:=?_) (a':=?_) rfl rfl (any_of HT_.out T11q1) (fun _ _ _ h => h) (Or.inl ⟨by rfl,?_⟩) ?_ ?_
       rotate_left
       ·intro w'
        go_simp
        with_reducible rfl
       rotate_left
       ·simp only [PU]
        rfl
       refine done_ (done_of HT_.out T11q1) ?_
       have hcz56_0 : w55.cell? ⟨gb348,0,none⟩ = some (.string ((rd_T27 x7_1 x54_2).f0)):=(blk_cell BK348.out 0).trans rfl
       have hcz56_1 : w55.cell? ⟨gb348,1,none⟩ = some (.int .i64 ((rd_T27 x7_1 x54_2).f1)):=(blk_cell BK348.out 1).trans rfl
       have hcz56_2 : w55.cell? ⟨gb348,2,none⟩ = some (.bool true):=(blk_cell BK348.out 2).trans rfl
       have hcz56_3 : w55.cell? ⟨gb348,3,none⟩ = some (.int .i64 ((rd_T27 x7_1 x54_2).f3)):=(blk_cell BK348.out 3).trans rfl
       have hfz56_0:=blk_frozen BK348.out 0
       have hfz56_1:=blk_frozen BK348.out 1
       have hfz56_2:=blk_frozen BK348.out 2
       have hfz56_3:=blk_frozen BK348.out 3
       try go_wp2
       go_roundg k2
       case measure => have:=HK1.out;have:=HK2.out;omega
       case rel => exact ⟨(x10_2),(wrap64 (x54_2 + 1)),(by first | rfl | (simp;done) | (simp [*];done)),H',⟨by have:=HK1.out;have:=HK2.out;omega⟩,⟨by (with_reducible repeat (first | apply Kd.R_alloc | apply Kd.R_drewN | apply Kd.R_drew));exact Kd.R_mono HO_7.out (fun _ hk => hk.1)⟩,⟨by (with_reducible repeat (first | apply Kd.R_alloc | apply Kd.R_drewN | apply Kd.R_drew));exact Kd.R_mono HO_10.out (fun _ hk => ⟨hk.1,hk.2.1⟩)⟩,⟨by (with_reducible repeat (first | apply Kd.R_alloc | apply Kd.R_drewN | apply Kd.R_drew));exact Kd.R_mono HO_52.out (fun _ hk => hk.1)⟩,⟨by repeat (first | (with_reducible first | exact HB.out | apply below_alloc | apply pw_below_drewN | apply below_drew1 | refine below_set ?_ GE348.out) | exact HB.out)⟩⟩
      replace c51:=Bool.eq_false_iff.mpr c51
      subst c51
      have H1 : (if x10_2.length < 3518437208883 then (impl_RunTrim.l1 k2 true x7_1 (x10_2 ++ [(⟨(rd_T27 x7_1 x54_2).f0,(rd_T27 x7_1 x54_2).f1,false,(rd_T27 x7_1 x54_2).f3⟩ : S27)]) x7_1 (x7_1.length : Int) (wrap64 (x54_2 + 1))) else (none)) = some r:=by rw [if_neg (show ¬ (false = true) by decide)] at H;exact H
      clear H
      have H:=H1
      clear H1
      by_cases c57 : x10_2.length < 3518437208883
      rotate_left
      ·rw [if_neg c57] at H
       exact absurd H (by simp)
      rw [if_pos c57] at H
      have LMc57:=Aside0.mk c57
      clear c57
      obtain ⟨y349,hy349⟩ : ∃ y_ : List (S27),y_ = (x10_2 ++ [(⟨(rd_T27 x7_1 x54_2).f0,(rd_T27 x7_1 x54_2).f1,false,(rd_T27 x7_1 x54_2).f3⟩ : S27)]):=⟨_,rfl⟩
      replace H : (impl_RunTrim.l1 k2 true x7_1 y349 x7_1 (x7_1.length : Int) (wrap64 (x54_2 + 1))) = some r:=by first | (rw [hy349];with_reducible exact H) | (have H2_:=(Option.bind_some _ _).symm.trans H;rw [hy349];with_reducible exact H2_) | (have H2_:=(Option.bind_some _ _).symm.trans H;with_reducible exact H2_) | with_reducible exact H | (rw [hy349];exact H) | exact H
      have Ny349:=Aside0.mk hy349
      clear hy349
      have H':=Aside0.mk H
      clear H
      have p347 : 0 ≤ (x54_2 : Int):=of_decide_eq_true T11q3
      have q347 : x54_2 < (x7_1.length : Int):=of_decide_eq_true T11q3
      obtain ⟨ad347,e347,hx347_0,hx347_1,hx347_2,hx347_3⟩:=at_T27 (Kd.R_reads' HO_52.out).2.2 x54_2 p347 q347
      (try rw [← Nbq50.out] at hx347_2)
      cases e347
      replace p347:=eq_true p347
      replace q347:=eq_true q347
      try go_wp2_with (first | ((with_reducible refine gate_dst (N:=12) rfl ?_);refine box_event ?hg (N:=12) ?hd (cs:=#[.string (⟨#[]⟩ : ByteArray),.int .i64 0,.bool false,.int .i64 0]) (t:=27) ?hr ?_;(case hd => rfl);(case hg => rfl);(case hr => first | (go_simp;done) | (go_simp;rfl));intro gb348 hg w58 hbox hb;have n0_:=Aside0.mk (Kd.R_below (Kd.R_elderB T11q4 gb348 (Nat.le_of_eq hg.symm)) hb);have n1_:=Aside0.mk (Kd.R_below (Kd.R_elderB T11q7 gb348 (Nat.le_of_eq hg.symm)) hb);have n2_:=Aside0.mk (Kd.R_below (Kd.R_elderB T11q8 gb348 (Nat.le_of_eq hg.symm)) hb);have n3_:=Aside0.mk (below_step (by repeat (first | (with_reducible first | exact HB.out | apply below_alloc | apply pw_below_drewN | apply below_drew1) | exact HB.out)) hb);have n4_:=Aside0.mk (hbox);have n5_:=Aside0.mk ((by rw [hg];exact (below_size (by repeat (first | (with_reducible first | exact HB.out | apply below_alloc | apply pw_below_drewN | apply below_drew1) | exact HB.out))) : w.heap.size ≤ gb348));have n6_:=Aside0.mk ((by rw [hg];exact (below_size (by repeat (first | (with_reducible first | exact HB.out | apply below_alloc | apply pw_below_drewN | apply below_drew1) | exact HB.out))) : w.heap.size ≤ gb348));clear HO_7;clear HO_10;clear HO_52;clear HB;have HO_7:=n0_;have HO_10:=n1_;have HO_52:=n2_;have HB:=n3_;have BK348:=n4_;have GW348:=n5_;have GE348:=n6_;clear n0_ n1_ n2_ n3_ n4_ n5_ n6_;clear hb hbox hg;have hcz59_0 : w58.cell? ⟨gb348,0,none⟩ = some (.string (⟨#[]⟩ : ByteArray)):=(blk_cell BK348.out 0).trans rfl;have hcz59_1 : w58.cell? ⟨gb348,1,none⟩ = some (.int .i64 0):=(blk_cell BK348.out 1).trans rfl;have hcz59_2 : w58.cell? ⟨gb348,2,none⟩ = some (.bool false):=(blk_cell BK348.out 2).trans rfl;have hcz59_3 : w58.cell? ⟨gb348,3,none⟩ = some (.int .i64 0):=(blk_cell BK348.out 3).trans rfl;have hfz59_0:=blk_frozen BK348.out 0;have hfz59_1:=blk_frozen BK348.out 1;have hfz59_2:=blk_frozen BK348.out 2;have hfz59_3:=blk_frozen BK348.out 3))
      have n0_ : Aside0 (Kd.R k27 27 ((((w58.setCell ⟨gb348,0,none⟩ (.string ((rd_T27 x7_1 x54_2).f0))).setCell ⟨gb348,1,none⟩ (.int .i64 ((rd_T27 x7_1 x54_2).f1))).setCell ⟨gb348,2,none⟩ (.bool false)).setCell ⟨gb348,3,none⟩ (.int .i64 ((rd_T27 x7_1 x54_2).f3))) w.heap.size (fun k_ => some k_ ≠ (u10 : Value).ownBlock ∧ k_ ≠ gb348) (.slice (some ad347) x7_1.length co44) x7_1):=⟨by (with_reducible repeat (first | apply Kd.R_alloc | apply Kd.R_drewN | apply Kd.R_drew));exact Kd.R_mono (Kd.R_far (p:=⟨gb348,3,none⟩) (Kd.R_far (p:=⟨gb348,2,none⟩) (Kd.R_far (p:=⟨gb348,1,none⟩) (Kd.R_far (p:=⟨gb348,0,none⟩) (Kd.R_mono HO_7.out (fun k_ hk => (⟨hk,hk.2⟩ : _ ∧ k_ ≠ gb348))) (fun _ hk => hk.2) (.string ((rd_T27 x7_1 x54_2).f0))) (fun _ hk => hk.2) (.int .i64 ((rd_T27 x7_1 x54_2).f1))) (fun _ hk => hk.2) (.bool false)) (fun _ hk => hk.2) (.int .i64 ((rd_T27 x7_1 x54_2).f3))) (fun _ hk => ⟨hk.1.1,hk.1.2⟩)⟩
      have n1_ : Aside0 (Kd.R k27 27 ((((w58.setCell ⟨gb348,0,none⟩ (.string ((rd_T27 x7_1 x54_2).f0))).setCell ⟨gb348,1,none⟩ (.int .i64 ((rd_T27 x7_1 x54_2).f1))).setCell ⟨gb348,2,none⟩ (.bool false)).setCell ⟨gb348,3,none⟩ (.int .i64 ((rd_T27 x7_1 x54_2).f3))) w.heap.size (fun k_ => some k_ ≠ (.slice (some ad347) x7_1.length co44 : Value).ownBlock ∧ some k_ ≠ (.slice (some ad347) x7_1.length co44 : Value).ownBlock ∧ k_ ≠ gb348) u10 x10_2):=⟨by (with_reducible repeat (first | apply Kd.R_alloc | apply Kd.R_drewN | apply Kd.R_drew));exact Kd.R_mono (Kd.R_far (p:=⟨gb348,3,none⟩) (Kd.R_far (p:=⟨gb348,2,none⟩) (Kd.R_far (p:=⟨gb348,1,none⟩) (Kd.R_far (p:=⟨gb348,0,none⟩) (Kd.R_mono HO_10.out (fun k_ hk => (⟨hk,hk.2⟩ : _ ∧ k_ ≠ gb348))) (fun _ hk => hk.2) (.string ((rd_T27 x7_1 x54_2).f0))) (fun _ hk => hk.2) (.int .i64 ((rd_T27 x7_1 x54_2).f1))) (fun _ hk => hk.2) (.bool false)) (fun _ hk => hk.2) (.int .i64 ((rd_T27 x7_1 x54_2).f3))) (fun _ hk => ⟨hk.1.1.1,⟨hk.1.1.2,hk.1.2⟩⟩)⟩
      have n2_ : Aside0 (Kd.R k27 27 ((((w58.setCell ⟨gb348,0,none⟩ (.string ((rd_T27 x7_1 x54_2).f0))).setCell ⟨gb348,1,none⟩ (.int .i64 ((rd_T27 x7_1 x54_2).f1))).setCell ⟨gb348,2,none⟩ (.bool false)).setCell ⟨gb348,3,none⟩ (.int .i64 ((rd_T27 x7_1 x54_2).f3))) w.heap.size (fun k_ => some k_ ≠ (u10 : Value).ownBlock ∧ k_ ≠ gb348) (.slice (some ad347) x7_1.length co44) x7_1):=⟨by (with_reducible repeat (first | apply Kd.R_alloc | apply Kd.R_drewN | apply Kd.R_drew));exact Kd.R_mono (Kd.R_far (p:=⟨gb348,3,none⟩) (Kd.R_far (p:=⟨gb348,2,none⟩) (Kd.R_far (p:=⟨gb348,1,none⟩) (Kd.R_far (p:=⟨gb348,0,none⟩) (Kd.R_mono HO_52.out (fun k_ hk => (⟨hk,hk.2⟩ : _ ∧ k_ ≠ gb348))) (fun _ hk => hk.2) (.string ((rd_T27 x7_1 x54_2).f0))) (fun _ hk => hk.2) (.int .i64 ((rd_T27 x7_1 x54_2).f1))) (fun _ hk => hk.2) (.bool false)) (fun _ hk => hk.2) (.int .i64 ((rd_T27 x7_1 x54_2).f3))) (fun _ hk => ⟨hk.1.1,hk.1.2⟩)⟩
      have n3_ : Aside0 (((((w58.setCell ⟨gb348,0,none⟩ (.string ((rd_T27 x7_1 x54_2).f0))).setCell ⟨gb348,1,none⟩ (.int .i64 ((rd_T27 x7_1 x54_2).f1))).setCell ⟨gb348,2,none⟩ (.bool false)).setCell ⟨gb348,3,none⟩ (.int .i64 ((rd_T27 x7_1 x54_2).f3))).heap[gb348]? = some (.cells #[.string ((rd_T27 x7_1 x54_2).f0),.int .i64 ((rd_T27 x7_1 x54_2).f1),.bool false,.int .i64 ((rd_T27 x7_1 x54_2).f3)] 27 (0,0))):=⟨by (with_reducible repeat (first | refine blk_drewN ?_ _ | refine blk_drew ?_ | refine blk_alloc ?_ _));refine blk_put (cs:=#[.string ((rd_T27 x7_1 x54_2).f0),.int .i64 ((rd_T27 x7_1 x54_2).f1),.bool false,.int .i64 0]) ?_ 3 _ rfl;(with_reducible repeat (first | refine blk_drewN ?_ _ | refine blk_drew ?_ | refine blk_alloc ?_ _));refine blk_put (cs:=#[.string ((rd_T27 x7_1 x54_2).f0),.int .i64 ((rd_T27 x7_1 x54_2).f1),.bool false,.int .i64 0]) ?_ 2 _ rfl;(with_reducible repeat (first | refine blk_drewN ?_ _ | refine blk_drew ?_ | refine blk_alloc ?_ _));refine blk_put (cs:=#[.string ((rd_T27 x7_1 x54_2).f0),.int .i64 0,.bool false,.int .i64 0]) ?_ 1 _ rfl;(with_reducible repeat (first | refine blk_drewN ?_ _ | refine blk_drew ?_ | refine blk_alloc ?_ _));refine blk_put (cs:=#[.string (⟨#[]⟩ : ByteArray),.int .i64 0,.bool false,.int .i64 0]) ?_ 0 _ rfl;(with_reducible repeat (first | refine blk_drewN ?_ _ | refine blk_drew ?_ | refine blk_alloc ?_ _));exact BK348.out⟩
      have n4_ : Aside0 (Below w.heap.size w ((((w58.setCell ⟨gb348,0,none⟩ (.string ((rd_T27 x7_1 x54_2).f0))).setCell ⟨gb348,1,none⟩ (.int .i64 ((rd_T27 x7_1 x54_2).f1))).setCell ⟨gb348,2,none⟩ (.bool false)).setCell ⟨gb348,3,none⟩ (.int .i64 ((rd_T27 x7_1 x54_2).f3)))):=⟨by repeat (first | (with_reducible first | exact HB.out | apply below_alloc | apply pw_below_drewN | apply below_drew1 | refine below_set ?_ GE348.out) | exact HB.out)⟩
      (try clear HO_7)
      (try clear HO_10)
      (try clear HO_52)
      (try clear BK348)
      (try clear HB)
      generalize ((((w58.setCell ⟨gb348,0,none⟩ (.string ((rd_T27 x7_1 x54_2).f0))).setCell ⟨gb348,1,none⟩ (.int .i64 ((rd_T27 x7_1 x54_2).f1))).setCell ⟨gb348,2,none⟩ (.bool false)).setCell ⟨gb348,3,none⟩ (.int .i64 ((rd_T27 x7_1 x54_2).f3))) = w60 at n0_ n1_ n2_ n3_ n4_ ⊢
      have HO_7:=n0_
      have HO_10:=n1_
      have HO_52:=n2_
      have BK348:=n3_
      have HB:=n4_
      clear n0_ n1_ n2_ n3_ n4_
      have n0_:=Aside0.mk (Kd.R_drew HO_7.out)
      have n1_:=Aside0.mk (Kd.R_drew HO_10.out)
      have n2_:=Aside0.mk (Kd.R_drew HO_52.out)
      have n3_:=Aside0.mk (blk_drew BK348.out)
      have n4_:=Aside0.mk (below_drew1 HB.out)
      clear HO_7
      clear HO_10
      clear HO_52
      clear BK348
      clear HB
      have HO_7:=n0_
      have HO_10:=n1_
      have HO_52:=n2_
      have BK348:=n3_
      have HB:=n4_
      clear n0_ n1_ n2_ n3_ n4_
      refine start_ (n:=17) (S:=fun w' => True) (ds:=[]) #[false,false,false,false,false,false,false,false,false,false,false,false,false,false,false,false,false] T11q1 rfl rfl trivial (fun hHeld => ?_);refine with_tabW impl_RunTrim.tab14 impl_RunTrim.bits14 (fun HT_ HW_ => ?_)
      generalize w60.drew = w61 at HO_7 HO_10 HO_52 BK348 HB hHeld ⊢
      refine pm_ (i:=0) (N:=some 59) (v:=?_) (a':=?_) rfl rfl (any_of HT_.out T11q1) (fun _ _ _ h => h) (Or.inl ⟨by rfl,?_⟩) ?_ ?_
      rotate_left
      ·intro w'
       go_simp
       with_reducible rfl
      rotate_left
      ·simp only [PU]
       rfl
      refine pm_ (i:=1) (N:=some 60) (v:=?_) (a':=?_) rfl rfl (any_of HT_.out T11q1) (fun _ _ _ h => h) (Or.inl ⟨by rfl,?_⟩) ?_ ?_
      rotate_left
      ·intro w'
       go_simp
       with_reducible rfl
      rotate_left
      ·simp only [PU]
       rfl
      refine pm_ (i:=2) (N:=some 61) (v:=?_) (a':=?_) rfl rfl (any_of HT_.out T11q1) (fun _ _ _ h => h) (Or.inl ⟨by rfl,?_⟩) ?_ ?_
      rotate_left
      ·intro w'
       go_simp
       with_reducible rfl
      rotate_left
      ·simp only [PU]
       rfl
      refine pm_ (i:=3) (N:=some 62) (v:=?_) (a':=?_) rfl rfl (any_of HT_.out T11q1) (fun _ _ _ h => h) (Or.inl ⟨by rfl,?_⟩) ?_ ?_
      rotate_left
      ·intro w'
       go_simp
       with_reducible rfl
      rotate_left
      ·simp only [PU]
       rfl
      refine pm_ (i:=4) (N:=some 63) (v:=?_) (a':=?_) rfl rfl (any_of HT_.out T11q1) (fun _ _ _ h => h) (Or.inl ⟨by rfl,?_⟩) ?_ ?_
      rotate_left
      ·intro w'
       go_simp
       with_reducible rfl
      rotate_left
      ·simp only [PU]
       rfl
      refine pm_ (i:=5) (N:=some 64) (v:=?_) (a':=?_) rfl rfl (any_of HT_.out T11q1) (fun _ _ _ h => h) (Or.inl ⟨by rfl,?_⟩) ?_ ?_
      rotate_left
      ·intro w'
       go_simp
       with_reducible rfl
      rotate_left
      ·simp only [PU]
       rfl
      refine pm_ (i:=6) (N:=some 65) (v:=undef) (a':=?_) rfl rfl (any_of HT_.out T11q1) (fun _ _ _ h => h) (Or.inr ⟨by rfl,rfl⟩) ?_ ?_
      rotate_left
      ·simp only [PU]
       rfl
      refine pm_ (i:=7) (N:=some 66) (v:=undef) (a':=?_) rfl rfl (any_of HT_.out T11q1) (fun _ _ _ h => h) (Or.inr ⟨by rfl,rfl⟩) ?_ ?_
      rotate_left
      ·simp only [PU]
       rfl
      refine pm_ (i:=8) (N:=some 67) (v:=undef) (a':=?_) rfl rfl (any_of HT_.out T11q1) (fun _ _ _ h => h) (Or.inr ⟨by rfl,rfl⟩) ?_ ?_
      rotate_left
      ·simp only [PU]
       rfl
      refine pm_ (i:=9) (N:=some 68) (v:=undef) (a':=?_) rfl rfl (any_of HT_.out T11q1) (fun _ _ _ h => h) (Or.inr ⟨by rfl,rfl⟩) ?_ ?_
      rotate_left
      ·simp only [PU]
       rfl
      refine pm_ (i:=10) (N:=some 69) (v:=undef) (a':=?_) rfl rfl (any_of HT_.out T11q1) (fun _ _ _ h => h) (Or.inr ⟨by rfl,rfl⟩) ?_ ?_
      rotate_left
      ·simp only [PU]
       rfl
      refine pm_ (i:=11) (N:=some 70) (v:=undef) (a':=?_) rfl rfl (any_of HT_.out T11q1) (fun _ _ _ h => h) (Or.inr ⟨by rfl,rfl⟩) ?_ ?_
      rotate_left
      ·simp only [PU]
       rfl
      refine pm_ (i:=12) (N:=some 71) (v:=undef) (a':=?_) rfl rfl (any_of HT_.out T11q1) (fun _ _ _ h => h) (Or.inr ⟨by rfl,rfl⟩) ?_ ?_
      rotate_left
      ·simp only [PU]
       rfl
      refine pm_ (i:=13) (N:=some 72) (v:=undef) (a':=?_) rfl rfl (any_of HT_.out T11q1) (fun _ _ _ h => h) (Or.inr ⟨by rfl,rfl⟩) ?_ ?_
      rotate_left
      ·simp only [PU]
       rfl
      refine pm_ (i:=14) (N:=some 73) (v:=undef) (a':=?_) rfl rfl (any_of HT_.out T11q1) (fun _ _ _ h => h) (Or.inr ⟨by rfl,rfl⟩) ?_ ?_
      rotate_left
      ·simp only [PU]
       rfl
      refine pm_ (i:=15) (N:=some 74) (v:=?_) (a':=?_) rfl rfl (any_of HT_.out T11q1) (fun _ _ _ h => h) (Or.inl ⟨by rfl,?_⟩) ?_ ?_
      rotate_left
      ·intro w'
       go_simp
       with_reducible rfl
      rotate_left
      ·simp only [PU]
       rfl
      refine pm_ (i:=16) (N:=some 13) (v:=?_) (a':=?_) rfl rfl (any_of HT_.out T11q1) (fun _ _ _ h => h) (Or.inl ⟨by rfl,?_⟩) ?_ ?_
      rotate_left
      ·intro w'
       go_simp
       with_reducible rfl
      rotate_left
      ·simp only [PU]
       rfl
      refine done_ (done_of HT_.out T11q1) ?_
      have hcz62_0 : w61.cell? ⟨gb348,0,none⟩ = some (.string ((rd_T27 x7_1 x54_2).f0)):=(blk_cell BK348.out 0).trans rfl
      have hcz62_1 : w61.cell? ⟨gb348,1,none⟩ = some (.int .i64 ((rd_T27 x7_1 x54_2).f1)):=(blk_cell BK348.out 1).trans rfl
      have hcz62_2 : w61.cell? ⟨gb348,2,none⟩ = some (.bool false):=(blk_cell BK348.out 2).trans rfl
      have hcz62_3 : w61.cell? ⟨gb348,3,none⟩ = some (.int .i64 ((rd_T27 x7_1 x54_2).f3)):=(blk_cell BK348.out 3).trans rfl
      have hfz62_0:=blk_frozen BK348.out 0
      have hfz62_1:=blk_frozen BK348.out 1
      have hfz62_2:=blk_frozen BK348.out 2
      have hfz62_3:=blk_frozen BK348.out 3
      try go_wp2_with (first | ((with_reducible refine gate_builtin (b:=.append) (xs:=#[.tmp 86,.tmp 88]) rfl ?_);at_builtin;refine Kd.R_append k27 (w0:=w) w.heap.size rfl (.tmp 86) (.tmp 88) 23 27 (.agg #[(.string ⟨#[]⟩),(.int .i64 0),(.bool false),(.int .i64 0)]) 40 rfl Try.underlying23 info27 rfl (by decide) (by omega) u10 x10_2 (⟨(rd_T27 x7_1 x54_2).f0,(rd_T27 x7_1 x54_2).f1,false,(rd_T27 x7_1 x54_2).f3⟩ : S27) [.string ((rd_T27 x7_1 x54_2).f0),.int .i64 ((rd_T27 x7_1 x54_2).f1),.bool false,.int .i64 ((rd_T27 x7_1 x54_2).f3)] (fun k_ => some k_ ≠ (.slice (some ad347) x7_1.length co44 : Value).ownBlock ∧ some k_ ≠ (.slice (some ad347) x7_1.length co44 : Value).ownBlock ∧ k_ ≠ gb348) (fun _ => False) rfl rfl ?aP (fun _ hk => hk.elim) ?aF ?aO ?aB ?aS ?aL ?_;(case aP => exact k27_mkM _ _ _ (⟨(rd_T27 x7_1 x54_2).f0,(rd_T27 x7_1 x54_2).f1,false,(rd_T27 x7_1 x54_2).f3⟩ : S27));(case aB => exact (by repeat (first | (with_reducible first | exact HB.out | apply below_alloc | apply pw_below_drewN | apply below_drew1 | refine below_set ?_ GE348.out) | exact HB.out)));(case aF => exact (fun k_ hk => ⟨Kd.fresh' (Kd.R_lt T11q4) k_ hk,Kd.fresh' (Kd.R_lt T11q8) k_ hk,Kd.freshB (g:=gb348) (o:=.cells #[.string ((rd_T27 x7_1 x54_2).f0),.int .i64 ((rd_T27 x7_1 x54_2).f1),.bool false,.int .i64 ((rd_T27 x7_1 x54_2).f3)] 27 (0,0)) T11q9 k_ hk⟩));(case aO => exact T11q7);(case aS => exact (below_size (by repeat (first | (with_reducible first | exact HB.out | apply below_alloc | apply pw_below_drewN | apply below_drew1 | refine below_set ?_ GE348.out) | exact HB.out))));(case aL => have:=LMc57.out;omega);intro v350 w63 ho hb hg hat;rw [← Ny349.out] at ho;have n0_:=Aside0.mk (Kd.R_after (ok:=(fun k_ => k_ ≠ gb348)) T11q10 hg hat);have n1_:=Aside0.mk (Kd.R_after (ok:=(fun k_ => k_ ≠ gb348)) T11q11 hg hat);have n2_:=Aside0.mk (blk_grown (g:=gb348) (o:=.cells #[.string ((rd_T27 x7_1 x54_2).f0),.int .i64 ((rd_T27 x7_1 x54_2).f1),.bool false,.int .i64 ((rd_T27 x7_1 x54_2).f3)] 27 (0,0)) T11q9 hg (Kd.R_away HO_10.out (fun _ hk => hk.2.2)));have n3_:=Aside0.mk (hb);have n4_:=Aside0.mk (ho);clear HO_7;clear HO_52;clear BK348;clear HB;clear HO_10;have HO_7:=n0_;have HO_52:=n1_;have BK348:=n2_;have HB:=n3_;have HO351:=n4_;clear n0_ n1_ n2_ n3_ n4_;clear ho hb hg hat))
      go_roundg k2
      case measure => have:=HK1.out;have:=HK2.out;omega
      case rel => exact ⟨(y349),(wrap64 (x54_2 + 1)),(by first | rfl | (simp;done) | (simp [*];done)),H',⟨by have:=HK1.out;have:=HK2.out;omega⟩,⟨by (with_reducible repeat (first | apply Kd.R_alloc | apply Kd.R_drewN | apply Kd.R_drew));exact Kd.R_mono HO_7.out (fun _ hk => hk.2)⟩,⟨by (with_reducible repeat (first | apply Kd.R_alloc | apply Kd.R_drewN | apply Kd.R_drew));exact Kd.R_mono HO351.out (fun _ hk => ⟨hk.1,hk.2.1⟩)⟩,⟨by (with_reducible repeat (first | apply Kd.R_alloc | apply Kd.R_drewN | apply Kd.R_drew));exact Kd.R_mono HO_52.out (fun _ hk => hk.2)⟩,⟨by repeat (first | (with_reducible first | exact HB.out | apply below_alloc | apply pw_below_drewN | apply below_drew1 | refine below_set ?_ GE348.out) | exact HB.out)⟩⟩
     rw [if_neg c48] at H
     have c48b0 : ((wrap64 (x54_2 + 1)) == (x7_1.length : Int)) = false:=beq_eq_false_iff_ne.mpr c48
     have c48b1 : ((wrap64 (x54_2 + 1)) != (x7_1.length : Int)) = true:=bne_iff_ne.mpr c48
     obtain ⟨ji71,hji71⟩ : ∃ j_ : Int,(wrap64 (x54_2 + 1)) = j_:=⟨_,rfl⟩
     replace H : (if 0 ≤ (ji71) then (if (ji71) < (x7_1.length : Int) then (if a2 = true then (if (¬ ((rd_T27 x7_1 (ji71)).f0).toList = ((rd_T27 x7_1 x54_2).f0).toList) then (if ((rd_T27 x7_1 x54_2).f2 = true) then (impl_RunTrim.l1 k2 a2 x7_1 x10_2 x7_1 (x7_1.length : Int) ji71) else (if x10_2.length < 3518437208883 then (impl_RunTrim.l1 k2 a2 x7_1 (x10_2 ++ [(⟨(rd_T27 x7_1 x54_2).f0,(rd_T27 x7_1 x54_2).f1,(rd_T27 x7_1 x54_2).f2,(rd_T27 x7_1 x54_2).f3⟩ : S27)]) x7_1 (x7_1.length : Int) ji71) else (none))) else (if x10_2.length < 3518437208883 then (impl_RunTrim.l1 k2 a2 x7_1 (x10_2 ++ [(⟨(rd_T27 x7_1 x54_2).f0,(rd_T27 x7_1 x54_2).f1,(rd_T27 x7_1 x54_2).f2,(rd_T27 x7_1 x54_2).f3⟩ : S27)]) x7_1 (x7_1.length : Int) ji71) else (none))) else (if x10_2.length < 3518437208883 then (impl_RunTrim.l1 k2 a2 x7_1 (x10_2 ++ [(⟨(rd_T27 x7_1 x54_2).f0,(rd_T27 x7_1 x54_2).f1,(rd_T27 x7_1 x54_2).f2,(rd_T27 x7_1 x54_2).f3⟩ : S27)]) x7_1 (x7_1.length : Int) ji71) else (none))) else (none)) else (none)) = some r:=by first | (rw [hji71] at H;exact H) | (simp only [hji71] at H ⊢;exact H)
     (try rw [hji71] at c48b0)
     (try rw [hji71] at c48b1)
     have hji71w : (IntKind.i64.wrap (x54_2 + 1)) = ji71:=(i64_w _).trans hji71
     by_cases c72 : 0 ≤ (ji71)
     rotate_left
     ·rw [if_neg c72] at H
      exact absurd H (by simp)
     rw [if_pos c72] at H
     have c72b0 : decide (0 ≤ (ji71)) = true:=decide_eq_true c72
     clear c72
     by_cases c73 : (ji71) < (x7_1.length : Int)
     rotate_left
     ·rw [if_neg c73] at H
      exact absurd H (by simp)
     rw [if_pos c73] at H
     have c73b0 : decide ((ji71) < (x7_1.length : Int)) = true:=decide_eq_true c73
     clear c73
     by_cases c74 : a2 = true
     rotate_left
     ·replace c74:=Bool.eq_false_iff.mpr c74
      subst c74
      have H1 : (if x10_2.length < 3518437208883 then (impl_RunTrim.l1 k2 false x7_1 (x10_2 ++ [(⟨(rd_T27 x7_1 x54_2).f0,(rd_T27 x7_1 x54_2).f1,(rd_T27 x7_1 x54_2).f2,(rd_T27 x7_1 x54_2).f3⟩ : S27)]) x7_1 (x7_1.length : Int) ji71) else (none)) = some r:=by rw [if_neg (show ¬ (false = true) by decide)] at H;exact H
      clear H
      have H:=H1
      clear H1
      by_cases c97 : x10_2.length < 3518437208883
      rotate_left
      ·rw [if_neg c97] at H
       exact absurd H (by simp)
      rw [if_pos c97] at H
      have LMc97:=Aside0.mk c97
      clear c97
      obtain ⟨y362,hy362⟩ : ∃ y_ : List (S27),y_ = (x10_2 ++ [(⟨(rd_T27 x7_1 x54_2).f0,(rd_T27 x7_1 x54_2).f1,(rd_T27 x7_1 x54_2).f2,(rd_T27 x7_1 x54_2).f3⟩ : S27)]):=⟨_,rfl⟩
      replace H : (impl_RunTrim.l1 k2 false x7_1 y362 x7_1 (x7_1.length : Int) ji71) = some r:=by first | (rw [hy362];with_reducible exact H) | (have H2_:=(Option.bind_some _ _).symm.trans H;rw [hy362];with_reducible exact H2_) | (have H2_:=(Option.bind_some _ _).symm.trans H;with_reducible exact H2_) | with_reducible exact H | (rw [hy362];exact H) | exact H
      have Ny362:=Aside0.mk hy362
      clear hy362
      have H':=Aside0.mk H
      clear H
      have p347 : 0 ≤ (x54_2 : Int):=of_decide_eq_true T11q3
      have q347 : x54_2 < (x7_1.length : Int):=of_decide_eq_true T11q3
      obtain ⟨ad347,e347,hx347_0,hx347_1,hx347_2,hx347_3⟩:=at_T27 (Kd.R_reads' HO_52.out).2.2 x54_2 p347 q347
      cases e347
      replace p347:=eq_true p347
      replace q347:=eq_true q347
      try go_wp2_with (first | ((with_reducible refine gate_dst (N:=12) rfl ?_);refine box_event ?hg (N:=12) ?hd (cs:=#[.string (⟨#[]⟩ : ByteArray),.int .i64 0,.bool false,.int .i64 0]) (t:=27) ?hr ?_;(case hd => rfl);(case hg => rfl);(case hr => first | (go_simp;done) | (go_simp;rfl));intro gb348 hg w98 hbox hb;have n0_:=Aside0.mk (Kd.R_below (Kd.R_elderB T11q4 gb348 (Nat.le_of_eq hg.symm)) hb);have n1_:=Aside0.mk (Kd.R_below (Kd.R_elderB T11q7 gb348 (Nat.le_of_eq hg.symm)) hb);have n2_:=Aside0.mk (Kd.R_below (Kd.R_elderB T11q8 gb348 (Nat.le_of_eq hg.symm)) hb);have n3_:=Aside0.mk (below_step (by repeat (first | (with_reducible first | exact HB.out | apply below_alloc | apply pw_below_drewN | apply below_drew1) | exact HB.out)) hb);have n4_:=Aside0.mk (hbox);have n5_:=Aside0.mk ((by rw [hg];exact (below_size (by repeat (first | (with_reducible first | exact HB.out | apply below_alloc | apply pw_below_drewN | apply below_drew1) | exact HB.out))) : w.heap.size ≤ gb348));have n6_:=Aside0.mk ((by rw [hg];exact (below_size (by repeat (first | (with_reducible first | exact HB.out | apply below_alloc | apply pw_below_drewN | apply below_drew1) | exact HB.out))) : w.heap.size ≤ gb348));clear HO_7;clear HO_10;clear HO_52;clear HB;have HO_7:=n0_;have HO_10:=n1_;have HO_52:=n2_;have HB:=n3_;have BK348:=n4_;have GW348:=n5_;have GE348:=n6_;clear n0_ n1_ n2_ n3_ n4_ n5_ n6_;clear hb hbox hg;have hcz99_0 : w98.cell? ⟨gb348,0,none⟩ = some (.string (⟨#[]⟩ : ByteArray)):=(blk_cell BK348.out 0).trans rfl;have hcz99_1 : w98.cell? ⟨gb348,1,none⟩ = some (.int .i64 0):=(blk_cell BK348.out 1).trans rfl;have hcz99_2 : w98.cell? ⟨gb348,2,none⟩ = some (.bool false):=(blk_cell BK348.out 2).trans rfl;have hcz99_3 : w98.cell? ⟨gb348,3,none⟩ = some (.int .i64 0):=(blk_cell BK348.out 3).trans rfl;have hfz99_0:=blk_frozen BK348.out 0;have hfz99_1:=blk_frozen BK348.out 1;have hfz99_2:=blk_frozen BK348.out 2;have hfz99_3:=blk_frozen BK348.out 3))
      have n0_ : Aside0 (Kd.R k27 27 ((((w98.setCell ⟨gb348,0,none⟩ (.string ((rd_T27 x7_1 x54_2).f0))).setCell ⟨gb348,1,none⟩ (.int .i64 ((rd_T27 x7_1 x54_2).f1))).setCell ⟨gb348,2,none⟩ (.bool ((rd_T27 x7_1 x54_2).f2))).setCell ⟨gb348,3,none⟩ (.int .i64 ((rd_T27 x7_1 x54_2).f3))) w.heap.size (fun k_ => some k_ ≠ (u10 : Value).ownBlock ∧ k_ ≠ gb348) (.slice (some ad347) x7_1.length co44) x7_1):=⟨by (with_reducible repeat (first | apply Kd.R_alloc | apply Kd.R_drewN | apply Kd.R_drew));exact Kd.R_mono (Kd.R_far (p:=⟨gb348,3,none⟩) (Kd.R_far (p:=⟨gb348,2,none⟩) (Kd.R_far (p:=⟨gb348,1,none⟩) (Kd.R_far (p:=⟨gb348,0,none⟩) (Kd.R_mono HO_7.out (fun k_ hk => (⟨hk,hk.2⟩ : _ ∧ k_ ≠ gb348))) (fun _ hk => hk.2) (.string ((rd_T27 x7_1 x54_2).f0))) (fun _ hk => hk.2) (.int .i64 ((rd_T27 x7_1 x54_2).f1))) (fun _ hk => hk.2) (.bool ((rd_T27 x7_1 x54_2).f2))) (fun _ hk => hk.2) (.int .i64 ((rd_T27 x7_1 x54_2).f3))) (fun _ hk => ⟨hk.1.1,hk.1.2⟩)⟩
      have n1_ : Aside0 (Kd.R k27 27 ((((w98.setCell ⟨gb348,0,none⟩ (.string ((rd_T27 x7_1 x54_2).f0))).setCell ⟨gb348,1,none⟩ (.int .i64 ((rd_T27 x7_1 x54_2).f1))).setCell ⟨gb348,2,none⟩ (.bool ((rd_T27 x7_1 x54_2).f2))).setCell ⟨gb348,3,none⟩ (.int .i64 ((rd_T27 x7_1 x54_2).f3))) w.heap.size (fun k_ => some k_ ≠ (.slice (some ad347) x7_1.length co44 : Value).ownBlock ∧ some k_ ≠ (.slice (some ad347) x7_1.length co44 : Value).ownBlock ∧ k_ ≠ gb348) u10 x10_2):=⟨by (with_reducible repeat (first | apply Kd.R_alloc | apply Kd.R_drewN | apply Kd.R_drew));exact Kd.R_mono (Kd.R_far (p:=⟨gb348,3,none⟩) (Kd.R_far (p:=⟨gb348,2,none⟩) (Kd.R_far (p:=⟨gb348,1,none⟩) (Kd.R_far (p:=⟨gb348,0,none⟩) (Kd.R_mono HO_10.out (fun k_ hk => (⟨hk,hk.2⟩ : _ ∧ k_ ≠ gb348))) (fun _ hk => hk.2) (.string ((rd_T27 x7_1 x54_2).f0))) (fun _ hk => hk.2) (.int .i64 ((rd_T27 x7_1 x54_2).f1))) (fun _ hk => hk.2) (.bool ((rd_T27 x7_1 x54_2).f2))) (fun _ hk => hk.2) (.int .i64 ((rd_T27 x7_1 x54_2).f3))) (fun _ hk => ⟨hk.1.1.1,⟨hk.1.1.2,hk.1.2⟩⟩)⟩
      have n2_ : Aside0 (Kd.R k27 27 ((((w98.setCell ⟨gb348,0,none⟩ (.string ((rd_T27 x7_1 x54_2).f0))).setCell ⟨gb348,1,none⟩ (.int .i64 ((rd_T27 x7_1 x54_2).f1))).setCell ⟨gb348,2,none⟩ (.bool ((rd_T27 x7_1 x54_2).f2))).setCell ⟨gb348,3,none⟩ (.int .i64 ((rd_T27 x7_1 x54_2).f3))) w.heap.size (fun k_ => some k_ ≠ (u10 : Value).ownBlock ∧ k_ ≠ gb348) (.slice (some ad347) x7_1.length co44) x7_1):=⟨by (with_reducible repeat (first | apply Kd.R_alloc | apply Kd.R_drewN | apply Kd.R_drew));exact Kd.R_mono (Kd.R_far (p:=⟨gb348,3,none⟩) (Kd.R_far (p:=⟨gb348,2,none⟩) (Kd.R_far (p:=⟨gb348,1,none⟩) (Kd.R_far (p:=⟨gb348,0,none⟩) (Kd.R_mono HO_52.out (fun k_ hk => (⟨hk,hk.2⟩ : _ ∧ k_ ≠ gb348))) (fun _ hk => hk.2) (.string ((rd_T27 x7_1 x54_2).f0))) (fun _ hk => hk.2) (.int .i64 ((rd_T27 x7_1 x54_2).f1))) (fun _ hk => hk.2) (.bool ((rd_T27 x7_1 x54_2).f2))) (fun _ hk => hk.2) (.int .i64 ((rd_T27 x7_1 x54_2).f3))) (fun _ hk => ⟨hk.1.1,hk.1.2⟩)⟩
      have n3_ : Aside0 (((((w98.setCell ⟨gb348,0,none⟩ (.string ((rd_T27 x7_1 x54_2).f0))).setCell ⟨gb348,1,none⟩ (.int .i64 ((rd_T27 x7_1 x54_2).f1))).setCell ⟨gb348,2,none⟩ (.bool ((rd_T27 x7_1 x54_2).f2))).setCell ⟨gb348,3,none⟩ (.int .i64 ((rd_T27 x7_1 x54_2).f3))).heap[gb348]? = some (.cells #[.string ((rd_T27 x7_1 x54_2).f0),.int .i64 ((rd_T27 x7_1 x54_2).f1),.bool ((rd_T27 x7_1 x54_2).f2),.int .i64 ((rd_T27 x7_1 x54_2).f3)] 27 (0,0))):=⟨by (with_reducible repeat (first | refine blk_drewN ?_ _ | refine blk_drew ?_ | refine blk_alloc ?_ _));refine blk_put (cs:=#[.string ((rd_T27 x7_1 x54_2).f0),.int .i64 ((rd_T27 x7_1 x54_2).f1),.bool ((rd_T27 x7_1 x54_2).f2),.int .i64 0]) ?_ 3 _ rfl;(with_reducible repeat (first | refine blk_drewN ?_ _ | refine blk_drew ?_ | refine blk_alloc ?_ _));refine blk_put (cs:=#[.string ((rd_T27 x7_1 x54_2).f0),.int .i64 ((rd_T27 x7_1 x54_2).f1),.bool false,.int .i64 0]) ?_ 2 _ rfl;(with_reducible repeat (first | refine blk_drewN ?_ _ | refine blk_drew ?_ | refine blk_alloc ?_ _));refine blk_put (cs:=#[.string ((rd_T27 x7_1 x54_2).f0),.int .i64 0,.bool false,.int .i64 0]) ?_ 1 _ rfl;(with_reducible repeat (first | refine blk_drewN ?_ _ | refine blk_drew ?_ | refine blk_alloc ?_ _));refine blk_put (cs:=#[.string (⟨#[]⟩ : ByteArray),.int .i64 0,.bool false,.int .i64 0]) ?_ 0 _ rfl;(with_reducible repeat (first | refine blk_drewN ?_ _ | refine blk_drew ?_ | refine blk_alloc ?_ _));exact BK348.out⟩
      have n4_ : Aside0 (Below w.heap.size w ((((w98.setCell ⟨gb348,0,none⟩ (.string ((rd_T27 x7_1 x54_2).f0))).setCell ⟨gb348,1,none⟩ (.int .i64 ((rd_T27 x7_1 x54_2).f1))).setCell ⟨gb348,2,none⟩ (.bool ((rd_T27 x7_1 x54_2).f2))).setCell ⟨gb348,3,none⟩ (.int .i64 ((rd_T27 x7_1 x54_2).f3)))):=⟨by repeat (first | (with_reducible first | exact HB.out | apply below_alloc | apply pw_below_drewN | apply below_drew1 | refine below_set ?_ GE348.out) | exact HB.out)⟩
      (try clear HO_7)
      (try clear HO_10)
      (try clear HO_52)
      (try clear BK348)
      (try clear HB)
      generalize ((((w98.setCell ⟨gb348,0,none⟩ (.string ((rd_T27 x7_1 x54_2).f0))).setCell ⟨gb348,1,none⟩ (.int .i64 ((rd_T27 x7_1 x54_2).f1))).setCell ⟨gb348,2,none⟩ (.bool ((rd_T27 x7_1 x54_2).f2))).setCell ⟨gb348,3,none⟩ (.int .i64 ((rd_T27 x7_1 x54_2).f3))) = w100 at n0_ n1_ n2_ n3_ n4_ ⊢
      have HO_7:=n0_
      have HO_10:=n1_
      have HO_52:=n2_
      have BK348:=n3_
      have HB:=n4_
      clear n0_ n1_ n2_ n3_ n4_
      have n0_:=Aside0.mk (Kd.R_drew HO_7.out)
      have n1_:=Aside0.mk (Kd.R_drew HO_10.out)
      have n2_:=Aside0.mk (Kd.R_drew HO_52.out)
      have n3_:=Aside0.mk (blk_drew BK348.out)
      have n4_:=Aside0.mk (below_drew1 HB.out)
      clear HO_7
      clear HO_10
      clear HO_52
      clear BK348
      clear HB
      have HO_7:=n0_
      have HO_10:=n1_
      have HO_52:=n2_
      have BK348:=n3_
      have HB:=n4_
      clear n0_ n1_ n2_ n3_ n4_
      have p355 : 0 ≤ ((ji71) : Int):=of_decide_eq_true T11q3
      have q355 : (ji71) < (x7_1.length : Int):=of_decide_eq_true T11q3
      obtain ⟨ad355,e355,hx355_0,hx355_1,hx355_2,hx355_3⟩:=at_T27 (Kd.R_reads' HO_7.out).2.2 (ji71) p355 q355
      obtain rfl : ad347 = ad355:=(by injection e355)
      replace p355:=eq_true p355
      replace q355:=eq_true q355
      refine start_ (n:=17) (S:=fun w' => w'.cell? ⟨gb348,0,none⟩ = some (.string ((rd_T27 x7_1 x54_2).f0)) ∧ w'.cell? ⟨gb348,1,none⟩ = some (.int .i64 ((rd_T27 x7_1 x54_2).f1)) ∧ w'.cell? ⟨gb348,2,none⟩ = some (.bool ((rd_T27 x7_1 x54_2).f2)) ∧ w'.cell? ⟨gb348,3,none⟩ = some (.int .i64 ((rd_T27 x7_1 x54_2).f3)) ∧ w'.cell? (ad347.add (((ji71)).toNat * 4)) = some (.string ((rd_T27 x7_1 (ji71)).f0)) ∧ w'.cell? ⟨(ad347.add (((ji71)).toNat * 4)).block,(ad347.add (((ji71)).toNat * 4)).off + 1,none⟩ = some (.int .i64 ((rd_T27 x7_1 (ji71)).f1)) ∧ w'.cell? ⟨(ad347.add (((ji71)).toNat * 4)).block,(ad347.add (((ji71)).toNat * 4)).off + 2,none⟩ = some (.bool ((rd_T27 x7_1 (ji71)).f2)) ∧ w'.cell? ⟨(ad347.add (((ji71)).toNat * 4)).block,(ad347.add (((ji71)).toNat * 4)).off + 3,none⟩ = some (.int .i64 ((rd_T27 x7_1 (ji71)).f3))) (ds:=[]) #[false,false,false,false,false,false,false,false,false,false,false,false,false,false,false,false,false] T11q1 rfl rfl ⟨(blk_cell BK348.out 0).trans rfl,(blk_cell BK348.out 1).trans rfl,(blk_cell BK348.out 2).trans rfl,(blk_cell BK348.out 3).trans rfl,hx355_0,hx355_1,hx355_2,hx355_3⟩ (fun hHeld => ?_);refine with_tabW impl_RunTrim.tab14 impl_RunTrim.bits14 (fun HT_ HW_ => ?_)
      generalize w100.drew = w101 at HO_7 HO_10 HO_52 BK348 HB hx355_0 hx355_1 hx355_2 hx355_3 hHeld ⊢
      refine pm_ (i:=0) (N:=some 59) (v:=?_) (a':=?_) rfl rfl (any_of HT_.out T11q1) (fun _ _ _ h => h) (Or.inl ⟨by rfl,?_⟩) ?_ ?_
      rotate_left
      ·intro w'
       go_simp
       with_reducible rfl
      rotate_left
      ·simp only [PU]
       rfl
      refine pm_ (i:=1) (N:=some 60) (v:=?_) (a':=?_) rfl rfl (any_of HT_.out T11q1) (fun _ _ _ h => h) (Or.inl ⟨by rfl,?_⟩) ?_ ?_
      rotate_left
      ·intro w'
       go_simp
       with_reducible rfl
      rotate_left
      ·simp only [PU]
       rfl
      refine pm_ (i:=2) (N:=some 61) (v:=?_) (a':=?_) rfl rfl (any_of HT_.out T11q1) (fun _ _ _ h => h) (Or.inl ⟨by rfl,?_⟩) ?_ ?_
      rotate_left
      ·intro w'
       go_simp
       with_reducible rfl
      rotate_left
      ·simp only [PU]
       rfl
      refine pm_ (i:=3) (N:=some 62) (v:=?_) (a':=?_) rfl rfl (any_of HT_.out T11q1) (fun _ _ _ h => h) (Or.inl ⟨by rfl,?_⟩) ?_ ?_
      rotate_left
      ·intro w'
       go_simp
       with_reducible rfl
      rotate_left
      ·simp only [PU]
       rfl
      refine pm_ (i:=4) (N:=some 63) (v:=?_) (a':=?_) rfl rfl (any_of HT_.out T11q1) (fun _ _ _ h => h) (Or.inl ⟨by rfl,?_⟩) ?_ ?_
      rotate_left
      ·intro w'
       go_simp
       with_reducible rfl
      rotate_left
      ·simp only [PU]
       rfl
      refine pm_ (i:=5) (N:=some 64) (v:=?_) (a':=?_) rfl rfl (any_of HT_.out T11q1) (fun _ _ _ h => h) (Or.inl ⟨by rfl,?_⟩) ?_ ?_
      rotate_left
      ·intro w'
       go_simp
       with_reducible rfl
      rotate_left
      ·simp only [PU]
       rfl
      refine pm_ (i:=6) (N:=some 65) (v:=?_) (a':=?_) rfl rfl (any_of HT_.out T11q1) (fun _ _ _ h => h) (Or.inl ⟨by rfl,?_⟩) ?_ ?_
      rotate_left
      ·intro w'
       go_simp
       with_reducible rfl
      rotate_left
      ·simp only [PU]
       rfl
      refine pm_ (i:=7) (N:=some 66) (v:=?_) (a':=?_) rfl rfl (any_of HT_.out T11q1) (fun _ _ _ h => h) (Or.inl ⟨by rfl,?_⟩) ?_ ?_
      rotate_left
      ·intro w'
       go_simp
       with_reducible rfl
      rotate_left
      ·simp only [PU]
       rfl
      refine pm_ (i:=8) (N:=some 67) (v:=?_) (a':=?_) rfl rfl (any_of HT_.out T11q1) (fun _ _ _ h => h) (Or.inl ⟨by rfl,?_⟩) ?_ ?_
      rotate_left
      ·intro w'
       go_simp
       with_reducible rfl
      rotate_left
      ·simp only [PU]
       rfl
      refine pm_ (i:=9) (N:=some 68) (v:=?_) (a':=?_) rfl rfl (any_of HT_.out T11q1) (fun _ _ _ h => h) (Or.inl ⟨by rfl,?_⟩) ?_ ?_
      rotate_left
      ·intro w'
       go_simp
       with_reducible rfl
      rotate_left
      ·simp only [PU]
       rfl
      refine pm_ (i:=10) (N:=some 69) (v:=?_) (a':=?_) rfl rfl (any_of HT_.out T11q1) (fun _ _ _ h => h) (Or.inl ⟨by rfl,?_⟩) ?_ ?_
      rotate_left
      ·intro w'
       go_simp
       with_reducible rfl
      rotate_left
      ·simp only [PU]
       rfl
      refine pm_ (i:=12) (N:=some 71) (v:=?_) (a':=?_) rfl rfl (any_of HT_.out T11q1) (fun _ _ _ h => h) (Or.inl ⟨by rfl,?_⟩) ?_ ?_
      rotate_left
      ·intro w'
       go_simp
       with_reducible rfl
      rotate_left
      ·simp only [PU]
       rfl
      refine tm_ (i:=11) (N:=some 70) (v:=?_) (a':=?_) rfl rfl (take_ofW HT_.out HW_.out T11q1) (fun _ _ _ h => h) (Or.inl ⟨by rfl,?_⟩) hHeld ?_ ?_
      rotate_left
      ·rintro w' ⟨s0,s1,s2,s3,s4,s5,s6,s7⟩
       go_simp
       with_reducible rfl
      rotate_left
      ·simp only [PU]
       rfl
      refine tm_ (i:=13) (N:=some 72) (v:=?_) (a':=?_) rfl rfl (take_ofW HT_.out HW_.out T11q1) (fun _ _ _ h => h) (Or.inl ⟨by rfl,?_⟩) hHeld ?_ ?_
      rotate_left
      ·rintro w' ⟨s0,s1,s2,s3,s4,s5,s6,s7⟩
       go_simp
       with_reducible rfl
      rotate_left
      ·simp only [PU]
       rfl
      refine pm_ (i:=14) (N:=some 73) (v:=?_) (a':=?_) rfl rfl (any_of HT_.out T11q1) (fun _ _ _ h => h) (Or.inl ⟨by rfl,?_⟩) ?_ ?_
      rotate_left
      ·intro w'
       go_simp
       with_reducible rfl
      rotate_left
      ·simp only [PU]
       rfl
      refine pm_ (i:=15) (N:=some 74) (v:=?_) (a':=?_) rfl rfl (any_of HT_.out T11q1) (fun _ _ _ h => h) (Or.inl ⟨by rfl,?_⟩) ?_ ?_
      rotate_left
      ·intro w'
       go_simp
       with_reducible rfl
      rotate_left
      ·simp only [PU]
       rfl
      refine pm_ (i:=16) (N:=some 13) (v:=?_) (a':=?_) rfl rfl (any_of HT_.out T11q1) (fun _ _ _ h => h) (Or.inl ⟨by rfl,?_⟩) ?_ ?_
      rotate_left
      ·intro w'
       go_simp
       with_reducible rfl
      rotate_left
      ·simp only [PU]
       rfl
      refine done_ (done_of HT_.out T11q1) ?_
      have hcz102_0 : w101.cell? ⟨gb348,0,none⟩ = some (.string ((rd_T27 x7_1 x54_2).f0)):=(blk_cell BK348.out 0).trans rfl
      have hcz102_1 : w101.cell? ⟨gb348,1,none⟩ = some (.int .i64 ((rd_T27 x7_1 x54_2).f1)):=(blk_cell BK348.out 1).trans rfl
      have hcz102_2 : w101.cell? ⟨gb348,2,none⟩ = some (.bool ((rd_T27 x7_1 x54_2).f2)):=(blk_cell BK348.out 2).trans rfl
      have hcz102_3 : w101.cell? ⟨gb348,3,none⟩ = some (.int .i64 ((rd_T27 x7_1 x54_2).f3)):=(blk_cell BK348.out 3).trans rfl
      have hfz102_0:=blk_frozen BK348.out 0
      have hfz102_1:=blk_frozen BK348.out 1
      have hfz102_2:=blk_frozen BK348.out 2
      have hfz102_3:=blk_frozen BK348.out 3
      try go_wp2_with (first | ((with_reducible refine gate_builtin (b:=.append) (xs:=#[.tmp 86,.tmp 88]) rfl ?_);at_builtin;refine Kd.R_append k27 (w0:=w) w.heap.size rfl (.tmp 86) (.tmp 88) 23 27 (.agg #[(.string ⟨#[]⟩),(.int .i64 0),(.bool false),(.int .i64 0)]) 40 rfl Try.underlying23 info27 rfl (by decide) (by omega) u10 x10_2 (⟨(rd_T27 x7_1 x54_2).f0,(rd_T27 x7_1 x54_2).f1,(rd_T27 x7_1 x54_2).f2,(rd_T27 x7_1 x54_2).f3⟩ : S27) [.string ((rd_T27 x7_1 x54_2).f0),.int .i64 ((rd_T27 x7_1 x54_2).f1),.bool ((rd_T27 x7_1 x54_2).f2),.int .i64 ((rd_T27 x7_1 x54_2).f3)] (fun k_ => some k_ ≠ (.slice (some ad347) x7_1.length co44 : Value).ownBlock ∧ some k_ ≠ (.slice (some ad347) x7_1.length co44 : Value).ownBlock ∧ k_ ≠ gb348) (fun _ => False) rfl rfl ?aP (fun _ hk => hk.elim) ?aF ?aO ?aB ?aS ?aL ?_;(case aP => exact k27_mkM _ _ _ (⟨(rd_T27 x7_1 x54_2).f0,(rd_T27 x7_1 x54_2).f1,(rd_T27 x7_1 x54_2).f2,(rd_T27 x7_1 x54_2).f3⟩ : S27));(case aB => exact (by repeat (first | (with_reducible first | exact HB.out | apply below_alloc | apply pw_below_drewN | apply below_drew1 | refine below_set ?_ GE348.out) | exact HB.out)));(case aF => exact (fun k_ hk => ⟨Kd.fresh' (Kd.R_lt T11q4) k_ hk,Kd.fresh' (Kd.R_lt T11q8) k_ hk,Kd.freshB (g:=gb348) (o:=.cells #[.string ((rd_T27 x7_1 x54_2).f0),.int .i64 ((rd_T27 x7_1 x54_2).f1),.bool ((rd_T27 x7_1 x54_2).f2),.int .i64 ((rd_T27 x7_1 x54_2).f3)] 27 (0,0)) T11q9 k_ hk⟩));(case aO => exact T11q7);(case aS => exact (below_size (by repeat (first | (with_reducible first | exact HB.out | apply below_alloc | apply pw_below_drewN | apply below_drew1 | refine below_set ?_ GE348.out) | exact HB.out))));(case aL => have:=LMc97.out;omega);intro v363 w103 ho hb hg hat;rw [← Ny362.out] at ho;have n0_:=Aside0.mk (Kd.R_after (ok:=(fun k_ => k_ ≠ gb348)) T11q10 hg hat);have n1_:=Aside0.mk (Kd.R_after (ok:=(fun k_ => k_ ≠ gb348)) T11q11 hg hat);have n2_:=Aside0.mk (blk_grown (g:=gb348) (o:=.cells #[.string ((rd_T27 x7_1 x54_2).f0),.int .i64 ((rd_T27 x7_1 x54_2).f1),.bool ((rd_T27 x7_1 x54_2).f2),.int .i64 ((rd_T27 x7_1 x54_2).f3)] 27 (0,0)) T11q9 hg (Kd.R_away HO_10.out (fun _ hk => hk.2.2)));have n3_:=Aside0.mk (hb);have n4_:=Aside0.mk (ho);clear HO_7;clear HO_52;clear BK348;clear HB;clear HO_10;have HO_7:=n0_;have HO_52:=n1_;have BK348:=n2_;have HB:=n3_;have HO364:=n4_;clear n0_ n1_ n2_ n3_ n4_;clear ho hb hg hat))
      go_roundg k2
      case measure => have:=HK1.out;have:=HK2.out;omega
      case rel => exact ⟨(y362),(ji71),(by first | rfl | (simp;done) | (simp only [← hji71] <;> (first | rfl | simp)) | (simp [*];done)),H',⟨by have:=HK1.out;have:=HK2.out;omega⟩,⟨by (with_reducible repeat (first | apply Kd.R_alloc | apply Kd.R_drewN | apply Kd.R_drew));exact Kd.R_mono HO_7.out (fun _ hk => hk.2)⟩,⟨by (with_reducible repeat (first | apply Kd.R_alloc | apply Kd.R_drewN | apply Kd.R_drew));exact Kd.R_mono HO364.out (fun _ hk => ⟨hk.1,hk.2.1⟩)⟩,⟨by (with_reducible repeat (first | apply Kd.R_alloc | apply Kd.R_drewN | apply Kd.R_drew));exact Kd.R_mono HO_52.out (fun _ hk => hk.2)⟩,⟨by repeat (first | (with_reducible first | exact HB.out | apply below_alloc | apply pw_below_drewN | apply below_drew1 | refine below_set ?_ GE348.out) | exact HB.out)⟩⟩
     subst c74
     have H1 : (if (¬ ((rd_T27 x7_1 (ji71)).f0).toList = ((rd_T27 x7_1 x54_2).f0).toList) then (if ((rd_T27 x7_1 x54_2).f2 = true) then (impl_RunTrim.l1 k2 true x7_1 x10_2 x7_1 (x7_1.length : Int) ji71) else (if x10_2.length < 3518437208883 then (impl_RunTrim.l1 k2 true x7_1 (x10_2 ++ [(⟨(rd_T27 x7_1 x54_2).f0,(rd_T27 x7_1 x54_2).f1,(rd_T27 x7_1 x54_2).f2,(rd_T27 x7_1 x54_2).f3⟩ : S27)]) x7_1 (x7_1.length : Int) ji71) else (none))) else (if x10_2.length < 3518437208883 then (impl_RunTrim.l1 k2 true x7_1 (x10_2 ++ [(⟨(rd_T27 x7_1 x54_2).f0,(rd_T27 x7_1 x54_2).f1,(rd_T27 x7_1 x54_2).f2,(rd_T27 x7_1 x54_2).f3⟩ : S27)]) x7_1 (x7_1.length : Int) ji71) else (none))) = some r:=by rw [if_pos rfl] at H;exact H
     clear H
     have H:=H1
     clear H1
     by_cases c75 : (¬ ((rd_T27 x7_1 (ji71)).f0).toList = ((rd_T27 x7_1 x54_2).f0).toList)
     rotate_left
     ·rw [if_neg c75] at H
      have c75b0 : (((rd_T27 x7_1 (ji71)).f0).toList == ((rd_T27 x7_1 x54_2).f0).toList) = true:=beq_iff_eq.mpr (Classical.not_not.1 c75)
      have c75b1 : (((rd_T27 x7_1 (ji71)).f0).toList != ((rd_T27 x7_1 x54_2).f0).toList) = false:=bne_eq_false_iff_eq.mpr (Classical.not_not.1 c75)
      by_cases c90 : x10_2.length < 3518437208883
      rotate_left
      ·rw [if_neg c90] at H
       exact absurd H (by simp)
      rw [if_pos c90] at H
      have LMc90:=Aside0.mk c90
      clear c90
      obtain ⟨y359,hy359⟩ : ∃ y_ : List (S27),y_ = (x10_2 ++ [(⟨(rd_T27 x7_1 x54_2).f0,(rd_T27 x7_1 x54_2).f1,(rd_T27 x7_1 x54_2).f2,(rd_T27 x7_1 x54_2).f3⟩ : S27)]):=⟨_,rfl⟩
      replace H : (impl_RunTrim.l1 k2 true x7_1 y359 x7_1 (x7_1.length : Int) ji71) = some r:=by first | (rw [hy359];with_reducible exact H) | (have H2_:=(Option.bind_some _ _).symm.trans H;rw [hy359];with_reducible exact H2_) | (have H2_:=(Option.bind_some _ _).symm.trans H;with_reducible exact H2_) | with_reducible exact H | (rw [hy359];exact H) | exact H
      have Ny359:=Aside0.mk hy359
      clear hy359
      have H':=Aside0.mk H
      clear H
      have p347 : 0 ≤ (x54_2 : Int):=of_decide_eq_true T11q3
      have q347 : x54_2 < (x7_1.length : Int):=of_decide_eq_true T11q3
      obtain ⟨ad347,e347,hx347_0,hx347_1,hx347_2,hx347_3⟩:=at_T27 (Kd.R_reads' HO_52.out).2.2 x54_2 p347 q347
      cases e347
      replace p347:=eq_true p347
      replace q347:=eq_true q347
      try go_wp2_with (first | ((with_reducible refine gate_dst (N:=12) rfl ?_);refine box_event ?hg (N:=12) ?hd (cs:=#[.string (⟨#[]⟩ : ByteArray),.int .i64 0,.bool false,.int .i64 0]) (t:=27) ?hr ?_;(case hd => rfl);(case hg => rfl);(case hr => first | (go_simp;done) | (go_simp;rfl));intro gb348 hg w91 hbox hb;have n0_:=Aside0.mk (Kd.R_below (Kd.R_elderB T11q4 gb348 (Nat.le_of_eq hg.symm)) hb);have n1_:=Aside0.mk (Kd.R_below (Kd.R_elderB T11q7 gb348 (Nat.le_of_eq hg.symm)) hb);have n2_:=Aside0.mk (Kd.R_below (Kd.R_elderB T11q8 gb348 (Nat.le_of_eq hg.symm)) hb);have n3_:=Aside0.mk (below_step (by repeat (first | (with_reducible first | exact HB.out | apply below_alloc | apply pw_below_drewN | apply below_drew1) | exact HB.out)) hb);have n4_:=Aside0.mk (hbox);have n5_:=Aside0.mk ((by rw [hg];exact (below_size (by repeat (first | (with_reducible first | exact HB.out | apply below_alloc | apply pw_below_drewN | apply below_drew1) | exact HB.out))) : w.heap.size ≤ gb348));have n6_:=Aside0.mk ((by rw [hg];exact (below_size (by repeat (first | (with_reducible first | exact HB.out | apply below_alloc | apply pw_below_drewN | apply below_drew1) | exact HB.out))) : w.heap.size ≤ gb348));clear HO_7;clear HO_10;clear HO_52;clear HB;have HO_7:=n0_;have HO_10:=n1_;have HO_52:=n2_;have HB:=n3_;have BK348:=n4_;have GW348:=n5_;have GE348:=n6_;clear n0_ n1_ n2_ n3_ n4_ n5_ n6_;clear hb hbox hg;have hcz92_0 : w91.cell? ⟨gb348,0,none⟩ = some (.string (⟨#[]⟩ : ByteArray)):=(blk_cell BK348.out 0).trans rfl;have hcz92_1 : w91.cell? ⟨gb348,1,none⟩ = some (.int .i64 0):=(blk_cell BK348.out 1).trans rfl;have hcz92_2 : w91.cell? ⟨gb348,2,none⟩ = some (.bool false):=(blk_cell BK348.out 2).trans rfl;have hcz92_3 : w91.cell? ⟨gb348,3,none⟩ = some (.int .i64 0):=(blk_cell BK348.out 3).trans rfl;have hfz92_0:=blk_frozen BK348.out 0;have hfz92_1:=blk_frozen BK348.out 1;have hfz92_2:=blk_frozen BK348.out 2;have hfz92_3:=blk_frozen BK348.out 3))
      have n0_ : Aside0 (Kd.R k27 27 ((((w91.setCell ⟨gb348,0,none⟩ (.string ((rd_T27 x7_1 x54_2).f0))).setCell ⟨gb348,1,none⟩ (.int .i64 ((rd_T27 x7_1 x54_2).f1))).setCell ⟨gb348,2,none⟩ (.bool ((rd_T27 x7_1 x54_2).f2))).setCell ⟨gb348,3,none⟩ (.int .i64 ((rd_T27 x7_1 x54_2).f3))) w.heap.size (fun k_ => some k_ ≠ (u10 : Value).ownBlock ∧ k_ ≠ gb348) (.slice (some ad347) x7_1.length co44) x7_1):=⟨by (with_reducible repeat (first | apply Kd.R_alloc | apply Kd.R_drewN | apply Kd.R_drew));exact Kd.R_mono (Kd.R_far (p:=⟨gb348,3,none⟩) (Kd.R_far (p:=⟨gb348,2,none⟩) (Kd.R_far (p:=⟨gb348,1,none⟩) (Kd.R_far (p:=⟨gb348,0,none⟩) (Kd.R_mono HO_7.out (fun k_ hk => (⟨hk,hk.2⟩ : _ ∧ k_ ≠ gb348))) (fun _ hk => hk.2) (.string ((rd_T27 x7_1 x54_2).f0))) (fun _ hk => hk.2) (.int .i64 ((rd_T27 x7_1 x54_2).f1))) (fun _ hk => hk.2) (.bool ((rd_T27 x7_1 x54_2).f2))) (fun _ hk => hk.2) (.int .i64 ((rd_T27 x7_1 x54_2).f3))) (fun _ hk => ⟨hk.1.1,hk.1.2⟩)⟩
      have n1_ : Aside0 (Kd.R k27 27 ((((w91.setCell ⟨gb348,0,none⟩ (.string ((rd_T27 x7_1 x54_2).f0))).setCell ⟨gb348,1,none⟩ (.int .i64 ((rd_T27 x7_1 x54_2).f1))).setCell ⟨gb348,2,none⟩ (.bool ((rd_T27 x7_1 x54_2).f2))).setCell ⟨gb348,3,none⟩ (.int .i64 ((rd_T27 x7_1 x54_2).f3))) w.heap.size (fun k_ => some k_ ≠ (.slice (some ad347) x7_1.length co44 : Value).ownBlock ∧ some k_ ≠ (.slice (some ad347) x7_1.length co44 : Value).ownBlock ∧ k_ ≠ gb348) u10 x10_2):=⟨by (with_reducible repeat (first | apply Kd.R_alloc | apply Kd.R_drewN | apply Kd.R_drew));exact Kd.R_mono (Kd.R_far (p:=⟨gb348,3,none⟩) (Kd.R_far (p:=⟨gb348,2,none⟩) (Kd.R_far (p:=⟨gb348,1,none⟩) (Kd.R_far (p:=⟨gb348,0,none⟩) (Kd.R_mono HO_10.out (fun k_ hk => (⟨hk,hk.2⟩ : _ ∧ k_ ≠ gb348))) (fun _ hk => hk.2) (.string ((rd_T27 x7_1 x54_2).f0))) (fun _ hk => hk.2) (.int .i64 ((rd_T27 x7_1 x54_2).f1))) (fun _ hk => hk.2) (.bool ((rd_T27 x7_1 x54_2).f2))) (fun _ hk => hk.2) (.int .i64 ((rd_T27 x7_1 x54_2).f3))) (fun _ hk => ⟨hk.1.1.1,⟨hk.1.1.2,hk.1.2⟩⟩)⟩
      have n2_ : Aside0 (Kd.R k27 27 ((((w91.setCell ⟨gb348,0,none⟩ (.string ((rd_T27 x7_1 x54_2).f0))).setCell ⟨gb348,1,none⟩ (.int .i64 ((rd_T27 x7_1 x54_2).f1))).setCell ⟨gb348,2,none⟩ (.bool ((rd_T27 x7_1 x54_2).f2))).setCell ⟨gb348,3,none⟩ (.int .i64 ((rd_T27 x7_1 x54_2).f3))) w.heap.size (fun k_ => some k_ ≠ (u10 : Value).ownBlock ∧ k_ ≠ gb348) (.slice (some ad347) x7_1.length co44) x7_1):=⟨by (with_reducible repeat (first | apply Kd.R_alloc | apply Kd.R_drewN | apply Kd.R_drew));exact Kd.R_mono (Kd.R_far (p:=⟨gb348,3,none⟩) (Kd.R_far (p:=⟨gb348,2,none⟩) (Kd.R_far (p:=⟨gb348,1,none⟩) (Kd.R_far (p:=⟨gb348,0,none⟩) (Kd.R_mono HO_52.out (fun k_ hk => (⟨hk,hk.2⟩ : _ ∧ k_ ≠ gb348))) (fun _ hk => hk.2) (.string ((rd_T27 x7_1 x54_2).f0))) (fun _ hk => hk.2) (.int .i64 ((rd_T27 x7_1 x54_2).f1))) (fun _ hk => hk.2) (.bool ((rd_T27 x7_1 x54_2).f2))) (fun _ hk => hk.2) (.int .i64 ((rd_T27 x7_1 x54_2).f3))) (fun _ hk => ⟨hk.1.1,hk.1.2⟩)⟩
      have n3_ : Aside0 (((((w91.setCell ⟨gb348,0,none⟩ (.string ((rd_T27 x7_1 x54_2).f0))).setCell ⟨gb348,1,none⟩ (.int .i64 ((rd_T27 x7_1 x54_2).f1))).setCell ⟨gb348,2,none⟩ (.bool ((rd_T27 x7_1 x54_2).f2))).setCell ⟨gb348,3,none⟩ (.int .i64 ((rd_T27 x7_1 x54_2).f3))).heap[gb348]? = some (.cells #[.string ((rd_T27 x7_1 x54_2).f0),.int .i64 ((rd_T27 x7_1 x54_2).f1),.bool ((rd_T27 x7_1 x54_2).f2),.int .i64 ((rd_T27 x7_1 x54_2).f3)] 27 (0,0))):=⟨by (with_reducible repeat (first | refine blk_drewN ?_ _ | refine blk_drew ?_ | refine blk_alloc ?_ _));refine blk_put (cs:=#[.string ((rd_T27 x7_1 x54_2).f0),.int .i64 ((rd_T27 x7_1 x54_2).f1),.bool ((rd_T27 x7_1 x54_2).f2),.int .i64 0]) ?_ 3 _ rfl;(with_reducible repeat (first | refine blk_drewN ?_ _ | refine blk_drew ?_ | refine blk_alloc ?_ _));refine blk_put (cs:=#[.string ((rd_T27 x7_1 x54_2).f0),.int .i64 ((rd_T27 x7_1 x54_2).f1),.bool false,.int .i64 0]) ?_ 2 _ rfl;(with_reducible repeat (first | refine blk_drewN ?_ _ | refine blk_drew ?_ | refine blk_alloc ?_ _));refine blk_put (cs:=#[.string ((rd_T27 x7_1 x54_2).f0),.int .i64 0,.bool false,.int .i64 0]) ?_ 1 _ rfl;(with_reducible repeat (first | refine blk_drewN ?_ _ | refine blk_drew ?_ | refine blk_alloc ?_ _));refine blk_put (cs:=#[.string (⟨#[]⟩ : ByteArray),.int .i64 0,.bool false,.int .i64 0]) ?_ 0 _ rfl;(with_reducible repeat (first | refine blk_drewN ?_ _ | refine blk_drew ?_ | refine blk_alloc ?_ _));exact BK348.out⟩
      have n4_ : Aside0 (Below w.heap.size w ((((w91.setCell ⟨gb348,0,none⟩ (.string ((rd_T27 x7_1 x54_2).f0))).setCell ⟨gb348,1,none⟩ (.int .i64 ((rd_T27 x7_1 x54_2).f1))).setCell ⟨gb348,2,none⟩ (.bool ((rd_T27 x7_1 x54_2).f2))).setCell ⟨gb348,3,none⟩ (.int .i64 ((rd_T27 x7_1 x54_2).f3)))):=⟨by repeat (first | (with_reducible first | exact HB.out | apply below_alloc | apply pw_below_drewN | apply below_drew1 | refine below_set ?_ GE348.out) | exact HB.out)⟩
      (try clear HO_7)
      (try clear HO_10)
      (try clear HO_52)
      (try clear BK348)
      (try clear HB)
      generalize ((((w91.setCell ⟨gb348,0,none⟩ (.string ((rd_T27 x7_1 x54_2).f0))).setCell ⟨gb348,1,none⟩ (.int .i64 ((rd_T27 x7_1 x54_2).f1))).setCell ⟨gb348,2,none⟩ (.bool ((rd_T27 x7_1 x54_2).f2))).setCell ⟨gb348,3,none⟩ (.int .i64 ((rd_T27 x7_1 x54_2).f3))) = w93 at n0_ n1_ n2_ n3_ n4_ ⊢
      have HO_7:=n0_
      have HO_10:=n1_
      have HO_52:=n2_
      have BK348:=n3_
      have HB:=n4_
      clear n0_ n1_ n2_ n3_ n4_
      have n0_:=Aside0.mk (Kd.R_drew HO_7.out)
      have n1_:=Aside0.mk (Kd.R_drew HO_10.out)
      have n2_:=Aside0.mk (Kd.R_drew HO_52.out)
      have n3_:=Aside0.mk (blk_drew BK348.out)
      have n4_:=Aside0.mk (below_drew1 HB.out)
      clear HO_7
      clear HO_10
      clear HO_52
      clear BK348
      clear HB
      have HO_7:=n0_
      have HO_10:=n1_
      have HO_52:=n2_
      have BK348:=n3_
      have HB:=n4_
      clear n0_ n1_ n2_ n3_ n4_
      have p355 : 0 ≤ ((ji71) : Int):=of_decide_eq_true T11q3
      have q355 : (ji71) < (x7_1.length : Int):=of_decide_eq_true T11q3
      obtain ⟨ad355,e355,hx355_0,hx355_1,hx355_2,hx355_3⟩:=at_T27 (Kd.R_reads' HO_7.out).2.2 (ji71) p355 q355
      obtain rfl : ad347 = ad355:=(by injection e355)
      replace p355:=eq_true p355
      replace q355:=eq_true q355
      refine start_ (n:=17) (S:=fun w' => w'.cell? ⟨gb348,0,none⟩ = some (.string ((rd_T27 x7_1 x54_2).f0)) ∧ w'.cell? ⟨gb348,1,none⟩ = some (.int .i64 ((rd_T27 x7_1 x54_2).f1)) ∧ w'.cell? ⟨gb348,2,none⟩ = some (.bool ((rd_T27 x7_1 x54_2).f2)) ∧ w'.cell? ⟨gb348,3,none⟩ = some (.int .i64 ((rd_T27 x7_1 x54_2).f3)) ∧ w'.cell? (ad347.add (((ji71)).toNat * 4)) = some (.string ((rd_T27 x7_1 (ji71)).f0)) ∧ w'.cell? ⟨(ad347.add (((ji71)).toNat * 4)).block,(ad347.add (((ji71)).toNat * 4)).off + 1,none⟩ = some (.int .i64 ((rd_T27 x7_1 (ji71)).f1)) ∧ w'.cell? ⟨(ad347.add (((ji71)).toNat * 4)).block,(ad347.add (((ji71)).toNat * 4)).off + 2,none⟩ = some (.bool ((rd_T27 x7_1 (ji71)).f2)) ∧ w'.cell? ⟨(ad347.add (((ji71)).toNat * 4)).block,(ad347.add (((ji71)).toNat * 4)).off + 3,none⟩ = some (.int .i64 ((rd_T27 x7_1 (ji71)).f3))) (ds:=[]) #[false,false,false,false,false,false,false,false,false,false,false,false,false,false,false,false,false] T11q1 rfl rfl ⟨(blk_cell BK348.out 0).trans rfl,(blk_cell BK348.out 1).trans rfl,(blk_cell BK348.out 2).trans rfl,(blk_cell BK348.out 3).trans rfl,hx355_0,hx355_1,hx355_2,hx355_3⟩ (fun hHeld => ?_);refine with_tabW impl_RunTrim.tab14 impl_RunTrim.bits14 (fun HT_ HW_ => ?_)
      generalize w93.drew = w94 at HO_7 HO_10 HO_52 BK348 HB hx355_0 hx355_1 hx355_2 hx355_3 hHeld ⊢
      refine pm_ (i:=0) (N:=some 59) (v:=?_) (a':=?_) rfl rfl (any_of HT_.out T11q1) (fun _ _ _ h => h) (Or.inl ⟨by rfl,?_⟩) ?_ ?_
      rotate_left
      ·intro w'
       go_simp
       with_reducible rfl
      rotate_left
      ·simp only [PU]
       rfl
      refine pm_ (i:=1) (N:=some 60) (v:=?_) (a':=?_) rfl rfl (any_of HT_.out T11q1) (fun _ _ _ h => h) (Or.inl ⟨by rfl,?_⟩) ?_ ?_
      rotate_left
      ·intro w'
       go_simp
       with_reducible rfl
      rotate_left
      ·simp only [PU]
       rfl
      refine pm_ (i:=2) (N:=some 61) (v:=?_) (a':=?_) rfl rfl (any_of HT_.out T11q1) (fun _ _ _ h => h) (Or.inl ⟨by rfl,?_⟩) ?_ ?_
      rotate_left
      ·intro w'
       go_simp
       with_reducible rfl
      rotate_left
      ·simp only [PU]
       rfl
      refine pm_ (i:=3) (N:=some 62) (v:=?_) (a':=?_) rfl rfl (any_of HT_.out T11q1) (fun _ _ _ h => h) (Or.inl ⟨by rfl,?_⟩) ?_ ?_
      rotate_left
      ·intro w'
       go_simp
       with_reducible rfl
      rotate_left
      ·simp only [PU]
       rfl
      refine pm_ (i:=4) (N:=some 63) (v:=?_) (a':=?_) rfl rfl (any_of HT_.out T11q1) (fun _ _ _ h => h) (Or.inl ⟨by rfl,?_⟩) ?_ ?_
      rotate_left
      ·intro w'
       go_simp
       with_reducible rfl
      rotate_left
      ·simp only [PU]
       rfl
      refine pm_ (i:=5) (N:=some 64) (v:=?_) (a':=?_) rfl rfl (any_of HT_.out T11q1) (fun _ _ _ h => h) (Or.inl ⟨by rfl,?_⟩) ?_ ?_
      rotate_left
      ·intro w'
       go_simp
       with_reducible rfl
      rotate_left
      ·simp only [PU]
       rfl
      refine pm_ (i:=6) (N:=some 65) (v:=?_) (a':=?_) rfl rfl (any_of HT_.out T11q1) (fun _ _ _ h => h) (Or.inl ⟨by rfl,?_⟩) ?_ ?_
      rotate_left
      ·intro w'
       go_simp
       with_reducible rfl
      rotate_left
      ·simp only [PU]
       rfl
      refine pm_ (i:=7) (N:=some 66) (v:=?_) (a':=?_) rfl rfl (any_of HT_.out T11q1) (fun _ _ _ h => h) (Or.inl ⟨by rfl,?_⟩) ?_ ?_
      rotate_left
      ·intro w'
       go_simp
       with_reducible rfl
      rotate_left
      ·simp only [PU]
       rfl
      refine pm_ (i:=8) (N:=some 67) (v:=?_) (a':=?_) rfl rfl (any_of HT_.out T11q1) (fun _ _ _ h => h) (Or.inl ⟨by rfl,?_⟩) ?_ ?_
      rotate_left
      ·intro w'
       go_simp
       with_reducible rfl
      rotate_left
      ·simp only [PU]
       rfl
      refine pm_ (i:=9) (N:=some 68) (v:=?_) (a':=?_) rfl rfl (any_of HT_.out T11q1) (fun _ _ _ h => h) (Or.inl ⟨by rfl,?_⟩) ?_ ?_
      rotate_left
      ·intro w'
       go_simp
       with_reducible rfl
      rotate_left
      ·simp only [PU]
       rfl
      refine pm_ (i:=10) (N:=some 69) (v:=?_) (a':=?_) rfl rfl (any_of HT_.out T11q1) (fun _ _ _ h => h) (Or.inl ⟨by rfl,?_⟩) ?_ ?_
      rotate_left
      ·intro w'
       go_simp
       with_reducible rfl
      rotate_left
      ·simp only [PU]
       rfl
      refine pm_ (i:=12) (N:=some 71) (v:=?_) (a':=?_) rfl rfl (any_of HT_.out T11q1) (fun _ _ _ h => h) (Or.inl ⟨by rfl,?_⟩) ?_ ?_
      rotate_left
      ·intro w'
       go_simp
       with_reducible rfl
      rotate_left
      ·simp only [PU]
       rfl
      refine tm_ (i:=11) (N:=some 70) (v:=?_) (a':=?_) rfl rfl (take_ofW HT_.out HW_.out T11q1) (fun _ _ _ h => h) (Or.inl ⟨by rfl,?_⟩) hHeld ?_ ?_
      rotate_left
      ·rintro w' ⟨s0,s1,s2,s3,s4,s5,s6,s7⟩
       go_simp
       with_reducible rfl
      rotate_left
      ·simp only [PU]
       rfl
      refine tm_ (i:=13) (N:=some 72) (v:=?_) (a':=?_) rfl rfl (take_ofW HT_.out HW_.out T11q1) (fun _ _ _ h => h) (Or.inl ⟨by rfl,?_⟩) hHeld ?_ ?_
      rotate_left
      ·rintro w' ⟨s0,s1,s2,s3,s4,s5,s6,s7⟩
       go_simp
       with_reducible rfl
      rotate_left
      ·simp only [PU]
       rfl
      refine pm_ (i:=14) (N:=some 73) (v:=?_) (a':=?_) rfl rfl (any_of HT_.out T11q1) (fun _ _ _ h => h) (Or.inl ⟨by rfl,?_⟩) ?_ ?_
      rotate_left
      ·intro w'
       go_simp
       with_reducible rfl
      rotate_left
      ·simp only [PU]
       rfl
      refine pm_ (i:=15) (N:=some 74) (v:=?_) (a':=?_) rfl rfl (any_of HT_.out T11q1) (fun _ _ _ h => h) (Or.inl ⟨by rfl,?_⟩) ?_ ?_
      rotate_left
      ·intro w'
       go_simp
       with_reducible rfl
      rotate_left
      ·simp only [PU]
       rfl
      refine pm_ (i:=16) (N:=some 13) (v:=?_) (a':=?_) rfl rfl (any_of HT_.out T11q1) (fun _ _ _ h => h) (Or.inl ⟨by rfl,?_⟩) ?_ ?_
      rotate_left
      ·intro w'
       go_simp
       with_reducible rfl
      rotate_left
      ·simp only [PU]
       rfl
      refine done_ (done_of HT_.out T11q1) ?_
      have hcz95_0 : w94.cell? ⟨gb348,0,none⟩ = some (.string ((rd_T27 x7_1 x54_2).f0)):=(blk_cell BK348.out 0).trans rfl
      have hcz95_1 : w94.cell? ⟨gb348,1,none⟩ = some (.int .i64 ((rd_T27 x7_1 x54_2).f1)):=(blk_cell BK348.out 1).trans rfl
      have hcz95_2 : w94.cell? ⟨gb348,2,none⟩ = some (.bool ((rd_T27 x7_1 x54_2).f2)):=(blk_cell BK348.out 2).trans rfl
      have hcz95_3 : w94.cell? ⟨gb348,3,none⟩ = some (.int .i64 ((rd_T27 x7_1 x54_2).f3)):=(blk_cell BK348.out 3).trans rfl
      have hfz95_0:=blk_frozen BK348.out 0
      have hfz95_1:=blk_frozen BK348.out 1
      have hfz95_2:=blk_frozen BK348.out 2
      have hfz95_3:=blk_frozen BK348.out 3
      try go_wp2_with (first | ((with_reducible refine gate_builtin (b:=.append) (xs:=#[.tmp 86,.tmp 88]) rfl ?_);at_builtin;refine Kd.R_append k27 (w0:=w) w.heap.size rfl (.tmp 86) (.tmp 88) 23 27 (.agg #[(.string ⟨#[]⟩),(.int .i64 0),(.bool false),(.int .i64 0)]) 40 rfl Try.underlying23 info27 rfl (by decide) (by omega) u10 x10_2 (⟨(rd_T27 x7_1 x54_2).f0,(rd_T27 x7_1 x54_2).f1,(rd_T27 x7_1 x54_2).f2,(rd_T27 x7_1 x54_2).f3⟩ : S27) [.string ((rd_T27 x7_1 x54_2).f0),.int .i64 ((rd_T27 x7_1 x54_2).f1),.bool ((rd_T27 x7_1 x54_2).f2),.int .i64 ((rd_T27 x7_1 x54_2).f3)] (fun k_ => some k_ ≠ (.slice (some ad347) x7_1.length co44 : Value).ownBlock ∧ some k_ ≠ (.slice (some ad347) x7_1.length co44 : Value).ownBlock ∧ k_ ≠ gb348) (fun _ => False) rfl rfl ?aP (fun _ hk => hk.elim) ?aF ?aO ?aB ?aS ?aL ?_;(case aP => exact k27_mkM _ _ _ (⟨(rd_T27 x7_1 x54_2).f0,(rd_T27 x7_1 x54_2).f1,(rd_T27 x7_1 x54_2).f2,(rd_T27 x7_1 x54_2).f3⟩ : S27));(case aB => exact (by repeat (first | (with_reducible first | exact HB.out | apply below_alloc | apply pw_below_drewN | apply below_drew1 | refine below_set ?_ GE348.out) | exact HB.out)));(case aF => exact (fun k_ hk => ⟨Kd.fresh' (Kd.R_lt T11q4) k_ hk,Kd.fresh' (Kd.R_lt T11q8) k_ hk,Kd.freshB (g:=gb348) (o:=.cells #[.string ((rd_T27 x7_1 x54_2).f0),.int .i64 ((rd_T27 x7_1 x54_2).f1),.bool ((rd_T27 x7_1 x54_2).f2),.int .i64 ((rd_T27 x7_1 x54_2).f3)] 27 (0,0)) T11q9 k_ hk⟩));(case aO => exact T11q7);(case aS => exact (below_size (by repeat (first | (with_reducible first | exact HB.out | apply below_alloc | apply pw_below_drewN | apply below_drew1 | refine below_set ?_ GE348.out) | exact HB.out))));(case aL => have:=LMc90.out;omega);intro v360 w96 ho hb hg hat;rw [← Ny359.out] at ho;have n0_:=Aside0.mk (Kd.R_after (ok:=(fun k_ => k_ ≠ gb348)) T11q10 hg hat);have n1_:=Aside0.mk (Kd.R_after (ok:=(fun k_ => k_ ≠ gb348)) T11q11 hg hat);have n2_:=Aside0.mk (blk_grown (g:=gb348) (o:=.cells #[.string ((rd_T27 x7_1 x54_2).f0),.int .i64 ((rd_T27 x7_1 x54_2).f1),.bool ((rd_T27 x7_1 x54_2).f2),.int .i64 ((rd_T27 x7_1 x54_2).f3)] 27 (0,0)) T11q9 hg (Kd.R_away HO_10.out (fun _ hk => hk.2.2)));have n3_:=Aside0.mk (hb);have n4_:=Aside0.mk (ho);clear HO_7;clear HO_52;clear BK348;clear HB;clear HO_10;have HO_7:=n0_;have HO_52:=n1_;have BK348:=n2_;have HB:=n3_;have HO361:=n4_;clear n0_ n1_ n2_ n3_ n4_;clear ho hb hg hat))
      go_roundg k2
      case measure => have:=HK1.out;have:=HK2.out;omega
      case rel => exact ⟨(y359),(ji71),(by first | rfl | (simp;done) | (simp only [← hji71] <;> (first | rfl | simp)) | (simp [*];done)),H',⟨by have:=HK1.out;have:=HK2.out;omega⟩,⟨by (with_reducible repeat (first | apply Kd.R_alloc | apply Kd.R_drewN | apply Kd.R_drew));exact Kd.R_mono HO_7.out (fun _ hk => hk.2)⟩,⟨by (with_reducible repeat (first | apply Kd.R_alloc | apply Kd.R_drewN | apply Kd.R_drew));exact Kd.R_mono HO361.out (fun _ hk => ⟨hk.1,hk.2.1⟩)⟩,⟨by (with_reducible repeat (first | apply Kd.R_alloc | apply Kd.R_drewN | apply Kd.R_drew));exact Kd.R_mono HO_52.out (fun _ hk => hk.2)⟩,⟨by repeat (first | (with_reducible first | exact HB.out | apply below_alloc | apply pw_below_drewN | apply below_drew1 | refine below_set ?_ GE348.out) | exact HB.out)⟩⟩
     rw [if_pos c75] at H
     have c75b0 : (((rd_T27 x7_1 (ji71)).f0).toList == ((rd_T27 x7_1 x54_2).f0).toList) = false:=beq_eq_false_iff_ne.mpr c75
     have c75b1 : (((rd_T27 x7_1 (ji71)).f0).toList != ((rd_T27 x7_1 x54_2).f0).toList) = true:=bne_iff_ne.mpr c75
     clear c75
     obtain ⟨bq76,hbq76⟩ : ∃ b_ : Bool,b_ = ((rd_T27 x7_1 x54_2).f2):=⟨_,rfl⟩
     replace H : (if (bq76 = true) then (impl_RunTrim.l1 k2 true x7_1 x10_2 x7_1 (x7_1.length : Int) ji71) else (if x10_2.length < 3518437208883 then (impl_RunTrim.l1 k2 true x7_1 (x10_2 ++ [(⟨(rd_T27 x7_1 x54_2).f0,(rd_T27 x7_1 x54_2).f1,bq76,(rd_T27 x7_1 x54_2).f3⟩ : S27)]) x7_1 (x7_1.length : Int) ji71) else (none))) = some r:=by rw [← hbq76] at H;exact H
     have Nbq76:=Aside0.mk hbq76
     clear hbq76
     by_cases c77 : (bq76 = true)
     ·subst c77
      have H1 : (impl_RunTrim.l1 k2 true x7_1 x10_2 x7_1 (x7_1.length : Int) ji71) = some r:=by rw [if_pos rfl] at H;exact H
      clear H
      have H:=H1
      clear H1
      have H':=Aside0.mk H
      clear H
      have p347 : 0 ≤ (x54_2 : Int):=of_decide_eq_true T11q3
      have q347 : x54_2 < (x7_1.length : Int):=of_decide_eq_true T11q3
      obtain ⟨ad347,e347,hx347_0,hx347_1,hx347_2,hx347_3⟩:=at_T27 (Kd.R_reads' HO_52.out).2.2 x54_2 p347 q347
      (try rw [← Nbq76.out] at hx347_2)
      cases e347
      replace p347:=eq_true p347
      replace q347:=eq_true q347
      try go_wp2_with (first | ((with_reducible refine gate_dst (N:=12) rfl ?_);refine box_event ?hg (N:=12) ?hd (cs:=#[.string (⟨#[]⟩ : ByteArray),.int .i64 0,.bool false,.int .i64 0]) (t:=27) ?hr ?_;(case hd => rfl);(case hg => rfl);(case hr => first | (go_simp;done) | (go_simp;rfl));intro gb348 hg w78 hbox hb;have n0_:=Aside0.mk (Kd.R_below (Kd.R_elderB T11q4 gb348 (Nat.le_of_eq hg.symm)) hb);have n1_:=Aside0.mk (Kd.R_below (Kd.R_elderB T11q7 gb348 (Nat.le_of_eq hg.symm)) hb);have n2_:=Aside0.mk (Kd.R_below (Kd.R_elderB T11q8 gb348 (Nat.le_of_eq hg.symm)) hb);have n3_:=Aside0.mk (below_step (by repeat (first | (with_reducible first | exact HB.out | apply below_alloc | apply pw_below_drewN | apply below_drew1) | exact HB.out)) hb);have n4_:=Aside0.mk (hbox);have n5_:=Aside0.mk ((by rw [hg];exact (below_size (by repeat (first | (with_reducible first | exact HB.out | apply below_alloc | apply pw_below_drewN | apply below_drew1) | exact HB.out))) : w.heap.size ≤ gb348));have n6_:=Aside0.mk ((by rw [hg];exact (below_size (by repeat (first | (with_reducible first | exact HB.out | apply below_alloc | apply pw_below_drewN | apply below_drew1) | exact HB.out))) : w.heap.size ≤ gb348));clear HO_7;clear HO_10;clear HO_52;clear HB;have HO_7:=n0_;have HO_10:=n1_;have HO_52:=n2_;have HB:=n3_;have BK348:=n4_;have GW348:=n5_;have GE348:=n6_;clear n0_ n1_ n2_ n3_ n4_ n5_ n6_;clear hb hbox hg;have hcz79_0 : w78.cell? ⟨gb348,0,none⟩ = some (.string (⟨#[]⟩ : ByteArray)):=(blk_cell BK348.out 0).trans rfl;have hcz79_1 : w78.cell? ⟨gb348,1,none⟩ = some (.int .i64 0):=(blk_cell BK348.out 1).trans rfl;have hcz79_2 : w78.cell? ⟨gb348,2,none⟩ = some (.bool false):=(blk_cell BK348.out 2).trans rfl;have hcz79_3 : w78.cell? ⟨gb348,3,none⟩ = some (.int .i64 0):=(blk_cell BK348.out 3).trans rfl;have hfz79_0:=blk_frozen BK348.out 0;have hfz79_1:=blk_frozen BK348.out 1;have hfz79_2:=blk_frozen BK348.out 2;have hfz79_3:=blk_frozen BK348.out 3))
      have n0_ : Aside0 (Kd.R k27 27 ((((w78.setCell ⟨gb348,0,none⟩ (.string ((rd_T27 x7_1 x54_2).f0))).setCell ⟨gb348,1,none⟩ (.int .i64 ((rd_T27 x7_1 x54_2).f1))).setCell ⟨gb348,2,none⟩ (.bool true)).setCell ⟨gb348,3,none⟩ (.int .i64 ((rd_T27 x7_1 x54_2).f3))) w.heap.size (fun k_ => some k_ ≠ (u10 : Value).ownBlock ∧ k_ ≠ gb348) (.slice (some ad347) x7_1.length co44) x7_1):=⟨by (with_reducible repeat (first | apply Kd.R_alloc | apply Kd.R_drewN | apply Kd.R_drew));exact Kd.R_mono (Kd.R_far (p:=⟨gb348,3,none⟩) (Kd.R_far (p:=⟨gb348,2,none⟩) (Kd.R_far (p:=⟨gb348,1,none⟩) (Kd.R_far (p:=⟨gb348,0,none⟩) (Kd.R_mono HO_7.out (fun k_ hk => (⟨hk,hk.2⟩ : _ ∧ k_ ≠ gb348))) (fun _ hk => hk.2) (.string ((rd_T27 x7_1 x54_2).f0))) (fun _ hk => hk.2) (.int .i64 ((rd_T27 x7_1 x54_2).f1))) (fun _ hk => hk.2) (.bool true)) (fun _ hk => hk.2) (.int .i64 ((rd_T27 x7_1 x54_2).f3))) (fun _ hk => ⟨hk.1.1,hk.1.2⟩)⟩
      have n1_ : Aside0 (Kd.R k27 27 ((((w78.setCell ⟨gb348,0,none⟩ (.string ((rd_T27 x7_1 x54_2).f0))).setCell ⟨gb348,1,none⟩ (.int .i64 ((rd_T27 x7_1 x54_2).f1))).setCell ⟨gb348,2,none⟩ (.bool true)).setCell ⟨gb348,3,none⟩ (.int .i64 ((rd_T27 x7_1 x54_2).f3))) w.heap.size (fun k_ => some k_ ≠ (.slice (some ad347) x7_1.length co44 : Value).ownBlock ∧ some k_ ≠ (.slice (some ad347) x7_1.length co44 : Value).ownBlock ∧ k_ ≠ gb348) u10 x10_2):=⟨by (with_reducible repeat (first | apply Kd.R_alloc | apply Kd.R_drewN | apply Kd.R_drew));exact Kd.R_mono (Kd.R_far (p:=⟨gb348,3,none⟩) (Kd.R_far (p:=⟨gb348,2,none⟩) (Kd.R_far (p:=⟨gb348,1,none⟩) (Kd.R_far (p:=⟨gb348,0,none⟩) (Kd.R_mono HO_10.out (fun k_ hk => (⟨hk,hk.2⟩ : _ ∧ k_ ≠ gb348))) (fun _ hk => hk.2) (.string ((rd_T27 x7_1 x54_2).f0))) (fun _ hk => hk.2) (.int .i64 ((rd_T27 x7_1 x54_2).f1))) (fun _ hk => hk.2) (.bool true)) (fun _ hk => hk.2) (.int .i64 ((rd_T27 x7_1 x54_2).f3))) (fun _ hk => ⟨hk.1.1.1,⟨hk.1.1.2,hk.1.2⟩⟩)⟩
      have n2_ : Aside0 (Kd.R k27 27 ((((w78.setCell ⟨gb348,0,none⟩ (.string ((rd_T27 x7_1 x54_2).f0))).setCell ⟨gb348,1,none⟩ (.int .i64 ((rd_T27 x7_1 x54_2).f1))).setCell ⟨gb348,2,none⟩ (.bool true)).setCell ⟨gb348,3,none⟩ (.int .i64 ((rd_T27 x7_1 x54_2).f3))) w.heap.size (fun k_ => some k_ ≠ (u10 : Value).ownBlock ∧ k_ ≠ gb348) (.slice (some ad347) x7_1.length co44) x7_1):=⟨by (with_reducible repeat (first | apply Kd.R_alloc | apply Kd.R_drewN | apply Kd.R_drew));exact Kd.R_mono (Kd.R_far (p:=⟨gb348,3,none⟩) (Kd.R_far (p:=⟨gb348,2,none⟩) (Kd.R_far (p:=⟨gb348,1,none⟩) (Kd.R_far (p:=⟨gb348,0,none⟩) (Kd.R_mono HO_52.out (fun k_ hk => (⟨hk,hk.2⟩ : _ ∧ k_ ≠ gb348))) (fun _ hk => hk.2) (.string ((rd_T27 x7_1 x54_2).f0))) (fun _ hk => hk.2) (.int .i64 ((rd_T27 x7_1 x54_2).f1))) (fun _ hk => hk.2) (.bool true)) (fun _ hk => hk.2) (.int .i64 ((rd_T27 x7_1 x54_2).f3))) (fun _ hk => ⟨hk.1.1,hk.1.2⟩)⟩
      have n3_ : Aside0 (((((w78.setCell ⟨gb348,0,none⟩ (.string ((rd_T27 x7_1 x54_2).f0))).setCell ⟨gb348,1,none⟩ (.int .i64 ((rd_T27 x7_1 x54_2).f1))).setCell ⟨gb348,2,none⟩ (.bool true)).setCell ⟨gb348,3,none⟩ (.int .i64 ((rd_T27 x7_1 x54_2).f3))).heap[gb348]? = some (.cells #[.string ((rd_T27 x7_1 x54_2).f0),.int .i64 ((rd_T27 x7_1 x54_2).f1),.bool true,.int .i64 ((rd_T27 x7_1 x54_2).f3)] 27 (0,0))):=⟨by (with_reducible repeat (first | refine blk_drewN ?_ _ | refine blk_drew ?_ | refine blk_alloc ?_ _));refine blk_put (cs:=#[.string ((rd_T27 x7_1 x54_2).f0),.int .i64 ((rd_T27 x7_1 x54_2).f1),.bool true,.int .i64 0]) ?_ 3 _ rfl;(with_reducible repeat (first | refine blk_drewN ?_ _ | refine blk_drew ?_ | refine blk_alloc ?_ _));refine blk_put (cs:=#[.string ((rd_T27 x7_1 x54_2).f0),.int .i64 ((rd_T27 x7_1 x54_2).f1),.bool false,.int .i64 0]) ?_ 2 _ rfl;(with_reducible repeat (first | refine blk_drewN ?_ _ | refine blk_drew ?_ | refine blk_alloc ?_ _));refine blk_put (cs:=#[.string ((rd_T27 x7_1 x54_2).f0),.int .i64 0,.bool false,.int .i64 0]) ?_ 1 _ rfl;(with_reducible repeat (first | refine blk_drewN ?_ _ | refine blk_drew ?_ | refine blk_alloc ?_ _));refine blk_put (cs:=#[.string (⟨#[]⟩ : ByteArray),.int .i64 0,.bool false,.int .i64 0]) ?_ 0 _ rfl;(with_reducible repeat (first | refine blk_drewN ?_ _ | refine blk_drew ?_ | refine blk_alloc ?_ _));exact BK348.out⟩
      have n4_ : Aside0 (Below w.heap.size w ((((w78.setCell ⟨gb348,0,none⟩ (.string ((rd_T27 x7_1 x54_2).f0))).setCell ⟨gb348,1,none⟩ (.int .i64 ((rd_T27 x7_1 x54_2).f1))).setCell ⟨gb348,2,none⟩ (.bool true)).setCell ⟨gb348,3,none⟩ (.int .i64 ((rd_T27 x7_1 x54_2).f3)))):=⟨by repeat (first | (with_reducible first | exact HB.out | apply below_alloc | apply pw_below_drewN | apply below_drew1 | refine below_set ?_ GE348.out) | exact HB.out)⟩
      (try clear HO_7)
      (try clear HO_10)
      (try clear HO_52)
      (try clear BK348)
      (try clear HB)
      generalize ((((w78.setCell ⟨gb348,0,none⟩ (.string ((rd_T27 x7_1 x54_2).f0))).setCell ⟨gb348,1,none⟩ (.int .i64 ((rd_T27 x7_1 x54_2).f1))).setCell ⟨gb348,2,none⟩ (.bool true)).setCell ⟨gb348,3,none⟩ (.int .i64 ((rd_T27 x7_1 x54_2).f3))) = w80 at n0_ n1_ n2_ n3_ n4_ ⊢
      have HO_7:=n0_
      have HO_10:=n1_
      have HO_52:=n2_
      have BK348:=n3_
      have HB:=n4_
      clear n0_ n1_ n2_ n3_ n4_
      have n0_:=Aside0.mk (Kd.R_drew HO_7.out)
      have n1_:=Aside0.mk (Kd.R_drew HO_10.out)
      have n2_:=Aside0.mk (Kd.R_drew HO_52.out)
      have n3_:=Aside0.mk (blk_drew BK348.out)
      have n4_:=Aside0.mk (below_drew1 HB.out)
      clear HO_7
      clear HO_10
      clear HO_52
      clear BK348
      clear HB
      have HO_7:=n0_
      have HO_10:=n1_
      have HO_52:=n2_
      have BK348:=n3_
      have HB:=n4_
      clear n0_ n1_ n2_ n3_ n4_
      have p355 : 0 ≤ ((ji71) : Int):=of_decide_eq_true T11q3
      have q355 : (ji71) < (x7_1.length : Int):=of_decide_eq_true T11q3
      obtain ⟨ad355,e355,hx355_0,hx355_1,hx355_2,hx355_3⟩:=at_T27 (Kd.R_reads' HO_7.out).2.2 (ji71) p355 q355
      (try rw [← Nbq76.out] at hx355_2)
      obtain rfl : ad347 = ad355:=(by injection e355)
      replace p355:=eq_true p355
      replace q355:=eq_true q355
      refine start_ (n:=17) (S:=fun w' => w'.cell? ⟨gb348,0,none⟩ = some (.string ((rd_T27 x7_1 x54_2).f0)) ∧ w'.cell? ⟨gb348,1,none⟩ = some (.int .i64 ((rd_T27 x7_1 x54_2).f1)) ∧ w'.cell? ⟨gb348,2,none⟩ = some (.bool true) ∧ w'.cell? ⟨gb348,3,none⟩ = some (.int .i64 ((rd_T27 x7_1 x54_2).f3)) ∧ w'.cell? (ad347.add (((ji71)).toNat * 4)) = some (.string ((rd_T27 x7_1 (ji71)).f0)) ∧ w'.cell? ⟨(ad347.add (((ji71)).toNat * 4)).block,(ad347.add (((ji71)).toNat * 4)).off + 1,none⟩ = some (.int .i64 ((rd_T27 x7_1 (ji71)).f1)) ∧ w'.cell? ⟨(ad347.add (((ji71)).toNat * 4)).block,(ad347.add (((ji71)).toNat * 4)).off + 2,none⟩ = some (.bool ((rd_T27 x7_1 (ji71)).f2)) ∧ w'.cell? ⟨(ad347.add (((ji71)).toNat * 4)).block,(ad347.add (((ji71)).toNat * 4)).off + 3,none⟩ = some (.int .i64 ((rd_T27 x7_1 (ji71)).f3))) (ds:=[]) #[false,false,false,false,false,false,false,false,false,false,false,false,false,false,false,false,false] T11q1 rfl rfl ⟨(blk_cell BK348.out 0).trans rfl,(blk_cell BK348.out 1).trans rfl,(blk_cell BK348.out 2).trans rfl,(blk_cell BK348.out 3).trans rfl,hx355_0,hx355_1,hx355_2,hx355_3⟩ (fun hHeld => ?_);refine with_tabW impl_RunTrim.tab14 impl_RunTrim.bits14 (fun HT_ HW_ => ?_)
      generalize w80.drew = w81 at HO_7 HO_10 HO_52 BK348 HB hx355_0 hx355_1 hx355_2 hx355_3 hHeld ⊢
      refine pm_ (i:=0) (N:=some 59) (v:=?_) (a':=?_) rfl rfl (any_of HT_.out T11q1) (fun _ _ _ h => h) (Or.inl ⟨by rfl,?_⟩) ?_ ?_
      rotate_left
      ·intro w'
       go_simp
       with_reducible rfl
      rotate_left
      ·simp only [PU]
       rfl
      refine pm_ (i:=1) (N:=some 60) (v:=?_) (a':=?_) rfl rfl (any_of HT_.out T11q1) (fun _ _ _ h => h) (Or.inl ⟨by rfl,?_⟩) ?_ ?_
      rotate_left
      ·intro w'
       go_simp
       with_reducible rfl
      rotate_left
      ·simp only [PU]
       rfl
      refine pm_ (i:=2) (N:=some 61) (v:=?_) (a':=?_) rfl rfl (any_of HT_.out T11q1) (fun _ _ _ h => h) (Or.inl ⟨by rfl,?_⟩) ?_ ?_
      rotate_left
      ·intro w'
       go_simp
       with_reducible rfl
      rotate_left
      ·simp only [PU]
       rfl
      refine pm_ (i:=3) (N:=some 62) (v:=?_) (a':=?_) rfl rfl (any_of HT_.out T11q1) (fun _ _ _ h => h) (Or.inl ⟨by rfl,?_⟩) ?_ ?_
      rotate_left
      ·intro w'
       go_simp
       with_reducible rfl
      rotate_left
      ·simp only [PU]
       rfl
      refine pm_ (i:=4) (N:=some 63) (v:=?_) (a':=?_) rfl rfl (any_of HT_.out T11q1) (fun _ _ _ h => h) (Or.inl ⟨by rfl,?_⟩) ?_ ?_
      rotate_left
      ·intro w'
       go_simp
       with_reducible rfl
      rotate_left
      ·simp only [PU]
       rfl
      refine pm_ (i:=5) (N:=some 64) (v:=?_) (a':=?_) rfl rfl (any_of HT_.out T11q1) (fun _ _ _ h => h) (Or.inl ⟨by rfl,?_⟩) ?_ ?_
      rotate_left
      ·intro w'
       go_simp
       with_reducible rfl
      rotate_left
      ·simp only [PU]
       rfl
      refine pm_ (i:=6) (N:=some 65) (v:=?_) (a':=?_) rfl rfl (any_of HT_.out T11q1) (fun _ _ _ h => h) (Or.inl ⟨by rfl,?_⟩) ?_ ?_
      rotate_left
      ·intro w'
       go_simp
       with_reducible rfl
      rotate_left
      ·simp only [PU]
       rfl
      refine pm_ (i:=7) (N:=some 66) (v:=?_) (a':=?_) rfl rfl (any_of HT_.out T11q1) (fun _ _ _ h => h) (Or.inl ⟨by rfl,?_⟩) ?_ ?_
      rotate_left
      ·intro w'
       go_simp
       with_reducible rfl
      rotate_left
      ·simp only [PU]
       rfl
      refine pm_ (i:=8) (N:=some 67) (v:=?_) (a':=?_) rfl rfl (any_of HT_.out T11q1) (fun _ _ _ h => h) (Or.inl ⟨by rfl,?_⟩) ?_ ?_
      rotate_left
      ·intro w'
       go_simp
       with_reducible rfl
      rotate_left
      ·simp only [PU]
       rfl
      refine pm_ (i:=9) (N:=some 68) (v:=?_) (a':=?_) rfl rfl (any_of HT_.out T11q1) (fun _ _ _ h => h) (Or.inl ⟨by rfl,?_⟩) ?_ ?_
      rotate_left
      ·intro w'
       go_simp
       with_reducible rfl
      rotate_left
      ·simp only [PU]
       rfl
      refine pm_ (i:=10) (N:=some 69) (v:=?_) (a':=?_) rfl rfl (any_of HT_.out T11q1) (fun _ _ _ h => h) (Or.inl ⟨by rfl,?_⟩) ?_ ?_
      rotate_left
      ·intro w'
       go_simp
       with_reducible rfl
      rotate_left
      ·simp only [PU]
       rfl
      refine pm_ (i:=12) (N:=some 71) (v:=?_) (a':=?_) rfl rfl (any_of HT_.out T11q1) (fun _ _ _ h => h) (Or.inl ⟨by rfl,?_⟩) ?_ ?_
      rotate_left
      ·intro w'
       go_simp
       with_reducible rfl
      rotate_left
      ·simp only [PU]
       rfl
      refine tm_ (i:=11) (N:=some 70) (v:=?_) (a':=?_) rfl rfl (take_ofW HT_.out HW_.out T11q1) (fun _ _ _ h => h) (Or.inl ⟨by rfl,?_⟩) hHeld ?_ ?_
      rotate_left
      ·rintro w' ⟨s0,s1,s2,s3,s4,s5,s6,s7⟩
       go_simp
       with_reducible rfl
      rotate_left
      ·simp only [PU]
       rfl
      refine tm_ (i:=13) (N:=some 72) (v:=?_) (a':=?_) rfl rfl (take_ofW HT_.out HW_.out T11q1) (fun _ _ _ h => h) (Or.inl ⟨by rfl,?_⟩) hHeld ?_ ?_
      rotate_left
      ·rintro w' ⟨s0,s1,s2,s3,s4,s5,s6,s7⟩
       go_simp
       with_reducible rfl
      rotate_left
      ·simp only [PU]
       rfl
      refine pm_ (i:=14) (N:=some 73) (v:=?_) (a':=?_) rfl rfl (any_of HT_.out T11q1) (fun _ _ _ h => h) (Or.inl ⟨by rfl,?_⟩) ?_ ?_
      rotate_left
      ·intro w'
       go_simp
       with_reducible rfl
      rotate_left
      ·simp only [PU]
       rfl
      refine pm_ (i:=15) (N:=some 74) (v:=?_) (a':=?_) rfl rfl (any_of HT_.out T11q1) (fun _ _ _ h => h) (Or.inl ⟨by rfl,?_⟩) ?_ ?_
      rotate_left
      ·intro w'
       go_simp
       with_reducible rfl
      rotate_left
      ·simp only [PU]
       rfl
      refine pm_ (i:=16) (N:=some 13) (v:=?_) (a':=?_) rfl rfl (any_of HT_.out T11q1) (fun _ _ _ h => h) (Or.inl ⟨by rfl,?_⟩) ?_ ?_
      rotate_left
      ·intro w'
       go_simp
       with_reducible rfl
      rotate_left
      ·simp only [PU]
       rfl
      refine done_ (done_of HT_.out T11q1) ?_
      have hcz82_0 : w81.cell? ⟨gb348,0,none⟩ = some (.string ((rd_T27 x7_1 x54_2).f0)):=(blk_cell BK348.out 0).trans rfl
      have hcz82_1 : w81.cell? ⟨gb348,1,none⟩ = some (.int .i64 ((rd_T27 x7_1 x54_2).f1)):=(blk_cell BK348.out 1).trans rfl
      have hcz82_2 : w81.cell? ⟨gb348,2,none⟩ = some (.bool true):=(blk_cell BK348.out 2).trans rfl
      have hcz82_3 : w81.cell? ⟨gb348,3,none⟩ = some (.int .i64 ((rd_T27 x7_1 x54_2).f3)):=(blk_cell BK348.out 3).trans rfl
      have hfz82_0:=blk_frozen BK348.out 0
      have hfz82_1:=blk_frozen BK348.out 1
      have hfz82_2:=blk_frozen BK348.out 2
      have hfz82_3:=blk_frozen BK348.out 3
      try go_wp2
      go_roundg k2
      case measure => have:=HK1.out;have:=HK2.out;omega
      case rel => exact ⟨(x10_2),(ji71),(by first | rfl | (simp;done) | (simp only [← hji71] <;> (first | rfl | simp)) | (simp [*];done)),H',⟨by have:=HK1.out;have:=HK2.out;omega⟩,⟨by (with_reducible repeat (first | apply Kd.R_alloc | apply Kd.R_drewN | apply Kd.R_drew));exact Kd.R_mono HO_7.out (fun _ hk => hk.1)⟩,⟨by (with_reducible repeat (first | apply Kd.R_alloc | apply Kd.R_drewN | apply Kd.R_drew));exact Kd.R_mono HO_10.out (fun _ hk => ⟨hk.1,hk.2.1⟩)⟩,⟨by (with_reducible repeat (first | apply Kd.R_alloc | apply Kd.R_drewN | apply Kd.R_drew));exact Kd.R_mono HO_52.out (fun _ hk => hk.1)⟩,⟨by repeat (first | (with_reducible first | exact HB.out | apply below_alloc | apply pw_below_drewN | apply below_drew1 | refine below_set ?_ GE348.out) | exact HB.out)⟩⟩
     replace c77:=Bool.eq_false_iff.mpr c77
     subst c77
     have H1 : (if x10_2.length < 3518437208883 then (impl_RunTrim.l1 k2 true x7_1 (x10_2 ++ [(⟨(rd_T27 x7_1 x54_2).f0,(rd_T27 x7_1 x54_2).f1,false,(rd_T27 x7_1 x54_2).f3⟩ : S27)]) x7_1 (x7_1.length : Int) ji71) else (none)) = some r:=by rw [if_neg (show ¬ (false = true) by decide)] at H;exact H
     clear H
     have H:=H1
     clear H1
     by_cases c83 : x10_2.length < 3518437208883
     rotate_left
     ·rw [if_neg c83] at H
      exact absurd H (by simp)
     rw [if_pos c83] at H
     have LMc83:=Aside0.mk c83
     clear c83
     obtain ⟨y356,hy356⟩ : ∃ y_ : List (S27),y_ = (x10_2 ++ [(⟨(rd_T27 x7_1 x54_2).f0,(rd_T27 x7_1 x54_2).f1,false,(rd_T27 x7_1 x54_2).f3⟩ : S27)]):=⟨_,rfl⟩
     replace H : (impl_RunTrim.l1 k2 true x7_1 y356 x7_1 (x7_1.length : Int) ji71) = some r:=by first | (rw [hy356];with_reducible exact H) | (have H2_:=(Option.bind_some _ _).symm.trans H;rw [hy356];with_reducible exact H2_) | (have H2_:=(Option.bind_some _ _).symm.trans H;with_reducible exact H2_) | with_reducible exact H | (rw [hy356];exact H) | exact H
     have Ny356:=Aside0.mk hy356
     clear hy356
     have H':=Aside0.mk H
     clear H
     have p347 : 0 ≤ (x54_2 : Int):=of_decide_eq_true T11q3
     have q347 : x54_2 < (x7_1.length : Int):=of_decide_eq_true T11q3
     obtain ⟨ad347,e347,hx347_0,hx347_1,hx347_2,hx347_3⟩:=at_T27 (Kd.R_reads' HO_52.out).2.2 x54_2 p347 q347
     (try rw [← Nbq76.out] at hx347_2)
     cases e347
     replace p347:=eq_true p347
     replace q347:=eq_true q347
     try go_wp2_with (first | ((with_reducible refine gate_dst (N:=12) rfl ?_);refine box_event ?hg (N:=12) ?hd (cs:=#[.string (⟨#[]⟩ : ByteArray),.int .i64 0,.bool false,.int .i64 0]) (t:=27) ?hr ?_;(case hd => rfl);(case hg => rfl);(case hr => first | (go_simp;done) | (go_simp;rfl));intro gb348 hg w84 hbox hb;have n0_:=Aside0.mk (Kd.R_below (Kd.R_elderB T11q4 gb348 (Nat.le_of_eq hg.symm)) hb);have n1_:=Aside0.mk (Kd.R_below (Kd.R_elderB T11q7 gb348 (Nat.le_of_eq hg.symm)) hb);have n2_:=Aside0.mk (Kd.R_below (Kd.R_elderB T11q8 gb348 (Nat.le_of_eq hg.symm)) hb);have n3_:=Aside0.mk (below_step (by repeat (first | (with_reducible first | exact HB.out | apply below_alloc | apply pw_below_drewN | apply below_drew1) | exact HB.out)) hb);have n4_:=Aside0.mk (hbox);have n5_:=Aside0.mk ((by rw [hg];exact (below_size (by repeat (first | (with_reducible first | exact HB.out | apply below_alloc | apply pw_below_drewN | apply below_drew1) | exact HB.out))) : w.heap.size ≤ gb348));have n6_:=Aside0.mk ((by rw [hg];exact (below_size (by repeat (first | (with_reducible first | exact HB.out | apply below_alloc | apply pw_below_drewN | apply below_drew1) | exact HB.out))) : w.heap.size ≤ gb348));clear HO_7;clear HO_10;clear HO_52;clear HB;have HO_7:=n0_;have HO_10:=n1_;have HO_52:=n2_;have HB:=n3_;have BK348:=n4_;have GW348:=n5_;have GE348:=n6_;clear n0_ n1_ n2_ n3_ n4_ n5_ n6_;clear hb hbox hg;have hcz85_0 : w84.cell? ⟨gb348,0,none⟩ = some (.string (⟨#[]⟩ : ByteArray)):=(blk_cell BK348.out 0).trans rfl;have hcz85_1 : w84.cell? ⟨gb348,1,none⟩ = some (.int .i64 0):=(blk_cell BK348.out 1).trans rfl;have hcz85_2 : w84.cell? ⟨gb348,2,none⟩ = some (.bool false):=(blk_cell BK348.out 2).trans rfl;have hcz85_3 : w84.cell? ⟨gb348,3,none⟩ = some (.int .i64 0):=(blk_cell BK348.out 3).trans rfl;have hfz85_0:=blk_frozen BK348.out 0;have hfz85_1:=blk_frozen BK348.out 1;have hfz85_2:=blk_frozen BK348.out 2;have hfz85_3:=blk_frozen BK348.out 3))
     have n0_ : Aside0 (Kd.R k27 27 ((((w84.setCell ⟨gb348,0,none⟩ (.string ((rd_T27 x7_1 x54_2).f0))).setCell ⟨gb348,1,none⟩ (.int .i64 ((rd_T27 x7_1 x54_2).f1))).setCell ⟨gb348,2,none⟩ (.bool false)).setCell ⟨gb348,3,none⟩ (.int .i64 ((rd_T27 x7_1 x54_2).f3))) w.heap.size (fun k_ => some k_ ≠ (u10 : Value).ownBlock ∧ k_ ≠ gb348) (.slice (some ad347) x7_1.length co44) x7_1):=⟨by (with_reducible repeat (first | apply Kd.R_alloc | apply Kd.R_drewN | apply Kd.R_drew));exact Kd.R_mono (Kd.R_far (p:=⟨gb348,3,none⟩) (Kd.R_far (p:=⟨gb348,2,none⟩) (Kd.R_far (p:=⟨gb348,1,none⟩) (Kd.R_far (p:=⟨gb348,0,none⟩) (Kd.R_mono HO_7.out (fun k_ hk => (⟨hk,hk.2⟩ : _ ∧ k_ ≠ gb348))) (fun _ hk => hk.2) (.string ((rd_T27 x7_1 x54_2).f0))) (fun _ hk => hk.2) (.int .i64 ((rd_T27 x7_1 x54_2).f1))) (fun _ hk => hk.2) (.bool false)) (fun _ hk => hk.2) (.int .i64 ((rd_T27 x7_1 x54_2).f3))) (fun _ hk => ⟨hk.1.1,hk.1.2⟩)⟩
     have n1_ : Aside0 (Kd.R k27 27 ((((w84.setCell ⟨gb348,0,none⟩ (.string ((rd_T27 x7_1 x54_2).f0))).setCell ⟨gb348,1,none⟩ (.int .i64 ((rd_T27 x7_1 x54_2).f1))).setCell ⟨gb348,2,none⟩ (.bool false)).setCell ⟨gb348,3,none⟩ (.int .i64 ((rd_T27 x7_1 x54_2).f3))) w.heap.size (fun k_ => some k_ ≠ (.slice (some ad347) x7_1.length co44 : Value).ownBlock ∧ some k_ ≠ (.slice (some ad347) x7_1.length co44 : Value).ownBlock ∧ k_ ≠ gb348) u10 x10_2):=⟨by (with_reducible repeat (first | apply Kd.R_alloc | apply Kd.R_drewN | apply Kd.R_drew));exact Kd.R_mono (Kd.R_far (p:=⟨gb348,3,none⟩) (Kd.R_far (p:=⟨gb348,2,none⟩) (Kd.R_far (p:=⟨gb348,1,none⟩) (Kd.R_far (p:=⟨gb348,0,none⟩) (Kd.R_mono HO_10.out (fun k_ hk => (⟨hk,hk.2⟩ : _ ∧ k_ ≠ gb348))) (fun _ hk => hk.2) (.string ((rd_T27 x7_1 x54_2).f0))) (fun _ hk => hk.2) (.int .i64 ((rd_T27 x7_1 x54_2).f1))) (fun _ hk => hk.2) (.bool false)) (fun _ hk => hk.2) (.int .i64 ((rd_T27 x7_1 x54_2).f3))) (fun _ hk => ⟨hk.1.1.1,⟨hk.1.1.2,hk.1.2⟩⟩)⟩
     have n2_ : Aside0 (Kd.R k27 27 ((((w84.setCell ⟨gb348,0,none⟩ (.string ((rd_T27 x7_1 x54_2).f0))).setCell ⟨gb348,1,none⟩ (.int .i64 ((rd_T27 x7_1 x54_2).f1))).setCell ⟨gb348,2,none⟩ (.bool false)).setCell ⟨gb348,3,none⟩ (.int .i64 ((rd_T27 x7_1 x54_2).f3))) w.heap.size (fun k_ => some k_ ≠ (u10 : Value).ownBlock ∧ k_ ≠ gb348) (.slice (some ad347) x7_1.length co44) x7_1):=⟨by (with_reducible repeat (first | apply Kd.R_alloc | apply Kd.R_drewN | apply Kd.R_drew));exact Kd.R_mono (Kd.R_far (p:=⟨gb348,3,none⟩) (Kd.R_far (p:=⟨gb348,2,none⟩) (Kd.R_far (p:=⟨gb348,1,none⟩) (Kd.R_far (p:=⟨gb348,0,none⟩) (Kd.R_mono HO_52.out (fun k_ hk => (⟨hk,hk.2⟩ : _ ∧ k_ ≠ gb348))) (fun _ hk => hk.2) (.string ((rd_T27 x7_1 x54_2).f0))) (fun _ hk => hk.2) (.int .i64 ((rd_T27 x7_1 x54_2).f1))) (fun _ hk => hk.2) (.bool false)) (fun _ hk => hk.2) (.int .i64 ((rd_T27 x7_1 x54_2).f3))) (fun _ hk => ⟨hk.1.1,hk.1.2⟩)⟩
     have n3_ : Aside0 (((((w84.setCell ⟨gb348,0,none⟩ (.string ((rd_T27 x7_1 x54_2).f0))).setCell ⟨gb348,1,none⟩ (.int .i64 ((rd_T27 x7_1 x54_2).f1))).setCell ⟨gb348,2,none⟩ (.bool false)).setCell ⟨gb348,3,none⟩ (.int .i64 ((rd_T27 x7_1 x54_2).f3))).heap[gb348]? = some (.cells #[.string ((rd_T27 x7_1 x54_2).f0),.int .i64 ((rd_T27 x7_1 x54_2).f1),.bool false,.int .i64 ((rd_T27 x7_1 x54_2).f3)] 27 (0,0))):=⟨by (with_reducible repeat (first | refine blk_drewN ?_ _ | refine blk_drew ?_ | refine blk_alloc ?_ _));refine blk_put (cs:=#[.string ((rd_T27 x7_1 x54_2).f0),.int .i64 ((rd_T27 x7_1 x54_2).f1),.bool false,.int .i64 0]) ?_ 3 _ rfl;(with_reducible repeat (first | refine blk_drewN ?_ _ | refine blk_drew ?_ | refine blk_alloc ?_ _));refine blk_put (cs:=#[.string ((rd_T27 x7_1 x54_2).f0),.int .i64 ((rd_T27 x7_1 x54_2).f1),.bool false,.int .i64 0]) ?_ 2 _ rfl;(with_reducible repeat (first | refine blk_drewN ?_ _ | refine blk_drew ?_ | refine blk_alloc ?_ _));refine blk_put (cs:=#[.string ((rd_T27 x7_1 x54_2).f0),.int .i64 0,.bool false,.int .i64 0]) ?_ 1 _ rfl;(with_reducible repeat (first | refine blk_drewN ?_ _ | refine blk_drew ?_ | refine blk_alloc ?_ _));refine blk_put (cs:=#[.string (⟨#[]⟩ : ByteArray),.int .i64 0,.bool false,.int .i64 0]) ?_ 0 _ rfl;(with_reducible repeat (first | refine blk_drewN ?_ _ | refine blk_drew ?_ | refine blk_alloc ?_ _));exact BK348.out⟩
     have n4_ : Aside0 (Below w.heap.size w ((((w84.setCell ⟨gb348,0,none⟩ (.string ((rd_T27 x7_1 x54_2).f0))).setCell ⟨gb348,1,none⟩ (.int .i64 ((rd_T27 x7_1 x54_2).f1))).setCell ⟨gb348,2,none⟩ (.bool false)).setCell ⟨gb348,3,none⟩ (.int .i64 ((rd_T27 x7_1 x54_2).f3)))):=⟨by repeat (first | (with_reducible first | exact HB.out | apply below_alloc | apply pw_below_drewN | apply below_drew1 | refine below_set ?_ GE348.out) | exact HB.out)⟩
     (try clear HO_7)
     (try clear HO_10)
     (try clear HO_52)
     (try clear BK348)
     (try clear HB)
     generalize ((((w84.setCell ⟨gb348,0,none⟩ (.string ((rd_T27 x7_1 x54_2).f0))).setCell ⟨gb348,1,none⟩ (.int .i64 ((rd_T27 x7_1 x54_2).f1))).setCell ⟨gb348,2,none⟩ (.bool false)).setCell ⟨gb348,3,none⟩ (.int .i64 ((rd_T27 x7_1 x54_2).f3))) = w86 at n0_ n1_ n2_ n3_ n4_ ⊢
     have HO_7:=n0_
     have HO_10:=n1_
     have HO_52:=n2_
     have BK348:=n3_
     have HB:=n4_
     clear n0_ n1_ n2_ n3_ n4_
     have n0_:=Aside0.mk (Kd.R_drew HO_7.out)
     have n1_:=Aside0.mk (Kd.R_drew HO_10.out)
     have n2_:=Aside0.mk (Kd.R_drew HO_52.out)
     have n3_:=Aside0.mk (blk_drew BK348.out)
     have n4_:=Aside0.mk (below_drew1 HB.out)
     clear HO_7
     clear HO_10
     clear HO_52
     clear BK348
     clear HB
     have HO_7:=n0_
     have HO_10:=n1_
     have HO_52:=n2_
     have BK348:=n3_
     have HB:=n4_
     clear n0_ n1_ n2_ n3_ n4_
     have p355 : 0 ≤ ((ji71) : Int):=of_decide_eq_true T11q3
     have q355 : (ji71) < (x7_1.length : Int):=of_decide_eq_true T11q3
     obtain ⟨ad355,e355,hx355_0,hx355_1,hx355_2,hx355_3⟩:=at_T27 (Kd.R_reads' HO_7.out).2.2 (ji71) p355 q355
     (try rw [← Nbq76.out] at hx355_2)
     obtain rfl : ad347 = ad355:=(by injection e355)
     replace p355:=eq_true p355
     replace q355:=eq_true q355
     refine start_ (n:=17) (S:=fun w' => w'.cell? ⟨gb348,0,none⟩ = some (.string ((rd_T27 x7_1 x54_2).f0)) ∧ w'.cell? ⟨gb348,1,none⟩ = some (.int .i64 ((rd_T27 x7_1 x54_2).f1)) ∧ w'.cell? ⟨gb348,2,none⟩ = some (.bool false) ∧ w'.cell? ⟨gb348,3,none⟩ = some (.int .i64 ((rd_T27 x7_1 x54_2).f3)) ∧ w'.cell? (ad347.add (((ji71)).toNat * 4)) = some (.string ((rd_T27 x7_1 (ji71)).f0)) ∧ w'.cell? ⟨(ad347.add (((ji71)).toNat * 4)).block,(ad347.add (((ji71)).toNat * 4)).off + 1,none⟩ = some (.int .i64 ((rd_T27 x7_1 (ji71)).f1)) ∧ w'.cell? ⟨(ad347.add (((ji71)).toNat * 4)).block,(ad347.add (((ji71)).toNat * 4)).off + 2,none⟩ = some (.bool ((rd_T27 x7_1 (ji71)).f2)) ∧ w'.cell? ⟨(ad347.add (((ji71)).toNat * 4)).block,(ad347.add (((ji71)).toNat * 4)).off + 3,none⟩ = some (.int .i64 ((rd_T27 x7_1 (ji71)).f3))) (ds:=[]) #[false,false,false,false,false,false,false,false,false,false,false,false,false,false,false,false,false] T11q1 rfl rfl ⟨(blk_cell BK348.out 0).trans rfl,(blk_cell BK348.out 1).trans rfl,(blk_cell BK348.out 2).trans rfl,(blk_cell BK348.out 3).trans rfl,hx355_0,hx355_1,hx355_2,hx355_3⟩ (fun hHeld => ?_);refine with_tabW impl_RunTrim.tab14 impl_RunTrim.bits14 (fun HT_ HW_ => ?_)
     generalize w86.drew = w87 at HO_7 HO_10 HO_52 BK348 HB hx355_0 hx355_1 hx355_2 hx355_3 hHeld ⊢
     refine pm_ (i:=0) (N:=some 59) (v:=?_) (a':=?_) rfl rfl (any_of HT_.out T11q1) (fun _ _ _ h => h) (Or.inl ⟨by rfl,?_⟩) ?_ ?_
     rotate_left
     ·intro w'
      go_simp
      with_reducible rfl
     rotate_left
     ·simp only [PU]
      rfl
     refine pm_ (i:=1) (N:=some 60) (v:=?_) (a':=?_) rfl rfl (any_of HT_.out T11q1) (fun _ _ _ h => h) (Or.inl ⟨by rfl,?_⟩) ?_ ?_
     rotate_left
     ·intro w'
      go_simp
      with_reducible rfl
     rotate_left
     ·simp only [PU]
      rfl
     refine pm_ (i:=2) (N:=some 61) (v:=?_) (a':=?_) rfl rfl (any_of HT_.out T11q1) (fun _ _ _ h => h) (Or.inl ⟨by rfl,?_⟩) ?_ ?_
     rotate_left
     ·intro w'
      go_simp
      with_reducible rfl
     rotate_left
     ·simp only [PU]
      rfl
     refine pm_ (i:=3) (N:=some 62) (v:=?_) (a':=?_) rfl rfl (any_of HT_.out T11q1) (fun _ _ _ h => h) (Or.inl ⟨by rfl,?_⟩) ?_ ?_
     rotate_left
     ·intro w'
      go_simp
      with_reducible rfl
     rotate_left
     ·simp only [PU]
      rfl
     refine pm_ (i:=4) (N:=some 63) (v:=?_) (a':=?_) rfl rfl (any_of HT_.out T11q1) (fun _ _ _ h => h) (Or.inl ⟨by rfl,?_⟩) ?_ ?_
     rotate_left
     ·intro w'
      go_simp
      with_reducible rfl
     rotate_left
     ·simp only [PU]
      rfl
     refine pm_ (i:=5) (N:=some 64) (v:=?_) (a':=?_) rfl rfl (any_of HT_.out T11q1) (fun _ _ _ h => h) (Or.inl ⟨by rfl,?_⟩) ?_ ?_
     rotate_left
     ·intro w'
      go_simp
      with_reducible rfl
     rotate_left
     ·simp only [PU]
      rfl
     refine pm_ (i:=6) (N:=some 65) (v:=?_) (a':=?_) rfl rfl (any_of HT_.out T11q1) (fun _ _ _ h => h) (Or.inl ⟨by rfl,?_⟩) ?_ ?_
     rotate_left
     ·intro w'
      go_simp
      with_reducible rfl
     rotate_left
     ·simp only [PU]
      rfl
     refine pm_ (i:=7) (N:=some 66) (v:=?_) (a':=?_) rfl rfl (any_of HT_.out T11q1) (fun _ _ _ h => h) (Or.inl ⟨by rfl,?_⟩) ?_ ?_
     rotate_left
     ·intro w'
      go_simp
      with_reducible rfl
     rotate_left
     ·simp only [PU]
      rfl
     refine pm_ (i:=8) (N:=some 67) (v:=?_) (a':=?_) rfl rfl (any_of HT_.out T11q1) (fun _ _ _ h => h) (Or.inl ⟨by rfl,?_⟩) ?_ ?_
     rotate_left
     ·intro w'
      go_simp
      with_reducible rfl
     rotate_left
     ·simp only [PU]
      rfl
     refine pm_ (i:=9) (N:=some 68) (v:=?_) (a':=?_) rfl rfl (any_of HT_.out T11q1) (fun _ _ _ h => h) (Or.inl ⟨by rfl,?_⟩) ?_ ?_
     rotate_left
     ·intro w'
      go_simp
      with_reducible rfl
     rotate_left
     ·simp only [PU]
      rfl
     refine pm_ (i:=10) (N:=some 69) (v:=?_) (a':=?_) rfl rfl (any_of HT_.out T11q1) (fun _ _ _ h => h) (Or.inl ⟨by rfl,?_⟩) ?_ ?_
     rotate_left
     ·intro w'
      go_simp
      with_reducible rfl
     rotate_left
     ·simp only [PU]
      rfl
     refine pm_ (i:=12) (N:=some 71) (v:=?_) (a':=?_) rfl rfl (any_of HT_.out T11q1) (fun _ _ _ h => h) (Or.inl ⟨by rfl,?_⟩) ?_ ?_
     rotate_left
     ·intro w'
      go_simp
      with_reducible rfl
     rotate_left
     ·simp only [PU]
      rfl
     refine tm_ (i:=11) (N:=some 70) (v:=?_) (a':=?_) rfl rfl (take_ofW HT_.out HW_.out T11q1) (fun _ _ _ h => h) (Or.inl ⟨by rfl,?_⟩) hHeld ?_ ?_
     rotate_left
     ·rintro w' ⟨s0,s1,s2,s3,s4,s5,s6,s7⟩
      go_simp
      with_reducible rfl
     rotate_left
     ·simp only [PU]
      rfl
     refine tm_ (i:=13) (N:=some 72) (v:=?_) (a':=?_) rfl rfl (take_ofW HT_.out HW_.out T11q1) (fun _ _ _ h => h) (Or.inl ⟨by rfl,?_⟩) hHeld ?_ ?_
     rotate_left
     ·rintro w' ⟨s0,s1,s2,s3,s4,s5,s6,s7⟩
      go_simp
      with_reducible rfl
     rotate_left
     ·simp only [PU]
      rfl
     refine pm_ (i:=14) (N:=some 73) (v:=?_) (a':=?_) rfl rfl (any_of HT_.out T11q1) (fun _ _ _ h => h) (Or.inl ⟨by rfl,?_⟩) ?_ ?_
     rotate_left
     ·intro w'
      go_simp
      with_reducible rfl
     rotate_left
     ·simp only [PU]
      rfl
     refine pm_ (i:=15) (N:=some 74) (v:=?_) (a':=?_) rfl rfl (any_of HT_.out T11q1) (fun _ _ _ h => h) (Or.inl ⟨by rfl,?_⟩) ?_ ?_
     rotate_left
     ·intro w'
      go_simp
      with_reducible rfl
     rotate_left
     ·simp only [PU]
      rfl
     refine pm_ (i:=16) (N:=some 13) (v:=?_) (a':=?_) rfl rfl (any_of HT_.out T11q1) (fun _ _ _ h => h) (Or.inl ⟨by rfl,?_⟩) ?_ ?_
     rotate_left
     ·intro w'
      go_simp
      with_reducible rfl
     rotate_left
     ·simp only [PU]
      rfl
     refine done_ (done_of HT_.out T11q1) ?_
     have hcz88_0 : w87.cell? ⟨gb348,0,none⟩ = some (.string ((rd_T27 x7_1 x54_2).f0)):=(blk_cell BK348.out 0).trans rfl
     have hcz88_1 : w87.cell? ⟨gb348,1,none⟩ = some (.int .i64 ((rd_T27 x7_1 x54_2).f1)):=(blk_cell BK348.out 1).trans rfl
     have hcz88_2 : w87.cell? ⟨gb348,2,none⟩ = some (.bool false):=(blk_cell BK348.out 2).trans rfl
     have hcz88_3 : w87.cell? ⟨gb348,3,none⟩ = some (.int .i64 ((rd_T27 x7_1 x54_2).f3)):=(blk_cell BK348.out 3).trans rfl
     have hfz88_0:=blk_frozen BK348.out 0
     have hfz88_1:=blk_frozen BK348.out 1
     have hfz88_2:=blk_frozen BK348.out 2
     have hfz88_3:=blk_frozen BK348.out 3
     try go_wp2_with (first | ((with_reducible refine gate_builtin (b:=.append) (xs:=#[.tmp 86,.tmp 88]) rfl ?_);at_builtin;refine Kd.R_append k27 (w0:=w) w.heap.size rfl (.tmp 86) (.tmp 88) 23 27 (.agg #[(.string ⟨#[]⟩),(.int .i64 0),(.bool false),(.int .i64 0)]) 40 rfl Try.underlying23 info27 rfl (by decide) (by omega) u10 x10_2 (⟨(rd_T27 x7_1 x54_2).f0,(rd_T27 x7_1 x54_2).f1,false,(rd_T27 x7_1 x54_2).f3⟩ : S27) [.string ((rd_T27 x7_1 x54_2).f0),.int .i64 ((rd_T27 x7_1 x54_2).f1),.bool false,.int .i64 ((rd_T27 x7_1 x54_2).f3)] (fun k_ => some k_ ≠ (.slice (some ad347) x7_1.length co44 : Value).ownBlock ∧ some k_ ≠ (.slice (some ad347) x7_1.length co44 : Value).ownBlock ∧ k_ ≠ gb348) (fun _ => False) rfl rfl ?aP (fun _ hk => hk.elim) ?aF ?aO ?aB ?aS ?aL ?_;(case aP => exact k27_mkM _ _ _ (⟨(rd_T27 x7_1 x54_2).f0,(rd_T27 x7_1 x54_2).f1,false,(rd_T27 x7_1 x54_2).f3⟩ : S27));(case aB => exact (by repeat (first | (with_reducible first | exact HB.out | apply below_alloc | apply pw_below_drewN | apply below_drew1 | refine below_set ?_ GE348.out) | exact HB.out)));(case aF => exact (fun k_ hk => ⟨Kd.fresh' (Kd.R_lt T11q4) k_ hk,Kd.fresh' (Kd.R_lt T11q8) k_ hk,Kd.freshB (g:=gb348) (o:=.cells #[.string ((rd_T27 x7_1 x54_2).f0),.int .i64 ((rd_T27 x7_1 x54_2).f1),.bool false,.int .i64 ((rd_T27 x7_1 x54_2).f3)] 27 (0,0)) T11q9 k_ hk⟩));(case aO => exact T11q7);(case aS => exact (below_size (by repeat (first | (with_reducible first | exact HB.out | apply below_alloc | apply pw_below_drewN | apply below_drew1 | refine below_set ?_ GE348.out) | exact HB.out))));(case aL => have:=LMc83.out;omega);intro v357 w89 ho hb hg hat;rw [← Ny356.out] at ho;have n0_:=Aside0.mk (Kd.R_after (ok:=(fun k_ => k_ ≠ gb348)) T11q10 hg hat);have n1_:=Aside0.mk (Kd.R_after (ok:=(fun k_ => k_ ≠ gb348)) T11q11 hg hat);have n2_:=Aside0.mk (blk_grown (g:=gb348) (o:=.cells #[.string ((rd_T27 x7_1 x54_2).f0),.int .i64 ((rd_T27 x7_1 x54_2).f1),.bool false,.int .i64 ((rd_T27 x7_1 x54_2).f3)] 27 (0,0)) T11q9 hg (Kd.R_away HO_10.out (fun _ hk => hk.2.2)));have n3_:=Aside0.mk (hb);have n4_:=Aside0.mk (ho);clear HO_7;clear HO_52;clear BK348;clear HB;clear HO_10;have HO_7:=n0_;have HO_52:=n1_;have BK348:=n2_;have HB:=n3_;have HO358:=n4_;clear n0_ n1_ n2_ n3_ n4_;clear ho hb hg hat))
     go_roundg k2
     case measure => have:=HK1.out;have:=HK2.out;omega
     case rel => exact ⟨(y356),(ji71),(by first | rfl | (simp;done) | (simp only [← hji71] <;> (first | rfl | simp)) | (simp [*];done)),H',⟨by have:=HK1.out;have:=HK2.out;omega⟩,⟨by (with_reducible repeat (first | apply Kd.R_alloc | apply Kd.R_drewN | apply Kd.R_drew));exact Kd.R_mono HO_7.out (fun _ hk => hk.2)⟩,⟨by (with_reducible repeat (first | apply Kd.R_alloc | apply Kd.R_drewN | apply Kd.R_drew));exact Kd.R_mono HO358.out (fun _ hk => ⟨hk.1,hk.2.1⟩)⟩,⟨by (with_reducible repeat (first | apply Kd.R_alloc | apply Kd.R_drewN | apply Kd.R_drew));exact Kd.R_mono HO_52.out (fun _ hk => hk.2)⟩,⟨by repeat (first | (with_reducible first | exact HB.out | apply below_alloc | apply pw_below_drewN | apply below_drew1 | refine below_set ?_ GE348.out) | exact HB.out)⟩⟩
end Go.Proofs.Ytkifijclehgiaaa.PFnRunTrimTop
